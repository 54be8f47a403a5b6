-- Written for this claim by this session's own program (wip/pp).
import Derived.Test.YtdgegoefehmfmaaQScratchBestx0
namespace Go.Proofs.Ytdgegoefehmfmaa.QScratchBest
open Go.RowKit Go.Proofs.YtdgegoefehmfmaaW.PrintWords Go.Proofs.YtdgegoefehmfmaaW.PrintLast Go.Proofs.YtdgegoefehmfmaaW.PrintMore
attribute [local go_sem] max2_int min2_int max_two min_two max_three min_three max_four min_four   -- for this text's walks alone
set_option linter.unusedVariables false
set_option linter.unusedSimpArgs false

/-! ### timeboundref36_Valid: function 35 -/
mutual
def timeboundref36_Valid.l0 : Nat → List (S76) → List (S76) → Int → Int → Option (Bool)
  | 0, _, _, _, _ => none
  | k + 1, x0, x8, x9, x10 => if x10 < x9 then (if 0 ≤ x10 then (if x10 < (x8.length : Int) then (if (rd_T76 x8 x10).f0 = true then (timeboundref36_Valid.j1 k x0 x10 1024 x8 x9 x10 ((rd_T76 x8 x10).f0) ((rd_T76 x8 x10).f1.f0) ((rd_T76 x8 x10).f1.f1) ((rd_T76 x8 x10).f2) ((rd_T76 x8 x10).f3)) else (timeboundref36_Valid.j1 k x0 x10 1024 x8 x9 x10 ((rd_T76 x8 x10).f0) ((rd_T76 x8 x10).f1.f0) ((rd_T76 x8 x10).f1.f1) ((rd_T76 x8 x10).f2) ((rd_T76 x8 x10).f3))) else (none)) else (none)) else (some (decide ((x0.length : Int) ≤ 10)))
def timeboundref36_Valid.j1 : Nat → List (S76) → Int → Int → List (S76) → Int → Int → Bool → Int → Int → Int → Int → Option (Bool)
  | 0, _, _, _, _, _, _, _, _, _, _, _ => none
  | k + 1, x0, x3, x5, x8, x9, x10, x197000, x197001, x197002, x197003, x197004 => if x197001 < 0 then (timeboundref36_Valid.j2 k x0 x3 x8 x9 x10 true x197000 x197001 x197002 x197003 x197004) else (if x197002 ≤ x197001 then (timeboundref36_Valid.j2 k x0 x3 x8 x9 x10 true x197000 x197001 x197002 x197003 x197004) else (if x197002 > x5 then (timeboundref36_Valid.j2 k x0 x3 x8 x9 x10 true x197000 x197001 x197002 x197003 x197004) else (if x197003 = (wrap64 (x197002 - x197001)) then (if x197004 < 0 then (timeboundref36_Valid.j2 k x0 x3 x8 x9 x10 true x197000 x197001 x197002 x197003 x197004) else (timeboundref36_Valid.j2 k x0 x3 x8 x9 x10 (decide (x197004 > 1099511627776)) x197000 x197001 x197002 x197003 x197004)) else (timeboundref36_Valid.j2 k x0 x3 x8 x9 x10 true x197000 x197001 x197002 x197003 x197004))))
def timeboundref36_Valid.j2 : Nat → List (S76) → Int → List (S76) → Int → Int → Bool → Bool → Int → Int → Int → Int → Option (Bool)
  | 0, _, _, _, _, _, _, _, _, _, _, _ => none
  | k + 1, x0, x3, x8, x9, x10, x58, x197000, x197001, x197002, x197003, x197004 => if x58 = true then (some false) else (if 0 ≤ x3 then (if x3 ≤ (x0.length : Int) then ((some (x0.take (x3 : Int).toNat : List (S76))).bind fun y197 => (timeboundref36_Valid.l1 k x0 x8 x9 x10 y197 (y197.length : Int) 0 x197000 x197001 x197002 x197003 x197004)) else (none)) else (none))
def timeboundref36_Valid.l1 : Nat → List (S76) → List (S76) → Int → Int → List (S76) → Int → Int → Bool → Int → Int → Int → Int → Option (Bool)
  | 0, _, _, _, _, _, _, _, _, _, _, _, _ => none
  | k + 1, x0, x8, x9, x10, x61, x62, x63, x197000, x197001, x197002, x197003, x197004 => if x63 < x62 then (if 0 ≤ x63 then (if x63 < (x61.length : Int) then (if (x197000 == ((rd_T76 x61 x63).f0)) = true then (if x197001 < ((rd_T76 x61 x63).f1.f1) then (if ((rd_T76 x61 x63).f1.f0) < x197002 then (some false) else (timeboundref36_Valid.l1 k x0 x8 x9 x10 x61 x62 (wrap64 (x63 + 1)) x197000 x197001 x197002 x197003 x197004)) else (timeboundref36_Valid.l1 k x0 x8 x9 x10 x61 x62 (wrap64 (x63 + 1)) x197000 x197001 x197002 x197003 x197004)) else (timeboundref36_Valid.l1 k x0 x8 x9 x10 x61 x62 (wrap64 (x63 + 1)) x197000 x197001 x197002 x197003 x197004)) else (none)) else (none)) else (timeboundref36_Valid.l0 k x0 x8 x9 (wrap64 (x10 + 1)))
end
def timeboundref36_Valid.f (k : Nat) (l0 : List (S76)) : Option (Bool) := timeboundref36_Valid.l0 k l0 l0 (l0.length : Int) 0
theorem timeboundref36_Valid.mono_l : ∀ k, (∀ y0 y1 y2 y3, LeO (timeboundref36_Valid.l0 k y0 y1 y2 y3) (timeboundref36_Valid.l0 (k + 1) y0 y1 y2 y3)) ∧ (∀ y0 y1 y2 y3 y4 y5 y6 y7 y8 y9 y10, LeO (timeboundref36_Valid.j1 k y0 y1 y2 y3 y4 y5 y6 y7 y8 y9 y10) (timeboundref36_Valid.j1 (k + 1) y0 y1 y2 y3 y4 y5 y6 y7 y8 y9 y10)) ∧ (∀ y0 y1 y2 y3 y4 y5 y6 y7 y8 y9 y10, LeO (timeboundref36_Valid.j2 k y0 y1 y2 y3 y4 y5 y6 y7 y8 y9 y10) (timeboundref36_Valid.j2 (k + 1) y0 y1 y2 y3 y4 y5 y6 y7 y8 y9 y10)) ∧ (∀ y0 y1 y2 y3 y4 y5 y6 y7 y8 y9 y10 y11, LeO (timeboundref36_Valid.l1 k y0 y1 y2 y3 y4 y5 y6 y7 y8 y9 y10 y11) (timeboundref36_Valid.l1 (k + 1) y0 y1 y2 y3 y4 y5 y6 y7 y8 y9 y10 y11))
  | 0 => ⟨fun _ _ _ _ r h => by simp [timeboundref36_Valid.l0] at h, fun _ _ _ _ _ _ _ _ _ _ _ r h => by simp [timeboundref36_Valid.j1] at h, fun _ _ _ _ _ _ _ _ _ _ _ r h => by simp [timeboundref36_Valid.j2] at h, fun _ _ _ _ _ _ _ _ _ _ _ _ r h => by simp [timeboundref36_Valid.l1] at h⟩
  | k + 1 => by
    obtain ⟨ih0, ih1, ih2, ih3⟩ := timeboundref36_Valid.mono_l k
    refine ⟨?_, ?_, ?_, ?_⟩
    · intro y0 y1 y2 y3
      unfold timeboundref36_Valid.l0
      repeat' first
      | (with_reducible exact ih0 _ _ _ _)
      | (with_reducible exact ih1 _ _ _ _ _ _ _ _ _ _ _)
      | (with_reducible exact ih2 _ _ _ _ _ _ _ _ _ _ _)
      | (with_reducible exact ih3 _ _ _ _ _ _ _ _ _ _ _ _)
      | (with_reducible exact LeO.refl _)
      | (with_reducible exact LeO.none _)
      | (with_reducible refine LeO.ite ?_ ?_)
      | (with_reducible refine LeO.bind ?_ (fun _ => ?_))
      | exact ih0 _ _ _ _
      | exact ih1 _ _ _ _ _ _ _ _ _ _ _
      | exact ih2 _ _ _ _ _ _ _ _ _ _ _
      | exact ih3 _ _ _ _ _ _ _ _ _ _ _ _
      | exact LeO.none _
      | refine LeO.ite ?_ ?_
      | refine LeO.bind ?_ (fun _ => ?_)
    · intro y0 y1 y2 y3 y4 y5 y6 y7 y8 y9 y10
      unfold timeboundref36_Valid.j1
      repeat' first
      | (with_reducible exact ih0 _ _ _ _)
      | (with_reducible exact ih1 _ _ _ _ _ _ _ _ _ _ _)
      | (with_reducible exact ih2 _ _ _ _ _ _ _ _ _ _ _)
      | (with_reducible exact ih3 _ _ _ _ _ _ _ _ _ _ _ _)
      | (with_reducible exact LeO.refl _)
      | (with_reducible exact LeO.none _)
      | (with_reducible refine LeO.ite ?_ ?_)
      | (with_reducible refine LeO.bind ?_ (fun _ => ?_))
      | exact ih0 _ _ _ _
      | exact ih1 _ _ _ _ _ _ _ _ _ _ _
      | exact ih2 _ _ _ _ _ _ _ _ _ _ _
      | exact ih3 _ _ _ _ _ _ _ _ _ _ _ _
      | exact LeO.none _
      | refine LeO.ite ?_ ?_
      | refine LeO.bind ?_ (fun _ => ?_)
    · intro y0 y1 y2 y3 y4 y5 y6 y7 y8 y9 y10
      unfold timeboundref36_Valid.j2
      repeat' first
      | (with_reducible exact ih0 _ _ _ _)
      | (with_reducible exact ih1 _ _ _ _ _ _ _ _ _ _ _)
      | (with_reducible exact ih2 _ _ _ _ _ _ _ _ _ _ _)
      | (with_reducible exact ih3 _ _ _ _ _ _ _ _ _ _ _ _)
      | (with_reducible exact LeO.refl _)
      | (with_reducible exact LeO.none _)
      | (with_reducible refine LeO.ite ?_ ?_)
      | (with_reducible refine LeO.bind ?_ (fun _ => ?_))
      | exact ih0 _ _ _ _
      | exact ih1 _ _ _ _ _ _ _ _ _ _ _
      | exact ih2 _ _ _ _ _ _ _ _ _ _ _
      | exact ih3 _ _ _ _ _ _ _ _ _ _ _ _
      | exact LeO.none _
      | refine LeO.ite ?_ ?_
      | refine LeO.bind ?_ (fun _ => ?_)
    · intro y0 y1 y2 y3 y4 y5 y6 y7 y8 y9 y10 y11
      unfold timeboundref36_Valid.l1
      repeat' first
      | (with_reducible exact ih0 _ _ _ _)
      | (with_reducible exact ih1 _ _ _ _ _ _ _ _ _ _ _)
      | (with_reducible exact ih2 _ _ _ _ _ _ _ _ _ _ _)
      | (with_reducible exact ih3 _ _ _ _ _ _ _ _ _ _ _ _)
      | (with_reducible exact LeO.refl _)
      | (with_reducible exact LeO.none _)
      | (with_reducible refine LeO.ite ?_ ?_)
      | (with_reducible refine LeO.bind ?_ (fun _ => ?_))
      | exact ih0 _ _ _ _
      | exact ih1 _ _ _ _ _ _ _ _ _ _ _
      | exact ih2 _ _ _ _ _ _ _ _ _ _ _
      | exact ih3 _ _ _ _ _ _ _ _ _ _ _ _
      | exact LeO.none _
      | refine LeO.ite ?_ ?_
      | refine LeO.bind ?_ (fun _ => ?_)
theorem timeboundref36_Valid.mono : ∀ a0 k, LeO (timeboundref36_Valid.f k a0) (timeboundref36_Valid.f (k + 1) a0) := by
  intro a0 k
  obtain ⟨ih0, ih1, ih2, ih3⟩ := timeboundref36_Valid.mono_l k
  unfold timeboundref36_Valid.f
  repeat' first
      | (with_reducible exact ih0 _ _ _ _)
      | (with_reducible exact ih1 _ _ _ _ _ _ _ _ _ _ _)
      | (with_reducible exact ih2 _ _ _ _ _ _ _ _ _ _ _)
      | (with_reducible exact ih3 _ _ _ _ _ _ _ _ _ _ _ _)
      | (with_reducible exact LeO.refl _)
      | (with_reducible exact LeO.none _)
      | (with_reducible refine LeO.ite ?_ ?_)
      | (with_reducible refine LeO.bind ?_ (fun _ => ?_))
      | exact ih0 _ _ _ _
      | exact ih1 _ _ _ _ _ _ _ _ _ _ _
      | exact ih2 _ _ _ _ _ _ _ _ _ _ _
      | exact ih3 _ _ _ _ _ _ _ _ _ _ _ _
      | exact LeO.none _
      | refine LeO.ite ?_ ?_
      | refine LeO.bind ?_ (fun _ => ?_)
set_option maxHeartbeats 8000000 in
set_option maxRecDepth 100000 in
theorem timeboundref36_Valid.calls (k : Nat) (A0 : Option Addr) (c0 : Nat) (l0 : List (S76)) (r : Bool) (w : World) (hr0 : Kd.C k76 w A0 l0.length l0) (hc0 : l0.length ≤ c0) (h : timeboundref36_Valid.f k l0 = some r) :
    Calls Try.prog 35 #[.slice A0 l0.length c0] w fun e w' => e = .returned (.bool r) ∧ Below w.heap.size w w' := by
  have hu76 := Try.underlying76
  have HR0 := Aside0.mk hr0
  have HC0 := Aside0.mk hc0
  clear hr0 hc0
  have HB := Aside0.mk (Below.refl w.heap.size w)
  have H : (timeboundref36_Valid.l0 k l0 l0 (l0.length : Int) 0) = some r := h
  clear h
  have H' := Aside0.mk H
  clear H
  go_enter Try.func35, Try.ntmps35
  go_wp2
  go_loopg [10] k (fun kq v10 w' => ∃ (x10_1 : Int), v10 = .int .i64 x10_1 ∧ Aside0 (timeboundref36_Valid.l0 kq l0 l0 (l0.length : Int) x10_1 = some r) ∧ Aside0 (kq ≤ k) ∧ Aside0 (Below w.heap.size w w'))
  case atStart => exact ⟨(0), (by first | rfl | (simp; done) | (simp [*]; done)), H', ⟨Nat.le_refl _⟩, ⟨by repeat (first | (with_reducible first | exact HB.out | apply below_alloc | apply pw_below_drewN | apply below_drew1) | exact HB.out)⟩⟩
  case round =>
    clear H'
    obtain ⟨x10_1, rfl, HA, HK1, HB⟩ := hrel
    cases gk with
    | zero => exact absurd HA.out (by simp [timeboundref36_Valid.l0])
    | succ k1 =>
      have H := HA.out
      clear HA
      simp only [timeboundref36_Valid.l0] at H
      by_cases c2 : x10_1 < (l0.length : Int)
      · rw [if_pos c2] at H
        have c2b0 : decide (x10_1 < (l0.length : Int)) = true := decide_eq_true c2
        clear c2
        by_cases c3 : 0 ≤ x10_1
        · rw [if_pos c3] at H
          have c3b0 : decide (0 ≤ x10_1) = true := decide_eq_true c3
          clear c3
          by_cases c4 : x10_1 < (l0.length : Int)
          · rw [if_pos c4] at H
            have c4b0 : decide (x10_1 < (l0.length : Int)) = true := decide_eq_true c4
            clear c4
            have HC5 := Aside0.mk H
            clear H
            have p195 : 0 ≤ (x10_1 : Int) := of_decide_eq_true (by first | (with_reducible assumption) | assumption)
            have q195 : x10_1 < (l0.length : Int) := of_decide_eq_true (by first | (with_reducible assumption) | assumption)
            obtain ⟨ad195, e195, hx195_0, hx195_1, hx195_2, hx195_3, hx195_4⟩ := at_T76 HR0.out x10_1 p195 q195
            cases e195
            replace hx195_0 := (HB.out.cell (World.block_lt_of_cell? w _ hx195_0)).trans hx195_0
            replace hx195_1 := (HB.out.cell (World.block_lt_of_cell? w _ hx195_1)).trans hx195_1
            replace hx195_2 := (HB.out.cell (World.block_lt_of_cell? w _ hx195_2)).trans hx195_2
            replace hx195_3 := (HB.out.cell (World.block_lt_of_cell? w _ hx195_3)).trans hx195_3
            replace hx195_4 := (HB.out.cell (World.block_lt_of_cell? w _ hx195_4)).trans hx195_4
            replace p195 := eq_true p195
            replace q195 := eq_true q195
            go_upto_if 16 with (first | ((with_reducible refine gate_dst (N := 4) rfl ?_); refine box_event ?hg (N := 4) ?hd (cs := #[.bool false, .int .i64 0, .int .i64 0, .int .i64 0, .int .i64 0]) (t := 76) ?hr ?_; (case hd => rfl); (case hg => rfl); (case hr => first | (go_simp; done) | (go_simp; rfl)); intro gb196 hg w6 hbox hb; have n0_ := Aside0.mk (below_step (by repeat (first | (with_reducible first | exact HB.out | apply below_alloc | apply pw_below_drewN | apply below_drew1) | exact HB.out)) hb); have n1_ := Aside0.mk (hbox); have n2_ := Aside0.mk ((by rw [hg]; exact (below_size (by repeat (first | (with_reducible first | exact HB.out | apply below_alloc | apply pw_below_drewN | apply below_drew1) | exact HB.out))) : w.heap.size ≤ gb196)); have n3_ := Aside0.mk ((by rw [hg]; exact (below_size (by repeat (first | (with_reducible first | exact HB.out | apply below_alloc | apply pw_below_drewN | apply below_drew1) | exact HB.out))) : w.heap.size ≤ gb196)); clear HB; have HB := n0_; have BK196 := n1_; have GW196 := n2_; have GE196 := n3_; clear n0_ n1_ n2_ n3_; clear hb hbox hg; have hcz7_0 : w6.cell? ⟨gb196, 0, none⟩ = some (.bool false) := (blk_cell BK196.out 0).trans rfl; have hcz7_1 : w6.cell? ⟨gb196, 1, none⟩ = some (.int .i64 0) := (blk_cell BK196.out 1).trans rfl; have hcz7_2 : w6.cell? ⟨gb196, 2, none⟩ = some (.int .i64 0) := (blk_cell BK196.out 2).trans rfl; have hcz7_3 : w6.cell? ⟨gb196, 3, none⟩ = some (.int .i64 0) := (blk_cell BK196.out 3).trans rfl; have hcz7_4 : w6.cell? ⟨gb196, 4, none⟩ = some (.int .i64 0) := (blk_cell BK196.out 4).trans rfl; have hfz7_0 := blk_frozen BK196.out 0; have hfz7_1 := blk_frozen BK196.out 1; have hfz7_2 := blk_frozen BK196.out 2; have hfz7_3 := blk_frozen BK196.out 3; have hfz7_4 := blk_frozen BK196.out 4))
            (try simp only [Act.put, List.setIfInBounds_toArray, List.set_cons_zero, List.set_cons_succ])
            go_cut [5] (fun v5 wc => ∃ (kq : Nat) (x5_4 : Int), v5 = .int .i64 x5_4 ∧ Aside0 (timeboundref36_Valid.j1 kq l0 x10_1 x5_4 l0 (l0.length : Int) x10_1 ((rd_T76 l0 x10_1).f0) ((rd_T76 l0 x10_1).f1.f0) ((rd_T76 l0 x10_1).f1.f1) ((rd_T76 l0 x10_1).f2) ((rd_T76 l0 x10_1).f3) = some r) ∧ Aside0 (kq ≤ k1) ∧ Aside0 (wc.heap[gb196]? = some (.cells #[.bool ((rd_T76 l0 x10_1).f0), .int .i64 ((rd_T76 l0 x10_1).f1.f0), .int .i64 ((rd_T76 l0 x10_1).f1.f1), .int .i64 ((rd_T76 l0 x10_1).f2), .int .i64 ((rd_T76 l0 x10_1).f3)] 76 (0, 0))) ∧ Aside0 (Below w.heap.size w wc))
            case first =>
              have H := HC5.out
              clear HC5
              obtain ⟨bq8, hbq8⟩ : ∃ b_ : Bool, b_ = ((rd_T76 l0 x10_1).f0) := ⟨_, rfl⟩
              replace H : (if bq8 = true then (timeboundref36_Valid.j1 k1 l0 x10_1 1024 l0 (l0.length : Int) x10_1 bq8 ((rd_T76 l0 x10_1).f1.f0) ((rd_T76 l0 x10_1).f1.f1) ((rd_T76 l0 x10_1).f2) ((rd_T76 l0 x10_1).f3)) else (timeboundref36_Valid.j1 k1 l0 x10_1 1024 l0 (l0.length : Int) x10_1 bq8 ((rd_T76 l0 x10_1).f1.f0) ((rd_T76 l0 x10_1).f1.f1) ((rd_T76 l0 x10_1).f2) ((rd_T76 l0 x10_1).f3))) = some r := by rw [← hbq8] at H; exact H
              have Nbq8 := Aside0.mk hbq8
              clear hbq8
              (try rw [← Nbq8.out])
              by_cases c9 : bq8 = true
              · subst c9
                have H1 : (timeboundref36_Valid.j1 k1 l0 x10_1 1024 l0 (l0.length : Int) x10_1 true ((rd_T76 l0 x10_1).f1.f0) ((rd_T76 l0 x10_1).f1.f1) ((rd_T76 l0 x10_1).f2) ((rd_T76 l0 x10_1).f3)) = some r := by rw [if_pos rfl] at H; exact H
                clear H
                have H := H1
                clear H1
                have H' := Aside0.mk H
                clear H
                go_wp2
                go_meet
                case rel => (try rw [← Nbq8.out]); exact ⟨_, (1024), (by first | rfl | (simp; done) | (simp [*]; done)), H', ⟨by have := HK1.out; first | omega | exact Nat.le_refl _⟩, ⟨by (with_reducible repeat (first | refine blk_drewN ?_ _ | refine blk_drew ?_ | refine blk_alloc ?_ _)); refine blk_put (cs := #[.bool (true), .int .i64 ((rd_T76 l0 x10_1).f1.f0), .int .i64 ((rd_T76 l0 x10_1).f1.f1), .int .i64 ((rd_T76 l0 x10_1).f2), .int .i64 0]) ?_ 4 _ rfl; (with_reducible repeat (first | refine blk_drewN ?_ _ | refine blk_drew ?_ | refine blk_alloc ?_ _)); refine blk_put (cs := #[.bool (true), .int .i64 ((rd_T76 l0 x10_1).f1.f0), .int .i64 ((rd_T76 l0 x10_1).f1.f1), .int .i64 0, .int .i64 0]) ?_ 3 _ rfl; (with_reducible repeat (first | refine blk_drewN ?_ _ | refine blk_drew ?_ | refine blk_alloc ?_ _)); refine blk_put (cs := #[.bool (true), .int .i64 ((rd_T76 l0 x10_1).f1.f0), .int .i64 0, .int .i64 0, .int .i64 0]) ?_ 2 _ rfl; (with_reducible repeat (first | refine blk_drewN ?_ _ | refine blk_drew ?_ | refine blk_alloc ?_ _)); refine blk_put (cs := #[.bool (true), .int .i64 0, .int .i64 0, .int .i64 0, .int .i64 0]) ?_ 1 _ rfl; (with_reducible repeat (first | refine blk_drewN ?_ _ | refine blk_drew ?_ | refine blk_alloc ?_ _)); refine blk_put (cs := #[.bool false, .int .i64 0, .int .i64 0, .int .i64 0, .int .i64 0]) ?_ 0 _ rfl; (with_reducible repeat (first | refine blk_drewN ?_ _ | refine blk_drew ?_ | refine blk_alloc ?_ _)); exact BK196.out⟩, ⟨by repeat (first | (with_reducible first | exact HB.out | apply below_alloc | apply pw_below_drewN | apply below_drew1 | refine below_set ?_ GE196.out) | exact HB.out)⟩⟩
              · replace c9 := Bool.eq_false_iff.mpr c9
                subst c9
                have H1 : (timeboundref36_Valid.j1 k1 l0 x10_1 1024 l0 (l0.length : Int) x10_1 false ((rd_T76 l0 x10_1).f1.f0) ((rd_T76 l0 x10_1).f1.f1) ((rd_T76 l0 x10_1).f2) ((rd_T76 l0 x10_1).f3)) = some r := by rw [if_neg (show ¬ (false = true) by decide)] at H; exact H
                clear H
                have H := H1
                clear H1
                have H' := Aside0.mk H
                clear H
                go_wp2
                go_meet
                case rel => (try rw [← Nbq8.out]); exact ⟨_, (1024), (by first | rfl | (simp; done) | (simp [*]; done)), H', ⟨by have := HK1.out; first | omega | exact Nat.le_refl _⟩, ⟨by (with_reducible repeat (first | refine blk_drewN ?_ _ | refine blk_drew ?_ | refine blk_alloc ?_ _)); refine blk_put (cs := #[.bool (false), .int .i64 ((rd_T76 l0 x10_1).f1.f0), .int .i64 ((rd_T76 l0 x10_1).f1.f1), .int .i64 ((rd_T76 l0 x10_1).f2), .int .i64 0]) ?_ 4 _ rfl; (with_reducible repeat (first | refine blk_drewN ?_ _ | refine blk_drew ?_ | refine blk_alloc ?_ _)); refine blk_put (cs := #[.bool (false), .int .i64 ((rd_T76 l0 x10_1).f1.f0), .int .i64 ((rd_T76 l0 x10_1).f1.f1), .int .i64 0, .int .i64 0]) ?_ 3 _ rfl; (with_reducible repeat (first | refine blk_drewN ?_ _ | refine blk_drew ?_ | refine blk_alloc ?_ _)); refine blk_put (cs := #[.bool (false), .int .i64 ((rd_T76 l0 x10_1).f1.f0), .int .i64 0, .int .i64 0, .int .i64 0]) ?_ 2 _ rfl; (with_reducible repeat (first | refine blk_drewN ?_ _ | refine blk_drew ?_ | refine blk_alloc ?_ _)); refine blk_put (cs := #[.bool (false), .int .i64 0, .int .i64 0, .int .i64 0, .int .i64 0]) ?_ 1 _ rfl; (with_reducible repeat (first | refine blk_drewN ?_ _ | refine blk_drew ?_ | refine blk_alloc ?_ _)); refine blk_put (cs := #[.bool false, .int .i64 0, .int .i64 0, .int .i64 0, .int .i64 0]) ?_ 0 _ rfl; (with_reducible repeat (first | refine blk_drewN ?_ _ | refine blk_drew ?_ | refine blk_alloc ?_ _)); exact BK196.out⟩, ⟨by repeat (first | (with_reducible first | exact HB.out | apply below_alloc | apply pw_below_drewN | apply below_drew1 | refine below_set ?_ GE196.out) | exact HB.out)⟩⟩
            case rest =>
              clear HC5
              try clear p1
              try clear q1
              try clear hx1
              try clear c2
              try clear c2b0
              try clear p2
              try clear c3
              try clear c3b0
              try clear c4
              try clear c4b0
              try clear q8
              try clear c9
              try clear hcz7_0
              try clear hcz7_1
              try clear hcz7_2
              try clear hcz7_3
              try clear hcz7_4
              try clear hfz7_0
              try clear hfz7_1
              try clear hfz7_2
              try clear hfz7_3
              try clear hfz7_4
              try clear hx195_0
              try clear hx195_1
              try clear hx195_2
              try clear hx195_3
              try clear hx195_4
              try clear p195
              try clear q195
              obtain ⟨kq, x5_4, rfl, HA, HJ4, BK196, HB⟩ := hcut
              cases kq with
              | zero => exact absurd HA.out (by simp [timeboundref36_Valid.j1])
              | succ kj4 =>
                have H := HA.out
                clear HA
                simp only [timeboundref36_Valid.j1] at H
                have HC10 := Aside0.mk H
                clear H
                go_upto_region 7 with (fail)
                go_cut [58] (fun v58 wc => ∃ (kq : Nat) (x58_9 : Bool), v58 = .bool x58_9 ∧ Aside0 (timeboundref36_Valid.j2 kq l0 x10_1 l0 (l0.length : Int) x10_1 x58_9 ((rd_T76 l0 x10_1).f0) ((rd_T76 l0 x10_1).f1.f0) ((rd_T76 l0 x10_1).f1.f1) ((rd_T76 l0 x10_1).f2) ((rd_T76 l0 x10_1).f3) = some r) ∧ Aside0 (kq ≤ kj4) ∧ Aside0 (wc.heap[gb196]? = some (.cells #[.bool ((rd_T76 l0 x10_1).f0), .int .i64 ((rd_T76 l0 x10_1).f1.f0), .int .i64 ((rd_T76 l0 x10_1).f1.f1), .int .i64 ((rd_T76 l0 x10_1).f2), .int .i64 ((rd_T76 l0 x10_1).f3)] 76 (0, 0))) ∧ Aside0 (Below w.heap.size w wc))
                case first =>
                  have H := HC10.out
                  clear HC10
                  by_cases c11 : ((rd_T76 l0 x10_1).f1.f0) < 0
                  · rw [if_pos c11] at H
                    have c11b0 : decide (((rd_T76 l0 x10_1).f1.f0) < 0) = true := decide_eq_true c11
                    clear c11
                    (first | rw [c11b0] | (simp only [i64_w, i32_w]; rw [c11b0]) | skip)
                    have H' := Aside0.mk H
                    clear H
                    have hcz12_0 : wc.cell? ⟨gb196, 0, none⟩ = some (.bool ((rd_T76 l0 x10_1).f0)) := (blk_cell BK196.out 0).trans rfl
                    have hcz12_1 : wc.cell? ⟨gb196, 1, none⟩ = some (.int .i64 ((rd_T76 l0 x10_1).f1.f0)) := (blk_cell BK196.out 1).trans rfl
                    have hcz12_2 : wc.cell? ⟨gb196, 2, none⟩ = some (.int .i64 ((rd_T76 l0 x10_1).f1.f1)) := (blk_cell BK196.out 2).trans rfl
                    have hcz12_3 : wc.cell? ⟨gb196, 3, none⟩ = some (.int .i64 ((rd_T76 l0 x10_1).f2)) := (blk_cell BK196.out 3).trans rfl
                    have hcz12_4 : wc.cell? ⟨gb196, 4, none⟩ = some (.int .i64 ((rd_T76 l0 x10_1).f3)) := (blk_cell BK196.out 4).trans rfl
                    have hfz12_0 := blk_frozen BK196.out 0
                    have hfz12_1 := blk_frozen BK196.out 1
                    have hfz12_2 := blk_frozen BK196.out 2
                    have hfz12_3 := blk_frozen BK196.out 3
                    have hfz12_4 := blk_frozen BK196.out 4
                    go_wp2
                    go_meet
                    case rel => exact ⟨_, (true), (by first | rfl | (simp; done) | (simp [*]; done)), H', ⟨by have := HK1.out; have := HJ4.out; first | omega | exact Nat.le_refl _⟩, ⟨by (with_reducible repeat (first | refine blk_drewN ?_ _ | refine blk_drew ?_ | refine blk_alloc ?_ _)); exact BK196.out⟩, ⟨by repeat (first | (with_reducible first | exact HB.out | apply below_alloc | apply pw_below_drewN | apply below_drew1 | refine below_set ?_ GE196.out) | exact HB.out)⟩⟩
                  · rw [if_neg c11] at H
                    have c11b0 : decide (((rd_T76 l0 x10_1).f1.f0) < 0) = false := decide_eq_false c11
                    clear c11
                    (first | rw [c11b0] | (simp only [i64_w, i32_w]; rw [c11b0]) | skip)
                    by_cases c13 : ((rd_T76 l0 x10_1).f1.f1) ≤ ((rd_T76 l0 x10_1).f1.f0)
                    · rw [if_pos c13] at H
                      have c13b0 : decide (((rd_T76 l0 x10_1).f1.f1) ≤ ((rd_T76 l0 x10_1).f1.f0)) = true := decide_eq_true c13
                      clear c13
                      have H' := Aside0.mk H
                      clear H
                      have hcz14_0 : wc.cell? ⟨gb196, 0, none⟩ = some (.bool ((rd_T76 l0 x10_1).f0)) := (blk_cell BK196.out 0).trans rfl
                      have hcz14_1 : wc.cell? ⟨gb196, 1, none⟩ = some (.int .i64 ((rd_T76 l0 x10_1).f1.f0)) := (blk_cell BK196.out 1).trans rfl
                      have hcz14_2 : wc.cell? ⟨gb196, 2, none⟩ = some (.int .i64 ((rd_T76 l0 x10_1).f1.f1)) := (blk_cell BK196.out 2).trans rfl
                      have hcz14_3 : wc.cell? ⟨gb196, 3, none⟩ = some (.int .i64 ((rd_T76 l0 x10_1).f2)) := (blk_cell BK196.out 3).trans rfl
                      have hcz14_4 : wc.cell? ⟨gb196, 4, none⟩ = some (.int .i64 ((rd_T76 l0 x10_1).f3)) := (blk_cell BK196.out 4).trans rfl
                      have hfz14_0 := blk_frozen BK196.out 0
                      have hfz14_1 := blk_frozen BK196.out 1
                      have hfz14_2 := blk_frozen BK196.out 2
                      have hfz14_3 := blk_frozen BK196.out 3
                      have hfz14_4 := blk_frozen BK196.out 4
                      go_wp2
                      go_meet
                      case rel => exact ⟨_, (true), (by first | rfl | (simp; done) | (simp [*]; done)), H', ⟨by have := HK1.out; have := HJ4.out; first | omega | exact Nat.le_refl _⟩, ⟨by (with_reducible repeat (first | refine blk_drewN ?_ _ | refine blk_drew ?_ | refine blk_alloc ?_ _)); exact BK196.out⟩, ⟨by repeat (first | (with_reducible first | exact HB.out | apply below_alloc | apply pw_below_drewN | apply below_drew1 | refine below_set ?_ GE196.out) | exact HB.out)⟩⟩
                    · rw [if_neg c13] at H
                      have c13b0 : decide (((rd_T76 l0 x10_1).f1.f1) ≤ ((rd_T76 l0 x10_1).f1.f0)) = false := decide_eq_false c13
                      clear c13
                      by_cases c15 : ((rd_T76 l0 x10_1).f1.f1) > x5_4
                      · rw [if_pos c15] at H
                        have c15b0 : decide (x5_4 < ((rd_T76 l0 x10_1).f1.f1)) = true := decide_eq_true c15
                        clear c15
                        have H' := Aside0.mk H
                        clear H
                        have hcz16_0 : wc.cell? ⟨gb196, 0, none⟩ = some (.bool ((rd_T76 l0 x10_1).f0)) := (blk_cell BK196.out 0).trans rfl
                        have hcz16_1 : wc.cell? ⟨gb196, 1, none⟩ = some (.int .i64 ((rd_T76 l0 x10_1).f1.f0)) := (blk_cell BK196.out 1).trans rfl
                        have hcz16_2 : wc.cell? ⟨gb196, 2, none⟩ = some (.int .i64 ((rd_T76 l0 x10_1).f1.f1)) := (blk_cell BK196.out 2).trans rfl
                        have hcz16_3 : wc.cell? ⟨gb196, 3, none⟩ = some (.int .i64 ((rd_T76 l0 x10_1).f2)) := (blk_cell BK196.out 3).trans rfl
                        have hcz16_4 : wc.cell? ⟨gb196, 4, none⟩ = some (.int .i64 ((rd_T76 l0 x10_1).f3)) := (blk_cell BK196.out 4).trans rfl
                        have hfz16_0 := blk_frozen BK196.out 0
                        have hfz16_1 := blk_frozen BK196.out 1
                        have hfz16_2 := blk_frozen BK196.out 2
                        have hfz16_3 := blk_frozen BK196.out 3
                        have hfz16_4 := blk_frozen BK196.out 4
                        go_wp2
                        go_meet
                        case rel => exact ⟨_, (true), (by first | rfl | (simp; done) | (simp [*]; done)), H', ⟨by have := HK1.out; have := HJ4.out; first | omega | exact Nat.le_refl _⟩, ⟨by (with_reducible repeat (first | refine blk_drewN ?_ _ | refine blk_drew ?_ | refine blk_alloc ?_ _)); exact BK196.out⟩, ⟨by repeat (first | (with_reducible first | exact HB.out | apply below_alloc | apply pw_below_drewN | apply below_drew1 | refine below_set ?_ GE196.out) | exact HB.out)⟩⟩
                      · rw [if_neg c15] at H
                        have c15b0 : decide (x5_4 < ((rd_T76 l0 x10_1).f1.f1)) = false := decide_eq_false c15
                        clear c15
                        by_cases c17 : ((rd_T76 l0 x10_1).f2) = (wrap64 (((rd_T76 l0 x10_1).f1.f1) - ((rd_T76 l0 x10_1).f1.f0)))
                        · rw [if_pos c17] at H
                          have c17b0 : (((rd_T76 l0 x10_1).f2) == (wrap64 (((rd_T76 l0 x10_1).f1.f1) - ((rd_T76 l0 x10_1).f1.f0)))) = true := beq_iff_eq.mpr c17
                          have c17b1 : (((rd_T76 l0 x10_1).f2) != (wrap64 (((rd_T76 l0 x10_1).f1.f1) - ((rd_T76 l0 x10_1).f1.f0)))) = false := bne_eq_false_iff_eq.mpr c17
                          clear c17
                          by_cases c18 : ((rd_T76 l0 x10_1).f3) < 0
                          · rw [if_pos c18] at H
                            have c18b0 : decide (((rd_T76 l0 x10_1).f3) < 0) = true := decide_eq_true c18
                            clear c18
                            have H' := Aside0.mk H
                            clear H
                            have hcz19_0 : wc.cell? ⟨gb196, 0, none⟩ = some (.bool ((rd_T76 l0 x10_1).f0)) := (blk_cell BK196.out 0).trans rfl
                            have hcz19_1 : wc.cell? ⟨gb196, 1, none⟩ = some (.int .i64 ((rd_T76 l0 x10_1).f1.f0)) := (blk_cell BK196.out 1).trans rfl
                            have hcz19_2 : wc.cell? ⟨gb196, 2, none⟩ = some (.int .i64 ((rd_T76 l0 x10_1).f1.f1)) := (blk_cell BK196.out 2).trans rfl
                            have hcz19_3 : wc.cell? ⟨gb196, 3, none⟩ = some (.int .i64 ((rd_T76 l0 x10_1).f2)) := (blk_cell BK196.out 3).trans rfl
                            have hcz19_4 : wc.cell? ⟨gb196, 4, none⟩ = some (.int .i64 ((rd_T76 l0 x10_1).f3)) := (blk_cell BK196.out 4).trans rfl
                            have hfz19_0 := blk_frozen BK196.out 0
                            have hfz19_1 := blk_frozen BK196.out 1
                            have hfz19_2 := blk_frozen BK196.out 2
                            have hfz19_3 := blk_frozen BK196.out 3
                            have hfz19_4 := blk_frozen BK196.out 4
                            go_wp2
                            go_meet
                            case rel => exact ⟨_, (true), (by first | rfl | (simp; done) | (simp [*]; done)), H', ⟨by have := HK1.out; have := HJ4.out; first | omega | exact Nat.le_refl _⟩, ⟨by (with_reducible repeat (first | refine blk_drewN ?_ _ | refine blk_drew ?_ | refine blk_alloc ?_ _)); exact BK196.out⟩, ⟨by repeat (first | (with_reducible first | exact HB.out | apply below_alloc | apply pw_below_drewN | apply below_drew1 | refine below_set ?_ GE196.out) | exact HB.out)⟩⟩
                          · rw [if_neg c18] at H
                            have c18b0 : decide (((rd_T76 l0 x10_1).f3) < 0) = false := decide_eq_false c18
                            clear c18
                            have H' := Aside0.mk H
                            clear H
                            have hcz20_0 : wc.cell? ⟨gb196, 0, none⟩ = some (.bool ((rd_T76 l0 x10_1).f0)) := (blk_cell BK196.out 0).trans rfl
                            have hcz20_1 : wc.cell? ⟨gb196, 1, none⟩ = some (.int .i64 ((rd_T76 l0 x10_1).f1.f0)) := (blk_cell BK196.out 1).trans rfl
                            have hcz20_2 : wc.cell? ⟨gb196, 2, none⟩ = some (.int .i64 ((rd_T76 l0 x10_1).f1.f1)) := (blk_cell BK196.out 2).trans rfl
                            have hcz20_3 : wc.cell? ⟨gb196, 3, none⟩ = some (.int .i64 ((rd_T76 l0 x10_1).f2)) := (blk_cell BK196.out 3).trans rfl
                            have hcz20_4 : wc.cell? ⟨gb196, 4, none⟩ = some (.int .i64 ((rd_T76 l0 x10_1).f3)) := (blk_cell BK196.out 4).trans rfl
                            have hfz20_0 := blk_frozen BK196.out 0
                            have hfz20_1 := blk_frozen BK196.out 1
                            have hfz20_2 := blk_frozen BK196.out 2
                            have hfz20_3 := blk_frozen BK196.out 3
                            have hfz20_4 := blk_frozen BK196.out 4
                            go_wp2
                            go_meet
                            case rel => exact ⟨_, (decide (((rd_T76 l0 x10_1).f3) > 1099511627776)), (by first | rfl | (simp; done) | (simp [*]; done)), H', ⟨by have := HK1.out; have := HJ4.out; first | omega | exact Nat.le_refl _⟩, ⟨by (with_reducible repeat (first | refine blk_drewN ?_ _ | refine blk_drew ?_ | refine blk_alloc ?_ _)); exact BK196.out⟩, ⟨by repeat (first | (with_reducible first | exact HB.out | apply below_alloc | apply pw_below_drewN | apply below_drew1 | refine below_set ?_ GE196.out) | exact HB.out)⟩⟩
                        · rw [if_neg c17] at H
                          have c17b0 : (((rd_T76 l0 x10_1).f2) == (wrap64 (((rd_T76 l0 x10_1).f1.f1) - ((rd_T76 l0 x10_1).f1.f0)))) = false := beq_eq_false_iff_ne.mpr c17
                          have c17b1 : (((rd_T76 l0 x10_1).f2) != (wrap64 (((rd_T76 l0 x10_1).f1.f1) - ((rd_T76 l0 x10_1).f1.f0)))) = true := bne_iff_ne.mpr c17
                          have H' := Aside0.mk H
                          clear H
                          have hcz21_0 : wc.cell? ⟨gb196, 0, none⟩ = some (.bool ((rd_T76 l0 x10_1).f0)) := (blk_cell BK196.out 0).trans rfl
                          have hcz21_1 : wc.cell? ⟨gb196, 1, none⟩ = some (.int .i64 ((rd_T76 l0 x10_1).f1.f0)) := (blk_cell BK196.out 1).trans rfl
                          have hcz21_2 : wc.cell? ⟨gb196, 2, none⟩ = some (.int .i64 ((rd_T76 l0 x10_1).f1.f1)) := (blk_cell BK196.out 2).trans rfl
                          have hcz21_3 : wc.cell? ⟨gb196, 3, none⟩ = some (.int .i64 ((rd_T76 l0 x10_1).f2)) := (blk_cell BK196.out 3).trans rfl
                          have hcz21_4 : wc.cell? ⟨gb196, 4, none⟩ = some (.int .i64 ((rd_T76 l0 x10_1).f3)) := (blk_cell BK196.out 4).trans rfl
                          have hfz21_0 := blk_frozen BK196.out 0
                          have hfz21_1 := blk_frozen BK196.out 1
                          have hfz21_2 := blk_frozen BK196.out 2
                          have hfz21_3 := blk_frozen BK196.out 3
                          have hfz21_4 := blk_frozen BK196.out 4
                          go_wp2
                          go_meet
                          case rel => exact ⟨_, (true), (by first | rfl | (simp; done) | (simp [*]; done)), H', ⟨by have := HK1.out; have := HJ4.out; first | omega | exact Nat.le_refl _⟩, ⟨by (with_reducible repeat (first | refine blk_drewN ?_ _ | refine blk_drew ?_ | refine blk_alloc ?_ _)); exact BK196.out⟩, ⟨by repeat (first | (with_reducible first | exact HB.out | apply below_alloc | apply pw_below_drewN | apply below_drew1 | refine below_set ?_ GE196.out) | exact HB.out)⟩⟩
                case rest =>
                  clear HC10
                  try clear c1
                  try clear p1
                  try clear q1
                  try clear hx1
                  try clear c2
                  try clear c2b0
                  try clear p2
                  try clear c3
                  try clear c3b0
                  try clear c4
                  try clear c4b0
                  try clear p6
                  try clear q8
                  try clear c9
                  try clear c11
                  try clear c11b0
                  try clear c13
                  try clear c13b0
                  try clear c15
                  try clear c15b0
                  try clear c17
                  try clear c17b0
                  try clear c17b1
                  try clear c18
                  try clear c18b0
                  try clear p19
                  try clear q19
                  try clear hx19
                  try clear hcz12_0
                  try clear hcz12_1
                  try clear hcz12_2
                  try clear hcz12_3
                  try clear hcz12_4
                  try clear hcz14_0
                  try clear hcz14_1
                  try clear hcz14_2
                  try clear hcz14_3
                  try clear hcz14_4
                  try clear hcz16_0
                  try clear hcz16_1
                  try clear hcz16_2
                  try clear hcz16_3
                  try clear hcz16_4
                  try clear hcz19_0
                  try clear hcz19_1
                  try clear hcz19_2
                  try clear hcz19_3
                  try clear hcz19_4
                  try clear hcz20_0
                  try clear hcz20_1
                  try clear hcz20_2
                  try clear hcz20_3
                  try clear hcz20_4
                  try clear hcz21_0
                  try clear hcz21_1
                  try clear hcz21_2
                  try clear hcz21_3
                  try clear hcz21_4
                  try clear hcz7_0
                  try clear hcz7_1
                  try clear hcz7_2
                  try clear hcz7_3
                  try clear hcz7_4
                  try clear hfz12_0
                  try clear hfz12_1
                  try clear hfz12_2
                  try clear hfz12_3
                  try clear hfz12_4
                  try clear hfz14_0
                  try clear hfz14_1
                  try clear hfz14_2
                  try clear hfz14_3
                  try clear hfz14_4
                  try clear hfz16_0
                  try clear hfz16_1
                  try clear hfz16_2
                  try clear hfz16_3
                  try clear hfz16_4
                  try clear hfz19_0
                  try clear hfz19_1
                  try clear hfz19_2
                  try clear hfz19_3
                  try clear hfz19_4
                  try clear hfz20_0
                  try clear hfz20_1
                  try clear hfz20_2
                  try clear hfz20_3
                  try clear hfz20_4
                  try clear hfz21_0
                  try clear hfz21_1
                  try clear hfz21_2
                  try clear hfz21_3
                  try clear hfz21_4
                  try clear hfz7_0
                  try clear hfz7_1
                  try clear hfz7_2
                  try clear hfz7_3
                  try clear hfz7_4
                  try clear hx195_0
                  try clear hx195_1
                  try clear hx195_2
                  try clear hx195_3
                  try clear hx195_4
                  try clear p1
                  try clear p195
                  try clear p2
                  try clear q1
                  try clear q195
                  try clear q8
                  obtain ⟨kq, x58_9, rfl, HA, HJ9, BK196, HB⟩ := hcut
                  cases kq with
                  | zero => exact absurd HA.out (by simp [timeboundref36_Valid.j2])
                  | succ kj9 =>
                    have H := HA.out
                    clear HA
                    simp only [timeboundref36_Valid.j2] at H
                    by_cases c22 : x58_9 = true
                    · subst c22
                      have H1 : (some false) = some r := by rw [if_pos rfl] at H; exact H
                      clear H
                      have H := H1
                      clear H1
                      obtain rfl := Option.some.inj H
                      go_wp2
                      go_ret
                      exact ⟨by first | rfl | (simp [errW_none, errW_some] <;> rfl) | (simp [*, errW_none, errW_some] <;> rfl), by repeat (first | (with_reducible first | exact HB.out | apply below_alloc | apply pw_below_drewN | apply below_drew1 | refine below_set ?_ GE196.out) | exact HB.out)⟩
                    · replace c22 := Bool.eq_false_iff.mpr c22
                      subst c22
                      have H1 : (if 0 ≤ x10_1 then (if x10_1 ≤ (l0.length : Int) then ((some (l0.take (x10_1 : Int).toNat : List (S76))).bind fun y197 => (timeboundref36_Valid.l1 kj9 l0 l0 (l0.length : Int) x10_1 y197 (y197.length : Int) 0 ((rd_T76 l0 x10_1).f0) ((rd_T76 l0 x10_1).f1.f0) ((rd_T76 l0 x10_1).f1.f1) ((rd_T76 l0 x10_1).f2) ((rd_T76 l0 x10_1).f3))) else (none)) else (none)) = some r := by rw [if_neg (show ¬ (false = true) by decide)] at H; exact H
                      clear H
                      have H := H1
                      clear H1
                      by_cases c23 : 0 ≤ x10_1
                      · rw [if_pos c23] at H
                        have c23b0 := eq_true c23
                        have c23b1 : decide (0 ≤ x10_1) = true := decide_eq_true c23
                        clear c23
                        by_cases c24 : x10_1 ≤ (l0.length : Int)
                        · rw [if_pos c24] at H
                          have c24b0 := eq_true c24
                          have c24b1 : decide (x10_1 ≤ (l0.length : Int)) = true := decide_eq_true c24
                          clear c24
                          obtain ⟨y197, hy197⟩ : ∃ y_ : List (S76), y_ = (l0.take (x10_1 : Int).toNat) := ⟨_, rfl⟩
                          replace H : (timeboundref36_Valid.l1 kj9 l0 l0 (l0.length : Int) x10_1 y197 (y197.length : Int) 0 ((rd_T76 l0 x10_1).f0) ((rd_T76 l0 x10_1).f1.f0) ((rd_T76 l0 x10_1).f1.f1) ((rd_T76 l0 x10_1).f2) ((rd_T76 l0 x10_1).f3)) = some r := by first | (rw [hy197]; with_reducible exact H) | (have H2_ := (Option.bind_some _ _).symm.trans H; rw [hy197]; with_reducible exact H2_) | (have H2_ := (Option.bind_some _ _).symm.trans H; with_reducible exact H2_) | with_reducible exact H | (rw [hy197]; exact H) | exact H
                          have Ny197 := Aside0.mk hy197
                          clear hy197
                          have H' := Aside0.mk H
                          clear H
                          have q25 : (x10_1 : Int) ≤ ((l0.length : Int) : Int) := of_decide_eq_true (by first | (with_reducible assumption) | assumption)
                          obtain ⟨i025, hi025, _, hsz25, _⟩ := info_parts info76
                          have hroom25 : l0.length ≤ c0 := HC0.out
                          have hC25 : Kd.C k76 _ (some ad195) l0.length l0 := HR0.out
                          have hcut25 := cut_to (P := Try.prog) 51 76 .i64 Try.underlying51 hi025 (some ad195) l0.length c0 x10_1 (of_decide_eq_true (by first | (with_reducible assumption) | assumption)) q25 hroom25
                          have hr25 := Kd.C_take (m := (x10_1 : Int).toNat) hC25 (by omega)
                          have hy25 : y197.length = (x10_1 : Int).toNat := (by rw [Ny197.out, List.length_take]; omega)
                          rw [← Ny197.out] at hr25
                          rw [← hy25] at hcut25
                          have HR200 := Aside0.mk hr25
                          have HC200 := Aside0.mk (show y197.length ≤ c0 from by omega)
                          clear hr25 hC25 hroom25 hi025 hsz25
                          have KY25 := Aside0.mk hy25
                          clear hy25
                          replace q25 := eq_true q25
                          go_wp2
                          go_loopg [63] kj9 (fun kq v63 w' => ∃ (x63_4 : Int), v63 = .int .i64 x63_4 ∧ Aside0 (timeboundref36_Valid.l1 kq l0 l0 (l0.length : Int) x10_1 y197 (y197.length : Int) x63_4 ((rd_T76 l0 x10_1).f0) ((rd_T76 l0 x10_1).f1.f0) ((rd_T76 l0 x10_1).f1.f1) ((rd_T76 l0 x10_1).f2) ((rd_T76 l0 x10_1).f3) = some r) ∧ Aside0 (kq ≤ kj9) ∧ Aside0 (w'.heap[gb196]? = some (.cells #[.bool ((rd_T76 l0 x10_1).f0), .int .i64 ((rd_T76 l0 x10_1).f1.f0), .int .i64 ((rd_T76 l0 x10_1).f1.f1), .int .i64 ((rd_T76 l0 x10_1).f2), .int .i64 ((rd_T76 l0 x10_1).f3)] 76 (0, 0))) ∧ Aside0 (Below w.heap.size w w'))
                          case atStart => exact ⟨(0), (by first | rfl | (simp; done) | (simp [*]; done)), H', ⟨Nat.le_refl _⟩, ⟨by (with_reducible repeat (first | refine blk_drewN ?_ _ | refine blk_drew ?_ | refine blk_alloc ?_ _)); exact BK196.out⟩, ⟨by repeat (first | (with_reducible first | exact HB.out | apply below_alloc | apply pw_below_drewN | apply below_drew1 | refine below_set ?_ GE196.out) | exact HB.out)⟩⟩
                          case round =>
                            clear H'
                            try clear c1
                            try clear p1
                            try clear q1
                            try clear hx1
                            try clear c2
                            try clear c2b0
                            try clear p2
                            try clear q2
                            try clear c3
                            try clear c3b0
                            try clear c4
                            try clear c4b0
                            try clear p6
                            try clear q8
                            try clear c9
                            try clear c11
                            try clear c11b0
                            try clear c13
                            try clear c13b0
                            try clear c15
                            try clear c15b0
                            try clear c17
                            try clear c17b0
                            try clear c17b1
                            try clear c18
                            try clear c18b0
                            try clear p19
                            try clear q19
                            try clear hx19
                            try clear c22
                            try clear c23
                            try clear c23b0
                            try clear c23b1
                            try clear c24
                            try clear c24b0
                            try clear c24b1
                            try clear q25
                            try clear hcz12_0
                            try clear hcz12_1
                            try clear hcz12_2
                            try clear hcz12_3
                            try clear hcz12_4
                            try clear hcz14_0
                            try clear hcz14_1
                            try clear hcz14_2
                            try clear hcz14_3
                            try clear hcz14_4
                            try clear hcz16_0
                            try clear hcz16_1
                            try clear hcz16_2
                            try clear hcz16_3
                            try clear hcz16_4
                            try clear hcz19_0
                            try clear hcz19_1
                            try clear hcz19_2
                            try clear hcz19_3
                            try clear hcz19_4
                            try clear hcz20_0
                            try clear hcz20_1
                            try clear hcz20_2
                            try clear hcz20_3
                            try clear hcz20_4
                            try clear hcz21_0
                            try clear hcz21_1
                            try clear hcz21_2
                            try clear hcz21_3
                            try clear hcz21_4
                            try clear hcz7_0
                            try clear hcz7_1
                            try clear hcz7_2
                            try clear hcz7_3
                            try clear hcz7_4
                            try clear hfz12_0
                            try clear hfz12_1
                            try clear hfz12_2
                            try clear hfz12_3
                            try clear hfz12_4
                            try clear hfz14_0
                            try clear hfz14_1
                            try clear hfz14_2
                            try clear hfz14_3
                            try clear hfz14_4
                            try clear hfz16_0
                            try clear hfz16_1
                            try clear hfz16_2
                            try clear hfz16_3
                            try clear hfz16_4
                            try clear hfz19_0
                            try clear hfz19_1
                            try clear hfz19_2
                            try clear hfz19_3
                            try clear hfz19_4
                            try clear hfz20_0
                            try clear hfz20_1
                            try clear hfz20_2
                            try clear hfz20_3
                            try clear hfz20_4
                            try clear hfz21_0
                            try clear hfz21_1
                            try clear hfz21_2
                            try clear hfz21_3
                            try clear hfz21_4
                            try clear hfz7_0
                            try clear hfz7_1
                            try clear hfz7_2
                            try clear hfz7_3
                            try clear hfz7_4
                            try clear hx195_0
                            try clear hx195_1
                            try clear hx195_2
                            try clear hx195_3
                            try clear hx195_4
                            try clear p1
                            try clear p19
                            try clear p195
                            try clear p2
                            try clear p6
                            try clear q1
                            try clear q19
                            try clear q195
                            try clear q25
                            try clear q8
                            obtain ⟨x63_4, rfl, HA, HK4, BK196, HB⟩ := hrel
                            cases gk with
                            | zero => exact absurd HA.out (by simp [timeboundref36_Valid.l1])
                            | succ k4 =>
                              have H := HA.out
                              clear HA
                              simp only [timeboundref36_Valid.l1] at H
                              by_cases c26 : x63_4 < (y197.length : Int)
                              · rw [if_pos c26] at H
                                have c26b0 : decide (x63_4 < (y197.length : Int)) = true := decide_eq_true c26
                                clear c26
                                by_cases c27 : 0 ≤ x63_4
                                · rw [if_pos c27] at H
                                  have c27b0 : decide (0 ≤ x63_4) = true := decide_eq_true c27
                                  clear c27
                                  by_cases c28 : x63_4 < (y197.length : Int)
                                  · rw [if_pos c28] at H
                                    have c28b0 : decide (x63_4 < (y197.length : Int)) = true := decide_eq_true c28
                                    clear c28
                                    by_cases c29 : (((rd_T76 l0 x10_1).f0) == ((rd_T76 y197 x63_4).f0)) = true
                                    · rw [if_pos c29] at H
                                      have c29b0 : (((rd_T76 l0 x10_1).f0) == ((rd_T76 y197 x63_4).f0)) = true := c29
                                      (try (have c29b1 : decide (((rd_T76 l0 x10_1).f0) = ((rd_T76 y197 x63_4).f0)) = true := by simpa using c29))
                                      (try (have c29b2 : (((rd_T76 l0 x10_1).f0) == ((rd_T76 y197 x63_4).f0)) = true := by simpa using c29))
                                      clear c29
                                      by_cases c30 : ((rd_T76 l0 x10_1).f1.f0) < ((rd_T76 y197 x63_4).f1.f1)
                                      · rw [if_pos c30] at H
                                        have c30b0 : decide (((rd_T76 l0 x10_1).f1.f0) < ((rd_T76 y197 x63_4).f1.f1)) = true := decide_eq_true c30
                                        clear c30
                                        by_cases c31 : ((rd_T76 y197 x63_4).f1.f0) < ((rd_T76 l0 x10_1).f1.f1)
                                        · rw [if_pos c31] at H
                                          have c31b0 : decide (((rd_T76 y197 x63_4).f1.f0) < ((rd_T76 l0 x10_1).f1.f1)) = true := decide_eq_true c31
                                          clear c31
                                          obtain rfl := Option.some.inj H
                                          have p201 : 0 ≤ (x63_4 : Int) := of_decide_eq_true (by first | (with_reducible assumption) | assumption)
                                          have q201 : x63_4 < (y197.length : Int) := of_decide_eq_true (by first | (with_reducible assumption) | assumption)
                                          obtain ⟨ad201, e201, hx201_0, hx201_1, hx201_2, hx201_3, hx201_4⟩ := at_T76 HR200.out x63_4 p201 q201
                                          obtain rfl : ad195 = ad201 := (by injection e201)
                                          replace hx201_0 := (HB.out.cell (World.block_lt_of_cell? w _ hx201_0)).trans hx201_0
                                          replace hx201_1 := (HB.out.cell (World.block_lt_of_cell? w _ hx201_1)).trans hx201_1
                                          replace hx201_2 := (HB.out.cell (World.block_lt_of_cell? w _ hx201_2)).trans hx201_2
                                          replace hx201_3 := (HB.out.cell (World.block_lt_of_cell? w _ hx201_3)).trans hx201_3
                                          replace hx201_4 := (HB.out.cell (World.block_lt_of_cell? w _ hx201_4)).trans hx201_4
                                          replace p201 := eq_true p201
                                          replace q201 := eq_true q201
                                          go_wp2_with (first | ((with_reducible refine gate_dst (N := 7) rfl ?_); refine box_event ?hg (N := 7) ?hd (cs := #[.bool false, .int .i64 0, .int .i64 0, .int .i64 0, .int .i64 0]) (t := 76) ?hr ?_; (case hd => rfl); (case hg => rfl); (case hr => first | (go_simp; done) | (go_simp; rfl)); intro gb202 hg w32 hbox hb; have n0_ := Aside0.mk (blk_below (g := gb196) (o := .cells #[.bool ((rd_T76 l0 x10_1).f0), .int .i64 ((rd_T76 l0 x10_1).f1.f0), .int .i64 ((rd_T76 l0 x10_1).f1.f1), .int .i64 ((rd_T76 l0 x10_1).f2), .int .i64 ((rd_T76 l0 x10_1).f3)] 76 (0, 0)) (by (with_reducible repeat (first | refine blk_drewN ?_ _ | refine blk_drew ?_ | refine blk_alloc ?_ _)); exact BK196.out) hb); have n1_ := Aside0.mk (below_step (by repeat (first | (with_reducible first | exact HB.out | apply below_alloc | apply pw_below_drewN | apply below_drew1 | refine below_set ?_ GE196.out) | exact HB.out)) hb); have n2_ := Aside0.mk (hbox); have n3_ := Aside0.mk ((by rw [hg]; exact (below_size (by repeat (first | (with_reducible first | exact HB.out | apply below_alloc | apply pw_below_drewN | apply below_drew1 | refine below_set ?_ GE196.out) | exact HB.out))) : w.heap.size ≤ gb202)); have n4_ := Aside0.mk ((by rw [hg]; exact (below_size (by repeat (first | (with_reducible first | exact HB.out | apply below_alloc | apply pw_below_drewN | apply below_drew1 | refine below_set ?_ GE196.out) | exact HB.out))) : w.heap.size ≤ gb202)); have n5_ := Aside0.mk ((by rw [hg]; exact Nat.ne_of_lt (blk_lt (g := gb196) (o := .cells #[.bool ((rd_T76 l0 x10_1).f0), .int .i64 ((rd_T76 l0 x10_1).f1.f0), .int .i64 ((rd_T76 l0 x10_1).f1.f1), .int .i64 ((rd_T76 l0 x10_1).f2), .int .i64 ((rd_T76 l0 x10_1).f3)] 76 (0, 0)) (by (with_reducible repeat (first | refine blk_drewN ?_ _ | refine blk_drew ?_ | refine blk_alloc ?_ _)); exact BK196.out)) : gb196 ≠ gb202)); have n6_ := Aside0.mk ((by rw [hg]; exact Nat.ne_of_gt (blk_lt (g := gb196) (o := .cells #[.bool ((rd_T76 l0 x10_1).f0), .int .i64 ((rd_T76 l0 x10_1).f1.f0), .int .i64 ((rd_T76 l0 x10_1).f1.f1), .int .i64 ((rd_T76 l0 x10_1).f2), .int .i64 ((rd_T76 l0 x10_1).f3)] 76 (0, 0)) (by (with_reducible repeat (first | refine blk_drewN ?_ _ | refine blk_drew ?_ | refine blk_alloc ?_ _)); exact BK196.out)) : gb202 ≠ gb196)); clear BK196; clear HB; have BK196 := n0_; have HB := n1_; have BK202 := n2_; have GW202 := n3_; have GE202 := n4_; have NB196_202 := n5_; have NB202_196 := n6_; clear n0_ n1_ n2_ n3_ n4_ n5_ n6_; clear hb hbox hg; have hnb33 := NB202_196.out; have hnc33 := NB196_202.out; have hcz34_0 : w32.cell? ⟨gb202, 0, none⟩ = some (.bool false) := (blk_cell BK202.out 0).trans rfl; have hcz34_1 : w32.cell? ⟨gb202, 1, none⟩ = some (.int .i64 0) := (blk_cell BK202.out 1).trans rfl; have hcz34_2 : w32.cell? ⟨gb202, 2, none⟩ = some (.int .i64 0) := (blk_cell BK202.out 2).trans rfl; have hcz34_3 : w32.cell? ⟨gb202, 3, none⟩ = some (.int .i64 0) := (blk_cell BK202.out 3).trans rfl; have hcz34_4 : w32.cell? ⟨gb202, 4, none⟩ = some (.int .i64 0) := (blk_cell BK202.out 4).trans rfl; have hfz34_0 := blk_frozen BK202.out 0; have hfz34_1 := blk_frozen BK202.out 1; have hfz34_2 := blk_frozen BK202.out 2; have hfz34_3 := blk_frozen BK202.out 3; have hfz34_4 := blk_frozen BK202.out 4; have hcz35_0 : w32.cell? ⟨gb196, 0, none⟩ = some (.bool ((rd_T76 l0 x10_1).f0)) := (blk_cell BK196.out 0).trans rfl; have hcz35_1 : w32.cell? ⟨gb196, 1, none⟩ = some (.int .i64 ((rd_T76 l0 x10_1).f1.f0)) := (blk_cell BK196.out 1).trans rfl; have hcz35_2 : w32.cell? ⟨gb196, 2, none⟩ = some (.int .i64 ((rd_T76 l0 x10_1).f1.f1)) := (blk_cell BK196.out 2).trans rfl; have hcz35_3 : w32.cell? ⟨gb196, 3, none⟩ = some (.int .i64 ((rd_T76 l0 x10_1).f2)) := (blk_cell BK196.out 3).trans rfl; have hcz35_4 : w32.cell? ⟨gb196, 4, none⟩ = some (.int .i64 ((rd_T76 l0 x10_1).f3)) := (blk_cell BK196.out 4).trans rfl; have hfz35_0 := blk_frozen BK196.out 0; have hfz35_1 := blk_frozen BK196.out 1; have hfz35_2 := blk_frozen BK196.out 2; have hfz35_3 := blk_frozen BK196.out 3; have hfz35_4 := blk_frozen BK196.out 4))
                                          go_ret
                                          exact ⟨by first | rfl | (simp [errW_none, errW_some] <;> rfl) | (simp [*, errW_none, errW_some] <;> rfl), by repeat (first | (with_reducible first | exact HB.out | apply below_alloc | apply pw_below_drewN | apply below_drew1 | refine below_set ?_ GE196.out | refine below_set ?_ GE202.out) | exact HB.out)⟩
                                        · rw [if_neg c31] at H
                                          have c31b0 : decide (((rd_T76 y197 x63_4).f1.f0) < ((rd_T76 l0 x10_1).f1.f1)) = false := decide_eq_false c31
                                          clear c31
                                          have H' := Aside0.mk H
                                          clear H
                                          have p201 : 0 ≤ (x63_4 : Int) := of_decide_eq_true (by first | (with_reducible assumption) | assumption)
                                          have q201 : x63_4 < (y197.length : Int) := of_decide_eq_true (by first | (with_reducible assumption) | assumption)
                                          obtain ⟨ad201, e201, hx201_0, hx201_1, hx201_2, hx201_3, hx201_4⟩ := at_T76 HR200.out x63_4 p201 q201
                                          obtain rfl : ad195 = ad201 := (by injection e201)
                                          replace hx201_0 := (HB.out.cell (World.block_lt_of_cell? w _ hx201_0)).trans hx201_0
                                          replace hx201_1 := (HB.out.cell (World.block_lt_of_cell? w _ hx201_1)).trans hx201_1
                                          replace hx201_2 := (HB.out.cell (World.block_lt_of_cell? w _ hx201_2)).trans hx201_2
                                          replace hx201_3 := (HB.out.cell (World.block_lt_of_cell? w _ hx201_3)).trans hx201_3
                                          replace hx201_4 := (HB.out.cell (World.block_lt_of_cell? w _ hx201_4)).trans hx201_4
                                          replace p201 := eq_true p201
                                          replace q201 := eq_true q201
                                          go_wp2_with (first | ((with_reducible refine gate_dst (N := 7) rfl ?_); refine box_event ?hg (N := 7) ?hd (cs := #[.bool false, .int .i64 0, .int .i64 0, .int .i64 0, .int .i64 0]) (t := 76) ?hr ?_; (case hd => rfl); (case hg => rfl); (case hr => first | (go_simp; done) | (go_simp; rfl)); intro gb202 hg w36 hbox hb; have n0_ := Aside0.mk (blk_below (g := gb196) (o := .cells #[.bool ((rd_T76 l0 x10_1).f0), .int .i64 ((rd_T76 l0 x10_1).f1.f0), .int .i64 ((rd_T76 l0 x10_1).f1.f1), .int .i64 ((rd_T76 l0 x10_1).f2), .int .i64 ((rd_T76 l0 x10_1).f3)] 76 (0, 0)) (by (with_reducible repeat (first | refine blk_drewN ?_ _ | refine blk_drew ?_ | refine blk_alloc ?_ _)); exact BK196.out) hb); have n1_ := Aside0.mk (below_step (by repeat (first | (with_reducible first | exact HB.out | apply below_alloc | apply pw_below_drewN | apply below_drew1 | refine below_set ?_ GE196.out) | exact HB.out)) hb); have n2_ := Aside0.mk (hbox); have n3_ := Aside0.mk ((by rw [hg]; exact (below_size (by repeat (first | (with_reducible first | exact HB.out | apply below_alloc | apply pw_below_drewN | apply below_drew1 | refine below_set ?_ GE196.out) | exact HB.out))) : w.heap.size ≤ gb202)); have n4_ := Aside0.mk ((by rw [hg]; exact (below_size (by repeat (first | (with_reducible first | exact HB.out | apply below_alloc | apply pw_below_drewN | apply below_drew1 | refine below_set ?_ GE196.out) | exact HB.out))) : w.heap.size ≤ gb202)); have n5_ := Aside0.mk ((by rw [hg]; exact Nat.ne_of_lt (blk_lt (g := gb196) (o := .cells #[.bool ((rd_T76 l0 x10_1).f0), .int .i64 ((rd_T76 l0 x10_1).f1.f0), .int .i64 ((rd_T76 l0 x10_1).f1.f1), .int .i64 ((rd_T76 l0 x10_1).f2), .int .i64 ((rd_T76 l0 x10_1).f3)] 76 (0, 0)) (by (with_reducible repeat (first | refine blk_drewN ?_ _ | refine blk_drew ?_ | refine blk_alloc ?_ _)); exact BK196.out)) : gb196 ≠ gb202)); have n6_ := Aside0.mk ((by rw [hg]; exact Nat.ne_of_gt (blk_lt (g := gb196) (o := .cells #[.bool ((rd_T76 l0 x10_1).f0), .int .i64 ((rd_T76 l0 x10_1).f1.f0), .int .i64 ((rd_T76 l0 x10_1).f1.f1), .int .i64 ((rd_T76 l0 x10_1).f2), .int .i64 ((rd_T76 l0 x10_1).f3)] 76 (0, 0)) (by (with_reducible repeat (first | refine blk_drewN ?_ _ | refine blk_drew ?_ | refine blk_alloc ?_ _)); exact BK196.out)) : gb202 ≠ gb196)); clear BK196; clear HB; have BK196 := n0_; have HB := n1_; have BK202 := n2_; have GW202 := n3_; have GE202 := n4_; have NB196_202 := n5_; have NB202_196 := n6_; clear n0_ n1_ n2_ n3_ n4_ n5_ n6_; clear hb hbox hg; have hnb37 := NB202_196.out; have hnc37 := NB196_202.out; have hcz38_0 : w36.cell? ⟨gb202, 0, none⟩ = some (.bool false) := (blk_cell BK202.out 0).trans rfl; have hcz38_1 : w36.cell? ⟨gb202, 1, none⟩ = some (.int .i64 0) := (blk_cell BK202.out 1).trans rfl; have hcz38_2 : w36.cell? ⟨gb202, 2, none⟩ = some (.int .i64 0) := (blk_cell BK202.out 2).trans rfl; have hcz38_3 : w36.cell? ⟨gb202, 3, none⟩ = some (.int .i64 0) := (blk_cell BK202.out 3).trans rfl; have hcz38_4 : w36.cell? ⟨gb202, 4, none⟩ = some (.int .i64 0) := (blk_cell BK202.out 4).trans rfl; have hfz38_0 := blk_frozen BK202.out 0; have hfz38_1 := blk_frozen BK202.out 1; have hfz38_2 := blk_frozen BK202.out 2; have hfz38_3 := blk_frozen BK202.out 3; have hfz38_4 := blk_frozen BK202.out 4; have hcz39_0 : w36.cell? ⟨gb196, 0, none⟩ = some (.bool ((rd_T76 l0 x10_1).f0)) := (blk_cell BK196.out 0).trans rfl; have hcz39_1 : w36.cell? ⟨gb196, 1, none⟩ = some (.int .i64 ((rd_T76 l0 x10_1).f1.f0)) := (blk_cell BK196.out 1).trans rfl; have hcz39_2 : w36.cell? ⟨gb196, 2, none⟩ = some (.int .i64 ((rd_T76 l0 x10_1).f1.f1)) := (blk_cell BK196.out 2).trans rfl; have hcz39_3 : w36.cell? ⟨gb196, 3, none⟩ = some (.int .i64 ((rd_T76 l0 x10_1).f2)) := (blk_cell BK196.out 3).trans rfl; have hcz39_4 : w36.cell? ⟨gb196, 4, none⟩ = some (.int .i64 ((rd_T76 l0 x10_1).f3)) := (blk_cell BK196.out 4).trans rfl; have hfz39_0 := blk_frozen BK196.out 0; have hfz39_1 := blk_frozen BK196.out 1; have hfz39_2 := blk_frozen BK196.out 2; have hfz39_3 := blk_frozen BK196.out 3; have hfz39_4 := blk_frozen BK196.out 4))
                                          go_roundg k4
                                          case measure => have := HK1.out; have := HJ4.out; have := HJ9.out; have := HK4.out; omega
                                          case rel => exact ⟨(wrap64 (x63_4 + 1)), (by first | rfl | (simp; done) | (simp [*]; done)), H', ⟨by have := HK1.out; have := HJ4.out; have := HJ9.out; have := HK4.out; omega⟩, ⟨by (with_reducible repeat (first | refine blk_drewN ?_ _ | refine blk_drew ?_ | refine blk_alloc ?_ _)); refine blk_far ?_ NB196_202.out _; (with_reducible repeat (first | refine blk_drewN ?_ _ | refine blk_drew ?_ | refine blk_alloc ?_ _)); refine blk_far ?_ NB196_202.out _; (with_reducible repeat (first | refine blk_drewN ?_ _ | refine blk_drew ?_ | refine blk_alloc ?_ _)); refine blk_far ?_ NB196_202.out _; (with_reducible repeat (first | refine blk_drewN ?_ _ | refine blk_drew ?_ | refine blk_alloc ?_ _)); refine blk_far ?_ NB196_202.out _; (with_reducible repeat (first | refine blk_drewN ?_ _ | refine blk_drew ?_ | refine blk_alloc ?_ _)); refine blk_far ?_ NB196_202.out _; (with_reducible repeat (first | refine blk_drewN ?_ _ | refine blk_drew ?_ | refine blk_alloc ?_ _)); exact BK196.out⟩, ⟨by repeat (first | (with_reducible first | exact HB.out | apply below_alloc | apply pw_below_drewN | apply below_drew1 | refine below_set ?_ GE196.out | refine below_set ?_ GE202.out) | exact HB.out)⟩⟩
                                      · rw [if_neg c30] at H
                                        have c30b0 : decide (((rd_T76 l0 x10_1).f1.f0) < ((rd_T76 y197 x63_4).f1.f1)) = false := decide_eq_false c30
                                        clear c30
                                        have H' := Aside0.mk H
                                        clear H
                                        have p201 : 0 ≤ (x63_4 : Int) := of_decide_eq_true (by first | (with_reducible assumption) | assumption)
                                        have q201 : x63_4 < (y197.length : Int) := of_decide_eq_true (by first | (with_reducible assumption) | assumption)
                                        obtain ⟨ad201, e201, hx201_0, hx201_1, hx201_2, hx201_3, hx201_4⟩ := at_T76 HR200.out x63_4 p201 q201
                                        obtain rfl : ad195 = ad201 := (by injection e201)
                                        replace hx201_0 := (HB.out.cell (World.block_lt_of_cell? w _ hx201_0)).trans hx201_0
                                        replace hx201_1 := (HB.out.cell (World.block_lt_of_cell? w _ hx201_1)).trans hx201_1
                                        replace hx201_2 := (HB.out.cell (World.block_lt_of_cell? w _ hx201_2)).trans hx201_2
                                        replace hx201_3 := (HB.out.cell (World.block_lt_of_cell? w _ hx201_3)).trans hx201_3
                                        replace hx201_4 := (HB.out.cell (World.block_lt_of_cell? w _ hx201_4)).trans hx201_4
                                        replace p201 := eq_true p201
                                        replace q201 := eq_true q201
                                        go_wp2_with (first | ((with_reducible refine gate_dst (N := 7) rfl ?_); refine box_event ?hg (N := 7) ?hd (cs := #[.bool false, .int .i64 0, .int .i64 0, .int .i64 0, .int .i64 0]) (t := 76) ?hr ?_; (case hd => rfl); (case hg => rfl); (case hr => first | (go_simp; done) | (go_simp; rfl)); intro gb202 hg w40 hbox hb; have n0_ := Aside0.mk (blk_below (g := gb196) (o := .cells #[.bool ((rd_T76 l0 x10_1).f0), .int .i64 ((rd_T76 l0 x10_1).f1.f0), .int .i64 ((rd_T76 l0 x10_1).f1.f1), .int .i64 ((rd_T76 l0 x10_1).f2), .int .i64 ((rd_T76 l0 x10_1).f3)] 76 (0, 0)) (by (with_reducible repeat (first | refine blk_drewN ?_ _ | refine blk_drew ?_ | refine blk_alloc ?_ _)); exact BK196.out) hb); have n1_ := Aside0.mk (below_step (by repeat (first | (with_reducible first | exact HB.out | apply below_alloc | apply pw_below_drewN | apply below_drew1 | refine below_set ?_ GE196.out) | exact HB.out)) hb); have n2_ := Aside0.mk (hbox); have n3_ := Aside0.mk ((by rw [hg]; exact (below_size (by repeat (first | (with_reducible first | exact HB.out | apply below_alloc | apply pw_below_drewN | apply below_drew1 | refine below_set ?_ GE196.out) | exact HB.out))) : w.heap.size ≤ gb202)); have n4_ := Aside0.mk ((by rw [hg]; exact (below_size (by repeat (first | (with_reducible first | exact HB.out | apply below_alloc | apply pw_below_drewN | apply below_drew1 | refine below_set ?_ GE196.out) | exact HB.out))) : w.heap.size ≤ gb202)); have n5_ := Aside0.mk ((by rw [hg]; exact Nat.ne_of_lt (blk_lt (g := gb196) (o := .cells #[.bool ((rd_T76 l0 x10_1).f0), .int .i64 ((rd_T76 l0 x10_1).f1.f0), .int .i64 ((rd_T76 l0 x10_1).f1.f1), .int .i64 ((rd_T76 l0 x10_1).f2), .int .i64 ((rd_T76 l0 x10_1).f3)] 76 (0, 0)) (by (with_reducible repeat (first | refine blk_drewN ?_ _ | refine blk_drew ?_ | refine blk_alloc ?_ _)); exact BK196.out)) : gb196 ≠ gb202)); have n6_ := Aside0.mk ((by rw [hg]; exact Nat.ne_of_gt (blk_lt (g := gb196) (o := .cells #[.bool ((rd_T76 l0 x10_1).f0), .int .i64 ((rd_T76 l0 x10_1).f1.f0), .int .i64 ((rd_T76 l0 x10_1).f1.f1), .int .i64 ((rd_T76 l0 x10_1).f2), .int .i64 ((rd_T76 l0 x10_1).f3)] 76 (0, 0)) (by (with_reducible repeat (first | refine blk_drewN ?_ _ | refine blk_drew ?_ | refine blk_alloc ?_ _)); exact BK196.out)) : gb202 ≠ gb196)); clear BK196; clear HB; have BK196 := n0_; have HB := n1_; have BK202 := n2_; have GW202 := n3_; have GE202 := n4_; have NB196_202 := n5_; have NB202_196 := n6_; clear n0_ n1_ n2_ n3_ n4_ n5_ n6_; clear hb hbox hg; have hnb41 := NB202_196.out; have hnc41 := NB196_202.out; have hcz42_0 : w40.cell? ⟨gb202, 0, none⟩ = some (.bool false) := (blk_cell BK202.out 0).trans rfl; have hcz42_1 : w40.cell? ⟨gb202, 1, none⟩ = some (.int .i64 0) := (blk_cell BK202.out 1).trans rfl; have hcz42_2 : w40.cell? ⟨gb202, 2, none⟩ = some (.int .i64 0) := (blk_cell BK202.out 2).trans rfl; have hcz42_3 : w40.cell? ⟨gb202, 3, none⟩ = some (.int .i64 0) := (blk_cell BK202.out 3).trans rfl; have hcz42_4 : w40.cell? ⟨gb202, 4, none⟩ = some (.int .i64 0) := (blk_cell BK202.out 4).trans rfl; have hfz42_0 := blk_frozen BK202.out 0; have hfz42_1 := blk_frozen BK202.out 1; have hfz42_2 := blk_frozen BK202.out 2; have hfz42_3 := blk_frozen BK202.out 3; have hfz42_4 := blk_frozen BK202.out 4; have hcz43_0 : w40.cell? ⟨gb196, 0, none⟩ = some (.bool ((rd_T76 l0 x10_1).f0)) := (blk_cell BK196.out 0).trans rfl; have hcz43_1 : w40.cell? ⟨gb196, 1, none⟩ = some (.int .i64 ((rd_T76 l0 x10_1).f1.f0)) := (blk_cell BK196.out 1).trans rfl; have hcz43_2 : w40.cell? ⟨gb196, 2, none⟩ = some (.int .i64 ((rd_T76 l0 x10_1).f1.f1)) := (blk_cell BK196.out 2).trans rfl; have hcz43_3 : w40.cell? ⟨gb196, 3, none⟩ = some (.int .i64 ((rd_T76 l0 x10_1).f2)) := (blk_cell BK196.out 3).trans rfl; have hcz43_4 : w40.cell? ⟨gb196, 4, none⟩ = some (.int .i64 ((rd_T76 l0 x10_1).f3)) := (blk_cell BK196.out 4).trans rfl; have hfz43_0 := blk_frozen BK196.out 0; have hfz43_1 := blk_frozen BK196.out 1; have hfz43_2 := blk_frozen BK196.out 2; have hfz43_3 := blk_frozen BK196.out 3; have hfz43_4 := blk_frozen BK196.out 4))
                                        go_roundg k4
                                        case measure => have := HK1.out; have := HJ4.out; have := HJ9.out; have := HK4.out; omega
                                        case rel => exact ⟨(wrap64 (x63_4 + 1)), (by first | rfl | (simp; done) | (simp [*]; done)), H', ⟨by have := HK1.out; have := HJ4.out; have := HJ9.out; have := HK4.out; omega⟩, ⟨by (with_reducible repeat (first | refine blk_drewN ?_ _ | refine blk_drew ?_ | refine blk_alloc ?_ _)); refine blk_far ?_ NB196_202.out _; (with_reducible repeat (first | refine blk_drewN ?_ _ | refine blk_drew ?_ | refine blk_alloc ?_ _)); refine blk_far ?_ NB196_202.out _; (with_reducible repeat (first | refine blk_drewN ?_ _ | refine blk_drew ?_ | refine blk_alloc ?_ _)); refine blk_far ?_ NB196_202.out _; (with_reducible repeat (first | refine blk_drewN ?_ _ | refine blk_drew ?_ | refine blk_alloc ?_ _)); refine blk_far ?_ NB196_202.out _; (with_reducible repeat (first | refine blk_drewN ?_ _ | refine blk_drew ?_ | refine blk_alloc ?_ _)); refine blk_far ?_ NB196_202.out _; (with_reducible repeat (first | refine blk_drewN ?_ _ | refine blk_drew ?_ | refine blk_alloc ?_ _)); exact BK196.out⟩, ⟨by repeat (first | (with_reducible first | exact HB.out | apply below_alloc | apply pw_below_drewN | apply below_drew1 | refine below_set ?_ GE196.out | refine below_set ?_ GE202.out) | exact HB.out)⟩⟩
                                    · rw [if_neg c29] at H
                                      have c29b0 : (((rd_T76 l0 x10_1).f0) == ((rd_T76 y197 x63_4).f0)) = false := by simpa using c29
                                      (try (have c29b1 : decide (((rd_T76 l0 x10_1).f0) = ((rd_T76 y197 x63_4).f0)) = false := by simpa using c29))
                                      (try (have c29b2 : (((rd_T76 l0 x10_1).f0) == ((rd_T76 y197 x63_4).f0)) = false := by simpa using c29))
                                      (try (have c29b3 : ¬ (((rd_T76 l0 x10_1).f0) = ((rd_T76 y197 x63_4).f0)) := by simpa using c29))
                                      clear c29
                                      have H' := Aside0.mk H
                                      clear H
                                      have p201 : 0 ≤ (x63_4 : Int) := of_decide_eq_true (by first | (with_reducible assumption) | assumption)
                                      have q201 : x63_4 < (y197.length : Int) := of_decide_eq_true (by first | (with_reducible assumption) | assumption)
                                      obtain ⟨ad201, e201, hx201_0, hx201_1, hx201_2, hx201_3, hx201_4⟩ := at_T76 HR200.out x63_4 p201 q201
                                      obtain rfl : ad195 = ad201 := (by injection e201)
                                      replace hx201_0 := (HB.out.cell (World.block_lt_of_cell? w _ hx201_0)).trans hx201_0
                                      replace hx201_1 := (HB.out.cell (World.block_lt_of_cell? w _ hx201_1)).trans hx201_1
                                      replace hx201_2 := (HB.out.cell (World.block_lt_of_cell? w _ hx201_2)).trans hx201_2
                                      replace hx201_3 := (HB.out.cell (World.block_lt_of_cell? w _ hx201_3)).trans hx201_3
                                      replace hx201_4 := (HB.out.cell (World.block_lt_of_cell? w _ hx201_4)).trans hx201_4
                                      replace p201 := eq_true p201
                                      replace q201 := eq_true q201
                                      go_wp2_with (first | ((with_reducible refine gate_dst (N := 7) rfl ?_); refine box_event ?hg (N := 7) ?hd (cs := #[.bool false, .int .i64 0, .int .i64 0, .int .i64 0, .int .i64 0]) (t := 76) ?hr ?_; (case hd => rfl); (case hg => rfl); (case hr => first | (go_simp; done) | (go_simp; rfl)); intro gb202 hg w44 hbox hb; have n0_ := Aside0.mk (blk_below (g := gb196) (o := .cells #[.bool ((rd_T76 l0 x10_1).f0), .int .i64 ((rd_T76 l0 x10_1).f1.f0), .int .i64 ((rd_T76 l0 x10_1).f1.f1), .int .i64 ((rd_T76 l0 x10_1).f2), .int .i64 ((rd_T76 l0 x10_1).f3)] 76 (0, 0)) (by (with_reducible repeat (first | refine blk_drewN ?_ _ | refine blk_drew ?_ | refine blk_alloc ?_ _)); exact BK196.out) hb); have n1_ := Aside0.mk (below_step (by repeat (first | (with_reducible first | exact HB.out | apply below_alloc | apply pw_below_drewN | apply below_drew1 | refine below_set ?_ GE196.out) | exact HB.out)) hb); have n2_ := Aside0.mk (hbox); have n3_ := Aside0.mk ((by rw [hg]; exact (below_size (by repeat (first | (with_reducible first | exact HB.out | apply below_alloc | apply pw_below_drewN | apply below_drew1 | refine below_set ?_ GE196.out) | exact HB.out))) : w.heap.size ≤ gb202)); have n4_ := Aside0.mk ((by rw [hg]; exact (below_size (by repeat (first | (with_reducible first | exact HB.out | apply below_alloc | apply pw_below_drewN | apply below_drew1 | refine below_set ?_ GE196.out) | exact HB.out))) : w.heap.size ≤ gb202)); have n5_ := Aside0.mk ((by rw [hg]; exact Nat.ne_of_lt (blk_lt (g := gb196) (o := .cells #[.bool ((rd_T76 l0 x10_1).f0), .int .i64 ((rd_T76 l0 x10_1).f1.f0), .int .i64 ((rd_T76 l0 x10_1).f1.f1), .int .i64 ((rd_T76 l0 x10_1).f2), .int .i64 ((rd_T76 l0 x10_1).f3)] 76 (0, 0)) (by (with_reducible repeat (first | refine blk_drewN ?_ _ | refine blk_drew ?_ | refine blk_alloc ?_ _)); exact BK196.out)) : gb196 ≠ gb202)); have n6_ := Aside0.mk ((by rw [hg]; exact Nat.ne_of_gt (blk_lt (g := gb196) (o := .cells #[.bool ((rd_T76 l0 x10_1).f0), .int .i64 ((rd_T76 l0 x10_1).f1.f0), .int .i64 ((rd_T76 l0 x10_1).f1.f1), .int .i64 ((rd_T76 l0 x10_1).f2), .int .i64 ((rd_T76 l0 x10_1).f3)] 76 (0, 0)) (by (with_reducible repeat (first | refine blk_drewN ?_ _ | refine blk_drew ?_ | refine blk_alloc ?_ _)); exact BK196.out)) : gb202 ≠ gb196)); clear BK196; clear HB; have BK196 := n0_; have HB := n1_; have BK202 := n2_; have GW202 := n3_; have GE202 := n4_; have NB196_202 := n5_; have NB202_196 := n6_; clear n0_ n1_ n2_ n3_ n4_ n5_ n6_; clear hb hbox hg; have hnb45 := NB202_196.out; have hnc45 := NB196_202.out; have hcz46_0 : w44.cell? ⟨gb202, 0, none⟩ = some (.bool false) := (blk_cell BK202.out 0).trans rfl; have hcz46_1 : w44.cell? ⟨gb202, 1, none⟩ = some (.int .i64 0) := (blk_cell BK202.out 1).trans rfl; have hcz46_2 : w44.cell? ⟨gb202, 2, none⟩ = some (.int .i64 0) := (blk_cell BK202.out 2).trans rfl; have hcz46_3 : w44.cell? ⟨gb202, 3, none⟩ = some (.int .i64 0) := (blk_cell BK202.out 3).trans rfl; have hcz46_4 : w44.cell? ⟨gb202, 4, none⟩ = some (.int .i64 0) := (blk_cell BK202.out 4).trans rfl; have hfz46_0 := blk_frozen BK202.out 0; have hfz46_1 := blk_frozen BK202.out 1; have hfz46_2 := blk_frozen BK202.out 2; have hfz46_3 := blk_frozen BK202.out 3; have hfz46_4 := blk_frozen BK202.out 4; have hcz47_0 : w44.cell? ⟨gb196, 0, none⟩ = some (.bool ((rd_T76 l0 x10_1).f0)) := (blk_cell BK196.out 0).trans rfl; have hcz47_1 : w44.cell? ⟨gb196, 1, none⟩ = some (.int .i64 ((rd_T76 l0 x10_1).f1.f0)) := (blk_cell BK196.out 1).trans rfl; have hcz47_2 : w44.cell? ⟨gb196, 2, none⟩ = some (.int .i64 ((rd_T76 l0 x10_1).f1.f1)) := (blk_cell BK196.out 2).trans rfl; have hcz47_3 : w44.cell? ⟨gb196, 3, none⟩ = some (.int .i64 ((rd_T76 l0 x10_1).f2)) := (blk_cell BK196.out 3).trans rfl; have hcz47_4 : w44.cell? ⟨gb196, 4, none⟩ = some (.int .i64 ((rd_T76 l0 x10_1).f3)) := (blk_cell BK196.out 4).trans rfl; have hfz47_0 := blk_frozen BK196.out 0; have hfz47_1 := blk_frozen BK196.out 1; have hfz47_2 := blk_frozen BK196.out 2; have hfz47_3 := blk_frozen BK196.out 3; have hfz47_4 := blk_frozen BK196.out 4))
                                      go_roundg k4
                                      case measure => have := HK1.out; have := HJ4.out; have := HJ9.out; have := HK4.out; omega
                                      case rel => exact ⟨(wrap64 (x63_4 + 1)), (by first | rfl | (simp; done) | (simp [*]; done)), H', ⟨by have := HK1.out; have := HJ4.out; have := HJ9.out; have := HK4.out; omega⟩, ⟨by (with_reducible repeat (first | refine blk_drewN ?_ _ | refine blk_drew ?_ | refine blk_alloc ?_ _)); refine blk_far ?_ NB196_202.out _; (with_reducible repeat (first | refine blk_drewN ?_ _ | refine blk_drew ?_ | refine blk_alloc ?_ _)); refine blk_far ?_ NB196_202.out _; (with_reducible repeat (first | refine blk_drewN ?_ _ | refine blk_drew ?_ | refine blk_alloc ?_ _)); refine blk_far ?_ NB196_202.out _; (with_reducible repeat (first | refine blk_drewN ?_ _ | refine blk_drew ?_ | refine blk_alloc ?_ _)); refine blk_far ?_ NB196_202.out _; (with_reducible repeat (first | refine blk_drewN ?_ _ | refine blk_drew ?_ | refine blk_alloc ?_ _)); refine blk_far ?_ NB196_202.out _; (with_reducible repeat (first | refine blk_drewN ?_ _ | refine blk_drew ?_ | refine blk_alloc ?_ _)); exact BK196.out⟩, ⟨by repeat (first | (with_reducible first | exact HB.out | apply below_alloc | apply pw_below_drewN | apply below_drew1 | refine below_set ?_ GE196.out | refine below_set ?_ GE202.out) | exact HB.out)⟩⟩
                                  · rw [if_neg c28] at H
                                    exact absurd H (by simp)
                                · rw [if_neg c27] at H
                                  exact absurd H (by simp)
                              · rw [if_neg c26] at H
                                have c26b0 : decide (x63_4 < (y197.length : Int)) = false := decide_eq_false c26
                                clear c26
                                have H' := Aside0.mk H
                                clear H
                                go_wp2
                                go_roundg k4
                                case measure => have := HK1.out; have := HJ4.out; have := HJ9.out; have := HK4.out; omega
                                case rel => exact ⟨(wrap64 (x10_1 + 1)), (by first | rfl | (simp; done) | (simp [*]; done)), H', ⟨by have := HK1.out; have := HJ4.out; have := HJ9.out; have := HK4.out; omega⟩, ⟨by repeat (first | (with_reducible first | exact HB.out | apply below_alloc | apply pw_below_drewN | apply below_drew1 | refine below_set ?_ GE196.out) | exact HB.out)⟩⟩
                        · rw [if_neg c24] at H
                          exact absurd H (by simp)
                      · rw [if_neg c23] at H
                        exact absurd H (by simp)
          · rw [if_neg c4] at H
            exact absurd H (by simp)
        · rw [if_neg c3] at H
          exact absurd H (by simp)
      · rw [if_neg c2] at H
        have c2b0 : decide (x10_1 < (l0.length : Int)) = false := decide_eq_false c2
        clear c2
        obtain rfl := Option.some.inj H
        go_wp2
        go_ret
        exact ⟨by first | rfl | (simp [errW_none, errW_some] <;> rfl) | (simp [*, errW_none, errW_some] <;> rfl), by repeat (first | (with_reducible first | exact HB.out | apply below_alloc | apply pw_below_drewN | apply below_drew1) | exact HB.out)⟩

end Go.Proofs.Ytdgegoefehmfmaa.QScratchBest
