-- Written for this claim by this session's own program (wip/pp).
import Derived.Test.YtdgegoefehmfmaaQScratchPlacesx0
import Derived.Test.YtdgegoefehmfmaaQScratchPlacesx5
namespace Go.Proofs.Ytdgegoefehmfmaa.QScratchPlaces
open Go.RowKit Go.Proofs.YtdgegoefehmfmaaW.PrintWords Go.Proofs.YtdgegoefehmfmaaW.PrintLast Go.Proofs.YtdgegoefehmfmaaW.PrintMore
attribute [local go_sem] max2_int min2_int max_two min_two max_three min_three max_four min_four   -- for this text's walks alone
set_option linter.unusedVariables false
set_option linter.unusedSimpArgs false

/-! ### timing_Check: function 94 -/
def timing_Check.l0 : Nat → List Int → Int → Int → Int → Int → Int → Int → Int → Int → Int → Int → Int → Int → Int → Int → Int → Int → Int → List (S74) → List (S74) → Option (Int)
  | 0, _, _, _, _, _, _, _, _, _, _, _, _, _, _, _, _, _, _, _, _ => none
  | k + 1, x31, x32, x33, x170000, x170001, x170002, x170003, x170004, x170005, x170006, x170007, x170008, x170009, x170010, x170011, x170012, x170013, x170014, x170015, x170016 => if x33 < x32 then (if 0 ≤ x33 then (if x33 < (x31.length : Int) then ((timing_between.f (rd x31 x33) 0 100).bind fun t176 => (if t176 = true then (timing_Check.l0 k x31 x32 (wrap64 (x33 + 1)) x170000 x170001 x170002 x170003 x170004 x170005 x170006 x170007 x170008 x170009 x170010 x170011 x170012 x170013 x170014 x170015 x170016) else (some 3))) else (none)) else (none)) else ((timing_between.f x170007 0 8).bind fun t177 => (if t177 = true then ((timing_between.f x170008 1 16).bind fun t178 => (if t178 = true then ((timing_between.f x170010 0 16).bind fun t179 => (if t179 = true then ((timing_placed.f x170015 1024).bind fun t180 => (if t180 = true then ((timing_placed.f x170016 1024).bind fun t181 => (if t181 = true then (some 0) else (some 3))) else (some 3))) else (none))) else (none))) else (none)))
def timing_Check.f (k : Nat) (a0_0 : Int) (a0_1 : Int) (a0_2 : Int) (a0_3 : Int) (a0_4 : Int) (a0_5 : Int) (a0_6 : Int) (a0_7 : Int) (a0_8 : Int) (a0_9 : Int) (a0_10 : Int) (a0_11 : Int) (a0_12 : Int) (a0_13 : Int) (a0_14 : Int) (l0_15 : List (S74)) (l0_16 : List (S74)) : Option (Int) := (cache_Check.f a0_0 a0_1 a0_2).bind fun t170 => (if t170 = 0 then ((cache_Check.f a0_3 a0_4 a0_5).bind fun t171 => (if t171 = 0 then ((some (([a0_6, a0_9, a0_11, a0_12, a0_13, a0_14] : List Int) : List Int)).bind fun y172 => (timing_Check.l0 k y172 (y172.length : Int) 0 a0_0 a0_1 a0_2 a0_3 a0_4 a0_5 a0_6 a0_7 a0_8 a0_9 a0_10 a0_11 a0_12 a0_13 a0_14 l0_15 l0_16)) else (none))) else (none))
theorem timing_Check.mono_l : ∀ k, (∀ y0 y1 y2 y3 y4 y5 y6 y7 y8 y9 y10 y11 y12 y13 y14 y15 y16 y17 y18 y19, LeO (timing_Check.l0 k y0 y1 y2 y3 y4 y5 y6 y7 y8 y9 y10 y11 y12 y13 y14 y15 y16 y17 y18 y19) (timing_Check.l0 (k + 1) y0 y1 y2 y3 y4 y5 y6 y7 y8 y9 y10 y11 y12 y13 y14 y15 y16 y17 y18 y19))
  | 0 => fun _ _ _ _ _ _ _ _ _ _ _ _ _ _ _ _ _ _ _ _ r h => by simp [timing_Check.l0] at h
  | k + 1 => by
    have ih0 := timing_Check.mono_l k
    · intro y0 y1 y2 y3 y4 y5 y6 y7 y8 y9 y10 y11 y12 y13 y14 y15 y16 y17 y18 y19
      unfold timing_Check.l0
      repeat' first
      | (with_reducible exact ih0 _ _ _ _ _ _ _ _ _ _ _ _ _ _ _ _ _ _ _ _)
      | (with_reducible exact LeO.refl _)
      | (with_reducible exact LeO.none _)
      | (with_reducible refine LeO.ite ?_ ?_)
      | (with_reducible refine LeO.bind ?_ (fun _ => ?_))
      | exact ih0 _ _ _ _ _ _ _ _ _ _ _ _ _ _ _ _ _ _ _ _
      | exact LeO.none _
      | refine LeO.ite ?_ ?_
      | refine LeO.bind ?_ (fun _ => ?_)
theorem timing_Check.mono : ∀ a0 a1 a2 a3 a4 a5 a6 a7 a8 a9 a10 a11 a12 a13 a14 a15 a16 k, LeO (timing_Check.f k a0 a1 a2 a3 a4 a5 a6 a7 a8 a9 a10 a11 a12 a13 a14 a15 a16) (timing_Check.f (k + 1) a0 a1 a2 a3 a4 a5 a6 a7 a8 a9 a10 a11 a12 a13 a14 a15 a16) := by
  intro a0 a1 a2 a3 a4 a5 a6 a7 a8 a9 a10 a11 a12 a13 a14 a15 a16 k
  have ih0 := timing_Check.mono_l k
  unfold timing_Check.f
  repeat' first
      | (with_reducible exact ih0 _ _ _ _ _ _ _ _ _ _ _ _ _ _ _ _ _ _ _ _)
      | (with_reducible exact LeO.refl _)
      | (with_reducible exact LeO.none _)
      | (with_reducible refine LeO.ite ?_ ?_)
      | (with_reducible refine LeO.bind ?_ (fun _ => ?_))
      | exact ih0 _ _ _ _ _ _ _ _ _ _ _ _ _ _ _ _ _ _ _ _
      | exact LeO.none _
      | refine LeO.ite ?_ ?_
      | refine LeO.bind ?_ (fun _ => ?_)
set_option maxHeartbeats 8000000 in
set_option maxRecDepth 100000 in
theorem timing_Check.calls (k : Nat) (a0_0 : Int) (a0_1 : Int) (a0_2 : Int) (a0_3 : Int) (a0_4 : Int) (a0_5 : Int) (a0_6 : Int) (a0_7 : Int) (a0_8 : Int) (a0_9 : Int) (a0_10 : Int) (a0_11 : Int) (a0_12 : Int) (a0_13 : Int) (a0_14 : Int) (A0_15 : Option Addr) (c0_15 : Nat) (l0_15 : List (S74)) (A0_16 : Option Addr) (c0_16 : Nat) (l0_16 : List (S74)) (r : Int) (w : World) (hr0_15 : Kd.C k74 w A0_15 l0_15.length l0_15) (hc0_15 : l0_15.length ≤ c0_15) (hr0_16 : Kd.C k74 w A0_16 l0_16.length l0_16) (hc0_16 : l0_16.length ≤ c0_16) (h : timing_Check.f k a0_0 a0_1 a0_2 a0_3 a0_4 a0_5 a0_6 a0_7 a0_8 a0_9 a0_10 a0_11 a0_12 a0_13 a0_14 l0_15 l0_16 = some r) :
    Calls Try.prog 94 #[.agg #[.int .i64 a0_0, .int .i64 a0_1, .int .i64 a0_2, .int .i64 a0_3, .int .i64 a0_4, .int .i64 a0_5, .int .i64 a0_6, .int .i64 a0_7, .int .i64 a0_8, .int .i64 a0_9, .int .i64 a0_10, .int .i64 a0_11, .int .i64 a0_12, .int .i64 a0_13, .int .i64 a0_14, .slice A0_15 l0_15.length c0_15, .slice A0_16 l0_16.length c0_16]] w fun e w' => e = .returned (.int .i64 r) ∧ Below w.heap.size w w' := by
  have hu68 := Try.underlying68
  have hu65 := Try.underlying65
  have HR0_15 := Aside0.mk hr0_15
  have HC0_15 := Aside0.mk hc0_15
  clear hr0_15 hc0_15
  have HR0_16 := Aside0.mk hr0_16
  have HC0_16 := Aside0.mk hc0_16
  clear hr0_16 hc0_16
  have HB := Aside0.mk (Below.refl w.heap.size w)
  have H : ((cache_Check.f a0_0 a0_1 a0_2).bind fun t170 => (if t170 = 0 then ((cache_Check.f a0_3 a0_4 a0_5).bind fun t171 => (if t171 = 0 then ((some (([a0_6, a0_9, a0_11, a0_12, a0_13, a0_14] : List Int) : List Int)).bind fun y172 => (timing_Check.l0 k y172 (y172.length : Int) 0 a0_0 a0_1 a0_2 a0_3 a0_4 a0_5 a0_6 a0_7 a0_8 a0_9 a0_10 a0_11 a0_12 a0_13 a0_14 l0_15 l0_16)) else (none))) else (none))) = some r := h
  clear h
  replace H := Option.bind_eq_some_iff.mp H
  obtain ⟨t170, A20, H⟩ := H
  replace H : (if t170 = 0 then ((cache_Check.f a0_3 a0_4 a0_5).bind fun t171 => (if t171 = 0 then ((some (([a0_6, a0_9, a0_11, a0_12, a0_13, a0_14] : List Int) : List Int)).bind fun y172 => (timing_Check.l0 k y172 (y172.length : Int) 0 a0_0 a0_1 a0_2 a0_3 a0_4 a0_5 a0_6 a0_7 a0_8 a0_9 a0_10 a0_11 a0_12 a0_13 a0_14 l0_15 l0_16)) else (none))) else (none)) = some r := H
  have A2 := Aside0.mk A20
  clear A20
  by_cases c3 : t170 = 0
  · rw [if_pos c3] at H
    have c3b0 : (t170 == 0) = true := beq_iff_eq.mpr c3
    have c3b1 : (t170 != 0) = false := bne_eq_false_iff_eq.mpr c3
    clear c3
    replace H := Option.bind_eq_some_iff.mp H
    obtain ⟨t171, A40, H⟩ := H
    replace H : (if t171 = 0 then ((some (([a0_6, a0_9, a0_11, a0_12, a0_13, a0_14] : List Int) : List Int)).bind fun y172 => (timing_Check.l0 k y172 (y172.length : Int) 0 a0_0 a0_1 a0_2 a0_3 a0_4 a0_5 a0_6 a0_7 a0_8 a0_9 a0_10 a0_11 a0_12 a0_13 a0_14 l0_15 l0_16)) else (none)) = some r := H
    have A4 := Aside0.mk A40
    clear A40
    by_cases c5 : t171 = 0
    · rw [if_pos c5] at H
      have c5b0 : (t171 == 0) = true := beq_iff_eq.mpr c5
      have c5b1 : (t171 != 0) = false := bne_eq_false_iff_eq.mpr c5
      clear c5
      obtain ⟨y172, hy172⟩ : ∃ y_ : List Int, y_ = (([a0_6, a0_9, a0_11, a0_12, a0_13, a0_14] : List Int)) := ⟨_, rfl⟩
      replace H : (timing_Check.l0 k y172 (y172.length : Int) 0 a0_0 a0_1 a0_2 a0_3 a0_4 a0_5 a0_6 a0_7 a0_8 a0_9 a0_10 a0_11 a0_12 a0_13 a0_14 l0_15 l0_16) = some r := by first | (rw [hy172]; with_reducible exact H) | (have H2_ := (Option.bind_some _ _).symm.trans H; rw [hy172]; with_reducible exact H2_) | (have H2_ := (Option.bind_some _ _).symm.trans H; with_reducible exact H2_) | with_reducible exact H | (rw [hy172]; exact H) | exact H
      have Ny172 := Aside0.mk hy172
      clear hy172
      have H' := Aside0.mk H
      clear H
      go_enter Try.func94, Try.ntmps94
      go_wp2_with (first | ((with_reducible refine gate_dst (N := 1) rfl ?_); refine box_event ?hg (N := 1) ?hd (cs := #[.int .i64 a0_0, .int .i64 a0_1, .int .i64 a0_2, .int .i64 a0_3, .int .i64 a0_4, .int .i64 a0_5, .int .i64 a0_6, .int .i64 a0_7, .int .i64 a0_8, .int .i64 a0_9, .int .i64 a0_10, .int .i64 a0_11, .int .i64 a0_12, .int .i64 a0_13, .int .i64 a0_14, .slice A0_15 l0_15.length c0_15, .slice A0_16 l0_16.length c0_16]) (t := 68) ?hr ?_; (case hd => rfl); (case hg => rfl); (case hr => first | (go_simp; done) | (go_simp; rfl)); intro gb169 hg w6 hbox hb; have n0_ := Aside0.mk (below_step (by repeat (first | (with_reducible first | exact HB.out | apply below_alloc | apply pw_below_drewN | apply below_drew1) | exact HB.out)) hb); have n1_ := Aside0.mk (hbox); have n2_ := Aside0.mk ((by rw [hg]; exact (below_size (by repeat (first | (with_reducible first | exact HB.out | apply below_alloc | apply pw_below_drewN | apply below_drew1) | exact HB.out))) : w.heap.size ≤ gb169)); have n3_ := Aside0.mk ((by rw [hg]; exact (below_size (by repeat (first | (with_reducible first | exact HB.out | apply below_alloc | apply pw_below_drewN | apply below_drew1) | exact HB.out))) : w.heap.size ≤ gb169)); clear HB; have HB := n0_; have BK169 := n1_; have GW169 := n2_; have GE169 := n3_; clear n0_ n1_ n2_ n3_; clear hb hbox hg; have hcz7_0 : w6.cell? ⟨gb169, 0, none⟩ = some (.int .i64 a0_0) := (blk_cell BK169.out 0).trans rfl; have hcz7_1 : w6.cell? ⟨gb169, 1, none⟩ = some (.int .i64 a0_1) := (blk_cell BK169.out 1).trans rfl; have hcz7_2 : w6.cell? ⟨gb169, 2, none⟩ = some (.int .i64 a0_2) := (blk_cell BK169.out 2).trans rfl; have hcz7_3 : w6.cell? ⟨gb169, 3, none⟩ = some (.int .i64 a0_3) := (blk_cell BK169.out 3).trans rfl; have hcz7_4 : w6.cell? ⟨gb169, 4, none⟩ = some (.int .i64 a0_4) := (blk_cell BK169.out 4).trans rfl; have hcz7_5 : w6.cell? ⟨gb169, 5, none⟩ = some (.int .i64 a0_5) := (blk_cell BK169.out 5).trans rfl; have hcz7_6 : w6.cell? ⟨gb169, 6, none⟩ = some (.int .i64 a0_6) := (blk_cell BK169.out 6).trans rfl; have hcz7_7 : w6.cell? ⟨gb169, 7, none⟩ = some (.int .i64 a0_7) := (blk_cell BK169.out 7).trans rfl; have hcz7_8 : w6.cell? ⟨gb169, 8, none⟩ = some (.int .i64 a0_8) := (blk_cell BK169.out 8).trans rfl; have hcz7_9 : w6.cell? ⟨gb169, 9, none⟩ = some (.int .i64 a0_9) := (blk_cell BK169.out 9).trans rfl; have hcz7_10 : w6.cell? ⟨gb169, 10, none⟩ = some (.int .i64 a0_10) := (blk_cell BK169.out 10).trans rfl; have hcz7_11 : w6.cell? ⟨gb169, 11, none⟩ = some (.int .i64 a0_11) := (blk_cell BK169.out 11).trans rfl; have hcz7_12 : w6.cell? ⟨gb169, 12, none⟩ = some (.int .i64 a0_12) := (blk_cell BK169.out 12).trans rfl; have hcz7_13 : w6.cell? ⟨gb169, 13, none⟩ = some (.int .i64 a0_13) := (blk_cell BK169.out 13).trans rfl; have hcz7_14 : w6.cell? ⟨gb169, 14, none⟩ = some (.int .i64 a0_14) := (blk_cell BK169.out 14).trans rfl; have hcz7_15 : w6.cell? ⟨gb169, 15, none⟩ = some (.slice A0_15 l0_15.length c0_15) := (blk_cell BK169.out 15).trans rfl; have hcz7_16 : w6.cell? ⟨gb169, 16, none⟩ = some (.slice A0_16 l0_16.length c0_16) := (blk_cell BK169.out 16).trans rfl; have hfz7_0 := blk_frozen BK169.out 0; have hfz7_1 := blk_frozen BK169.out 1; have hfz7_2 := blk_frozen BK169.out 2; have hfz7_3 := blk_frozen BK169.out 3; have hfz7_4 := blk_frozen BK169.out 4; have hfz7_5 := blk_frozen BK169.out 5; have hfz7_6 := blk_frozen BK169.out 6; have hfz7_7 := blk_frozen BK169.out 7; have hfz7_8 := blk_frozen BK169.out 8; have hfz7_9 := blk_frozen BK169.out 9; have hfz7_10 := blk_frozen BK169.out 10; have hfz7_11 := blk_frozen BK169.out 11; have hfz7_12 := blk_frozen BK169.out 12; have hfz7_13 := blk_frozen BK169.out 13; have hfz7_14 := blk_frozen BK169.out 14; have hfz7_15 := blk_frozen BK169.out 15; have hfz7_16 := blk_frozen BK169.out 16) | ((with_reducible refine gate_callee (f := 131) rfl ?_); refine goesL_ (some 9) rfl rfl Try.func131 (by kernel_rfl) rfl #[.agg #[.int .i64 a0_0, .int .i64 a0_1, .int .i64 a0_2]] rfl (by (try simp only [List.map_toArray, List.map_cons, List.map_nil]); first | done | rfl | (simp only [List.length_drop, List.length_take]; rfl)) ?_; (with_reducible refine (cache_Check.calls a0_0 a0_1 a0_2 t170 _ A2.out).mono ?_); rintro e w8 ⟨rfl, hb⟩; refine ⟨_, rfl, ?_⟩; have n0_ := Aside0.mk (blk_below (g := gb169) (o := .cells #[.int .i64 a0_0, .int .i64 a0_1, .int .i64 a0_2, .int .i64 a0_3, .int .i64 a0_4, .int .i64 a0_5, .int .i64 a0_6, .int .i64 a0_7, .int .i64 a0_8, .int .i64 a0_9, .int .i64 a0_10, .int .i64 a0_11, .int .i64 a0_12, .int .i64 a0_13, .int .i64 a0_14, .slice A0_15 l0_15.length c0_15, .slice A0_16 l0_16.length c0_16] 68 (0, 0)) (by (with_reducible repeat (first | refine blk_drewN ?_ _ | refine blk_drew ?_ | refine blk_alloc ?_ _)); exact BK169.out) hb); have n1_ := Aside0.mk (below_step (by repeat (first | (with_reducible first | exact HB.out | apply below_alloc | apply pw_below_drewN | apply below_drew1 | refine below_set ?_ GE169.out) | exact HB.out)) hb); clear BK169; clear HB; have BK169 := n0_; have HB := n1_; clear n0_ n1_; (try clear hb); (try clear hb2); (try clear hk); (try clear hi); have hcz9_0 : w8.cell? ⟨gb169, 0, none⟩ = some (.int .i64 a0_0) := (blk_cell BK169.out 0).trans rfl; have hcz9_1 : w8.cell? ⟨gb169, 1, none⟩ = some (.int .i64 a0_1) := (blk_cell BK169.out 1).trans rfl; have hcz9_2 : w8.cell? ⟨gb169, 2, none⟩ = some (.int .i64 a0_2) := (blk_cell BK169.out 2).trans rfl; have hcz9_3 : w8.cell? ⟨gb169, 3, none⟩ = some (.int .i64 a0_3) := (blk_cell BK169.out 3).trans rfl; have hcz9_4 : w8.cell? ⟨gb169, 4, none⟩ = some (.int .i64 a0_4) := (blk_cell BK169.out 4).trans rfl; have hcz9_5 : w8.cell? ⟨gb169, 5, none⟩ = some (.int .i64 a0_5) := (blk_cell BK169.out 5).trans rfl; have hcz9_6 : w8.cell? ⟨gb169, 6, none⟩ = some (.int .i64 a0_6) := (blk_cell BK169.out 6).trans rfl; have hcz9_7 : w8.cell? ⟨gb169, 7, none⟩ = some (.int .i64 a0_7) := (blk_cell BK169.out 7).trans rfl; have hcz9_8 : w8.cell? ⟨gb169, 8, none⟩ = some (.int .i64 a0_8) := (blk_cell BK169.out 8).trans rfl; have hcz9_9 : w8.cell? ⟨gb169, 9, none⟩ = some (.int .i64 a0_9) := (blk_cell BK169.out 9).trans rfl; have hcz9_10 : w8.cell? ⟨gb169, 10, none⟩ = some (.int .i64 a0_10) := (blk_cell BK169.out 10).trans rfl; have hcz9_11 : w8.cell? ⟨gb169, 11, none⟩ = some (.int .i64 a0_11) := (blk_cell BK169.out 11).trans rfl; have hcz9_12 : w8.cell? ⟨gb169, 12, none⟩ = some (.int .i64 a0_12) := (blk_cell BK169.out 12).trans rfl; have hcz9_13 : w8.cell? ⟨gb169, 13, none⟩ = some (.int .i64 a0_13) := (blk_cell BK169.out 13).trans rfl; have hcz9_14 : w8.cell? ⟨gb169, 14, none⟩ = some (.int .i64 a0_14) := (blk_cell BK169.out 14).trans rfl; have hcz9_15 : w8.cell? ⟨gb169, 15, none⟩ = some (.slice A0_15 l0_15.length c0_15) := (blk_cell BK169.out 15).trans rfl; have hcz9_16 : w8.cell? ⟨gb169, 16, none⟩ = some (.slice A0_16 l0_16.length c0_16) := (blk_cell BK169.out 16).trans rfl; have hfz9_0 := blk_frozen BK169.out 0; have hfz9_1 := blk_frozen BK169.out 1; have hfz9_2 := blk_frozen BK169.out 2; have hfz9_3 := blk_frozen BK169.out 3; have hfz9_4 := blk_frozen BK169.out 4; have hfz9_5 := blk_frozen BK169.out 5; have hfz9_6 := blk_frozen BK169.out 6; have hfz9_7 := blk_frozen BK169.out 7; have hfz9_8 := blk_frozen BK169.out 8; have hfz9_9 := blk_frozen BK169.out 9; have hfz9_10 := blk_frozen BK169.out 10; have hfz9_11 := blk_frozen BK169.out 11; have hfz9_12 := blk_frozen BK169.out 12; have hfz9_13 := blk_frozen BK169.out 13; have hfz9_14 := blk_frozen BK169.out 14; have hfz9_15 := blk_frozen BK169.out 15; have hfz9_16 := blk_frozen BK169.out 16) | ((with_reducible refine gate_callee (f := 131) rfl ?_); refine goesL_ (some 15) rfl rfl Try.func131 (by kernel_rfl) rfl #[.agg #[.int .i64 a0_3, .int .i64 a0_4, .int .i64 a0_5]] rfl (by (try simp only [List.map_toArray, List.map_cons, List.map_nil]); first | done | rfl | (simp only [List.length_drop, List.length_take]; rfl)) ?_; (with_reducible refine (cache_Check.calls a0_3 a0_4 a0_5 t171 _ A4.out).mono ?_); rintro e w10 ⟨rfl, hb⟩; refine ⟨_, rfl, ?_⟩; have n0_ := Aside0.mk (blk_below (g := gb169) (o := .cells #[.int .i64 a0_0, .int .i64 a0_1, .int .i64 a0_2, .int .i64 a0_3, .int .i64 a0_4, .int .i64 a0_5, .int .i64 a0_6, .int .i64 a0_7, .int .i64 a0_8, .int .i64 a0_9, .int .i64 a0_10, .int .i64 a0_11, .int .i64 a0_12, .int .i64 a0_13, .int .i64 a0_14, .slice A0_15 l0_15.length c0_15, .slice A0_16 l0_16.length c0_16] 68 (0, 0)) (by (with_reducible repeat (first | refine blk_drewN ?_ _ | refine blk_drew ?_ | refine blk_alloc ?_ _)); exact BK169.out) hb); have n1_ := Aside0.mk (below_step (by repeat (first | (with_reducible first | exact HB.out | apply below_alloc | apply pw_below_drewN | apply below_drew1 | refine below_set ?_ GE169.out) | exact HB.out)) hb); clear BK169; clear HB; have BK169 := n0_; have HB := n1_; clear n0_ n1_; (try clear hb); (try clear hb2); (try clear hk); (try clear hi); have hcz11_0 : w10.cell? ⟨gb169, 0, none⟩ = some (.int .i64 a0_0) := (blk_cell BK169.out 0).trans rfl; have hcz11_1 : w10.cell? ⟨gb169, 1, none⟩ = some (.int .i64 a0_1) := (blk_cell BK169.out 1).trans rfl; have hcz11_2 : w10.cell? ⟨gb169, 2, none⟩ = some (.int .i64 a0_2) := (blk_cell BK169.out 2).trans rfl; have hcz11_3 : w10.cell? ⟨gb169, 3, none⟩ = some (.int .i64 a0_3) := (blk_cell BK169.out 3).trans rfl; have hcz11_4 : w10.cell? ⟨gb169, 4, none⟩ = some (.int .i64 a0_4) := (blk_cell BK169.out 4).trans rfl; have hcz11_5 : w10.cell? ⟨gb169, 5, none⟩ = some (.int .i64 a0_5) := (blk_cell BK169.out 5).trans rfl; have hcz11_6 : w10.cell? ⟨gb169, 6, none⟩ = some (.int .i64 a0_6) := (blk_cell BK169.out 6).trans rfl; have hcz11_7 : w10.cell? ⟨gb169, 7, none⟩ = some (.int .i64 a0_7) := (blk_cell BK169.out 7).trans rfl; have hcz11_8 : w10.cell? ⟨gb169, 8, none⟩ = some (.int .i64 a0_8) := (blk_cell BK169.out 8).trans rfl; have hcz11_9 : w10.cell? ⟨gb169, 9, none⟩ = some (.int .i64 a0_9) := (blk_cell BK169.out 9).trans rfl; have hcz11_10 : w10.cell? ⟨gb169, 10, none⟩ = some (.int .i64 a0_10) := (blk_cell BK169.out 10).trans rfl; have hcz11_11 : w10.cell? ⟨gb169, 11, none⟩ = some (.int .i64 a0_11) := (blk_cell BK169.out 11).trans rfl; have hcz11_12 : w10.cell? ⟨gb169, 12, none⟩ = some (.int .i64 a0_12) := (blk_cell BK169.out 12).trans rfl; have hcz11_13 : w10.cell? ⟨gb169, 13, none⟩ = some (.int .i64 a0_13) := (blk_cell BK169.out 13).trans rfl; have hcz11_14 : w10.cell? ⟨gb169, 14, none⟩ = some (.int .i64 a0_14) := (blk_cell BK169.out 14).trans rfl; have hcz11_15 : w10.cell? ⟨gb169, 15, none⟩ = some (.slice A0_15 l0_15.length c0_15) := (blk_cell BK169.out 15).trans rfl; have hcz11_16 : w10.cell? ⟨gb169, 16, none⟩ = some (.slice A0_16 l0_16.length c0_16) := (blk_cell BK169.out 16).trans rfl; have hfz11_0 := blk_frozen BK169.out 0; have hfz11_1 := blk_frozen BK169.out 1; have hfz11_2 := blk_frozen BK169.out 2; have hfz11_3 := blk_frozen BK169.out 3; have hfz11_4 := blk_frozen BK169.out 4; have hfz11_5 := blk_frozen BK169.out 5; have hfz11_6 := blk_frozen BK169.out 6; have hfz11_7 := blk_frozen BK169.out 7; have hfz11_8 := blk_frozen BK169.out 8; have hfz11_9 := blk_frozen BK169.out 9; have hfz11_10 := blk_frozen BK169.out 10; have hfz11_11 := blk_frozen BK169.out 11; have hfz11_12 := blk_frozen BK169.out 12; have hfz11_13 := blk_frozen BK169.out 13; have hfz11_14 := blk_frozen BK169.out 14; have hfz11_15 := blk_frozen BK169.out 15; have hfz11_16 := blk_frozen BK169.out 16) | ((with_reducible refine gate_dst (N := 31) rfl ?_); refine Kd.R_lit (Kd.int .i64) _ 3 ?hg (N := 31) ?hd (xs := ([a0_6, a0_9, a0_11, a0_12, a0_13, a0_14] : List Int)) (inner := [.int .i64 a0_6, .int .i64 a0_9, .int .i64 a0_11, .int .i64 a0_12, .int .i64 a0_13, .int .i64 a0_14]) (ok := fun _ => True) (okp := fun _ => True) ?hr ?hp (fun _ hk => hk) trivial (Below.refl _ _) (Nat.le_refl _) (by simp) ?_; (case hd => rfl); (case hg => rfl); (case hr => first | (go_simp; done) | (go_simp; rfl)); (case hp => exact (Reps.one (show Kd.M (Kd.int .i64) _ _ _ a0_6 [.int .i64 a0_6] from rfl) (Reps.one (show Kd.M (Kd.int .i64) _ _ _ a0_9 [.int .i64 a0_9] from rfl) (Reps.one (show Kd.M (Kd.int .i64) _ _ _ a0_11 [.int .i64 a0_11] from rfl) (Reps.one (show Kd.M (Kd.int .i64) _ _ _ a0_12 [.int .i64 a0_12] from rfl) (Reps.one (show Kd.M (Kd.int .i64) _ _ _ a0_13 [.int .i64 a0_13] from rfl) (Reps.one (show Kd.M (Kd.int .i64) _ _ _ a0_14 [.int .i64 a0_14] from rfl) (Reps.none _ _)))))))); intro v173 w12 ho13 hb hg_ hnew_; clear hg_ hnew_; (first | rw [← Ny172.out] at ho13 | (simp only [Int.reduceToNat] at ho13; rw [← Ny172.out] at ho13)); have n0_ := Aside0.mk (Kd.R_lower ho13 (below_size (by repeat (first | (with_reducible first | exact HB.out | apply below_alloc | apply pw_below_drewN | apply below_drew1 | refine below_set ?_ GE169.out) | exact HB.out)))); have n1_ := Aside0.mk (blk_below (g := gb169) (o := .cells #[.int .i64 a0_0, .int .i64 a0_1, .int .i64 a0_2, .int .i64 a0_3, .int .i64 a0_4, .int .i64 a0_5, .int .i64 a0_6, .int .i64 a0_7, .int .i64 a0_8, .int .i64 a0_9, .int .i64 a0_10, .int .i64 a0_11, .int .i64 a0_12, .int .i64 a0_13, .int .i64 a0_14, .slice A0_15 l0_15.length c0_15, .slice A0_16 l0_16.length c0_16] 68 (0, 0)) (by (with_reducible repeat (first | refine blk_drewN ?_ _ | refine blk_drew ?_ | refine blk_alloc ?_ _)); exact BK169.out) hb); have n2_ := Aside0.mk (below_step (by repeat (first | (with_reducible first | exact HB.out | apply below_alloc | apply pw_below_drewN | apply below_drew1 | refine below_set ?_ GE169.out) | exact HB.out)) hb); clear BK169; clear HB; have HO174 := n0_; have BK169 := n1_; have HB := n2_; clear n0_ n1_ n2_; clear hb ho13; obtain ⟨Ao14, co14, eo14⟩ := Kd.R_slice HO174.out; subst eo14))
      go_loopg [33] k (fun kq v33 w' => ∃ (x33_1 : Int), v33 = .int .i64 x33_1 ∧ Aside0 (timing_Check.l0 kq y172 (y172.length : Int) x33_1 a0_0 a0_1 a0_2 a0_3 a0_4 a0_5 a0_6 a0_7 a0_8 a0_9 a0_10 a0_11 a0_12 a0_13 a0_14 l0_15 l0_16 = some r) ∧ Aside0 (kq ≤ k) ∧ Aside0 (Kd.R (Kd.int .i64) 3 w' w.heap.size (fun _ => True) (.slice Ao14 y172.length co14) y172) ∧ Aside0 (w'.heap[gb169]? = some (.cells #[.int .i64 a0_0, .int .i64 a0_1, .int .i64 a0_2, .int .i64 a0_3, .int .i64 a0_4, .int .i64 a0_5, .int .i64 a0_6, .int .i64 a0_7, .int .i64 a0_8, .int .i64 a0_9, .int .i64 a0_10, .int .i64 a0_11, .int .i64 a0_12, .int .i64 a0_13, .int .i64 a0_14, (.slice A0_15 l0_15.length c0_15), (.slice A0_16 l0_16.length c0_16)] 68 (0, 0))) ∧ Aside0 (Below w.heap.size w w'))
      case atStart => exact ⟨(0), (by first | rfl | (simp; done) | (simp [*]; done)), H', ⟨Nat.le_refl _⟩, ⟨by (with_reducible repeat (first | apply Kd.R_alloc | apply Kd.R_drewN | apply Kd.R_drew)); exact HO174.out⟩, ⟨by (with_reducible repeat (first | refine blk_drewN ?_ _ | refine blk_drew ?_ | refine blk_alloc ?_ _)); exact BK169.out⟩, ⟨by repeat (first | (with_reducible first | exact HB.out | apply below_alloc | apply pw_below_drewN | apply below_drew1 | refine below_set ?_ GE169.out) | exact HB.out)⟩⟩
      case round =>
        clear H'
        try clear c1
        try clear p2
        try clear c3
        try clear c3b0
        try clear c3b1
        try clear c5
        try clear c5b0
        try clear c5b1
        try clear c9
        try clear c13
        try clear hcz11_0
        try clear hcz11_1
        try clear hcz11_10
        try clear hcz11_11
        try clear hcz11_12
        try clear hcz11_13
        try clear hcz11_14
        try clear hcz11_15
        try clear hcz11_16
        try clear hcz11_2
        try clear hcz11_3
        try clear hcz11_4
        try clear hcz11_5
        try clear hcz11_6
        try clear hcz11_7
        try clear hcz11_8
        try clear hcz11_9
        try clear hcz7_0
        try clear hcz7_1
        try clear hcz7_10
        try clear hcz7_11
        try clear hcz7_12
        try clear hcz7_13
        try clear hcz7_14
        try clear hcz7_15
        try clear hcz7_16
        try clear hcz7_2
        try clear hcz7_3
        try clear hcz7_4
        try clear hcz7_5
        try clear hcz7_6
        try clear hcz7_7
        try clear hcz7_8
        try clear hcz7_9
        try clear hcz9_0
        try clear hcz9_1
        try clear hcz9_10
        try clear hcz9_11
        try clear hcz9_12
        try clear hcz9_13
        try clear hcz9_14
        try clear hcz9_15
        try clear hcz9_16
        try clear hcz9_2
        try clear hcz9_3
        try clear hcz9_4
        try clear hcz9_5
        try clear hcz9_6
        try clear hcz9_7
        try clear hcz9_8
        try clear hcz9_9
        try clear hfz11_0
        try clear hfz11_1
        try clear hfz11_10
        try clear hfz11_11
        try clear hfz11_12
        try clear hfz11_13
        try clear hfz11_14
        try clear hfz11_15
        try clear hfz11_16
        try clear hfz11_2
        try clear hfz11_3
        try clear hfz11_4
        try clear hfz11_5
        try clear hfz11_6
        try clear hfz11_7
        try clear hfz11_8
        try clear hfz11_9
        try clear hfz7_0
        try clear hfz7_1
        try clear hfz7_10
        try clear hfz7_11
        try clear hfz7_12
        try clear hfz7_13
        try clear hfz7_14
        try clear hfz7_15
        try clear hfz7_16
        try clear hfz7_2
        try clear hfz7_3
        try clear hfz7_4
        try clear hfz7_5
        try clear hfz7_6
        try clear hfz7_7
        try clear hfz7_8
        try clear hfz7_9
        try clear hfz9_0
        try clear hfz9_1
        try clear hfz9_10
        try clear hfz9_11
        try clear hfz9_12
        try clear hfz9_13
        try clear hfz9_14
        try clear hfz9_15
        try clear hfz9_16
        try clear hfz9_2
        try clear hfz9_3
        try clear hfz9_4
        try clear hfz9_5
        try clear hfz9_6
        try clear hfz9_7
        try clear hfz9_8
        try clear hfz9_9
        obtain ⟨x33_1, rfl, HA, HK1, HO_31, BK169, HB⟩ := hrel
        cases gk with
        | zero => exact absurd HA.out (by simp [timing_Check.l0])
        | succ k1 =>
          have H := HA.out
          clear HA
          simp only [timing_Check.l0] at H
          by_cases c15 : x33_1 < (y172.length : Int)
          · rw [if_pos c15] at H
            have c15b0 : decide (x33_1 < (y172.length : Int)) = true := decide_eq_true c15
            clear c15
            by_cases c16 : 0 ≤ x33_1
            · rw [if_pos c16] at H
              have c16b0 : decide (0 ≤ x33_1) = true := decide_eq_true c16
              clear c16
              by_cases c17 : x33_1 < (y172.length : Int)
              · rw [if_pos c17] at H
                have c17b0 : decide (x33_1 < (y172.length : Int)) = true := decide_eq_true c17
                clear c17
                replace H := Option.bind_eq_some_iff.mp H
                obtain ⟨t176, A180, H⟩ := H
                replace H : (if t176 = true then (timing_Check.l0 k1 y172 (y172.length : Int) (wrap64 (x33_1 + 1)) a0_0 a0_1 a0_2 a0_3 a0_4 a0_5 a0_6 a0_7 a0_8 a0_9 a0_10 a0_11 a0_12 a0_13 a0_14 l0_15 l0_16) else (some 3)) = some r := H
                have A18 := Aside0.mk A180
                clear A180
                by_cases c19 : t176 = true
                · subst c19
                  have H1 : (timing_Check.l0 k1 y172 (y172.length : Int) (wrap64 (x33_1 + 1)) a0_0 a0_1 a0_2 a0_3 a0_4 a0_5 a0_6 a0_7 a0_8 a0_9 a0_10 a0_11 a0_12 a0_13 a0_14 l0_15 l0_16) = some r := by rw [if_pos rfl] at H; exact H
                  clear H
                  have H := H1
                  clear H1
                  have H' := Aside0.mk H
                  clear H
                  have p175 : 0 ≤ (x33_1 : Int) := of_decide_eq_true (by first | (with_reducible assumption) | assumption)
                  have q175 : x33_1 < (y172.length : Int) := of_decide_eq_true (by first | (with_reducible assumption) | assumption)
                  obtain ⟨ad175, e175, hx175_0⟩ := Kd.at_int (Kd.R_reads' HO_31.out).2.2 x33_1 p175 q175
                  cases e175
                  replace p175 := eq_true p175
                  replace q175 := eq_true q175
                  go_wp2_with (first | ((with_reducible refine gate_callee (f := 132) rfl ?_); refine goesL_ (some 38) rfl rfl Try.func132 (by kernel_rfl) rfl #[.int .i64 (rd y172 x33_1), .int .i64 0, .int .i64 100] rfl (by (try simp only [List.map_toArray, List.map_cons, List.map_nil]); first | done | rfl | (simp only [List.length_drop, List.length_take]; rfl)) ?_; (with_reducible refine (timing_between.calls (rd y172 x33_1) 0 100 true _ A18.out).mono ?_); rintro e w' ⟨rfl, ⟨nd, rfl⟩⟩; refine ⟨_, rfl, ?_⟩))
                  go_roundg k1
                  case measure => have := HK1.out; omega
                  case rel => exact ⟨(wrap64 (x33_1 + 1)), (by first | rfl | (simp; done) | (simp [*]; done)), H', ⟨by have := HK1.out; omega⟩, ⟨by (with_reducible repeat (first | apply Kd.R_alloc | apply Kd.R_drewN | apply Kd.R_drew)); exact HO_31.out⟩, ⟨by (with_reducible repeat (first | refine blk_drewN ?_ _ | refine blk_drew ?_ | refine blk_alloc ?_ _)); exact BK169.out⟩, ⟨by repeat (first | (with_reducible first | exact HB.out | apply below_alloc | apply pw_below_drewN | apply below_drew1 | refine below_set ?_ GE169.out) | exact HB.out)⟩⟩
                · replace c19 := Bool.eq_false_iff.mpr c19
                  subst c19
                  have H1 : (some 3) = some r := by rw [if_neg (show ¬ (false = true) by decide)] at H; exact H
                  clear H
                  have H := H1
                  clear H1
                  obtain rfl := Option.some.inj H
                  have p175 : 0 ≤ (x33_1 : Int) := of_decide_eq_true (by first | (with_reducible assumption) | assumption)
                  have q175 : x33_1 < (y172.length : Int) := of_decide_eq_true (by first | (with_reducible assumption) | assumption)
                  obtain ⟨ad175, e175, hx175_0⟩ := Kd.at_int (Kd.R_reads' HO_31.out).2.2 x33_1 p175 q175
                  cases e175
                  replace p175 := eq_true p175
                  replace q175 := eq_true q175
                  go_wp2_with (first | ((with_reducible refine gate_callee (f := 132) rfl ?_); refine goesL_ (some 38) rfl rfl Try.func132 (by kernel_rfl) rfl #[.int .i64 (rd y172 x33_1), .int .i64 0, .int .i64 100] rfl (by (try simp only [List.map_toArray, List.map_cons, List.map_nil]); first | done | rfl | (simp only [List.length_drop, List.length_take]; rfl)) ?_; (with_reducible refine (timing_between.calls (rd y172 x33_1) 0 100 false _ A18.out).mono ?_); rintro e w' ⟨rfl, ⟨nd, rfl⟩⟩; refine ⟨_, rfl, ?_⟩))
                  go_ret
                  exact ⟨by first | rfl | (simp [errW_none, errW_some] <;> rfl) | (simp [*, errW_none, errW_some] <;> rfl), by repeat (first | (with_reducible first | exact HB.out | apply below_alloc | apply pw_below_drewN | apply below_drew1 | refine below_set ?_ GE169.out) | exact HB.out)⟩
              · rw [if_neg c17] at H
                exact absurd H (by simp)
            · rw [if_neg c16] at H
              exact absurd H (by simp)
          · rw [if_neg c15] at H
            have c15b0 : decide (x33_1 < (y172.length : Int)) = false := decide_eq_false c15
            clear c15
            replace H := Option.bind_eq_some_iff.mp H
            obtain ⟨t177, A200, H⟩ := H
            replace H : (if t177 = true then ((timing_between.f a0_8 1 16).bind fun t178 => (if t178 = true then ((timing_between.f a0_10 0 16).bind fun t179 => (if t179 = true then ((timing_placed.f l0_15 1024).bind fun t180 => (if t180 = true then ((timing_placed.f l0_16 1024).bind fun t181 => (if t181 = true then (some 0) else (some 3))) else (some 3))) else (none))) else (none))) else (none)) = some r := H
            have A20 := Aside0.mk A200
            clear A200
            by_cases c21 : t177 = true
            · subst c21
              have H1 : ((timing_between.f a0_8 1 16).bind fun t178 => (if t178 = true then ((timing_between.f a0_10 0 16).bind fun t179 => (if t179 = true then ((timing_placed.f l0_15 1024).bind fun t180 => (if t180 = true then ((timing_placed.f l0_16 1024).bind fun t181 => (if t181 = true then (some 0) else (some 3))) else (some 3))) else (none))) else (none))) = some r := by rw [if_pos rfl] at H; exact H
              clear H
              have H := H1
              clear H1
              replace H := Option.bind_eq_some_iff.mp H
              obtain ⟨t178, A220, H⟩ := H
              replace H : (if t178 = true then ((timing_between.f a0_10 0 16).bind fun t179 => (if t179 = true then ((timing_placed.f l0_15 1024).bind fun t180 => (if t180 = true then ((timing_placed.f l0_16 1024).bind fun t181 => (if t181 = true then (some 0) else (some 3))) else (some 3))) else (none))) else (none)) = some r := H
              have A22 := Aside0.mk A220
              clear A220
              by_cases c23 : t178 = true
              · subst c23
                have H1 : ((timing_between.f a0_10 0 16).bind fun t179 => (if t179 = true then ((timing_placed.f l0_15 1024).bind fun t180 => (if t180 = true then ((timing_placed.f l0_16 1024).bind fun t181 => (if t181 = true then (some 0) else (some 3))) else (some 3))) else (none))) = some r := by rw [if_pos rfl] at H; exact H
                clear H
                have H := H1
                clear H1
                replace H := Option.bind_eq_some_iff.mp H
                obtain ⟨t179, A240, H⟩ := H
                replace H : (if t179 = true then ((timing_placed.f l0_15 1024).bind fun t180 => (if t180 = true then ((timing_placed.f l0_16 1024).bind fun t181 => (if t181 = true then (some 0) else (some 3))) else (some 3))) else (none)) = some r := H
                have A24 := Aside0.mk A240
                clear A240
                by_cases c25 : t179 = true
                · subst c25
                  have H1 : ((timing_placed.f l0_15 1024).bind fun t180 => (if t180 = true then ((timing_placed.f l0_16 1024).bind fun t181 => (if t181 = true then (some 0) else (some 3))) else (some 3))) = some r := by rw [if_pos rfl] at H; exact H
                  clear H
                  have H := H1
                  clear H1
                  replace H := Option.bind_eq_some_iff.mp H
                  obtain ⟨t180, A260, H⟩ := H
                  replace H : (if t180 = true then ((timing_placed.f l0_16 1024).bind fun t181 => (if t181 = true then (some 0) else (some 3))) else (some 3)) = some r := H
                  have A26 := Aside0.mk A260
                  clear A260
                  by_cases c27 : t180 = true
                  · subst c27
                    have H1 : ((timing_placed.f l0_16 1024).bind fun t181 => (if t181 = true then (some 0) else (some 3))) = some r := by rw [if_pos rfl] at H; exact H
                    clear H
                    have H := H1
                    clear H1
                    replace H := Option.bind_eq_some_iff.mp H
                    obtain ⟨t181, A280, H⟩ := H
                    replace H : (if t181 = true then (some 0) else (some 3)) = some r := H
                    have A28 := Aside0.mk A280
                    clear A280
                    by_cases c29 : t181 = true
                    · subst c29
                      have H1 : (some 0) = some r := by rw [if_pos rfl] at H; exact H
                      clear H
                      have H := H1
                      clear H1
                      obtain rfl := Option.some.inj H
                      have hcz30_0 : wr.cell? ⟨gb169, 0, none⟩ = some (.int .i64 a0_0) := (blk_cell BK169.out 0).trans rfl
                      have hcz30_1 : wr.cell? ⟨gb169, 1, none⟩ = some (.int .i64 a0_1) := (blk_cell BK169.out 1).trans rfl
                      have hcz30_2 : wr.cell? ⟨gb169, 2, none⟩ = some (.int .i64 a0_2) := (blk_cell BK169.out 2).trans rfl
                      have hcz30_3 : wr.cell? ⟨gb169, 3, none⟩ = some (.int .i64 a0_3) := (blk_cell BK169.out 3).trans rfl
                      have hcz30_4 : wr.cell? ⟨gb169, 4, none⟩ = some (.int .i64 a0_4) := (blk_cell BK169.out 4).trans rfl
                      have hcz30_5 : wr.cell? ⟨gb169, 5, none⟩ = some (.int .i64 a0_5) := (blk_cell BK169.out 5).trans rfl
                      have hcz30_6 : wr.cell? ⟨gb169, 6, none⟩ = some (.int .i64 a0_6) := (blk_cell BK169.out 6).trans rfl
                      have hcz30_7 : wr.cell? ⟨gb169, 7, none⟩ = some (.int .i64 a0_7) := (blk_cell BK169.out 7).trans rfl
                      have hcz30_8 : wr.cell? ⟨gb169, 8, none⟩ = some (.int .i64 a0_8) := (blk_cell BK169.out 8).trans rfl
                      have hcz30_9 : wr.cell? ⟨gb169, 9, none⟩ = some (.int .i64 a0_9) := (blk_cell BK169.out 9).trans rfl
                      have hcz30_10 : wr.cell? ⟨gb169, 10, none⟩ = some (.int .i64 a0_10) := (blk_cell BK169.out 10).trans rfl
                      have hcz30_11 : wr.cell? ⟨gb169, 11, none⟩ = some (.int .i64 a0_11) := (blk_cell BK169.out 11).trans rfl
                      have hcz30_12 : wr.cell? ⟨gb169, 12, none⟩ = some (.int .i64 a0_12) := (blk_cell BK169.out 12).trans rfl
                      have hcz30_13 : wr.cell? ⟨gb169, 13, none⟩ = some (.int .i64 a0_13) := (blk_cell BK169.out 13).trans rfl
                      have hcz30_14 : wr.cell? ⟨gb169, 14, none⟩ = some (.int .i64 a0_14) := (blk_cell BK169.out 14).trans rfl
                      have hcz30_15 : wr.cell? ⟨gb169, 15, none⟩ = some (.slice A0_15 l0_15.length c0_15) := (blk_cell BK169.out 15).trans rfl
                      have hcz30_16 : wr.cell? ⟨gb169, 16, none⟩ = some (.slice A0_16 l0_16.length c0_16) := (blk_cell BK169.out 16).trans rfl
                      have hfz30_0 := blk_frozen BK169.out 0
                      have hfz30_1 := blk_frozen BK169.out 1
                      have hfz30_2 := blk_frozen BK169.out 2
                      have hfz30_3 := blk_frozen BK169.out 3
                      have hfz30_4 := blk_frozen BK169.out 4
                      have hfz30_5 := blk_frozen BK169.out 5
                      have hfz30_6 := blk_frozen BK169.out 6
                      have hfz30_7 := blk_frozen BK169.out 7
                      have hfz30_8 := blk_frozen BK169.out 8
                      have hfz30_9 := blk_frozen BK169.out 9
                      have hfz30_10 := blk_frozen BK169.out 10
                      have hfz30_11 := blk_frozen BK169.out 11
                      have hfz30_12 := blk_frozen BK169.out 12
                      have hfz30_13 := blk_frozen BK169.out 13
                      have hfz30_14 := blk_frozen BK169.out 14
                      have hfz30_15 := blk_frozen BK169.out 15
                      have hfz30_16 := blk_frozen BK169.out 16
                      go_wp2_with (first | ((with_reducible refine gate_callee (f := 132) rfl ?_); refine goesL_ (some 43) rfl rfl Try.func132 (by kernel_rfl) rfl #[.int .i64 a0_7, .int .i64 0, .int .i64 8] rfl (by (try simp only [List.map_toArray, List.map_cons, List.map_nil]); first | done | rfl | (simp only [List.length_drop, List.length_take]; rfl)) ?_; (with_reducible refine (timing_between.calls a0_7 0 8 true _ A20.out).mono ?_); rintro e w' ⟨rfl, ⟨nd, rfl⟩⟩; refine ⟨_, rfl, ?_⟩) | (go_at_call 132; (with_reducible refine (timing_between.calls a0_8 1 16 true _ A22.out).mono ?_); rintro e w' ⟨rfl, ⟨nd, rfl⟩⟩) | (go_at_call 132; (with_reducible refine (timing_between.calls a0_10 0 16 true _ A24.out).mono ?_); rintro e w' ⟨rfl, ⟨nd, rfl⟩⟩) | (go_at_call 133; (with_reducible refine (timing_placed.calls _ _ l0_15 1024 true _ ?side1 ?side2 A26.out).mono ?_); (case side1 => repeat (first | exact (Kd.C_below HR0_15.out (by repeat (first | (with_reducible first | exact HB.out | apply below_alloc | apply pw_below_drewN | apply below_drew1 | refine below_set ?_ GE169.out) | exact HB.out))) | (with_reducible refine Kd.C_alloc ?_ _) | (with_reducible refine Kd.C_drewN ?_ _) | (with_reducible refine Kd.C_drew ?_))); (case side2 => exact HC0_15.out); rintro e w31 ⟨rfl, hb⟩; have n0_ := Aside0.mk (Kd.R_below (by (with_reducible repeat (first | apply Kd.R_alloc | apply Kd.R_drewN | apply Kd.R_drew)); exact HO_31.out) hb); have n1_ := Aside0.mk (blk_below (g := gb169) (o := .cells #[.int .i64 a0_0, .int .i64 a0_1, .int .i64 a0_2, .int .i64 a0_3, .int .i64 a0_4, .int .i64 a0_5, .int .i64 a0_6, .int .i64 a0_7, .int .i64 a0_8, .int .i64 a0_9, .int .i64 a0_10, .int .i64 a0_11, .int .i64 a0_12, .int .i64 a0_13, .int .i64 a0_14, .slice A0_15 l0_15.length c0_15, .slice A0_16 l0_16.length c0_16] 68 (0, 0)) (by (with_reducible repeat (first | refine blk_drewN ?_ _ | refine blk_drew ?_ | refine blk_alloc ?_ _)); exact BK169.out) hb); have n2_ := Aside0.mk (below_step (by repeat (first | (with_reducible first | exact HB.out | apply below_alloc | apply pw_below_drewN | apply below_drew1 | refine below_set ?_ GE169.out) | exact HB.out)) hb); clear HO_31; clear BK169; clear HB; have HO_31 := n0_; have BK169 := n1_; have HB := n2_; clear n0_ n1_ n2_; (try clear hb); (try clear hb2); (try clear hk); (try clear hi); have hcz32_0 : w31.cell? ⟨gb169, 0, none⟩ = some (.int .i64 a0_0) := (blk_cell BK169.out 0).trans rfl; have hcz32_1 : w31.cell? ⟨gb169, 1, none⟩ = some (.int .i64 a0_1) := (blk_cell BK169.out 1).trans rfl; have hcz32_2 : w31.cell? ⟨gb169, 2, none⟩ = some (.int .i64 a0_2) := (blk_cell BK169.out 2).trans rfl; have hcz32_3 : w31.cell? ⟨gb169, 3, none⟩ = some (.int .i64 a0_3) := (blk_cell BK169.out 3).trans rfl; have hcz32_4 : w31.cell? ⟨gb169, 4, none⟩ = some (.int .i64 a0_4) := (blk_cell BK169.out 4).trans rfl; have hcz32_5 : w31.cell? ⟨gb169, 5, none⟩ = some (.int .i64 a0_5) := (blk_cell BK169.out 5).trans rfl; have hcz32_6 : w31.cell? ⟨gb169, 6, none⟩ = some (.int .i64 a0_6) := (blk_cell BK169.out 6).trans rfl; have hcz32_7 : w31.cell? ⟨gb169, 7, none⟩ = some (.int .i64 a0_7) := (blk_cell BK169.out 7).trans rfl; have hcz32_8 : w31.cell? ⟨gb169, 8, none⟩ = some (.int .i64 a0_8) := (blk_cell BK169.out 8).trans rfl; have hcz32_9 : w31.cell? ⟨gb169, 9, none⟩ = some (.int .i64 a0_9) := (blk_cell BK169.out 9).trans rfl; have hcz32_10 : w31.cell? ⟨gb169, 10, none⟩ = some (.int .i64 a0_10) := (blk_cell BK169.out 10).trans rfl; have hcz32_11 : w31.cell? ⟨gb169, 11, none⟩ = some (.int .i64 a0_11) := (blk_cell BK169.out 11).trans rfl; have hcz32_12 : w31.cell? ⟨gb169, 12, none⟩ = some (.int .i64 a0_12) := (blk_cell BK169.out 12).trans rfl; have hcz32_13 : w31.cell? ⟨gb169, 13, none⟩ = some (.int .i64 a0_13) := (blk_cell BK169.out 13).trans rfl; have hcz32_14 : w31.cell? ⟨gb169, 14, none⟩ = some (.int .i64 a0_14) := (blk_cell BK169.out 14).trans rfl; have hcz32_15 : w31.cell? ⟨gb169, 15, none⟩ = some (.slice A0_15 l0_15.length c0_15) := (blk_cell BK169.out 15).trans rfl; have hcz32_16 : w31.cell? ⟨gb169, 16, none⟩ = some (.slice A0_16 l0_16.length c0_16) := (blk_cell BK169.out 16).trans rfl; have hfz32_0 := blk_frozen BK169.out 0; have hfz32_1 := blk_frozen BK169.out 1; have hfz32_2 := blk_frozen BK169.out 2; have hfz32_3 := blk_frozen BK169.out 3; have hfz32_4 := blk_frozen BK169.out 4; have hfz32_5 := blk_frozen BK169.out 5; have hfz32_6 := blk_frozen BK169.out 6; have hfz32_7 := blk_frozen BK169.out 7; have hfz32_8 := blk_frozen BK169.out 8; have hfz32_9 := blk_frozen BK169.out 9; have hfz32_10 := blk_frozen BK169.out 10; have hfz32_11 := blk_frozen BK169.out 11; have hfz32_12 := blk_frozen BK169.out 12; have hfz32_13 := blk_frozen BK169.out 13; have hfz32_14 := blk_frozen BK169.out 14; have hfz32_15 := blk_frozen BK169.out 15; have hfz32_16 := blk_frozen BK169.out 16) | (go_at_call 133; (with_reducible refine (timing_placed.calls _ _ l0_16 1024 true _ ?side1 ?side2 A28.out).mono ?_); (case side1 => repeat (first | exact (Kd.C_below HR0_16.out HB.out) | (with_reducible refine Kd.C_alloc ?_ _) | (with_reducible refine Kd.C_drewN ?_ _) | (with_reducible refine Kd.C_drew ?_))); (case side2 => exact HC0_16.out); rintro e w33 ⟨rfl, hb⟩; have n0_ := Aside0.mk (Kd.R_below (by (with_reducible repeat (first | apply Kd.R_alloc | apply Kd.R_drewN | apply Kd.R_drew)); exact HO_31.out) hb); have n1_ := Aside0.mk (blk_below (g := gb169) (o := .cells #[.int .i64 a0_0, .int .i64 a0_1, .int .i64 a0_2, .int .i64 a0_3, .int .i64 a0_4, .int .i64 a0_5, .int .i64 a0_6, .int .i64 a0_7, .int .i64 a0_8, .int .i64 a0_9, .int .i64 a0_10, .int .i64 a0_11, .int .i64 a0_12, .int .i64 a0_13, .int .i64 a0_14, .slice A0_15 l0_15.length c0_15, .slice A0_16 l0_16.length c0_16] 68 (0, 0)) (by (with_reducible repeat (first | refine blk_drewN ?_ _ | refine blk_drew ?_ | refine blk_alloc ?_ _)); exact BK169.out) hb); have n2_ := Aside0.mk (below_step (by repeat (first | (with_reducible first | exact HB.out | apply below_alloc | apply pw_below_drewN | apply below_drew1 | refine below_set ?_ GE169.out) | exact HB.out)) hb); clear HO_31; clear BK169; clear HB; have HO_31 := n0_; have BK169 := n1_; have HB := n2_; clear n0_ n1_ n2_; (try clear hb); (try clear hb2); (try clear hk); (try clear hi)))
                      go_ret
                      exact ⟨by first | rfl | (simp [errW_none, errW_some] <;> rfl) | (simp [*, errW_none, errW_some] <;> rfl), by repeat (first | (with_reducible first | exact HB.out | apply below_alloc | apply pw_below_drewN | apply below_drew1 | refine below_set ?_ GE169.out) | exact HB.out)⟩
                    · replace c29 := Bool.eq_false_iff.mpr c29
                      subst c29
                      have H1 : (some 3) = some r := by rw [if_neg (show ¬ (false = true) by decide)] at H; exact H
                      clear H
                      have H := H1
                      clear H1
                      obtain rfl := Option.some.inj H
                      have hcz34_0 : wr.cell? ⟨gb169, 0, none⟩ = some (.int .i64 a0_0) := (blk_cell BK169.out 0).trans rfl
                      have hcz34_1 : wr.cell? ⟨gb169, 1, none⟩ = some (.int .i64 a0_1) := (blk_cell BK169.out 1).trans rfl
                      have hcz34_2 : wr.cell? ⟨gb169, 2, none⟩ = some (.int .i64 a0_2) := (blk_cell BK169.out 2).trans rfl
                      have hcz34_3 : wr.cell? ⟨gb169, 3, none⟩ = some (.int .i64 a0_3) := (blk_cell BK169.out 3).trans rfl
                      have hcz34_4 : wr.cell? ⟨gb169, 4, none⟩ = some (.int .i64 a0_4) := (blk_cell BK169.out 4).trans rfl
                      have hcz34_5 : wr.cell? ⟨gb169, 5, none⟩ = some (.int .i64 a0_5) := (blk_cell BK169.out 5).trans rfl
                      have hcz34_6 : wr.cell? ⟨gb169, 6, none⟩ = some (.int .i64 a0_6) := (blk_cell BK169.out 6).trans rfl
                      have hcz34_7 : wr.cell? ⟨gb169, 7, none⟩ = some (.int .i64 a0_7) := (blk_cell BK169.out 7).trans rfl
                      have hcz34_8 : wr.cell? ⟨gb169, 8, none⟩ = some (.int .i64 a0_8) := (blk_cell BK169.out 8).trans rfl
                      have hcz34_9 : wr.cell? ⟨gb169, 9, none⟩ = some (.int .i64 a0_9) := (blk_cell BK169.out 9).trans rfl
                      have hcz34_10 : wr.cell? ⟨gb169, 10, none⟩ = some (.int .i64 a0_10) := (blk_cell BK169.out 10).trans rfl
                      have hcz34_11 : wr.cell? ⟨gb169, 11, none⟩ = some (.int .i64 a0_11) := (blk_cell BK169.out 11).trans rfl
                      have hcz34_12 : wr.cell? ⟨gb169, 12, none⟩ = some (.int .i64 a0_12) := (blk_cell BK169.out 12).trans rfl
                      have hcz34_13 : wr.cell? ⟨gb169, 13, none⟩ = some (.int .i64 a0_13) := (blk_cell BK169.out 13).trans rfl
                      have hcz34_14 : wr.cell? ⟨gb169, 14, none⟩ = some (.int .i64 a0_14) := (blk_cell BK169.out 14).trans rfl
                      have hcz34_15 : wr.cell? ⟨gb169, 15, none⟩ = some (.slice A0_15 l0_15.length c0_15) := (blk_cell BK169.out 15).trans rfl
                      have hcz34_16 : wr.cell? ⟨gb169, 16, none⟩ = some (.slice A0_16 l0_16.length c0_16) := (blk_cell BK169.out 16).trans rfl
                      have hfz34_0 := blk_frozen BK169.out 0
                      have hfz34_1 := blk_frozen BK169.out 1
                      have hfz34_2 := blk_frozen BK169.out 2
                      have hfz34_3 := blk_frozen BK169.out 3
                      have hfz34_4 := blk_frozen BK169.out 4
                      have hfz34_5 := blk_frozen BK169.out 5
                      have hfz34_6 := blk_frozen BK169.out 6
                      have hfz34_7 := blk_frozen BK169.out 7
                      have hfz34_8 := blk_frozen BK169.out 8
                      have hfz34_9 := blk_frozen BK169.out 9
                      have hfz34_10 := blk_frozen BK169.out 10
                      have hfz34_11 := blk_frozen BK169.out 11
                      have hfz34_12 := blk_frozen BK169.out 12
                      have hfz34_13 := blk_frozen BK169.out 13
                      have hfz34_14 := blk_frozen BK169.out 14
                      have hfz34_15 := blk_frozen BK169.out 15
                      have hfz34_16 := blk_frozen BK169.out 16
                      go_wp2_with (first | ((with_reducible refine gate_callee (f := 132) rfl ?_); refine goesL_ (some 43) rfl rfl Try.func132 (by kernel_rfl) rfl #[.int .i64 a0_7, .int .i64 0, .int .i64 8] rfl (by (try simp only [List.map_toArray, List.map_cons, List.map_nil]); first | done | rfl | (simp only [List.length_drop, List.length_take]; rfl)) ?_; (with_reducible refine (timing_between.calls a0_7 0 8 true _ A20.out).mono ?_); rintro e w' ⟨rfl, ⟨nd, rfl⟩⟩; refine ⟨_, rfl, ?_⟩) | (go_at_call 132; (with_reducible refine (timing_between.calls a0_8 1 16 true _ A22.out).mono ?_); rintro e w' ⟨rfl, ⟨nd, rfl⟩⟩) | (go_at_call 132; (with_reducible refine (timing_between.calls a0_10 0 16 true _ A24.out).mono ?_); rintro e w' ⟨rfl, ⟨nd, rfl⟩⟩) | (go_at_call 133; (with_reducible refine (timing_placed.calls _ _ l0_15 1024 true _ ?side1 ?side2 A26.out).mono ?_); (case side1 => repeat (first | exact (Kd.C_below HR0_15.out (by repeat (first | (with_reducible first | exact HB.out | apply below_alloc | apply pw_below_drewN | apply below_drew1 | refine below_set ?_ GE169.out) | exact HB.out))) | (with_reducible refine Kd.C_alloc ?_ _) | (with_reducible refine Kd.C_drewN ?_ _) | (with_reducible refine Kd.C_drew ?_))); (case side2 => exact HC0_15.out); rintro e w35 ⟨rfl, hb⟩; have n0_ := Aside0.mk (Kd.R_below (by (with_reducible repeat (first | apply Kd.R_alloc | apply Kd.R_drewN | apply Kd.R_drew)); exact HO_31.out) hb); have n1_ := Aside0.mk (blk_below (g := gb169) (o := .cells #[.int .i64 a0_0, .int .i64 a0_1, .int .i64 a0_2, .int .i64 a0_3, .int .i64 a0_4, .int .i64 a0_5, .int .i64 a0_6, .int .i64 a0_7, .int .i64 a0_8, .int .i64 a0_9, .int .i64 a0_10, .int .i64 a0_11, .int .i64 a0_12, .int .i64 a0_13, .int .i64 a0_14, .slice A0_15 l0_15.length c0_15, .slice A0_16 l0_16.length c0_16] 68 (0, 0)) (by (with_reducible repeat (first | refine blk_drewN ?_ _ | refine blk_drew ?_ | refine blk_alloc ?_ _)); exact BK169.out) hb); have n2_ := Aside0.mk (below_step (by repeat (first | (with_reducible first | exact HB.out | apply below_alloc | apply pw_below_drewN | apply below_drew1 | refine below_set ?_ GE169.out) | exact HB.out)) hb); clear HO_31; clear BK169; clear HB; have HO_31 := n0_; have BK169 := n1_; have HB := n2_; clear n0_ n1_ n2_; (try clear hb); (try clear hb2); (try clear hk); (try clear hi); have hcz36_0 : w35.cell? ⟨gb169, 0, none⟩ = some (.int .i64 a0_0) := (blk_cell BK169.out 0).trans rfl; have hcz36_1 : w35.cell? ⟨gb169, 1, none⟩ = some (.int .i64 a0_1) := (blk_cell BK169.out 1).trans rfl; have hcz36_2 : w35.cell? ⟨gb169, 2, none⟩ = some (.int .i64 a0_2) := (blk_cell BK169.out 2).trans rfl; have hcz36_3 : w35.cell? ⟨gb169, 3, none⟩ = some (.int .i64 a0_3) := (blk_cell BK169.out 3).trans rfl; have hcz36_4 : w35.cell? ⟨gb169, 4, none⟩ = some (.int .i64 a0_4) := (blk_cell BK169.out 4).trans rfl; have hcz36_5 : w35.cell? ⟨gb169, 5, none⟩ = some (.int .i64 a0_5) := (blk_cell BK169.out 5).trans rfl; have hcz36_6 : w35.cell? ⟨gb169, 6, none⟩ = some (.int .i64 a0_6) := (blk_cell BK169.out 6).trans rfl; have hcz36_7 : w35.cell? ⟨gb169, 7, none⟩ = some (.int .i64 a0_7) := (blk_cell BK169.out 7).trans rfl; have hcz36_8 : w35.cell? ⟨gb169, 8, none⟩ = some (.int .i64 a0_8) := (blk_cell BK169.out 8).trans rfl; have hcz36_9 : w35.cell? ⟨gb169, 9, none⟩ = some (.int .i64 a0_9) := (blk_cell BK169.out 9).trans rfl; have hcz36_10 : w35.cell? ⟨gb169, 10, none⟩ = some (.int .i64 a0_10) := (blk_cell BK169.out 10).trans rfl; have hcz36_11 : w35.cell? ⟨gb169, 11, none⟩ = some (.int .i64 a0_11) := (blk_cell BK169.out 11).trans rfl; have hcz36_12 : w35.cell? ⟨gb169, 12, none⟩ = some (.int .i64 a0_12) := (blk_cell BK169.out 12).trans rfl; have hcz36_13 : w35.cell? ⟨gb169, 13, none⟩ = some (.int .i64 a0_13) := (blk_cell BK169.out 13).trans rfl; have hcz36_14 : w35.cell? ⟨gb169, 14, none⟩ = some (.int .i64 a0_14) := (blk_cell BK169.out 14).trans rfl; have hcz36_15 : w35.cell? ⟨gb169, 15, none⟩ = some (.slice A0_15 l0_15.length c0_15) := (blk_cell BK169.out 15).trans rfl; have hcz36_16 : w35.cell? ⟨gb169, 16, none⟩ = some (.slice A0_16 l0_16.length c0_16) := (blk_cell BK169.out 16).trans rfl; have hfz36_0 := blk_frozen BK169.out 0; have hfz36_1 := blk_frozen BK169.out 1; have hfz36_2 := blk_frozen BK169.out 2; have hfz36_3 := blk_frozen BK169.out 3; have hfz36_4 := blk_frozen BK169.out 4; have hfz36_5 := blk_frozen BK169.out 5; have hfz36_6 := blk_frozen BK169.out 6; have hfz36_7 := blk_frozen BK169.out 7; have hfz36_8 := blk_frozen BK169.out 8; have hfz36_9 := blk_frozen BK169.out 9; have hfz36_10 := blk_frozen BK169.out 10; have hfz36_11 := blk_frozen BK169.out 11; have hfz36_12 := blk_frozen BK169.out 12; have hfz36_13 := blk_frozen BK169.out 13; have hfz36_14 := blk_frozen BK169.out 14; have hfz36_15 := blk_frozen BK169.out 15; have hfz36_16 := blk_frozen BK169.out 16) | (go_at_call 133; (with_reducible refine (timing_placed.calls _ _ l0_16 1024 false _ ?side1 ?side2 A28.out).mono ?_); (case side1 => repeat (first | exact (Kd.C_below HR0_16.out HB.out) | (with_reducible refine Kd.C_alloc ?_ _) | (with_reducible refine Kd.C_drewN ?_ _) | (with_reducible refine Kd.C_drew ?_))); (case side2 => exact HC0_16.out); rintro e w37 ⟨rfl, hb⟩; have n0_ := Aside0.mk (Kd.R_below (by (with_reducible repeat (first | apply Kd.R_alloc | apply Kd.R_drewN | apply Kd.R_drew)); exact HO_31.out) hb); have n1_ := Aside0.mk (blk_below (g := gb169) (o := .cells #[.int .i64 a0_0, .int .i64 a0_1, .int .i64 a0_2, .int .i64 a0_3, .int .i64 a0_4, .int .i64 a0_5, .int .i64 a0_6, .int .i64 a0_7, .int .i64 a0_8, .int .i64 a0_9, .int .i64 a0_10, .int .i64 a0_11, .int .i64 a0_12, .int .i64 a0_13, .int .i64 a0_14, .slice A0_15 l0_15.length c0_15, .slice A0_16 l0_16.length c0_16] 68 (0, 0)) (by (with_reducible repeat (first | refine blk_drewN ?_ _ | refine blk_drew ?_ | refine blk_alloc ?_ _)); exact BK169.out) hb); have n2_ := Aside0.mk (below_step (by repeat (first | (with_reducible first | exact HB.out | apply below_alloc | apply pw_below_drewN | apply below_drew1 | refine below_set ?_ GE169.out) | exact HB.out)) hb); clear HO_31; clear BK169; clear HB; have HO_31 := n0_; have BK169 := n1_; have HB := n2_; clear n0_ n1_ n2_; (try clear hb); (try clear hb2); (try clear hk); (try clear hi)))
                      go_ret
                      exact ⟨by first | rfl | (simp [errW_none, errW_some] <;> rfl) | (simp [*, errW_none, errW_some] <;> rfl), by repeat (first | (with_reducible first | exact HB.out | apply below_alloc | apply pw_below_drewN | apply below_drew1 | refine below_set ?_ GE169.out) | exact HB.out)⟩
                  · replace c27 := Bool.eq_false_iff.mpr c27
                    subst c27
                    have H1 : (some 3) = some r := by rw [if_neg (show ¬ (false = true) by decide)] at H; exact H
                    clear H
                    have H := H1
                    clear H1
                    obtain rfl := Option.some.inj H
                    have hcz38_0 : wr.cell? ⟨gb169, 0, none⟩ = some (.int .i64 a0_0) := (blk_cell BK169.out 0).trans rfl
                    have hcz38_1 : wr.cell? ⟨gb169, 1, none⟩ = some (.int .i64 a0_1) := (blk_cell BK169.out 1).trans rfl
                    have hcz38_2 : wr.cell? ⟨gb169, 2, none⟩ = some (.int .i64 a0_2) := (blk_cell BK169.out 2).trans rfl
                    have hcz38_3 : wr.cell? ⟨gb169, 3, none⟩ = some (.int .i64 a0_3) := (blk_cell BK169.out 3).trans rfl
                    have hcz38_4 : wr.cell? ⟨gb169, 4, none⟩ = some (.int .i64 a0_4) := (blk_cell BK169.out 4).trans rfl
                    have hcz38_5 : wr.cell? ⟨gb169, 5, none⟩ = some (.int .i64 a0_5) := (blk_cell BK169.out 5).trans rfl
                    have hcz38_6 : wr.cell? ⟨gb169, 6, none⟩ = some (.int .i64 a0_6) := (blk_cell BK169.out 6).trans rfl
                    have hcz38_7 : wr.cell? ⟨gb169, 7, none⟩ = some (.int .i64 a0_7) := (blk_cell BK169.out 7).trans rfl
                    have hcz38_8 : wr.cell? ⟨gb169, 8, none⟩ = some (.int .i64 a0_8) := (blk_cell BK169.out 8).trans rfl
                    have hcz38_9 : wr.cell? ⟨gb169, 9, none⟩ = some (.int .i64 a0_9) := (blk_cell BK169.out 9).trans rfl
                    have hcz38_10 : wr.cell? ⟨gb169, 10, none⟩ = some (.int .i64 a0_10) := (blk_cell BK169.out 10).trans rfl
                    have hcz38_11 : wr.cell? ⟨gb169, 11, none⟩ = some (.int .i64 a0_11) := (blk_cell BK169.out 11).trans rfl
                    have hcz38_12 : wr.cell? ⟨gb169, 12, none⟩ = some (.int .i64 a0_12) := (blk_cell BK169.out 12).trans rfl
                    have hcz38_13 : wr.cell? ⟨gb169, 13, none⟩ = some (.int .i64 a0_13) := (blk_cell BK169.out 13).trans rfl
                    have hcz38_14 : wr.cell? ⟨gb169, 14, none⟩ = some (.int .i64 a0_14) := (blk_cell BK169.out 14).trans rfl
                    have hcz38_15 : wr.cell? ⟨gb169, 15, none⟩ = some (.slice A0_15 l0_15.length c0_15) := (blk_cell BK169.out 15).trans rfl
                    have hcz38_16 : wr.cell? ⟨gb169, 16, none⟩ = some (.slice A0_16 l0_16.length c0_16) := (blk_cell BK169.out 16).trans rfl
                    have hfz38_0 := blk_frozen BK169.out 0
                    have hfz38_1 := blk_frozen BK169.out 1
                    have hfz38_2 := blk_frozen BK169.out 2
                    have hfz38_3 := blk_frozen BK169.out 3
                    have hfz38_4 := blk_frozen BK169.out 4
                    have hfz38_5 := blk_frozen BK169.out 5
                    have hfz38_6 := blk_frozen BK169.out 6
                    have hfz38_7 := blk_frozen BK169.out 7
                    have hfz38_8 := blk_frozen BK169.out 8
                    have hfz38_9 := blk_frozen BK169.out 9
                    have hfz38_10 := blk_frozen BK169.out 10
                    have hfz38_11 := blk_frozen BK169.out 11
                    have hfz38_12 := blk_frozen BK169.out 12
                    have hfz38_13 := blk_frozen BK169.out 13
                    have hfz38_14 := blk_frozen BK169.out 14
                    have hfz38_15 := blk_frozen BK169.out 15
                    have hfz38_16 := blk_frozen BK169.out 16
                    go_wp2_with (first | ((with_reducible refine gate_callee (f := 132) rfl ?_); refine goesL_ (some 43) rfl rfl Try.func132 (by kernel_rfl) rfl #[.int .i64 a0_7, .int .i64 0, .int .i64 8] rfl (by (try simp only [List.map_toArray, List.map_cons, List.map_nil]); first | done | rfl | (simp only [List.length_drop, List.length_take]; rfl)) ?_; (with_reducible refine (timing_between.calls a0_7 0 8 true _ A20.out).mono ?_); rintro e w' ⟨rfl, ⟨nd, rfl⟩⟩; refine ⟨_, rfl, ?_⟩) | (go_at_call 132; (with_reducible refine (timing_between.calls a0_8 1 16 true _ A22.out).mono ?_); rintro e w' ⟨rfl, ⟨nd, rfl⟩⟩) | (go_at_call 132; (with_reducible refine (timing_between.calls a0_10 0 16 true _ A24.out).mono ?_); rintro e w' ⟨rfl, ⟨nd, rfl⟩⟩) | (go_at_call 133; (with_reducible refine (timing_placed.calls _ _ l0_15 1024 false _ ?side1 ?side2 A26.out).mono ?_); (case side1 => repeat (first | exact (Kd.C_below HR0_15.out (by repeat (first | (with_reducible first | exact HB.out | apply below_alloc | apply pw_below_drewN | apply below_drew1 | refine below_set ?_ GE169.out) | exact HB.out))) | (with_reducible refine Kd.C_alloc ?_ _) | (with_reducible refine Kd.C_drewN ?_ _) | (with_reducible refine Kd.C_drew ?_))); (case side2 => exact HC0_15.out); rintro e w39 ⟨rfl, hb⟩; have n0_ := Aside0.mk (Kd.R_below (by (with_reducible repeat (first | apply Kd.R_alloc | apply Kd.R_drewN | apply Kd.R_drew)); exact HO_31.out) hb); have n1_ := Aside0.mk (blk_below (g := gb169) (o := .cells #[.int .i64 a0_0, .int .i64 a0_1, .int .i64 a0_2, .int .i64 a0_3, .int .i64 a0_4, .int .i64 a0_5, .int .i64 a0_6, .int .i64 a0_7, .int .i64 a0_8, .int .i64 a0_9, .int .i64 a0_10, .int .i64 a0_11, .int .i64 a0_12, .int .i64 a0_13, .int .i64 a0_14, .slice A0_15 l0_15.length c0_15, .slice A0_16 l0_16.length c0_16] 68 (0, 0)) (by (with_reducible repeat (first | refine blk_drewN ?_ _ | refine blk_drew ?_ | refine blk_alloc ?_ _)); exact BK169.out) hb); have n2_ := Aside0.mk (below_step (by repeat (first | (with_reducible first | exact HB.out | apply below_alloc | apply pw_below_drewN | apply below_drew1 | refine below_set ?_ GE169.out) | exact HB.out)) hb); clear HO_31; clear BK169; clear HB; have HO_31 := n0_; have BK169 := n1_; have HB := n2_; clear n0_ n1_ n2_; (try clear hb); (try clear hb2); (try clear hk); (try clear hi)))
                    go_ret
                    exact ⟨by first | rfl | (simp [errW_none, errW_some] <;> rfl) | (simp [*, errW_none, errW_some] <;> rfl), by repeat (first | (with_reducible first | exact HB.out | apply below_alloc | apply pw_below_drewN | apply below_drew1 | refine below_set ?_ GE169.out) | exact HB.out)⟩
                · replace c25 := Bool.eq_false_iff.mpr c25
                  subst c25
                  have H1 : (none) = some r := by rw [if_neg (show ¬ (false = true) by decide)] at H; exact H
                  clear H
                  have H := H1
                  clear H1
                  exact absurd H (by simp)
              · replace c23 := Bool.eq_false_iff.mpr c23
                subst c23
                have H1 : (none) = some r := by rw [if_neg (show ¬ (false = true) by decide)] at H; exact H
                clear H
                have H := H1
                clear H1
                exact absurd H (by simp)
            · replace c21 := Bool.eq_false_iff.mpr c21
              subst c21
              have H1 : (none) = some r := by rw [if_neg (show ¬ (false = true) by decide)] at H; exact H
              clear H
              have H := H1
              clear H1
              exact absurd H (by simp)
    · rw [if_neg c5] at H
      exact absurd H (by simp)
  · rw [if_neg c3] at H
    exact absurd H (by simp)

/-! ### api_Span_95: function 95 -/
theorem alloc_grows (w : World) (o : Obj) : Below w.heap.size w (w.alloc o) := (Below.refl _ _).alloc (Nat.le_refl _) o
theorem R_empty {α : Type} (d : Kd α) (e : Nat) (w : World) : d.R e (w.alloc (.cells #[] e)) w.heap.size (fun _ => True) (.slice (some ⟨w.heap.size, 0, none⟩) 0 0) [] :=
  ⟨fun _ _ => trivial, [], ⟨by simp, .inr ⟨w.heap.size, 0, #[], rfl, Nat.le_refl _, heap_alloc_new w _, Nat.le_refl _, Nat.zero_le _, by simp, by simp⟩⟩, Reps.none _ _⟩
theorem api_Span_95.any (A0 : Option Addr) (c0 : Nat) (l0 : List S74) (w : World) (hr0 : Kd.C k74 w A0 l0.length l0) (hc0 : l0.length ≤ c0) (hl : l0.length * 16 ≤ 140737488355328) :
    Calls Try.prog 95 #[.slice A0 l0.length c0] w fun e w' => ∃ v0_ : Value, e = .returned (v0_) ∧ Kd.R k74 74 w' w.heap.size (fun _ => True) v0_ l0 ∧ Below w.heap.size w w' := by
  cases A0 with
  | none =>
    have hz : l0 = [] := by
      cases l0 with
      | nil => rfl
      | cons x xs => obtain ⟨ad, e, _⟩ := hr0.2.2 (by simp); cases e
    subst hz
    have heq := fun w => Lib.run_eql_slice_nil (P := Try.prog) w 66 74 none 0 c0 0 0 Try.underlying66
    go_enter Try.func95, Try.ntmps95
    go_wp2
    go_ret
    exact ⟨_, rfl, Kd.R_nil _ _ _ _ _, Below.refl _ _⟩
  | some a =>
    have heq := fun w => Lib.run_eql_slice_nil (P := Try.prog) w 66 74 (some a) l0.length c0 0 0 Try.underlying66
    have HR := Aside0.mk hr0
    have HL := Aside0.mk hl
    clear hr0 hl
    go_enter Try.func95, Try.ntmps95
    go_wp2_with (at_builtin; refine Kd.R_append_rows k74 (w0 := w) w.heap.size rfl (.tmp 5) (.tmp 6) 66 74 (.agg #[(.int .i64 0), (.int .i64 0)]) 16 rfl Try.underlying66 info74 rfl (by decide) (by omega) (.slice (some ⟨w.heap.size, 0, none⟩) 0 0) ([] : List S74) l0 _ _ _ (fun _ => True) (fun _ => False) rfl rfl ?aO ?aR (fun _ _ h => h) (fun _ h => h.elim) ?aF ?aB ?aS ?aL ?_; (case aO => exact R_empty _ _ _); (case aR => exact Kd.C_below HR.out (alloc_grows _ _)); (case aF => exact (fun _ _ => trivial)); (case aB => exact alloc_grows _ _); (case aS => exact (alloc_grows _ _).size); (case aL => have := HL.out; simp; omega); intro v1 w1 ho hb hg hat; have HO := Aside0.mk ho; have HB := Aside0.mk hb; clear ho hb hg hat)
    go_ret
    exact ⟨v1, rfl, by have := HO.out; rwa [List.nil_append] at this, HB.out⟩
def api_Span_95.f (l0 : List S74) : Option (List S74) := if l0.length * 16 ≤ 140737488355328 then some l0 else none
theorem api_Span_95.calls (A0 : Option Addr) (c0 : Nat) (l0 : List S74) (r : List S74) (w : World) (hr0 : Kd.C k74 w A0 l0.length l0) (hc0 : l0.length ≤ c0) (h : api_Span_95.f l0 = some r) :
    Calls Try.prog 95 #[.slice A0 l0.length c0] w fun e w' => ∃ v0_ : Value, e = .returned (v0_) ∧ Kd.R k74 74 w' w.heap.size (fun _ => True) v0_ r ∧ Below w.heap.size w w' := by
  unfold api_Span_95.f at h
  split at h
  · obtain rfl := Option.some.inj h
    exact api_Span_95.any A0 c0 l0 w hr0 hc0 (by assumption)
  · cases h

end Go.Proofs.Ytdgegoefehmfmaa.QScratchPlaces
