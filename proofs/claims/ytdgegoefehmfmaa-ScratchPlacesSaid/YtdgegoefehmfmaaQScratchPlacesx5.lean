-- Written for this claim by this session's own program (wip/pp).
import Derived.Test.YtdgegoefehmfmaaQScratchPlacesx0
import Derived.Test.YtdgegoefehmfmaaQScratchPlacesx1
namespace Go.Proofs.Ytdgegoefehmfmaa.QScratchPlaces
open Go.RowKit Go.Proofs.YtdgegoefehmfmaaW.PrintWords Go.Proofs.YtdgegoefehmfmaaW.PrintLast Go.Proofs.YtdgegoefehmfmaaW.PrintMore
attribute [local go_sem] max2_int min2_int max_two min_two max_three min_three max_four min_four   -- for this text's walks alone
set_option linter.unusedVariables false
set_option linter.unusedSimpArgs false

/-! ### timeboundmake_Cache: function 93 -/
def timeboundmake_Cache.f (s0_0 : List Int) (s0_1 : Int) : Option (Int × Int × Int × Int) := (timeboundmake_Deck_Next.f s0_0 s0_1 5).bind fun bt159 => ((timeboundmake_Deck_Next.f s0_0 bt159.2 3).bind fun bt161 => ((timeboundmake_Deck_Next.f s0_0 bt161.2 4).bind fun bt163 => (some (bt159.1, wrap64 (1 + bt161.1), wrap64 (1 + bt163.1), bt163.2))))
set_option maxHeartbeats 8000000 in
set_option maxRecDepth 100000 in
theorem timeboundmake_Cache.calls (g : Nat) (s0_0 : List Int) (s0_1 : Int) (r1 : Int) (r2 : Int) (r3 : Int) (r4 : Int) (w0 w : World) (hI : IsS111 w0 w g s0_0 s0_1) (hB : Below w0.heap.size w0 w) (h : timeboundmake_Cache.f s0_0 s0_1 = some (r1, r2, r3, r4)) :
    Calls Try.prog 93 #[.pointer (some ⟨g, 0, none⟩)] w fun e w' => e = .returned (.agg #[.int .i64 r1, .int .i64 r2, .int .i64 r3]) ∧ IsS111 w0 w' g s0_0 r4 ∧ Below w0.heap.size w0 w' ∧ KeepBut w w' g none := by
  have hu65 := Try.underlying65
  have HI0 := Aside0.mk hI
  have HK := Aside0.mk (KeepBut.refl w g none)
  have HL := Aside0.mk hB.size
  clear hI
  have HW0 := Aside0.mk hB.size
  have HB := Aside0.mk hB
  clear hB
  have H : ((timeboundmake_Deck_Next.f s0_0 s0_1 5).bind fun bt159 => ((timeboundmake_Deck_Next.f s0_0 bt159.2 3).bind fun bt161 => ((timeboundmake_Deck_Next.f s0_0 bt161.2 4).bind fun bt163 => (some (bt159.1, wrap64 (1 + bt161.1), wrap64 (1 + bt163.1), bt163.2))))) = some (r1, r2, r3, r4) := h
  clear h
  replace H := Option.bind_eq_some_iff.mp H
  obtain ⟨⟨t159, t160⟩, A20, H⟩ := H
  replace H : ((timeboundmake_Deck_Next.f s0_0 t160 3).bind fun bt161 => ((timeboundmake_Deck_Next.f s0_0 bt161.2 4).bind fun bt163 => (some (t159, wrap64 (1 + bt161.1), wrap64 (1 + bt163.1), bt163.2)))) = some (r1, r2, r3, r4) := H
  have A2 := Aside0.mk A20
  clear A20
  replace H := Option.bind_eq_some_iff.mp H
  obtain ⟨⟨t161, t162⟩, A30, H⟩ := H
  replace H : ((timeboundmake_Deck_Next.f s0_0 t162 4).bind fun bt163 => (some (t159, wrap64 (1 + t161), wrap64 (1 + bt163.1), bt163.2))) = some (r1, r2, r3, r4) := H
  have A3 := Aside0.mk A30
  clear A30
  replace H := Option.bind_eq_some_iff.mp H
  obtain ⟨⟨t163, t164⟩, A40, H⟩ := H
  replace H : (some (t159, wrap64 (1 + t161), wrap64 (1 + t163), t164)) = some (r1, r2, r3, r4) := H
  have A4 := Aside0.mk A40
  clear A40
  simp only [Option.some.injEq, Prod.mk.injEq] at H
  obtain ⟨rfl, rfl, rfl, rfl⟩ := H
  go_enter Try.func93, Try.ntmps93
  go_wp2_with (first | ((with_reducible refine gate_dst (N := 2) rfl ?_); refine box_event ?hg (N := 2) ?hd (cs := #[.int .i64 0, .int .i64 0, .int .i64 0]) (t := 65) ?hr ?_; (case hd => rfl); (case hg => rfl); (case hr => first | (go_simp; done) | (go_simp; rfl)); intro gb158 hg w5 hbox hb; have n0_ := Aside0.mk (IsS111.below (by repeat (first | (with_reducible first | exact HI0.out | apply IsS111.alloc | apply IsS111.drewN | apply IsS111.drew | apply IsS111.set_1) | exact HI0.out)) hb); have n1_ := Aside0.mk (KeepBut.trans (by repeat (first | (with_reducible first | exact HK.out | apply KeepBut.set_ | apply keep_drewN | apply keep_drew | apply keep_alloc) | exact HK.out)) (KeepBut.of_below hb g none) (.inl rfl)); have n2_ := Aside0.mk (below_step (by repeat (first | (with_reducible first | exact HB.out | apply below_alloc | apply pw_below_drewN | apply below_drew1 | refine below_set ?_ (IsS111.ge HI0.out)) | exact HB.out)) hb); have n3_ := Aside0.mk (hbox); have n4_ := Aside0.mk ((by rw [hg]; exact (keep_size (w := w) (g := g) (row := none) (by repeat (first | (with_reducible first | exact HK.out | apply KeepBut.set_ | apply keep_drewN | apply keep_drew | apply keep_alloc) | exact HK.out))) : w.heap.size ≤ gb158)); have n5_ := Aside0.mk ((Nat.le_trans HW0.out (by rw [hg]; exact (keep_size (w := w) (g := g) (row := none) (by repeat (first | (with_reducible first | exact HK.out | apply KeepBut.set_ | apply keep_drewN | apply keep_drew | apply keep_alloc) | exact HK.out))) : w.heap.size ≤ gb158) : w0.heap.size ≤ gb158)); have n6_ := Aside0.mk ((by rw [hg]; exact Nat.ne_of_lt (IsS111.lt (show IsS111 w0 _ g s0_0 s0_1 from by repeat (first | (with_reducible first | exact HI0.out | apply IsS111.alloc | apply IsS111.drewN | apply IsS111.drew | apply IsS111.set_1) | exact HI0.out))) : g ≠ gb158)); have n7_ := Aside0.mk ((by rw [hg]; exact Nat.ne_of_gt (IsS111.lt (show IsS111 w0 _ g s0_0 s0_1 from by repeat (first | (with_reducible first | exact HI0.out | apply IsS111.alloc | apply IsS111.drewN | apply IsS111.drew | apply IsS111.set_1) | exact HI0.out))) : gb158 ≠ g)); clear HI0; clear HK; clear HB; have HI0 := n0_; have HK := n1_; have HB := n2_; have BK158 := n3_; have GW158 := n4_; have GE158 := n5_; have NB0_158 := n6_; have NB158_0 := n7_; clear n0_ n1_ n2_ n3_ n4_ n5_ n6_ n7_; clear hb hbox hg) | ((with_reducible refine gate_callee (f := 18) rfl ?_); refine goesL_ (some 4) rfl rfl Try.func18 (by kernel_rfl) rfl #[.pointer (some ⟨g, 0, none⟩), .int .i64 5] rfl (by (try simp only [List.map_toArray, List.map_cons, List.map_nil]); first | done | rfl | (simp only [List.length_drop, List.length_take]; rfl)) ?_; (with_reducible refine (timeboundmake_Deck_Next.calls g s0_0 s0_1 5 t159 t160 w0 _ ?side1 ?side2 A2.out).mono ?_); (case side1 => repeat (first | (with_reducible first | exact HI0.out | apply IsS111.alloc | apply IsS111.drewN | apply IsS111.drew | apply IsS111.set_1 | refine IsS111.far ?_ NB0_158.out _) | exact HI0.out)); (case side2 => repeat (first | (with_reducible first | exact HB.out | apply below_alloc | apply pw_below_drewN | apply below_drew1 | refine below_set ?_ (IsS111.ge HI0.out) | refine below_set ?_ GE158.out) | exact HB.out)); rintro e w6 ⟨rfl, hi, hb, hk⟩; refine ⟨_, rfl, ?_⟩; have n0_ := Aside0.mk (KeepBut.blk hk (g' := gb158) (o := .cells #[.int .i64 0, .int .i64 0, .int .i64 0] 65 (0, 0)) (by (with_reducible repeat (first | refine blk_drewN ?_ _ | refine blk_drew ?_ | refine blk_alloc ?_ _)); exact BK158.out) NB158_0.out (by simp)); have n1_ := Aside0.mk (KeepBut.trans (by repeat (first | (with_reducible first | exact HK.out | apply KeepBut.set_ | apply keep_drewN | apply keep_drew | apply keep_alloc | refine keep_far ?_ GW158.out _) | exact HK.out)) hk (.inl rfl)); have n2_ := Aside0.mk (hb); have n3_ := Aside0.mk (hi); clear BK158; clear HK; clear HB; clear HI0; have BK158 := n0_; have HK := n1_; have HB := n2_; have HI0 := n3_; clear n0_ n1_ n2_ n3_; (try clear hb); (try clear hb2); (try clear hk); (try clear hi)) | ((with_reducible refine gate_callee (f := 18) rfl ?_); refine goesL_ (some 6) rfl rfl Try.func18 (by kernel_rfl) rfl #[.pointer (some ⟨g, 0, none⟩), .int .i64 3] rfl (by (try simp only [List.map_toArray, List.map_cons, List.map_nil]); first | done | rfl | (simp only [List.length_drop, List.length_take]; rfl)) ?_; (with_reducible refine (timeboundmake_Deck_Next.calls g s0_0 t160 3 t161 t162 w0 _ ?side1 ?side2 A3.out).mono ?_); (case side1 => repeat (first | (with_reducible first | exact HI0.out | apply IsS111.alloc | apply IsS111.drewN | apply IsS111.drew | apply IsS111.set_1 | refine IsS111.far ?_ NB0_158.out _) | exact HI0.out)); (case side2 => repeat (first | (with_reducible first | exact HB.out | apply below_alloc | apply pw_below_drewN | apply below_drew1 | refine below_set ?_ (IsS111.ge HI0.out) | refine below_set ?_ GE158.out) | exact HB.out)); rintro e w7 ⟨rfl, hi, hb, hk⟩; refine ⟨_, rfl, ?_⟩; have n0_ := Aside0.mk (KeepBut.blk hk (g' := gb158) (o := .cells #[.int .i64 0, .int .i64 0, .int .i64 0] 65 (0, 0)) (by (with_reducible repeat (first | refine blk_drewN ?_ _ | refine blk_drew ?_ | refine blk_alloc ?_ _)); exact BK158.out) NB158_0.out (by simp)); have n1_ := Aside0.mk (KeepBut.trans (by repeat (first | (with_reducible first | exact HK.out | apply KeepBut.set_ | apply keep_drewN | apply keep_drew | apply keep_alloc | refine keep_far ?_ GW158.out _) | exact HK.out)) hk (.inl rfl)); have n2_ := Aside0.mk (hb); have n3_ := Aside0.mk (hi); clear BK158; clear HK; clear HB; clear HI0; have BK158 := n0_; have HK := n1_; have HB := n2_; have HI0 := n3_; clear n0_ n1_ n2_ n3_; (try clear hb); (try clear hb2); (try clear hk); (try clear hi)) | ((with_reducible refine gate_callee (f := 18) rfl ?_); refine goesL_ (some 9) rfl rfl Try.func18 (by kernel_rfl) rfl #[.pointer (some ⟨g, 0, none⟩), .int .i64 4] rfl (by (try simp only [List.map_toArray, List.map_cons, List.map_nil]); first | done | rfl | (simp only [List.length_drop, List.length_take]; rfl)) ?_; (with_reducible refine (timeboundmake_Deck_Next.calls g s0_0 t162 4 t163 t164 w0 _ ?side1 ?side2 A4.out).mono ?_); (case side1 => repeat (first | (with_reducible first | exact HI0.out | apply IsS111.alloc | apply IsS111.drewN | apply IsS111.drew | apply IsS111.set_1 | refine IsS111.far ?_ NB0_158.out _) | exact HI0.out)); (case side2 => repeat (first | (with_reducible first | exact HB.out | apply below_alloc | apply pw_below_drewN | apply below_drew1 | refine below_set ?_ (IsS111.ge HI0.out) | refine below_set ?_ GE158.out) | exact HB.out)); rintro e w8 ⟨rfl, hi, hb, hk⟩; refine ⟨_, rfl, ?_⟩; have n0_ := Aside0.mk (KeepBut.blk hk (g' := gb158) (o := .cells #[.int .i64 0, .int .i64 0, .int .i64 0] 65 (0, 0)) (by (with_reducible repeat (first | refine blk_drewN ?_ _ | refine blk_drew ?_ | refine blk_alloc ?_ _)); exact BK158.out) NB158_0.out (by simp)); have n1_ := Aside0.mk (KeepBut.trans (by repeat (first | (with_reducible first | exact HK.out | apply KeepBut.set_ | apply keep_drewN | apply keep_drew | apply keep_alloc | refine keep_far ?_ GW158.out _) | exact HK.out)) hk (.inl rfl)); have n2_ := Aside0.mk (hb); have n3_ := Aside0.mk (hi); clear BK158; clear HK; clear HB; clear HI0; have BK158 := n0_; have HK := n1_; have HB := n2_; have HI0 := n3_; clear n0_ n1_ n2_ n3_; (try clear hb); (try clear hb2); (try clear hk); (try clear hi); have hnb9 := NB158_0.out; have hnc9 := NB0_158.out; have hcz10_0 : w8.cell? ⟨gb158, 0, none⟩ = some (.int .i64 0) := (blk_cell BK158.out 0).trans rfl; have hcz10_1 : w8.cell? ⟨gb158, 1, none⟩ = some (.int .i64 0) := (blk_cell BK158.out 1).trans rfl; have hcz10_2 : w8.cell? ⟨gb158, 2, none⟩ = some (.int .i64 0) := (blk_cell BK158.out 2).trans rfl; have hfz10_0 := blk_frozen BK158.out 0; have hfz10_1 := blk_frozen BK158.out 1; have hfz10_2 := blk_frozen BK158.out 2))
  refine bodyPost_ret (results_cell_row rfl _ _ gb158 65 #[.int .i64 t159, .int .i64 (wrap64 (1 + t161)), .int .i64 (wrap64 (1 + t163))] (0, 0) _ rfl (by (with_reducible repeat (first | refine blk_drewN ?_ _ | refine blk_drew ?_ | refine blk_alloc ?_ _)); refine blk_put (cs := #[.int .i64 t159, .int .i64 (wrap64 (1 + t161)), .int .i64 0]) ?_ 2 _ rfl; (with_reducible repeat (first | refine blk_drewN ?_ _ | refine blk_drew ?_ | refine blk_alloc ?_ _)); refine blk_put (cs := #[.int .i64 t159, .int .i64 0, .int .i64 0]) ?_ 1 _ rfl; (with_reducible repeat (first | refine blk_drewN ?_ _ | refine blk_drew ?_ | refine blk_alloc ?_ _)); refine blk_put (cs := #[.int .i64 0, .int .i64 0, .int .i64 0]) ?_ 0 _ rfl; (with_reducible repeat (first | refine blk_drewN ?_ _ | refine blk_drew ?_ | refine blk_alloc ?_ _)); exact BK158.out) Try.underlying65 rfl (by kernel_rfl)) rfl ?_
  exact ⟨by first | rfl | (simp [errW_none, errW_some] <;> rfl) | (simp [*, errW_none, errW_some] <;> rfl), by repeat (first | (with_reducible first | exact HI0.out | apply IsS111.alloc | apply IsS111.drewN | apply IsS111.drew | apply IsS111.set_1 | refine IsS111.far ?_ NB0_158.out _) | exact HI0.out), by repeat (first | (with_reducible first | exact HB.out | apply below_alloc | apply pw_below_drewN | apply below_drew1 | refine below_set ?_ (IsS111.ge HI0.out) | refine below_set ?_ GE158.out) | exact HB.out), by repeat (first | (with_reducible first | exact HK.out | apply KeepBut.set_ | apply keep_drewN | apply keep_drew | apply keep_alloc | refine keep_far ?_ GW158.out _) | exact HK.out)⟩

/-! ### timeboundmake_Processor: function 41 -/
/-- Beside a deck: what holds of it, of the world that was, and of what was written since. -/
structure PrAt (w0 w W : World) (g : Nat) (s : List Int) (p : Int) : Prop where
  I : IsS111 w0 W g s p
  B : Below w0.heap.size w0 W
  K : KeepBut w W g none
theorem PrAt.call {w0 w W W' : World} {g : Nat} {s : List Int} {p p' : Int} (h : PrAt w0 w W g s p) (hi : IsS111 w0 W' g s p') (hb : Below w0.heap.size w0 W') (hk : KeepBut W W' g none) : PrAt w0 w W' g s p' := ⟨hi, hb, h.K.trans hk (.inl rfl)⟩
theorem PrAt.alloc {w0 w W : World} {g : Nat} {s : List Int} {p : Int} (h : PrAt w0 w W g s p) (o : Obj) : PrAt w0 w (W.alloc o) g s p := ⟨h.I.alloc o, below_alloc h.B o, keep_alloc h.K o⟩
theorem PrAt.row {w0 w W : World} {g : Nat} {s : List Int} {p : Int} (h : PrAt w0 w W g s p) (hB : Below w0.heap.size w0 w) {b : Nat} (hb : w.heap.size ≤ b) (hne : b ≠ g) (cs : Array Value) : PrAt w0 w (W.setRow b cs) g s p := by
  obtain ⟨A, c, hh, hg, hC⟩ := h.I
  exact ⟨⟨A, c, (setRow_other W b g cs (Ne.symm hne)).trans hh, hg, hC⟩, below_setRow h.B (Nat.le_trans hB.size hb) cs, by rw [size_setRow]; exact h.K.1, fun i hi h1 h2 => (setRow_other W b i cs (by omega)).trans (h.K.2 i hi h1 h2)⟩
theorem PrAt.set {w0 w W : World} {g : Nat} {s : List Int} {p : Int} (h : PrAt w0 w W g s p) (hB : Below w0.heap.size w0 w) {b : Nat} (hb : w.heap.size ≤ b) (hne : g ≠ b) (j : Nat) (u : Value) : PrAt w0 w (W.setCell ⟨b, j, none⟩ u) g s p :=
  ⟨h.I.far hne u, below_set h.B (Nat.le_trans hB.size hb), keep_far h.K hb u⟩
/-- A list of one span, or none. -/
def spanOf (s : List Int) (q a b : Int) : Option (List S74 × Int) := (timeboundmake_Deck_Next.f s q 3).bind fun n => if n.1 = 2 then (timeboundmake_Deck_Next.f s n.2 a).bind fun x => (timeboundmake_Deck_Next.f s x.2 b).bind fun y => some ([(⟨x.1, wrap64 (x.1 + y.1)⟩ : S74)], y.2) else some ([], n.2)
def timeboundmake_Processor.f (s : List Int) (p : Int) : Option (Int × Int × Int × Int × Int × Int × Int × Int × Int × Int × Int × Int × Int × Int × Int × (List (S74)) × (List (S74)) × Int) :=
  (timeboundmake_Cache.f s p).bind fun a => (timeboundmake_Cache.f s a.2.2.2).bind fun b => (timeboundmake_Deck_Next.f s b.2.2.2 12).bind fun n3 => (timeboundmake_Deck_Next.f s n3.2 4).bind fun n4 => (timeboundmake_Deck_Next.f s n4.2 4).bind fun n5 => (timeboundmake_Deck_Next.f s n5.2 6).bind fun n6 => (timeboundmake_Deck_Next.f s n6.2 5).bind fun n7 => (timeboundmake_Deck_Next.f s n7.2 5).bind fun n8 => (timeboundmake_Deck_Next.f s n8.2 3).bind fun n9 => (timeboundmake_Deck_Next.f s n9.2 4).bind fun n10 => (timeboundmake_Deck_Next.f s n10.2 9).bind fun n11 =>
    (spanOf s n11.2 100 40).bind fun c => (spanOf s c.2 30 20).bind fun d => some (a.1, a.2.1, a.2.2.1, b.1, b.2.1, b.2.2.1, n3.1, n4.1, wrap64 (1 + n5.1), n6.1, n7.1, n8.1, n9.1, n10.1, n11.1, c.1, d.1, d.2)
def PrZ : Obj := .cells #[.int .i64 0, .int .i64 0, .int .i64 0, .int .i64 0, .int .i64 0, .int .i64 0, .int .i64 0, .int .i64 0, .int .i64 0, .int .i64 0, .int .i64 0, .int .i64 0, .int .i64 0, .int .i64 0, .int .i64 0, .slice none 0 0, .slice none 0 0] 68 (0, 0)
def PrN (a0 a1 a2 a3 a4 a5 a6 a7 a8 a9 a10 a11 a12 a13 a14 : Int) (u v : Value) : Array Value := #[.int .i64 a0, .int .i64 a1, .int .i64 a2, .int .i64 a3, .int .i64 a4, .int .i64 a5, .int .i64 a6, .int .i64 a7, .int .i64 a8, .int .i64 a9, .int .i64 a10, .int .i64 a11, .int .i64 a12, .int .i64 a13, .int .i64 a14, u, v]
/-- The same with both variables: the result's place (zeros), and the processor. -/
structure Pr2 (w0 w W : World) (g : Nat) (s : List Int) (p : Int) (new : Array Value) (b3 : Nat) : Prop where
  A : PrAt w0 w W g s p
  Z : W.heap[w.heap.size]? = some PrZ
  L : g < w.heap.size
  N : W.heap[b3]? = some (.cells new 68 (0, 0))
  ne : b3 ≠ g
  le : w.heap.size < b3
theorem Pr2.call {w0 w W W' : World} {g b3 : Nat} {s : List Int} {p p' : Int} {new : Array Value} (h : Pr2 w0 w W g s p new b3) (hi : IsS111 w0 W' g s p') (hb : Below w0.heap.size w0 W') (hk : KeepBut W W' g none) : Pr2 w0 w W' g s p' new b3 :=
  ⟨h.A.call hi hb hk, KeepBut.blk hk h.Z (Nat.ne_of_gt h.L) (by simp), h.L, KeepBut.blk hk h.N h.ne (by simp), h.ne, h.le⟩
theorem Pr2.below {w0 w W W' : World} {g b3 : Nat} {s : List Int} {p : Int} {new : Array Value} (h : Pr2 w0 w W g s p new b3) (hb : Below W.heap.size W W') : Pr2 w0 w W' g s p new b3 :=
  ⟨⟨h.A.I.below hb, below_step h.A.B hb, h.A.K.trans (KeepBut.of_below hb g none) (.inl rfl)⟩, blk_below h.Z hb, h.L, blk_below h.N hb, h.ne, h.le⟩
theorem Pr2.row {w0 w W W' : World} {g b3 base : Nat} {s : List Int} {p : Int} {new : Array Value} (h : Pr2 w0 w W g s p new b3) {u : Value} {c : List S74} (ho : Kd.R k74 74 W base (fun _ => True) u c) (hk : KeepBut W W' g none) : Kd.R k74 74 W' base (fun _ => True) u c :=
  Kd.R_mono (Kd.R_keep (h.A.I.apart ho (by decide)) hk (fun _ h => h.2)) (fun _ _ => trivial)
theorem Pr2.put15 {w0 w W : World} {g b3 : Nat} {s : List Int} {p a0 a1 a2 a3 a4 a5 a6 a7 a8 a9 a10 a11 a12 a13 a14 : Int} {u v : Value} (hB : Below w0.heap.size w0 w) (h : Pr2 w0 w W g s p (PrN a0 a1 a2 a3 a4 a5 a6 a7 a8 a9 a10 a11 a12 a13 a14 u v) b3) (x : Value) :
    Pr2 w0 w (W.setCell ⟨b3, 15, none⟩ x) g s p (PrN a0 a1 a2 a3 a4 a5 a6 a7 a8 a9 a10 a11 a12 a13 a14 x v) b3 :=
  ⟨h.A.set hB (Nat.le_of_lt h.le) (Ne.symm h.ne) 15 x, blk_far h.Z (Nat.ne_of_lt h.le) x, h.L, by simpa [PrN] using blk_set h.N 15 x, h.ne, h.le⟩
theorem Pr2.put16 {w0 w W : World} {g b3 : Nat} {s : List Int} {p a0 a1 a2 a3 a4 a5 a6 a7 a8 a9 a10 a11 a12 a13 a14 : Int} {u v : Value} (hB : Below w0.heap.size w0 w) (h : Pr2 w0 w W g s p (PrN a0 a1 a2 a3 a4 a5 a6 a7 a8 a9 a10 a11 a12 a13 a14 u v) b3) (x : Value) :
    Pr2 w0 w (W.setCell ⟨b3, 16, none⟩ x) g s p (PrN a0 a1 a2 a3 a4 a5 a6 a7 a8 a9 a10 a11 a12 a13 a14 u x) b3 :=
  ⟨h.A.set hB (Nat.le_of_lt h.le) (Ne.symm h.ne) 16 x, blk_far h.Z (Nat.ne_of_lt h.le) x, h.L, by simpa [PrN] using blk_set h.N 16 x, h.ne, h.le⟩
theorem PrN_store {W : World} {b : Nat} (h : W.heap[b]? = some PrZ) (a0 a1 a2 a3 a4 a5 a6 a7 a8 a9 a10 a11 a12 a13 a14 : Int) (A : Option Addr) (n c : Nat) (A' : Option Addr) (n' c' : Nat) :
    (storeCells ⟨b, 0, none⟩ (PrN a0 a1 a2 a3 a4 a5 a6 a7 a8 a9 a10 a11 a12 a13 a14 (.slice A n c) (.slice A' n' c')).toList).run Try.prog W = .ok () (W.setRow b (PrN a0 a1 a2 a3 a4 a5 a6 a7 a8 a9 a10 a11 a12 a13 a14 (.slice A n c) (.slice A' n' c'))) := by
  have := run_storeCells_from (P := Try.prog) b 68 (PrN a0 a1 a2 a3 a4 a5 a6 a7 a8 a9 a10 a11 a12 a13 a14 (.slice A n c) (.slice A' n' c')).toList 0 _ W h rfl (by intro v hv; simp [PrN] at hv; rcases hv with rfl | rfl | rfl | rfl | rfl | rfl | rfl | rfl | rfl | rfl | rfl | rfl | rfl | rfl | rfl | rfl | rfl <;> rfl)
  simpa using this
set_option maxHeartbeats 8000000 in
set_option maxRecDepth 100000 in
theorem timeboundmake_Processor.calls (g : Nat) (s0_0 : List Int) (s0_1 : Int) (r1 : Int) (r2 : Int) (r3 : Int) (r4 : Int) (r5 : Int) (r6 : Int) (r7 : Int) (r8 : Int) (r9 : Int) (r10 : Int) (r11 : Int) (r12 : Int) (r13 : Int) (r14 : Int) (r15 : Int) (r16 : List (S74)) (r17 : List (S74)) (r18 : Int) (w0 w : World) (hI : IsS111 w0 w g s0_0 s0_1) (hB : Below w0.heap.size w0 w) (h : timeboundmake_Processor.f s0_0 s0_1 = some (r1, r2, r3, r4, r5, r6, r7, r8, r9, r10, r11, r12, r13, r14, r15, r16, r17, r18)) :
    Calls Try.prog 41 #[.pointer (some ⟨g, 0, none⟩)] w fun e w' => ∃ v15_ v16_ : Value, e = .returned (.agg #[.int .i64 r1, .int .i64 r2, .int .i64 r3, .int .i64 r4, .int .i64 r5, .int .i64 r6, .int .i64 r7, .int .i64 r8, .int .i64 r9, .int .i64 r10, .int .i64 r11, .int .i64 r12, .int .i64 r13, .int .i64 r14, .int .i64 r15, v15_, v16_]) ∧ Kd.R k74 74 w' w.heap.size (fun k_ => some k_ ≠ (v16_ : Value).ownBlock) v15_ r16 ∧ Kd.R k74 74 w' w.heap.size (fun k_ => some k_ ≠ (v15_ : Value).ownBlock) v16_ r17 ∧ IsS111 w0 w' g s0_0 r18 ∧ Below w0.heap.size w0 w' ∧ KeepBut w w' g none := by
  unfold timeboundmake_Processor.f at h
  replace h := Option.bind_eq_some_iff.1 h
  obtain ⟨⟨r1', r2', r3', q1⟩, e1, h⟩ := h
  replace h := Option.bind_eq_some_iff.1 h
  obtain ⟨⟨r4', r5', r6', q2⟩, e2, h⟩ := h
  replace h := Option.bind_eq_some_iff.1 h
  obtain ⟨⟨r7', q3⟩, e3, h⟩ := h
  replace h := Option.bind_eq_some_iff.1 h
  obtain ⟨⟨r8', q4⟩, e4, h⟩ := h
  replace h := Option.bind_eq_some_iff.1 h
  obtain ⟨⟨n9, q5⟩, e5, h⟩ := h
  replace h := Option.bind_eq_some_iff.1 h
  obtain ⟨⟨r10', q6⟩, e6, h⟩ := h
  replace h := Option.bind_eq_some_iff.1 h
  obtain ⟨⟨r11', q7⟩, e7, h⟩ := h
  replace h := Option.bind_eq_some_iff.1 h
  obtain ⟨⟨r12', q8⟩, e8, h⟩ := h
  replace h := Option.bind_eq_some_iff.1 h
  obtain ⟨⟨r13', q9⟩, e9, h⟩ := h
  replace h := Option.bind_eq_some_iff.1 h
  obtain ⟨⟨r14', q10⟩, e10, h⟩ := h
  replace h := Option.bind_eq_some_iff.1 h
  obtain ⟨⟨r15', q11⟩, e11, h⟩ := h
  replace h := Option.bind_eq_some_iff.1 h
  obtain ⟨⟨c, q12⟩, e12, h⟩ := h
  replace h := Option.bind_eq_some_iff.1 h
  obtain ⟨⟨d, q13⟩, e13, h⟩ := h
  simp only [Option.some.injEq, Prod.mk.injEq] at h
  obtain ⟨rfl, rfl, rfl, rfl, rfl, rfl, rfl, rfl, rfl, rfl, rfl, rfl, rfl, rfl, rfl, rfl, rfl, rfl⟩ := h
  have hu68 := Try.underlying68
  have H0 := Aside0.mk (PrAt.alloc ⟨hI, hB, KeepBut.refl w g none⟩ PrZ)
  have HZ0 := Aside0.mk (KeepBut.refl (w.alloc PrZ) g none)
  have HBW := Aside0.mk hB
  have HLG := Aside0.mk (hI.lt)
  have E1 := Aside0.mk e1
  have E2 := Aside0.mk e2
  have E3 := Aside0.mk e3
  have E4 := Aside0.mk e4
  have E5 := Aside0.mk e5
  have E6 := Aside0.mk e6
  have E7 := Aside0.mk e7
  have E8 := Aside0.mk e8
  have E9 := Aside0.mk e9
  have E10 := Aside0.mk e10
  have E11 := Aside0.mk e11
  have E12 := Aside0.mk e12
  have E13 := Aside0.mk e13
  clear hI hB e1 e2 e3 e4 e5 e6 e7 e8 e9 e10 e11 e12 e13
  go_enter Try.func41, Try.ntmps41
  go_wp2_with fail
  refine (timeboundmake_Cache.calls g s0_0 s0_1 _ _ _ q1 w0 _ H0.out.I H0.out.B E1.out).mono ?_
  rintro e w1 ⟨rfl, hi, hb, hk⟩
  have H1 := Aside0.mk (H0.out.call hi hb hk)
  have HZ1 := Aside0.mk (HZ0.out.trans hk (.inl rfl))
  clear hi hb hk H0 HZ0 E1
  go_wp2_with fail
  refine (timeboundmake_Cache.calls g s0_0 q1 _ _ _ q2 w0 _ H1.out.I H1.out.B E2.out).mono ?_
  rintro e w2 ⟨rfl, hi, hb, hk⟩
  have H2 := Aside0.mk (H1.out.call hi hb hk)
  have HZ2 := Aside0.mk (HZ1.out.trans hk (.inl rfl))
  clear hi hb hk H1 HZ1 E2
  go_wp2_with fail
  refine (timeboundmake_Deck_Next.calls g s0_0 q2 12 _ q3 w0 _ H2.out.I H2.out.B E3.out).mono ?_
  rintro e w3 ⟨rfl, hi, hb, hk⟩
  have H3 := Aside0.mk (H2.out.call hi hb hk)
  have HZ3 := Aside0.mk (HZ2.out.trans hk (.inl rfl))
  clear hi hb hk H2 HZ2 E3
  go_wp2_with fail
  refine (timeboundmake_Deck_Next.calls g s0_0 q3 4 _ q4 w0 _ H3.out.I H3.out.B E4.out).mono ?_
  rintro e w4 ⟨rfl, hi, hb, hk⟩
  have H4 := Aside0.mk (H3.out.call hi hb hk)
  have HZ4 := Aside0.mk (HZ3.out.trans hk (.inl rfl))
  clear hi hb hk H3 HZ3 E4
  go_wp2_with fail
  refine (timeboundmake_Deck_Next.calls g s0_0 q4 4 _ q5 w0 _ H4.out.I H4.out.B E5.out).mono ?_
  rintro e w5 ⟨rfl, hi, hb, hk⟩
  have H5 := Aside0.mk (H4.out.call hi hb hk)
  have HZ5 := Aside0.mk (HZ4.out.trans hk (.inl rfl))
  clear hi hb hk H4 HZ4 E5
  go_wp2_with fail
  refine (timeboundmake_Deck_Next.calls g s0_0 q5 6 _ q6 w0 _ H5.out.I H5.out.B E6.out).mono ?_
  rintro e w6 ⟨rfl, hi, hb, hk⟩
  have H6 := Aside0.mk (H5.out.call hi hb hk)
  have HZ6 := Aside0.mk (HZ5.out.trans hk (.inl rfl))
  clear hi hb hk H5 HZ5 E6
  go_wp2_with fail
  refine (timeboundmake_Deck_Next.calls g s0_0 q6 5 _ q7 w0 _ H6.out.I H6.out.B E7.out).mono ?_
  rintro e w7 ⟨rfl, hi, hb, hk⟩
  have H7 := Aside0.mk (H6.out.call hi hb hk)
  have HZ7 := Aside0.mk (HZ6.out.trans hk (.inl rfl))
  clear hi hb hk H6 HZ6 E7
  go_wp2_with fail
  refine (timeboundmake_Deck_Next.calls g s0_0 q7 5 _ q8 w0 _ H7.out.I H7.out.B E8.out).mono ?_
  rintro e w8 ⟨rfl, hi, hb, hk⟩
  have H8 := Aside0.mk (H7.out.call hi hb hk)
  have HZ8 := Aside0.mk (HZ7.out.trans hk (.inl rfl))
  clear hi hb hk H7 HZ7 E8
  go_wp2_with fail
  refine (timeboundmake_Deck_Next.calls g s0_0 q8 3 _ q9 w0 _ H8.out.I H8.out.B E9.out).mono ?_
  rintro e w9 ⟨rfl, hi, hb, hk⟩
  have H9 := Aside0.mk (H8.out.call hi hb hk)
  have HZ9 := Aside0.mk (HZ8.out.trans hk (.inl rfl))
  clear hi hb hk H8 HZ8 E9
  go_wp2_with fail
  refine (timeboundmake_Deck_Next.calls g s0_0 q9 4 _ q10 w0 _ H9.out.I H9.out.B E10.out).mono ?_
  rintro e w10 ⟨rfl, hi, hb, hk⟩
  have H10 := Aside0.mk (H9.out.call hi hb hk)
  have HZ10 := Aside0.mk (HZ9.out.trans hk (.inl rfl))
  clear hi hb hk H9 HZ9 E10
  go_wp2_with fail
  refine (timeboundmake_Deck_Next.calls g s0_0 q10 9 _ q11 w0 _ H10.out.I H10.out.B E11.out).mono ?_
  rintro e w11 ⟨rfl, hi, hb, hk⟩
  have H11 := Aside0.mk (H10.out.call hi hb hk)
  have HZ11 := Aside0.mk (HZ10.out.trans hk (.inl rfl))
  clear hi hb hk H10 HZ10 E11
  have e12 := E12.out
  clear E12
  unfold spanOf at e12
  replace e12 := Option.bind_eq_some_iff.1 e12
  obtain ⟨⟨n12, qa⟩, ea, e12⟩ := e12
  simp only at e12
  have EA := Aside0.mk ea
  have E12 := Aside0.mk e12
  clear ea e12
  go_wp2_with (refine wpList_store_row rfl 68 _ _ rfl _ _ rfl rfl 68 _ (heap_alloc_last _ _) (by kernel_rfl) rfl rfl ?_; rw [World.setRow_alloc_new])
  refine (timeboundmake_Deck_Next.calls g s0_0 q11 3 n12 qa w0 _ (H11.out.alloc _).I (H11.out.alloc _).B EA.out).mono ?_
  rintro e w12 ⟨rfl, hi, hb, hk⟩
  have H12 := Aside0.mk (Pr2.mk ((H11.out.alloc _).call hi hb hk) (KeepBut.blk ((keep_alloc HZ11.out _).trans hk (.inl rfl)) (heap_alloc_last w _) (Nat.ne_of_gt HLG.out) (by simp)) HLG.out (KeepBut.blk hk (heap_alloc_last w11 _) (Nat.ne_of_gt H11.out.I.lt) (by simp)) (Nat.ne_of_gt H11.out.I.lt) (by have := HZ11.out.1; simp at this; omega))
  clear hi hb hk H11 HZ11 EA
  generalize w11.heap.size = b3 at *
  clear w11
  go_upto_if 32 with (fail)
  go_cut [] (fun wc => ∃ u : Value, Aside0 (Pr2 w0 w wc g s0_0 q12 (PrN r1' r2' r3' r4' r5' r6' r7' r8' (wrap64 (1 + n9)) r10' r11' r12' r13' r14' r15' u (.slice none 0 0)) b3) ∧ Aside0 (Kd.R k74 74 wc w.heap.size (fun _ => True) u c))
  case first =>
    by_cases hn : n12 = 2
    · have e12 := E12.out
      rw [if_pos hn] at e12
      replace e12 := Option.bind_eq_some_iff.1 e12
      obtain ⟨⟨x, qb⟩, eb, e12⟩ := e12
      replace e12 := Option.bind_eq_some_iff.1 e12
      obtain ⟨⟨y, qc⟩, ec, e12⟩ := e12
      simp only [Option.some.injEq, Prod.mk.injEq] at e12
      obtain ⟨rfl, rfl⟩ := e12
      have d1 : (n12 == 2) = true := beq_iff_eq.mpr hn
      have EB := Aside0.mk eb
      have EC := Aside0.mk ec
      clear eb ec hn E12
      go_wp2_with fail
      refine (timeboundmake_Deck_Next.calls g s0_0 qa 100 x qb w0 _ H12.out.A.I H12.out.A.B EB.out).mono ?_
      rintro e w13 ⟨rfl, hi, hb, hk⟩
      have H13 := Aside0.mk (H12.out.call hi hb hk)
      clear hi hb hk H12 EB
      go_wp2_with fail
      refine (timeboundmake_Deck_Next.calls g s0_0 qb 40 y qc w0 _ H13.out.A.I H13.out.A.B EC.out).mono ?_
      rintro e w14 ⟨rfl, hi, hb, hk⟩
      have H14 := Aside0.mk (H13.out.call hi hb hk)
      clear hi hb hk H13 EC
      go_wp2_with ((with_reducible refine gate_dst (N := 41) rfl ?_); refine Kd.R_lit k74 _ 74 ?hg (N := 41) ?hd (xs := ([(⟨x, wrap64 (x + y)⟩ : S74)] : List (S74))) (inner := [.int .i64 x, .int .i64 (wrap64 (x + y))]) (ok := fun _ => True) (okp := fun _ => True) ?hr ?hp (fun _ hk => hk) trivial (Below.refl _ _) (Nat.le_refl _) (by simp) ?_; (case hd => rfl); (case hg => rfl); (case hr => first | (go_simp; done) | (go_simp; rfl)); (case hp => exact (Reps.c2 (show Kd.M k74 _ _ _ (⟨x, wrap64 (x + y)⟩ : S74) [.int .i64 x, .int .i64 (wrap64 (x + y))] from (k74_mkM _ _ _ (⟨x, wrap64 (x + y)⟩ : S74) )) (Reps.none _ _))); intro v w15 ho hb hg_ hnew_; clear hg_ hnew_; obtain ⟨A', c', rfl⟩ := Kd.R_slice ho; have HO := Aside0.mk (Kd.R_lower ho H14.out.A.K.1); have H15 := Aside0.mk (H14.out.below hb); clear ho hb H14; have hc15 := blk_cell H15.out.N 15; have hf15 := blk_frozen H15.out.N 15)
      go_meet
      case rel => exact ⟨_, ⟨H15.out.put15 HBW.out _⟩, ⟨Kd.R_mono (Kd.R_far (p := ⟨b3, 15, none⟩) (Kd.R_types HO.out H15.out.N (by decide)) (fun _ hk => hk.2) _) (fun _ _ => trivial)⟩⟩
    · have e12 := E12.out
      rw [if_neg hn] at e12
      simp only [Option.some.injEq, Prod.mk.injEq] at e12
      obtain ⟨rfl, rfl⟩ := e12
      have d1 : (n12 == 2) = false := beq_eq_false_iff_ne.mpr hn
      clear hn E12
      go_wp2_with fail
      go_meet
      case rel => exact ⟨_, H12, ⟨Kd.R_nil _ _ _ _ _⟩⟩
  case rest =>
    clear H12 E12
    obtain ⟨u, H12, HO⟩ := hcut
    have e13 := E13.out
    clear E13
    unfold spanOf at e13
    replace e13 := Option.bind_eq_some_iff.1 e13
    obtain ⟨⟨n13, qd⟩, ed, e13⟩ := e13
    simp only at e13
    have ED := Aside0.mk ed
    have E13 := Aside0.mk e13
    clear ed e13
    go_wp2_with fail
    refine (timeboundmake_Deck_Next.calls g s0_0 q12 3 n13 qd w0 _ H12.out.A.I H12.out.A.B ED.out).mono ?_
    rintro e w16 ⟨rfl, hi, hb, hk⟩
    have HP := Aside0.mk (H12.out.row HO.out hk)
    have H16 := Aside0.mk (H12.out.call hi hb hk)
    clear hi hb hk H12 HO ED wc
    go_upto_if 45 with (fail)
    go_cut [] (fun wc => ∃ v : Value, Aside0 (Pr2 w0 w wc g s0_0 q13 (PrN r1' r2' r3' r4' r5' r6' r7' r8' (wrap64 (1 + n9)) r10' r11' r12' r13' r14' r15' u v) b3) ∧ Aside0 (Kd.R k74 74 wc w.heap.size (fun k_ => some k_ ≠ v.ownBlock) u c) ∧ Aside0 (Kd.R k74 74 wc w.heap.size (fun k_ => some k_ ≠ u.ownBlock) v d))
    case first =>
      by_cases hn : n13 = 2
      · have e13 := E13.out
        rw [if_pos hn] at e13
        replace e13 := Option.bind_eq_some_iff.1 e13
        obtain ⟨⟨x, qb⟩, eb, e13⟩ := e13
        replace e13 := Option.bind_eq_some_iff.1 e13
        obtain ⟨⟨y, qc⟩, ec, e13⟩ := e13
        simp only [Option.some.injEq, Prod.mk.injEq] at e13
        obtain ⟨rfl, rfl⟩ := e13
        have d1 : (n13 == 2) = true := beq_iff_eq.mpr hn
        have EB := Aside0.mk eb
        have EC := Aside0.mk ec
        clear eb ec hn E13
        go_wp2_with fail
        refine (timeboundmake_Deck_Next.calls g s0_0 qd 30 x qb w0 _ H16.out.A.I H16.out.A.B EB.out).mono ?_
        rintro e w17 ⟨rfl, hi, hb, hk⟩
        have HQ := Aside0.mk (H16.out.row HP.out hk)
        have H17 := Aside0.mk (H16.out.call hi hb hk)
        clear hi hb hk H16 HP EB
        go_wp2_with fail
        refine (timeboundmake_Deck_Next.calls g s0_0 qb 20 y qc w0 _ H17.out.A.I H17.out.A.B EC.out).mono ?_
        rintro e w18 ⟨rfl, hi, hb, hk⟩
        have HP := Aside0.mk (H17.out.row HQ.out hk)
        have H18 := Aside0.mk (H17.out.call hi hb hk)
        clear hi hb hk H17 HQ EC
        go_wp2_with ((with_reducible refine gate_dst (N := 54) rfl ?_); go_must (refine Kd.R_lit k74 _ 74 ?hg (N := 54) ?hd (xs := ([(⟨x, wrap64 (x + y)⟩ : S74)] : List (S74))) (inner := [.int .i64 x, .int .i64 (wrap64 (x + y))]) (ok := fun k_ => some k_ ≠ u.ownBlock) (okp := fun k_ => some k_ ≠ u.ownBlock) ?hr ?hp (fun _ hk => hk) (fun he => Nat.lt_irrefl _ (Kd.R_lt HP.out _ he.symm)) (Below.refl _ _) (Nat.le_refl _) (by simp) ?_; (case hd => rfl); (case hg => rfl); (case hr => first | (go_simp; done) | (go_simp; rfl)); (case hp => exact (Reps.c2 (show Kd.M k74 _ _ _ (⟨x, wrap64 (x + y)⟩ : S74) [.int .i64 x, .int .i64 (wrap64 (x + y))] from (k74_mkM _ _ _ (⟨x, wrap64 (x + y)⟩ : S74) )) (Reps.none _ _))); intro v w19 ho hb hg_ hnew_; clear hg_; obtain ⟨A', c', rfl⟩ := Kd.R_slice ho; have HO := Aside0.mk (Kd.R_lower ho H18.out.A.K.1); have HU := Aside0.mk (Kd.R_mono (Kd.R_below (Kd.R_bound HP.out) hb) (fun k hk he => by obtain ⟨b, hb1, hb2⟩ := hnew_; have he2 : some k = some b := he.trans hb1; injection he2 with he2; have := hk.2.2.1; omega) : Kd.R k74 74 _ w.heap.size (fun k_ => some k_ ≠ (Value.slice A' 1 c').ownBlock) u c); have H19 := Aside0.mk (H18.out.below hb); clear ho hb H18 hnew_ HP; have hc15 := blk_cell H19.out.N 16; have hf15 := blk_frozen H19.out.N 16))
        go_meet
        case rel => exact ⟨_, ⟨H19.out.put16 HBW.out _⟩, ⟨Kd.R_mono (Kd.R_far (p := ⟨b3, 16, none⟩) (Kd.R_types HU.out H19.out.N (by decide)) (fun _ hk => hk.2) _) (fun _ hk => hk.1)⟩, ⟨Kd.R_mono (Kd.R_far (p := ⟨b3, 16, none⟩) (Kd.R_types HO.out H19.out.N (by decide)) (fun _ hk => hk.2) _) (fun _ hk => hk.1)⟩⟩
      · have e13 := E13.out
        rw [if_neg hn] at e13
        simp only [Option.some.injEq, Prod.mk.injEq] at e13
        obtain ⟨rfl, rfl⟩ := e13
        have d1 : (n13 == 2) = false := beq_eq_false_iff_ne.mpr hn
        clear hn E13
        go_wp2_with fail
        go_meet
        case rel => exact ⟨_, H16, ⟨Kd.R_mono HP.out (fun k _ => by simp [Value.ownBlock])⟩, ⟨Kd.R_nil _ _ _ _ _⟩⟩
    case rest =>
      clear H16 HP E13
      obtain ⟨v, H20, HU, HV⟩ := hcut
      obtain ⟨Au, cu, rfl⟩ := Kd.R_slice HU.out
      obtain ⟨Av, cv, rfl⟩ := Kd.R_slice HV.out
      have hst := PrN_store H20.out.Z r1' r2' r3' r4' r5' r6' r7' r8' (wrap64 (1 + n9)) r10' r11' r12' r13' r14' r15' Au c.length cu Av d.length cv
      go_wp2_with (refine wpList_load_row rfl 68 _ rfl b3 rfl 68 _ (0, 0) _ H20.out.N Try.underlying68 rfl (by kernel_rfl) ?_)
      refine bodyPost_ret (results_cell_row rfl _ _ w.heap.size 68 (PrN r1' r2' r3' r4' r5' r6' r7' r8' (wrap64 (1 + n9)) r10' r11' r12' r13' r14' r15' (.slice Au c.length cu) (.slice Av d.length cv)) (0, 0) _ rfl (setRow_heap _ _ _ _ _ _ H20.out.Z) Try.underlying68 rfl (by kernel_rfl)) rfl ?_
      have hA := H20.out.A.row HBW.out (Nat.le_refl _) (Nat.ne_of_gt HLG.out) (PrN r1' r2' r3' r4' r5' r6' r7' r8' (wrap64 (1 + n9)) r10' r11' r12' r13' r14' r15' (.slice Au c.length cu) (.slice Av d.length cv))
      exact ⟨_, _, rfl, Kd.R_mono (Kd.R_move (Kd.R_types HU.out H20.out.Z (by decide)) (fun k hk => setRow_other _ _ _ _ hk.2)) (fun _ hk => hk.1), Kd.R_mono (Kd.R_move (Kd.R_types HV.out H20.out.Z (by decide)) (fun k hk => setRow_other _ _ _ _ hk.2)) (fun _ hk => hk.1), hA.I, hA.B, hA.K⟩

/-! ### cache_between: function 153 -/
def cache_between.f (a0 : Int) (a1 : Int) (a2 : Int) : Option (Bool) := if a0 ≥ a1 then (some (decide (a0 ≤ a2))) else (some false)
set_option maxHeartbeats 8000000 in
set_option maxRecDepth 100000 in
theorem cache_between.calls (a0 : Int) (a1 : Int) (a2 : Int) (r : Bool) (w : World) (h : cache_between.f a0 a1 a2 = some r) :
    Calls Try.prog 153 #[.int .i64 a0, .int .i64 a1, .int .i64 a2] w fun e w' => e = .returned (.bool r) ∧ Drawn0 w w' := by
  have H : (if a0 ≥ a1 then (some (decide (a0 ≤ a2))) else (some false)) = some r := h
  clear h
  by_cases c4 : a0 ≥ a1
  · rw [if_pos c4] at H
    have c4b0 : decide (a1 ≤ a0) = true := decide_eq_true c4
    clear c4
    obtain rfl := Option.some.inj H
    go_enter Try.func153, Try.ntmps153
    go_wp2
    go_ret
    exact ⟨by first | rfl | (simp; done) | (simp [*]; done), by repeat (first | exact Drawn0.refl _ | apply Drawn0.step)⟩
  · rw [if_neg c4] at H
    have c4b0 : decide (a1 ≤ a0) = false := decide_eq_false c4
    clear c4
    obtain rfl := Option.some.inj H
    go_enter Try.func153, Try.ntmps153
    go_wp2
    go_ret
    exact ⟨by first | rfl | (simp; done) | (simp [*]; done), by repeat (first | exact Drawn0.refl _ | apply Drawn0.step)⟩

/-! ### cache_Check: function 131 -/
def cache_Check.f (a0_0 : Int) (a0_1 : Int) (a0_2 : Int) : Option (Int) := (cache_between.f a0_0 0 8).bind fun t166 => (if t166 = true then ((cache_between.f a0_1 1 4).bind fun t167 => (if t167 = true then ((cache_between.f a0_2 1 8).bind fun t168 => (if t168 = true then (some 0) else (some 3))) else (some 3))) else (some 3))
set_option maxHeartbeats 8000000 in
set_option maxRecDepth 100000 in
theorem cache_Check.calls (a0_0 : Int) (a0_1 : Int) (a0_2 : Int) (r : Int) (w : World) (h : cache_Check.f a0_0 a0_1 a0_2 = some r) :
    Calls Try.prog 131 #[.agg #[.int .i64 a0_0, .int .i64 a0_1, .int .i64 a0_2]] w fun e w' => e = .returned (.int .i64 r) ∧ Below w.heap.size w w' := by
  have hu65 := Try.underlying65
  have HB := Aside0.mk (Below.refl w.heap.size w)
  have H : ((cache_between.f a0_0 0 8).bind fun t166 => (if t166 = true then ((cache_between.f a0_1 1 4).bind fun t167 => (if t167 = true then ((cache_between.f a0_2 1 8).bind fun t168 => (if t168 = true then (some 0) else (some 3))) else (some 3))) else (some 3))) = some r := h
  clear h
  replace H := Option.bind_eq_some_iff.mp H
  obtain ⟨t166, A20, H⟩ := H
  replace H : (if t166 = true then ((cache_between.f a0_1 1 4).bind fun t167 => (if t167 = true then ((cache_between.f a0_2 1 8).bind fun t168 => (if t168 = true then (some 0) else (some 3))) else (some 3))) else (some 3)) = some r := H
  have A2 := Aside0.mk A20
  clear A20
  by_cases c3 : t166 = true
  · subst c3
    have H1 : ((cache_between.f a0_1 1 4).bind fun t167 => (if t167 = true then ((cache_between.f a0_2 1 8).bind fun t168 => (if t168 = true then (some 0) else (some 3))) else (some 3))) = some r := by rw [if_pos rfl] at H; exact H
    clear H
    have H := H1
    clear H1
    replace H := Option.bind_eq_some_iff.mp H
    obtain ⟨t167, A40, H⟩ := H
    replace H : (if t167 = true then ((cache_between.f a0_2 1 8).bind fun t168 => (if t168 = true then (some 0) else (some 3))) else (some 3)) = some r := H
    have A4 := Aside0.mk A40
    clear A40
    by_cases c5 : t167 = true
    · subst c5
      have H1 : ((cache_between.f a0_2 1 8).bind fun t168 => (if t168 = true then (some 0) else (some 3))) = some r := by rw [if_pos rfl] at H; exact H
      clear H
      have H := H1
      clear H1
      replace H := Option.bind_eq_some_iff.mp H
      obtain ⟨t168, A60, H⟩ := H
      replace H : (if t168 = true then (some 0) else (some 3)) = some r := H
      have A6 := Aside0.mk A60
      clear A60
      by_cases c7 : t168 = true
      · subst c7
        have H1 : (some 0) = some r := by rw [if_pos rfl] at H; exact H
        clear H
        have H := H1
        clear H1
        obtain rfl := Option.some.inj H
        go_enter Try.func131, Try.ntmps131
        go_wp2_with (first | ((with_reducible refine gate_dst (N := 1) rfl ?_); refine box_event ?hg (N := 1) ?hd (cs := #[.int .i64 a0_0, .int .i64 a0_1, .int .i64 a0_2]) (t := 65) ?hr ?_; (case hd => rfl); (case hg => rfl); (case hr => first | (go_simp; done) | (go_simp; rfl)); intro gb165 hg w8 hbox hb; have n0_ := Aside0.mk (below_step (by repeat (first | (with_reducible first | exact HB.out | apply below_alloc | apply pw_below_drewN | apply below_drew1) | exact HB.out)) hb); have n1_ := Aside0.mk (hbox); have n2_ := Aside0.mk ((by rw [hg]; exact (below_size (by repeat (first | (with_reducible first | exact HB.out | apply below_alloc | apply pw_below_drewN | apply below_drew1) | exact HB.out))) : w.heap.size ≤ gb165)); have n3_ := Aside0.mk ((by rw [hg]; exact (below_size (by repeat (first | (with_reducible first | exact HB.out | apply below_alloc | apply pw_below_drewN | apply below_drew1) | exact HB.out))) : w.heap.size ≤ gb165)); clear HB; have HB := n0_; have BK165 := n1_; have GW165 := n2_; have GE165 := n3_; clear n0_ n1_ n2_ n3_; clear hb hbox hg; have hcz9_0 : w8.cell? ⟨gb165, 0, none⟩ = some (.int .i64 a0_0) := (blk_cell BK165.out 0).trans rfl; have hcz9_1 : w8.cell? ⟨gb165, 1, none⟩ = some (.int .i64 a0_1) := (blk_cell BK165.out 1).trans rfl; have hcz9_2 : w8.cell? ⟨gb165, 2, none⟩ = some (.int .i64 a0_2) := (blk_cell BK165.out 2).trans rfl; have hfz9_0 := blk_frozen BK165.out 0; have hfz9_1 := blk_frozen BK165.out 1; have hfz9_2 := blk_frozen BK165.out 2) | ((with_reducible refine gate_callee (f := 153) rfl ?_); refine goesL_ (some 5) rfl rfl Try.func153 (by kernel_rfl) rfl #[.int .i64 a0_0, .int .i64 0, .int .i64 8] rfl (by (try simp only [List.map_toArray, List.map_cons, List.map_nil]); first | done | rfl | (simp only [List.length_drop, List.length_take]; rfl)) ?_; (with_reducible refine (cache_between.calls a0_0 0 8 true _ A2.out).mono ?_); rintro e w' ⟨rfl, ⟨nd, rfl⟩⟩; refine ⟨_, rfl, ?_⟩) | (go_at_call 153; (with_reducible refine (cache_between.calls a0_1 1 4 true _ A4.out).mono ?_); rintro e w' ⟨rfl, ⟨nd, rfl⟩⟩) | (go_at_call 153; (with_reducible refine (cache_between.calls a0_2 1 8 true _ A6.out).mono ?_); rintro e w' ⟨rfl, ⟨nd, rfl⟩⟩))
        go_ret
        exact ⟨by first | rfl | (simp [errW_none, errW_some] <;> rfl) | (simp [*, errW_none, errW_some] <;> rfl), by repeat (first | (with_reducible first | exact HB.out | apply below_alloc | apply pw_below_drewN | apply below_drew1 | refine below_set ?_ GE165.out) | exact HB.out)⟩
      · replace c7 := Bool.eq_false_iff.mpr c7
        subst c7
        have H1 : (some 3) = some r := by rw [if_neg (show ¬ (false = true) by decide)] at H; exact H
        clear H
        have H := H1
        clear H1
        obtain rfl := Option.some.inj H
        go_enter Try.func131, Try.ntmps131
        go_wp2_with (first | ((with_reducible refine gate_dst (N := 1) rfl ?_); refine box_event ?hg (N := 1) ?hd (cs := #[.int .i64 a0_0, .int .i64 a0_1, .int .i64 a0_2]) (t := 65) ?hr ?_; (case hd => rfl); (case hg => rfl); (case hr => first | (go_simp; done) | (go_simp; rfl)); intro gb165 hg w10 hbox hb; have n0_ := Aside0.mk (below_step (by repeat (first | (with_reducible first | exact HB.out | apply below_alloc | apply pw_below_drewN | apply below_drew1) | exact HB.out)) hb); have n1_ := Aside0.mk (hbox); have n2_ := Aside0.mk ((by rw [hg]; exact (below_size (by repeat (first | (with_reducible first | exact HB.out | apply below_alloc | apply pw_below_drewN | apply below_drew1) | exact HB.out))) : w.heap.size ≤ gb165)); have n3_ := Aside0.mk ((by rw [hg]; exact (below_size (by repeat (first | (with_reducible first | exact HB.out | apply below_alloc | apply pw_below_drewN | apply below_drew1) | exact HB.out))) : w.heap.size ≤ gb165)); clear HB; have HB := n0_; have BK165 := n1_; have GW165 := n2_; have GE165 := n3_; clear n0_ n1_ n2_ n3_; clear hb hbox hg; have hcz11_0 : w10.cell? ⟨gb165, 0, none⟩ = some (.int .i64 a0_0) := (blk_cell BK165.out 0).trans rfl; have hcz11_1 : w10.cell? ⟨gb165, 1, none⟩ = some (.int .i64 a0_1) := (blk_cell BK165.out 1).trans rfl; have hcz11_2 : w10.cell? ⟨gb165, 2, none⟩ = some (.int .i64 a0_2) := (blk_cell BK165.out 2).trans rfl; have hfz11_0 := blk_frozen BK165.out 0; have hfz11_1 := blk_frozen BK165.out 1; have hfz11_2 := blk_frozen BK165.out 2) | ((with_reducible refine gate_callee (f := 153) rfl ?_); refine goesL_ (some 5) rfl rfl Try.func153 (by kernel_rfl) rfl #[.int .i64 a0_0, .int .i64 0, .int .i64 8] rfl (by (try simp only [List.map_toArray, List.map_cons, List.map_nil]); first | done | rfl | (simp only [List.length_drop, List.length_take]; rfl)) ?_; (with_reducible refine (cache_between.calls a0_0 0 8 true _ A2.out).mono ?_); rintro e w' ⟨rfl, ⟨nd, rfl⟩⟩; refine ⟨_, rfl, ?_⟩) | (go_at_call 153; (with_reducible refine (cache_between.calls a0_1 1 4 true _ A4.out).mono ?_); rintro e w' ⟨rfl, ⟨nd, rfl⟩⟩) | (go_at_call 153; (with_reducible refine (cache_between.calls a0_2 1 8 false _ A6.out).mono ?_); rintro e w' ⟨rfl, ⟨nd, rfl⟩⟩))
        go_ret
        exact ⟨by first | rfl | (simp [errW_none, errW_some] <;> rfl) | (simp [*, errW_none, errW_some] <;> rfl), by repeat (first | (with_reducible first | exact HB.out | apply below_alloc | apply pw_below_drewN | apply below_drew1 | refine below_set ?_ GE165.out) | exact HB.out)⟩
    · replace c5 := Bool.eq_false_iff.mpr c5
      subst c5
      have H1 : (some 3) = some r := by rw [if_neg (show ¬ (false = true) by decide)] at H; exact H
      clear H
      have H := H1
      clear H1
      obtain rfl := Option.some.inj H
      go_enter Try.func131, Try.ntmps131
      go_wp2_with (first | ((with_reducible refine gate_dst (N := 1) rfl ?_); refine box_event ?hg (N := 1) ?hd (cs := #[.int .i64 a0_0, .int .i64 a0_1, .int .i64 a0_2]) (t := 65) ?hr ?_; (case hd => rfl); (case hg => rfl); (case hr => first | (go_simp; done) | (go_simp; rfl)); intro gb165 hg w12 hbox hb; have n0_ := Aside0.mk (below_step (by repeat (first | (with_reducible first | exact HB.out | apply below_alloc | apply pw_below_drewN | apply below_drew1) | exact HB.out)) hb); have n1_ := Aside0.mk (hbox); have n2_ := Aside0.mk ((by rw [hg]; exact (below_size (by repeat (first | (with_reducible first | exact HB.out | apply below_alloc | apply pw_below_drewN | apply below_drew1) | exact HB.out))) : w.heap.size ≤ gb165)); have n3_ := Aside0.mk ((by rw [hg]; exact (below_size (by repeat (first | (with_reducible first | exact HB.out | apply below_alloc | apply pw_below_drewN | apply below_drew1) | exact HB.out))) : w.heap.size ≤ gb165)); clear HB; have HB := n0_; have BK165 := n1_; have GW165 := n2_; have GE165 := n3_; clear n0_ n1_ n2_ n3_; clear hb hbox hg; have hcz13_0 : w12.cell? ⟨gb165, 0, none⟩ = some (.int .i64 a0_0) := (blk_cell BK165.out 0).trans rfl; have hcz13_1 : w12.cell? ⟨gb165, 1, none⟩ = some (.int .i64 a0_1) := (blk_cell BK165.out 1).trans rfl; have hcz13_2 : w12.cell? ⟨gb165, 2, none⟩ = some (.int .i64 a0_2) := (blk_cell BK165.out 2).trans rfl; have hfz13_0 := blk_frozen BK165.out 0; have hfz13_1 := blk_frozen BK165.out 1; have hfz13_2 := blk_frozen BK165.out 2) | ((with_reducible refine gate_callee (f := 153) rfl ?_); refine goesL_ (some 5) rfl rfl Try.func153 (by kernel_rfl) rfl #[.int .i64 a0_0, .int .i64 0, .int .i64 8] rfl (by (try simp only [List.map_toArray, List.map_cons, List.map_nil]); first | done | rfl | (simp only [List.length_drop, List.length_take]; rfl)) ?_; (with_reducible refine (cache_between.calls a0_0 0 8 true _ A2.out).mono ?_); rintro e w' ⟨rfl, ⟨nd, rfl⟩⟩; refine ⟨_, rfl, ?_⟩) | (go_at_call 153; (with_reducible refine (cache_between.calls a0_1 1 4 false _ A4.out).mono ?_); rintro e w' ⟨rfl, ⟨nd, rfl⟩⟩))
      go_ret
      exact ⟨by first | rfl | (simp [errW_none, errW_some] <;> rfl) | (simp [*, errW_none, errW_some] <;> rfl), by repeat (first | (with_reducible first | exact HB.out | apply below_alloc | apply pw_below_drewN | apply below_drew1 | refine below_set ?_ GE165.out) | exact HB.out)⟩
  · replace c3 := Bool.eq_false_iff.mpr c3
    subst c3
    have H1 : (some 3) = some r := by rw [if_neg (show ¬ (false = true) by decide)] at H; exact H
    clear H
    have H := H1
    clear H1
    obtain rfl := Option.some.inj H
    go_enter Try.func131, Try.ntmps131
    go_wp2_with (first | ((with_reducible refine gate_dst (N := 1) rfl ?_); refine box_event ?hg (N := 1) ?hd (cs := #[.int .i64 a0_0, .int .i64 a0_1, .int .i64 a0_2]) (t := 65) ?hr ?_; (case hd => rfl); (case hg => rfl); (case hr => first | (go_simp; done) | (go_simp; rfl)); intro gb165 hg w14 hbox hb; have n0_ := Aside0.mk (below_step (by repeat (first | (with_reducible first | exact HB.out | apply below_alloc | apply pw_below_drewN | apply below_drew1) | exact HB.out)) hb); have n1_ := Aside0.mk (hbox); have n2_ := Aside0.mk ((by rw [hg]; exact (below_size (by repeat (first | (with_reducible first | exact HB.out | apply below_alloc | apply pw_below_drewN | apply below_drew1) | exact HB.out))) : w.heap.size ≤ gb165)); have n3_ := Aside0.mk ((by rw [hg]; exact (below_size (by repeat (first | (with_reducible first | exact HB.out | apply below_alloc | apply pw_below_drewN | apply below_drew1) | exact HB.out))) : w.heap.size ≤ gb165)); clear HB; have HB := n0_; have BK165 := n1_; have GW165 := n2_; have GE165 := n3_; clear n0_ n1_ n2_ n3_; clear hb hbox hg; have hcz15_0 : w14.cell? ⟨gb165, 0, none⟩ = some (.int .i64 a0_0) := (blk_cell BK165.out 0).trans rfl; have hcz15_1 : w14.cell? ⟨gb165, 1, none⟩ = some (.int .i64 a0_1) := (blk_cell BK165.out 1).trans rfl; have hcz15_2 : w14.cell? ⟨gb165, 2, none⟩ = some (.int .i64 a0_2) := (blk_cell BK165.out 2).trans rfl; have hfz15_0 := blk_frozen BK165.out 0; have hfz15_1 := blk_frozen BK165.out 1; have hfz15_2 := blk_frozen BK165.out 2) | ((with_reducible refine gate_callee (f := 153) rfl ?_); refine goesL_ (some 5) rfl rfl Try.func153 (by kernel_rfl) rfl #[.int .i64 a0_0, .int .i64 0, .int .i64 8] rfl (by (try simp only [List.map_toArray, List.map_cons, List.map_nil]); first | done | rfl | (simp only [List.length_drop, List.length_take]; rfl)) ?_; (with_reducible refine (cache_between.calls a0_0 0 8 false _ A2.out).mono ?_); rintro e w' ⟨rfl, ⟨nd, rfl⟩⟩; refine ⟨_, rfl, ?_⟩))
    go_ret
    exact ⟨by first | rfl | (simp [errW_none, errW_some] <;> rfl) | (simp [*, errW_none, errW_some] <;> rfl), by repeat (first | (with_reducible first | exact HB.out | apply below_alloc | apply pw_below_drewN | apply below_drew1 | refine below_set ?_ GE165.out) | exact HB.out)⟩

/-! ### timing_between: function 132 -/
def timing_between.f (a0 : Int) (a1 : Int) (a2 : Int) : Option (Bool) := if a0 ≥ a1 then (some (decide (a0 ≤ a2))) else (some false)
set_option maxHeartbeats 8000000 in
set_option maxRecDepth 100000 in
theorem timing_between.calls (a0 : Int) (a1 : Int) (a2 : Int) (r : Bool) (w : World) (h : timing_between.f a0 a1 a2 = some r) :
    Calls Try.prog 132 #[.int .i64 a0, .int .i64 a1, .int .i64 a2] w fun e w' => e = .returned (.bool r) ∧ Drawn0 w w' := by
  have H : (if a0 ≥ a1 then (some (decide (a0 ≤ a2))) else (some false)) = some r := h
  clear h
  by_cases c4 : a0 ≥ a1
  · rw [if_pos c4] at H
    have c4b0 : decide (a1 ≤ a0) = true := decide_eq_true c4
    clear c4
    obtain rfl := Option.some.inj H
    go_enter Try.func132, Try.ntmps132
    go_wp2
    go_ret
    exact ⟨by first | rfl | (simp; done) | (simp [*]; done), by repeat (first | exact Drawn0.refl _ | apply Drawn0.step)⟩
  · rw [if_neg c4] at H
    have c4b0 : decide (a1 ≤ a0) = false := decide_eq_false c4
    clear c4
    obtain rfl := Option.some.inj H
    go_enter Try.func132, Try.ntmps132
    go_wp2
    go_ret
    exact ⟨by first | rfl | (simp; done) | (simp [*]; done), by repeat (first | exact Drawn0.refl _ | apply Drawn0.step)⟩

/-! ### api_Span_159: function 159 -/
set_option maxHeartbeats 1000000 in
set_option maxRecDepth 100000 in
theorem api_Span_159.any (A : Option Addr) (c : Nat) (l : List S74) (g : Nat) (lb : Array Value) (p : S74 → Bool) (w : World) (hr : Kd.C k74 w A l.length l) (hl : l.length ≤ c)
    (eg : ∀ args w, (callFunc g args).run Try.prog w = .ok (.enter g args) w)
    (hp : ∀ (W : World) (x : S74), Below w.heap.size w W → x ∈ l → Calls Try.prog g (#[.agg #[.int .i64 x.f0, .int .i64 x.f1]] ++ lb) W fun e W' => e = .returned (.bool (p x)) ∧ Below W.heap.size W W') :
    Calls Try.prog 159 #[.slice A l.length c, .func (.func g) #[] lb] w fun e w' => e = .returned (.int .i64 (idxB p l)) ∧ Below w.heap.size w w' := by
  have HR := Aside0.mk hr
  have HP := Aside0.mk hp
  have HN := Aside0.mk hr.2.1
  clear hr hp
  have hu74 := Try.underlying74
  go_enter Try.func159, Try.ntmps159
  go_wp2_with fail
  go_loopw [8] (fun i wr => ∃ k : Nat, k ≤ l.length ∧ i = .int .i64 k ∧ Aside0 (∀ x ∈ l.take k, p x = false) ∧ Aside0 (Below w.heap.size w wr)) (fun i _ => l.length - (intOf i).toNat)
  case atStart => exact ⟨0, Nat.zero_le _, rfl, ⟨by simp⟩, ⟨Below.refl _ _⟩⟩
  case round =>
    obtain ⟨k, hk, rfl, HQ, HB⟩ := hrel
    by_cases hlt : k < l.length
    · have hnn := HN.out
      obtain ⟨ad, e, h0, h1⟩ := at_T74 HR.out (k : Int) (by omega) (by omega)
      have hx : rd_T74 l (k : Int) = l[k] := by simp [rd_T74, List.getD_eq_getElem?_getD, hlt]
      rw [hx] at h0 h1
      clear hx
      cases e
      simp only [Int.toNat_natCast] at h0 h1
      replace h0 := (HB.out.cell (World.block_lt_of_cell? w _ h0)).trans h0
      replace h1 := (HB.out.cell (World.block_lt_of_cell? w _ h1)).trans h1
      have HL := Aside0.mk (List.getElem_mem hlt)
      have HIT : Aside0 (p l[k] = true → idxB p l = k) := ⟨idxB_hit p l k hlt HQ.out⟩
      have MISS : Aside0 (p l[k] = false → ∀ x ∈ l.take (k + 1), p x = false) := ⟨take_hit p l k hlt HQ.out⟩
      generalize l[k] = x at *
      cases hpk : p x with
      | true =>
        have HPK := Aside0.mk hpk
        clear hpk
        go_wp2_with fail
        refine (HP.out wr x HB.out HL.out).mono ?_
        rintro e w1 ⟨rfl, hb1⟩
        rw [HPK.out]
        have HB1 := Aside0.mk hb1
        clear hb1
        go_wp2_with fail
        go_ret
        exact ⟨by rw [HIT.out HPK.out]; rfl, HB.out.trans (HB1.out.mono HB.out.size)⟩
      | false =>
        have HPK := Aside0.mk hpk
        clear hpk
        go_wp2_with fail
        refine (HP.out wr x HB.out HL.out).mono ?_
        rintro e w1 ⟨rfl, hb1⟩
        rw [HPK.out]
        have HB1 := Aside0.mk hb1
        clear hb1
        go_wp2_with fail
        go_roundw
        case rel => exact ⟨k + 1, by omega, by go_num, ⟨MISS.out HPK.out⟩, ⟨HB.out.trans (HB1.out.mono HB.out.size)⟩⟩
        case measure => simp [intOf]; omega
    · go_wp2_with fail
      go_ret
      exact ⟨by rw [idxB_none p l (by have := HQ.out; rwa [List.take_of_length_le (by omega)] at this)]; rfl, HB.out⟩

/-! ### api_Span_154: function 154 -/
set_option maxHeartbeats 1000000 in
set_option maxRecDepth 100000 in
theorem api_Span_154.any (A : Option Addr) (c : Nat) (l : List S74) (g : Nat) (lb : Array Value) (p : S74 → Bool) (w : World) (hr : Kd.C k74 w A l.length l) (hl : l.length ≤ c)
    (eg : ∀ args w, (callFunc g args).run Try.prog w = .ok (.enter g args) w)
    (hp : ∀ (W : World) (x : S74), Below w.heap.size w W → x ∈ l → Calls Try.prog g (#[.agg #[.int .i64 x.f0, .int .i64 x.f1]] ++ lb) W fun e W' => e = .returned (.bool (p x)) ∧ Below W.heap.size W W') :
    Calls Try.prog 154 #[.slice A l.length c, .func (.func g) #[] lb] w fun e w' => e = .returned (.bool (l.any p)) ∧ Below w.heap.size w w' := by
  have HC := Aside0.mk (api_Span_159.any A c l g lb p w hr hl eg hp)
  clear hr hp
  go_enter Try.func154, Try.ntmps154
  go_wp2_with fail
  refine HC.out.mono ?_
  rintro e w1 ⟨rfl, hb⟩
  have HB := Aside0.mk hb
  clear hb
  go_wp2
  go_ret
  exact ⟨by rw [← idxB_nonneg p l]; rfl, HB.out⟩

-- NOT PRINTED: function 155 (timing_placed_1)

/-! ### timing_placed: function 133 -/
theorem pl_alloc_below (w : World) (o : Obj) : Below w.heap.size w (w.alloc o) := (Below.refl _ _).alloc (Nat.le_refl _) o
theorem pl_cell_on {w w' : World} {p : Addr} {v : Value} (hb : Below w.heap.size w w') (h : w.cell? p = some v) : w'.cell? p = some v := (hb.cell (World.block_lt_of_cell? w _ h)).trans h
/-- Is a span refused? -/
def spanBad (most : Int) (s : S74) : Bool := decide (s.f0 < 0) || decide (s.f1 < s.f0) || decide (most < s.f1)
def placedB (l : List S74) (most : Int) : Bool := decide ((l.length : Int) ≤ 16) && !(l.any (spanBad most))
set_option maxHeartbeats 2000000 in
set_option maxRecDepth 100000 in
theorem placed_closure (s : S74) (b : Nat) (most : Int) (W : World) (h1 : W.cell? ⟨b, 0, none⟩ = some (.int .i64 most)) :
    Calls Try.prog 155 #[.agg #[.int .i64 s.f0, .int .i64 s.f1], .pointer (some ⟨b, 0, none⟩)] W fun e W' => e = .returned (.bool (spanBad most s)) ∧ Below W.heap.size W W' := by
  have g1 : ∀ o, (W.alloc o).cell? ⟨b, 0, none⟩ = some (.int .i64 most) := fun o => pl_cell_on (pl_alloc_below W o) h1
  have HE : Aside0 (spanBad most s = (decide (s.f0 < 0) || decide (s.f1 < s.f0) || decide (most < s.f1))) := ⟨rfl⟩
  have hu74 := Try.underlying74
  clear h1
  by_cases c1 : s.f0 < 0
  · have d1 : decide (s.f0 < 0) = true := decide_eq_true c1
    rw [d1] at HE
    clear c1
    go_enter Try.func155, Try.ntmps155
    go_wp2
    go_ret
    exact ⟨by rw [HE.out]; rfl, pl_alloc_below _ _⟩
  · have d1 : decide (s.f0 < 0) = false := decide_eq_false c1
    rw [d1] at HE
    clear c1
    by_cases c2 : s.f1 < s.f0
    · have d2 : decide (s.f1 < s.f0) = true := decide_eq_true c2
      rw [d2] at HE
      clear c2
      go_enter Try.func155, Try.ntmps155
      go_wp2
      go_ret
      exact ⟨by rw [HE.out]; rfl, pl_alloc_below _ _⟩
    · have d2 : decide (s.f1 < s.f0) = false := decide_eq_false c2
      rw [d2] at HE
      clear c2
      go_enter Try.func155, Try.ntmps155
      go_wp2
      go_ret
      exact ⟨by rw [HE.out]; rfl, pl_alloc_below _ _⟩
set_option maxHeartbeats 2000000 in
set_option maxRecDepth 100000 in
theorem timing_placed_any (A0 : Option Addr) (c0 : Nat) (l : List S74) (most : Int) (w : World) (hr : Kd.C k74 w A0 l.length l) (hl : l.length ≤ c0) :
    Calls Try.prog 133 #[.slice A0 l.length c0, .int .i64 most] w fun e w' => e = .returned (.bool (placedB l most)) ∧ Below w.heap.size w w' := by
  have hmf : ∀ (fn : Fn) (first cap : Array Value) (w : World), (Instr.makeFunc fn first cap).run Try.prog w = .ok (.func fn first cap) w := fun _ _ _ _ => rfl
  have HE : Aside0 (placedB l most = (decide ((l.length : Int) ≤ 16) && !(l.any (spanBad most)))) := ⟨rfl⟩
  have HC := Aside0.mk (fun (W : World) (b : Nat) (hb : Below w.heap.size w W) (z : W.cell? ⟨b, 0, none⟩ = some (.int .i64 most)) =>
    api_Span_154.any A0 c0 l 155 #[.pointer (some ⟨b, 0, none⟩)] (spanBad most) W (Kd.C_below hr hb) hl (enters_it Try.func155 (by kernel_rfl) rfl)
      (fun V s hv _ => placed_closure s b most V (pl_cell_on hv z)))
  clear hr
  go_enter Try.func133, Try.ntmps133
  go_wp2_with fail
  · rename_i h1 _ _
    have d1 : decide ((l.length : Int) ≤ 16) = true := decide_eq_true h1
    rw [d1] at HE
    clear d1
    refine (HC.out _ w.heap.size (pl_alloc_below w _) ?_).mono ?_
    · rw [World.cell?_alloc_at _ _ _ _ rfl]; rfl
    rintro e w1 ⟨rfl, hb⟩
    have HB := Aside0.mk hb
    clear hb
    go_wp2
    go_ret
    exact ⟨by rw [HE.out]; rfl, (pl_alloc_below w _).trans (HB.out.mono (pl_alloc_below w _).size)⟩
  · rename_i h1
    have d1 : decide ((l.length : Int) ≤ 16) = false := decide_eq_false (by omega)
    rw [d1] at HE
    clear d1
    go_ret
    exact ⟨by rw [HE.out]; rfl, pl_alloc_below w _⟩
def timing_placed.f (l : List S74) (most : Int) : Option Bool := some (placedB l most)
theorem timing_placed.calls (A0 : Option Addr) (c0 : Nat) (l0 : List S74) (a1 : Int) (r : Bool) (w : World) (hr0 : Kd.C k74 w A0 l0.length l0) (hc0 : l0.length ≤ c0) (h : timing_placed.f l0 a1 = some r) :
    Calls Try.prog 133 #[.slice A0 l0.length c0, .int .i64 a1] w fun e w' => e = .returned (.bool r) ∧ Below w.heap.size w w' := by
  obtain rfl := Option.some.inj h
  exact timing_placed_any A0 c0 l0 a1 w hr0 hc0

end Go.Proofs.Ytdgegoefehmfmaa.QScratchPlaces
