-- Written for this claim by this session's own program (wip/pp).
import Derived.Test.YtdgegoefehmfmaaQScratchPlacesx0
import Derived.Test.YtdgegoefehmfmaaQScratchPlacesx1
import Derived.Test.YtdgegoefehmfmaaQScratchPlacesx3
import Derived.Test.YtdgegoefehmfmaaQScratchPlacesx4
import Derived.Test.YtdgegoefehmfmaaQScratchPlacesx5
import Derived.Test.YtdgegoefehmfmaaQScratchPlacesx7
import Derived.Test.YtdgegoefehmfmaaQScratchPlacesx10
import Derived.Test.YtdgegoefehmfmaaQScratchPlacesx11
import Derived.Test.YtdgegoefehmfmaaQScratchPlacesx12
namespace Go.Proofs.Ytdgegoefehmfmaa.QScratchPlaces
open Go.RowKit Go.Proofs.YtdgegoefehmfmaaW.PrintWords Go.Proofs.YtdgegoefehmfmaaW.PrintLast Go.Proofs.YtdgegoefehmfmaaW.PrintMore
attribute [local go_sem] max2_int min2_int max_two min_two max_three min_three max_four min_four   -- for this text's walks alone
set_option linter.unusedVariables false
set_option linter.unusedSimpArgs false

/-! ### timeboundlaw36_ScratchPlaces: function 14 -/
/-- Both say the same of a choice that is placed. -/
def Put36 (k : Nat) (p0 p1 p2 p3 p4 p5 p6 p7 p8 p9 p10 p11 p12 p13 p14 : Int) (c d : List S74) (x : List S76) (l : List Int) : Prop := ∃ (r0 r1 r2 r3 r4 r5 r6 r7 r8 r9 r10 r11 r12 r13 r14 : Int) (rc rd : List S74) (e : Int), scratch_Place.f k p0 p1 p2 p3 p4 p5 p6 p7 p8 p9 p10 p11 p12 p13 p14 c d x l = some (r0, r1, r2, r3, r4, r5, r6, r7, r8, r9, r10, r11, r12, r13, r14, rc, rd, e) ∧ timeboundref36_Place.f k p0 p1 p2 p3 p4 p5 p6 p7 p8 p9 p10 p11 p12 p13 p14 c d x l = some (r0, r1, r2, r3, r4, r5, r6, r7, r8, r9, r10, r11, r12, r13, r14, rc, rd, e) ∧ (e = 0 → ∃ n, scratch_Words.f r0 r1 r2 r3 r4 r5 r6 r7 r8 r9 r10 r11 r12 r13 r14 rc rd = some n ∧ timeboundref36_Words.f k r0 r1 r2 r3 r4 r5 r6 r7 r8 r9 r10 r11 r12 r13 r14 rc rd = some n)
/-- The choice that is drawn. -/
def Chosen (s : List Int) : Nat → Nat → Int → List Int → List Int → Prop
  | 0, _, _, c, c' => c' = c
  | n + 1, i, q, c, c' => ∃ v q1, timeboundmake_Deck_Next.f s q 2 = some (v, q1) ∧ Chosen s n (i + 1) q1 (if v = 0 then c ++ [(i : Int)] else c) c'
def timeboundlaw36_ScratchPlaces.Pure : Prop := (∃ k, timeboundlaw36_awake.f k = some true) ∧ ∀ (l0 : List Int) (a1 a2 : Int), l0.length * 8 ≤ 140737488351232 → (Lit.int .i64 a1).wf = true → (Lit.int .i64 a2).wf = true →
  ∃ (k : Nat) (x : List S76) (q p0 p1 p2 p3 p4 p5 p6 p7 p8 p9 p10 p11 p12 p13 p14 : Int) (c d : List S74) (q1 m7 m3 m12 : Int) (ch : List Int), timeboundmake2_Items.f k l0 0 = some (x, q) ∧ x.length ≤ 100 ∧ timeboundmake_Processor.f l0 q = some (p0, p1, p2, p3, p4, p5, p6, p7, p8, p9, p10, p11, p12, p13, p14, c, d, q1) ∧ timeboundmake_Mod.f a1 7 = some m7 ∧ timeboundmake_Mod.f a2 3 = some m3 ∧ (0 ≤ m3 ∧ m3 ≤ 2) ∧ timeboundmake_Mod.f a2 12 = some m12 ∧ (0 ≤ m12 ∧ m12 ≤ 11) ∧
    Chosen l0 x.length 0 q1 [] ch ∧ ∀ l ∈ [ch, [m12 - 1]], Put36 k p0 p1 p2 p3 p4 p5 (if m7 = 0 then -1 else p6) p7 p8 p9 p10 p11 p12 p13 p14 (if m7 = 1 then List.replicate (14 + m3).toNat z74 else c) d x l
/-- What the law holds while it runs: the deck, the processor, the items. -/
structure LP (w W : World) (g : Nat) (l : List Int) (q : Int) (br N : Nat) (row : Array Value) (A : Option Addr) (x : List S76) (Ac : Option Addr) (c : List S74) (Ad : Option Addr) (d : List S74) : Prop where
  I : IsS111 w W g l q
  B : Below w.heap.size w W
  M : W.heap[br]? = some (.cells row 68 (0, 0))
  ne : br ≠ g
  ge : w.heap.size ≤ br
  gN : g < N
  bN : br < N
  NW : N ≤ W.heap.size
  X : Kd.F k76 W (fun k_ => k_ ≠ g ∧ k_ ≠ br ∧ k_ < N) A x.length x
  C : Kd.F k74 W (fun k_ => k_ ≠ g ∧ k_ ≠ br ∧ k_ < N) Ac c.length c
  D : Kd.F k74 W (fun k_ => k_ ≠ g ∧ k_ ≠ br ∧ k_ < N) Ad d.length d
section
variable {w W W' : World} {g br N : Nat} {l : List Int} {q q' : Int} {row : Array Value} {A Ac Ad : Option Addr} {x : List S76} {c d : List S74}
theorem LP.below (h : LP w W g l q br N row A x Ac c Ad d) (hb : Below W.heap.size W W') : LP w W' g l q br N row A x Ac c Ad d :=
  ⟨h.I.below hb, below_step h.B hb, blk_below h.M hb, h.ne, h.ge, h.gN, h.bN, Nat.le_trans h.NW hb.size, Kd.F_below h.X hb, Kd.F_below h.C hb, Kd.F_below h.D hb⟩
theorem LP.alloc (h : LP w W g l q br N row A x Ac c Ad d) (o : Obj) : LP w (W.alloc o) g l q br N row A x Ac c Ad d := h.below (below_alloc (Below.refl _ _) o)
theorem LP.call (h : LP w W g l q br N row A x Ac c Ad d) (hi : IsS111 w W' g l q') (hb : Below w.heap.size w W') (hk : KeepBut W W' g none) : LP w W' g l q' br N row A x Ac c Ad d :=
  ⟨hi, hb, KeepBut.blk hk h.M h.ne (by simp), h.ne, h.ge, h.gN, h.bN, Nat.le_trans h.NW hk.1, Kd.F_keep h.X hk (fun _ hk => hk.1), Kd.F_keep h.C hk (fun _ hk => hk.1), Kd.F_keep h.D hk (fun _ hk => hk.1)⟩
theorem LP.grown (h : LP w W g l q br N row A x Ac c Ad d) {r : Option Nat} (hg : W.grownBy W' r) (hr : ∀ k, r = some k → N ≤ k) : LP w W' g l q br N row A x Ac c Ad d :=
  ⟨h.I.grown hg (fun e => by have := hr g e.symm; have := h.gN; omega), pw_below_grown h.B r (Nat.le_trans h.ge (Nat.le_trans (Nat.le_of_lt h.bN) h.NW)) hg (fun k e => by have := hr k e; have := h.ge; have := h.bN; omega), blk_grown h.M hg (fun e => by have := hr br e.symm; have := h.bN; omega), h.ne, h.ge, h.gN, h.bN, Nat.le_trans h.NW hg.size,
    Kd.F_grown h.X hg (fun k hk e => by have := hr k e.symm; omega), Kd.F_grown h.C hg (fun k hk e => by have := hr k e.symm; omega), Kd.F_grown h.D hg (fun k hk e => by have := hr k e.symm; omega)⟩
theorem LP.set (h : LP w W g l q br N row A x Ac c Ad d) (j : Nat) (u : Value) : LP w (W.setCell ⟨br, j, none⟩ u) g l q br N (row.setIfInBounds j u) A x Ac c Ad d :=
  ⟨h.I.far (Ne.symm h.ne) u, below_set h.B h.ge, blk_set h.M j u, h.ne, h.ge, h.gN, h.bN, by simpa using h.NW, Kd.F_far h.X (fun k hk => hk.2.1) u, Kd.F_far h.C (fun k hk => hk.2.1) u, Kd.F_far h.D (fun k hk => hk.2.1) u⟩
end
theorem pr_cells2 {W : World} {b b' : Nat} {r0 r1 r2 r3 r4 r5 r6 r7 r8 r9 r10 r11 r12 r13 r14 : Int} {rc rd : List S74} {A A' B B' : Option Addr} {ca ca' cb cb' : Nat} (h : W.heap[b]? = some (.cells (PrN r0 r1 r2 r3 r4 r5 r6 r7 r8 r9 r10 r11 r12 r13 r14 (.slice A rc.length ca) (.slice B rd.length cb)) 68 (0, 0))) (h' : W.heap[b']? = some (.cells (PrN r0 r1 r2 r3 r4 r5 r6 r7 r8 r9 r10 r11 r12 r13 r14 (.slice A' rc.length ca') (.slice B' rd.length cb')) 68 (0, 0))) :
    W.cell? ⟨b, 0, none⟩ = some (.int .i64 r0) ∧
    W.cell? ⟨b, 1, none⟩ = some (.int .i64 r1) ∧
    W.cell? ⟨b, 2, none⟩ = some (.int .i64 r2) ∧
    W.cell? ⟨b, 3, none⟩ = some (.int .i64 r3) ∧
    W.cell? ⟨b, 4, none⟩ = some (.int .i64 r4) ∧
    W.cell? ⟨b, 5, none⟩ = some (.int .i64 r5) ∧
    W.cell? ⟨b, 6, none⟩ = some (.int .i64 r6) ∧
    W.cell? ⟨b, 7, none⟩ = some (.int .i64 r7) ∧
    W.cell? ⟨b, 8, none⟩ = some (.int .i64 r8) ∧
    W.cell? ⟨b, 9, none⟩ = some (.int .i64 r9) ∧
    W.cell? ⟨b, 10, none⟩ = some (.int .i64 r10) ∧
    W.cell? ⟨b, 11, none⟩ = some (.int .i64 r11) ∧
    W.cell? ⟨b, 12, none⟩ = some (.int .i64 r12) ∧
    W.cell? ⟨b, 13, none⟩ = some (.int .i64 r13) ∧
    W.cell? ⟨b, 14, none⟩ = some (.int .i64 r14) ∧
    W.cell? ⟨b, 15, none⟩ = some (.slice A rc.length ca) ∧
    W.cell? ⟨b, 16, none⟩ = some (.slice B rd.length cb) ∧
    W.cell? ⟨b', 0, none⟩ = some (.int .i64 r0) ∧
    W.cell? ⟨b', 1, none⟩ = some (.int .i64 r1) ∧
    W.cell? ⟨b', 2, none⟩ = some (.int .i64 r2) ∧
    W.cell? ⟨b', 3, none⟩ = some (.int .i64 r3) ∧
    W.cell? ⟨b', 4, none⟩ = some (.int .i64 r4) ∧
    W.cell? ⟨b', 5, none⟩ = some (.int .i64 r5) ∧
    W.cell? ⟨b', 6, none⟩ = some (.int .i64 r6) ∧
    W.cell? ⟨b', 7, none⟩ = some (.int .i64 r7) ∧
    W.cell? ⟨b', 8, none⟩ = some (.int .i64 r8) ∧
    W.cell? ⟨b', 9, none⟩ = some (.int .i64 r9) ∧
    W.cell? ⟨b', 10, none⟩ = some (.int .i64 r10) ∧
    W.cell? ⟨b', 11, none⟩ = some (.int .i64 r11) ∧
    W.cell? ⟨b', 12, none⟩ = some (.int .i64 r12) ∧
    W.cell? ⟨b', 13, none⟩ = some (.int .i64 r13) ∧
    W.cell? ⟨b', 14, none⟩ = some (.int .i64 r14) ∧
    W.cell? ⟨b', 15, none⟩ = some (.slice A' rc.length ca') ∧
    W.cell? ⟨b', 16, none⟩ = some (.slice B' rd.length cb') :=
  ⟨(blk_cell h 0).trans rfl, (blk_cell h 1).trans rfl, (blk_cell h 2).trans rfl, (blk_cell h 3).trans rfl, (blk_cell h 4).trans rfl, (blk_cell h 5).trans rfl, (blk_cell h 6).trans rfl, (blk_cell h 7).trans rfl, (blk_cell h 8).trans rfl, (blk_cell h 9).trans rfl, (blk_cell h 10).trans rfl, (blk_cell h 11).trans rfl, (blk_cell h 12).trans rfl, (blk_cell h 13).trans rfl, (blk_cell h 14).trans rfl, (blk_cell h 15).trans rfl, (blk_cell h 16).trans rfl, (blk_cell h' 0).trans rfl, (blk_cell h' 1).trans rfl, (blk_cell h' 2).trans rfl, (blk_cell h' 3).trans rfl, (blk_cell h' 4).trans rfl, (blk_cell h' 5).trans rfl, (blk_cell h' 6).trans rfl, (blk_cell h' 7).trans rfl, (blk_cell h' 8).trans rfl, (blk_cell h' 9).trans rfl, (blk_cell h' 10).trans rfl, (blk_cell h' 11).trans rfl, (blk_cell h' 12).trans rfl, (blk_cell h' 13).trans rfl, (blk_cell h' 14).trans rfl, (blk_cell h' 15).trans rfl, (blk_cell h' 16).trans rfl⟩
theorem LP.raise {w W : World} {g br N : Nat} {l : List Int} {q : Int} {row : Array Value} {A Ac Ad : Option Addr} {x : List S76} {c d : List S74} (h : LP w W g l q br N row A x Ac c Ad d) {N' : Nat} (h1 : N ≤ N') (h2 : N' ≤ W.heap.size) : LP w W g l q br N' row A x Ac c Ad d :=
  ⟨h.I, h.B, h.M, h.ne, h.ge, Nat.lt_of_lt_of_le h.gN h1, Nat.lt_of_lt_of_le h.bN h1, h2, Kd.F_mono h.X (fun k hk => ⟨hk.1, hk.2.1, Nat.lt_of_lt_of_le hk.2.2 h1⟩), Kd.F_mono h.C (fun k hk => ⟨hk.1, hk.2.1, Nat.lt_of_lt_of_le hk.2.2 h1⟩), Kd.F_mono h.D (fun k hk => ⟨hk.1, hk.2.1, Nat.lt_of_lt_of_le hk.2.2 h1⟩)⟩
/-- Another row takes the place of the spans of code. -/
theorem LP.code {w W : World} {g br N : Nat} {l : List Int} {q : Int} {row : Array Value} {A Ac Ad Ac' : Option Addr} {x : List S76} {c d c' : List S74} (h : LP w W g l q br N row A x Ac c Ad d) (hc : Kd.F k74 W (fun k_ => k_ ≠ g ∧ k_ ≠ br ∧ k_ < N) Ac' c'.length c') : LP w W g l q br N row A x Ac' c' Ad d :=
  ⟨h.I, h.B, h.M, h.ne, h.ge, h.gN, h.bN, h.NW, h.X, hc, h.D⟩
theorem C_blk1 (n : Int) {W : World} {b : Nat} {t : TypeId} (h : W.heap[b]? = some (.cells #[.int .i64 n] t (0, 0))) : Kd.C (Kd.int .i64) W (some ⟨b, 0, none⟩) [n].length [n] := by
  refine ⟨rfl, by simp, fun _ => ⟨_, rfl, fun j p hj => ⟨[.int .i64 p], rfl, rfl, fun i u hi => ?_⟩⟩⟩
  have hj0 : j = 0 := by have := (List.getElem?_eq_some_iff.1 hj).1; simp at this; omega
  have hi0 : i = 0 := by have := (List.getElem?_eq_some_iff.1 hi).1; simp at this; omega
  subst hj0 hi0
  have hp : n = p := by simpa using hj
  subst hp
  obtain rfl : Value.int .i64 n = u := by simpa using hi
  exact (blk_cell h 0).trans rfl
set_option maxHeartbeats 8000000 in
set_option maxRecDepth 100000 in
theorem timeboundlaw36_ScratchPlaces.any (P : timeboundlaw36_ScratchPlaces.Pure) (A0 : Option Addr) (c0 : Nat) (l0 : List Int) (a1 a2 : Int) (w : World) (hr0 : Kd.C (Kd.int .i64) w A0 l0.length l0) (hc0 : l0.length ≤ c0) (y0 : l0.length * 8 ≤ 140737488351232) (w1 : (Lit.int .i64 a1).wf = true) (w2 : (Lit.int .i64 a2).wf = true) :
    Calls Try.prog 14 #[.slice A0 l0.length c0, .int .i64 a1, .int .i64 a2] w fun e w' => e = .returned (.bool true) ∧ Below w.heap.size w w' := by
  obtain ⟨⟨ka, haw⟩, P⟩ := P
  have HAW := Aside0.mk (fun W => timeboundlaw36_awake.calls ka true W haw)
  have HR0 := Aside0.mk hr0
  obtain ⟨k, x, q, p0, p1, p2, p3, p4, p5, p6, p7, p8, p9, p10, p11, p12, p13, p14, c, d, q1, m7, m3, m12, ch, e1, hxl, e2, e3, e4, ⟨hm3, hm3'⟩, e5, ⟨hm12, hm12'⟩, hch, hput⟩ := P l0 a1 a2 y0 w1 w2
  have E1 := Aside0.mk e1
  have E2 := Aside0.mk e2
  have E3 := Aside0.mk e3
  have E4 := Aside0.mk e4
  have E5 := Aside0.mk e5
  have HCH := Aside0.mk hch
  have HPUT := Aside0.mk hput
  have hu68 := Try.underlying68
  clear hr0 haw P e1 e2 e3 e4 e5 hch hput w1 w2
  go_enter Try.func14, Try.ntmps14
  go_wp2_with fail
  refine (timeboundmake_New.calls A0 c0 l0 l0 0 w w (Below.refl _ _) HR0.out hc0 rfl).mono ?_
  rintro e w1 ⟨g, rfl, hi, hb, hb2⟩
  have HI := Aside0.mk hi
  have HB := Aside0.mk hb
  clear hi hb hb2
  go_wp2_with fail
  refine (timeboundmake2_Items.calls k g l0 0 x q w w1 HI.out HB.out E1.out).mono ?_
  rintro e w2 ⟨u1, rfl, hR, hi, hb, hk⟩
  obtain ⟨Ax, cx, rfl, hlx, hCx⟩ := Kd.R_reads hR
  have HX := Aside0.mk (Kd.F_mono (ok' := fun k_ => k_ ≠ g) (Kd.R_F (hi.apart hR (by decide))) (fun k hk => hk.2))
  clear HI HB
  have HI := Aside0.mk hi
  have HB := Aside0.mk hb
  clear hR hi hb hk hCx w1 E1
  go_wp2_with fail
  refine (timeboundmake_Processor.calls g l0 q p0 p1 p2 p3 p4 p5 p6 p7 p8 p9 p10 p11 p12 p13 p14 c d q1 w w2 HI.out HB.out E2.out).mono ?_
  rintro e w3 ⟨v15, v16, rfl, hR1, hR2, hi, hb, hk⟩
  obtain ⟨Ac, cc, rfl, hlc, hq1⟩ := Kd.R_reads hR1
  obtain ⟨Ad, cd, rfl, hld, hq2⟩ := Kd.R_reads hR2
  clear hq1 hq2
  have hgl := hi.lt
  have HX3 := Kd.F_keep HX.out hk (fun _ h => h)
  have H5 := Aside0.mk (LP.mk (w := w) (W := w3.alloc (.cells #[.int .i64 p0, .int .i64 p1, .int .i64 p2, .int .i64 p3, .int .i64 p4, .int .i64 p5, .int .i64 p6, .int .i64 p7, .int .i64 p8, .int .i64 p9, .int .i64 p10, .int .i64 p11, .int .i64 p12, .int .i64 p13, .int .i64 p14, .slice Ac c.length cc, .slice Ad d.length cd] 68 (0, 0))) (br := w3.heap.size) (N := w3.heap.size + 1) (row := (PrN p0 p1 p2 p3 p4 p5 p6 p7 p8 p9 p10 p11 p12 p13 p14 (.slice Ac c.length cc) (.slice Ad d.length cd))) (hi.alloc (.cells #[.int .i64 p0, .int .i64 p1, .int .i64 p2, .int .i64 p3, .int .i64 p4, .int .i64 p5, .int .i64 p6, .int .i64 p7, .int .i64 p8, .int .i64 p9, .int .i64 p10, .int .i64 p11, .int .i64 p12, .int .i64 p13, .int .i64 p14, .slice Ac c.length cc, .slice Ad d.length cd] 68 (0, 0))) (below_alloc hb _) (heap_alloc_last w3 _) (Nat.ne_of_gt hgl) hb.size (by omega) (by omega) (by simp)
    (Kd.F_mono (Kd.F_alloc (Kd.F_bound HX3) _) (fun k hk => ⟨hk.1, by have := hk.2; omega, by have := hk.2; omega⟩))
    (Kd.F_mono (Kd.F_alloc (Kd.F_bound (Kd.R_F (hi.apart hR1 (by decide)))) _) (fun k hk => ⟨hk.1.2, by have := hk.2; omega, by have := hk.2; omega⟩))
    (Kd.F_mono (Kd.F_alloc (Kd.F_bound (Kd.R_F (hi.apart hR2 (by decide)))) _) (fun k hk => ⟨hk.1.2, by have := hk.2; omega, by have := hk.2; omega⟩)))
  clear hR1 hR2 hi hb hk hgl HX3 HX HI HB E2 w2
  go_wp2_with (refine wpList_store_row rfl 68 _ _ rfl _ _ rfl rfl 68 _ (heap_alloc_last _ _) (by kernel_rfl) rfl rfl ?_; rw [World.setRow_alloc_new])
  generalize w3.alloc (.cells #[.int .i64 p0, .int .i64 p1, .int .i64 p2, .int .i64 p3, .int .i64 p4, .int .i64 p5, .int .i64 p6, .int .i64 p7, .int .i64 p8, .int .i64 p9, .int .i64 p10, .int .i64 p11, .int .i64 p12, .int .i64 p13, .int .i64 p14, .slice Ac c.length cc, .slice Ad d.length cd] 68 (0, 0)) = w5 at *
  generalize w3.heap.size + 1 = N at *
  generalize w3.heap.size = br at *
  clear w3
  refine (timeboundmake_Mod.calls a1 7 m7 w5 E3.out).mono ?_
  rintro e w6 ⟨rfl, hd⟩
  have H6 := Aside0.mk (H5.out.below hd.below)
  clear hd H5
  go_upto_if 26 with (fail)
  go_cut [] (fun wc => Aside0 (LP w wc g l0 q1 br N (PrN p0 p1 p2 p3 p4 p5 (if m7 = 0 then -1 else p6) p7 p8 p9 p10 p11 p12 p13 p14 (.slice Ac c.length cc) (.slice Ad d.length cd)) Ax x Ac c Ad d))
  case first =>
    by_cases h7 : m7 = 0
    · have d1 : (m7 == 0) = true := beq_iff_eq.mpr h7
      have z6 := blk_cell H6.out.M 6
      have f6 := blk_frozen H6.out.M 6
      have H7 := Aside0.mk (H6.out.set 6 (.int .i64 (-1)))
      have HE := Aside0.mk h7
      clear h7 H6
      go_wp2_with fail
      go_meet
      case rel => exact ⟨by rw [if_pos HE.out]; simpa [PrN] using H7.out⟩
    · have d1 : (m7 == 0) = false := beq_eq_false_iff_ne.mpr h7
      have HE := Aside0.mk h7
      clear h7
      go_wp2_with fail
      go_meet
      case rel => exact ⟨by rw [if_neg HE.out]; exact H6.out⟩
  case rest =>
  clear H6
  have H7 := hcut
  clear hcut
  generalize (if m7 = 0 then -1 else p6) = p6' at *
  go_wp2_with fail
  refine (timeboundmake_Mod.calls a1 7 m7 _ E3.out).mono ?_
  rintro e w8 ⟨rfl, hd⟩
  have H8 := Aside0.mk (H7.out.below hd.below)
  clear hd H7
  go_upto_if 30 with (fail)
  go_cut [] (fun wc => ∃ (Ac' : Option Addr) (cc' N' : Nat), (if m7 = 1 then List.replicate (14 + m3).toNat z74 else c).length ≤ cc' ∧ Aside0 (LP w wc g l0 q1 br N' (PrN p0 p1 p2 p3 p4 p5 p6' p7 p8 p9 p10 p11 p12 p13 p14 (.slice Ac' (if m7 = 1 then List.replicate (14 + m3).toNat z74 else c).length cc') (.slice Ad d.length cd)) Ax x Ac' (if m7 = 1 then List.replicate (14 + m3).toNat z74 else c) Ad d))
  case first =>
    by_cases h7 : m7 = 1
    · have d1 : (m7 == 1) = true := beq_iff_eq.mpr h7
      have HE := Aside0.mk h7
      clear h7
      go_wp2_with fail
      refine (timeboundmake_Mod.calls a2 3 m3 _ E4.out).mono ?_
      rintro e w9 ⟨rfl, hd⟩
      have H9 := Aside0.mk (H8.out.below hd.below)
      clear hd H8
      go_wp2_with ((with_reducible refine gate_dst (N := 34) rfl ?_); refine Kd.R_make k74 (w0 := w9) w9.heap.size 74 rfl (N := 34) rfl 66 _ _ rfl (14 + m3) rfl rfl Try.underlying66 (.agg #[.int .i64 0, .int .i64 0]) 16 (by kernel_rfl) rfl (by decide) (by omega) z74 (ok := fun _ => True) (okp := fun _ => True) (k74_mkM _ _ _ z74) (fun _ hk => hk) trivial (by omega) (by omega) (Below.refl _ _) (Nat.le_refl _) ?_; intro v1 w10 hu hb hg hv; obtain ⟨AG, cG, hv1⟩ := Kd.R_slice hu; replace hv1 : v1 = .slice AG (List.replicate (14 + m3).toNat z74).length cG := hv1; subst hv1; have H10 := (H9.out.grown hg (by simp)).raise (N' := w10.heap.size) (Nat.le_trans H9.out.NW hg.size) (Nat.le_refl _); have hF := Kd.F_bound (Kd.R_F (Kd.R_mono (Kd.R_bound hu) (ok' := fun k_ => w9.heap.size ≤ k_) (fun k hk => hk.2.1))); have hgb := H9.out.gN; have hbb := H9.out.bN; have hNW := H9.out.NW; have H11 := Aside0.mk ((H10.code (Kd.F_mono hF (fun k hk => ⟨by have := hk.1; omega, by have := hk.1; omega, hk.2⟩))).set 15 (.slice AG (List.replicate (14 + m3).toNat z74).length cG)); have hlG := (Kd.R_reads' hu).2.1; have z15 := blk_cell H10.M 15; have f15 := blk_frozen H10.M 15; clear hu hb hg hv hF H9 H10 hgb hbb hNW)
      go_wp2_with fail
      go_meet
      case rel =>
        have hl0 : (List.replicate (14 + m3).toNat z74).length = (14 + m3).toNat := List.length_replicate
        refine ⟨AG, cG, w10.heap.size, by rw [if_pos HE.out]; exact hlG, ⟨?_⟩⟩
        rw [if_pos HE.out]
        have := H11.out
        rw [hl0] at this ⊢
        simpa [PrN] using this
    · have d1 : (m7 == 1) = false := beq_eq_false_iff_ne.mpr h7
      have HE := Aside0.mk h7
      clear h7
      go_wp2_with fail
      go_meet
      case rel => exact ⟨Ac, cc, N, by rw [if_neg HE.out]; exact hlc, ⟨by rw [if_neg HE.out]; exact H8.out⟩⟩
  case rest =>
  clear H8
  obtain ⟨Ac', cc', N', hlc', H9⟩ := hcut
  generalize (if m7 = 1 then List.replicate (14 + m3).toNat z74 else c) = c' at *
  have HLL := Aside0.mk hlc'
  clear hlc'
  go_wp2_with fail
  go_loopw [10, 38] (fun v10 v38 wr => ∃ (j : Nat) (ch0 : List Int) (q : Int) (u : Value), j ≤ x.length ∧ v10 = u ∧ v38 = .int .i64 j ∧ Aside0 (LP w wr g l0 q br N' (PrN p0 p1 p2 p3 p4 p5 p6' p7 p8 p9 p10 p11 p12 p13 p14 (.slice Ac' c'.length cc') (.slice Ad d.length cd)) Ax x Ac' c' Ad d) ∧ Aside0 (Kd.R (Kd.int .i64) 3 wr N' (fun _ => True) u ch0) ∧ Aside0 (Chosen l0 (x.length - j) j q ch0 ch) ∧ Aside0 (ch0.length ≤ j)) (fun _ v38 _ => x.length - (intOf v38).toNat)
  case atStart => exact ⟨0, [], q1, _, by omega, rfl, rfl, H9, ⟨Kd.R_nil _ _ _ _ _⟩, HCH, ⟨by simp⟩⟩
  case round =>
    clear H9 HCH
    obtain ⟨j, ch0, q, _, hj, rfl, rfl, HS, HU, HC, HL⟩ := hrel
    by_cases hlt : j < x.length
    · obtain ⟨m, hm⟩ : ∃ m, x.length - j = m + 1 := ⟨x.length - j - 1, by omega⟩
      have hy := HC.out
      rw [hm] at hy
      obtain ⟨v, qa, ev, hy⟩ := hy
      have EV := Aside0.mk ev
      have HC2 := Aside0.mk (show Chosen l0 (x.length - (j + 1)) (j + 1) qa (if v = 0 then ch0 ++ [(j : Int)] else ch0) ch from by rw [show x.length - (j + 1) = m by omega]; exact hy)
      clear hm hy ev HC
      go_wp2_with fail
      refine (timeboundmake_Deck_Next.calls g l0 q 2 v qa w wr HS.out.I HS.out.B EV.out).mono ?_
      rintro e w6 ⟨rfl, hi, hb, hk⟩
      have HS6 := Aside0.mk (HS.out.call hi hb hk)
      have HU6 := Aside0.mk (Kd.R_mono (Kd.R_keep (HS.out.I.apart HU.out (by decide)) hk (fun _ h => h.2)) (fun _ _ => trivial) : Kd.R (Kd.int .i64) 3 w6 N' (fun _ => True) u10 ch0)
      clear hi hb hk HS HU EV
      by_cases hv : v = 0
      · have d1 : (v == 0) = true := beq_iff_eq.mpr hv
        have HC3 := Aside0.mk (show Chosen l0 (x.length - (j + 1)) (j + 1) qa (ch0 ++ [(j : Int)]) ch from by have := HC2.out; rwa [if_pos hv] at this)
        clear hv HC2
        go_wp2_with ((with_reducible refine gate_builtin (b := .append) (xs := #[.tmp 44, .tmp 46]) rfl ?_); at_builtin; refine Kd.R_append (Kd.int .i64) (w0 := w6) N' rfl (.tmp 44) (.tmp 46) 22 3 (.int .i64 0) 8 rfl Try.underlying22 info3 rfl (by decide) (by omega) u10 ch0 (j : Int) [.int .i64 j] (fun _ => True) (fun _ => False) rfl rfl rfl (fun _ hk => hk.elim) (fun _ _ => trivial) HU6.out ((Below.refl w6.heap.size w6).mono HS6.out.NW) HS6.out.NW (by have := HL.out; omega) ?_; intro v8 w8 ho hb hg hat; have HO8 := Aside0.mk ho; have HS8 := Aside0.mk (HS6.out.grown hg (fun k e => Kd.R_base HU6.out k e)); clear ho hb hg hat HS6)
        go_roundw
        case rel => exact ⟨j + 1, _, qa, _, by omega, rfl, by go_num, HS8, HO8, HC3, ⟨by have := HL.out; simp; omega⟩⟩
        case measure => simp [intOf]; omega
      · have d1 : (v == 0) = false := beq_eq_false_iff_ne.mpr hv
        have HC3 := Aside0.mk (show Chosen l0 (x.length - (j + 1)) (j + 1) qa ch0 ch from by have := HC2.out; rwa [if_neg hv] at this)
        clear hv HC2
        go_wp2_with fail
        go_roundw
        case rel => exact ⟨j + 1, _, qa, _, by omega, rfl, by go_num, HS6, HU6, HC3, ⟨by have := HL.out; omega⟩⟩
        case measure => simp [intOf]; omega
    · have hy := HC.out
      rw [show x.length - j = 0 by omega] at hy
      obtain rfl : ch = ch0 := hy
      obtain ⟨Ay, cy, hu, hly, hCy⟩ := Kd.R_reads HU.out
      obtain rfl := hu
      have HCy := Aside0.mk hCy
      have HLy := Aside0.mk hly
      clear HU HC HL hCy hly
      go_wp2_with fail
      refine (timeboundmake_Mod.calls a2 12 m12 _ E5.out).mono ?_
      rintro e w7 ⟨rfl, hd⟩
      have HS7 := Aside0.mk (HS.out.below hd.below)
      have HC7 := Aside0.mk (Kd.C_below HCy.out hd.below)
      clear hd HS HCy
      have HS8 := Aside0.mk ((HS7.out.alloc (.cells #[.int .i64 (m12 - 1)] 3 (0, 0))).alloc (.cells #[.slice Ay ch.length cy, .slice (some ⟨w7.heap.size, 0, none⟩) 1 1] 22 (0, 0)))
      have HC8 := Aside0.mk (Kd.C_alloc (Kd.C_alloc HC7.out (.cells #[.int .i64 (m12 - 1)] 3 (0, 0))) (.cells #[.slice Ay ch.length cy, .slice (some ⟨w7.heap.size, 0, none⟩) 1 1] 22 (0, 0)))
      have HLa := Aside0.mk (blk_alloc (heap_alloc_last w7 (.cells #[.int .i64 (m12 - 1)] 3 (0, 0))) (.cells #[.slice Ay ch.length cy, .slice (some ⟨w7.heap.size, 0, none⟩) 1 1] 22 (0, 0)))
      have hlb := heap_alloc_last (w7.alloc (.cells #[.int .i64 (m12 - 1)] 3 (0, 0))) (.cells #[.slice Ay ch.length cy, .slice (some ⟨w7.heap.size, 0, none⟩) 1 1] 22 (0, 0))
      rw [show (w7.alloc (.cells #[.int .i64 (m12 - 1)] 3 (0, 0))).heap.size = w7.heap.size + 1 from by simp] at hlb
      have HLb := Aside0.mk hlb
      clear hlb HS7 HC7
      go_wp2_with fail
      generalize (w7.alloc (.cells #[.int .i64 (m12 - 1)] 3 (0, 0))).alloc (.cells #[.slice Ay ch.length cy, .slice (some ⟨w7.heap.size, 0, none⟩) 1 1] 22 (0, 0)) = w9 at *
      generalize w7.heap.size + 1 = b54 at *
      generalize w7.heap.size = b53 at *
      clear w7
      go_loopw [56] (fun v56 wr => ∃ i : Nat, i ≤ 2 ∧ v56 = .int .i64 i ∧ Aside0 (LP w wr g l0 q br N' (PrN p0 p1 p2 p3 p4 p5 p6' p7 p8 p9 p10 p11 p12 p13 p14 (.slice Ac' c'.length cc') (.slice Ad d.length cd)) Ax x Ac' c' Ad d) ∧ Aside0 (Below w9.heap.size w9 wr)) (fun v56 _ => 2 - (intOf v56).toNat)
      case atStart => exact ⟨0, by omega, rfl, HS8, ⟨Below.refl _ _⟩⟩
      case round =>
        clear HS8
        obtain ⟨i, hi2, rfl, HS, HW⟩ := hrel
        by_cases hlt2 : i < 2
        · obtain ⟨Am, cm, l, hcell, hC, hle, hs⟩ : ∃ Am cm l, wr.cell? ⟨b54, i, none⟩ = some (.slice Am l.length cm) ∧ Kd.C (Kd.int .i64) wr Am l.length l ∧ l.length ≤ cm ∧ Put36 k p0 p1 p2 p3 p4 p5 p6' p7 p8 p9 p10 p11 p12 p13 p14 c' d x l := by
            rcases i with _ | _ | i
            · exact ⟨Ay, cy, ch, blk_cell (blk_below HLb.out HW.out) 0, Kd.C_below HC8.out HW.out, HLy.out, HPUT.out _ (by simp)⟩
            · exact ⟨_, 1, [m12 - 1], blk_cell (blk_below HLb.out HW.out) 1, C_blk1 _ (blk_below HLa.out HW.out), by simp, HPUT.out _ (by simp)⟩
            · omega
          obtain ⟨r0, r1, r2, r3, r4, r5, r6, r7, r8, r9, r10, r11, r12, r13, r14, rc, rd, er, f1, f2, hwd⟩ := hs
          have F1 := Aside0.mk f1
          have F2 := Aside0.mk f2
          have HWD := Aside0.mk hwd
          have HC := Aside0.mk hC
          clear f1 f2 hwd hC
          go_wp2_with ((with_reducible refine gate_dst (N := 61) rfl ?_); refine wpList_load_row rfl 68 _ rfl br rfl 68 #[.int .i64 p0, .int .i64 p1, .int .i64 p2, .int .i64 p3, .int .i64 p4, .int .i64 p5, .int .i64 p6', .int .i64 p7, .int .i64 p8, .int .i64 p9, .int .i64 p10, .int .i64 p11, .int .i64 p12, .int .i64 p13, .int .i64 p14, .slice Ac' c'.length cc', .slice Ad d.length cd] (0, 0) _ HS.out.M Try.underlying68 rfl (by kernel_rfl) ?_)
          refine (scratch_Place.calls k p0 p1 p2 p3 p4 p5 p6' p7 p8 p9 p10 p11 p12 p13 p14 Ac' cc' c' Ad cd d Ax cx x Am cm l r0 r1 r2 r3 r4 r5 r6 r7 r8 r9 r10 r11 r12 r13 r14 rc rd er wr (Kd.F_now HS.out.C) HLL.out (Kd.F_now HS.out.D) hld (Kd.F_now HS.out.X) hlx HC.out hle F1.out).mono ?_
          rintro e wa ⟨v15, v16, rfl, hR1, hR2, hb⟩
          obtain ⟨A1, k1, rfl, hk1, hC1⟩ := Kd.R_reads hR1
          obtain ⟨A2, k2, rfl, hk2, hC2⟩ := Kd.R_reads hR2
          have HSa := Aside0.mk ((HS.out.below hb).alloc (.cells #[.int .i64 r0, .int .i64 r1, .int .i64 r2, .int .i64 r3, .int .i64 r4, .int .i64 r5, .int .i64 r6, .int .i64 r7, .int .i64 r8, .int .i64 r9, .int .i64 r10, .int .i64 r11, .int .i64 r12, .int .i64 r13, .int .i64 r14, .slice A1 rc.length k1, .slice A2 rd.length k2] 68 (0, 0)))
          have HWa := Aside0.mk (below_alloc (below_step HW.out hb) (.cells #[.int .i64 r0, .int .i64 r1, .int .i64 r2, .int .i64 r3, .int .i64 r4, .int .i64 r5, .int .i64 r6, .int .i64 r7, .int .i64 r8, .int .i64 r9, .int .i64 r10, .int .i64 r11, .int .i64 r12, .int .i64 r13, .int .i64 r14, .slice A1 rc.length k1, .slice A2 rd.length k2] 68 (0, 0)))
          have HCa := Aside0.mk (Kd.C_alloc (Kd.C_below HC.out hb) (.cells #[.int .i64 r0, .int .i64 r1, .int .i64 r2, .int .i64 r3, .int .i64 r4, .int .i64 r5, .int .i64 r6, .int .i64 r7, .int .i64 r8, .int .i64 r9, .int .i64 r10, .int .i64 r11, .int .i64 r12, .int .i64 r13, .int .i64 r14, .slice A1 rc.length k1, .slice A2 rd.length k2] 68 (0, 0)))
          have HC1 := Aside0.mk (Kd.C_alloc hC1 (.cells #[.int .i64 r0, .int .i64 r1, .int .i64 r2, .int .i64 r3, .int .i64 r4, .int .i64 r5, .int .i64 r6, .int .i64 r7, .int .i64 r8, .int .i64 r9, .int .i64 r10, .int .i64 r11, .int .i64 r12, .int .i64 r13, .int .i64 r14, .slice A1 rc.length k1, .slice A2 rd.length k2] 68 (0, 0)))
          have HC2 := Aside0.mk (Kd.C_alloc hC2 (.cells #[.int .i64 r0, .int .i64 r1, .int .i64 r2, .int .i64 r3, .int .i64 r4, .int .i64 r5, .int .i64 r6, .int .i64 r7, .int .i64 r8, .int .i64 r9, .int .i64 r10, .int .i64 r11, .int .i64 r12, .int .i64 r13, .int .i64 r14, .slice A1 rc.length k1, .slice A2 rd.length k2] 68 (0, 0)))
          have HLA := Aside0.mk (heap_alloc_last wa (.cells #[.int .i64 r0, .int .i64 r1, .int .i64 r2, .int .i64 r3, .int .i64 r4, .int .i64 r5, .int .i64 r6, .int .i64 r7, .int .i64 r8, .int .i64 r9, .int .i64 r10, .int .i64 r11, .int .i64 r12, .int .i64 r13, .int .i64 r14, .slice A1 rc.length k1, .slice A2 rd.length k2] 68 (0, 0)))
          clear hb hR1 hR2 hC1 hC2 HS HW HC F1 hcell
          go_wp2_with (first | (refine wpList_store_row rfl 68 _ _ rfl _ _ rfl rfl 68 _ (heap_alloc_last _ _) (by kernel_rfl) rfl rfl ?_; rw [World.setRow_alloc_new]) | ((with_reducible refine gate_dst (N := 68) rfl ?_); refine wpList_load_row rfl 68 _ rfl br rfl 68 #[.int .i64 p0, .int .i64 p1, .int .i64 p2, .int .i64 p3, .int .i64 p4, .int .i64 p5, .int .i64 p6', .int .i64 p7, .int .i64 p8, .int .i64 p9, .int .i64 p10, .int .i64 p11, .int .i64 p12, .int .i64 p13, .int .i64 p14, .slice Ac' c'.length cc', .slice Ad d.length cd] (0, 0) _ HSa.out.M Try.underlying68 rfl (by kernel_rfl) ?_))
          generalize wa.alloc (.cells #[.int .i64 r0, .int .i64 r1, .int .i64 r2, .int .i64 r3, .int .i64 r4, .int .i64 r5, .int .i64 r6, .int .i64 r7, .int .i64 r8, .int .i64 r9, .int .i64 r10, .int .i64 r11, .int .i64 r12, .int .i64 r13, .int .i64 r14, .slice A1 rc.length k1, .slice A2 rd.length k2] 68 (0, 0)) = wA at *
          generalize wa.heap.size = b14 at *
          clear wa
          refine (timeboundref36_Place.calls k p0 p1 p2 p3 p4 p5 p6' p7 p8 p9 p10 p11 p12 p13 p14 Ac' cc' c' Ad cd d Ax cx x Am cm l r0 r1 r2 r3 r4 r5 r6 r7 r8 r9 r10 r11 r12 r13 r14 rc rd er wA (Kd.F_now HSa.out.C) HLL.out (Kd.F_now HSa.out.D) hld (Kd.F_now HSa.out.X) hlx HCa.out hle F2.out).mono ?_
          rintro e wb ⟨v15, v16, rfl, hR1, hR2, hb⟩
          obtain ⟨A3, k3, rfl, hk3, hC3⟩ := Kd.R_reads hR1
          obtain ⟨A4, k4, rfl, hk4, hC4⟩ := Kd.R_reads hR2
          have HSb := Aside0.mk ((HSa.out.below hb).alloc (.cells #[.int .i64 r0, .int .i64 r1, .int .i64 r2, .int .i64 r3, .int .i64 r4, .int .i64 r5, .int .i64 r6, .int .i64 r7, .int .i64 r8, .int .i64 r9, .int .i64 r10, .int .i64 r11, .int .i64 r12, .int .i64 r13, .int .i64 r14, .slice A3 rc.length k3, .slice A4 rd.length k4] 68 (0, 0)))
          have HWb := Aside0.mk (below_alloc (below_step HWa.out hb) (.cells #[.int .i64 r0, .int .i64 r1, .int .i64 r2, .int .i64 r3, .int .i64 r4, .int .i64 r5, .int .i64 r6, .int .i64 r7, .int .i64 r8, .int .i64 r9, .int .i64 r10, .int .i64 r11, .int .i64 r12, .int .i64 r13, .int .i64 r14, .slice A3 rc.length k3, .slice A4 rd.length k4] 68 (0, 0)))
          have HC1b := Aside0.mk (Kd.C_alloc (Kd.C_below HC1.out hb) (.cells #[.int .i64 r0, .int .i64 r1, .int .i64 r2, .int .i64 r3, .int .i64 r4, .int .i64 r5, .int .i64 r6, .int .i64 r7, .int .i64 r8, .int .i64 r9, .int .i64 r10, .int .i64 r11, .int .i64 r12, .int .i64 r13, .int .i64 r14, .slice A3 rc.length k3, .slice A4 rd.length k4] 68 (0, 0)))
          have HC2b := Aside0.mk (Kd.C_alloc (Kd.C_below HC2.out hb) (.cells #[.int .i64 r0, .int .i64 r1, .int .i64 r2, .int .i64 r3, .int .i64 r4, .int .i64 r5, .int .i64 r6, .int .i64 r7, .int .i64 r8, .int .i64 r9, .int .i64 r10, .int .i64 r11, .int .i64 r12, .int .i64 r13, .int .i64 r14, .slice A3 rc.length k3, .slice A4 rd.length k4] 68 (0, 0)))
          have HC3 := Aside0.mk (Kd.C_alloc hC3 (.cells #[.int .i64 r0, .int .i64 r1, .int .i64 r2, .int .i64 r3, .int .i64 r4, .int .i64 r5, .int .i64 r6, .int .i64 r7, .int .i64 r8, .int .i64 r9, .int .i64 r10, .int .i64 r11, .int .i64 r12, .int .i64 r13, .int .i64 r14, .slice A3 rc.length k3, .slice A4 rd.length k4] 68 (0, 0)))
          have HC4 := Aside0.mk (Kd.C_alloc hC4 (.cells #[.int .i64 r0, .int .i64 r1, .int .i64 r2, .int .i64 r3, .int .i64 r4, .int .i64 r5, .int .i64 r6, .int .i64 r7, .int .i64 r8, .int .i64 r9, .int .i64 r10, .int .i64 r11, .int .i64 r12, .int .i64 r13, .int .i64 r14, .slice A3 rc.length k3, .slice A4 rd.length k4] 68 (0, 0)))
          have HLAb := Aside0.mk (blk_alloc (blk_below HLA.out hb) (.cells #[.int .i64 r0, .int .i64 r1, .int .i64 r2, .int .i64 r3, .int .i64 r4, .int .i64 r5, .int .i64 r6, .int .i64 r7, .int .i64 r8, .int .i64 r9, .int .i64 r10, .int .i64 r11, .int .i64 r12, .int .i64 r13, .int .i64 r14, .slice A3 rc.length k3, .slice A4 rd.length k4] 68 (0, 0)))
          have HLB := Aside0.mk (heap_alloc_last wb (.cells #[.int .i64 r0, .int .i64 r1, .int .i64 r2, .int .i64 r3, .int .i64 r4, .int .i64 r5, .int .i64 r6, .int .i64 r7, .int .i64 r8, .int .i64 r9, .int .i64 r10, .int .i64 r11, .int .i64 r12, .int .i64 r13, .int .i64 r14, .slice A3 rc.length k3, .slice A4 rd.length k4] 68 (0, 0)))
          have hee : (er != er) = false := by simp
          clear hb hR1 hR2 hC3 hC4 HSa HWa HCa HC1 HC2 HLA F2
          go_wp2_with (first | (refine wpList_store_row rfl 68 _ _ rfl _ _ rfl rfl 68 _ (heap_alloc_last _ _) (by kernel_rfl) rfl rfl ?_; rw [World.setRow_alloc_new]) | ((with_reducible refine gate_dst (N := 78) rfl ?_); refine gate_guard (by rfl) ?_; dsimp only; refine wpList_load_row rfl 68 _ rfl b14 rfl 68 #[.int .i64 r0, .int .i64 r1, .int .i64 r2, .int .i64 r3, .int .i64 r4, .int .i64 r5, .int .i64 r6, .int .i64 r7, .int .i64 r8, .int .i64 r9, .int .i64 r10, .int .i64 r11, .int .i64 r12, .int .i64 r13, .int .i64 r14, .slice A1 rc.length k1, .slice A2 rd.length k2] (0, 0) _ HLAb.out Try.underlying68 rfl (by kernel_rfl) ?_) | ((with_reducible refine gate_dst (N := 79) rfl ?_); refine gate_guard (by rfl) ?_; dsimp only; refine wpList_load_row rfl 68 _ rfl wb.heap.size rfl 68 #[.int .i64 r0, .int .i64 r1, .int .i64 r2, .int .i64 r3, .int .i64 r4, .int .i64 r5, .int .i64 r6, .int .i64 r7, .int .i64 r8, .int .i64 r9, .int .i64 r10, .int .i64 r11, .int .i64 r12, .int .i64 r13, .int .i64 r14, .slice A3 rc.length k3, .slice A4 rd.length k4] (0, 0) _ HLB.out Try.underlying68 rfl (by kernel_rfl) ?_))
          generalize wb.alloc (.cells #[.int .i64 r0, .int .i64 r1, .int .i64 r2, .int .i64 r3, .int .i64 r4, .int .i64 r5, .int .i64 r6, .int .i64 r7, .int .i64 r8, .int .i64 r9, .int .i64 r10, .int .i64 r11, .int .i64 r12, .int .i64 r13, .int .i64 r14, .slice A3 rc.length k3, .slice A4 rd.length k4] 68 (0, 0)) = wB at *
          generalize wb.heap.size = b16 at *
          clear wb
          refine (timeboundlaw36_same.calls r0 r1 r2 r3 r4 r5 r6 r7 r8 r9 r10 r11 r12 r13 r14 A1 k1 rc A2 k2 rd r0 r1 r2 r3 r4 r5 r6 r7 r8 r9 r10 r11 r12 r13 r14 A3 k3 rc A4 k4 rd true wB HC1b.out hk1 HC2b.out hk2 HC3.out hk3 HC4.out hk4 (by unfold timeboundlaw36_same.f; rw [if_pos (by simp)])).mono ?_
          rintro e wc ⟨rfl, hb⟩
          have HSc := Aside0.mk (HSb.out.below hb)
          have HWc := Aside0.mk (below_step HWb.out hb)
          have HLAc := Aside0.mk (blk_below HLAb.out hb)
          have HLBc := Aside0.mk (blk_below HLB.out hb)
          have HD1 := Aside0.mk (Kd.C_below HC1b.out hb)
          have HD2 := Aside0.mk (Kd.C_below HC2b.out hb)
          have HD3 := Aside0.mk (Kd.C_below HC3.out hb)
          have HD4 := Aside0.mk (Kd.C_below HC4.out hb)
          clear hb HSb HWb HC1b HC2b HC3 HC4 HLAb HLB
          by_cases her : er = 0
          · as_aux_lemma =>
              have d3 : (er == 0) = true := beq_iff_eq.mpr her
              obtain ⟨nn, g1, g2⟩ := HWD.out her
              have G1 := Aside0.mk g1
              have G2 := Aside0.mk g2
              have hnn : (nn != nn) = false := by simp
              clear her g1 g2 HWD
              go_wp2_with fail
              go_region_held3 (fun wz => wz.cell? ⟨b14, 0, none⟩ = some (.int .i64 r0) ∧ wz.cell? ⟨b14, 1, none⟩ = some (.int .i64 r1) ∧ wz.cell? ⟨b14, 2, none⟩ = some (.int .i64 r2) ∧ wz.cell? ⟨b14, 3, none⟩ = some (.int .i64 r3) ∧ wz.cell? ⟨b14, 4, none⟩ = some (.int .i64 r4) ∧ wz.cell? ⟨b14, 5, none⟩ = some (.int .i64 r5) ∧ wz.cell? ⟨b14, 6, none⟩ = some (.int .i64 r6) ∧ wz.cell? ⟨b14, 7, none⟩ = some (.int .i64 r7) ∧ wz.cell? ⟨b14, 8, none⟩ = some (.int .i64 r8) ∧ wz.cell? ⟨b14, 9, none⟩ = some (.int .i64 r9) ∧ wz.cell? ⟨b14, 10, none⟩ = some (.int .i64 r10) ∧ wz.cell? ⟨b14, 11, none⟩ = some (.int .i64 r11) ∧ wz.cell? ⟨b14, 12, none⟩ = some (.int .i64 r12) ∧ wz.cell? ⟨b14, 13, none⟩ = some (.int .i64 r13) ∧ wz.cell? ⟨b14, 14, none⟩ = some (.int .i64 r14) ∧ wz.cell? ⟨b14, 15, none⟩ = some (.slice A1 rc.length k1) ∧ wz.cell? ⟨b14, 16, none⟩ = some (.slice A2 rd.length k2) ∧ wz.cell? ⟨b16, 0, none⟩ = some (.int .i64 r0) ∧ wz.cell? ⟨b16, 1, none⟩ = some (.int .i64 r1) ∧ wz.cell? ⟨b16, 2, none⟩ = some (.int .i64 r2) ∧ wz.cell? ⟨b16, 3, none⟩ = some (.int .i64 r3) ∧ wz.cell? ⟨b16, 4, none⟩ = some (.int .i64 r4) ∧ wz.cell? ⟨b16, 5, none⟩ = some (.int .i64 r5) ∧ wz.cell? ⟨b16, 6, none⟩ = some (.int .i64 r6) ∧ wz.cell? ⟨b16, 7, none⟩ = some (.int .i64 r7) ∧ wz.cell? ⟨b16, 8, none⟩ = some (.int .i64 r8) ∧ wz.cell? ⟨b16, 9, none⟩ = some (.int .i64 r9) ∧ wz.cell? ⟨b16, 10, none⟩ = some (.int .i64 r10) ∧ wz.cell? ⟨b16, 11, none⟩ = some (.int .i64 r11) ∧ wz.cell? ⟨b16, 12, none⟩ = some (.int .i64 r12) ∧ wz.cell? ⟨b16, 13, none⟩ = some (.int .i64 r13) ∧ wz.cell? ⟨b16, 14, none⟩ = some (.int .i64 r14) ∧ wz.cell? ⟨b16, 15, none⟩ = some (.slice A3 rc.length k3) ∧ wz.cell? ⟨b16, 16, none⟩ = some (.slice A4 rd.length k4))
                (first | exact pr_cells2 HLAc.out HLBc.out | go_keep)
                (first
                  | (go_at_call 63; refine (scratch_Words.calls r0 r1 r2 r3 r4 r5 r6 r7 r8 r9 r10 r11 r12 r13 r14 A1 k1 rc A2 k2 rd nn _ (by first | exact HD1.out | exact Kd.C_drew HD1.out) hk1 (by first | exact HD2.out | exact Kd.C_drew HD2.out) hk2 G1.out).mono ?_; rintro e wx ⟨rfl, hb⟩; have HSd := Aside0.mk ((by first | exact HSc.out.below hb | exact (HSc.out.below (below_drew (Below.refl _ _))).below hb) : LP w wx g l0 q br N' (PrN p0 p1 p2 p3 p4 p5 p6' p7 p8 p9 p10 p11 p12 p13 p14 (.slice Ac' c'.length cc') (.slice Ad d.length cd)) Ax x Ac' c' Ad d); have HWd := Aside0.mk ((by first | exact below_step HWc.out hb | exact below_step (below_drew HWc.out) hb) : Below w9.heap.size w9 wx); have HLAd := Aside0.mk ((by first | exact blk_below HLAc.out hb | exact blk_below (blk_drew HLAc.out) hb) : wx.heap[b14]? = some (.cells #[.int .i64 r0, .int .i64 r1, .int .i64 r2, .int .i64 r3, .int .i64 r4, .int .i64 r5, .int .i64 r6, .int .i64 r7, .int .i64 r8, .int .i64 r9, .int .i64 r10, .int .i64 r11, .int .i64 r12, .int .i64 r13, .int .i64 r14, .slice A1 rc.length k1, .slice A2 rd.length k2] 68 (0, 0))); have HLBd := Aside0.mk ((by first | exact blk_below HLBc.out hb | exact blk_below (blk_drew HLBc.out) hb) : wx.heap[b16]? = some (.cells #[.int .i64 r0, .int .i64 r1, .int .i64 r2, .int .i64 r3, .int .i64 r4, .int .i64 r5, .int .i64 r6, .int .i64 r7, .int .i64 r8, .int .i64 r9, .int .i64 r10, .int .i64 r11, .int .i64 r12, .int .i64 r13, .int .i64 r14, .slice A3 rc.length k3, .slice A4 rd.length k4] 68 (0, 0))); have HDd3 := Aside0.mk ((by first | exact Kd.C_below HD3.out hb | exact Kd.C_below (Kd.C_drew HD3.out) hb) : Kd.C k74 wx A3 rc.length rc); have HDd4 := Aside0.mk ((by first | exact Kd.C_below HD4.out hb | exact Kd.C_below (Kd.C_drew HD4.out) hb) : Kd.C k74 wx A4 rd.length rd); clear HD1 HD2 G1; clear HSc HWc HLAc HLBc HD3 HD4 hb; have HSc := HSd; have HWc := HWd; have HLAc := HLAd; have HLBc := HLBd; have HD3 := HDd3; have HD4 := HDd4; clear HSd HWd HLAd HLBd HDd3 HDd4)
                  | (go_at_call 64; refine (timeboundref36_Words.calls k r0 r1 r2 r3 r4 r5 r6 r7 r8 r9 r10 r11 r12 r13 r14 A3 k3 rc A4 k4 rd nn _ (by first | exact HD3.out | exact Kd.C_drew HD3.out) hk3 (by first | exact HD4.out | exact Kd.C_drew HD4.out) hk4 G2.out).mono ?_; rintro e wx ⟨rfl, hb⟩; have HSd := Aside0.mk ((by first | exact HSc.out.below hb | exact (HSc.out.below (below_drew (Below.refl _ _))).below hb) : LP w wx g l0 q br N' (PrN p0 p1 p2 p3 p4 p5 p6' p7 p8 p9 p10 p11 p12 p13 p14 (.slice Ac' c'.length cc') (.slice Ad d.length cd)) Ax x Ac' c' Ad d); have HWd := Aside0.mk ((by first | exact below_step HWc.out hb | exact below_step (below_drew HWc.out) hb) : Below w9.heap.size w9 wx); have HLAd := Aside0.mk ((by first | exact blk_below HLAc.out hb | exact blk_below (blk_drew HLAc.out) hb) : wx.heap[b14]? = some (.cells #[.int .i64 r0, .int .i64 r1, .int .i64 r2, .int .i64 r3, .int .i64 r4, .int .i64 r5, .int .i64 r6, .int .i64 r7, .int .i64 r8, .int .i64 r9, .int .i64 r10, .int .i64 r11, .int .i64 r12, .int .i64 r13, .int .i64 r14, .slice A1 rc.length k1, .slice A2 rd.length k2] 68 (0, 0))); have HLBd := Aside0.mk ((by first | exact blk_below HLBc.out hb | exact blk_below (blk_drew HLBc.out) hb) : wx.heap[b16]? = some (.cells #[.int .i64 r0, .int .i64 r1, .int .i64 r2, .int .i64 r3, .int .i64 r4, .int .i64 r5, .int .i64 r6, .int .i64 r7, .int .i64 r8, .int .i64 r9, .int .i64 r10, .int .i64 r11, .int .i64 r12, .int .i64 r13, .int .i64 r14, .slice A3 rc.length k3, .slice A4 rd.length k4] 68 (0, 0))); have HDd3 := Aside0.mk ((by first | exact Kd.C_below HD3.out hb | exact Kd.C_below (Kd.C_drew HD3.out) hb) : Kd.C k74 wx A3 rc.length rc); have HDd4 := Aside0.mk ((by first | exact Kd.C_below HD4.out hb | exact Kd.C_below (Kd.C_drew HD4.out) hb) : Kd.C k74 wx A4 rd.length rd); clear HSc HWc HLAc HLBc HD3 HD4 hb; have HSc := HSd; have HWc := HWd; have HLAc := HLAd; have HLBc := HLBd; have HD3 := HDd3; have HD4 := HDd4; clear HSd HWd HLAd HLBd HDd3 HDd4))
              go_wp2_with fail
              go_roundw
              case rel => exact ⟨i + 1, by omega, by go_num, HSc, HWc⟩
              case measure => simp [intOf]; omega
          · have d3 : (er == 0) = false := beq_eq_false_iff_ne.mpr her
            clear her HLAc HLBc HD1 HD2 HD3 HD4 HWD
            go_wp2_with fail
            go_quiet (fail)
            go_wp2_with fail
            go_roundw
            case rel => exact ⟨i + 1, by omega, by go_num, ⟨HSc.out.below (pw_below_drewN (Below.refl _ _) _)⟩, ⟨pw_below_drewN HWc.out _⟩⟩
            case measure => simp [intOf]; omega
        · have d8 : decide ((i : Int) < 2) = false := decide_eq_false (by omega)
          have d9 : decide (i < 2) = false := decide_eq_false (by omega)
          go_wp2_with fail
          refine (HAW.out _).mono ?_
          rintro e wz ⟨rfl, hb⟩
          have HZ := Aside0.mk (below_step HS.out.B hb)
          clear hb
          go_wp2_with fail
          go_ret
          exact ⟨rfl, HZ.out⟩
theorem timeboundlaw36_ScratchPlaces.walk (P : timeboundlaw36_ScratchPlaces.Pure) (a0 : Option Addr) (len0 cap0 : Nat) (z0 : List Int) (a1 : Int) (a2 : Int) (w : World) (w0 : (a0 = none ∧ len0 = 0 ∧ cap0 = 0 ∧ z0 = []) ∨ ∃ x, a0 = some x ∧ len0 ≤ cap0 ∧ cap0 ≤ maxLen ∧ z0.length = cap0 ∧ (∀ i, i < z0.length → w.cell? (x.add i) = some (.int .i64 (z0.getD i 0))) ∧ ∀ n ∈ z0, (Lit.int .i64 n).wf = true) (y0 : len0 * 8 ≤ 140737488351232) (w1 : (Lit.int .i64 a1).wf = true) (w2 : (Lit.int .i64 a2).wf = true) :
    Calls Try.prog 14 #[.slice a0 len0 cap0, .int .i64 a1, .int .i64 a2] w fun e w' => e = .returned (.bool true) ∧ Below w.heap.size w w' := by
  obtain ⟨l0, rfl, hr0, hm0, hw0, hc0⟩ := ReadsInt.ofRowC w0
  exact timeboundlaw36_ScratchPlaces.any P _ _ l0 a1 a2 w (Kd.C_of_reads (d := (0 : Int)) (h1 := fun _ => rfl) hr0) hc0 y0 w1 w2

end Go.Proofs.Ytdgegoefehmfmaa.QScratchPlaces
