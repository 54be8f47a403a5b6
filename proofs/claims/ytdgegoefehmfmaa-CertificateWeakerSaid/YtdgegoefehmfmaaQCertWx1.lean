-- Written for this claim by this session's own program (wip/pp).
import Derived.Test.YtdgegoefehmfmaaQCertWx0
namespace Go.Proofs.Ytdgegoefehmfmaa.QCertW
open Go.RowKit Go.Proofs.YtdgegoefehmfmaaW.PrintWords Go.Proofs.YtdgegoefehmfmaaW.PrintLast Go.Proofs.YtdgegoefehmfmaaW.PrintMore
attribute [local go_sem] max2_int min2_int max_two min_two max_three min_three max_four min_four   -- for this text's walks alone
set_option linter.unusedVariables false
set_option linter.unusedSimpArgs false

/-- A state of type 111 at block g of W; what its slices lead to came in by w0. -/
def IsS111 (w0 W : World) (g : Nat) (f0 : List Int) (f1 : Int) : Prop := ∃ A0 c0, W.heap[g]? = some (.cells #[.slice A0 f0.length c0, .int .i64 f1] 111 (0, 0)) ∧ w0.heap.size ≤ g ∧ Kd.C (Kd.int .i64) w0 A0 f0.length f0
theorem IsS111.grown {w0 W : World} {g : Nat} {f0 : List Int} {f1 : Int} {W1 : World} {row : Option Nat} (h : IsS111 w0 W g f0 f1) (hw : W.grownBy W1 row) (hne : some g ≠ row) : IsS111 w0 W1 g f0 f1 := by
  obtain ⟨A0, c0, hb, hg, hr0⟩ := h
  exact ⟨A0, c0, blk_grown hb hw hne, hg, hr0⟩
theorem IsS111.own_neN {w0 W : World} {g : Nat} {f0 : List Int} {f1 : Int} {α : Type} {d : Kd α} {e : Nat} {base : Nat} {ok : Nat → Prop} {v : Value} {xs : List α} (h : IsS111 w0 W g f0 f1) (ho : Kd.N d e W base ok v xs) (ht : e ≠ 111) : some g ≠ v.ownBlock := by
  obtain ⟨A0, c0, hb, hg, hr0⟩ := h
  exact Kd.N_ne ho hb ht
theorem IsS111.fresh {w0 W : World} {g : Nat} {f0 : List Int} {f1 : Int} (h : IsS111 w0 W g f0 f1) : ∀ k, W.heap.size ≤ k → k ≠ g := by
  obtain ⟨A0, c0, hb, hg, hr0⟩ := h
  exact Kd.freshB hb
theorem IsS111.kept {w0 W : World} {g : Nat} {f0 : List Int} {f1 : Int} {W1 : World} {S : Nat → Prop} (h : IsS111 w0 W g f0 f1) (hk : Kept W W1 S) (hne : ¬ S g) : IsS111 w0 W1 g f0 f1 := by
  obtain ⟨A0, c0, hb, hg, hr0⟩ := h
  exact ⟨A0, c0, blk_kept hb hk hne, hg, hr0⟩
theorem IsS111.below {w0 W : World} {g : Nat} {f0 : List Int} {f1 : Int} {W1 : World} (h : IsS111 w0 W g f0 f1) (hw : Below W.heap.size W W1) : IsS111 w0 W1 g f0 f1 := h.grown (grown_of_below hw none) (by simp)
theorem IsS111.alloc {w0 W : World} {g : Nat} {f0 : List Int} {f1 : Int} (h : IsS111 w0 W g f0 f1) (o : Obj) : IsS111 w0 (W.alloc o) g f0 f1 := h.below (below_alloc (Below.refl _ _) o)
theorem IsS111.drewN {w0 W : World} {g : Nat} {f0 : List Int} {f1 : Int} (h : IsS111 w0 W g f0 f1) (m : Nat) : IsS111 w0 (W.drewN m) g f0 f1 := h
theorem IsS111.drew {w0 W : World} {g : Nat} {f0 : List Int} {f1 : Int} (h : IsS111 w0 W g f0 f1) : IsS111 w0 W.drew g f0 f1 := h
theorem IsS111.at_ {w0 W : World} {g : Nat} {f0 : List Int} {f1 : Int} {w' : World} {m : Nat} (hq : W.drewN m = w') (h : IsS111 w0 W g f0 f1) : IsS111 w0 w' g f0 f1 := by subst hq; exact IsS111.drewN h m
theorem IsS111.apart {w0 W : World} {g : Nat} {f0 : List Int} {f1 : Int} {α : Type} {d : Kd α} {e : Nat} {base : Nat} {ok : Nat → Prop} {v : Value} {xs : List α} (h : IsS111 w0 W g f0 f1) (ho : d.R e W base ok v xs) (ht : ∀ q, q ∈ e :: d.E → q ≠ 111) : d.R e W base (fun k => ok k ∧ k ≠ g) v xs := by
  obtain ⟨A0, c0, hb, hg, hr0⟩ := h
  exact Kd.R_types ho hb ht
theorem IsS111.own_ne {w0 W : World} {g : Nat} {f0 : List Int} {f1 : Int} {α : Type} {d : Kd α} {e : Nat} {base : Nat} {ok : Nat → Prop} {v : Value} {xs : List α} (h : IsS111 w0 W g f0 f1) (ho : d.R e W base ok v xs) (ht : e ≠ 111) : some g ≠ v.ownBlock := by
  obtain ⟨A0, c0, hb, hg, hr0⟩ := h
  exact Kd.R_ne ho hb ht
theorem IsS111.apartQ {w0 W : World} {g : Nat} {f0 : List Int} {f1 : Int} {α : Type} {d : Kd α} {e : Nat} {base : Nat} {ok : Nat → Prop} {v : Value} {xs : List α} (h : IsS111 w0 W g f0 f1) (ho : d.Q e W base ok v xs) (ht : ∀ q, q ∈ e :: d.E → q ≠ 111) : d.Q e W base (fun k => ok k ∧ k ≠ g) v xs := by
  obtain ⟨A0, c0, hb, hg, hr0⟩ := h
  exact Kd.Q_types ho hb ht
theorem IsS111.own_neQ {w0 W : World} {g : Nat} {f0 : List Int} {f1 : Int} {α : Type} {d : Kd α} {e : Nat} {base : Nat} {ok : Nat → Prop} {v : Value} {xs : List α} (h : IsS111 w0 W g f0 f1) (ho : d.Q e W base ok v xs) (ht : e ≠ 111) : some g ≠ v.ownBlock := by
  obtain ⟨A0, c0, hb, hg, hr0⟩ := h
  exact Kd.Q_ne ho hb ht
theorem IsS111.apartS {w0 W : World} {g : Nat} {f0 : List Int} {f1 : Int} {α : Type} {d : Kd α} {e : Nat} {base : Nat} {ok : Nat → Prop} {v : Value} {xs : List α} (h : IsS111 w0 W g f0 f1) (ho : d.S e W base ok v xs) (ht : ∀ q, q ∈ e :: d.E → q ≠ 111) : d.S e W base (fun k => ok k ∧ k ≠ g) v xs := by
  obtain ⟨A0, c0, hb, hg, hr0⟩ := h
  exact Kd.S_types ho hb ht
theorem IsS111.own_neS {w0 W : World} {g : Nat} {f0 : List Int} {f1 : Int} {α : Type} {d : Kd α} {e : Nat} {base : Nat} {ok : Nat → Prop} {v : Value} {xs : List α} (h : IsS111 w0 W g f0 f1) (ho : d.S e W base ok v xs) (ht : e ≠ 111) : some g ≠ v.ownBlock := by
  obtain ⟨A0, c0, hb, hg, hr0⟩ := h
  exact Kd.S_ne ho hb ht
theorem IsS111.lt {w0 W : World} {g : Nat} {f0 : List Int} {f1 : Int} (h : IsS111 w0 W g f0 f1) : g < W.heap.size := by
  obtain ⟨A0, c0, hb, hg, hr0⟩ := h
  exact blk_lt hb
theorem IsS111.ge {w0 W : World} {g : Nat} {f0 : List Int} {f1 : Int} (h : IsS111 w0 W g f0 f1) : w0.heap.size ≤ g := by
  obtain ⟨A0, c0, hb, hg, hr0⟩ := h
  exact hg
theorem IsS111.ne_blk {w0 W : World} {g : Nat} {f0 : List Int} {f1 : Int} {a : Nat} {cs : Array Value} {t : TypeId} {fr : Nat × Nat} (h : IsS111 w0 W g f0 f1) (hb2 : W.heap[a]? = some (.cells cs t fr)) (ht : t ≠ 111) : g ≠ a := by
  obtain ⟨A0, c0, hb, hg, hr0⟩ := h
  rintro rfl
  rw [hb] at hb2
  injection hb2 with hb2
  injection hb2 with _ ht2
  exact ht ht2.symm
theorem IsS111.far {w0 W : World} {g : Nat} {f0 : List Int} {f1 : Int} {p : Addr} (h : IsS111 w0 W g f0 f1) (hne : g ≠ p.block) (u : Value) : IsS111 w0 (W.setCell p u) g f0 f1 := by
  obtain ⟨A0, c0, hb, hg, hr0⟩ := h
  exact ⟨A0, c0, blk_far hb hne u, hg, hr0⟩
theorem cellS111_0 {W : World} {g : Nat} {A0 : Option Addr} {c0 : Nat} {f0 : List Int} {f1 : Int} (h : W.heap[g]? = some (.cells #[.slice A0 f0.length c0, .int .i64 f1] 111 (0, 0))) : W.cell? ⟨g, 0, none⟩ = some (.slice A0 f0.length c0) := (blk_cell h 0).trans rfl
theorem cellS111_1 {W : World} {g : Nat} {A0 : Option Addr} {c0 : Nat} {f0 : List Int} {f1 : Int} (h : W.heap[g]? = some (.cells #[.slice A0 f0.length c0, .int .i64 f1] 111 (0, 0))) : W.cell? ⟨g, 1, none⟩ = some (.int .i64 f1) := (blk_cell h 1).trans rfl
theorem IsS111.set_1 {w0 W : World} {g : Nat} {f0 : List Int} {f1 : Int} (h : IsS111 w0 W g f0 f1) (x : Int) : IsS111 w0 (W.setCell ⟨g, 1, none⟩ (.int .i64 x)) g f0 x := by
  obtain ⟨A0, c0, hb, hg, hr0⟩ := h
  exact ⟨A0, c0, by simpa using blk_set hb 1 (.int .i64 x), hg, hr0⟩
theorem IsS111.new (w0 W : World) (A0 : Option Addr) (c0 : Nat) (f0 : List Int) (f1 : Int) (hB : Below w0.heap.size w0 W) (hr0 : Kd.C (Kd.int .i64) w0 A0 f0.length f0) : IsS111 w0 (W.alloc (.cells #[.slice A0 f0.length c0, .int .i64 f1] 111)) W.heap.size f0 f1 := ⟨A0, c0, by simpa using heap_alloc_new W _, hB.size, hr0⟩

/-! ### timeboundmake_New: function 16 -/
def timeboundmake_New.f (l0 : List Int) : Option (List Int × Int) := some (l0, 0)
set_option maxHeartbeats 8000000 in
set_option maxRecDepth 100000 in
theorem timeboundmake_New.calls (A0 : Option Addr) (c0 : Nat) (l0 : List Int) (r1 : List Int) (r2 : Int) (w0 w : World) (hB : Below w0.heap.size w0 w) (hr0 : Kd.C (Kd.int .i64) w0 A0 l0.length l0) (hc0 : l0.length ≤ c0) (h : timeboundmake_New.f l0 = some (r1, r2)) :
    Calls Try.prog 16 #[.slice A0 l0.length c0] w fun e w' => ∃ g_ : Nat, e = .returned (.pointer (some ⟨g_, 0, none⟩)) ∧ IsS111 w0 w' g_ r1 r2 ∧ Below w0.heap.size w0 w' ∧ Below w.heap.size w w' := by
  have hu111 := Try.underlying111
  have HR0 := Aside0.mk hr0
  have HC0 := Aside0.mk hc0
  clear hr0 hc0
  have HBW := Aside0.mk (Below.refl w.heap.size w)
  have HW0 := Aside0.mk hB.size
  have HB := Aside0.mk hB
  clear hB
  have H : (some (l0, 0)) = some (r1, r2) := h
  clear h
  simp only [Option.some.injEq, Prod.mk.injEq] at H
  obtain ⟨rfl, rfl⟩ := H
  go_enter Try.func16, Try.ntmps16
  go_wp2_with (first | ((with_reducible refine gate_dst (N := 5) rfl ?_); refine box_event ?hg (N := 5) ?hd (cs := #[.slice A0 l0.length c0, .int .i64 0]) (t := 111) ?hr ?_; (case hd => rfl); (case hg => rfl); (case hr => first | (go_simp; done) | (go_simp; rfl)); intro gb101 hg w2 hbox hb; have n0_ := Aside0.mk (below_step HBW.out hb); have n1_ := Aside0.mk (below_step (by repeat (first | (with_reducible first | exact HB.out | apply below_alloc | apply pw_below_drewN | apply below_drew1) | exact HB.out)) hb); have n2_ := Aside0.mk (hbox); have n3_ := Aside0.mk ((by rw [hg]; exact (below_size (by repeat (first | (with_reducible first | exact HBW.out | apply below_alloc | apply pw_below_drewN | apply below_drew1) | exact HBW.out))) : w.heap.size ≤ gb101)); have n4_ := Aside0.mk ((Nat.le_trans HW0.out (by rw [hg]; exact (below_size (by repeat (first | (with_reducible first | exact HBW.out | apply below_alloc | apply pw_below_drewN | apply below_drew1) | exact HBW.out))) : w.heap.size ≤ gb101) : w0.heap.size ≤ gb101)); clear HBW; clear HB; have HBW := n0_; have HB := n1_; have BK101 := n2_; have GW101 := n3_; have GE101 := n4_; clear n0_ n1_ n2_ n3_ n4_; clear hb hbox hg))
  go_ret
  exact ⟨_, rfl, (show IsS111 w0 _ gb101 l0 0 from ⟨_, _, by (with_reducible repeat (first | refine blk_drewN ?_ _ | refine blk_drew ?_ | refine blk_alloc ?_ _)); exact BK101.out, GE101.out, HR0.out⟩), by repeat (first | (with_reducible first | exact HB.out | apply below_alloc | apply pw_below_drewN | apply below_drew1 | refine below_set ?_ GE101.out) | exact HB.out), by repeat (first | (with_reducible first | exact HBW.out | apply below_alloc | apply pw_below_drewN | apply below_drew1 | refine below_set ?_ GW101.out) | exact HBW.out)⟩

/-! ### timeboundmake_Mod: function 36 -/
def timeboundmake_Mod.f (a0 : Int) (a1 : Int) : Option (Int) := if a1 = 0 then (none) else (some (Int.tmod (wrap64 ((Int.tmod a0 a1) + a1)) a1))
set_option maxHeartbeats 8000000 in
set_option maxRecDepth 100000 in
theorem timeboundmake_Mod.calls (a0 : Int) (a1 : Int) (r : Int) (w : World) (h : timeboundmake_Mod.f a0 a1 = some r) :
    Calls Try.prog 36 #[.int .i64 a0, .int .i64 a1] w fun e w' => e = .returned (.int .i64 r) ∧ Drawn0 w w' := by
  have H : (if a1 = 0 then (none) else (some (Int.tmod (wrap64 ((Int.tmod a0 a1) + a1)) a1))) = some r := h
  clear h
  by_cases c3 : a1 = 0
  · rw [if_pos c3] at H
    exact absurd H (by simp)
  · rw [if_neg c3] at H
    have c3b0 : (a1 == 0) = false := beq_eq_false_iff_ne.mpr c3
    have c3b1 : (a1 != 0) = true := bne_iff_ne.mpr c3
    obtain rfl := Option.some.inj H
    go_enter Try.func36, Try.ntmps36
    go_wp2
    go_ret
    exact ⟨by first | rfl | (simp; done) | (simp [*]; done), by repeat (first | exact Drawn0.refl _ | apply Drawn0.step)⟩

/-! ### timeboundmake_Deck_Next: function 18 -/
def timeboundmake_Deck_Next.f (s0_0 : List Int) (s0_1 : Int) (a1 : Int) : Option (Int × Int) := if s0_1 ≥ (s0_0.length : Int) then (some (0, s0_1)) else (if a1 ≤ 1 then (some (0, s0_1)) else (if 0 ≤ (wrap64 ((wrap64 (s0_1 + 1)) - 1)) then (if (wrap64 ((wrap64 (s0_1 + 1)) - 1)) < (s0_0.length : Int) then ((timeboundmake_Mod.f (rd s0_0 (wrap64 ((wrap64 (s0_1 + 1)) - 1))) a1).bind fun t103 => (some (t103, wrap64 (s0_1 + 1)))) else (none)) else (none)))
set_option maxHeartbeats 8000000 in
set_option maxRecDepth 100000 in
theorem timeboundmake_Deck_Next.calls (g : Nat) (s0_0 : List Int) (s0_1 : Int) (a1 : Int) (r1 : Int) (r2 : Int) (w0 w : World) (hI : IsS111 w0 w g s0_0 s0_1) (hB : Below w0.heap.size w0 w) (h : timeboundmake_Deck_Next.f s0_0 s0_1 a1 = some (r1, r2)) :
    Calls Try.prog 18 #[.pointer (some ⟨g, 0, none⟩), .int .i64 a1] w fun e w' => e = .returned (.int .i64 r1) ∧ IsS111 w0 w' g s0_0 r2 ∧ Below w0.heap.size w0 w' ∧ KeepBut w w' g none := by
  have HI0 := Aside0.mk hI
  have HK := Aside0.mk (KeepBut.refl w g none)
  have HL := Aside0.mk hB.size
  clear hI
  have HW0 := Aside0.mk hB.size
  have HB := Aside0.mk hB
  clear hB
  have H : (if s0_1 ≥ (s0_0.length : Int) then (some (0, s0_1)) else (if a1 ≤ 1 then (some (0, s0_1)) else (if 0 ≤ (wrap64 ((wrap64 (s0_1 + 1)) - 1)) then (if (wrap64 ((wrap64 (s0_1 + 1)) - 1)) < (s0_0.length : Int) then ((timeboundmake_Mod.f (rd s0_0 (wrap64 ((wrap64 (s0_1 + 1)) - 1))) a1).bind fun t103 => (some (t103, wrap64 (s0_1 + 1)))) else (none)) else (none)))) = some (r1, r2) := h
  clear h
  by_cases c3 : s0_1 ≥ (s0_0.length : Int)
  · rw [if_pos c3] at H
    have c3b0 : decide ((s0_0.length : Int) ≤ s0_1) = true := decide_eq_true c3
    clear c3
    simp only [Option.some.injEq, Prod.mk.injEq] at H
    obtain ⟨rfl, rfl⟩ := H
    obtain ⟨ASz4_0, cSz4_0, HGz4, hgz4, HSz4_0⟩ := HI0.out
    have hcz4_0 := cellS111_0 HGz4
    have hcz4_1 := cellS111_1 HGz4
    have hfz4_1 := blk_frozen HGz4 1
    clear HGz4 hgz4
    go_enter Try.func18, Try.ntmps18
    go_wp2
    try go_quiet (fail)
    try go_wp2
    go_ret
    exact ⟨by first | rfl | (simp [errW_none, errW_some] <;> rfl) | (simp [*, errW_none, errW_some] <;> rfl), by repeat (first | (with_reducible first | exact HI0.out | apply IsS111.alloc | apply IsS111.drewN | apply IsS111.drew | apply IsS111.set_1) | exact HI0.out), by repeat (first | (with_reducible first | exact HB.out | apply below_alloc | apply pw_below_drewN | apply below_drew1 | refine below_set ?_ (IsS111.ge HI0.out)) | exact HB.out), by repeat (first | (with_reducible first | exact HK.out | apply KeepBut.set_ | apply keep_drewN | apply keep_drew | apply keep_alloc) | exact HK.out)⟩
  · rw [if_neg c3] at H
    have c3b0 : decide ((s0_0.length : Int) ≤ s0_1) = false := decide_eq_false c3
    clear c3
    by_cases c5 : a1 ≤ 1
    · rw [if_pos c5] at H
      have c5b0 : decide (a1 ≤ 1) = true := decide_eq_true c5
      clear c5
      simp only [Option.some.injEq, Prod.mk.injEq] at H
      obtain ⟨rfl, rfl⟩ := H
      obtain ⟨ASz6_0, cSz6_0, HGz6, hgz6, HSz6_0⟩ := HI0.out
      have hcz6_0 := cellS111_0 HGz6
      have hcz6_1 := cellS111_1 HGz6
      have hfz6_1 := blk_frozen HGz6 1
      clear HGz6 hgz6
      go_enter Try.func18, Try.ntmps18
      go_wp2
      try go_quiet (fail)
      try go_wp2
      go_ret
      exact ⟨by first | rfl | (simp [errW_none, errW_some] <;> rfl) | (simp [*, errW_none, errW_some] <;> rfl), by repeat (first | (with_reducible first | exact HI0.out | apply IsS111.alloc | apply IsS111.drewN | apply IsS111.drew | apply IsS111.set_1) | exact HI0.out), by repeat (first | (with_reducible first | exact HB.out | apply below_alloc | apply pw_below_drewN | apply below_drew1 | refine below_set ?_ (IsS111.ge HI0.out)) | exact HB.out), by repeat (first | (with_reducible first | exact HK.out | apply KeepBut.set_ | apply keep_drewN | apply keep_drew | apply keep_alloc) | exact HK.out)⟩
    · rw [if_neg c5] at H
      have c5b0 : decide (a1 ≤ 1) = false := decide_eq_false c5
      clear c5
      obtain ⟨ji7, hji7⟩ : ∃ j_ : Int, (wrap64 ((wrap64 (s0_1 + 1)) - 1)) = j_ := ⟨_, rfl⟩
      replace H : (if 0 ≤ (ji7) then (if (ji7) < (s0_0.length : Int) then ((timeboundmake_Mod.f (rd s0_0 (ji7)) a1).bind fun t103 => (some (t103, wrap64 (s0_1 + 1)))) else (none)) else (none)) = some (r1, r2) := by first | (rw [hji7] at H; exact H) | (simp only [hji7] at H ⊢; exact H)
      have hji7w : (IntKind.i64.wrap ((wrap64 (s0_1 + 1)) - 1)) = ji7 := (i64_w _).trans hji7
      by_cases c8 : 0 ≤ (ji7)
      · rw [if_pos c8] at H
        have c8b0 : decide (0 ≤ (ji7)) = true := decide_eq_true c8
        clear c8
        by_cases c9 : (ji7) < (s0_0.length : Int)
        · rw [if_pos c9] at H
          have c9b0 : decide ((ji7) < (s0_0.length : Int)) = true := decide_eq_true c9
          clear c9
          replace H := Option.bind_eq_some_iff.mp H
          obtain ⟨t103, A100, H⟩ := H
          replace H : (some (t103, wrap64 (s0_1 + 1))) = some (r1, r2) := H
          have A10 := Aside0.mk A100
          clear A100
          simp only [Option.some.injEq, Prod.mk.injEq] at H
          obtain ⟨rfl, rfl⟩ := H
          obtain ⟨ASz11_0, cSz11_0, HGz11, hgz11, HSz11_0⟩ := HI0.out
          have hcz11_0 := cellS111_0 HGz11
          have hcz11_1 := cellS111_1 HGz11
          have hfz11_1 := blk_frozen HGz11 1
          clear HGz11 hgz11
          have p102 : 0 ≤ ((ji7) : Int) := of_decide_eq_true (by first | (with_reducible assumption) | assumption)
          have q102 : (ji7) < (s0_0.length : Int) := of_decide_eq_true (by first | (with_reducible assumption) | assumption)
          obtain ⟨ad102, e102, hx102_0⟩ := Kd.at_int HSz11_0 (ji7) p102 q102
          cases e102
          have hn102_0 : ad102.block ≠ g := Nat.ne_of_lt (Nat.lt_of_lt_of_le (by have := World.block_lt_of_cell? _ _ hx102_0; first | rwa [add_block] at this | exact this) (IsS111.ge HI0.out))
          replace hx102_0 := pw_cell_below HB.out hx102_0
          replace hx102_0 := (cell_far (p := ⟨g, 1, none⟩) (by first | (rw [add_block]; exact hn102_0) | (show (Addr.add _ _).block ≠ _; rw [add_block]; exact hn102_0) | exact hn102_0) (.int .i64 (wrap64 (s0_1 + 1)))).trans hx102_0
          (try have hy102_0 := fun (n_ : Nat) => (show (((w.drewN n_).setCell ⟨g, 1, none⟩ (.int .i64 (wrap64 (s0_1 + 1))))).cell? _ = some _ from hx102_0))
          clear hn102_0
          replace p102 := eq_true p102
          replace q102 := eq_true q102
          go_enter Try.func18, Try.ntmps18
          go_wp2
          try go_quiet (fail)
          try go_wp2
          try go_quiet (first | (go_at_call 36; (with_reducible refine (timeboundmake_Mod.calls (rd s0_0 (ji7)) a1 t103 _ A10.out).mono ?_); rintro e w' ⟨rfl, ⟨nd, rfl⟩⟩; (try first | exact ⟨rfl, _, World.drewN_drewN _ _ _⟩ | exact ⟨rfl, _, Eq.trans (World.drewN_drewN _ _ _) (congrArg (World.drewN _) (Nat.add_assoc _ _ _))⟩)))
          try go_wp2
          go_ret
          exact ⟨by first | rfl | (simp [errW_none, errW_some] <;> rfl) | (simp only [← hji7]; first | rfl | (simp [errW_none, errW_some] <;> rfl)) | (simp [*, errW_none, errW_some] <;> rfl), by repeat (first | (with_reducible first | exact HI0.out | apply IsS111.alloc | apply IsS111.drewN | apply IsS111.drew | apply IsS111.set_1) | exact HI0.out), by repeat (first | (with_reducible first | exact HB.out | apply below_alloc | apply pw_below_drewN | apply below_drew1 | refine below_set ?_ (IsS111.ge HI0.out)) | exact HB.out), by repeat (first | (with_reducible first | exact HK.out | apply KeepBut.set_ | apply keep_drewN | apply keep_drew | apply keep_alloc) | exact HK.out)⟩
        · rw [if_neg c9] at H
          exact absurd H (by simp)
      · rw [if_neg c8] at H
        exact absurd H (by simp)

/-! ### simplex_within: function 147 -/
def simplex_within.f (a0 : Int) (a1 : Int) : Option (Bool) := if a0 ≥ (wrap64 (-a1)) then (some (decide (a0 ≤ a1))) else (some false)
set_option maxHeartbeats 8000000 in
set_option maxRecDepth 100000 in
theorem simplex_within.calls (a0 : Int) (a1 : Int) (r : Bool) (w : World) (h : simplex_within.f a0 a1 = some r) :
    Calls Try.prog 147 #[.int .i64 a0, .int .i64 a1] w fun e w' => e = .returned (.bool r) ∧ Drawn0 w w' := by
  have H : (if a0 ≥ (wrap64 (-a1)) then (some (decide (a0 ≤ a1))) else (some false)) = some r := h
  clear h
  by_cases c3 : a0 ≥ (wrap64 (-a1))
  · rw [if_pos c3] at H
    have c3b0 : decide ((wrap64 (-a1)) ≤ a0) = true := decide_eq_true c3
    clear c3
    obtain rfl := Option.some.inj H
    go_enter Try.func147, Try.ntmps147
    go_wp2
    go_ret
    exact ⟨by first | rfl | (simp; done) | (simp [*]; done), by repeat (first | exact Drawn0.refl _ | apply Drawn0.step)⟩
  · rw [if_neg c3] at H
    have c3b0 : decide ((wrap64 (-a1)) ≤ a0) = false := decide_eq_false c3
    clear c3
    obtain rfl := Option.some.inj H
    go_enter Try.func147, Try.ntmps147
    go_wp2
    go_ret
    exact ⟨by first | rfl | (simp; done) | (simp [*]; done), by repeat (first | exact Drawn0.refl _ | apply Drawn0.step)⟩

/-! ### simplex_Terms: function 139 -/
/-- A number lies within bounds. -/
def withinB (n most : Int) : Bool := decide (-most ≤ n) && decide (n ≤ most)
/-- A term at its place is as it must be. -/
def termAt (l : List S109) (cols most : Int) (i : Nat) : Bool :=
  decide (0 ≤ (l.getD i z109).f0) && decide ((l.getD i z109).f0 < cols) && (decide (i = 0) || decide ((l.getD (i - 1) z109).f0 < (l.getD i z109).f0)) && !decide ((l.getD i z109).f1 = 0) && withinB (l.getD i z109).f1 most
def termsB (l : List S109) (cols most : Int) : Bool := (List.range l.length).all (termAt l cols most)
theorem termsB_no {l : List S109} {cols most : Int} {k : Nat} (hk : k < l.length) (h : termAt l cols most k = false) : termsB l cols most = false := by
  unfold termsB
  rw [List.all_eq_false]
  exact ⟨k, List.mem_range.2 hk, by simp [h]⟩
theorem termsB_yes {l : List S109} {cols most : Int} (h : ∀ j, j < l.length → termAt l cols most j = true) : termsB l cols most = true := by
  unfold termsB
  rw [List.all_eq_true]
  exact fun x hx => h x (List.mem_range.1 hx)

theorem drawn_quiet {P : Program} {f : FuncId} {args : Array Value} {w : World} {v : Value} (h : Calls P f args w fun e w' => e = .returned v ∧ Drawn0 w w') :
    Calls P f args w fun e w' => e = .returned v ∧ ∃ n, w' = w.drewN n := h.mono fun _ _ ⟨a, b⟩ => ⟨a, b.out⟩
theorem simplex_within_any (a0 a1 : Int) (h0 : 0 ≤ a1) (h1 : a1 ≤ 1099511627776) (w : World) :
    Calls Try.prog 147 #[.int .i64 a0, .int .i64 a1] w fun e w' => e = .returned (.bool (withinB a0 a1)) ∧ Drawn0 w w' := by
  have hw : wrap64 (-a1) = -a1 := by unfold wrap64; omega
  refine simplex_within.calls a0 a1 _ w ?_
  unfold simplex_within.f withinB
  rw [hw]
  by_cases c : a0 ≥ -a1
  · rw [if_pos c]; simp [show -a1 ≤ a0 from c]
  · rw [if_neg c]; simp [show ¬ -a1 ≤ a0 from c]

set_option maxHeartbeats 4000000 in
set_option maxRecDepth 100000 in
theorem simplex_Terms_any (A0 : Option Addr) (c0 : Nat) (l : List S109) (cols most : Int) (w : World)
    (hr : Kd.C k109 w A0 l.length l) (hl : l.length ≤ c0) (h0 : 0 ≤ most) (h1 : most ≤ 1099511627776) :
    Calls Try.prog 139 #[.slice A0 l.length c0, .int .i64 cols, .int .i64 most] w fun e w' => e = .returned (.bool (termsB l cols most)) ∧ Below w.heap.size w w' := by
  have HR := Aside0.mk hr
  have HN := Aside0.mk hr.2.1
  have hu109 := Try.underlying109
  clear hr
  go_enter Try.func139, Try.ntmps139
  go_wp2_with fail
  go_loopw [11] (fun i wr => ∃ k : Nat, k ≤ l.length ∧ i = .int .i64 k ∧ Aside0 (∀ j, j < k → termAt l cols most j = true) ∧ Aside0 (Below w.heap.size w wr)) (fun i _ => l.length - (intOf i).toNat)
  case atStart => exact ⟨0, Nat.zero_le _, rfl, ⟨by simp⟩, ⟨Below.refl _ _⟩⟩
  case round =>
    obtain ⟨k, hk, rfl, HQ, HB⟩ := hrel
    by_cases hlt : k < l.length
    · have hnn := HN.out
      obtain ⟨ad, e, g1, g2⟩ := at_T109 HR.out (k : Int) (by omega) (by omega)
      have hx : rd_T109 l (k : Int) = l.getD k z109 := by simp [rd_T109]
      rw [hx] at g1 g2
      clear hx
      cases e
      simp only [Int.toNat_natCast] at g1 g2
      replace g1 := (HB.out.cell (World.block_lt_of_cell? w _ g1)).trans g1
      replace g2 := (HB.out.cell (World.block_lt_of_cell? w _ g2)).trans g2
      have HT : Aside0 (termAt l cols most k = (decide (0 ≤ (l.getD k z109).f0) && decide ((l.getD k z109).f0 < cols) && (decide (k = 0) || decide ((l.getD (k - 1) z109).f0 < (l.getD k z109).f0)) && !decide ((l.getD k z109).f1 = 0) && withinB (l.getD k z109).f1 most)) := ⟨rfl⟩
      generalize (l.getD k z109).f0 = x at *
      generalize (l.getD k z109).f1 = y at *
      by_cases c1 : x < 0
      · have b1 : decide (x < 0) = true := decide_eq_true c1
        have HF : Aside0 (termsB l cols most = false) := ⟨termsB_no hlt (by rw [HT.out]; simp [show ¬ 0 ≤ x by omega])⟩
        clear HT
        go_wp2_with fail
        go_quiet (fail)
        go_wp2_with fail
        go_ret
        exact ⟨by rw [HF.out]; rfl, (by repeat (first | (with_reducible first | exact HB.out | apply below_alloc | apply pw_below_drewN | apply below_drew1) | exact HB.out))⟩
      have b1 : decide (x < 0) = false := decide_eq_false c1
      by_cases c2 : x ≥ cols
      · have b2 : decide (cols ≤ x) = true := decide_eq_true c2
        have HF : Aside0 (termsB l cols most = false) := ⟨termsB_no hlt (by rw [HT.out]; simp [show ¬ x < cols by omega])⟩
        clear HT c1 c2
        go_wp2_with fail
        go_quiet (fail)
        go_wp2_with fail
        go_ret
        exact ⟨by rw [HF.out]; rfl, (by repeat (first | (with_reducible first | exact HB.out | apply below_alloc | apply pw_below_drewN | apply below_drew1) | exact HB.out))⟩
      have b2 : decide (cols ≤ x) = false := decide_eq_false c2
      by_cases e0 : k < 1
      · have b0 : decide (0 < k) = false := decide_eq_false (by omega)
        have E0 := Aside0.mk e0
        clear e0
        by_cases c4 : y = 0
        · have b4 : (y == 0) = true := beq_iff_eq.2 c4
          have HF : Aside0 (termsB l cols most = false) := ⟨termsB_no hlt (by rw [HT.out]; simp [c4])⟩
          clear HT c4
          go_wp2_with fail
          go_quiet (fail)
          go_wp2_with fail
          go_ret
          exact ⟨by rw [HF.out]; rfl, (by repeat (first | (with_reducible first | exact HB.out | apply below_alloc | apply pw_below_drewN | apply below_drew1) | exact HB.out))⟩
        have b4 : (y == 0) = false := beq_eq_false_iff_ne.2 c4
        cases hwi : withinB y most with
        | false =>
          have HF : Aside0 (termsB l cols most = false) := ⟨termsB_no hlt (by rw [HT.out, hwi]; simp)⟩
          have HW := Aside0.mk (simplex_within_any y most h0 h1)
          rw [hwi] at HW
          clear HT c4 hwi
          go_wp2_with fail
          go_quiet ((go_at_call 147; exact Calls.quiet_of (drawn_quiet (HW.out _))))
          go_wp2_with fail
          go_ret
          exact ⟨by rw [HF.out]; rfl, (by repeat (first | (with_reducible first | exact HB.out | apply below_alloc | apply pw_below_drewN | apply below_drew1) | exact HB.out))⟩
        | true =>
          have HW := Aside0.mk (simplex_within_any y most h0 h1)
          rw [hwi] at HW
          replace HT : Aside0 (termAt l cols most k = true) := ⟨by rw [HT.out, hwi]; have := E0.out; simp [c4, show 0 ≤ x by omega, show x < cols by omega]; omega⟩
          clear c4 hwi
          go_wp2_with fail
          go_quiet ((go_at_call 147; exact Calls.quiet_of (drawn_quiet (HW.out _))))
          go_wp2_with fail
          go_roundw
          case rel => exact ⟨k + 1, by omega, by go_num, ⟨fun j hj => by rcases Nat.lt_or_eq_of_le (Nat.le_of_lt_succ hj) with h | rfl; exact HQ.out j h; exact HT.out⟩, ⟨(by repeat (first | (with_reducible first | exact HB.out | apply below_alloc | apply pw_below_drewN | apply below_drew1) | exact HB.out))⟩⟩
          case measure => simp [intOf]; omega
      · have z0 : decide (0 < k) = true := decide_eq_true (by omega)
        obtain ⟨jj, hjj⟩ : ∃ j : Int, j = (k : Int) - 1 := ⟨_, rfl⟩
        have z1 : jj < (l.length : Int) := by omega
        have z2 : 0 ≤ jj := by omega
        obtain ⟨ad', e', g3, g4⟩ := at_T109 HR.out jj z2 z1
        have hx : rd_T109 l jj = l.getD (k - 1) z109 := by rw [hjj]; simp [rd_T109]
        rw [hx] at g3 g4
        clear hx
        cases e'
        replace g3 := (HB.out.cell (World.block_lt_of_cell? w _ g3)).trans g3
        clear g4
        replace g3 : ∀ o, (wr.alloc o).cell? (ad.add (jj.toNat * 2)) = some (.int .i64 (l.getD (k - 1) z109).f0) := fun o => (Below.cell (Below.refl wr.heap.size wr |>.alloc (Nat.le_refl _) o) (World.block_lt_of_cell? wr _ g3)).trans g3
        generalize (l.getD (k - 1) z109).f0 = u at *
        have HZ : Aside0 (IntKind.i64.wrap ((k : Int) - 1) = jj) := ⟨by rw [hjj]; exact IntWalk.i64_in _ (by omega)⟩
        clear hjj
        by_cases c3 : u ≥ x
        · have b3 : decide (x ≤ u) = true := decide_eq_true c3
          have HF : Aside0 (termsB l cols most = false) := ⟨termsB_no hlt (by rw [HT.out]; simp [show ¬ k = 0 by omega, show ¬ u < x by omega])⟩
          clear HT
          have z3 : IntKind.i64.wrap ((k : Int) - 1) = jj := HZ.out
          go_wp2_with fail
          go_quiet (fail)
          clear z3
          go_wp2_with fail
          go_ret
          exact ⟨by rw [HF.out]; rfl, (by repeat (first | (with_reducible first | exact HB.out | apply below_alloc | apply pw_below_drewN | apply below_drew1) | exact HB.out))⟩
        have b3 : decide (x ≤ u) = false := decide_eq_false c3
        by_cases c4 : y = 0
        · have b4 : (y == 0) = true := beq_iff_eq.2 c4
          have HF : Aside0 (termsB l cols most = false) := ⟨termsB_no hlt (by rw [HT.out]; simp [c4])⟩
          clear HT c4
          have z3 : IntKind.i64.wrap ((k : Int) - 1) = jj := HZ.out
          go_wp2_with fail
          go_quiet (fail)
          clear z3
          go_wp2_with fail
          go_ret
          exact ⟨by rw [HF.out]; rfl, (by repeat (first | (with_reducible first | exact HB.out | apply below_alloc | apply pw_below_drewN | apply below_drew1) | exact HB.out))⟩
        have b4 : (y == 0) = false := beq_eq_false_iff_ne.2 c4
        cases hwi : withinB y most with
        | false =>
          have HF : Aside0 (termsB l cols most = false) := ⟨termsB_no hlt (by rw [HT.out, hwi]; simp)⟩
          have HW := Aside0.mk (simplex_within_any y most h0 h1)
          rw [hwi] at HW
          clear HT c4 hwi
          have z3 : IntKind.i64.wrap ((k : Int) - 1) = jj := HZ.out
          go_wp2_with fail
          go_quiet ((go_at_call 147; exact Calls.quiet_of (drawn_quiet (HW.out _))))
          clear z3
          go_wp2_with fail
          go_ret
          exact ⟨by rw [HF.out]; rfl, (by repeat (first | (with_reducible first | exact HB.out | apply below_alloc | apply pw_below_drewN | apply below_drew1) | exact HB.out))⟩
        | true =>
          have HW := Aside0.mk (simplex_within_any y most h0 h1)
          rw [hwi] at HW
          replace HT : Aside0 (termAt l cols most k = true) := ⟨by rw [HT.out, hwi]; simp [c4, show 0 ≤ x by omega, show x < cols by omega]; omega⟩
          clear c4 hwi
          have z3 : IntKind.i64.wrap ((k : Int) - 1) = jj := HZ.out
          go_wp2_with fail
          go_quiet ((go_at_call 147; exact Calls.quiet_of (drawn_quiet (HW.out _))))
          clear z3
          go_wp2_with fail
          go_roundw
          case rel => exact ⟨k + 1, by omega, by go_num, ⟨fun j hj => by rcases Nat.lt_or_eq_of_le (Nat.le_of_lt_succ hj) with h | rfl; exact HQ.out j h; exact HT.out⟩, ⟨(by repeat (first | (with_reducible first | exact HB.out | apply below_alloc | apply pw_below_drewN | apply below_drew1) | exact HB.out))⟩⟩
          case measure => simp [intOf]; omega
    · have HT : Aside0 (termsB l cols most = true) := ⟨termsB_yes (fun j hj => HQ.out j (by omega))⟩
      go_wp2_with fail
      go_ret
      exact ⟨by rw [HT.out]; rfl, HB.out⟩
def simplex_Terms.f (l : List S109) (cols most : Int) : Option Bool := if 0 ≤ most ∧ most ≤ 1099511627776 then some (termsB l cols most) else none
theorem simplex_Terms.calls (A0 : Option Addr) (c0 : Nat) (l0 : List S109) (a1 a2 : Int) (r : Bool) (w : World) (hr0 : Kd.C k109 w A0 l0.length l0) (hc0 : l0.length ≤ c0) (h : simplex_Terms.f l0 a1 a2 = some r) :
    Calls Try.prog 139 #[.slice A0 l0.length c0, .int .i64 a1, .int .i64 a2] w fun e w' => e = .returned (.bool r) ∧ Below w.heap.size w w' := by
  unfold simplex_Terms.f at h
  split at h
  · rename_i hh
    obtain rfl := Option.some.inj h
    exact simplex_Terms_any A0 c0 l0 a1 a2 w hr0 hc0 hh.1 hh.2
  · cases h

/-! ### api_Row_116: function 116 -/
/-- A call of a function with a body enters it. -/
theorem enters_it {P : Program} {f : FuncId} {fn : Func} {c : Code} (hf : P.funcs[f]? = some fn) (hname : (fn.name == "runtime.NumGoroutine") = false) (hb : fn.body = some c) :
    ∀ (args : Array Value) (w : World), (callFunc f args).run P w = .ok (.enter f args) w := fun args w => by
  have h1 : fn.name ≠ "runtime.NumGoroutine" := by simpa using hname
  simp [callFunc, hf, h1, hb, mark]
/-- The first place at which a test holds, or -1. -/
def idxB {α : Type} (p : α → Bool) (l : List α) : Int := if l.any p then (l.findIdx p : Int) else -1
theorem idxB_hit {α : Type} (p : α → Bool) (l : List α) (k : Nat) (hk : k < l.length) (h : ∀ x ∈ l.take k, p x = false) (hp : p l[k] = true) : idxB p l = k := by
  have ha : l.any p = true := List.any_eq_true.2 ⟨l[k], List.getElem_mem _, hp⟩
  have hf : l.findIdx p = k := by
    rw [List.findIdx_eq hk]
    refine ⟨hp, fun j hj => ?_⟩
    apply h
    rw [List.mem_take_iff_getElem]
    exact ⟨j, by omega, rfl⟩
  rw [idxB, if_pos ha, hf]
theorem idxB_none {α : Type} (p : α → Bool) (l : List α) (h : ∀ x ∈ l, p x = false) : idxB p l = -1 := by
  have ha : l.any p = false := by rw [List.any_eq_false]; intro x hx; simp [h x hx]
  rw [idxB, ha]; rfl
theorem idxB_nonneg {α : Type} (p : α → Bool) (l : List α) : decide (0 ≤ idxB p l) = l.any p := by
  unfold idxB
  cases l.any p <;> simp
theorem take_hit {α : Type} (p : α → Bool) (l : List α) (k : Nat) (hk : k < l.length) (h : ∀ x ∈ l.take k, p x = false) (hp : p l[k] = false) : ∀ x ∈ l.take (k + 1), p x = false := by
  intro x hx
  rw [List.take_succ_eq_append_getElem hk, List.mem_append] at hx
  rcases hx with hx | hx
  · exact h x hx
  · rw [List.mem_singleton] at hx; rw [hx]; exact hp

set_option maxHeartbeats 1000000 in
set_option maxRecDepth 100000 in
theorem api_Row_116.any (A : Option Addr) (c : Nat) (l : List S96) (g : Nat) (lb : Array Value) (p : S96 → Bool) (w : World) (hr : Kd.C k96 w A l.length l) (hl : l.length ≤ c)
    (eg : ∀ args w, (callFunc g args).run Try.prog w = .ok (.enter g args) w)
    (hp : ∀ (W : World) (x : S96) (A0_ : Option Addr) (c0_ : Nat), Below w.heap.size w W → x ∈ l → Kd.C k109 W A0_ x.f0.length x.f0 → x.f0.length ≤ c0_ → Calls Try.prog g (#[.agg #[.slice A0_ x.f0.length c0_, .int .i64 x.f1]] ++ lb) W fun e W' => e = .returned (.bool (p x)) ∧ Below W.heap.size W W') :
    Calls Try.prog 116 #[.slice A l.length c, .func (.func g) #[] lb] w fun e w' => e = .returned (.int .i64 (idxB p l)) ∧ Below w.heap.size w w' := by
  have HR := Aside0.mk hr
  have HP := Aside0.mk hp
  have HN := Aside0.mk hr.2.1
  clear hr hp
  have hu96 := Try.underlying96
  go_enter Try.func116, Try.ntmps116
  go_wp2_with fail
  go_loopw [8] (fun i wr => ∃ k : Nat, k ≤ l.length ∧ i = .int .i64 k ∧ Aside0 (∀ x ∈ l.take k, p x = false) ∧ Aside0 (Below w.heap.size w wr)) (fun i _ => l.length - (intOf i).toNat)
  case atStart => exact ⟨0, Nat.zero_le _, rfl, ⟨by simp⟩, ⟨Below.refl _ _⟩⟩
  case round =>
    obtain ⟨k, hk, rfl, HQ, HB⟩ := hrel
    by_cases hlt : k < l.length
    · have hnn := HN.out
      obtain ⟨ad, A0_, c0_, e, h0, h1, m0, g0⟩ := at_T96 HR.out (k : Int) (by omega) (by omega)
      have hx : rd_T96 l (k : Int) = l[k] := by simp [rd_T96, List.getD_eq_getElem?_getD, hlt]
      rw [hx] at h0 h1 m0 g0
      have G0 := Aside0.mk g0
      have M0 := Aside0.mk m0
      clear g0 m0
      clear hx
      cases e
      simp only [Int.toNat_natCast] at h0 h1
      replace h0 := (HB.out.cell (World.block_lt_of_cell? w _ h0)).trans h0
      replace h1 := (HB.out.cell (World.block_lt_of_cell? w _ h1)).trans h1
      have HL := Aside0.mk (List.getElem_mem hlt)
      have HIT : Aside0 (p l[k] = true → idxB p l = k) := ⟨idxB_hit p l k hlt HQ.out⟩
      have MISS : Aside0 (p l[k] = false → ∀ x ∈ l.take (k + 1), p x = false) := ⟨take_hit p l k hlt HQ.out⟩
      generalize l[k] = x at *
      cases hpk : p x with
      | true =>
        have HPK := Aside0.mk hpk
        clear hpk
        go_wp2_with fail
        refine (HP.out wr x A0_ c0_ HB.out HL.out (Kd.C_below G0.out HB.out) M0.out).mono ?_
        rintro e w1 ⟨rfl, hb1⟩
        rw [HPK.out]
        have HB1 := Aside0.mk hb1
        clear hb1
        go_wp2_with fail
        go_ret
        exact ⟨by rw [HIT.out HPK.out]; rfl, HB.out.trans (HB1.out.mono HB.out.size)⟩
      | false =>
        have HPK := Aside0.mk hpk
        clear hpk
        go_wp2_with fail
        refine (HP.out wr x A0_ c0_ HB.out HL.out (Kd.C_below G0.out HB.out) M0.out).mono ?_
        rintro e w1 ⟨rfl, hb1⟩
        rw [HPK.out]
        have HB1 := Aside0.mk hb1
        clear hb1
        go_wp2_with fail
        go_roundw
        case rel => exact ⟨k + 1, by omega, by go_num, ⟨MISS.out HPK.out⟩, ⟨HB.out.trans (HB1.out.mono HB.out.size)⟩⟩
        case measure => simp [intOf]; omega
    · go_wp2_with fail
      go_ret
      exact ⟨by rw [idxB_none p l (by have := HQ.out; rwa [List.take_of_length_le (by omega)] at this)]; rfl, HB.out⟩

/-! ### api_Row_148: function 148 -/
set_option maxHeartbeats 1000000 in
set_option maxRecDepth 100000 in
theorem api_Row_148.any (A : Option Addr) (c : Nat) (l : List S96) (g : Nat) (lb : Array Value) (p : S96 → Bool) (w : World) (hr : Kd.C k96 w A l.length l) (hl : l.length ≤ c)
    (eg : ∀ args w, (callFunc g args).run Try.prog w = .ok (.enter g args) w)
    (hp : ∀ (W : World) (x : S96) (A0_ : Option Addr) (c0_ : Nat), Below w.heap.size w W → x ∈ l → Kd.C k109 W A0_ x.f0.length x.f0 → x.f0.length ≤ c0_ → Calls Try.prog g (#[.agg #[.slice A0_ x.f0.length c0_, .int .i64 x.f1]] ++ lb) W fun e W' => e = .returned (.bool (p x)) ∧ Below W.heap.size W W') :
    Calls Try.prog 148 #[.slice A l.length c, .func (.func g) #[] lb] w fun e w' => e = .returned (.bool (l.any p)) ∧ Below w.heap.size w w' := by
  have HC := Aside0.mk (api_Row_116.any A c l g lb p w hr hl eg hp)
  clear hr hp
  go_enter Try.func148, Try.ntmps148
  go_wp2_with fail
  refine HC.out.mono ?_
  rintro e w1 ⟨rfl, hb⟩
  have HB := Aside0.mk hb
  clear hb
  go_wp2
  go_ret
  exact ⟨by rw [← idxB_nonneg p l]; rfl, HB.out⟩

-- NOT PRINTED: function 149 (simplex_limited_1)

/-! ### simplex_limited: function 113 -/
theorem alloc_below (w : World) (o : Obj) : Below w.heap.size w (w.alloc o) := (Below.refl _ _).alloc (Nat.le_refl _) o
theorem cell_on {w w' : World} {p : Addr} {v : Value} (hb : Below w.heap.size w w') (h : w.cell? p = some v) : w'.cell? p = some v := (hb.cell (World.block_lt_of_cell? w _ h)).trans h
/-- Is a row refused? -/
def rowBad (cols entry most : Int) (r : S96) : Bool := !termsB r.f0 cols entry || !withinB r.f1 most
def limitedB (n : Int) (rows : List S96) (goal : List S109) (const cols rowsMost entry goalMost constant most : Int) : Bool :=
  decide (0 ≤ n) && decide (n ≤ cols) && decide ((rows.length : Int) ≤ rowsMost) && termsB goal n goalMost && withinB const constant && !(rows.any (rowBad n entry most))
set_option maxHeartbeats 1000000 in
set_option maxRecDepth 100000 in
theorem limited_closure (x : S96) (A : Option Addr) (c : Nat) (b1 b2 b3 : Nat) (cols entry most : Int) (W : World) (hr : Kd.C k109 W A x.f0.length x.f0) (hl : x.f0.length ≤ c)
    (h1 : W.cell? ⟨b1, 0, none⟩ = some (.int .i64 cols)) (h2 : W.cell? ⟨b2, 0, none⟩ = some (.int .i64 entry)) (h3 : W.cell? ⟨b3, 0, none⟩ = some (.int .i64 most))
    (e0 : 0 ≤ entry) (e1 : entry ≤ 1099511627776) (m0 : 0 ≤ most) (m1 : most ≤ 1099511627776) :
    Calls Try.prog 149 #[.agg #[.slice A x.f0.length c, .int .i64 x.f1], .pointer (some ⟨b1, 0, none⟩), .pointer (some ⟨b2, 0, none⟩), .pointer (some ⟨b3, 0, none⟩)] W fun e W' => e = .returned (.bool (rowBad cols entry most x)) ∧ Below W.heap.size W W' := by
  have g1 : ∀ o, (W.alloc o).cell? ⟨b1, 0, none⟩ = some (.int .i64 cols) := fun o => cell_on (alloc_below W o) h1
  have g2 : ∀ o, (W.alloc o).cell? ⟨b2, 0, none⟩ = some (.int .i64 entry) := fun o => cell_on (alloc_below W o) h2
  have HC := Aside0.mk (fun o => simplex_Terms_any A c x.f0 cols entry (W.alloc o) (Kd.C_below hr (alloc_below W o)) hl e0 e1)
  have H3 := Aside0.mk h3
  have HE : Aside0 (rowBad cols entry most x = (!termsB x.f0 cols entry || !withinB x.f1 most)) := ⟨rfl⟩
  have hu96 := Try.underlying96
  clear h1 h2 h3 hr
  cases ht : termsB x.f0 cols entry with
  | false =>
    rw [ht] at HC HE
    clear ht
    go_enter Try.func149, Try.ntmps149
    go_wp2_with fail
    refine (HC.out _).mono ?_
    rintro e w1 ⟨rfl, hb⟩
    have HB := Aside0.mk hb
    clear hb
    go_wp2
    go_ret
    exact ⟨by rw [HE.out]; rfl, (alloc_below W _).trans (HB.out.mono (by simp))⟩
  | true =>
    have HW := Aside0.mk (simplex_within_any x.f1 most m0 m1)
    rw [ht] at HC HE
    clear ht
    cases hw : withinB x.f1 most with
    | false =>
      rw [hw] at HW HE
      clear hw
      go_enter Try.func149, Try.ntmps149
      go_wp2_with fail
      refine (HC.out _).mono ?_
      rintro e w1 ⟨rfl, hb⟩
      have k1 : w1.cell? ⟨W.heap.size, 1, none⟩ = some (.int .i64 x.f1) := (hb.cell (by simp)).trans (by simp [World.cell?_alloc_at])
      have k3 : w1.cell? ⟨b3, 0, none⟩ = some (.int .i64 most) := cell_on hb (cell_on (alloc_below W _) H3.out)
      have HB := Aside0.mk hb
      clear hb
      go_wp2_with fail
      refine (HW.out _).mono ?_
      rintro e w2 ⟨rfl, ⟨n, rfl⟩⟩
      go_wp2
      go_ret
      exact ⟨by rw [HE.out]; rfl, pw_below_drewN ((alloc_below W _).trans (HB.out.mono (by simp))) _⟩
    | true =>
      rw [hw] at HW HE
      clear hw
      go_enter Try.func149, Try.ntmps149
      go_wp2_with fail
      refine (HC.out _).mono ?_
      rintro e w1 ⟨rfl, hb⟩
      have k1 : w1.cell? ⟨W.heap.size, 1, none⟩ = some (.int .i64 x.f1) := (hb.cell (by simp)).trans (by simp [World.cell?_alloc_at])
      have k3 : w1.cell? ⟨b3, 0, none⟩ = some (.int .i64 most) := cell_on hb (cell_on (alloc_below W _) H3.out)
      have HB := Aside0.mk hb
      clear hb
      go_wp2_with fail
      refine (HW.out _).mono ?_
      rintro e w2 ⟨rfl, ⟨n, rfl⟩⟩
      go_wp2
      go_ret
      exact ⟨by rw [HE.out]; rfl, pw_below_drewN ((alloc_below W _).trans (HB.out.mono (by simp))) _⟩
theorem below3 (w : World) (a b c : Obj) : Below w.heap.size w (((w.alloc a).alloc b).alloc c) := ((alloc_below w a).alloc (alloc_below w a).size b).alloc ((alloc_below w a).alloc (alloc_below w a).size b).size c
theorem cell3_0 (w : World) (xs : Array Value) (t : TypeId) (b c : Obj) (j : Nat) (v : Value) (h : xs[j]? = some v) : (((w.alloc (.cells xs t)).alloc b).alloc c).cell? ⟨w.heap.size, j, none⟩ = some v := by
  rw [World.cell?_alloc_past _ _ _ (by simp; omega), World.cell?_alloc_past _ _ _ (by simp), World.cell?_alloc_at _ _ _ _ rfl]; exact h
theorem cell3_1 (w : World) (xs : Array Value) (t : TypeId) (a c : Obj) (j : Nat) (v : Value) (h : xs[j]? = some v) : (((w.alloc a).alloc (.cells xs t)).alloc c).cell? ⟨w.heap.size + 1, j, none⟩ = some v := by
  rw [World.cell?_alloc_past _ _ _ (by simp), World.cell?_alloc_at _ _ _ _ (by simp)]; exact h
theorem cell3_2 (w : World) (xs : Array Value) (t : TypeId) (a b : Obj) (j : Nat) (v : Value) (h : xs[j]? = some v) : (((w.alloc a).alloc b).alloc (.cells xs t)).cell? ⟨w.heap.size + 1 + 1, j, none⟩ = some v := by
  rw [World.cell?_alloc_at _ _ _ _ (by simp)]; exact h
set_option maxHeartbeats 4000000 in
set_option maxRecDepth 100000 in
theorem simplex_limited_any (n : Int) (A1 : Option Addr) (c1 : Nat) (rows : List S96) (A2 : Option Addr) (c2 : Nat) (goal : List S109) (const cols rowsMost entry goalMost constant most : Int) (w : World)
    (hr1 : Kd.C k96 w A1 rows.length rows) (hl1 : rows.length ≤ c1) (hr2 : Kd.C k109 w A2 goal.length goal) (hl2 : goal.length ≤ c2)
    (e0 : 0 ≤ entry) (e1 : entry ≤ 1099511627776) (g0 : 0 ≤ goalMost) (g1 : goalMost ≤ 1099511627776) (k0 : 0 ≤ constant) (k1 : constant ≤ 1099511627776) (m0 : 0 ≤ most) (m1 : most ≤ 1099511627776) :
    Calls Try.prog 113 #[.agg #[.int .i64 n, .slice A1 rows.length c1, .slice A2 goal.length c2, .int .i64 const], .int .i64 cols, .int .i64 rowsMost, .int .i64 entry, .int .i64 goalMost, .int .i64 constant, .int .i64 most] w
      fun e w' => e = .returned (.bool (limitedB n rows goal const cols rowsMost entry goalMost constant most)) ∧ Below w.heap.size w w' := by
  have hmf : ∀ (fn : Fn) (first cap : Array Value) (w : World), (Instr.makeFunc fn first cap).run Try.prog w = .ok (.func fn first cap) w := fun _ _ _ _ => rfl
  have HE : Aside0 (limitedB n rows goal const cols rowsMost entry goalMost constant most = (decide (0 ≤ n) && decide (n ≤ cols) && decide ((rows.length : Int) ≤ rowsMost) && termsB goal n goalMost && withinB const constant && !(rows.any (rowBad n entry most)))) := ⟨rfl⟩
  have HT := Aside0.mk (fun (W : World) (hb : Below w.heap.size w W) => simplex_Terms_any A2 c2 goal n goalMost W (Kd.C_below hr2 hb) hl2 g0 g1)
  have HW := Aside0.mk (simplex_within_any const constant k0 k1)
  have HC := Aside0.mk (fun (W : World) (b1 b2 b3 : Nat) (hb : Below w.heap.size w W) (z1 : W.cell? ⟨b1, 0, none⟩ = some (.int .i64 n)) (z2 : W.cell? ⟨b2, 0, none⟩ = some (.int .i64 entry)) (z3 : W.cell? ⟨b3, 0, none⟩ = some (.int .i64 most)) =>
    api_Row_148.any A1 c1 rows 149 #[.pointer (some ⟨b1, 0, none⟩), .pointer (some ⟨b2, 0, none⟩), .pointer (some ⟨b3, 0, none⟩)] (rowBad n entry most) W (Kd.C_below hr1 hb) hl1 (enters_it Try.func149 (by kernel_rfl) rfl)
      (fun V x A' c' hv hx hr hc => limited_closure x A' c' b1 b2 b3 n entry most V hr hc (cell_on hv z1) (cell_on hv z2) (cell_on hv z3) e0 e1 m0 m1))
  clear hr1 hr2
  by_cases c1' : 0 ≤ n
  · have d1 : decide (0 ≤ n) = true := decide_eq_true c1'
    rw [d1] at HE
    by_cases c2' : n ≤ cols
    · have d2 : decide (n ≤ cols) = true := decide_eq_true c2'
      rw [d2] at HE
      by_cases c3' : (rows.length : Int) ≤ rowsMost
      · have d3 : decide ((rows.length : Int) ≤ rowsMost) = true := decide_eq_true c3'
        rw [d3] at HE
        clear c1' c2' c3'
        cases ht : termsB goal n goalMost with
        | false =>
          rw [ht] at HT HE
          clear ht
          go_enter Try.func113, Try.ntmps113
          go_wp2_with fail
          refine (HT.out _ (below3 _ _ _ _)).mono ?_
          rintro e w1 ⟨rfl, hb⟩
          have HB := Aside0.mk hb
          clear hb
          go_wp2
          go_ret
          exact ⟨by rw [HE.out]; rfl, (below3 _ _ _ _).trans (HB.out.mono (below3 _ _ _ _).size)⟩
        | true =>
          rw [ht] at HT HE
          clear ht
          cases hw : withinB const constant with
          | false =>
            rw [hw] at HW HE
            clear hw
            go_enter Try.func113, Try.ntmps113
            go_wp2_with fail
            refine (HT.out _ (below3 _ _ _ _)).mono ?_
            rintro e w1 ⟨rfl, hb⟩
            have q3 : w1.cell? ⟨w.heap.size, 3, none⟩ = some (.int .i64 const) := cell_on hb (cell3_0 w _ _ _ _ 3 _ rfl)
            have HB := Aside0.mk hb
            clear hb
            go_wp2_with fail
            refine (HW.out _).mono ?_
            rintro e w2 ⟨rfl, ⟨nq, rfl⟩⟩
            go_wp2
            go_ret
            exact ⟨by rw [HE.out]; rfl, pw_below_drewN ((below3 _ _ _ _).trans (HB.out.mono (below3 _ _ _ _).size)) _⟩
          | true =>
            rw [hw] at HW HE
            clear hw
            go_enter Try.func113, Try.ntmps113
            go_wp2_with fail
            refine (HT.out _ (below3 _ _ _ _)).mono ?_
            rintro e w1 ⟨rfl, hb⟩
            have q0 : w1.cell? ⟨w.heap.size, 0, none⟩ = some (.int .i64 n) := cell_on hb (cell3_0 w _ _ _ _ 0 _ rfl)
            have q1 : w1.cell? ⟨w.heap.size, 1, none⟩ = some (.slice A1 rows.length c1) := cell_on hb (cell3_0 w _ _ _ _ 1 _ rfl)
            have q3 : w1.cell? ⟨w.heap.size, 3, none⟩ = some (.int .i64 const) := cell_on hb (cell3_0 w _ _ _ _ 3 _ rfl)
            have q4 : w1.cell? ⟨w.heap.size + 1, 0, none⟩ = some (.int .i64 entry) := cell_on hb (cell3_1 w _ _ _ _ 0 _ rfl)
            have q5 : w1.cell? ⟨w.heap.size + 1 + 1, 0, none⟩ = some (.int .i64 most) := cell_on hb (cell3_2 w _ _ _ _ 0 _ rfl)
            have HB := Aside0.mk ((below3 w _ _ _).trans (hb.mono (below3 _ _ _ _).size))
            clear hb
            go_wp2_with fail
            refine (HW.out _).mono ?_
            rintro e w2 ⟨rfl, ⟨nq, rfl⟩⟩
            go_wp2_with fail
            refine (HC.out _ _ _ _ (pw_below_drewN HB.out _) q0 q4 q5).mono ?_
            rintro e w2 ⟨rfl, hb2⟩
            have HB2 := Aside0.mk hb2
            clear hb2
            go_wp2
            go_ret
            exact ⟨by rw [HE.out]; rfl, (pw_below_drewN HB.out _).trans (HB2.out.mono (pw_below_drewN HB.out _).size)⟩
      · have d3 : decide ((rows.length : Int) ≤ rowsMost) = false := decide_eq_false c3'
        rw [d3] at HE
        clear c1' c2' c3'
        go_enter Try.func113, Try.ntmps113
        go_wp2
        go_ret
        exact ⟨by rw [HE.out]; rfl, below3 _ _ _ _⟩
    · have d2 : decide (n ≤ cols) = false := decide_eq_false c2'
      rw [d2] at HE
      clear c1' c2'
      go_enter Try.func113, Try.ntmps113
      go_wp2
      go_ret
      exact ⟨by rw [HE.out]; rfl, below3 _ _ _ _⟩
  · have d1 : decide (0 ≤ n) = false := decide_eq_false c1'
    rw [d1] at HE
    clear c1'
    go_enter Try.func113, Try.ntmps113
    go_wp2
    go_ret
    exact ⟨by rw [HE.out]; rfl, below3 _ _ _ _⟩
def simplex_limited.f (n : Int) (rows : List S96) (goal : List S109) (const cols rowsMost entry goalMost constant most : Int) : Option Bool :=
  if (0 ≤ entry ∧ entry ≤ 1099511627776) ∧ (0 ≤ goalMost ∧ goalMost ≤ 1099511627776) ∧ (0 ≤ constant ∧ constant ≤ 1099511627776) ∧ (0 ≤ most ∧ most ≤ 1099511627776) then some (limitedB n rows goal const cols rowsMost entry goalMost constant most) else none
theorem simplex_limited.calls (a0_0 : Int) (A0_1 : Option Addr) (c0_1 : Nat) (l0_1 : List S96) (A0_2 : Option Addr) (c0_2 : Nat) (l0_2 : List S109) (a0_3 a1 a2 a3 a4 a5 a6 : Int) (r : Bool) (w : World) (hr0_1 : Kd.C k96 w A0_1 l0_1.length l0_1) (hc0_1 : l0_1.length ≤ c0_1) (hr0_2 : Kd.C k109 w A0_2 l0_2.length l0_2) (hc0_2 : l0_2.length ≤ c0_2)
    (h : simplex_limited.f a0_0 l0_1 l0_2 a0_3 a1 a2 a3 a4 a5 a6 = some r) :
    Calls Try.prog 113 #[.agg #[.int .i64 a0_0, .slice A0_1 l0_1.length c0_1, .slice A0_2 l0_2.length c0_2, .int .i64 a0_3], .int .i64 a1, .int .i64 a2, .int .i64 a3, .int .i64 a4, .int .i64 a5, .int .i64 a6] w fun e w' => e = .returned (.bool r) ∧ Below w.heap.size w w' := by
  unfold simplex_limited.f at h
  split at h
  · rename_i hh
    obtain ⟨h3, h4, h5, h6⟩ := hh
    obtain rfl := Option.some.inj h
    exact simplex_limited_any a0_0 A0_1 c0_1 l0_1 A0_2 c0_2 l0_2 a0_3 a1 a2 a3 a4 a5 a6 w hr0_1 hc0_1 hr0_2 hc0_2 h3.1 h3.2 h4.1 h4.2 h5.1 h5.2 h6.1 h6.2
  · cases h

/-! ### simplex_Valid: function 73 -/
def simplex_Valid.f (a0_0 : Int) (l0_1 : List (S96)) (l0_2 : List (S109)) (a0_3 : Int) : Option (Bool) := (simplex_limited.f a0_0 l0_1 l0_2 a0_3 300 400 1048576 16777216 16777216 1048576).bind fun t105 => (some t105)
set_option maxHeartbeats 8000000 in
set_option maxRecDepth 100000 in
theorem simplex_Valid.calls (a0_0 : Int) (A0_1 : Option Addr) (c0_1 : Nat) (l0_1 : List (S96)) (A0_2 : Option Addr) (c0_2 : Nat) (l0_2 : List (S109)) (a0_3 : Int) (r : Bool) (w : World) (hr0_1 : Kd.C k96 w A0_1 l0_1.length l0_1) (hc0_1 : l0_1.length ≤ c0_1) (hr0_2 : Kd.C k109 w A0_2 l0_2.length l0_2) (hc0_2 : l0_2.length ≤ c0_2) (h : simplex_Valid.f a0_0 l0_1 l0_2 a0_3 = some r) :
    Calls Try.prog 73 #[.agg #[.int .i64 a0_0, .slice A0_1 l0_1.length c0_1, .slice A0_2 l0_2.length c0_2, .int .i64 a0_3]] w fun e w' => e = .returned (.bool r) ∧ Below w.heap.size w w' := by
  have hu29 := Try.underlying29
  have HR0_1 := Aside0.mk hr0_1
  have HC0_1 := Aside0.mk hc0_1
  clear hr0_1 hc0_1
  have HR0_2 := Aside0.mk hr0_2
  have HC0_2 := Aside0.mk hc0_2
  clear hr0_2 hc0_2
  have HB := Aside0.mk (Below.refl w.heap.size w)
  have H : ((simplex_limited.f a0_0 l0_1 l0_2 a0_3 300 400 1048576 16777216 16777216 1048576).bind fun t105 => (some t105)) = some r := h
  clear h
  replace H := Option.bind_eq_some_iff.mp H
  obtain ⟨t105, A20, H⟩ := H
  replace H : (some t105) = some r := H
  have A2 := Aside0.mk A20
  clear A20
  obtain rfl := Option.some.inj H
  go_enter Try.func73, Try.ntmps73
  go_wp2_with (first | ((with_reducible refine gate_dst (N := 1) rfl ?_); refine box_event ?hg (N := 1) ?hd (cs := #[.int .i64 a0_0, .slice A0_1 l0_1.length c0_1, .slice A0_2 l0_2.length c0_2, .int .i64 a0_3]) (t := 29) ?hr ?_; (case hd => rfl); (case hg => rfl); (case hr => first | (go_simp; done) | (go_simp; rfl)); intro gb104 hg w3 hbox hb; have n0_ := Aside0.mk (below_step (by repeat (first | (with_reducible first | exact HB.out | apply below_alloc | apply pw_below_drewN | apply below_drew1) | exact HB.out)) hb); have n1_ := Aside0.mk (hbox); have n2_ := Aside0.mk ((by rw [hg]; exact (below_size (by repeat (first | (with_reducible first | exact HB.out | apply below_alloc | apply pw_below_drewN | apply below_drew1) | exact HB.out))) : w.heap.size ≤ gb104)); have n3_ := Aside0.mk ((by rw [hg]; exact (below_size (by repeat (first | (with_reducible first | exact HB.out | apply below_alloc | apply pw_below_drewN | apply below_drew1) | exact HB.out))) : w.heap.size ≤ gb104)); clear HB; have HB := n0_; have BK104 := n1_; have GW104 := n2_; have GE104 := n3_; clear n0_ n1_ n2_ n3_; clear hb hbox hg; have hcz4_0 : w3.cell? ⟨gb104, 0, none⟩ = some (.int .i64 a0_0) := (blk_cell BK104.out 0).trans rfl; have hcz4_1 : w3.cell? ⟨gb104, 1, none⟩ = some (.slice A0_1 l0_1.length c0_1) := (blk_cell BK104.out 1).trans rfl; have hcz4_2 : w3.cell? ⟨gb104, 2, none⟩ = some (.slice A0_2 l0_2.length c0_2) := (blk_cell BK104.out 2).trans rfl; have hcz4_3 : w3.cell? ⟨gb104, 3, none⟩ = some (.int .i64 a0_3) := (blk_cell BK104.out 3).trans rfl; have hfz4_0 := blk_frozen BK104.out 0; have hfz4_1 := blk_frozen BK104.out 1; have hfz4_2 := blk_frozen BK104.out 2; have hfz4_3 := blk_frozen BK104.out 3) | ((with_reducible refine gate_callee (f := 113) rfl ?_); refine goesL_ (some 4) rfl rfl Try.func113 (by kernel_rfl) rfl #[.agg #[.int .i64 a0_0, .slice A0_1 l0_1.length c0_1, .slice A0_2 l0_2.length c0_2, .int .i64 a0_3], .int .i64 300, .int .i64 400, .int .i64 1048576, .int .i64 16777216, .int .i64 16777216, .int .i64 1048576] rfl (by (try simp only [List.map_toArray, List.map_cons, List.map_nil]); first | done | rfl | (simp only [List.length_drop, List.length_take]; rfl)) ?_; (with_reducible refine (simplex_limited.calls a0_0 _ _ l0_1 _ _ l0_2 a0_3 300 400 1048576 16777216 16777216 1048576 t105 _ ?side1 ?side2 ?side3 ?side4 A2.out).mono ?_); (case side1 => repeat (first | exact (Kd.C_below HR0_1.out HB.out) | (with_reducible refine Kd.C_alloc ?_ _) | (with_reducible refine Kd.C_drewN ?_ _) | (with_reducible refine Kd.C_drew ?_))); (case side2 => exact HC0_1.out); (case side3 => repeat (first | exact (Kd.C_below HR0_2.out HB.out) | (with_reducible refine Kd.C_alloc ?_ _) | (with_reducible refine Kd.C_drewN ?_ _) | (with_reducible refine Kd.C_drew ?_))); (case side4 => exact HC0_2.out); rintro e w5 ⟨rfl, hb⟩; refine ⟨_, rfl, ?_⟩; have n0_ := Aside0.mk (blk_below (g := gb104) (o := .cells #[.int .i64 a0_0, .slice A0_1 l0_1.length c0_1, .slice A0_2 l0_2.length c0_2, .int .i64 a0_3] 29 (0, 0)) (by (with_reducible repeat (first | refine blk_drewN ?_ _ | refine blk_drew ?_ | refine blk_alloc ?_ _)); exact BK104.out) hb); have n1_ := Aside0.mk (below_step (by repeat (first | (with_reducible first | exact HB.out | apply below_alloc | apply pw_below_drewN | apply below_drew1 | refine below_set ?_ GE104.out) | exact HB.out)) hb); clear BK104; clear HB; have BK104 := n0_; have HB := n1_; clear n0_ n1_; (try clear hb); (try clear hb2); (try clear hk); (try clear hi)))
  go_ret
  exact ⟨by first | rfl | (simp [errW_none, errW_some] <;> rfl) | (simp [*, errW_none, errW_some] <;> rfl), by repeat (first | (with_reducible first | exact HB.out | apply below_alloc | apply pw_below_drewN | apply below_drew1 | refine below_set ?_ GE104.out) | exact HB.out)⟩

/-! ### certificate_kindOf: function 97 -/
theorem assert_same {P : Program} {t xT : TypeId} {v : Value} {w : World} {fs : Array Field} (hu : P.underlying t = some (.struct fs)) : (Instr.typeAssert (.iface t v) xT t true).run P w = .ok (.tuple #[v, .bool true]) w := by
  simp [Instr.typeAssert, run_underlying hu]
theorem assert_other {P : Program} {t s xT : TypeId} {v z : Value} {w : World} {fs : Array Field} (hne : t ≠ s) (hu : P.underlying s = some (.struct fs)) (hi : (P.info? s).map (·.zero) = some (some z)) : (Instr.typeAssert (.iface t v) xT s true).run P w = .ok (.tuple #[z, .bool false]) w := by
  obtain ⟨i, hi, hz⟩ := Option.map_eq_some_iff.1 hi
  simp [Instr.typeAssert, run_underlying hu, hne, typeInfo, hi, zeroValue, hz]
section
variable (a1 : Int) (A2 : Option Addr) (n2 c2 : Nat) (a3 : Int) (A4 : Option Addr) (n4 c4 : Nat) (a5 : Int) (w : World)
set_option maxHeartbeats 2000000 in
set_option maxRecDepth 100000 in
/-- A case as its kind: a leaf. -/
theorem kindOf_leaf : Calls Try.prog 97 #[.agg #[.int .i64 (-1), .int .i64 a1, .slice A2 n2 c2, .int .i64 a3, .slice A4 n4 c4, .int .i64 a5]] w fun e w' => e = .returned (.iface 148 (.agg #[.int .i64 (-1), .int .i64 a1, .slice A2 n2 c2, .int .i64 a3, .slice A4 n4 c4, .int .i64 a5])) ∧ Below w.heap.size w w' := by
  have hu90 := Try.underlying90
  have hu148 := Try.underlying148
  have HB := Aside0.mk (below_alloc (Below.refl w.heap.size w) (.cells #[.int .i64 (-1), .int .i64 a1, .slice A2 n2 c2, .int .i64 a3, .slice A4 n4 c4, .int .i64 a5] 90 (0, 0)))
  go_enter Try.func97, Try.ntmps97
  go_wp2_with fail
  go_ret
  exact ⟨rfl, HB.out⟩
set_option maxHeartbeats 2000000 in
set_option maxRecDepth 100000 in
/-- A case as its kind: one that splits. -/
theorem kindOf_split (a0 : Int) (h : ¬ a0 = -1) : Calls Try.prog 97 #[.agg #[.int .i64 a0, .int .i64 a1, .slice A2 n2 c2, .int .i64 a3, .slice A4 n4 c4, .int .i64 a5]] w fun e w' => e = .returned (.iface 149 (.agg #[.int .i64 a0, .int .i64 a1, .slice A2 n2 c2, .int .i64 a3, .slice A4 n4 c4, .int .i64 a5])) ∧ Below w.heap.size w w' := by
  have hu90 := Try.underlying90
  have hu149 := Try.underlying149
  have HB := Aside0.mk (below_alloc (Below.refl w.heap.size w) (.cells #[.int .i64 a0, .int .i64 a1, .slice A2 n2 c2, .int .i64 a3, .slice A4 n4 c4, .int .i64 a5] 90 (0, 0)))
  have d1 : (a0 == -1) = false := by simp [h]
  have d2 : decide (a0 = -1) = false := decide_eq_false h
  go_enter Try.func97, Try.ntmps97
  go_wp2_with fail
  go_ret
  exact ⟨rfl, HB.out⟩
end

end Go.Proofs.Ytdgegoefehmfmaa.QCertW
