-- Written for this claim by this session's own program (wip/pp).
import Derived.Test.YtdgegoefehmfmaaQScratchMorex0
import Derived.Test.YtdgegoefehmfmaaQScratchMorex1
import Derived.Test.YtdgegoefehmfmaaQScratchMorex2
import Derived.Test.YtdgegoefehmfmaaQScratchMorex3
import Derived.Test.YtdgegoefehmfmaaQScratchMorex4
namespace Go.Proofs.Ytdgegoefehmfmaa.QScratchMore
open Go.RowKit Go.Proofs.YtdgegoefehmfmaaW.PrintWords Go.Proofs.YtdgegoefehmfmaaW.PrintLast Go.Proofs.YtdgegoefehmfmaaW.PrintMore
attribute [local go_sem] max2_int min2_int max_two min_two max_three min_three max_four min_four   -- for this text's walks alone
set_option linter.unusedVariables false
set_option linter.unusedSimpArgs false

/-! ### timeboundlaw36_ScratchMore: function 7 -/
mutual
def timeboundlaw36_ScratchMore.j0 : Nat → Int → List (S76) → Int → Int → Bool → Option (Bool)
  | 0, _, _, _, _, _ => none
  | k + 1, x3, x10, x11, x16, x85 => if x85 = true then (some false) else (timeboundlaw36_ScratchMore.l0 k x3 x10 x11 x16 ([] : List Int) (x10.length : Int) 0)
def timeboundlaw36_ScratchMore.l0 : Nat → Int → List (S76) → Int → Int → List Int → Int → Int → Option (Bool)
  | 0, _, _, _, _, _, _, _ => none
  | k + 1, x3, x10, x11, x16, x22, x87, x88 => if x88 < x87 then (if 0 ≤ (IntKind.u64.wrap (x88)) then (if (Go.bits .and .i64 (shr .i64 x3 (IntKind.u64.wrap (x88))) 1) = 1 then (if x22.length < 17592186044416 then (timeboundlaw36_ScratchMore.l0 k x3 x10 x11 x16 (x22 ++ [x88]) x87 (wrap64 (x88 + 1))) else (none)) else (timeboundlaw36_ScratchMore.l0 k x3 x10 x11 x16 x22 x87 (wrap64 (x88 + 1)))) else (none)) else ((scratch_Value.f k x10 x22).bind fun bt184 => (if bt184.2.1 > x11 then ((timeboundlaw36_awake.f k).bind fun t187 => (some t187)) else (if bt184.1 ≤ x16 then ((timeboundlaw36_awake.f k).bind fun t188 => (some t188)) else (some false))))
end
def timeboundlaw36_ScratchMore.f (k : Nat) (l0 : List Int) (a1 : Int) (a2 : Int) (a3 : Int) : Option (Bool) := (timeboundmake_New.f l0).bind fun bt158 => ((timeboundmake2_Items.f k bt158.1 bt158.2).bind fun bt161 => ((timeboundmake_Mod.f a1 60).bind fun t165 => ((scratch_Best.f k bt161.1 t165).bind fun bt166 => ((timeboundmake_Mod.f a2 30).bind fun t170 => ((scratch_Best.f k bt161.1 (wrap64 (t165 + t170))).bind fun bt171 => ((scratch_Value.f k bt161.1 bt166.1).bind fun bt175 => ((scratch_Value.f k bt161.1 bt171.1).bind fun bt178 => (if bt166.2 = 0 then (if bt171.2 = 0 then (if bt175.2.2 = true then (if bt178.2.2 = true then (if bt178.1 < bt175.1 then (timeboundlaw36_ScratchMore.j0 k a3 bt161.1 t165 bt175.1 true) else (timeboundlaw36_ScratchMore.j0 k a3 bt161.1 t165 bt175.1 (decide (bt175.2.1 > t165)))) else (timeboundlaw36_ScratchMore.j0 k a3 bt161.1 t165 bt175.1 true)) else (timeboundlaw36_ScratchMore.j0 k a3 bt161.1 t165 bt175.1 true)) else (timeboundlaw36_ScratchMore.j0 k a3 bt161.1 t165 bt175.1 true)) else (timeboundlaw36_ScratchMore.j0 k a3 bt161.1 t165 bt175.1 true)))))))))
theorem timeboundlaw36_ScratchMore.mono_l : ∀ k, (∀ y0 y1 y2 y3 y4, LeO (timeboundlaw36_ScratchMore.j0 k y0 y1 y2 y3 y4) (timeboundlaw36_ScratchMore.j0 (k + 1) y0 y1 y2 y3 y4)) ∧ (∀ y0 y1 y2 y3 y4 y5 y6, LeO (timeboundlaw36_ScratchMore.l0 k y0 y1 y2 y3 y4 y5 y6) (timeboundlaw36_ScratchMore.l0 (k + 1) y0 y1 y2 y3 y4 y5 y6))
  | 0 => ⟨fun _ _ _ _ _ r h => by simp [timeboundlaw36_ScratchMore.j0] at h, fun _ _ _ _ _ _ _ r h => by simp [timeboundlaw36_ScratchMore.l0] at h⟩
  | k + 1 => by
    obtain ⟨ih0, ih1⟩ := timeboundlaw36_ScratchMore.mono_l k
    refine ⟨?_, ?_⟩
    · intro y0 y1 y2 y3 y4
      unfold timeboundlaw36_ScratchMore.j0
      repeat' first
      | (with_reducible exact ih0 _ _ _ _ _)
      | (with_reducible exact ih1 _ _ _ _ _ _ _)
      | (with_reducible exact scratch_Best.mono _ _ _)
      | (with_reducible exact scratch_Value.mono _ _ _)
      | (with_reducible exact timeboundlaw36_awake.mono _)
      | (with_reducible exact timeboundmake2_Items.mono _ _ _)
      | (with_reducible exact LeO.refl _)
      | (with_reducible exact LeO.none _)
      | (with_reducible refine LeO.ite ?_ ?_)
      | (with_reducible refine LeO.bind ?_ (fun _ => ?_))
      | exact ih0 _ _ _ _ _
      | exact ih1 _ _ _ _ _ _ _
      | exact scratch_Best.mono _ _ _
      | exact scratch_Value.mono _ _ _
      | exact timeboundlaw36_awake.mono _
      | exact timeboundmake2_Items.mono _ _ _
      | exact LeO.none _
      | refine LeO.ite ?_ ?_
      | refine LeO.bind ?_ (fun _ => ?_)
    · intro y0 y1 y2 y3 y4 y5 y6
      unfold timeboundlaw36_ScratchMore.l0
      repeat' first
      | (with_reducible exact ih0 _ _ _ _ _)
      | (with_reducible exact ih1 _ _ _ _ _ _ _)
      | (with_reducible exact scratch_Best.mono _ _ _)
      | (with_reducible exact scratch_Value.mono _ _ _)
      | (with_reducible exact timeboundlaw36_awake.mono _)
      | (with_reducible exact timeboundmake2_Items.mono _ _ _)
      | (with_reducible exact LeO.refl _)
      | (with_reducible exact LeO.none _)
      | (with_reducible refine LeO.ite ?_ ?_)
      | (with_reducible refine LeO.bind ?_ (fun _ => ?_))
      | exact ih0 _ _ _ _ _
      | exact ih1 _ _ _ _ _ _ _
      | exact scratch_Best.mono _ _ _
      | exact scratch_Value.mono _ _ _
      | exact timeboundlaw36_awake.mono _
      | exact timeboundmake2_Items.mono _ _ _
      | exact LeO.none _
      | refine LeO.ite ?_ ?_
      | refine LeO.bind ?_ (fun _ => ?_)
theorem timeboundlaw36_ScratchMore.mono : ∀ a0 a1 a2 a3 k, LeO (timeboundlaw36_ScratchMore.f k a0 a1 a2 a3) (timeboundlaw36_ScratchMore.f (k + 1) a0 a1 a2 a3) := by
  intro a0 a1 a2 a3 k
  obtain ⟨ih0, ih1⟩ := timeboundlaw36_ScratchMore.mono_l k
  unfold timeboundlaw36_ScratchMore.f
  repeat' first
      | (with_reducible exact ih0 _ _ _ _ _)
      | (with_reducible exact ih1 _ _ _ _ _ _ _)
      | (with_reducible exact scratch_Best.mono _ _ _)
      | (with_reducible exact scratch_Value.mono _ _ _)
      | (with_reducible exact timeboundlaw36_awake.mono _)
      | (with_reducible exact timeboundmake2_Items.mono _ _ _)
      | (with_reducible exact LeO.refl _)
      | (with_reducible exact LeO.none _)
      | (with_reducible refine LeO.ite ?_ ?_)
      | (with_reducible refine LeO.bind ?_ (fun _ => ?_))
      | exact ih0 _ _ _ _ _
      | exact ih1 _ _ _ _ _ _ _
      | exact scratch_Best.mono _ _ _
      | exact scratch_Value.mono _ _ _
      | exact timeboundlaw36_awake.mono _
      | exact timeboundmake2_Items.mono _ _ _
      | exact LeO.none _
      | refine LeO.ite ?_ ?_
      | refine LeO.bind ?_ (fun _ => ?_)
set_option maxHeartbeats 8000000 in
set_option maxRecDepth 100000 in
theorem timeboundlaw36_ScratchMore.calls (k : Nat) (A0 : Option Addr) (c0 : Nat) (l0 : List Int) (a1 : Int) (a2 : Int) (a3 : Int) (r : Bool) (w : World) (hr0 : Kd.C (Kd.int .i64) w A0 l0.length l0) (hc0 : l0.length ≤ c0) (h : timeboundlaw36_ScratchMore.f k l0 a1 a2 a3 = some r) :
    Calls Try.prog 7 #[.slice A0 l0.length c0, .int .i64 a1, .int .i64 a2, .int .i64 a3] w fun e w' => e = .returned (.bool r) ∧ Below w.heap.size w w' := by
  have HR0 := Aside0.mk hr0
  have HC0 := Aside0.mk hc0
  clear hr0 hc0
  have HB := Aside0.mk (Below.refl w.heap.size w)
  have H : ((timeboundmake_New.f l0).bind fun bt158 => ((timeboundmake2_Items.f k bt158.1 bt158.2).bind fun bt161 => ((timeboundmake_Mod.f a1 60).bind fun t165 => ((scratch_Best.f k bt161.1 t165).bind fun bt166 => ((timeboundmake_Mod.f a2 30).bind fun t170 => ((scratch_Best.f k bt161.1 (wrap64 (t165 + t170))).bind fun bt171 => ((scratch_Value.f k bt161.1 bt166.1).bind fun bt175 => ((scratch_Value.f k bt161.1 bt171.1).bind fun bt178 => (if bt166.2 = 0 then (if bt171.2 = 0 then (if bt175.2.2 = true then (if bt178.2.2 = true then (if bt178.1 < bt175.1 then (timeboundlaw36_ScratchMore.j0 k a3 bt161.1 t165 bt175.1 true) else (timeboundlaw36_ScratchMore.j0 k a3 bt161.1 t165 bt175.1 (decide (bt175.2.1 > t165)))) else (timeboundlaw36_ScratchMore.j0 k a3 bt161.1 t165 bt175.1 true)) else (timeboundlaw36_ScratchMore.j0 k a3 bt161.1 t165 bt175.1 true)) else (timeboundlaw36_ScratchMore.j0 k a3 bt161.1 t165 bt175.1 true)) else (timeboundlaw36_ScratchMore.j0 k a3 bt161.1 t165 bt175.1 true)))))))))) = some r := h
  clear h
  replace H := Option.bind_eq_some_iff.mp H
  obtain ⟨⟨t158, t159⟩, A50, H⟩ := H
  replace H : ((timeboundmake2_Items.f k t158 t159).bind fun bt161 => ((timeboundmake_Mod.f a1 60).bind fun t165 => ((scratch_Best.f k bt161.1 t165).bind fun bt166 => ((timeboundmake_Mod.f a2 30).bind fun t170 => ((scratch_Best.f k bt161.1 (wrap64 (t165 + t170))).bind fun bt171 => ((scratch_Value.f k bt161.1 bt166.1).bind fun bt175 => ((scratch_Value.f k bt161.1 bt171.1).bind fun bt178 => (if bt166.2 = 0 then (if bt171.2 = 0 then (if bt175.2.2 = true then (if bt178.2.2 = true then (if bt178.1 < bt175.1 then (timeboundlaw36_ScratchMore.j0 k a3 bt161.1 t165 bt175.1 true) else (timeboundlaw36_ScratchMore.j0 k a3 bt161.1 t165 bt175.1 (decide (bt175.2.1 > t165)))) else (timeboundlaw36_ScratchMore.j0 k a3 bt161.1 t165 bt175.1 true)) else (timeboundlaw36_ScratchMore.j0 k a3 bt161.1 t165 bt175.1 true)) else (timeboundlaw36_ScratchMore.j0 k a3 bt161.1 t165 bt175.1 true)) else (timeboundlaw36_ScratchMore.j0 k a3 bt161.1 t165 bt175.1 true))))))))) = some r := H
  have A5 := Aside0.mk A50
  clear A50
  replace H := Option.bind_eq_some_iff.mp H
  obtain ⟨⟨t161, t164⟩, A60, H⟩ := H
  replace H : ((timeboundmake_Mod.f a1 60).bind fun t165 => ((scratch_Best.f k t161 t165).bind fun bt166 => ((timeboundmake_Mod.f a2 30).bind fun t170 => ((scratch_Best.f k t161 (wrap64 (t165 + t170))).bind fun bt171 => ((scratch_Value.f k t161 bt166.1).bind fun bt175 => ((scratch_Value.f k t161 bt171.1).bind fun bt178 => (if bt166.2 = 0 then (if bt171.2 = 0 then (if bt175.2.2 = true then (if bt178.2.2 = true then (if bt178.1 < bt175.1 then (timeboundlaw36_ScratchMore.j0 k a3 t161 t165 bt175.1 true) else (timeboundlaw36_ScratchMore.j0 k a3 t161 t165 bt175.1 (decide (bt175.2.1 > t165)))) else (timeboundlaw36_ScratchMore.j0 k a3 t161 t165 bt175.1 true)) else (timeboundlaw36_ScratchMore.j0 k a3 t161 t165 bt175.1 true)) else (timeboundlaw36_ScratchMore.j0 k a3 t161 t165 bt175.1 true)) else (timeboundlaw36_ScratchMore.j0 k a3 t161 t165 bt175.1 true)))))))) = some r := H
  have A6 := Aside0.mk A60
  clear A60
  replace H := Option.bind_eq_some_iff.mp H
  obtain ⟨t165, A70, H⟩ := H
  replace H : ((scratch_Best.f k t161 t165).bind fun bt166 => ((timeboundmake_Mod.f a2 30).bind fun t170 => ((scratch_Best.f k t161 (wrap64 (t165 + t170))).bind fun bt171 => ((scratch_Value.f k t161 bt166.1).bind fun bt175 => ((scratch_Value.f k t161 bt171.1).bind fun bt178 => (if bt166.2 = 0 then (if bt171.2 = 0 then (if bt175.2.2 = true then (if bt178.2.2 = true then (if bt178.1 < bt175.1 then (timeboundlaw36_ScratchMore.j0 k a3 t161 t165 bt175.1 true) else (timeboundlaw36_ScratchMore.j0 k a3 t161 t165 bt175.1 (decide (bt175.2.1 > t165)))) else (timeboundlaw36_ScratchMore.j0 k a3 t161 t165 bt175.1 true)) else (timeboundlaw36_ScratchMore.j0 k a3 t161 t165 bt175.1 true)) else (timeboundlaw36_ScratchMore.j0 k a3 t161 t165 bt175.1 true)) else (timeboundlaw36_ScratchMore.j0 k a3 t161 t165 bt175.1 true))))))) = some r := H
  have A7 := Aside0.mk A70
  clear A70
  replace H := Option.bind_eq_some_iff.mp H
  obtain ⟨⟨t166, t167⟩, A80, H⟩ := H
  replace H : ((timeboundmake_Mod.f a2 30).bind fun t170 => ((scratch_Best.f k t161 (wrap64 (t165 + t170))).bind fun bt171 => ((scratch_Value.f k t161 t166).bind fun bt175 => ((scratch_Value.f k t161 bt171.1).bind fun bt178 => (if t167 = 0 then (if bt171.2 = 0 then (if bt175.2.2 = true then (if bt178.2.2 = true then (if bt178.1 < bt175.1 then (timeboundlaw36_ScratchMore.j0 k a3 t161 t165 bt175.1 true) else (timeboundlaw36_ScratchMore.j0 k a3 t161 t165 bt175.1 (decide (bt175.2.1 > t165)))) else (timeboundlaw36_ScratchMore.j0 k a3 t161 t165 bt175.1 true)) else (timeboundlaw36_ScratchMore.j0 k a3 t161 t165 bt175.1 true)) else (timeboundlaw36_ScratchMore.j0 k a3 t161 t165 bt175.1 true)) else (timeboundlaw36_ScratchMore.j0 k a3 t161 t165 bt175.1 true)))))) = some r := H
  have A8 := Aside0.mk A80
  clear A80
  replace H := Option.bind_eq_some_iff.mp H
  obtain ⟨t170, A90, H⟩ := H
  replace H : ((scratch_Best.f k t161 (wrap64 (t165 + t170))).bind fun bt171 => ((scratch_Value.f k t161 t166).bind fun bt175 => ((scratch_Value.f k t161 bt171.1).bind fun bt178 => (if t167 = 0 then (if bt171.2 = 0 then (if bt175.2.2 = true then (if bt178.2.2 = true then (if bt178.1 < bt175.1 then (timeboundlaw36_ScratchMore.j0 k a3 t161 t165 bt175.1 true) else (timeboundlaw36_ScratchMore.j0 k a3 t161 t165 bt175.1 (decide (bt175.2.1 > t165)))) else (timeboundlaw36_ScratchMore.j0 k a3 t161 t165 bt175.1 true)) else (timeboundlaw36_ScratchMore.j0 k a3 t161 t165 bt175.1 true)) else (timeboundlaw36_ScratchMore.j0 k a3 t161 t165 bt175.1 true)) else (timeboundlaw36_ScratchMore.j0 k a3 t161 t165 bt175.1 true))))) = some r := H
  have A9 := Aside0.mk A90
  clear A90
  replace H := Option.bind_eq_some_iff.mp H
  obtain ⟨⟨t171, t172⟩, A100, H⟩ := H
  replace H : ((scratch_Value.f k t161 t166).bind fun bt175 => ((scratch_Value.f k t161 t171).bind fun bt178 => (if t167 = 0 then (if t172 = 0 then (if bt175.2.2 = true then (if bt178.2.2 = true then (if bt178.1 < bt175.1 then (timeboundlaw36_ScratchMore.j0 k a3 t161 t165 bt175.1 true) else (timeboundlaw36_ScratchMore.j0 k a3 t161 t165 bt175.1 (decide (bt175.2.1 > t165)))) else (timeboundlaw36_ScratchMore.j0 k a3 t161 t165 bt175.1 true)) else (timeboundlaw36_ScratchMore.j0 k a3 t161 t165 bt175.1 true)) else (timeboundlaw36_ScratchMore.j0 k a3 t161 t165 bt175.1 true)) else (timeboundlaw36_ScratchMore.j0 k a3 t161 t165 bt175.1 true)))) = some r := H
  have A10 := Aside0.mk A100
  clear A100
  replace H := Option.bind_eq_some_iff.mp H
  obtain ⟨⟨t175, t176, t177⟩, A110, H⟩ := H
  replace H : ((scratch_Value.f k t161 t171).bind fun bt178 => (if t167 = 0 then (if t172 = 0 then (if t177 = true then (if bt178.2.2 = true then (if bt178.1 < t175 then (timeboundlaw36_ScratchMore.j0 k a3 t161 t165 t175 true) else (timeboundlaw36_ScratchMore.j0 k a3 t161 t165 t175 (decide (t176 > t165)))) else (timeboundlaw36_ScratchMore.j0 k a3 t161 t165 t175 true)) else (timeboundlaw36_ScratchMore.j0 k a3 t161 t165 t175 true)) else (timeboundlaw36_ScratchMore.j0 k a3 t161 t165 t175 true)) else (timeboundlaw36_ScratchMore.j0 k a3 t161 t165 t175 true))) = some r := H
  have A11 := Aside0.mk A110
  clear A110
  replace H := Option.bind_eq_some_iff.mp H
  obtain ⟨⟨t178, t179, t180⟩, A120, H⟩ := H
  replace H : (if t167 = 0 then (if t172 = 0 then (if t177 = true then (if t180 = true then (if t178 < t175 then (timeboundlaw36_ScratchMore.j0 k a3 t161 t165 t175 true) else (timeboundlaw36_ScratchMore.j0 k a3 t161 t165 t175 (decide (t176 > t165)))) else (timeboundlaw36_ScratchMore.j0 k a3 t161 t165 t175 true)) else (timeboundlaw36_ScratchMore.j0 k a3 t161 t165 t175 true)) else (timeboundlaw36_ScratchMore.j0 k a3 t161 t165 t175 true)) else (timeboundlaw36_ScratchMore.j0 k a3 t161 t165 t175 true)) = some r := H
  have A12 := Aside0.mk A120
  clear A120
  have HC13 := Aside0.mk H
  clear H
  go_enter Try.func7, Try.ntmps7
  go_upto_region 8 with (first | ((with_reducible refine gate_callee (f := 16) rfl ?_); refine goesL_ (some 28) rfl rfl Try.func16 (by kernel_rfl) rfl #[.slice A0 l0.length c0] rfl (by (try simp only [List.map_toArray, List.map_cons, List.map_nil]); first | done | rfl | (simp only [List.length_drop, List.length_take]; rfl)) ?_; (with_reducible refine (timeboundmake_New.calls _ _ l0 t158 t159 w _ ?side1 ?side2 ?side3 A5.out).mono ?_); (case side1 => repeat (first | (with_reducible first | exact HB.out | apply below_alloc | apply pw_below_drewN | apply below_drew1) | exact HB.out)); (case side2 => exact HR0.out); (case side3 => exact HC0.out); rintro e w14 ⟨g160, rfl, hi, hb, hb2⟩; refine ⟨_, rfl, ?_⟩; have n0_ := Aside0.mk (hb); have n1_ := Aside0.mk (hi); clear HB; have HB := n0_; have HI160 := n1_; clear n0_ n1_; (try clear hb); (try clear hb2); (try clear hk); (try clear hi)) | ((with_reducible refine gate_callee (f := 32) rfl ?_); refine goesL_ (some 30) rfl rfl Try.func32 (by kernel_rfl) rfl #[.pointer (some ⟨g160, 0, none⟩)] rfl (by (try simp only [List.map_toArray, List.map_cons, List.map_nil]); first | done | rfl | (simp only [List.length_drop, List.length_take]; rfl)) ?_; (with_reducible refine (timeboundmake2_Items.calls k g160 t158 t159 t161 t164 w _ ?side1 ?side2 A6.out).mono ?_); (case side1 => repeat (first | (with_reducible first | exact HI160.out | apply IsS111.alloc | apply IsS111.drewN | apply IsS111.drew | apply IsS111.set_1) | exact HI160.out)); (case side2 => repeat (first | (with_reducible first | exact HB.out | apply below_alloc | apply pw_below_drewN | apply below_drew1 | refine below_set ?_ (IsS111.ge HI160.out)) | exact HB.out)); rintro e w15 ⟨v162, rfl, ho0, hi, hb, hk⟩; refine ⟨_, rfl, ?_⟩; have n0_ := Aside0.mk (Kd.R_lower ho0 (below_size (by repeat (first | (with_reducible first | exact HB.out | apply below_alloc | apply pw_below_drewN | apply below_drew1 | refine below_set ?_ (IsS111.ge HI160.out)) | exact HB.out)))); have n1_ := Aside0.mk (hb); have n2_ := Aside0.mk (hi); clear HB; clear HI160; have HO163 := n0_; have HB := n1_; have HI160 := n2_; clear n0_ n1_ n2_; (try clear hb); (try clear hb2); (try clear hk); (try clear hi); (try clear ho0)) | ((with_reducible refine gate_callee (f := 36) rfl ?_); refine goesL_ (some 32) rfl rfl Try.func36 (by kernel_rfl) rfl #[.int .i64 a1, .int .i64 60] rfl (by (try simp only [List.map_toArray, List.map_cons, List.map_nil]); first | done | rfl | (simp only [List.length_drop, List.length_take]; rfl)) ?_; (with_reducible refine (timeboundmake_Mod.calls a1 60 t165 _ A7.out).mono ?_); rintro e w' ⟨rfl, ⟨nd, rfl⟩⟩; refine ⟨_, rfl, ?_⟩; obtain ⟨Ao16, co16, eo16⟩ := Kd.R_slice HO163.out; subst eo16) | ((with_reducible refine gate_callee (f := 37) rfl ?_); refine goesL_ (some 36) rfl rfl Try.func37 (by kernel_rfl) rfl #[.slice Ao16 t161.length co16, .int .i64 t165] rfl (by (try simp only [List.map_toArray, List.map_cons, List.map_nil]); first | done | rfl | (simp only [List.length_drop, List.length_take]; rfl)) ?_; (with_reducible refine (scratch_Best.calls k _ _ t161 t165 t166 t167 _ ?side1 ?side2 A8.out).mono ?_); (case side1 => repeat (first | exact (Kd.R_reads' HO163.out).2.2 | (with_reducible refine Kd.C_alloc ?_ _) | (with_reducible refine Kd.C_drewN ?_ _) | (with_reducible refine Kd.C_drew ?_))); (case side2 => exact (Kd.R_reads' HO163.out).2.1); rintro e w17 ⟨v168, rfl, ho0, hb⟩; refine ⟨_, rfl, ?_⟩; have n0_ := Aside0.mk (Kd.R_below (by (with_reducible repeat (first | apply Kd.R_alloc | apply Kd.R_drewN | apply Kd.R_drew)); exact HO163.out) hb); have n1_ := Aside0.mk (Kd.R_lower ho0 (below_size (by repeat (first | (with_reducible first | exact HB.out | apply below_alloc | apply pw_below_drewN | apply below_drew1 | refine below_set ?_ (IsS111.ge HI160.out)) | exact HB.out)))); have n2_ := Aside0.mk (IsS111.below (by repeat (first | (with_reducible first | exact HI160.out | apply IsS111.alloc | apply IsS111.drewN | apply IsS111.drew | apply IsS111.set_1) | exact HI160.out)) hb); have n3_ := Aside0.mk (below_step (by repeat (first | (with_reducible first | exact HB.out | apply below_alloc | apply pw_below_drewN | apply below_drew1 | refine below_set ?_ (IsS111.ge HI160.out)) | exact HB.out)) hb); clear HO163; clear HI160; clear HB; have HO163 := n0_; have HO169 := n1_; have HI160 := n2_; have HB := n3_; clear n0_ n1_ n2_ n3_; (try clear hb); (try clear hb2); (try clear hk); (try clear hi); (try clear ho0)) | ((with_reducible refine gate_callee (f := 36) rfl ?_); refine goesL_ (some 43) rfl rfl Try.func36 (by kernel_rfl) rfl #[.int .i64 a2, .int .i64 30] rfl (by (try simp only [List.map_toArray, List.map_cons, List.map_nil]); first | done | rfl | (simp only [List.length_drop, List.length_take]; rfl)) ?_; (with_reducible refine (timeboundmake_Mod.calls a2 30 t170 _ A9.out).mono ?_); rintro e w' ⟨rfl, ⟨nd, rfl⟩⟩; refine ⟨_, rfl, ?_⟩) | ((with_reducible refine gate_callee (f := 37) rfl ?_); refine goesL_ (some 45) rfl rfl Try.func37 (by kernel_rfl) rfl #[.slice Ao16 t161.length co16, .int .i64 (wrap64 (t165 + t170))] rfl (by (try simp only [List.map_toArray, List.map_cons, List.map_nil]); first | done | rfl | (simp only [List.length_drop, List.length_take]; rfl)) ?_; (with_reducible refine (scratch_Best.calls k _ _ t161 (wrap64 (t165 + t170)) t171 t172 _ ?side1 ?side2 A10.out).mono ?_); (case side1 => repeat (first | exact (Kd.R_reads' HO163.out).2.2 | (with_reducible refine Kd.C_alloc ?_ _) | (with_reducible refine Kd.C_drewN ?_ _) | (with_reducible refine Kd.C_drew ?_))); (case side2 => exact (Kd.R_reads' HO163.out).2.1); rintro e w18 ⟨v173, rfl, ho0, hb⟩; refine ⟨_, rfl, ?_⟩; have n0_ := Aside0.mk (Kd.R_below (by (with_reducible repeat (first | apply Kd.R_alloc | apply Kd.R_drewN | apply Kd.R_drew)); exact HO163.out) hb); have n1_ := Aside0.mk (Kd.R_elder' (by (with_reducible repeat (first | apply Kd.R_alloc | apply Kd.R_drewN | apply Kd.R_drew)); exact HO169.out) (Kd.R_base ho0) hb); have n2_ := Aside0.mk (Kd.R_lower (Kd.R_new' ho0 (Kd.R_lt (by (with_reducible repeat (first | apply Kd.R_alloc | apply Kd.R_drewN | apply Kd.R_drew)); exact HO169.out))) (below_size (by repeat (first | (with_reducible first | exact HB.out | apply below_alloc | apply pw_below_drewN | apply below_drew1 | refine below_set ?_ (IsS111.ge HI160.out)) | exact HB.out)))); have n3_ := Aside0.mk (IsS111.below (by repeat (first | (with_reducible first | exact HI160.out | apply IsS111.alloc | apply IsS111.drewN | apply IsS111.drew | apply IsS111.set_1) | exact HI160.out)) hb); have n4_ := Aside0.mk (below_step (by repeat (first | (with_reducible first | exact HB.out | apply below_alloc | apply pw_below_drewN | apply below_drew1 | refine below_set ?_ (IsS111.ge HI160.out)) | exact HB.out)) hb); clear HO163; clear HO169; clear HI160; clear HB; have HO163 := n0_; have HO169 := n1_; have HO174 := n2_; have HI160 := n3_; have HB := n4_; clear n0_ n1_ n2_ n3_ n4_; (try clear hb); (try clear hb2); (try clear hk); (try clear hi); (try clear ho0); obtain ⟨Ao19, co19, eo19⟩ := Kd.R_slice HO169.out; subst eo19) | ((with_reducible refine gate_callee (f := 39) rfl ?_); refine goesL_ (some 51) rfl rfl Try.func39 (by kernel_rfl) rfl #[.slice Ao16 t161.length co16, .slice Ao19 t166.length co19] rfl (by (try simp only [List.map_toArray, List.map_cons, List.map_nil]); first | done | rfl | (simp only [List.length_drop, List.length_take]; rfl)) ?_; (with_reducible refine (scratch_Value.calls k _ _ t161 _ _ t166 t175 t176 t177 _ ?side1 ?side2 ?side3 ?side4 A11.out).mono ?_); (case side1 => repeat (first | exact (Kd.R_reads' HO163.out).2.2 | (with_reducible refine Kd.C_alloc ?_ _) | (with_reducible refine Kd.C_drewN ?_ _) | (with_reducible refine Kd.C_drew ?_))); (case side2 => exact (Kd.R_reads' HO163.out).2.1); (case side3 => repeat (first | exact (Kd.R_reads' HO169.out).2.2 | (with_reducible refine Kd.C_alloc ?_ _) | (with_reducible refine Kd.C_drewN ?_ _) | (with_reducible refine Kd.C_drew ?_))); (case side4 => exact (Kd.R_reads' HO169.out).2.1); rintro e w20 ⟨rfl, hb⟩; refine ⟨_, rfl, ?_⟩; have n0_ := Aside0.mk (Kd.R_below (by (with_reducible repeat (first | apply Kd.R_alloc | apply Kd.R_drewN | apply Kd.R_drew)); exact HO163.out) hb); have n1_ := Aside0.mk (Kd.R_below (by (with_reducible repeat (first | apply Kd.R_alloc | apply Kd.R_drewN | apply Kd.R_drew)); exact HO169.out) hb); have n2_ := Aside0.mk (Kd.R_below (by (with_reducible repeat (first | apply Kd.R_alloc | apply Kd.R_drewN | apply Kd.R_drew)); exact HO174.out) hb); have n3_ := Aside0.mk (IsS111.below (by repeat (first | (with_reducible first | exact HI160.out | apply IsS111.alloc | apply IsS111.drewN | apply IsS111.drew | apply IsS111.set_1) | exact HI160.out)) hb); have n4_ := Aside0.mk (below_step (by repeat (first | (with_reducible first | exact HB.out | apply below_alloc | apply pw_below_drewN | apply below_drew1 | refine below_set ?_ (IsS111.ge HI160.out)) | exact HB.out)) hb); clear HO163; clear HO169; clear HO174; clear HI160; clear HB; have HO163 := n0_; have HO169 := n1_; have HO174 := n2_; have HI160 := n3_; have HB := n4_; clear n0_ n1_ n2_ n3_ n4_; (try clear hb); (try clear hb2); (try clear hk); (try clear hi); obtain ⟨Ao21, co21, eo21⟩ := Kd.R_slice HO174.out; subst eo21) | ((with_reducible refine gate_callee (f := 39) rfl ?_); refine goesL_ (some 58) rfl rfl Try.func39 (by kernel_rfl) rfl #[.slice Ao16 t161.length co16, .slice Ao21 t171.length co21] rfl (by (try simp only [List.map_toArray, List.map_cons, List.map_nil]); first | done | rfl | (simp only [List.length_drop, List.length_take]; rfl)) ?_; (with_reducible refine (scratch_Value.calls k _ _ t161 _ _ t171 t178 t179 t180 _ ?side1 ?side2 ?side3 ?side4 A12.out).mono ?_); (case side1 => repeat (first | exact (Kd.R_reads' HO163.out).2.2 | (with_reducible refine Kd.C_alloc ?_ _) | (with_reducible refine Kd.C_drewN ?_ _) | (with_reducible refine Kd.C_drew ?_))); (case side2 => exact (Kd.R_reads' HO163.out).2.1); (case side3 => repeat (first | exact (Kd.R_reads' HO174.out).2.2 | (with_reducible refine Kd.C_alloc ?_ _) | (with_reducible refine Kd.C_drewN ?_ _) | (with_reducible refine Kd.C_drew ?_))); (case side4 => exact (Kd.R_reads' HO174.out).2.1); rintro e w22 ⟨rfl, hb⟩; refine ⟨_, rfl, ?_⟩; have n0_ := Aside0.mk (Kd.R_below (by (with_reducible repeat (first | apply Kd.R_alloc | apply Kd.R_drewN | apply Kd.R_drew)); exact HO163.out) hb); have n1_ := Aside0.mk (Kd.R_below (by (with_reducible repeat (first | apply Kd.R_alloc | apply Kd.R_drewN | apply Kd.R_drew)); exact HO169.out) hb); have n2_ := Aside0.mk (Kd.R_below (by (with_reducible repeat (first | apply Kd.R_alloc | apply Kd.R_drewN | apply Kd.R_drew)); exact HO174.out) hb); have n3_ := Aside0.mk (IsS111.below (by repeat (first | (with_reducible first | exact HI160.out | apply IsS111.alloc | apply IsS111.drewN | apply IsS111.drew | apply IsS111.set_1) | exact HI160.out)) hb); have n4_ := Aside0.mk (below_step (by repeat (first | (with_reducible first | exact HB.out | apply below_alloc | apply pw_below_drewN | apply below_drew1 | refine below_set ?_ (IsS111.ge HI160.out)) | exact HB.out)) hb); clear HO163; clear HO169; clear HO174; clear HI160; clear HB; have HO163 := n0_; have HO169 := n1_; have HO174 := n2_; have HI160 := n3_; have HB := n4_; clear n0_ n1_ n2_ n3_ n4_; (try clear hb); (try clear hb2); (try clear hk); (try clear hi)))
  (try simp only [Act.put, List.setIfInBounds_toArray, List.set_cons_zero, List.set_cons_succ])
  go_cut [85] (fun v85 wc => ∃ (kq : Nat) (x85_12 : Bool), v85 = .bool x85_12 ∧ Aside0 (timeboundlaw36_ScratchMore.j0 kq a3 t161 t165 t175 x85_12 = some r) ∧ Aside0 (kq ≤ k) ∧ Aside0 (Kd.R k76 76 wc w.heap.size (fun _ => True) (.slice Ao16 t161.length co16) t161) ∧ Aside0 (Below w.heap.size w wc))
  case first =>
    have H := HC13.out
    clear HC13
    by_cases c23 : t167 = 0
    · rw [if_pos c23] at H
      have c23b0 : (t167 == 0) = true := beq_iff_eq.mpr c23
      have c23b1 : (t167 != 0) = false := bne_eq_false_iff_eq.mpr c23
      clear c23
      (first | rw [c23b0] | (simp only [i64_w, i32_w]; rw [c23b0]) | skip)
      by_cases c24 : t172 = 0
      · rw [if_pos c24] at H
        have c24b0 : (t172 == 0) = true := beq_iff_eq.mpr c24
        have c24b1 : (t172 != 0) = false := bne_eq_false_iff_eq.mpr c24
        clear c24
        by_cases c25 : t177 = true
        · subst c25
          have H1 : (if t180 = true then (if t178 < t175 then (timeboundlaw36_ScratchMore.j0 k a3 t161 t165 t175 true) else (timeboundlaw36_ScratchMore.j0 k a3 t161 t165 t175 (decide (t176 > t165)))) else (timeboundlaw36_ScratchMore.j0 k a3 t161 t165 t175 true)) = some r := by rw [if_pos rfl] at H; exact H
          clear H
          have H := H1
          clear H1
          by_cases c26 : t180 = true
          · subst c26
            have H1 : (if t178 < t175 then (timeboundlaw36_ScratchMore.j0 k a3 t161 t165 t175 true) else (timeboundlaw36_ScratchMore.j0 k a3 t161 t165 t175 (decide (t176 > t165)))) = some r := by rw [if_pos rfl] at H; exact H
            clear H
            have H := H1
            clear H1
            by_cases c27 : t178 < t175
            · rw [if_pos c27] at H
              have c27b0 : decide (t178 < t175) = true := decide_eq_true c27
              clear c27
              have H' := Aside0.mk H
              clear H
              go_wp2
              go_meet
              case rel => exact ⟨_, (true), (by first | rfl | (simp; done) | (simp [*]; done)), H', ⟨by first | omega | exact Nat.le_refl _⟩, ⟨by (with_reducible repeat (first | apply Kd.R_alloc | apply Kd.R_drewN | apply Kd.R_drew)); exact HO163.out⟩, ⟨by repeat (first | (with_reducible first | exact HB.out | apply below_alloc | apply pw_below_drewN | apply below_drew1 | refine below_set ?_ (IsS111.ge HI160.out)) | exact HB.out)⟩⟩
            · rw [if_neg c27] at H
              have c27b0 : decide (t178 < t175) = false := decide_eq_false c27
              clear c27
              have H' := Aside0.mk H
              clear H
              go_wp2
              go_meet
              case rel => exact ⟨_, (decide (t176 > t165)), (by first | rfl | (simp; done) | (simp [*]; done)), H', ⟨by first | omega | exact Nat.le_refl _⟩, ⟨by (with_reducible repeat (first | apply Kd.R_alloc | apply Kd.R_drewN | apply Kd.R_drew)); exact HO163.out⟩, ⟨by repeat (first | (with_reducible first | exact HB.out | apply below_alloc | apply pw_below_drewN | apply below_drew1 | refine below_set ?_ (IsS111.ge HI160.out)) | exact HB.out)⟩⟩
          · replace c26 := Bool.eq_false_iff.mpr c26
            subst c26
            have H1 : (timeboundlaw36_ScratchMore.j0 k a3 t161 t165 t175 true) = some r := by rw [if_neg (show ¬ (false = true) by decide)] at H; exact H
            clear H
            have H := H1
            clear H1
            have H' := Aside0.mk H
            clear H
            go_wp2
            go_meet
            case rel => exact ⟨_, (true), (by first | rfl | (simp; done) | (simp [*]; done)), H', ⟨by first | omega | exact Nat.le_refl _⟩, ⟨by (with_reducible repeat (first | apply Kd.R_alloc | apply Kd.R_drewN | apply Kd.R_drew)); exact HO163.out⟩, ⟨by repeat (first | (with_reducible first | exact HB.out | apply below_alloc | apply pw_below_drewN | apply below_drew1 | refine below_set ?_ (IsS111.ge HI160.out)) | exact HB.out)⟩⟩
        · replace c25 := Bool.eq_false_iff.mpr c25
          subst c25
          have H1 : (timeboundlaw36_ScratchMore.j0 k a3 t161 t165 t175 true) = some r := by rw [if_neg (show ¬ (false = true) by decide)] at H; exact H
          clear H
          have H := H1
          clear H1
          have H' := Aside0.mk H
          clear H
          go_wp2
          go_meet
          case rel => exact ⟨_, (true), (by first | rfl | (simp; done) | (simp [*]; done)), H', ⟨by first | omega | exact Nat.le_refl _⟩, ⟨by (with_reducible repeat (first | apply Kd.R_alloc | apply Kd.R_drewN | apply Kd.R_drew)); exact HO163.out⟩, ⟨by repeat (first | (with_reducible first | exact HB.out | apply below_alloc | apply pw_below_drewN | apply below_drew1 | refine below_set ?_ (IsS111.ge HI160.out)) | exact HB.out)⟩⟩
      · rw [if_neg c24] at H
        have c24b0 : (t172 == 0) = false := beq_eq_false_iff_ne.mpr c24
        have c24b1 : (t172 != 0) = true := bne_iff_ne.mpr c24
        have H' := Aside0.mk H
        clear H
        go_wp2
        go_meet
        case rel => exact ⟨_, (true), (by first | rfl | (simp; done) | (simp [*]; done)), H', ⟨by first | omega | exact Nat.le_refl _⟩, ⟨by (with_reducible repeat (first | apply Kd.R_alloc | apply Kd.R_drewN | apply Kd.R_drew)); exact HO163.out⟩, ⟨by repeat (first | (with_reducible first | exact HB.out | apply below_alloc | apply pw_below_drewN | apply below_drew1 | refine below_set ?_ (IsS111.ge HI160.out)) | exact HB.out)⟩⟩
    · rw [if_neg c23] at H
      have c23b0 : (t167 == 0) = false := beq_eq_false_iff_ne.mpr c23
      have c23b1 : (t167 != 0) = true := bne_iff_ne.mpr c23
      (first | rw [c23b0] | (simp only [i64_w, i32_w]; rw [c23b0]) | skip)
      have H' := Aside0.mk H
      clear H
      go_wp2
      go_meet
      case rel => exact ⟨_, (true), (by first | rfl | (simp; done) | (simp [*]; done)), H', ⟨by first | omega | exact Nat.le_refl _⟩, ⟨by (with_reducible repeat (first | apply Kd.R_alloc | apply Kd.R_drewN | apply Kd.R_drew)); exact HO163.out⟩, ⟨by repeat (first | (with_reducible first | exact HB.out | apply below_alloc | apply pw_below_drewN | apply below_drew1 | refine below_set ?_ (IsS111.ge HI160.out)) | exact HB.out)⟩⟩
  case rest =>
    clear HC13
    try clear c1
    try clear c2
    try clear p2
    try clear c3
    try clear p6
    try clear c7
    try clear c16
    try clear c23
    try clear c23b0
    try clear c23b1
    try clear c24
    try clear c24b0
    try clear c24b1
    try clear c25
    try clear c26
    try clear c27
    try clear c27b0
    obtain ⟨kq, x85_12, rfl, HA, HJ12, HO_10, HB⟩ := hcut
    cases kq with
    | zero => exact absurd HA.out (by simp [timeboundlaw36_ScratchMore.j0])
    | succ kj12 =>
      have H := HA.out
      clear HA
      simp only [timeboundlaw36_ScratchMore.j0] at H
      by_cases c28 : x85_12 = true
      · subst c28
        have H1 : (some false) = some r := by rw [if_pos rfl] at H; exact H
        clear H
        have H := H1
        clear H1
        obtain rfl := Option.some.inj H
        go_wp2
        go_ret
        exact ⟨by first | rfl | (simp [errW_none, errW_some] <;> rfl) | (simp [*, errW_none, errW_some] <;> rfl), by repeat (first | (with_reducible first | exact HB.out | apply below_alloc | apply pw_below_drewN | apply below_drew1) | exact HB.out)⟩
      · replace c28 := Bool.eq_false_iff.mpr c28
        subst c28
        have H1 : (timeboundlaw36_ScratchMore.l0 kj12 a3 t161 t165 t175 ([] : List Int) (t161.length : Int) 0) = some r := by rw [if_neg (show ¬ (false = true) by decide)] at H; exact H
        clear H
        have H := H1
        clear H1
        have H' := Aside0.mk H
        clear H
        go_wp2
        go_loopg [22, 88] kj12 (fun kq v22 v88 w' => ∃ (x22_2 : List Int) (x88_2 : Int), v88 = .int .i64 x88_2 ∧ Aside0 (timeboundlaw36_ScratchMore.l0 kq a3 t161 t165 t175 x22_2 (t161.length : Int) x88_2 = some r) ∧ Aside0 (kq ≤ kj12) ∧ Aside0 (Kd.R k76 76 w' w.heap.size (fun _ => True) (.slice Ao16 t161.length co16) t161) ∧ Aside0 (Kd.R (Kd.int .i64) 3 w' w.heap.size (fun _ => True) v22 x22_2) ∧ Aside0 (Below w.heap.size w w'))
        case atStart => exact ⟨(([] : List Int)), (0), (by first | rfl | (simp; done) | (simp [*]; done)), H', ⟨Nat.le_refl _⟩, ⟨by (with_reducible repeat (first | apply Kd.R_alloc | apply Kd.R_drewN | apply Kd.R_drew)); exact HO_10.out⟩, ⟨by first | exact Kd.R_nil _ _ _ _ _ | exact Kd.N_nil _ _ _ _ _ | exact Kd.V_nil _ _ _ _ _ | exact Kd.Q_nil _ _ _ _ _ | exact Kd.S_nil _ _ _ _ _⟩, ⟨by repeat (first | (with_reducible first | exact HB.out | apply below_alloc | apply pw_below_drewN | apply below_drew1) | exact HB.out)⟩⟩
        case round =>
          clear H'
          try clear c1
          try clear c2
          try clear p2
          try clear c3
          try clear p6
          try clear c7
          try clear c16
          try clear c23
          try clear c23b0
          try clear c23b1
          try clear c24
          try clear c24b0
          try clear c24b1
          try clear c25
          try clear c26
          try clear c27
          try clear c27b0
          try clear c28
          try clear p2
          try clear p6
          obtain ⟨x22_2, x88_2, rfl, HA, HK2, HO_10, HO_22, HB⟩ := hrel
          cases gk with
          | zero => exact absurd HA.out (by simp [timeboundlaw36_ScratchMore.l0])
          | succ k2 =>
            have H := HA.out
            clear HA
            simp only [timeboundlaw36_ScratchMore.l0] at H
            by_cases c29 : x88_2 < (t161.length : Int)
            · rw [if_pos c29] at H
              have c29b0 : decide (x88_2 < (t161.length : Int)) = true := decide_eq_true c29
              clear c29
              obtain ⟨ji30, hji30⟩ : ∃ j_ : Int, (IntKind.u64.wrap (x88_2)) = j_ := ⟨_, rfl⟩
              replace H : (if 0 ≤ (ji30) then (if (Go.bits .and .i64 (shr .i64 a3 (ji30)) 1) = 1 then (if x22_2.length < 17592186044416 then (timeboundlaw36_ScratchMore.l0 k2 a3 t161 t165 t175 (x22_2 ++ [x88_2]) (t161.length : Int) (wrap64 (x88_2 + 1))) else (none)) else (timeboundlaw36_ScratchMore.l0 k2 a3 t161 t165 t175 x22_2 (t161.length : Int) (wrap64 (x88_2 + 1)))) else (none)) = some r := by first | (rw [hji30] at H; exact H) | (simp only [hji30] at H ⊢; exact H)
              by_cases c31 : 0 ≤ (ji30)
              · rw [if_pos c31] at H
                have c31b0 := eq_true c31
                have c31b1 : decide (0 ≤ (ji30)) = true := decide_eq_true c31
                clear c31
                obtain ⟨ji32, hji32⟩ : ∃ j_ : Int, (shr .i64 a3 (ji30)) = j_ := ⟨_, rfl⟩
                replace H : (if (Go.bits .and .i64 (ji32) 1) = 1 then (if x22_2.length < 17592186044416 then (timeboundlaw36_ScratchMore.l0 k2 a3 t161 t165 t175 (x22_2 ++ [x88_2]) (t161.length : Int) (wrap64 (x88_2 + 1))) else (none)) else (timeboundlaw36_ScratchMore.l0 k2 a3 t161 t165 t175 x22_2 (t161.length : Int) (wrap64 (x88_2 + 1)))) = some r := by first | (rw [hji32] at H; exact H) | (simp only [hji32] at H ⊢; exact H)
                have hji32_ : (a3 / 2 ^ min (ji30).toNat 64) = ji32 := hji32
                have hji32z : (ji30) ≤ 64 → (a3 / 2 ^ (ji30).toNat) = ji32 := shr_small hji32
                by_cases c33 : (Go.bits .and .i64 (ji32) 1) = 1
                · rw [if_pos c33] at H
                  have c33b0 : ((Go.bits .and .i64 (ji32) 1) == 1) = true := beq_iff_eq.mpr c33
                  have c33b1 : ((Go.bits .and .i64 (ji32) 1) != 1) = false := bne_eq_false_iff_eq.mpr c33
                  clear c33
                  by_cases c34 : x22_2.length < 17592186044416
                  · rw [if_pos c34] at H
                    have LMc34 := Aside0.mk c34
                    clear c34
                    obtain ⟨y181, hy181⟩ : ∃ y_ : List Int, y_ = (x22_2 ++ [x88_2]) := ⟨_, rfl⟩
                    replace H : (timeboundlaw36_ScratchMore.l0 k2 a3 t161 t165 t175 y181 (t161.length : Int) (wrap64 (x88_2 + 1))) = some r := by first | (rw [hy181]; with_reducible exact H) | (have H2_ := (Option.bind_some _ _).symm.trans H; rw [hy181]; with_reducible exact H2_) | (have H2_ := (Option.bind_some _ _).symm.trans H; with_reducible exact H2_) | with_reducible exact H | (rw [hy181]; exact H) | exact H
                    have Ny181 := Aside0.mk hy181
                    clear hy181
                    have H' := Aside0.mk H
                    clear H
                    go_wp2_with (first | ((with_reducible refine gate_builtin (b := .append) (xs := #[.tmp 97, .tmp 99]) rfl ?_); at_builtin; refine Kd.R_append (Kd.int .i64) (w0 := w) w.heap.size rfl (.tmp 97) (.tmp 99) 22 3 (.int .i64 0) 8 rfl Try.underlying22 info3 rfl (by decide) (by omega) u22 x22_2 x88_2 [.int .i64 x88_2] (fun _ => True) (fun _ => False) rfl rfl ?aP (fun _ hk => hk.elim) ?aF ?aO ?aB ?aS ?aL ?_; (case aP => exact rfl); (case aB => exact (by repeat (first | (with_reducible first | exact HB.out | apply below_alloc | apply pw_below_drewN | apply below_drew1) | exact HB.out))); (case aF => exact (fun _ _ => trivial)); (case aO => exact (by (with_reducible repeat (first | apply Kd.R_alloc | apply Kd.R_drewN | apply Kd.R_drew)); exact HO_22.out)); (case aS => exact (below_size (by repeat (first | (with_reducible first | exact HB.out | apply below_alloc | apply pw_below_drewN | apply below_drew1) | exact HB.out)))); (case aL => have := LMc34.out; omega); intro v182 w35 ho hb hg hat; rw [← Ny181.out] at ho; have n0_ := Aside0.mk (Kd.R_over' (by (with_reducible repeat (first | apply Kd.R_alloc | apply Kd.R_drewN | apply Kd.R_drew)); exact HO_10.out) (Kd.R_typed (by (with_reducible repeat (first | apply Kd.R_alloc | apply Kd.R_drewN | apply Kd.R_drew)); exact HO_22.out)) (by decide) hg); have n1_ := Aside0.mk (hb); have n2_ := Aside0.mk (ho); clear HO_10; clear HB; clear HO_22; have HO_10 := n0_; have HB := n1_; have HO183 := n2_; clear n0_ n1_ n2_; clear ho hb hg hat))
                    go_roundg k2
                    case measure => have := HJ12.out; have := HK2.out; omega
                    case rel => exact ⟨(y181), (wrap64 (x88_2 + 1)), (by first | rfl | (simp; done) | (simp [*]; done)), H', ⟨by have := HJ12.out; have := HK2.out; omega⟩, ⟨by (with_reducible repeat (first | apply Kd.R_alloc | apply Kd.R_drewN | apply Kd.R_drew)); exact HO_10.out⟩, ⟨by (with_reducible repeat (first | apply Kd.R_alloc | apply Kd.R_drewN | apply Kd.R_drew)); exact HO183.out⟩, ⟨by repeat (first | (with_reducible first | exact HB.out | apply below_alloc | apply pw_below_drewN | apply below_drew1) | exact HB.out)⟩⟩
                  · rw [if_neg c34] at H
                    exact absurd H (by simp)
                · rw [if_neg c33] at H
                  have c33b0 : ((Go.bits .and .i64 (ji32) 1) == 1) = false := beq_eq_false_iff_ne.mpr c33
                  have c33b1 : ((Go.bits .and .i64 (ji32) 1) != 1) = true := bne_iff_ne.mpr c33
                  have H' := Aside0.mk H
                  clear H
                  go_wp2
                  go_roundg k2
                  case measure => have := HJ12.out; have := HK2.out; omega
                  case rel => exact ⟨(x22_2), (wrap64 (x88_2 + 1)), (by first | rfl | (simp; done) | (simp [*]; done)), H', ⟨by have := HJ12.out; have := HK2.out; omega⟩, ⟨by (with_reducible repeat (first | apply Kd.R_alloc | apply Kd.R_drewN | apply Kd.R_drew)); exact HO_10.out⟩, ⟨by (with_reducible repeat (first | apply Kd.R_alloc | apply Kd.R_drewN | apply Kd.R_drew)); exact HO_22.out⟩, ⟨by repeat (first | (with_reducible first | exact HB.out | apply below_alloc | apply pw_below_drewN | apply below_drew1) | exact HB.out)⟩⟩
              · rw [if_neg c31] at H
                exact absurd H (by simp)
            · rw [if_neg c29] at H
              have c29b0 : decide (x88_2 < (t161.length : Int)) = false := decide_eq_false c29
              clear c29
              replace H := Option.bind_eq_some_iff.mp H
              obtain ⟨⟨t184, t185, t186⟩, A360, H⟩ := H
              replace H : (if t185 > t165 then ((timeboundlaw36_awake.f k2).bind fun t187 => (some t187)) else (if t184 ≤ t175 then ((timeboundlaw36_awake.f k2).bind fun t188 => (some t188)) else (some false))) = some r := H
              have A36 := Aside0.mk A360
              clear A360
              by_cases c37 : t185 > t165
              · rw [if_pos c37] at H
                have c37b0 : decide (t165 < t185) = true := decide_eq_true c37
                clear c37
                replace H := Option.bind_eq_some_iff.mp H
                obtain ⟨t187, A380, H⟩ := H
                replace H : (some t187) = some r := H
                have A38 := Aside0.mk A380
                clear A380
                obtain rfl := Option.some.inj H
                obtain ⟨Ao39, co39, eo39⟩ := Kd.R_slice HO_22.out
                subst eo39
                go_wp2_with (first | ((with_reducible refine gate_callee (f := 39) rfl ?_); refine goesL_ (some 105) rfl rfl Try.func39 (by kernel_rfl) rfl #[.slice Ao16 t161.length co16, .slice Ao39 x22_2.length co39] rfl (by (try simp only [List.map_toArray, List.map_cons, List.map_nil]); first | done | rfl | (simp only [List.length_drop, List.length_take]; rfl)) ?_; (with_reducible refine (scratch_Value.calls k2 _ _ t161 _ _ x22_2 t184 t185 t186 _ ?side1 ?side2 ?side3 ?side4 A36.out).mono ?_); (case side1 => repeat (first | exact (Kd.R_reads' HO_10.out).2.2 | (with_reducible refine Kd.C_alloc ?_ _) | (with_reducible refine Kd.C_drewN ?_ _) | (with_reducible refine Kd.C_drew ?_))); (case side2 => exact (Kd.R_reads' HO_10.out).2.1); (case side3 => repeat (first | exact (Kd.R_reads' HO_22.out).2.2 | (with_reducible refine Kd.C_alloc ?_ _) | (with_reducible refine Kd.C_drewN ?_ _) | (with_reducible refine Kd.C_drew ?_))); (case side4 => exact (Kd.R_reads' HO_22.out).2.1); rintro e w40 ⟨rfl, hb⟩; refine ⟨_, rfl, ?_⟩; have n0_ := Aside0.mk (Kd.R_below (by (with_reducible repeat (first | apply Kd.R_alloc | apply Kd.R_drewN | apply Kd.R_drew)); exact HO_10.out) hb); have n1_ := Aside0.mk (Kd.R_below (by (with_reducible repeat (first | apply Kd.R_alloc | apply Kd.R_drewN | apply Kd.R_drew)); exact HO_22.out) hb); have n2_ := Aside0.mk (below_step (by repeat (first | (with_reducible first | exact HB.out | apply below_alloc | apply pw_below_drewN | apply below_drew1) | exact HB.out)) hb); clear HO_10; clear HO_22; clear HB; have HO_10 := n0_; have HO_22 := n1_; have HB := n2_; clear n0_ n1_ n2_; (try clear hb); (try clear hb2); (try clear hk); (try clear hi)) | (go_at_call 31; (with_reducible refine (timeboundlaw36_awake.calls k2  t187 _ A38.out).mono ?_); rintro e w41 ⟨rfl, hb⟩; have n0_ := Aside0.mk (Kd.R_below (by (with_reducible repeat (first | apply Kd.R_alloc | apply Kd.R_drewN | apply Kd.R_drew)); exact HO_10.out) hb); have n1_ := Aside0.mk (Kd.R_below (by (with_reducible repeat (first | apply Kd.R_alloc | apply Kd.R_drewN | apply Kd.R_drew)); exact HO_22.out) hb); have n2_ := Aside0.mk (below_step (by repeat (first | (with_reducible first | exact HB.out | apply below_alloc | apply pw_below_drewN | apply below_drew1) | exact HB.out)) hb); clear HO_10; clear HO_22; clear HB; have HO_10 := n0_; have HO_22 := n1_; have HB := n2_; clear n0_ n1_ n2_; (try clear hb); (try clear hb2); (try clear hk); (try clear hi)))
                go_ret
                exact ⟨by first | rfl | (simp [errW_none, errW_some] <;> rfl) | (simp [*, errW_none, errW_some] <;> rfl), by repeat (first | (with_reducible first | exact HB.out | apply below_alloc | apply pw_below_drewN | apply below_drew1) | exact HB.out)⟩
              · rw [if_neg c37] at H
                have c37b0 : decide (t165 < t185) = false := decide_eq_false c37
                clear c37
                by_cases c42 : t184 ≤ t175
                · rw [if_pos c42] at H
                  have c42b0 : decide (t184 ≤ t175) = true := decide_eq_true c42
                  clear c42
                  replace H := Option.bind_eq_some_iff.mp H
                  obtain ⟨t188, A430, H⟩ := H
                  replace H : (some t188) = some r := H
                  have A43 := Aside0.mk A430
                  clear A430
                  obtain rfl := Option.some.inj H
                  obtain ⟨Ao44, co44, eo44⟩ := Kd.R_slice HO_22.out
                  subst eo44
                  go_wp2_with (first | ((with_reducible refine gate_callee (f := 39) rfl ?_); refine goesL_ (some 105) rfl rfl Try.func39 (by kernel_rfl) rfl #[.slice Ao16 t161.length co16, .slice Ao44 x22_2.length co44] rfl (by (try simp only [List.map_toArray, List.map_cons, List.map_nil]); first | done | rfl | (simp only [List.length_drop, List.length_take]; rfl)) ?_; (with_reducible refine (scratch_Value.calls k2 _ _ t161 _ _ x22_2 t184 t185 t186 _ ?side1 ?side2 ?side3 ?side4 A36.out).mono ?_); (case side1 => repeat (first | exact (Kd.R_reads' HO_10.out).2.2 | (with_reducible refine Kd.C_alloc ?_ _) | (with_reducible refine Kd.C_drewN ?_ _) | (with_reducible refine Kd.C_drew ?_))); (case side2 => exact (Kd.R_reads' HO_10.out).2.1); (case side3 => repeat (first | exact (Kd.R_reads' HO_22.out).2.2 | (with_reducible refine Kd.C_alloc ?_ _) | (with_reducible refine Kd.C_drewN ?_ _) | (with_reducible refine Kd.C_drew ?_))); (case side4 => exact (Kd.R_reads' HO_22.out).2.1); rintro e w45 ⟨rfl, hb⟩; refine ⟨_, rfl, ?_⟩; have n0_ := Aside0.mk (Kd.R_below (by (with_reducible repeat (first | apply Kd.R_alloc | apply Kd.R_drewN | apply Kd.R_drew)); exact HO_10.out) hb); have n1_ := Aside0.mk (Kd.R_below (by (with_reducible repeat (first | apply Kd.R_alloc | apply Kd.R_drewN | apply Kd.R_drew)); exact HO_22.out) hb); have n2_ := Aside0.mk (below_step (by repeat (first | (with_reducible first | exact HB.out | apply below_alloc | apply pw_below_drewN | apply below_drew1) | exact HB.out)) hb); clear HO_10; clear HO_22; clear HB; have HO_10 := n0_; have HO_22 := n1_; have HB := n2_; clear n0_ n1_ n2_; (try clear hb); (try clear hb2); (try clear hk); (try clear hi)) | (go_at_call 31; (with_reducible refine (timeboundlaw36_awake.calls k2  t188 _ A43.out).mono ?_); rintro e w46 ⟨rfl, hb⟩; have n0_ := Aside0.mk (Kd.R_below (by (with_reducible repeat (first | apply Kd.R_alloc | apply Kd.R_drewN | apply Kd.R_drew)); exact HO_10.out) hb); have n1_ := Aside0.mk (Kd.R_below (by (with_reducible repeat (first | apply Kd.R_alloc | apply Kd.R_drewN | apply Kd.R_drew)); exact HO_22.out) hb); have n2_ := Aside0.mk (below_step (by repeat (first | (with_reducible first | exact HB.out | apply below_alloc | apply pw_below_drewN | apply below_drew1) | exact HB.out)) hb); clear HO_10; clear HO_22; clear HB; have HO_10 := n0_; have HO_22 := n1_; have HB := n2_; clear n0_ n1_ n2_; (try clear hb); (try clear hb2); (try clear hk); (try clear hi)))
                  go_ret
                  exact ⟨by first | rfl | (simp [errW_none, errW_some] <;> rfl) | (simp [*, errW_none, errW_some] <;> rfl), by repeat (first | (with_reducible first | exact HB.out | apply below_alloc | apply pw_below_drewN | apply below_drew1) | exact HB.out)⟩
                · rw [if_neg c42] at H
                  have c42b0 : decide (t184 ≤ t175) = false := decide_eq_false c42
                  clear c42
                  obtain rfl := Option.some.inj H
                  obtain ⟨Ao47, co47, eo47⟩ := Kd.R_slice HO_22.out
                  subst eo47
                  go_wp2_with (first | ((with_reducible refine gate_callee (f := 39) rfl ?_); refine goesL_ (some 105) rfl rfl Try.func39 (by kernel_rfl) rfl #[.slice Ao16 t161.length co16, .slice Ao47 x22_2.length co47] rfl (by (try simp only [List.map_toArray, List.map_cons, List.map_nil]); first | done | rfl | (simp only [List.length_drop, List.length_take]; rfl)) ?_; (with_reducible refine (scratch_Value.calls k2 _ _ t161 _ _ x22_2 t184 t185 t186 _ ?side1 ?side2 ?side3 ?side4 A36.out).mono ?_); (case side1 => repeat (first | exact (Kd.R_reads' HO_10.out).2.2 | (with_reducible refine Kd.C_alloc ?_ _) | (with_reducible refine Kd.C_drewN ?_ _) | (with_reducible refine Kd.C_drew ?_))); (case side2 => exact (Kd.R_reads' HO_10.out).2.1); (case side3 => repeat (first | exact (Kd.R_reads' HO_22.out).2.2 | (with_reducible refine Kd.C_alloc ?_ _) | (with_reducible refine Kd.C_drewN ?_ _) | (with_reducible refine Kd.C_drew ?_))); (case side4 => exact (Kd.R_reads' HO_22.out).2.1); rintro e w48 ⟨rfl, hb⟩; refine ⟨_, rfl, ?_⟩; have n0_ := Aside0.mk (Kd.R_below (by (with_reducible repeat (first | apply Kd.R_alloc | apply Kd.R_drewN | apply Kd.R_drew)); exact HO_10.out) hb); have n1_ := Aside0.mk (Kd.R_below (by (with_reducible repeat (first | apply Kd.R_alloc | apply Kd.R_drewN | apply Kd.R_drew)); exact HO_22.out) hb); have n2_ := Aside0.mk (below_step (by repeat (first | (with_reducible first | exact HB.out | apply below_alloc | apply pw_below_drewN | apply below_drew1) | exact HB.out)) hb); clear HO_10; clear HO_22; clear HB; have HO_10 := n0_; have HO_22 := n1_; have HB := n2_; clear n0_ n1_ n2_; (try clear hb); (try clear hb2); (try clear hk); (try clear hi)))
                  go_ret
                  exact ⟨by first | rfl | (simp [errW_none, errW_some] <;> rfl) | (simp [*, errW_none, errW_some] <;> rfl), by repeat (first | (with_reducible first | exact HB.out | apply below_alloc | apply pw_below_drewN | apply below_drew1) | exact HB.out)⟩

/-- THE ONE PURE STATEMENT of timeboundlaw36_ScratchMore: yours. -/
def timeboundlaw36_ScratchMore.Pure : Prop := ∀ (l0 : List Int) (a1 : Int) (a2 : Int) (a3 : Int), l0.length ≤ maxLen → l0.length * 8 ≤ 140737488351232 → (∀ x ∈ l0, (Lit.int .i64 x).wf = true) → (Lit.int .i64 a1).wf = true → (Lit.int .i64 a2).wf = true → (Lit.int .i64 a3).wf = true → ∃ k, timeboundlaw36_ScratchMore.f k l0 a1 a2 a3 = some true
theorem timeboundlaw36_ScratchMore.walk (P : timeboundlaw36_ScratchMore.Pure) (a0 : Option Addr) (len0 cap0 : Nat) (z0 : List Int) (a1 : Int) (a2 : Int) (a3 : Int) (w : World) (w0 : (a0 = none ∧ len0 = 0 ∧ cap0 = 0 ∧ z0 = []) ∨ ∃ x, a0 = some x ∧ len0 ≤ cap0 ∧ cap0 ≤ maxLen ∧ z0.length = cap0 ∧ (∀ i, i < z0.length → w.cell? (x.add i) = some (.int .i64 (z0.getD i 0))) ∧ ∀ n ∈ z0, (Lit.int .i64 n).wf = true) (y0 : len0 * 8 ≤ 140737488351232) (w1 : (Lit.int .i64 a1).wf = true) (w2 : (Lit.int .i64 a2).wf = true) (w3 : (Lit.int .i64 a3).wf = true) :
    Calls Try.prog 7 #[.slice a0 len0 cap0, .int .i64 a1, .int .i64 a2, .int .i64 a3] w fun e w' => e = .returned (.bool true) ∧ Below w.heap.size w w' := by
  obtain ⟨l0, rfl, hr0, hm0, hw0, hc0⟩ := ReadsInt.ofRowC w0
  obtain ⟨k, h⟩ := P l0 a1 a2 a3 hm0 y0 hw0 w1 w2 w3
  refine (timeboundlaw36_ScratchMore.calls k _ _ l0 a1 a2 a3 true w (Kd.C_of_reads (d := (0 : Int)) (h1 := fun _ => rfl) hr0) hc0 h).mono ?_
  rintro e w' ⟨rfl, hd⟩
  exact ⟨rfl, hd⟩

end Go.Proofs.Ytdgegoefehmfmaa.QScratchMore
