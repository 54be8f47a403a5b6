/- The plain law of ScratchBest: both sides say the same of items, of words, of a choice. -/
import Derived.Test.YtdgegoefehmfmaaQScratchBestx3
import Derived.Test.YtdgegoefehmfmaaQScratchBestx4
import Derived.Test.YtdgegoefehmfmaaQScratchBestx5
import Derived.Test.YtdgegoefehmfmaaQScratchBestx8
namespace Go.Proofs.Ytdgegoefehmfmaa.QScratchBest
open Go.RowKit Go.Proofs.YtdgegoefehmfmaaW.PrintWords Go.Proofs.YtdgegoefehmfmaaW.PrintLast Go.Proofs.YtdgegoefehmfmaaW.PrintMore
set_option linter.unusedVariables false
set_option linter.unusedSimpArgs false
/-! #### the deck -/
theorem w64 {x : Int} (h : -9223372036854775808 ≤ x ∧ x ≤ 9223372036854775807) : wrap64 x = x := by unfold wrap64; omega
theorem mod_range (a n : Int) (h0 : 1 ≤ n) (h1 : n ≤ 1073741824) : ∃ v, timeboundmake_Mod.f a n = some v ∧ 0 ≤ v ∧ v < n := by
  unfold timeboundmake_Mod.f
  rw [if_neg (by omega)]
  refine ⟨_, rfl, ?_⟩
  have h2 : -n < Int.tmod a n ∧ Int.tmod a n < n := ⟨Int.lt_tmod_of_pos a (by omega), Int.tmod_lt_of_pos a (by omega)⟩
  rw [w64 (by omega), Int.tmod_eq_emod_of_nonneg (by omega)]
  exact ⟨Int.emod_nonneg _ (by omega), Int.emod_lt_of_pos _ (by omega)⟩
theorem next_range (s : List Int) (p n : Int) (hs : s.length ≤ 1152921504606846976) (hp : 0 ≤ p) (hq : p ≤ s.length) (h0 : 1 ≤ n) (h1 : n ≤ 1073741824) :
    ∃ v q, timeboundmake_Deck_Next.f s p n = some (v, q) ∧ 0 ≤ v ∧ v < n ∧ 0 ≤ q ∧ q ≤ s.length := by
  unfold timeboundmake_Deck_Next.f
  by_cases c : p ≥ (s.length : Int)
  · rw [if_pos c]; exact ⟨0, p, rfl, by omega, by omega, hp, hq⟩
  · rw [if_neg c]
    by_cases c1 : n ≤ 1
    · rw [if_pos c1]; exact ⟨0, p, rfl, by omega, by omega, hp, hq⟩
    · rw [if_neg c1]
      have e1 : wrap64 (p + 1) = p + 1 := w64 (by omega)
      have e2 : wrap64 (p + 1 - 1) = p := by rw [w64 (by omega)]; omega
      rw [e1, e2, if_pos hp, if_pos (by omega)]
      obtain ⟨v, hv, a, b⟩ := mod_range (rd s p) n h0 h1
      rw [hv]
      exact ⟨v, p + 1, rfl, a, b, by omega, by omega⟩
/-! #### items that are made are valid -/
structure ItemsInv (l : List S76) (a0 a1 : Int) : Prop where
  ok : ∀ j, j < l.length → itemAt l j = true
  code : ∀ x ∈ l, x.f0 = true → x.f1.f1 ≤ a0
  data : ∀ x ∈ l, x.f0 = false → x.f1.f1 ≤ a1
  b0 : 0 ≤ a0 ∧ a0 ≤ 12 * l.length
  b1 : 0 ≤ a1 ∧ a1 ≤ 12 * l.length
theorem itemAt_snoc_old (l : List S76) (x : S76) (j : Nat) (h : j < l.length) : itemAt (l ++ [x]) j = itemAt l j := by
  unfold itemAt
  rw [List.getD_eq_getElem?_getD, List.getD_eq_getElem?_getD, List.getElem?_append_left h, List.take_append_of_le_length (by omega)]
theorem itemAt_snoc_new (l : List S76) (x : S76) : itemAt (l ++ [x]) l.length = (goodB x && !(l.any (overlapB x))) := by
  unfold itemAt
  rw [List.getD_eq_getElem?_getD, List.getElem?_append_right (Nat.le_refl _), Nat.sub_self, List.take_left]
  rfl
theorem ItemsInv.nil : ItemsInv [] 0 0 := ⟨by simp, by simp, by simp, by simp, by simp⟩
theorem ItemsInv.add {l : List S76} {a0 a1 : Int} (h : ItemsInv l a0 a1) (hl : l.length ≤ 9) (x : S76) (b0 b1 g n t : Int) (hg : 0 ≤ g ∧ g < 4) (hn : 0 ≤ n ∧ n < 9) (ht : 0 ≤ t ∧ t < 12)
    (hx : (x = ⟨true, ⟨a0 + g, a0 + g + (1 + n)⟩, 1 + n, t⟩ ∧ b0 = a0 + g + (1 + n) ∧ b1 = a1) ∨ (x = ⟨false, ⟨a1 + g, a1 + g + (1 + n)⟩, 1 + n, t⟩ ∧ b0 = a0 ∧ b1 = a1 + g + (1 + n))) :
    ItemsInv (l ++ [x]) b0 b1 := by
  have h0 := h.b0
  have h1 := h.b1
  have hgood : goodB x = true := by
    rcases hx with ⟨rfl, _⟩ | ⟨rfl, _⟩
    all_goals
      unfold goodB
      simp only [Bool.and_eq_true, decide_eq_true_eq]
      refine ⟨⟨⟨⟨⟨?_, ?_⟩, ?_⟩, ?_⟩, ?_⟩, ?_⟩
      all_goals try omega
      rw [w64 (by omega)]
      omega
  have hover : l.any (overlapB x) = false := by
    rw [List.any_eq_false]
    intro y hy
    have c := h.code y hy
    have d := h.data y hy
    rcases hx with ⟨rfl, _⟩ | ⟨rfl, _⟩
    all_goals
      unfold overlapB
      cases hq : y.f0 with
      | true => first | (have := c hq; simp [show ¬ a0 + g < y.f1.f1 by omega]) | simp
      | false => first | (have := d hq; simp [show ¬ a1 + g < y.f1.f1 by omega]) | simp
  refine ⟨?_, ?_, ?_, ?_, ?_⟩
  · intro j hj
    rw [List.length_append, List.length_singleton] at hj
    rcases Nat.lt_or_eq_of_le (Nat.le_of_lt_succ hj) with e | rfl
    · rw [itemAt_snoc_old l x j e]; exact h.ok j e
    · rw [itemAt_snoc_new, hgood, hover]; rfl
  · intro y hy hq
    rw [List.mem_append, List.mem_singleton] at hy
    rcases hy with hy | rfl
    · have := h.code y hy hq
      rcases hx with ⟨_, e, _⟩ | ⟨_, e, _⟩ <;> omega
    · rcases hx with ⟨rfl, e, _⟩ | ⟨rfl, e, _⟩
      · simp only; omega
      · simp at hq
  · intro y hy hq
    rw [List.mem_append, List.mem_singleton] at hy
    rcases hy with hy | rfl
    · have := h.data y hy hq
      rcases hx with ⟨_, _, e⟩ | ⟨_, _, e⟩ <;> omega
    · rcases hx with ⟨rfl, _, e⟩ | ⟨rfl, _, e⟩
      · simp at hq
      · simp only; omega
  · rw [List.length_append, List.length_singleton]
    rcases hx with ⟨_, e, _⟩ | ⟨_, e, _⟩ <;> omega
  · rw [List.length_append, List.length_singleton]
    rcases hx with ⟨_, _, e⟩ | ⟨_, _, e⟩ <;> omega
theorem items_l0 (s : List Int) (hs : s.length ≤ 1152921504606846976) (d : Nat) : ∀ (l : List S76) (p a0 a1 : Int), ItemsInv l a0 a1 → l.length + d ≤ 10 → 0 ≤ p → p ≤ s.length →
    ∃ r q, Ev (fun k => timeboundmake2_Items.l0 k l d s p a0 a1) (r, q) ∧ itemsB r = true ∧ 0 ≤ q ∧ q ≤ s.length := by
  induction d with
  | zero =>
    intro l p a0 a1 hi hl hp hq
    refine ⟨l, p, Ev.step (f := fun _ => some (l, p)) (fun k => by simp only [timeboundmake2_Items.l0]; rw [if_neg (by omega)]) (Ev.now _), ?_, hp, hq⟩
    rw [itemsB_end hi.ok]
    exact decide_eq_true (by omega)
  | succ d ih =>
    intro l p a0 a1 hi hl hp hq
    have h0 := hi.b0
    have h1 := hi.b1
    obtain ⟨c, p1, e1, c0, c1, p10, p11⟩ := next_range s p 2 hs hp hq (by omega) (by omega)
    obtain ⟨n, p2, e2, n0, n1, p20, p21⟩ := next_range s p1 9 hs p10 p11 (by omega) (by omega)
    obtain ⟨g, p3, e3, g0, g1, p30, p31⟩ := next_range s p2 4 hs p20 p21 (by omega) (by omega)
    obtain ⟨t, p4, e4, t0, t1, p40, p41⟩ := next_range s p3 12 hs p30 p31 (by omega) (by omega)
    have w1 : wrap64 (1 + n) = 1 + n := w64 (by omega)
    have w2 : wrap64 (((d + 1 : Nat) : Int) - 1) = d := by rw [w64 (by omega)]; omega
    have w3 : wrap64 (a0 + g) = a0 + g := w64 (by omega)
    have w4 : wrap64 (a0 + g + (1 + n)) = a0 + g + (1 + n) := w64 (by omega)
    have w5 : wrap64 (a1 + g) = a1 + g := w64 (by omega)
    have w6 : wrap64 (a1 + g + (1 + n)) = a1 + g + (1 + n) := w64 (by omega)
    by_cases hc : c = 0
    · obtain ⟨r, q, hE, hv, q0, q1⟩ := ih _ p4 (a0 + g + (1 + n)) a1 (hi.add (by omega) ⟨true, ⟨a0 + g, a0 + g + (1 + n)⟩, 1 + n, t⟩ _ _ g n t ⟨g0, g1⟩ ⟨n0, n1⟩ ⟨t0, t1⟩ (.inl ⟨rfl, rfl, rfl⟩)) (by simp; omega) p40 p41
      refine ⟨r, q, Ev.step (fun k => ?_) hE, hv, q0, q1⟩
      simp only [timeboundmake2_Items.l0]
      rw [if_pos (by omega), e1, Option.bind_some, e2, Option.bind_some, if_pos hc, e3, Option.bind_some, e4, Option.bind_some, if_pos (by omega), w1, w2, w3, w4]
    · obtain ⟨r, q, hE, hv, q0, q1⟩ := ih _ p4 a0 (a1 + g + (1 + n)) (hi.add (by omega) ⟨false, ⟨a1 + g, a1 + g + (1 + n)⟩, 1 + n, t⟩ _ _ g n t ⟨g0, g1⟩ ⟨n0, n1⟩ ⟨t0, t1⟩ (.inr ⟨rfl, rfl, rfl⟩)) (by simp; omega) p40 p41
      refine ⟨r, q, Ev.step (fun k => ?_) hE, hv, q0, q1⟩
      simp only [timeboundmake2_Items.l0]
      rw [if_pos (by omega), e1, Option.bind_some, e2, Option.bind_some, if_neg hc, if_pos (by omega), e3, Option.bind_some, e4, Option.bind_some, if_pos (by omega), w1, w2, w5, w6]
theorem items_any (s : List Int) (p : Int) (hs : s.length ≤ 1152921504606846976) (hp : 0 ≤ p) (hq : p ≤ s.length) :
    ∃ r q, Ev (fun k => timeboundmake2_Items.f k s p) (r, q) ∧ itemsB r = true ∧ 0 ≤ q ∧ q ≤ s.length := by
  obtain ⟨c, p1, e1, c0, c1, p10, p11⟩ := next_range s p 11 hs hp hq (by omega) (by omega)
  obtain ⟨n, rfl⟩ := Int.eq_ofNat_of_zero_le c0
  obtain ⟨r, q, hE, h⟩ := items_l0 s hs n [] p1 0 0 ItemsInv.nil (by simp; omega) p10 p11
  refine ⟨r, q, Ev.congr (fun k => ?_) hE, h⟩
  unfold timeboundmake2_Items.f
  rw [e1, Option.bind_some]
/-! #### choices and their values -/
structure IsChoice (n : Int) (c : List Int) : Prop where
  fits : ∀ i : Int, 0 ≤ i → i < c.length → 0 ≤ rd c i ∧ rd c i < n
  up : ∀ i : Int, 0 ≤ i → i + 1 < c.length → rd c i < rd c (i + 1)
theorem choice_l0 (n : Int) (c : List Int) (hc : IsChoice n c) (hl : c.length ≤ 1152921504606846976) (d : Nat) : ∀ i : Int, 0 ≤ i → (c.length : Int) - i = d → Ev (fun k => scratch_choice.l0 k n c c (c.length : Int) i) true := by
  induction d with
  | zero => exact fun i h0 hd => Ev.step (f := fun _ => some true) (fun k => by simp only [scratch_choice.l0]; rw [if_neg (by omega)]) (Ev.now _)
  | succ d ih =>
    intro i h0 hd
    obtain ⟨a, b⟩ := hc.fits i h0 (by omega)
    have w1 : wrap64 (i + 1) = i + 1 := w64 (by omega)
    refine Ev.step (fun k => ?_) (ih (i + 1) (by omega) (by omega))
    simp only [scratch_choice.l0]
    rw [if_pos (by omega), if_pos h0, if_pos (by omega), if_neg (by omega), if_neg (by omega), w1]
    by_cases z : i > 0
    · have w2 : wrap64 (i - 1) = i - 1 := w64 (by omega)
      have u := hc.up (i - 1) (by omega) (by omega)
      rw [show i - 1 + 1 = i by omega] at u
      rw [if_pos z, w2, if_pos (by omega), if_pos (by omega), if_neg (by omega)]
    · rw [if_neg z]
theorem choice_any (n : Int) (c : List Int) (hc : IsChoice n c) (hl : c.length ≤ 1152921504606846976) : Ev (fun k => scratch_choice.f k n c) true :=
  choice_l0 n c hc hl c.length 0 (by omega) (by omega)
/-- The sums of gains and sizes, as int's arithmetic has them. -/
def val (x : List S76) (c : List Int) : Int × Int := c.foldl (fun a k => (wrap64 (a.1 + (rd_T76 x k).f3), wrap64 (a.2 + (rd_T76 x k).f2))) (0, 0)
theorem value_l0 (x : List S76) (c : List Int) (hc : IsChoice x.length c) (hl : c.length ≤ 1152921504606846976) (d : Nat) : ∀ (i : Int) (a : Int × Int), 0 ≤ i → (c.length : Int) - i = d →
    Ev (fun k => scratch_Value.l0 k x a.1 a.2 c (c.length : Int) i) (((c.drop i.toNat).foldl (fun a k => (wrap64 (a.1 + (rd_T76 x k).f3), wrap64 (a.2 + (rd_T76 x k).f2))) a).1, ((c.drop i.toNat).foldl (fun a k => (wrap64 (a.1 + (rd_T76 x k).f3), wrap64 (a.2 + (rd_T76 x k).f2))) a).2, true) := by
  induction d with
  | zero =>
    intro i a h0 hd
    refine Ev.step (f := fun _ => some (a.1, a.2, true)) (fun k => by simp only [scratch_Value.l0]; rw [if_neg (by omega)]) ?_
    rw [List.drop_of_length_le (by omega)]
    exact Ev.now _
  | succ d ih =>
    intro i a h0 hd
    obtain ⟨p, q⟩ := hc.fits i h0 (by omega)
    have hlt : i.toNat < c.length := by omega
    have w1 : wrap64 (i + 1) = i + 1 := w64 (by omega)
    have hr : rd c i = c[i.toNat] := by simp [rd, List.getD_eq_getElem?_getD, hlt]
    have := ih (i + 1) (wrap64 (a.1 + (rd_T76 x (rd c i)).f3), wrap64 (a.2 + (rd_T76 x (rd c i)).f2)) (by omega) (by omega)
    rw [show (i + 1).toNat = i.toNat + 1 by omega] at this
    rw [List.drop_eq_getElem_cons hlt, List.foldl_cons, ← hr]
    refine Ev.step (fun k => ?_) this
    simp only [scratch_Value.l0]
    rw [if_pos (by omega), if_pos h0, if_pos (by omega), if_pos p, if_pos q, w1]
theorem value_any (x : List S76) (c : List Int) (hx : itemsB x = true) (hc : IsChoice x.length c) (hl : c.length ≤ 1152921504606846976) : Ev (fun k => scratch_Value.f k x c) ((val x c).1, (val x c).2, true) := by
  unfold scratch_Value.f
  have h1 : ∀ (f : Bool → Option (Int × Int × Bool)), (scratch_Valid.f x).bind f = f true := fun f => by unfold scratch_Valid.f; rw [hx]; rfl
  refine Ev.congr (fun k => by rw [h1, if_pos rfl]) ?_
  refine Ev.bind (choice_any x.length c hc hl) ?_
  refine Ev.step (fun k => by simp only [scratch_Value.j0]; rw [if_neg (by simp)]) (value_l0 x c hc hl c.length 0 (0, 0) (by omega) (by omega))
/-! #### lists in order -/
def cmpL : List Int → List Int → Int
  | [], [] => 0
  | [], _ :: _ => -1
  | _ :: _, [] => 1
  | a :: l, b :: m => if a < b then -1 else if b < a then 1 else cmpL l m
theorem cmp_int (a b : Int) : cmp_Compare_int.f a b = some (if a < b then -1 else if b < a then 1 else 0) := by
  unfold cmp_Compare_int.f cmp_isNaN_int.f
  simp
  split
  · rfl
  · split <;> simp_all
theorem compare_l0 (c b : List Int) (hl : c.length ≤ 1152921504606846976) (d : Nat) : ∀ i : Int, 0 ≤ i → (c.length : Int) - i = d → (i ≤ b.length) → Ev (fun k => slices_Compare_int_int.l0 k c b c (c.length : Int) i) (cmpL (c.drop i.toNat) (b.drop i.toNat)) := by
  induction d with
  | zero =>
    intro i h0 hd hb
    rw [List.drop_of_length_le (show c.length ≤ i.toNat by omega)]
    by_cases z : (c.length : Int) < (b.length : Int)
    · have : b.drop i.toNat = b[i.toNat]'(by omega) :: b.drop (i.toNat + 1) := List.drop_eq_getElem_cons (by omega)
      rw [this]
      exact Ev.step (f := fun _ => some (-1)) (fun k => by simp only [slices_Compare_int_int.l0]; rw [if_neg (by omega), if_pos z]) (Ev.now _)
    · rw [List.drop_of_length_le (show b.length ≤ i.toNat by omega)]
      exact Ev.step (f := fun _ => some 0) (fun k => by simp only [slices_Compare_int_int.l0]; rw [if_neg (by omega), if_neg z]) (Ev.now _)
  | succ d ih =>
    intro i h0 hd hb
    have hlt : i.toNat < c.length := by omega
    rw [List.drop_eq_getElem_cons hlt]
    by_cases z : i ≥ (b.length : Int)
    · rw [List.drop_of_length_le (show b.length ≤ i.toNat by omega)]
      exact Ev.step (f := fun _ => some 1) (fun k => by simp only [slices_Compare_int_int.l0]; rw [if_pos (by omega), if_pos h0, if_pos (by omega), if_pos z]) (Ev.now _)
    · have hlb : i.toNat < b.length := by omega
      rw [List.drop_eq_getElem_cons hlb]
      have r1 : rd c i = c[i.toNat] := by simp [rd, List.getD_eq_getElem?_getD, hlt]
      have r2 : rd b i = b[i.toNat] := by simp [rd, List.getD_eq_getElem?_getD, hlb]
      have w1 : wrap64 (i + 1) = i + 1 := w64 (by omega)
      have hs : ∀ k, slices_Compare_int_int.l0 (k + 1) c b c (c.length : Int) i = if (if rd c i < rd b i then -1 else if rd b i < rd c i then 1 else 0) = 0 then slices_Compare_int_int.l0 k c b c (c.length : Int) (i + 1) else some (if rd c i < rd b i then -1 else if rd b i < rd c i then 1 else 0) := fun k => by
        simp only [slices_Compare_int_int.l0]
        rw [if_pos (by omega), if_pos h0, if_pos (by omega), if_neg z, if_pos (by omega), cmp_int, Option.bind_some, w1]
      rw [r1, r2] at hs
      unfold cmpL
      by_cases l1 : c[i.toNat] < b[i.toNat]
      · rw [if_pos l1]
        exact Ev.step (f := fun _ => some (-1)) (fun k => by rw [hs]; simp [l1]) (Ev.now _)
      · rw [if_neg l1]
        by_cases l2 : b[i.toNat] < c[i.toNat]
        · rw [if_pos l2]
          exact Ev.step (f := fun _ => some 1) (fun k => by rw [hs]; simp [l1, l2]) (Ev.now _)
        · rw [if_neg l2]
          have := ih (i + 1) (by omega) (by omega) (by omega)
          rw [show (i + 1).toNat = i.toNat + 1 by omega] at this
          exact Ev.step (fun k => by rw [hs]; simp [l1, l2]) this
theorem compare_any (c b : List Int) (hl : c.length ≤ 1152921504606846976) : Ev (fun k => slices_Compare_int_int.f k c b) (cmpL c b) :=
  compare_l0 c b hl c.length 0 (by omega) (by omega) (by omega)
/-! #### choices by the bits of a number -/
/-- Does bit i say yes? -/
def bitB (x i : Int) : Bool := decide (Go.bits .and .i64 (shr .i64 x i) 1 = 1)
def chosenBy (f : Nat → Bool) (n : Nat) : List Int := ((List.range n).filter f).map (fun i : Nat => (i : Int))
theorem chosenBy_length (f : Nat → Bool) (n : Nat) : (chosenBy f n).length ≤ n := by
  unfold chosenBy
  rw [List.length_map]
  exact Nat.le_trans (List.length_filter_le _ _) (by simp)
theorem chosenBy_succ (f : Nat → Bool) (n : Nat) : chosenBy f (n + 1) = chosenBy f n ++ (if f n then [(n : Int)] else []) := by
  unfold chosenBy
  rw [List.range_succ, List.filter_append, List.map_append]
  cases h : f n <;> simp [List.filter, h]
theorem chosenBy_choice (f : Nat → Bool) (n : Nat) : IsChoice n (chosenBy f n) ∧ ∀ x ∈ chosenBy f n, x < n := by
  have hm : ∀ x ∈ chosenBy f n, 0 ≤ x ∧ x < n := by
    intro x hx
    unfold chosenBy at hx
    rw [List.mem_map] at hx
    obtain ⟨i, hi, rfl⟩ := hx
    rw [List.mem_filter, List.mem_range] at hi
    omega
  have hp : List.Pairwise (· < ·) (chosenBy f n) := by
    unfold chosenBy
    refine List.Pairwise.map (R := (· < ·)) _ (fun a b h => by omega) ?_
    exact List.Pairwise.filter _ List.pairwise_lt_range
  refine ⟨⟨fun i h0 h1 => ?_, fun i h0 h1 => ?_⟩, fun x hx => (hm x hx).2⟩
  · have hlt : i.toNat < (chosenBy f n).length := by omega
    have hr : rd (chosenBy f n) i = (chosenBy f n)[i.toNat] := by simp [rd, List.getD_eq_getElem?_getD, hlt]
    rw [hr]
    exact hm _ (List.getElem_mem hlt)
  · have l1 : i.toNat < (chosenBy f n).length := by omega
    have l2 : i.toNat + 1 < (chosenBy f n).length := by omega
    have r1 : rd (chosenBy f n) i = (chosenBy f n)[i.toNat] := by simp [rd, List.getD_eq_getElem?_getD, l1]
    have r2 : rd (chosenBy f n) (i + 1) = (chosenBy f n)[i.toNat + 1] := by simp [rd, List.getD_eq_getElem?_getD, show (i + 1).toNat = i.toNat + 1 by omega, l2]
    rw [r1, r2]
    exact List.pairwise_iff_getElem.1 hp _ _ l1 l2 (by omega)
theorem chosenBy_congr {f g : Nat → Bool} {n : Nat} (h : ∀ i, i < n → f i = g i) : chosenBy f n = chosenBy g n := by
  unfold chosenBy
  congr 1
  exact List.filter_congr (fun i hi => h i (List.mem_range.1 hi))
theorem bitB_nat (m i : Nat) (hm : m < 4611686018427387904) (hi : i < 64) : bitB m i = m.testBit i := by
  unfold bitB shr
  have e1 : min ((i : Int).toNat) IntKind.i64.bits = i := by
    rw [Int.toNat_natCast]; exact Nat.min_eq_left (by show i ≤ 64; omega)
  rw [e1]
  have e2 : ((m : Int) / 2 ^ i) = ((m / 2 ^ i : Nat) : Int) := by simp
  have hlt : m / 2 ^ i < 4611686018427387904 := Nat.lt_of_le_of_lt (Nat.div_le_self _ _) hm
  have e3 := bits_mask .i64 62 (by decide) (fun n h0 h1 => by rw [IntKind.wrap_i64]; omega) 1 (by decide) ((m / 2 ^ i : Nat) : Int) (Int.natCast_nonneg _) (Int.lt_of_lt_of_le (Int.ofNat_lt.2 hlt) (by decide))
  rw [show ((2 : Int) ^ 1 - 1) = 1 from rfl] at e3
  rw [e2, e3, Nat.testBit_eq_decide_div_mod_eq]
  generalize m / 2 ^ i = q
  rw [show ((2 : Int) ^ 1) = 2 from rfl]
  exact decide_eq_decide.2 (by omega)
theorem mask_of (f : Nat → Bool) (n : Nat) : ∃ m, m < 2 ^ n ∧ ∀ i, i < n → m.testBit i = f i := by
  induction n with
  | zero => exact ⟨0, by simp, fun i h => by omega⟩
  | succ n ih =>
    obtain ⟨m, hm, hb⟩ := ih
    cases hf : f n with
    | false =>
      refine ⟨m, by rw [Nat.pow_succ]; omega, fun i hi => ?_⟩
      rcases Nat.lt_or_eq_of_le (Nat.le_of_lt_succ hi) with h | rfl
      · exact hb i h
      · rw [hf]; exact Nat.testBit_lt_two_pow hm
    | true =>
      refine ⟨2 ^ n + m, by rw [Nat.pow_succ]; omega, fun i hi => ?_⟩
      rcases Nat.lt_or_eq_of_le (Nat.le_of_lt_succ hi) with h | rfl
      · rw [Nat.testBit_two_pow_add_gt h]; exact hb i h
      · rw [Nat.testBit_two_pow_add_eq, Nat.testBit_lt_two_pow hm, hf]; rfl
/-- One more choice is looked at. -/
def bestStep (x : List S76) (w : Int) (st : List Int × Int × Int) (c : List Int) : List Int × Int × Int :=
  if (val x c).2 > w then st
  else if (val x c).1 > st.2.1 then (c, val x c)
  else if (val x c).1 = st.2.1 then
    (if (val x c).2 < st.2.2 then (c, val x c) else if (val x c).2 = st.2.2 then (if cmpL c st.1 < 0 then (c, val x c) else st) else st)
  else st
def maskC (n m : Nat) : List Int := chosenBy (m.testBit) n
def bestOf (x : List S76) (w : Int) (l : List Nat) (st : List Int × Int × Int) : List Int × Int × Int := l.foldl (fun st m => bestStep x w st (maskC x.length m)) st
/-- The inner loop collects a choice; then it goes on. -/
theorem best_l1 (x : List S76) (hx : itemsB x = true) (hn : x.length ≤ 10) (w : Int) (st : List Int × Int × Int) (t : Int) (m : Nat) (hm : m < 1024) (r : List Int × Int)
    (hr : Ev (fun k => scratch_Best.l0 k x w (bestStep x w st (maskC x.length m)).1 (bestStep x w st (maskC x.length m)).2.1 (bestStep x w st (maskC x.length m)).2.2 t ((m : Int) + 1)) r) (d : Nat) :
    ∀ i : Nat, i + d = x.length → Ev (fun k => scratch_Best.l1 k x w st.1 st.2.1 st.2.2 m (maskC i m) t m (x.length : Int) i) r := by
  induction d with
  | zero =>
    intro i hi
    obtain rfl : i = x.length := by omega
    have hc := (chosenBy_choice m.testBit x.length).1
    have hv := value_any x (maskC x.length m) hx hc (Nat.le_trans (chosenBy_length _ _) (by omega))
    have hcmp := compare_any (maskC x.length m) st.1 (Nat.le_trans (chosenBy_length _ _) (by omega))
    have w1 : wrap64 ((m : Int) + 1) = m + 1 := w64 (by omega)
    have hs : ∀ k, scratch_Best.l1 (k + 1) x w st.1 st.2.1 st.2.2 m (maskC x.length m) t m (x.length : Int) x.length = (scratch_Value.f k x (maskC x.length m)).bind fun bt119 => (if bt119.2.1 > w then (scratch_Best.l0 k x w st.1 st.2.1 st.2.2 t (wrap64 ((m : Int) + 1))) else (if bt119.1 > st.2.1 then (scratch_Best.l0 k x w (maskC x.length m) bt119.1 bt119.2.1 t (wrap64 ((m : Int) + 1))) else (if bt119.1 = st.2.1 then (if bt119.2.1 < st.2.2 then (scratch_Best.l0 k x w (maskC x.length m) bt119.1 bt119.2.1 t (wrap64 ((m : Int) + 1))) else (if bt119.2.1 = st.2.2 then ((slices_Compare_int_int.f k (maskC x.length m) st.1).bind fun t122 => (if t122 < 0 then (scratch_Best.l0 k x w (maskC x.length m) bt119.1 bt119.2.1 t (wrap64 ((m : Int) + 1))) else (scratch_Best.l0 k x w st.1 st.2.1 st.2.2 t (wrap64 ((m : Int) + 1))))) else (scratch_Best.l0 k x w st.1 st.2.1 st.2.2 t (wrap64 ((m : Int) + 1))))) else (scratch_Best.l0 k x w st.1 st.2.1 st.2.2 t (wrap64 ((m : Int) + 1)))))) := fun k => by
      simp only [scratch_Best.l1]
      rw [if_neg (by omega)]
    refine Ev.step hs (Ev.bind hv ?_)
    rw [w1]
    unfold bestStep at hr
    generalize maskC x.length m = c at *
    by_cases c1 : (val x c).2 > w
    · simp only [if_pos c1] at hr ⊢; exact hr
    · simp only [if_neg c1] at hr ⊢
      by_cases c2 : (val x c).1 > st.2.1
      · simp only [if_pos c2] at hr ⊢; exact hr
      · simp only [if_neg c2] at hr ⊢
        by_cases c3 : (val x c).1 = st.2.1
        · simp only [if_pos c3] at hr ⊢
          by_cases c4 : (val x c).2 < st.2.2
          · simp only [if_pos c4] at hr ⊢; exact hr
          · simp only [if_neg c4] at hr ⊢
            by_cases c5 : (val x c).2 = st.2.2
            · simp only [if_pos c5] at hr ⊢
              refine Ev.bind hcmp ?_
              by_cases c6 : cmpL c st.1 < 0
              · simp only [if_pos c6] at hr ⊢; exact hr
              · simp only [if_neg c6] at hr ⊢; exact hr
            · simp only [if_neg c5] at hr ⊢; exact hr
        · simp only [if_neg c3] at hr ⊢; exact hr
  | succ d ih =>
    intro i hi
    have w1 : wrap64 ((i : Int) + 1) = ((i + 1 : Nat) : Int) := by rw [w64 (by omega)]; omega
    have hb := bitB_nat m i (by omega) (by omega)
    have := ih (i + 1) (by omega)
    have hlen := chosenBy_length m.testBit i
    refine Ev.step (fun k => ?_) this
    simp only [scratch_Best.l1]
    rw [if_pos (by omega), if_pos (by omega), w1]
    unfold bitB at hb
    unfold maskC at *
    rw [chosenBy_succ]
    cases ht : m.testBit i with
    | true =>
      rw [ht] at hb
      rw [if_pos (of_decide_eq_true hb), if_pos (by omega)]
      rfl
    | false =>
      rw [ht] at hb
      rw [if_neg (of_decide_eq_false hb)]
      simp
theorem best_l0 (x : List S76) (hx : itemsB x = true) (hn : x.length ≤ 10) (w : Int) (d : Nat) : ∀ (m : Nat) (st : List Int × Int × Int), m + d = 2 ^ x.length →
    Ev (fun k => scratch_Best.l0 k x w st.1 st.2.1 st.2.2 ((2 ^ x.length : Nat) : Int) m) ((bestOf x w (List.range' m d) st).1, 0) := by
  have hp : 2 ^ x.length ≤ 1024 := Nat.le_trans (Nat.pow_le_pow_right (by decide) hn) (by decide)
  induction d with
  | zero =>
    intro m st hm
    refine Ev.step (f := fun _ => some (st.1, 0)) (fun k => by simp only [scratch_Best.l0]; rw [if_neg (by omega)]) ?_
    exact Ev.now _
  | succ d ih =>
    intro m st hm
    have := ih (m + 1) (bestStep x w st (maskC x.length m)) (by omega)
    rw [List.range'_succ]
    refine Ev.step (fun k => ?_) (best_l1 x hx hn w st _ m (by omega) _ this x.length 0 (by omega))
    simp only [scratch_Best.l0]
    rw [if_pos (by omega)]
    rfl
theorem itemsB_len {x : List S76} (hx : itemsB x = true) : x.length ≤ 10 := by
  unfold itemsB at hx
  rw [Bool.and_eq_true, decide_eq_true_eq] at hx
  omega
theorem shl_one (n : Nat) (hn : n ≤ 10) : shl .i64 1 (n : Int) = ((2 ^ n : Nat) : Int) := by
  have : n = 0 ∨ n = 1 ∨ n = 2 ∨ n = 3 ∨ n = 4 ∨ n = 5 ∨ n = 6 ∨ n = 7 ∨ n = 8 ∨ n = 9 ∨ n = 10 := by omega
  rcases this with h | h | h | h | h | h | h | h | h | h | h <;> subst h <;> decide
/-- The best choice, as the loop finds it. -/
def bestP (x : List S76) (w : Int) : List Int × Int × Int := bestOf x w (List.range (2 ^ x.length)) ([], 0, 0)
theorem best_any (x : List S76) (hx : itemsB x = true) (w : Int) (h0 : 0 ≤ w) (h1 : w ≤ 256) : Ev (fun k => scratch_Best.f k x w) ((bestP x w).1, 0) := by
  have hn := itemsB_len hx
  unfold scratch_Best.f
  have e1 : ∀ (f : Bool → Option (List Int × Int)), (scratch_Valid.f x).bind f = f true := fun f => by unfold scratch_Valid.f; rw [hx]; rfl
  refine Ev.congr (fun k => by rw [e1, if_pos rfl, if_neg (show ¬ w < 0 by omega), show decide (w > 256) = false from decide_eq_false (by omega)]) ?_
  have := best_l0 x hx hn w (2 ^ x.length) 0 ([], 0, 0) (by omega)
  rw [← List.range_eq_range'] at this
  refine Ev.step (fun k => ?_) this
  simp only [scratch_Best.j0]
  rw [if_neg (by simp), shl_one x.length hn]
  rfl
structure BestInv (x : List S76) (w : Int) (st : List Int × Int × Int) : Prop where
  val : st.2 = val x st.1
  small : st.2.2 ≤ w
  choice : IsChoice x.length st.1
  short : st.1.length ≤ x.length
  mask : ∃ f, st.1 = chosenBy f x.length
theorem bestStep_inv (x : List S76) (w : Int) (st : List Int × Int × Int) (m : Nat) (h : BestInv x w st) :
    BestInv x w (bestStep x w st (maskC x.length m)) ∧ st.2.1 ≤ (bestStep x w st (maskC x.length m)).2.1 ∧ ((val x (maskC x.length m)).2 ≤ w → (val x (maskC x.length m)).1 ≤ (bestStep x w st (maskC x.length m)).2.1) := by
  have hc := (chosenBy_choice m.testBit x.length).1
  have hl := chosenBy_length m.testBit x.length
  change IsChoice x.length (maskC x.length m) at hc
  change (maskC x.length m).length ≤ x.length at hl
  have hk : ∃ f, maskC x.length m = chosenBy f x.length := ⟨_, rfl⟩
  generalize maskC x.length m = c at *
  unfold bestStep
  by_cases c1 : (val x c).2 > w
  · rw [if_pos c1]; exact ⟨h, Int.le_refl _, fun h2 => by omega⟩
  · rw [if_neg c1]
    have hnew : BestInv x w (c, val x c) := ⟨rfl, by simp only; omega, hc, hl, hk⟩
    by_cases c2 : (val x c).1 > st.2.1
    · rw [if_pos c2]; exact ⟨hnew, by simp only; omega, fun _ => Int.le_refl _⟩
    · rw [if_neg c2]
      by_cases c3 : (val x c).1 = st.2.1
      · rw [if_pos c3]
        split
        · exact ⟨hnew, by simp only; omega, fun _ => Int.le_refl _⟩
        · split
          · split
            · exact ⟨hnew, by simp only; omega, fun _ => Int.le_refl _⟩
            · exact ⟨h, Int.le_refl _, fun _ => by omega⟩
          · exact ⟨h, Int.le_refl _, fun _ => by omega⟩
      · rw [if_neg c3]; exact ⟨h, Int.le_refl _, fun _ => by omega⟩
theorem bestOf_inv (x : List S76) (w : Int) (l : List Nat) : ∀ (st : List Int × Int × Int), BestInv x w st →
    BestInv x w (bestOf x w l st) ∧ st.2.1 ≤ (bestOf x w l st).2.1 ∧ ∀ m ∈ l, (val x (maskC x.length m)).2 ≤ w → (val x (maskC x.length m)).1 ≤ (bestOf x w l st).2.1 := by
  induction l with
  | nil => exact fun st h => ⟨h, Int.le_refl _, by simp⟩
  | cons m l ih =>
    intro st h
    obtain ⟨h1, h2, h3⟩ := bestStep_inv x w st m h
    obtain ⟨k1, k2, k3⟩ := ih _ h1
    refine ⟨k1, Int.le_trans h2 k2, fun m' hm hs => ?_⟩
    rw [List.mem_cons] at hm
    rcases hm with rfl | hm
    · exact Int.le_trans (h3 hs) k2
    · exact k3 m' hm hs
theorem bestP_inv (x : List S76) (w : Int) (h0 : 0 ≤ w) : BestInv x w (bestP x w) ∧ ∀ f : Nat → Bool, (val x (chosenBy f x.length)).2 ≤ w → (val x (chosenBy f x.length)).1 ≤ (bestP x w).2.1 := by
  obtain ⟨h1, _, h3⟩ := bestOf_inv x w (List.range (2 ^ x.length)) ([], 0, 0) ⟨rfl, h0, ⟨fun i a b => by simp at b; omega, fun i a b => by simp at b; omega⟩, Nat.zero_le _, ⟨fun _ => false, by unfold chosenBy; simp⟩⟩
  refine ⟨h1, fun f hs => ?_⟩
  obtain ⟨m, hm, hb⟩ := mask_of f x.length
  have hc : chosenBy f x.length = maskC x.length m := chosenBy_congr (fun i hi => (hb i hi).symm)
  rw [hc] at hs ⊢
  exact h3 m (List.mem_range.2 hm) hs
theorem awake36 : Ev (fun k => timeboundlaw36_awake.f k) true := by
  unfold timeboundlaw36_awake.f timeboundlaw36_three.f
  simp only [Option.bind_some]
  refine Ev.bind (best_any _ (by decide +kernel) 4 (by omega) (by omega)) ?_
  rw [show (bestP [⟨true, ⟨0, 3⟩, 3, 5⟩, ⟨true, ⟨3, 5⟩, 2, 3⟩, ⟨false, ⟨0, 2⟩, 2, 3⟩] 4).1 = [1, 2] by decide +kernel]
  exact Ev.now _
/-! #### ScratchBest: both say the same of any items -/
section
variable {y : List S76} {X : S76}
theorem rvalid36_l1 (p : List S76) (hp : p.length ≤ 1000) (i : Int) {R : Bool} (hR : Ev (fun k => timeboundref36_Valid.l0 k y y (y.length : Int) (wrap64 (i + 1))) R) (d : Nat) : ∀ j : Int, 0 ≤ j → (p.length : Int) - j = d →
    Ev (fun k => timeboundref36_Valid.l1 k y y (y.length : Int) i p (p.length : Int) j X.f0 X.f1.f0 X.f1.f1 X.f2 X.f3) (if (p.drop j.toNat).any (overlapB X) = true then false else R) := by
  induction d with
  | zero =>
    intro j h0 hd
    rw [List.drop_of_length_le (by omega), if_neg (by simp)]
    exact Ev.step (fun k => by simp only [timeboundref36_Valid.l1]; rw [if_neg (by omega)]) hR
  | succ d ih =>
    intro j h0 hd
    have hlt : j.toNat < p.length := by omega
    have hr : rd_T76 p j = p[j.toNat] := by simp [rd_T76, List.getD_eq_getElem?_getD, hlt]
    have w1 : wrap64 (j + 1) = j + 1 := w64 (by omega)
    have := ih (j + 1) (by omega) (by omega)
    rw [show (j + 1).toNat = j.toNat + 1 by omega] at this
    rw [List.drop_eq_getElem_cons hlt, List.any_cons]
    have hs : ∀ k, timeboundref36_Valid.l1 (k + 1) y y (y.length : Int) i p (p.length : Int) j X.f0 X.f1.f0 X.f1.f1 X.f2 X.f3 = if overlapB X p[j.toNat] = true then some false else timeboundref36_Valid.l1 k y y (y.length : Int) i p (p.length : Int) (j + 1) X.f0 X.f1.f0 X.f1.f1 X.f2 X.f3 := fun k => by
      simp only [timeboundref36_Valid.l1]
      rw [if_pos (by omega), if_pos h0, if_pos (by omega), hr, w1]
      unfold overlapB
      by_cases c1 : (X.f0 == p[j.toNat].f0) = true
      · rw [if_pos c1, c1]
        by_cases c2 : X.f1.f0 < p[j.toNat].f1.f1
        · rw [if_pos c2]
          by_cases c3 : p[j.toNat].f1.f0 < X.f1.f1
          · rw [if_pos c3]; simp [c2, c3]
          · rw [if_neg c3]; simp [c3]
        · rw [if_neg c2]; simp [c2]
      · rw [if_neg c1]; simp [show (X.f0 == p[j.toNat].f0) = false by simpa using c1]
    by_cases c : overlapB X p[j.toNat] = true
    · rw [c, Bool.true_or, if_pos rfl]
      exact Ev.step (f := fun _ => some false) (fun k => by rw [hs, if_pos c]) (Ev.now _)
    · rw [show overlapB X p[j.toNat] = false by simpa using c, Bool.false_or]
      exact Ev.step (fun k => by rw [hs, if_neg c]) this
end
theorem rvalid36_l0 (y : List S76) (hl : y.length ≤ 1000) (d : Nat) : ∀ i : Nat, i + d = y.length → Ev (fun k => timeboundref36_Valid.l0 k y y (y.length : Int) i) ((List.range' i d).all (itemAt y) && decide ((y.length : Int) ≤ 10)) := by
  induction d with
  | zero =>
    intro i hi
    exact Ev.step (f := fun _ => some (decide ((y.length : Int) ≤ 10))) (fun k => by simp only [timeboundref36_Valid.l0]; rw [if_neg (by omega)]) (Ev.now _)
  | succ d ih =>
    intro i hi
    have hr : rd_T76 y (i : Int) = y.getD i z76 := by simp [rd_T76]
    have R := ih (i + 1) (by omega)
    rw [List.range'_succ, List.all_cons]
    rw [show itemAt y i = (goodB (rd_T76 y (i : Int)) && !((y.take i).any (overlapB (rd_T76 y (i : Int))))) from by rw [hr]; rfl]
    refine Ev.step (fun k => by simp only [timeboundref36_Valid.l0]; rw [if_pos (by omega), if_pos (by omega), if_pos (by omega), ite_self]) ?_
    generalize hX : rd_T76 y (i : Int) = X
    have hbad : Ev (fun k => timeboundref36_Valid.j2 k y i y (y.length : Int) i true X.f0 X.f1.f0 X.f1.f1 X.f2 X.f3) false := Ev.step (f := fun _ => some false) (fun k => by simp only [timeboundref36_Valid.j2]; rw [if_pos trivial]) (Ev.now _)
    by_cases c1 : X.f1.f0 < 0
    · rw [show goodB X = false by unfold goodB; simp [show ¬ 0 ≤ X.f1.f0 by omega], Bool.false_and, Bool.false_and, Bool.false_and]
      exact Ev.step (fun k => by simp only [timeboundref36_Valid.j1]; rw [if_pos c1]) hbad
    by_cases c2 : X.f1.f1 ≤ X.f1.f0
    · rw [show goodB X = false by unfold goodB; simp [show ¬ X.f1.f0 < X.f1.f1 by omega], Bool.false_and, Bool.false_and, Bool.false_and]
      exact Ev.step (fun k => by simp only [timeboundref36_Valid.j1]; rw [if_neg c1, if_pos c2]) hbad
    by_cases c3 : X.f1.f1 > 1024
    · rw [show goodB X = false by unfold goodB; simp [show ¬ X.f1.f1 ≤ 1024 by omega], Bool.false_and, Bool.false_and, Bool.false_and]
      exact Ev.step (fun k => by simp only [timeboundref36_Valid.j1]; rw [if_neg c1, if_neg c2, if_pos c3]) hbad
    by_cases c4 : X.f2 = wrap64 (X.f1.f1 - X.f1.f0)
    · by_cases c5 : X.f3 < 0
      · rw [show goodB X = false by unfold goodB; simp [show ¬ 0 ≤ X.f3 by omega], Bool.false_and, Bool.false_and, Bool.false_and]
        exact Ev.step (fun k => by simp only [timeboundref36_Valid.j1]; rw [if_neg c1, if_neg c2, if_neg c3, if_pos c4, if_pos c5]) hbad
      · by_cases c6 : X.f3 > 1099511627776
        · rw [show goodB X = false by unfold goodB; simp [show ¬ X.f3 ≤ 1099511627776 by omega], Bool.false_and, Bool.false_and, Bool.false_and]
          exact Ev.step (fun k => by simp only [timeboundref36_Valid.j1]; rw [if_neg c1, if_neg c2, if_neg c3, if_pos c4, if_neg c5, decide_eq_true c6]) hbad
        · have hg : goodB X = true := by
            unfold goodB
            simp only [Bool.and_eq_true, decide_eq_true_eq]
            exact ⟨⟨⟨⟨⟨by omega, by omega⟩, by omega⟩, c4⟩, by omega⟩, by omega⟩
          rw [hg, Bool.true_and]
          refine Ev.step (fun k => by simp only [timeboundref36_Valid.j1]; rw [if_neg c1, if_neg c2, if_neg c3, if_pos c4, if_neg c5, decide_eq_false c6]) ?_
          have w1 : wrap64 ((i : Int) + 1) = ((i + 1 : Nat) : Int) := by rw [w64 (by omega)]; omega
          have h1 := rvalid36_l1 (y := y) (X := X) (y.take i) (by rw [List.length_take]; omega) i (R := _) (by rw [w1]; exact R) (y.take i).length 0 (by omega) (by omega)
          rw [show (0 : Int).toNat = 0 from rfl, List.drop_zero] at h1
          have e : (!((y.take i).any (overlapB X)) && (List.range' (i + 1) d).all (itemAt y) && decide ((y.length : Int) ≤ 10)) = (if (y.take i).any (overlapB X) = true then false else ((List.range' (i + 1) d).all (itemAt y) && decide ((y.length : Int) ≤ 10))) := by
            cases (y.take i).any (overlapB X) <;> simp
          rw [e]
          refine Ev.step (fun k => ?_) h1
          simp only [timeboundref36_Valid.j2]
          rw [if_neg (by simp), if_pos (by omega), if_pos (by omega), Option.bind_some, Int.toNat_natCast]
    · rw [show goodB X = false by unfold goodB; simp [c4], Bool.false_and, Bool.false_and, Bool.false_and]
      exact Ev.step (fun k => by simp only [timeboundref36_Valid.j1]; rw [if_neg c1, if_neg c2, if_neg c3, if_neg c4]) hbad
theorem rvalid36_ev (y : List S76) (hl : y.length ≤ 1000) : Ev (fun k => timeboundref36_Valid.f k y) (itemsB y) := by
  have := rvalid36_l0 y hl y.length 0 (by omega)
  unfold itemsB
  rw [List.range_eq_range']
  exact this
/-! choices -/
def okAt (n : Int) (c : List Int) (i : Nat) : Bool := decide (0 ≤ rd c i) && decide (rd c i < n) && (decide (i = 0) || decide (rd c ((i : Int) - 1) < rd c i))
def choiceB (n : Int) (c : List Int) : Bool := (List.range c.length).all (okAt n c)
theorem choiceG_l0 (n : Int) (c : List Int) (hl : c.length ≤ 1000) (d : Nat) : ∀ i : Nat, i + d = c.length → Ev (fun k => scratch_choice.l0 k n c c (c.length : Int) i) ((List.range' i d).all (okAt n c)) := by
  induction d with
  | zero => exact fun i hi => Ev.step (f := fun _ => some true) (fun k => by simp only [scratch_choice.l0]; rw [if_neg (by omega)]) (Ev.now _)
  | succ d ih =>
    intro i hi
    have R := ih (i + 1) (by omega)
    have w1 : wrap64 ((i : Int) + 1) = ((i + 1 : Nat) : Int) := by rw [w64 (by omega)]; omega
    have w2 : wrap64 ((i : Int) - 1) = (i : Int) - 1 := w64 (by omega)
    rw [List.range'_succ, List.all_cons]
    unfold okAt
    by_cases c1 : rd c i < 0
    · rw [show decide (0 ≤ rd c i) = false from decide_eq_false (by omega), Bool.false_and, Bool.false_and, Bool.false_and]
      exact Ev.step (f := fun _ => some false) (fun k => by simp only [scratch_choice.l0]; rw [if_pos (by omega), if_pos (by omega), if_pos (by omega), if_pos c1]) (Ev.now _)
    by_cases c2 : rd c i ≥ n
    · rw [show decide (rd c i < n) = false from decide_eq_false (by omega), Bool.and_false, Bool.false_and, Bool.false_and]
      exact Ev.step (f := fun _ => some false) (fun k => by simp only [scratch_choice.l0]; rw [if_pos (by omega), if_pos (by omega), if_pos (by omega), if_neg c1, if_pos c2]) (Ev.now _)
    rw [show decide (0 ≤ rd c i) = true from decide_eq_true (by omega), show decide (rd c i < n) = true from decide_eq_true (by omega), Bool.true_and, Bool.true_and]
    by_cases c3 : i = 0
    · rw [decide_eq_true c3, Bool.true_or, Bool.true_and]
      exact Ev.step (fun k => by simp only [scratch_choice.l0]; rw [if_pos (by omega), if_pos (by omega), if_pos (by omega), if_neg c1, if_neg c2, if_neg (by omega), w1]) R
    · rw [decide_eq_false c3, Bool.false_or]
      by_cases c4 : rd c ((i : Int) - 1) < rd c i
      · rw [decide_eq_true c4, Bool.true_and]
        exact Ev.step (fun k => by simp only [scratch_choice.l0]; rw [if_pos (by omega), if_pos (by omega), if_pos (by omega), if_neg c1, if_neg c2, if_pos (by omega), w2, if_pos (by omega), if_pos (by omega), if_neg (by omega), w1]) R
      · rw [decide_eq_false c4, Bool.false_and]
        exact Ev.step (f := fun _ => some false) (fun k => by simp only [scratch_choice.l0]; rw [if_pos (by omega), if_pos (by omega), if_pos (by omega), if_neg c1, if_neg c2, if_pos (by omega), w2, if_pos (by omega), if_pos (by omega), if_pos (by omega)]) (Ev.now _)
theorem choiceG_ev (n : Int) (c : List Int) (hl : c.length ≤ 1000) : Ev (fun k => scratch_choice.f k n c) (choiceB n c) := by
  have := choiceG_l0 n c hl c.length 0 (by omega)
  unfold choiceB
  rw [List.range_eq_range']
  exact this
theorem IsChoice.of {n : Int} {c : List Int} (h : choiceB n c = true) : IsChoice n c := by
  unfold choiceB at h
  rw [List.all_eq_true] at h
  refine ⟨fun i h0 h1 => ?_, fun i h0 h1 => ?_⟩
  · have := h i.toNat (List.mem_range.2 (by omega))
    unfold okAt at this
    rw [Int.toNat_of_nonneg h0] at this
    simp only [Bool.and_eq_true, decide_eq_true_eq] at this
    exact this.1
  · have := h (i + 1).toNat (List.mem_range.2 (by omega))
    unfold okAt at this
    rw [Int.toNat_of_nonneg (by omega)] at this
    simp only [Bool.and_eq_true, Bool.or_eq_true, decide_eq_true_eq] at this
    rcases this.2 with z | z
    · omega
    · rw [show i + 1 - 1 = i by omega] at z; exact z
theorem IsChoice.to {n : Int} {c : List Int} (h : IsChoice n c) : choiceB n c = true := by
  unfold choiceB
  rw [List.all_eq_true]
  intro i hi
  rw [List.mem_range] at hi
  unfold okAt
  have a := h.fits i (by omega) (by omega)
  simp only [Bool.and_eq_true, Bool.or_eq_true, decide_eq_true_eq]
  refine ⟨a, ?_⟩
  by_cases z : i = 0
  · exact .inl z
  · have := h.up ((i : Int) - 1) (by omega) (by omega)
    rw [show (i : Int) - 1 + 1 = i by omega] at this
    exact .inr this
/-- What both say of a choice. -/
def valH (y : List S76) (c : List Int) : Int × Int × Bool := if itemsB y = true then if choiceB y.length c = true then ((val y c).1, (val y c).2, true) else (0, 0, false) else (0, 0, false)
theorem valueH_ev (y : List S76) (c : List Int) (hc : c.length ≤ 1000) : Ev (fun k => scratch_Value.f k y c) (valH y c) := by
  unfold valH
  by_cases h1 : itemsB y = true
  · rw [if_pos h1]
    by_cases h2 : choiceB y.length c = true
    · rw [if_pos h2]; exact value_any y c h1 (IsChoice.of h2) (by omega)
    · rw [if_neg h2]
      have h2' : choiceB y.length c = false := by simpa using h2
      have hg := choiceG_ev y.length c hc
      rw [h2'] at hg
      unfold scratch_Value.f scratch_Valid.f
      simp only [h1, Option.bind_some, if_true]
      exact Ev.bind hg (Ev.step (f := fun _ => some (0, 0, false)) (fun k => by simp only [scratch_Value.j0]; rw [if_pos (by simp)]) (Ev.now _))
  · rw [if_neg h1]
    unfold scratch_Value.f scratch_Valid.f
    simp only [Option.bind_some, if_neg h1]
    exact Ev.step (f := fun _ => some (0, 0, false)) (fun k => by simp only [scratch_Value.j0]; rw [if_pos trivial]) (Ev.now _)
theorem rvalue36_l0 (y : List S76) (c : List Int) (hl : c.length ≤ 1000) (d : Nat) : ∀ (i : Nat) (a : Int × Int), i + d = c.length →
    Ev (fun k => timeboundref36_Value.l0 k y c a.1 a.2 c (c.length : Int) i) (if (List.range' i d).all (okAt y.length c) = true then (((c.drop i).foldl (fun a k => (wrap64 (a.1 + (rd_T76 y k).f3), wrap64 (a.2 + (rd_T76 y k).f2))) a).1, ((c.drop i).foldl (fun a k => (wrap64 (a.1 + (rd_T76 y k).f3), wrap64 (a.2 + (rd_T76 y k).f2))) a).2, true) else (0, 0, false)) := by
  induction d with
  | zero =>
    intro i a hi
    rw [List.drop_of_length_le (by omega), if_pos (by simp)]
    exact Ev.step (f := fun _ => some (a.1, a.2, true)) (fun k => by simp only [timeboundref36_Value.l0]; rw [if_neg (by omega)]) (Ev.now _)
  | succ d ih =>
    intro i a hi
    have hlt : i < c.length := by omega
    have hr : rd c (i : Int) = c[i] := by simp [rd, List.getD_eq_getElem?_getD, hlt]
    have R := ih (i + 1) (wrap64 (a.1 + (rd_T76 y (rd c i)).f3), wrap64 (a.2 + (rd_T76 y (rd c i)).f2)) (by omega)
    have w1 : wrap64 ((i : Int) + 1) = ((i + 1 : Nat) : Int) := by rw [w64 (by omega)]; omega
    have w2 : wrap64 ((i : Int) - 1) = (i : Int) - 1 := w64 (by omega)
    rw [List.range'_succ, List.all_cons, List.drop_eq_getElem_cons hlt, List.foldl_cons, ← hr]
    by_cases c1 : rd c i < 0
    · rw [show okAt y.length c i = false by unfold okAt; simp [show ¬ 0 ≤ rd c i by omega], Bool.false_and, if_neg (by simp)]
      exact Ev.step (f := fun _ => some (0, 0, false)) (fun k => by simp only [timeboundref36_Value.l0]; rw [if_pos (by omega), if_pos (by omega), if_pos (by omega), if_pos c1]) (Ev.now _)
    by_cases c2 : rd c i ≥ (y.length : Int)
    · rw [show okAt y.length c i = false by unfold okAt; simp [show ¬ rd c i < (y.length : Int) by omega], Bool.false_and, if_neg (by simp)]
      exact Ev.step (f := fun _ => some (0, 0, false)) (fun k => by simp only [timeboundref36_Value.l0]; rw [if_pos (by omega), if_pos (by omega), if_pos (by omega), if_neg c1, if_pos c2]) (Ev.now _)
    by_cases c3 : i = 0
    · rw [show okAt y.length c i = true by unfold okAt; simp [c3]; subst c3; simp at c1 c2; omega, Bool.true_and]
      exact Ev.step (fun k => by simp only [timeboundref36_Value.l0]; rw [if_pos (by omega), if_pos (by omega), if_pos (by omega), if_neg c1, if_neg c2, if_neg (by omega), if_pos (by omega), if_pos (by omega), w1]) R
    · by_cases c4 : rd c ((i : Int) - 1) < rd c i
      · rw [show okAt y.length c i = true by unfold okAt; simp [c4]; omega, Bool.true_and]
        exact Ev.step (fun k => by simp only [timeboundref36_Value.l0]; rw [if_pos (by omega), if_pos (by omega), if_pos (by omega), if_neg c1, if_neg c2, if_pos (by omega), w2, if_pos (by omega), if_pos (by omega), if_neg (by omega), if_pos (by omega), if_pos (by omega), w1]) R
      · rw [show okAt y.length c i = false by unfold okAt; simp [c3, c4], Bool.false_and, if_neg (by simp)]
        exact Ev.step (f := fun _ => some (0, 0, false)) (fun k => by simp only [timeboundref36_Value.l0]; rw [if_pos (by omega), if_pos (by omega), if_pos (by omega), if_neg c1, if_neg c2, if_pos (by omega), w2, if_pos (by omega), if_pos (by omega), if_pos (by omega)]) (Ev.now _)
theorem rvalueH_ev (y : List S76) (hl : y.length ≤ 1000) (c : List Int) (hc : c.length ≤ 1000) : Ev (fun k => timeboundref36_Value.f k y c) (valH y c) := by
  unfold timeboundref36_Value.f valH
  refine Ev.bind (rvalid36_ev y hl) ?_
  by_cases h1 : itemsB y = true
  · simp only [if_pos h1]
    have := rvalue36_l0 y c hc c.length 0 (0, 0) (by omega)
    rw [← List.range_eq_range', List.drop_zero] at this
    exact this
  · simp only [if_neg h1]; exact Ev.now _
/-! the best choice -/
theorem rbefore_l0 (c b : List Int) (hl : c.length ≤ 1000) (d : Nat) : ∀ i : Nat, i + d = c.length → i ≤ b.length → Ev (fun k => timeboundref36_before.l0 k c b (c.length : Int) i) (decide (cmpL (c.drop i) (b.drop i) < 0)) := by
  induction d with
  | zero =>
    intro i hi hb
    rw [List.drop_of_length_le (show c.length ≤ i by omega)]
    by_cases z : c.length < b.length
    · rw [List.drop_eq_getElem_cons (show i < b.length by omega)]
      exact Ev.step (f := fun _ => some true) (fun k => by simp only [timeboundref36_before.l0]; rw [if_neg (by omega), decide_eq_true (by omega)]) (Ev.now _)
    · rw [List.drop_of_length_le (show b.length ≤ i by omega)]
      exact Ev.step (f := fun _ => some false) (fun k => by simp only [timeboundref36_before.l0]; rw [if_neg (by omega), decide_eq_false (by omega)]) (Ev.now _)
  | succ d ih =>
    intro i hi hb
    have hlt : i < c.length := by omega
    rw [List.drop_eq_getElem_cons hlt]
    by_cases z : i < b.length
    · rw [List.drop_eq_getElem_cons z]
      have r1 : rd c (i : Int) = c[i] := by simp [rd, List.getD_eq_getElem?_getD, hlt]
      have r2 : rd b (i : Int) = b[i] := by simp [rd, List.getD_eq_getElem?_getD, z]
      have w1 : wrap64 ((i : Int) + 1) = ((i + 1 : Nat) : Int) := by rw [w64 (by omega)]; omega
      unfold cmpL
      by_cases e : c[i] = b[i]
      · rw [if_neg (by omega), if_neg (by omega)]
        exact Ev.step (fun k => by simp only [timeboundref36_before.l0]; rw [if_pos (by omega), if_neg (by omega), if_pos (by omega), if_pos (by omega), if_pos (by omega), r1, r2, if_pos e, w1]) (ih (i + 1) (by omega) (by omega))
      · have hs : ∀ k, timeboundref36_before.l0 (k + 1) c b (c.length : Int) i = some (decide (c[i] < b[i])) := fun k => by
          simp only [timeboundref36_before.l0]
          rw [if_pos (by omega), if_neg (by omega), if_pos (by omega), if_pos (by omega), if_pos (by omega), r1, r2, if_neg e]
        by_cases l1 : c[i] < b[i]
        · rw [if_pos l1]
          exact Ev.step (f := fun _ => some true) (fun k => by rw [hs, decide_eq_true l1]) (Ev.now _)
        · rw [if_neg l1, if_pos (by omega)]
          exact Ev.step (f := fun _ => some false) (fun k => by rw [hs, decide_eq_false l1]) (Ev.now _)
    · rw [List.drop_of_length_le (show b.length ≤ i by omega)]
      exact Ev.step (f := fun _ => some false) (fun k => by simp only [timeboundref36_before.l0]; rw [if_pos (by omega), if_pos (by omega)]) (Ev.now _)
theorem rbefore_ev (c b : List Int) (hl : c.length ≤ 1000) : Ev (fun k => timeboundref36_before.f k c b) (decide (cmpL c b < 0)) := rbefore_l0 c b hl c.length 0 (by omega) (by omega)
theorem wrap_u64 (i : Nat) (h : i ≤ 1000) : IntKind.u64.wrap (i : Int) = i := by
  simp [IntKind.wrap, IntKind.bits, IntKind.signed]; omega
theorem rbest_l1 (x : List S76) (hx : itemsB x = true) (hn : x.length ≤ 10) (w : Int) (st : List Int × Int × Int) (m : Nat) (hm : m < 1024) (r : List Int × Int)
    (hr : Ev (fun k => timeboundref36_Best.l0 k x w (bestStep x w st (maskC x.length m)).1 (bestStep x w st (maskC x.length m)).2.1 (bestStep x w st (maskC x.length m)).2.2 ((m : Int) + 1)) r) (d : Nat) :
    ∀ i : Nat, i + d = x.length → Ev (fun k => timeboundref36_Best.l1 k x w st.1 st.2.1 st.2.2 m (maskC i m) (x.length : Int) i) r := by
  induction d with
  | zero =>
    intro i hi
    obtain rfl : i = x.length := by omega
    have hc := (chosenBy_choice m.testBit x.length).1
    have hcl := chosenBy_length m.testBit x.length
    have hv := rvalueH_ev x (by omega) (maskC x.length m) (by unfold maskC; omega)
    unfold valH at hv
    rw [if_pos hx, if_pos (show choiceB x.length (maskC x.length m) = true from IsChoice.to hc)] at hv
    have hcmp := rbefore_ev (maskC x.length m) st.1 (by unfold maskC; omega)
    have w1 : wrap64 ((m : Int) + 1) = m + 1 := w64 (by omega)
    refine Ev.step (fun k => by simp only [timeboundref36_Best.l1]; rw [if_neg (by omega)]) (Ev.bind hv ?_)
    rw [w1]
    unfold bestStep at hr
    generalize maskC x.length m = c at *
    by_cases c1 : (val x c).2 > w
    · simp only [if_pos c1] at hr
      simp only [if_neg (show ¬ (val x c).2 ≤ w by omega)]
      exact hr
    · simp only [if_neg c1] at hr
      simp only [if_pos (show (val x c).2 ≤ w by omega)]
      by_cases c2 : (val x c).1 > st.2.1
      · simp only [if_pos c2] at hr ⊢; exact hr
      · simp only [if_neg c2] at hr ⊢
        by_cases c3 : (val x c).1 = st.2.1
        · simp only [if_pos c3] at hr ⊢
          by_cases c4 : (val x c).2 < st.2.2
          · simp only [if_pos c4] at hr ⊢; exact hr
          · simp only [if_neg c4] at hr ⊢
            by_cases c5 : (val x c).2 = st.2.2
            · simp only [if_pos c5] at hr ⊢
              refine Ev.bind hcmp ?_
              by_cases c6 : cmpL c st.1 < 0
              · simp only [if_pos c6] at hr
                simp only [decide_eq_true c6, if_true]; exact hr
              · simp only [if_neg c6] at hr
                simp only [decide_eq_false c6, if_neg Bool.false_ne_true]; exact hr
            · simp only [if_neg c5] at hr ⊢; exact hr
        · simp only [if_neg c3] at hr ⊢; exact hr
  | succ d ih =>
    intro i hi
    have w1 : wrap64 ((i : Int) + 1) = ((i + 1 : Nat) : Int) := by rw [w64 (by omega)]; omega
    have u1 := wrap_u64 i (by omega)
    have hb := bitB_nat m i (by omega) (by omega)
    have := ih (i + 1) (by omega)
    have hlen := chosenBy_length m.testBit i
    refine Ev.step (fun k => ?_) this
    simp only [timeboundref36_Best.l1]
    rw [if_pos (by omega), u1, if_pos (by omega), w1]
    unfold bitB at hb
    unfold maskC at *
    rw [chosenBy_succ]
    cases ht : m.testBit i with
    | true =>
      rw [ht] at hb
      rw [if_pos (of_decide_eq_true hb), if_pos (by omega)]
      rfl
    | false =>
      rw [ht] at hb
      rw [if_neg (of_decide_eq_false hb)]
      simp
theorem rbest_l0 (x : List S76) (hx : itemsB x = true) (hn : x.length ≤ 10) (w : Int) (d : Nat) : ∀ (m : Nat) (st : List Int × Int × Int), m + d = 2 ^ x.length →
    Ev (fun k => timeboundref36_Best.l0 k x w st.1 st.2.1 st.2.2 m) ((bestOf x w (List.range' m d) st).1, 0) := by
  have hp : 2 ^ x.length ≤ 1024 := Nat.le_trans (Nat.pow_le_pow_right (by decide) hn) (by decide)
  have u1 := wrap_u64 x.length (by omega)
  have s1 := shl_one x.length hn
  induction d with
  | zero =>
    intro m st hm
    refine Ev.step (f := fun _ => some (st.1, 0)) (fun k => by simp only [timeboundref36_Best.l0]; rw [u1, if_pos (by omega), s1, if_neg (by omega)]) ?_
    exact Ev.now _
  | succ d ih =>
    intro m st hm
    have := ih (m + 1) (bestStep x w st (maskC x.length m)) (by omega)
    rw [List.range'_succ]
    refine Ev.step (fun k => ?_) (rbest_l1 x hx hn w st m (by omega) _ this x.length 0 (by omega))
    simp only [timeboundref36_Best.l0]
    rw [u1, if_pos (by omega), s1, if_pos (by omega)]
    rfl
/-- What both say of words. -/
def bestH (y : List S76) (n : Int) : List Int × Int := if itemsB y = true then if n < 0 ∨ n > 256 then ([], 3) else ((bestP y n).1, 0) else ([], 43)
theorem bestH_ev (y : List S76) (n : Int) : Ev (fun k => scratch_Best.f k y n) (bestH y n) := by
  unfold bestH
  by_cases h1 : itemsB y = true
  · rw [if_pos h1]
    have hj : Ev (fun k => scratch_Best.j0 k y n true) ([], 3) := Ev.step (f := fun _ => some ([], 3)) (fun k => by simp only [scratch_Best.j0]; rw [if_pos trivial]) (Ev.now _)
    by_cases h2 : n < 0
    · rw [if_pos (.inl h2)]
      unfold scratch_Best.f scratch_Valid.f
      simp only [h1, Option.bind_some, if_true, if_pos h2]
      exact hj
    · by_cases h3 : n > 256
      · rw [if_pos (.inr h3)]
        unfold scratch_Best.f scratch_Valid.f
        simp only [h1, Option.bind_some, if_true, if_neg h2, decide_eq_true h3]
        exact hj
      · rw [if_neg (by omega)]
        exact best_any y h1 n (by omega) (by omega)
  · rw [if_neg h1]
    unfold scratch_Best.f scratch_Valid.f
    simp only [Option.bind_some, if_neg h1]
    exact Ev.now _
theorem val_nil (x : List S76) : val x [] = (0, 0) := rfl
theorem maskC_zero (n : Nat) : maskC n 0 = [] := by
  unfold maskC chosenBy
  simp
theorem rbestH_ev (y : List S76) (hl : y.length ≤ 1000) (n : Int) : Ev (fun k => timeboundref36_Best.f k y n) (bestH y n) := by
  unfold timeboundref36_Best.f bestH
  refine Ev.bind (rvalid36_ev y hl) ?_
  by_cases h1 : itemsB y = true
  · simp only [if_pos h1]
    have hj : Ev (fun k => timeboundref36_Best.j0 k y n true) ([], 3) := Ev.step (f := fun _ => some ([], 3)) (fun k => by simp only [timeboundref36_Best.j0]; rw [if_pos trivial]) (Ev.now _)
    by_cases h2 : n < 0
    · simp only [if_pos h2, if_pos (show n < 0 ∨ n > 256 from .inl h2)]
      exact hj
    · by_cases h3 : n > 256
      · simp only [if_neg h2, decide_eq_true h3, if_pos (show n < 0 ∨ n > 256 from .inr h3)]
        exact hj
      · simp only [if_neg h2, decide_eq_false h3, if_neg (show ¬ (n < 0 ∨ n > 256) by omega)]
        have hn := itemsB_len h1
        have hp : 0 < 2 ^ y.length := Nat.two_pow_pos _
        have e : bestP y n = bestOf y n (List.range' 1 (2 ^ y.length - 1)) ([], 0, 0) := by
          unfold bestP
          obtain ⟨q, hq⟩ : ∃ q, 2 ^ y.length = q + 1 := ⟨2 ^ y.length - 1, by omega⟩
          rw [hq, List.range_eq_range', List.range'_succ]
          unfold bestOf
          rw [List.foldl_cons, maskC_zero]
          have : bestStep y n ([], 0, 0) [] = ([], 0, 0) := by
            unfold bestStep
            rw [val_nil]
            simp [cmpL]
          rw [this]
          rfl
        have := rbest_l0 y h1 hn n (2 ^ y.length - 1) 1 ([], 0, 0) (by omega)
        rw [← e] at this
        exact Ev.step (fun k => by simp only [timeboundref36_Best.j0]; rw [if_neg (by simp)]; rfl) this
  · simp only [if_neg h1]; exact Ev.now _
theorem sameI_ev (l : List Int) (hl : l.length ≤ 100000) : Ev (fun k => timeboundref01_SameInts.f k l l) true := by
  have : ∀ (d : Nat) (i : Int), 0 ≤ i → (l.length : Int) - i = d → Ev (fun k => timeboundref01_SameInts.l0 k l l i) true := by
    intro d
    induction d with
    | zero => exact fun i h0 hd => Ev.step (f := fun _ => some true) (fun k => by simp only [timeboundref01_SameInts.l0]; rw [if_neg (by omega)]) (Ev.now _)
    | succ d ih =>
      intro i h0 hd
      have w1 : wrap64 (i + 1) = i + 1 := w64 (by omega)
      exact Ev.step (fun k => by simp only [timeboundref01_SameInts.l0]; rw [if_pos (by omega), if_pos h0, if_pos (by omega), if_pos trivial, w1]) (ih (i + 1) (by omega) (by omega))
  unfold timeboundref01_SameInts.f
  simp only [if_true]
  exact this l.length 0 (by omega) (by omega)
theorem bestH_len (y : List S76) (n : Int) : (bestH y n).1.length ≤ 100000 := by
  unfold bestH
  by_cases h1 : itemsB y = true
  · rw [if_pos h1]
    by_cases h2 : n < 0 ∨ n > 256
    · rw [if_pos h2]; simp
    · rw [if_neg h2]
      have := (bestP_inv y n (by omega)).1.short
      have := itemsB_len h1
      simp only
      omega
  · rw [if_neg h1]; simp
/-! items with something changed -/
theorem spoilt_any (x : List S76) (hx : x.length ≤ 10) (a b : Int) : ∃ z, timeboundlaw36_spoilt.f x a b = some z ∧ z.length ≤ 100 := by
  unfold timeboundlaw36_spoilt.f
  rw [if_pos (by simp; omega), Option.bind_some, List.nil_append]
  obtain ⟨m2, e2, _, _⟩ := mod_range b 2 (by omega) (by omega)
  by_cases h0 : (x.length : Int) = 0
  · rw [if_pos h0, e2, Option.bind_some, if_pos (by omega)]
    exact ⟨_, rfl, by simp; omega⟩
  · rw [if_neg h0]
    obtain ⟨i, ei, i0, i1⟩ := mod_range b x.length (by omega) (by omega)
    obtain ⟨t, et, t0, t1⟩ := mod_range a 6 (by omega) (by omega)
    obtain ⟨m3, e3, m30, m31⟩ := mod_range b 3 (by omega) (by omega)
    rw [ei, Option.bind_some, et, Option.bind_some]
    by_cases c0 : t = 0
    · rw [if_pos c0, if_pos i0, if_pos i1]
      exact ⟨_, rfl, by simp; omega⟩
    rw [if_neg c0]
    by_cases c1 : t = 1
    · rw [if_pos c1, Option.bind_some, e3, Option.bind_some, if_pos m30, if_pos (by simp; omega), if_pos i0, if_pos i1]
      exact ⟨_, rfl, by simp; omega⟩
    rw [if_neg c1]
    by_cases c2 : t = 2
    · rw [if_pos c2, if_pos i0, if_pos i1]
      exact ⟨_, rfl, by simp; omega⟩
    rw [if_neg c2]
    by_cases c3 : t = 3
    · rw [if_pos c3, if_pos (by omega), if_pos i0, if_pos i1, Option.bind_some]
      exact ⟨_, rfl, by simp; omega⟩
    rw [if_neg c3]
    by_cases c4 : t = 4
    · rw [if_pos c4, e2, Option.bind_some, if_pos i0, if_pos i1, Option.bind_some, Option.bind_some]
      exact ⟨_, rfl, by simp; omega⟩
    rw [if_neg c4]
    by_cases c5 : t = 5
    · rw [if_pos c5, if_pos (by omega), Option.bind_some, if_pos (by simp; omega)]
      exact ⟨_, rfl, by simp; omega⟩
    rw [if_neg c5]
    exact ⟨_, rfl, by omega⟩
theorem best36 (y : List S76) (hl : y.length ≤ 1000) (n : Int) : ∃ K, ∀ k, K ≤ k → Best36 k y n := by
  obtain ⟨K1, f1⟩ := bestH_ev y n
  obtain ⟨K2, f2⟩ := rbestH_ev y hl n
  obtain ⟨K3, f3⟩ := sameI_ev _ (bestH_len y n)
  exact ⟨K1 + K2 + K3, fun k hk => ⟨_, _, f1 k (by omega), f2 k (by omega), f3 k (by omega)⟩⟩
theorem value36 (y : List S76) (hl : y.length ≤ 1000) (c : List Int) (hc : c.length ≤ 1000) : ∃ K, ∀ k, K ≤ k → Value36 k y c := by
  obtain ⟨K1, f1⟩ := valueH_ev y c hc
  obtain ⟨K2, f2⟩ := rvalueH_ev y hl c hc
  exact ⟨K1 + K2, fun k hk => ⟨_, _, _, f1 k (by omega), f2 k (by omega)⟩⟩
theorem asks36 (s rc : List Int) (hs : s.length ≤ 1152921504606846976) (hrc : rc.length ≤ 1000) (words : Int) (ys : List (List S76)) : (∀ y ∈ ys, y.length ≤ 1000) → ∀ q : Int, 0 ≤ q → q ≤ s.length → ∃ K, ∀ k, K ≤ k → Asks36 k s rc words ys q := by
  induction ys with
  | nil => exact fun _ q _ _ => ⟨0, fun k _ => trivial⟩
  | cons y ys ih =>
    intro hy q q0 q1
    have hl := hy y List.mem_cons_self
    obtain ⟨v, p1, ev, _, _, p10, p11⟩ := next_range s q 40 hs q0 q1 (by omega) (by omega)
    obtain ⟨m, em, _, _⟩ := mod_range words 260 (by omega) (by omega)
    obtain ⟨t, p2, et, _, _, p20, p21⟩ := next_range s p1 3 hs p10 p11 (by omega) (by omega)
    obtain ⟨K0, f0⟩ := rvalid36_ev y hl
    obtain ⟨K1, f1⟩ := best36 y hl words
    obtain ⟨K2, f2⟩ := best36 y hl v
    obtain ⟨K3, f3⟩ := best36 y hl (wrap64 (m - 1))
    obtain ⟨K4, f4⟩ := value36 y hl rc hrc
    obtain ⟨K5, f5⟩ := value36 y hl [0, 2] (by simp)
    obtain ⟨K6, f6⟩ := value36 y hl [t] (by simp)
    obtain ⟨K7, f7⟩ := value36 y hl [1, 0] (by simp)
    obtain ⟨K8, f8⟩ := ih (fun z hz => hy z (List.mem_cons_of_mem _ hz)) p2 p20 p21
    exact ⟨K0 + K1 + K2 + K3 + K4 + K5 + K6 + K7 + K8, fun k hk => ⟨v, p1, m, t, p2, ev, em, et, ⟨_, rfl, f0 k (by omega)⟩, f1 k (by omega), f2 k (by omega), f3 k (by omega), f4 k (by omega), f5 k (by omega), f6 k (by omega), f7 k (by omega), f8 k (by omega)⟩⟩
theorem ScratchBest_pure : timeboundlaw36_ScratchBest.Pure := by
  refine ⟨Ev.rounds awake36, fun l0 l1 l2 a3 a4 a5 h0 h1 h2 _ => ?_⟩
  have hs : l2.length ≤ 1152921504606846976 := by omega
  obtain ⟨x, q, ⟨K1, f1⟩, hx, q0, q1⟩ := items_any l2 0 hs (by omega) (by omega)
  have hxl := itemsB_len hx
  obtain ⟨z, ez, hz⟩ := spoilt_any x hxl a4 a5
  obtain ⟨K2, f2⟩ := asks36 l2 l1 hs (by omega) a3 [x, z, l0] (fun y hy => by
    simp only [List.mem_cons, List.not_mem_nil, or_false] at hy
    rcases hy with rfl | rfl | rfl <;> omega) q q0 q1
  exact ⟨K1 + K2, x, q, z, f1 _ (by omega), ez, f2 _ (by omega)⟩
end Go.Proofs.Ytdgegoefehmfmaa.QScratchBest
namespace Go.Proofs.Ytdgegoefehmfmaa.Pure
theorem ScratchBest : Go.Proofs.Ytdgegoefehmfmaa.QScratchBest.timeboundlaw36_ScratchBest.Pure := Go.Proofs.Ytdgegoefehmfmaa.QScratchBest.ScratchBest_pure
end Go.Proofs.Ytdgegoefehmfmaa.Pure
