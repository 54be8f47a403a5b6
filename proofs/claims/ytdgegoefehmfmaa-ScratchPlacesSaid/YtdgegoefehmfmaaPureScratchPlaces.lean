/- Both place a choice alike, count the words of scratch memory alike, and name the same errors. -/
import Derived.Test.YtdgegoefehmfmaaQScratchPlacesx13
namespace Go.Proofs.Ytdgegoefehmfmaa.QScratchPlaces
open Go.RowKit Go.Proofs.YtdgegoefehmfmaaW.PrintWords Go.Proofs.YtdgegoefehmfmaaW.PrintLast Go.Proofs.YtdgegoefehmfmaaW.PrintMore
set_option linter.unusedVariables false
set_option linter.unusedSimpArgs false
/-! #### the deck -/
theorem w64 {x : Int} (h : -9223372036854775808 ≤ x ∧ x ≤ 9223372036854775807) : wrap64 x = x := by unfold wrap64; omega
theorem mod_range (a n : Int) (h0 : 1 ≤ n) (h1 : n ≤ 1073741824) : ∃ v, timeboundmake_Mod.f a n = some v ∧ 0 ≤ v ∧ v < n := by
  unfold timeboundmake_Mod.f
  rw [if_neg (by omega)]
  refine ⟨_, rfl, ?_⟩
  have h2 : -n < Int.tmod a n ∧ Int.tmod a n < n := ⟨Int.lt_tmod_of_pos a (by omega), Int.tmod_lt_of_pos a (by omega)⟩
  rw [w64 (by omega), Int.tmod_eq_emod_of_nonneg (by omega)]
  exact ⟨Int.emod_nonneg _ (by omega), Int.emod_lt_of_pos _ (by omega)⟩
theorem next_range (s : List Int) (p n : Int) (hs : s.length ≤ 1152921504606846976) (hp : 0 ≤ p) (hq : p ≤ s.length) (h0 : 1 ≤ n) (h1 : n ≤ 1073741824) :
    ∃ v q, timeboundmake_Deck_Next.f s p n = some (v, q) ∧ 0 ≤ v ∧ v < n ∧ 0 ≤ q ∧ q ≤ s.length := by
  unfold timeboundmake_Deck_Next.f
  by_cases c : p ≥ (s.length : Int)
  · rw [if_pos c]; exact ⟨0, p, rfl, by omega, by omega, hp, hq⟩
  · rw [if_neg c]
    by_cases c1 : n ≤ 1
    · rw [if_pos c1]; exact ⟨0, p, rfl, by omega, by omega, hp, hq⟩
    · rw [if_neg c1]
      have e1 : wrap64 (p + 1) = p + 1 := w64 (by omega)
      have e2 : wrap64 (p + 1 - 1) = p := by rw [w64 (by omega)]; omega
      rw [e1, e2, if_pos hp, if_pos (by omega)]
      obtain ⟨v, hv, a, b⟩ := mod_range (rd s p) n h0 h1
      rw [hv]
      exact ⟨v, p + 1, rfl, a, b, by omega, by omega⟩
/-! #### items that are made are valid -/
structure ItemsInv (l : List S76) (a0 a1 : Int) : Prop where
  ok : ∀ j, j < l.length → itemAt l j = true
  code : ∀ x ∈ l, x.f0 = true → x.f1.f1 ≤ a0
  data : ∀ x ∈ l, x.f0 = false → x.f1.f1 ≤ a1
  b0 : 0 ≤ a0 ∧ a0 ≤ 12 * l.length
  b1 : 0 ≤ a1 ∧ a1 ≤ 12 * l.length
theorem itemAt_snoc_old (l : List S76) (x : S76) (j : Nat) (h : j < l.length) : itemAt (l ++ [x]) j = itemAt l j := by
  unfold itemAt
  rw [List.getD_eq_getElem?_getD, List.getD_eq_getElem?_getD, List.getElem?_append_left h, List.take_append_of_le_length (by omega)]
theorem itemAt_snoc_new (l : List S76) (x : S76) : itemAt (l ++ [x]) l.length = (goodB x && !(l.any (overlapB x))) := by
  unfold itemAt
  rw [List.getD_eq_getElem?_getD, List.getElem?_append_right (Nat.le_refl _), Nat.sub_self, List.take_left]
  rfl
theorem ItemsInv.nil : ItemsInv [] 0 0 := ⟨by simp, by simp, by simp, by simp, by simp⟩
theorem ItemsInv.add {l : List S76} {a0 a1 : Int} (h : ItemsInv l a0 a1) (hl : l.length ≤ 9) (x : S76) (b0 b1 g n t : Int) (hg : 0 ≤ g ∧ g < 4) (hn : 0 ≤ n ∧ n < 9) (ht : 0 ≤ t ∧ t < 12)
    (hx : (x = ⟨true, ⟨a0 + g, a0 + g + (1 + n)⟩, 1 + n, t⟩ ∧ b0 = a0 + g + (1 + n) ∧ b1 = a1) ∨ (x = ⟨false, ⟨a1 + g, a1 + g + (1 + n)⟩, 1 + n, t⟩ ∧ b0 = a0 ∧ b1 = a1 + g + (1 + n))) :
    ItemsInv (l ++ [x]) b0 b1 := by
  have h0 := h.b0
  have h1 := h.b1
  have hgood : goodB x = true := by
    rcases hx with ⟨rfl, _⟩ | ⟨rfl, _⟩
    all_goals
      unfold goodB
      simp only [Bool.and_eq_true, decide_eq_true_eq]
      refine ⟨⟨⟨⟨⟨?_, ?_⟩, ?_⟩, ?_⟩, ?_⟩, ?_⟩
      all_goals try omega
      rw [w64 (by omega)]
      omega
  have hover : l.any (overlapB x) = false := by
    rw [List.any_eq_false]
    intro y hy
    have c := h.code y hy
    have d := h.data y hy
    rcases hx with ⟨rfl, _⟩ | ⟨rfl, _⟩
    all_goals
      unfold overlapB
      cases hq : y.f0 with
      | true => first | (have := c hq; simp [show ¬ a0 + g < y.f1.f1 by omega]) | simp
      | false => first | (have := d hq; simp [show ¬ a1 + g < y.f1.f1 by omega]) | simp
  refine ⟨?_, ?_, ?_, ?_, ?_⟩
  · intro j hj
    rw [List.length_append, List.length_singleton] at hj
    rcases Nat.lt_or_eq_of_le (Nat.le_of_lt_succ hj) with e | rfl
    · rw [itemAt_snoc_old l x j e]; exact h.ok j e
    · rw [itemAt_snoc_new, hgood, hover]; rfl
  · intro y hy hq
    rw [List.mem_append, List.mem_singleton] at hy
    rcases hy with hy | rfl
    · have := h.code y hy hq
      rcases hx with ⟨_, e, _⟩ | ⟨_, e, _⟩ <;> omega
    · rcases hx with ⟨rfl, e, _⟩ | ⟨rfl, e, _⟩
      · simp only; omega
      · simp at hq
  · intro y hy hq
    rw [List.mem_append, List.mem_singleton] at hy
    rcases hy with hy | rfl
    · have := h.data y hy hq
      rcases hx with ⟨_, _, e⟩ | ⟨_, _, e⟩ <;> omega
    · rcases hx with ⟨rfl, _, e⟩ | ⟨rfl, _, e⟩
      · simp at hq
      · simp only; omega
  · rw [List.length_append, List.length_singleton]
    rcases hx with ⟨_, e, _⟩ | ⟨_, e, _⟩ <;> omega
  · rw [List.length_append, List.length_singleton]
    rcases hx with ⟨_, _, e⟩ | ⟨_, _, e⟩ <;> omega
theorem items_l0 (s : List Int) (hs : s.length ≤ 1152921504606846976) (d : Nat) : ∀ (l : List S76) (p a0 a1 : Int), ItemsInv l a0 a1 → l.length + d ≤ 10 → 0 ≤ p → p ≤ s.length →
    ∃ r q, Ev (fun k => timeboundmake2_Items.l0 k l d s p a0 a1) (r, q) ∧ itemsB r = true ∧ 0 ≤ q ∧ q ≤ s.length := by
  induction d with
  | zero =>
    intro l p a0 a1 hi hl hp hq
    refine ⟨l, p, Ev.step (f := fun _ => some (l, p)) (fun k => by simp only [timeboundmake2_Items.l0]; rw [if_neg (by omega)]) (Ev.now _), ?_, hp, hq⟩
    rw [itemsB_end hi.ok]
    exact decide_eq_true (by omega)
  | succ d ih =>
    intro l p a0 a1 hi hl hp hq
    have h0 := hi.b0
    have h1 := hi.b1
    obtain ⟨c, p1, e1, c0, c1, p10, p11⟩ := next_range s p 2 hs hp hq (by omega) (by omega)
    obtain ⟨n, p2, e2, n0, n1, p20, p21⟩ := next_range s p1 9 hs p10 p11 (by omega) (by omega)
    obtain ⟨g, p3, e3, g0, g1, p30, p31⟩ := next_range s p2 4 hs p20 p21 (by omega) (by omega)
    obtain ⟨t, p4, e4, t0, t1, p40, p41⟩ := next_range s p3 12 hs p30 p31 (by omega) (by omega)
    have w1 : wrap64 (1 + n) = 1 + n := w64 (by omega)
    have w2 : wrap64 (((d + 1 : Nat) : Int) - 1) = d := by rw [w64 (by omega)]; omega
    have w3 : wrap64 (a0 + g) = a0 + g := w64 (by omega)
    have w4 : wrap64 (a0 + g + (1 + n)) = a0 + g + (1 + n) := w64 (by omega)
    have w5 : wrap64 (a1 + g) = a1 + g := w64 (by omega)
    have w6 : wrap64 (a1 + g + (1 + n)) = a1 + g + (1 + n) := w64 (by omega)
    by_cases hc : c = 0
    · obtain ⟨r, q, hE, hv, q0, q1⟩ := ih _ p4 (a0 + g + (1 + n)) a1 (hi.add (by omega) ⟨true, ⟨a0 + g, a0 + g + (1 + n)⟩, 1 + n, t⟩ _ _ g n t ⟨g0, g1⟩ ⟨n0, n1⟩ ⟨t0, t1⟩ (.inl ⟨rfl, rfl, rfl⟩)) (by simp; omega) p40 p41
      refine ⟨r, q, Ev.step (fun k => ?_) hE, hv, q0, q1⟩
      simp only [timeboundmake2_Items.l0]
      rw [if_pos (by omega), e1, Option.bind_some, e2, Option.bind_some, if_pos hc, e3, Option.bind_some, e4, Option.bind_some, if_pos (by omega), w1, w2, w3, w4]
    · obtain ⟨r, q, hE, hv, q0, q1⟩ := ih _ p4 a0 (a1 + g + (1 + n)) (hi.add (by omega) ⟨false, ⟨a1 + g, a1 + g + (1 + n)⟩, 1 + n, t⟩ _ _ g n t ⟨g0, g1⟩ ⟨n0, n1⟩ ⟨t0, t1⟩ (.inr ⟨rfl, rfl, rfl⟩)) (by simp; omega) p40 p41
      refine ⟨r, q, Ev.step (fun k => ?_) hE, hv, q0, q1⟩
      simp only [timeboundmake2_Items.l0]
      rw [if_pos (by omega), e1, Option.bind_some, e2, Option.bind_some, if_neg hc, if_pos (by omega), e3, Option.bind_some, e4, Option.bind_some, if_pos (by omega), w1, w2, w5, w6]
theorem items_any (s : List Int) (p : Int) (hs : s.length ≤ 1152921504606846976) (hp : 0 ≤ p) (hq : p ≤ s.length) :
    ∃ r q, Ev (fun k => timeboundmake2_Items.f k s p) (r, q) ∧ itemsB r = true ∧ 0 ≤ q ∧ q ≤ s.length := by
  obtain ⟨c, p1, e1, c0, c1, p10, p11⟩ := next_range s p 11 hs hp hq (by omega) (by omega)
  obtain ⟨n, rfl⟩ := Int.eq_ofNat_of_zero_le c0
  obtain ⟨r, q, hE, h⟩ := items_l0 s hs n [] p1 0 0 ItemsInv.nil (by simp; omega) p10 p11
  refine ⟨r, q, Ev.congr (fun k => ?_) hE, h⟩
  unfold timeboundmake2_Items.f
  rw [e1, Option.bind_some]
/-! #### choices and their values -/
structure IsChoice (n : Int) (c : List Int) : Prop where
  fits : ∀ i : Int, 0 ≤ i → i < c.length → 0 ≤ rd c i ∧ rd c i < n
  up : ∀ i : Int, 0 ≤ i → i + 1 < c.length → rd c i < rd c (i + 1)
theorem choice_l0 (n : Int) (c : List Int) (hc : IsChoice n c) (hl : c.length ≤ 1152921504606846976) (d : Nat) : ∀ i : Int, 0 ≤ i → (c.length : Int) - i = d → Ev (fun k => scratch_choice.l0 k n c c (c.length : Int) i) true := by
  induction d with
  | zero => exact fun i h0 hd => Ev.step (f := fun _ => some true) (fun k => by simp only [scratch_choice.l0]; rw [if_neg (by omega)]) (Ev.now _)
  | succ d ih =>
    intro i h0 hd
    obtain ⟨a, b⟩ := hc.fits i h0 (by omega)
    have w1 : wrap64 (i + 1) = i + 1 := w64 (by omega)
    refine Ev.step (fun k => ?_) (ih (i + 1) (by omega) (by omega))
    simp only [scratch_choice.l0]
    rw [if_pos (by omega), if_pos h0, if_pos (by omega), if_neg (by omega), if_neg (by omega), w1]
    by_cases z : i > 0
    · have w2 : wrap64 (i - 1) = i - 1 := w64 (by omega)
      have u := hc.up (i - 1) (by omega) (by omega)
      rw [show i - 1 + 1 = i by omega] at u
      rw [if_pos z, w2, if_pos (by omega), if_pos (by omega), if_neg (by omega)]
    · rw [if_neg z]
theorem choice_any (n : Int) (c : List Int) (hc : IsChoice n c) (hl : c.length ≤ 1152921504606846976) : Ev (fun k => scratch_choice.f k n c) true :=
  choice_l0 n c hc hl c.length 0 (by omega) (by omega)
/-- The sums of gains and sizes, as int's arithmetic has them. -/
def val (x : List S76) (c : List Int) : Int × Int := c.foldl (fun a k => (wrap64 (a.1 + (rd_T76 x k).f3), wrap64 (a.2 + (rd_T76 x k).f2))) (0, 0)
theorem value_l0 (x : List S76) (c : List Int) (hc : IsChoice x.length c) (hl : c.length ≤ 1152921504606846976) (d : Nat) : ∀ (i : Int) (a : Int × Int), 0 ≤ i → (c.length : Int) - i = d →
    Ev (fun k => scratch_Value.l0 k x a.1 a.2 c (c.length : Int) i) (((c.drop i.toNat).foldl (fun a k => (wrap64 (a.1 + (rd_T76 x k).f3), wrap64 (a.2 + (rd_T76 x k).f2))) a).1, ((c.drop i.toNat).foldl (fun a k => (wrap64 (a.1 + (rd_T76 x k).f3), wrap64 (a.2 + (rd_T76 x k).f2))) a).2, true) := by
  induction d with
  | zero =>
    intro i a h0 hd
    refine Ev.step (f := fun _ => some (a.1, a.2, true)) (fun k => by simp only [scratch_Value.l0]; rw [if_neg (by omega)]) ?_
    rw [List.drop_of_length_le (by omega)]
    exact Ev.now _
  | succ d ih =>
    intro i a h0 hd
    obtain ⟨p, q⟩ := hc.fits i h0 (by omega)
    have hlt : i.toNat < c.length := by omega
    have w1 : wrap64 (i + 1) = i + 1 := w64 (by omega)
    have hr : rd c i = c[i.toNat] := by simp [rd, List.getD_eq_getElem?_getD, hlt]
    have := ih (i + 1) (wrap64 (a.1 + (rd_T76 x (rd c i)).f3), wrap64 (a.2 + (rd_T76 x (rd c i)).f2)) (by omega) (by omega)
    rw [show (i + 1).toNat = i.toNat + 1 by omega] at this
    rw [List.drop_eq_getElem_cons hlt, List.foldl_cons, ← hr]
    refine Ev.step (fun k => ?_) this
    simp only [scratch_Value.l0]
    rw [if_pos (by omega), if_pos h0, if_pos (by omega), if_pos p, if_pos q, w1]
theorem value_any (x : List S76) (c : List Int) (hx : itemsB x = true) (hc : IsChoice x.length c) (hl : c.length ≤ 1152921504606846976) : Ev (fun k => scratch_Value.f k x c) ((val x c).1, (val x c).2, true) := by
  unfold scratch_Value.f
  have h1 : ∀ (f : Bool → Option (Int × Int × Bool)), (scratch_Valid.f x).bind f = f true := fun f => by unfold scratch_Valid.f; rw [hx]; rfl
  refine Ev.congr (fun k => by rw [h1, if_pos rfl]) ?_
  refine Ev.bind (choice_any x.length c hc hl) ?_
  refine Ev.step (fun k => by simp only [scratch_Value.j0]; rw [if_neg (by simp)]) (value_l0 x c hc hl c.length 0 (0, 0) (by omega) (by omega))
/-! #### lists in order -/
def cmpL : List Int → List Int → Int
  | [], [] => 0
  | [], _ :: _ => -1
  | _ :: _, [] => 1
  | a :: l, b :: m => if a < b then -1 else if b < a then 1 else cmpL l m
theorem cmp_int (a b : Int) : cmp_Compare_int.f a b = some (if a < b then -1 else if b < a then 1 else 0) := by
  unfold cmp_Compare_int.f cmp_isNaN_int.f
  simp
  split
  · rfl
  · split <;> simp_all
theorem compare_l0 (c b : List Int) (hl : c.length ≤ 1152921504606846976) (d : Nat) : ∀ i : Int, 0 ≤ i → (c.length : Int) - i = d → (i ≤ b.length) → Ev (fun k => slices_Compare_int_int.l0 k c b c (c.length : Int) i) (cmpL (c.drop i.toNat) (b.drop i.toNat)) := by
  induction d with
  | zero =>
    intro i h0 hd hb
    rw [List.drop_of_length_le (show c.length ≤ i.toNat by omega)]
    by_cases z : (c.length : Int) < (b.length : Int)
    · have : b.drop i.toNat = b[i.toNat]'(by omega) :: b.drop (i.toNat + 1) := List.drop_eq_getElem_cons (by omega)
      rw [this]
      exact Ev.step (f := fun _ => some (-1)) (fun k => by simp only [slices_Compare_int_int.l0]; rw [if_neg (by omega), if_pos z]) (Ev.now _)
    · rw [List.drop_of_length_le (show b.length ≤ i.toNat by omega)]
      exact Ev.step (f := fun _ => some 0) (fun k => by simp only [slices_Compare_int_int.l0]; rw [if_neg (by omega), if_neg z]) (Ev.now _)
  | succ d ih =>
    intro i h0 hd hb
    have hlt : i.toNat < c.length := by omega
    rw [List.drop_eq_getElem_cons hlt]
    by_cases z : i ≥ (b.length : Int)
    · rw [List.drop_of_length_le (show b.length ≤ i.toNat by omega)]
      exact Ev.step (f := fun _ => some 1) (fun k => by simp only [slices_Compare_int_int.l0]; rw [if_pos (by omega), if_pos h0, if_pos (by omega), if_pos z]) (Ev.now _)
    · have hlb : i.toNat < b.length := by omega
      rw [List.drop_eq_getElem_cons hlb]
      have r1 : rd c i = c[i.toNat] := by simp [rd, List.getD_eq_getElem?_getD, hlt]
      have r2 : rd b i = b[i.toNat] := by simp [rd, List.getD_eq_getElem?_getD, hlb]
      have w1 : wrap64 (i + 1) = i + 1 := w64 (by omega)
      have hs : ∀ k, slices_Compare_int_int.l0 (k + 1) c b c (c.length : Int) i = if (if rd c i < rd b i then -1 else if rd b i < rd c i then 1 else 0) = 0 then slices_Compare_int_int.l0 k c b c (c.length : Int) (i + 1) else some (if rd c i < rd b i then -1 else if rd b i < rd c i then 1 else 0) := fun k => by
        simp only [slices_Compare_int_int.l0]
        rw [if_pos (by omega), if_pos h0, if_pos (by omega), if_neg z, if_pos (by omega), cmp_int, Option.bind_some, w1]
      rw [r1, r2] at hs
      unfold cmpL
      by_cases l1 : c[i.toNat] < b[i.toNat]
      · rw [if_pos l1]
        exact Ev.step (f := fun _ => some (-1)) (fun k => by rw [hs]; simp [l1]) (Ev.now _)
      · rw [if_neg l1]
        by_cases l2 : b[i.toNat] < c[i.toNat]
        · rw [if_pos l2]
          exact Ev.step (f := fun _ => some 1) (fun k => by rw [hs]; simp [l1, l2]) (Ev.now _)
        · rw [if_neg l2]
          have := ih (i + 1) (by omega) (by omega) (by omega)
          rw [show (i + 1).toNat = i.toNat + 1 by omega] at this
          exact Ev.step (fun k => by rw [hs]; simp [l1, l2]) this
theorem compare_any (c b : List Int) (hl : c.length ≤ 1152921504606846976) : Ev (fun k => slices_Compare_int_int.f k c b) (cmpL c b) :=
  compare_l0 c b hl c.length 0 (by omega) (by omega) (by omega)
/-! #### choices by the bits of a number -/
/-- Does bit i say yes? -/
def bitB (x i : Int) : Bool := decide (Go.bits .and .i64 (shr .i64 x i) 1 = 1)
def chosenBy (f : Nat → Bool) (n : Nat) : List Int := ((List.range n).filter f).map (fun i : Nat => (i : Int))
theorem chosenBy_length (f : Nat → Bool) (n : Nat) : (chosenBy f n).length ≤ n := by
  unfold chosenBy
  rw [List.length_map]
  exact Nat.le_trans (List.length_filter_le _ _) (by simp)
theorem chosenBy_succ (f : Nat → Bool) (n : Nat) : chosenBy f (n + 1) = chosenBy f n ++ (if f n then [(n : Int)] else []) := by
  unfold chosenBy
  rw [List.range_succ, List.filter_append, List.map_append]
  cases h : f n <;> simp [List.filter, h]
theorem chosenBy_choice (f : Nat → Bool) (n : Nat) : IsChoice n (chosenBy f n) ∧ ∀ x ∈ chosenBy f n, x < n := by
  have hm : ∀ x ∈ chosenBy f n, 0 ≤ x ∧ x < n := by
    intro x hx
    unfold chosenBy at hx
    rw [List.mem_map] at hx
    obtain ⟨i, hi, rfl⟩ := hx
    rw [List.mem_filter, List.mem_range] at hi
    omega
  have hp : List.Pairwise (· < ·) (chosenBy f n) := by
    unfold chosenBy
    refine List.Pairwise.map (R := (· < ·)) _ (fun a b h => by omega) ?_
    exact List.Pairwise.filter _ List.pairwise_lt_range
  refine ⟨⟨fun i h0 h1 => ?_, fun i h0 h1 => ?_⟩, fun x hx => (hm x hx).2⟩
  · have hlt : i.toNat < (chosenBy f n).length := by omega
    have hr : rd (chosenBy f n) i = (chosenBy f n)[i.toNat] := by simp [rd, List.getD_eq_getElem?_getD, hlt]
    rw [hr]
    exact hm _ (List.getElem_mem hlt)
  · have l1 : i.toNat < (chosenBy f n).length := by omega
    have l2 : i.toNat + 1 < (chosenBy f n).length := by omega
    have r1 : rd (chosenBy f n) i = (chosenBy f n)[i.toNat] := by simp [rd, List.getD_eq_getElem?_getD, l1]
    have r2 : rd (chosenBy f n) (i + 1) = (chosenBy f n)[i.toNat + 1] := by simp [rd, List.getD_eq_getElem?_getD, show (i + 1).toNat = i.toNat + 1 by omega, l2]
    rw [r1, r2]
    exact List.pairwise_iff_getElem.1 hp _ _ l1 l2 (by omega)
theorem chosenBy_congr {f g : Nat → Bool} {n : Nat} (h : ∀ i, i < n → f i = g i) : chosenBy f n = chosenBy g n := by
  unfold chosenBy
  congr 1
  exact List.filter_congr (fun i hi => h i (List.mem_range.1 hi))
theorem bitB_nat (m i : Nat) (hm : m < 4611686018427387904) (hi : i < 64) : bitB m i = m.testBit i := by
  unfold bitB shr
  have e1 : min ((i : Int).toNat) IntKind.i64.bits = i := by
    rw [Int.toNat_natCast]; exact Nat.min_eq_left (by show i ≤ 64; omega)
  rw [e1]
  have e2 : ((m : Int) / 2 ^ i) = ((m / 2 ^ i : Nat) : Int) := by simp
  have hlt : m / 2 ^ i < 4611686018427387904 := Nat.lt_of_le_of_lt (Nat.div_le_self _ _) hm
  have e3 := bits_mask .i64 62 (by decide) (fun n h0 h1 => by rw [IntKind.wrap_i64]; omega) 1 (by decide) ((m / 2 ^ i : Nat) : Int) (Int.natCast_nonneg _) (Int.lt_of_lt_of_le (Int.ofNat_lt.2 hlt) (by decide))
  rw [show ((2 : Int) ^ 1 - 1) = 1 from rfl] at e3
  rw [e2, e3, Nat.testBit_eq_decide_div_mod_eq]
  generalize m / 2 ^ i = q
  rw [show ((2 : Int) ^ 1) = 2 from rfl]
  exact decide_eq_decide.2 (by omega)
theorem mask_of (f : Nat → Bool) (n : Nat) : ∃ m, m < 2 ^ n ∧ ∀ i, i < n → m.testBit i = f i := by
  induction n with
  | zero => exact ⟨0, by simp, fun i h => by omega⟩
  | succ n ih =>
    obtain ⟨m, hm, hb⟩ := ih
    cases hf : f n with
    | false =>
      refine ⟨m, by rw [Nat.pow_succ]; omega, fun i hi => ?_⟩
      rcases Nat.lt_or_eq_of_le (Nat.le_of_lt_succ hi) with h | rfl
      · exact hb i h
      · rw [hf]; exact Nat.testBit_lt_two_pow hm
    | true =>
      refine ⟨2 ^ n + m, by rw [Nat.pow_succ]; omega, fun i hi => ?_⟩
      rcases Nat.lt_or_eq_of_le (Nat.le_of_lt_succ hi) with h | rfl
      · rw [Nat.testBit_two_pow_add_gt h]; exact hb i h
      · rw [Nat.testBit_two_pow_add_eq, Nat.testBit_lt_two_pow hm, hf]; rfl
/-- One more choice is looked at. -/
def bestStep (x : List S76) (w : Int) (st : List Int × Int × Int) (c : List Int) : List Int × Int × Int :=
  if (val x c).2 > w then st
  else if (val x c).1 > st.2.1 then (c, val x c)
  else if (val x c).1 = st.2.1 then
    (if (val x c).2 < st.2.2 then (c, val x c) else if (val x c).2 = st.2.2 then (if cmpL c st.1 < 0 then (c, val x c) else st) else st)
  else st
def maskC (n m : Nat) : List Int := chosenBy (m.testBit) n
def bestOf (x : List S76) (w : Int) (l : List Nat) (st : List Int × Int × Int) : List Int × Int × Int := l.foldl (fun st m => bestStep x w st (maskC x.length m)) st
/-- The inner loop collects a choice; then it goes on. -/
theorem best_l1 (x : List S76) (hx : itemsB x = true) (hn : x.length ≤ 10) (w : Int) (st : List Int × Int × Int) (t : Int) (m : Nat) (hm : m < 1024) (r : List Int × Int)
    (hr : Ev (fun k => scratch_Best.l0 k x w (bestStep x w st (maskC x.length m)).1 (bestStep x w st (maskC x.length m)).2.1 (bestStep x w st (maskC x.length m)).2.2 t ((m : Int) + 1)) r) (d : Nat) :
    ∀ i : Nat, i + d = x.length → Ev (fun k => scratch_Best.l1 k x w st.1 st.2.1 st.2.2 m (maskC i m) t m (x.length : Int) i) r := by
  induction d with
  | zero =>
    intro i hi
    obtain rfl : i = x.length := by omega
    have hc := (chosenBy_choice m.testBit x.length).1
    have hv := value_any x (maskC x.length m) hx hc (Nat.le_trans (chosenBy_length _ _) (by omega))
    have hcmp := compare_any (maskC x.length m) st.1 (Nat.le_trans (chosenBy_length _ _) (by omega))
    have w1 : wrap64 ((m : Int) + 1) = m + 1 := w64 (by omega)
    have hs : ∀ k, scratch_Best.l1 (k + 1) x w st.1 st.2.1 st.2.2 m (maskC x.length m) t m (x.length : Int) x.length = (scratch_Value.f k x (maskC x.length m)).bind fun bt119 => (if bt119.2.1 > w then (scratch_Best.l0 k x w st.1 st.2.1 st.2.2 t (wrap64 ((m : Int) + 1))) else (if bt119.1 > st.2.1 then (scratch_Best.l0 k x w (maskC x.length m) bt119.1 bt119.2.1 t (wrap64 ((m : Int) + 1))) else (if bt119.1 = st.2.1 then (if bt119.2.1 < st.2.2 then (scratch_Best.l0 k x w (maskC x.length m) bt119.1 bt119.2.1 t (wrap64 ((m : Int) + 1))) else (if bt119.2.1 = st.2.2 then ((slices_Compare_int_int.f k (maskC x.length m) st.1).bind fun t122 => (if t122 < 0 then (scratch_Best.l0 k x w (maskC x.length m) bt119.1 bt119.2.1 t (wrap64 ((m : Int) + 1))) else (scratch_Best.l0 k x w st.1 st.2.1 st.2.2 t (wrap64 ((m : Int) + 1))))) else (scratch_Best.l0 k x w st.1 st.2.1 st.2.2 t (wrap64 ((m : Int) + 1))))) else (scratch_Best.l0 k x w st.1 st.2.1 st.2.2 t (wrap64 ((m : Int) + 1)))))) := fun k => by
      simp only [scratch_Best.l1]
      rw [if_neg (by omega)]
    refine Ev.step hs (Ev.bind hv ?_)
    rw [w1]
    unfold bestStep at hr
    generalize maskC x.length m = c at *
    by_cases c1 : (val x c).2 > w
    · simp only [if_pos c1] at hr ⊢; exact hr
    · simp only [if_neg c1] at hr ⊢
      by_cases c2 : (val x c).1 > st.2.1
      · simp only [if_pos c2] at hr ⊢; exact hr
      · simp only [if_neg c2] at hr ⊢
        by_cases c3 : (val x c).1 = st.2.1
        · simp only [if_pos c3] at hr ⊢
          by_cases c4 : (val x c).2 < st.2.2
          · simp only [if_pos c4] at hr ⊢; exact hr
          · simp only [if_neg c4] at hr ⊢
            by_cases c5 : (val x c).2 = st.2.2
            · simp only [if_pos c5] at hr ⊢
              refine Ev.bind hcmp ?_
              by_cases c6 : cmpL c st.1 < 0
              · simp only [if_pos c6] at hr ⊢; exact hr
              · simp only [if_neg c6] at hr ⊢; exact hr
            · simp only [if_neg c5] at hr ⊢; exact hr
        · simp only [if_neg c3] at hr ⊢; exact hr
  | succ d ih =>
    intro i hi
    have w1 : wrap64 ((i : Int) + 1) = ((i + 1 : Nat) : Int) := by rw [w64 (by omega)]; omega
    have hb := bitB_nat m i (by omega) (by omega)
    have := ih (i + 1) (by omega)
    have hlen := chosenBy_length m.testBit i
    refine Ev.step (fun k => ?_) this
    simp only [scratch_Best.l1]
    rw [if_pos (by omega), if_pos (by omega), w1]
    unfold bitB at hb
    unfold maskC at *
    rw [chosenBy_succ]
    cases ht : m.testBit i with
    | true =>
      rw [ht] at hb
      rw [if_pos (of_decide_eq_true hb), if_pos (by omega)]
      rfl
    | false =>
      rw [ht] at hb
      rw [if_neg (of_decide_eq_false hb)]
      simp
theorem best_l0 (x : List S76) (hx : itemsB x = true) (hn : x.length ≤ 10) (w : Int) (d : Nat) : ∀ (m : Nat) (st : List Int × Int × Int), m + d = 2 ^ x.length →
    Ev (fun k => scratch_Best.l0 k x w st.1 st.2.1 st.2.2 ((2 ^ x.length : Nat) : Int) m) ((bestOf x w (List.range' m d) st).1, 0) := by
  have hp : 2 ^ x.length ≤ 1024 := Nat.le_trans (Nat.pow_le_pow_right (by decide) hn) (by decide)
  induction d with
  | zero =>
    intro m st hm
    refine Ev.step (f := fun _ => some (st.1, 0)) (fun k => by simp only [scratch_Best.l0]; rw [if_neg (by omega)]) ?_
    exact Ev.now _
  | succ d ih =>
    intro m st hm
    have := ih (m + 1) (bestStep x w st (maskC x.length m)) (by omega)
    rw [List.range'_succ]
    refine Ev.step (fun k => ?_) (best_l1 x hx hn w st _ m (by omega) _ this x.length 0 (by omega))
    simp only [scratch_Best.l0]
    rw [if_pos (by omega)]
    rfl
theorem itemsB_len {x : List S76} (hx : itemsB x = true) : x.length ≤ 10 := by
  unfold itemsB at hx
  rw [Bool.and_eq_true, decide_eq_true_eq] at hx
  omega
theorem shl_one (n : Nat) (hn : n ≤ 10) : shl .i64 1 (n : Int) = ((2 ^ n : Nat) : Int) := by
  have : n = 0 ∨ n = 1 ∨ n = 2 ∨ n = 3 ∨ n = 4 ∨ n = 5 ∨ n = 6 ∨ n = 7 ∨ n = 8 ∨ n = 9 ∨ n = 10 := by omega
  rcases this with h | h | h | h | h | h | h | h | h | h | h <;> subst h <;> decide
/-- The best choice, as the loop finds it. -/
def bestP (x : List S76) (w : Int) : List Int × Int × Int := bestOf x w (List.range (2 ^ x.length)) ([], 0, 0)
theorem best_any (x : List S76) (hx : itemsB x = true) (w : Int) (h0 : 0 ≤ w) (h1 : w ≤ 256) : Ev (fun k => scratch_Best.f k x w) ((bestP x w).1, 0) := by
  have hn := itemsB_len hx
  unfold scratch_Best.f
  have e1 : ∀ (f : Bool → Option (List Int × Int)), (scratch_Valid.f x).bind f = f true := fun f => by unfold scratch_Valid.f; rw [hx]; rfl
  refine Ev.congr (fun k => by rw [e1, if_pos rfl, if_neg (show ¬ w < 0 by omega), show decide (w > 256) = false from decide_eq_false (by omega)]) ?_
  have := best_l0 x hx hn w (2 ^ x.length) 0 ([], 0, 0) (by omega)
  rw [← List.range_eq_range'] at this
  refine Ev.step (fun k => ?_) this
  simp only [scratch_Best.j0]
  rw [if_neg (by simp), shl_one x.length hn]
  rfl
structure BestInv (x : List S76) (w : Int) (st : List Int × Int × Int) : Prop where
  val : st.2 = val x st.1
  small : st.2.2 ≤ w
  choice : IsChoice x.length st.1
  short : st.1.length ≤ x.length
  mask : ∃ f, st.1 = chosenBy f x.length
theorem bestStep_inv (x : List S76) (w : Int) (st : List Int × Int × Int) (m : Nat) (h : BestInv x w st) :
    BestInv x w (bestStep x w st (maskC x.length m)) ∧ st.2.1 ≤ (bestStep x w st (maskC x.length m)).2.1 ∧ ((val x (maskC x.length m)).2 ≤ w → (val x (maskC x.length m)).1 ≤ (bestStep x w st (maskC x.length m)).2.1) := by
  have hc := (chosenBy_choice m.testBit x.length).1
  have hl := chosenBy_length m.testBit x.length
  change IsChoice x.length (maskC x.length m) at hc
  change (maskC x.length m).length ≤ x.length at hl
  have hk : ∃ f, maskC x.length m = chosenBy f x.length := ⟨_, rfl⟩
  generalize maskC x.length m = c at *
  unfold bestStep
  by_cases c1 : (val x c).2 > w
  · rw [if_pos c1]; exact ⟨h, Int.le_refl _, fun h2 => by omega⟩
  · rw [if_neg c1]
    have hnew : BestInv x w (c, val x c) := ⟨rfl, by simp only; omega, hc, hl, hk⟩
    by_cases c2 : (val x c).1 > st.2.1
    · rw [if_pos c2]; exact ⟨hnew, by simp only; omega, fun _ => Int.le_refl _⟩
    · rw [if_neg c2]
      by_cases c3 : (val x c).1 = st.2.1
      · rw [if_pos c3]
        split
        · exact ⟨hnew, by simp only; omega, fun _ => Int.le_refl _⟩
        · split
          · split
            · exact ⟨hnew, by simp only; omega, fun _ => Int.le_refl _⟩
            · exact ⟨h, Int.le_refl _, fun _ => by omega⟩
          · exact ⟨h, Int.le_refl _, fun _ => by omega⟩
      · rw [if_neg c3]; exact ⟨h, Int.le_refl _, fun _ => by omega⟩
theorem bestOf_inv (x : List S76) (w : Int) (l : List Nat) : ∀ (st : List Int × Int × Int), BestInv x w st →
    BestInv x w (bestOf x w l st) ∧ st.2.1 ≤ (bestOf x w l st).2.1 ∧ ∀ m ∈ l, (val x (maskC x.length m)).2 ≤ w → (val x (maskC x.length m)).1 ≤ (bestOf x w l st).2.1 := by
  induction l with
  | nil => exact fun st h => ⟨h, Int.le_refl _, by simp⟩
  | cons m l ih =>
    intro st h
    obtain ⟨h1, h2, h3⟩ := bestStep_inv x w st m h
    obtain ⟨k1, k2, k3⟩ := ih _ h1
    refine ⟨k1, Int.le_trans h2 k2, fun m' hm hs => ?_⟩
    rw [List.mem_cons] at hm
    rcases hm with rfl | hm
    · exact Int.le_trans (h3 hs) k2
    · exact k3 m' hm hs
theorem bestP_inv (x : List S76) (w : Int) (h0 : 0 ≤ w) : BestInv x w (bestP x w) ∧ ∀ f : Nat → Bool, (val x (chosenBy f x.length)).2 ≤ w → (val x (chosenBy f x.length)).1 ≤ (bestP x w).2.1 := by
  obtain ⟨h1, _, h3⟩ := bestOf_inv x w (List.range (2 ^ x.length)) ([], 0, 0) ⟨rfl, h0, ⟨fun i a b => by simp at b; omega, fun i a b => by simp at b; omega⟩, Nat.zero_le _, ⟨fun _ => false, by unfold chosenBy; simp⟩⟩
  refine ⟨h1, fun f hs => ?_⟩
  obtain ⟨m, hm, hb⟩ := mask_of f x.length
  have hc : chosenBy f x.length = maskC x.length m := chosenBy_congr (fun i hi => (hb i hi).symm)
  rw [hc] at hs ⊢
  exact h3 m (List.mem_range.2 hm) hs
theorem awake36 : Ev (fun k => timeboundlaw36_awake.f k) true := by
  unfold timeboundlaw36_awake.f timeboundlaw36_three.f
  simp only [Option.bind_some]
  refine Ev.bind (best_any _ (by decide +kernel) 4 (by omega) (by omega)) ?_
  rw [show (bestP [⟨true, ⟨0, 3⟩, 3, 5⟩, ⟨true, ⟨3, 5⟩, 2, 3⟩, ⟨false, ⟨0, 2⟩, 2, 3⟩] 4).1 = [1, 2] by decide +kernel]
  exact Ev.now _
def okAt (n : Int) (c : List Int) (i : Nat) : Bool := decide (0 ≤ rd c i) && decide (rd c i < n) && (decide (i = 0) || decide (rd c ((i : Int) - 1) < rd c i))
def choiceB (n : Int) (c : List Int) : Bool := (List.range c.length).all (okAt n c)
theorem choiceG_l0 (n : Int) (c : List Int) (hl : c.length ≤ 1000) (d : Nat) : ∀ i : Nat, i + d = c.length → Ev (fun k => scratch_choice.l0 k n c c (c.length : Int) i) ((List.range' i d).all (okAt n c)) := by
  induction d with
  | zero => exact fun i hi => Ev.step (f := fun _ => some true) (fun k => by simp only [scratch_choice.l0]; rw [if_neg (by omega)]) (Ev.now _)
  | succ d ih =>
    intro i hi
    have R := ih (i + 1) (by omega)
    have w1 : wrap64 ((i : Int) + 1) = ((i + 1 : Nat) : Int) := by rw [w64 (by omega)]; omega
    have w2 : wrap64 ((i : Int) - 1) = (i : Int) - 1 := w64 (by omega)
    rw [List.range'_succ, List.all_cons]
    unfold okAt
    by_cases c1 : rd c i < 0
    · rw [show decide (0 ≤ rd c i) = false from decide_eq_false (by omega), Bool.false_and, Bool.false_and, Bool.false_and]
      exact Ev.step (f := fun _ => some false) (fun k => by simp only [scratch_choice.l0]; rw [if_pos (by omega), if_pos (by omega), if_pos (by omega), if_pos c1]) (Ev.now _)
    by_cases c2 : rd c i ≥ n
    · rw [show decide (rd c i < n) = false from decide_eq_false (by omega), Bool.and_false, Bool.false_and, Bool.false_and]
      exact Ev.step (f := fun _ => some false) (fun k => by simp only [scratch_choice.l0]; rw [if_pos (by omega), if_pos (by omega), if_pos (by omega), if_neg c1, if_pos c2]) (Ev.now _)
    rw [show decide (0 ≤ rd c i) = true from decide_eq_true (by omega), show decide (rd c i < n) = true from decide_eq_true (by omega), Bool.true_and, Bool.true_and]
    by_cases c3 : i = 0
    · rw [decide_eq_true c3, Bool.true_or, Bool.true_and]
      exact Ev.step (fun k => by simp only [scratch_choice.l0]; rw [if_pos (by omega), if_pos (by omega), if_pos (by omega), if_neg c1, if_neg c2, if_neg (by omega), w1]) R
    · rw [decide_eq_false c3, Bool.false_or]
      by_cases c4 : rd c ((i : Int) - 1) < rd c i
      · rw [decide_eq_true c4, Bool.true_and]
        exact Ev.step (fun k => by simp only [scratch_choice.l0]; rw [if_pos (by omega), if_pos (by omega), if_pos (by omega), if_neg c1, if_neg c2, if_pos (by omega), w2, if_pos (by omega), if_pos (by omega), if_neg (by omega), w1]) R
      · rw [decide_eq_false c4, Bool.false_and]
        exact Ev.step (f := fun _ => some false) (fun k => by simp only [scratch_choice.l0]; rw [if_pos (by omega), if_pos (by omega), if_pos (by omega), if_neg c1, if_neg c2, if_pos (by omega), w2, if_pos (by omega), if_pos (by omega), if_pos (by omega)]) (Ev.now _)
theorem choiceG_ev (n : Int) (c : List Int) (hl : c.length ≤ 1000) : Ev (fun k => scratch_choice.f k n c) (choiceB n c) := by
  have := choiceG_l0 n c hl c.length 0 (by omega)
  unfold choiceB
  rw [List.range_eq_range']
  exact this
theorem IsChoice.of {n : Int} {c : List Int} (h : choiceB n c = true) : IsChoice n c := by
  unfold choiceB at h
  rw [List.all_eq_true] at h
  refine ⟨fun i h0 h1 => ?_, fun i h0 h1 => ?_⟩
  · have := h i.toNat (List.mem_range.2 (by omega))
    unfold okAt at this
    rw [Int.toNat_of_nonneg h0] at this
    simp only [Bool.and_eq_true, decide_eq_true_eq] at this
    exact this.1
  · have := h (i + 1).toNat (List.mem_range.2 (by omega))
    unfold okAt at this
    rw [Int.toNat_of_nonneg (by omega)] at this
    simp only [Bool.and_eq_true, Bool.or_eq_true, decide_eq_true_eq] at this
    rcases this.2 with z | z
    · omega
    · rw [show i + 1 - 1 = i by omega] at z; exact z
theorem IsChoice.to {n : Int} {c : List Int} (h : IsChoice n c) : choiceB n c = true := by
  unfold choiceB
  rw [List.all_eq_true]
  intro i hi
  rw [List.mem_range] at hi
  unfold okAt
  have a := h.fits i (by omega) (by omega)
  simp only [Bool.and_eq_true, Bool.or_eq_true, decide_eq_true_eq]
  refine ⟨a, ?_⟩
  by_cases z : i = 0
  · exact .inl z
  · have := h.up ((i : Int) - 1) (by omega) (by omega)
    rw [show (i : Int) - 1 + 1 = i by omega] at this
    exact .inr this
/-- What both say of a choice. -/
theorem rvalue36_l0 (y : List S76) (c : List Int) (hl : c.length ≤ 1000) (d : Nat) : ∀ (i : Nat) (a : Int × Int), i + d = c.length →
    Ev (fun k => timeboundref36_Value.l0 k y c a.1 a.2 c (c.length : Int) i) (if (List.range' i d).all (okAt y.length c) = true then (((c.drop i).foldl (fun a k => (wrap64 (a.1 + (rd_T76 y k).f3), wrap64 (a.2 + (rd_T76 y k).f2))) a).1, ((c.drop i).foldl (fun a k => (wrap64 (a.1 + (rd_T76 y k).f3), wrap64 (a.2 + (rd_T76 y k).f2))) a).2, true) else (0, 0, false)) := by
  induction d with
  | zero =>
    intro i a hi
    rw [List.drop_of_length_le (by omega), if_pos (by simp)]
    exact Ev.step (f := fun _ => some (a.1, a.2, true)) (fun k => by simp only [timeboundref36_Value.l0]; rw [if_neg (by omega)]) (Ev.now _)
  | succ d ih =>
    intro i a hi
    have hlt : i < c.length := by omega
    have hr : rd c (i : Int) = c[i] := by simp [rd, List.getD_eq_getElem?_getD, hlt]
    have R := ih (i + 1) (wrap64 (a.1 + (rd_T76 y (rd c i)).f3), wrap64 (a.2 + (rd_T76 y (rd c i)).f2)) (by omega)
    have w1 : wrap64 ((i : Int) + 1) = ((i + 1 : Nat) : Int) := by rw [w64 (by omega)]; omega
    have w2 : wrap64 ((i : Int) - 1) = (i : Int) - 1 := w64 (by omega)
    rw [List.range'_succ, List.all_cons, List.drop_eq_getElem_cons hlt, List.foldl_cons, ← hr]
    by_cases c1 : rd c i < 0
    · rw [show okAt y.length c i = false by unfold okAt; simp [show ¬ 0 ≤ rd c i by omega], Bool.false_and, if_neg (by simp)]
      exact Ev.step (f := fun _ => some (0, 0, false)) (fun k => by simp only [timeboundref36_Value.l0]; rw [if_pos (by omega), if_pos (by omega), if_pos (by omega), if_pos c1]) (Ev.now _)
    by_cases c2 : rd c i ≥ (y.length : Int)
    · rw [show okAt y.length c i = false by unfold okAt; simp [show ¬ rd c i < (y.length : Int) by omega], Bool.false_and, if_neg (by simp)]
      exact Ev.step (f := fun _ => some (0, 0, false)) (fun k => by simp only [timeboundref36_Value.l0]; rw [if_pos (by omega), if_pos (by omega), if_pos (by omega), if_neg c1, if_pos c2]) (Ev.now _)
    by_cases c3 : i = 0
    · rw [show okAt y.length c i = true by unfold okAt; simp [c3]; subst c3; simp at c1 c2; omega, Bool.true_and]
      exact Ev.step (fun k => by simp only [timeboundref36_Value.l0]; rw [if_pos (by omega), if_pos (by omega), if_pos (by omega), if_neg c1, if_neg c2, if_neg (by omega), if_pos (by omega), if_pos (by omega), w1]) R
    · by_cases c4 : rd c ((i : Int) - 1) < rd c i
      · rw [show okAt y.length c i = true by unfold okAt; simp [c4]; omega, Bool.true_and]
        exact Ev.step (fun k => by simp only [timeboundref36_Value.l0]; rw [if_pos (by omega), if_pos (by omega), if_pos (by omega), if_neg c1, if_neg c2, if_pos (by omega), w2, if_pos (by omega), if_pos (by omega), if_neg (by omega), if_pos (by omega), if_pos (by omega), w1]) R
      · rw [show okAt y.length c i = false by unfold okAt; simp [c3, c4], Bool.false_and, if_neg (by simp)]
        exact Ev.step (f := fun _ => some (0, 0, false)) (fun k => by simp only [timeboundref36_Value.l0]; rw [if_pos (by omega), if_pos (by omega), if_pos (by omega), if_neg c1, if_neg c2, if_pos (by omega), w2, if_pos (by omega), if_pos (by omega), if_pos (by omega)]) (Ev.now _)
/-! #### processors that are made -/
theorem cache_any (s : List Int) (p : Int) (hs : s.length ≤ 1152921504606846976) (hp : 0 ≤ p) (hq : p ≤ s.length) :
    ∃ a b c q, timeboundmake_Cache.f s p = some (a, b, c, q) ∧ cache_Check.f a b c = some 0 ∧ 0 ≤ q ∧ q ≤ s.length := by
  obtain ⟨a, p1, e1, a0, a1, p10, p11⟩ := next_range s p 5 hs hp hq (by omega) (by omega)
  obtain ⟨b, p2, e2, b0, b1, p20, p21⟩ := next_range s p1 3 hs p10 p11 (by omega) (by omega)
  obtain ⟨c, p3, e3, c0, c1, p30, p31⟩ := next_range s p2 4 hs p20 p21 (by omega) (by omega)
  have w1 : wrap64 (1 + b) = 1 + b := w64 (by omega)
  have w2 : wrap64 (1 + c) = 1 + c := w64 (by omega)
  refine ⟨a, 1 + b, 1 + c, p3, ?_, ?_, p30, p31⟩
  · unfold timeboundmake_Cache.f
    rw [e1, Option.bind_some, e2, Option.bind_some, e3, Option.bind_some, w1, w2]
  · unfold cache_Check.f cache_between.f
    rw [if_pos (by omega), Option.bind_some, if_pos (by rw [decide_eq_true_eq]; omega), if_pos (by omega), Option.bind_some, if_pos (by rw [decide_eq_true_eq]; omega), if_pos (by omega), Option.bind_some, if_pos (by rw [decide_eq_true_eq]; omega)]
def numsOk (p0 p1 p2 p3 p4 p5 p6 p7 p8 p9 p10 p11 p12 p13 p14 : Int) : Prop :=
  cache_Check.f p0 p1 p2 = some 0 ∧ cache_Check.f p3 p4 p5 = some 0 ∧ (∀ x ∈ [p6, p9, p11, p12, p13, p14], 0 ≤ x ∧ x ≤ 100) ∧ (0 ≤ p7 ∧ p7 ≤ 8) ∧ (1 ≤ p8 ∧ p8 ≤ 16) ∧ (0 ≤ p10 ∧ p10 ≤ 16)
theorem between_in (x a b : Int) (h0 : a ≤ x) (h1 : x ≤ b) : timing_between.f x a b = some true := by
  unfold timing_between.f
  rw [if_pos (by omega)]
  simp [h1]
def checkB (c d : List S74) : Int := if placedB c 1024 && placedB d 1024 then 0 else 3
section
variable {p0 p1 p2 p3 p4 p5 p6 p7 p8 p9 p10 p11 p12 p13 p14 : Int}
theorem check_l0 (h : numsOk p0 p1 p2 p3 p4 p5 p6 p7 p8 p9 p10 p11 p12 p13 p14) (c d : List S74) (y : List Int) (hy : ∀ x ∈ y, 0 ≤ x ∧ x ≤ 100) (hl : y.length ≤ 100) (n : Nat) : ∀ i : Int, 0 ≤ i → (y.length : Int) - i = n →
    Ev (fun k => timing_Check.l0 k y (y.length : Int) i p0 p1 p2 p3 p4 p5 p6 p7 p8 p9 p10 p11 p12 p13 p14 c d) (checkB c d) := by
  induction n with
  | zero =>
    intro i h0 hi
    obtain ⟨_, _, _, h7, h8, h10⟩ := h
    refine Ev.step (f := fun _ => some (checkB c d)) (fun k => ?_) (Ev.now _)
    simp only [timing_Check.l0]
    rw [if_neg (by omega), between_in p7 0 8 h7.1 h7.2, between_in p8 1 16 h8.1 h8.2, between_in p10 0 16 h10.1 h10.2]
    simp only [Option.bind_some, if_true, timing_placed.f]
    unfold checkB
    cases placedB c 1024 <;> cases placedB d 1024 <;> simp
  | succ n ih =>
    intro i h0 hi
    have hlt : i.toNat < y.length := by omega
    have hr : rd y i = y[i.toNat] := by simp [rd, List.getD_eq_getElem?_getD, hlt]
    have hx := hy _ (List.getElem_mem hlt)
    refine Ev.step (fun k => ?_) (ih (i + 1) (by omega) (by omega))
    simp only [timing_Check.l0]
    rw [if_pos (by omega), if_pos h0, if_pos (by omega), hr, between_in _ 0 100 hx.1 hx.2, w64 (x := i + 1) (by omega)]
    simp only [Option.bind_some, if_true]
theorem check_any (h : numsOk p0 p1 p2 p3 p4 p5 p6 p7 p8 p9 p10 p11 p12 p13 p14) (c d : List S74) :
    Ev (fun k => timing_Check.f k p0 p1 p2 p3 p4 p5 p6 p7 p8 p9 p10 p11 p12 p13 p14 c d) (checkB c d) := by
  refine Ev.congr (fun k => ?_) (check_l0 h c d [p6, p9, p11, p12, p13, p14] h.2.2.1 (by simp) 6 0 (by omega) (by simp))
  unfold timing_Check.f
  rw [h.1, Option.bind_some, if_pos rfl, h.2.1, Option.bind_some, if_pos rfl, Option.bind_some]
end
theorem span_any (s : List Int) (q a b : Int) (hs : s.length ≤ 1152921504606846976) (hp : 0 ≤ q) (hq : q ≤ s.length) (a0 : 1 ≤ a) (a1 : a ≤ 100) (b0 : 1 ≤ b) (b1 : b ≤ 40) :
    ∃ c q', spanOf s q a b = some (c, q') ∧ placedB c 1024 = true ∧ c.length ≤ 1 ∧ 0 ≤ q' ∧ q' ≤ s.length := by
  obtain ⟨n, q1, e1, l1, m1, u1, v1⟩ := next_range s q 3 hs hp hq (by omega) (by omega)
  unfold spanOf
  by_cases z : n = 2
  · obtain ⟨x, q2, e2, l2, m2, u2, v2⟩ := next_range s q1 a hs u1 v1 (by omega) (by omega)
    obtain ⟨y, q3, e3, l3, m3, u3, v3⟩ := next_range s q2 b hs u2 v2 (by omega) (by omega)
    refine ⟨[⟨x, wrap64 (x + y)⟩], q3, by simp only [e1, e2, e3, Option.bind_some, if_pos z], ?_, by simp, u3, v3⟩
    rw [w64 (by omega)]
    simp [placedB, spanBad]
    omega
  · exact ⟨[], q1, by simp only [e1, Option.bind_some, if_neg z], by simp [placedB], by simp, u1, v1⟩
theorem processor_any (s : List Int) (p : Int) (hs : s.length ≤ 1152921504606846976) (hp : 0 ≤ p) (hq : p ≤ s.length) :
    ∃ p0 p1 p2 p3 p4 p5 p6 p7 p8 p9 p10 p11 p12 p13 p14 c d q, timeboundmake_Processor.f s p = some (p0, p1, p2, p3, p4, p5, p6, p7, p8, p9, p10, p11, p12, p13, p14, c, d, q) ∧
      numsOk p0 p1 p2 p3 p4 p5 p6 p7 p8 p9 p10 p11 p12 p13 p14 ∧ placedB c 1024 = true ∧ placedB d 1024 = true ∧ c.length ≤ 1 ∧ d.length ≤ 1 ∧ 0 ≤ q ∧ q ≤ s.length := by
  obtain ⟨a1, b1, c1, q1, e1, k1, u1, v1⟩ := cache_any s p hs hp hq
  obtain ⟨a2, b2, c2, q2, e2, k2, u2, v2⟩ := cache_any s q1 hs u1 v1
  obtain ⟨n3, q3, e3, l3, m3, u3, v3⟩ := next_range s q2 12 hs u2 v2 (by omega) (by omega)
  obtain ⟨n4, q4, e4, l4, m4, u4, v4⟩ := next_range s q3 4 hs u3 v3 (by omega) (by omega)
  obtain ⟨n5, q5, e5, l5, m5, u5, v5⟩ := next_range s q4 4 hs u4 v4 (by omega) (by omega)
  obtain ⟨n6, q6, e6, l6, m6, u6, v6⟩ := next_range s q5 6 hs u5 v5 (by omega) (by omega)
  obtain ⟨n7, q7, e7, l7, m7, u7, v7⟩ := next_range s q6 5 hs u6 v6 (by omega) (by omega)
  obtain ⟨n8, q8, e8, l8, m8, u8, v8⟩ := next_range s q7 5 hs u7 v7 (by omega) (by omega)
  obtain ⟨n9, q9, e9, l9, m9, u9, v9⟩ := next_range s q8 3 hs u8 v8 (by omega) (by omega)
  obtain ⟨n10, q10, e10, l10, m10, u10, v10⟩ := next_range s q9 4 hs u9 v9 (by omega) (by omega)
  obtain ⟨n11, q11, e11, l11, m11, u11, v11⟩ := next_range s q10 9 hs u10 v10 (by omega) (by omega)
  obtain ⟨c, q12, e12, kc, lc, u12, v12⟩ := span_any s q11 100 40 hs u11 v11 (by omega) (by omega) (by omega) (by omega)
  obtain ⟨d, q13, e13, kd, ld, u13, v13⟩ := span_any s q12 30 20 hs u12 v12 (by omega) (by omega) (by omega) (by omega)
  have hw : wrap64 (1 + n5) = 1 + n5 := w64 (by omega)
  refine ⟨a1, b1, c1, a2, b2, c2, n3, n4, 1 + n5, n6, n7, n8, n9, n10, n11, c, d, q13, ?_, ⟨k1, k2, ?_, by omega, by omega, by omega⟩, kc, kd, lc, ld, u13, v13⟩
  · unfold timeboundmake_Processor.f
    simp only [e1, e2, e3, e4, e5, e6, e7, e8, e9, e10, e11, e12, e13, Option.bind_some, hw]
  · intro x hx
    simp only [List.mem_cons, List.not_mem_nil, or_false] at hx
    omega
/-! #### what is placed -/
/-- The spans of the items of one kind among a choice, behind others. -/
def put36 (x : List S76) (code : Bool) (l : List Int) (s : List S74) : List S74 := l.foldl (fun s k => if (rd_T76 x k).f0 = code then s ++ [(rd_T76 x k).f1] else s) s
theorem put36_len (x : List S76) (code : Bool) (l : List Int) : ∀ s, (put36 x code l s).length ≤ s.length + l.length := by
  unfold put36
  induction l with
  | nil => intro s; simp
  | cons k l ih =>
    intro s
    rw [List.foldl_cons]
    refine Nat.le_trans (ih _) ?_
    split <;> simp <;> omega
def inB (a : Int) (s : S74) : Bool := decide (s.f0 ≤ a) && decide (a < s.f1)
theorem scratch_l0 (l : List S74) (hl : l.length ≤ 1000) (a : Int) (n : Nat) : ∀ i : Int, 0 ≤ i → (l.length : Int) - i = n → Ev (fun k => timeboundref23_Scratch.l0 k l a i) ((l.drop i.toNat).any (inB a)) := by
  induction n with
  | zero =>
    intro i h0 hi
    rw [List.drop_of_length_le (by omega)]
    exact Ev.step (f := fun _ => some false) (fun k => by simp only [timeboundref23_Scratch.l0]; rw [if_neg (by omega)]) (Ev.now _)
  | succ n ih =>
    intro i h0 hi
    have hlt : i.toNat < l.length := by omega
    have hr : rd_T74 l i = l[i.toNat] := by simp [rd_T74, List.getD_eq_getElem?_getD, hlt]
    have w1 : wrap64 (i + 1) = i + 1 := w64 (by omega)
    have := ih (i + 1) (by omega) (by omega)
    rw [show (i + 1).toNat = i.toNat + 1 by omega] at this
    rw [List.drop_eq_getElem_cons hlt, List.any_cons, ← hr]
    by_cases z1 : a ≥ (rd_T74 l i).f0
    · by_cases z2 : a < (rd_T74 l i).f1
      · rw [show inB a (rd_T74 l i) = true by simp [inB, z2]; omega, Bool.true_or]
        exact Ev.step (f := fun _ => some true) (fun k => by simp only [timeboundref23_Scratch.l0]; rw [if_pos (by omega), if_pos h0, if_pos z1, if_pos z2]) (Ev.now _)
      · rw [show inB a (rd_T74 l i) = false by simp [inB, z2], Bool.false_or]
        exact Ev.step (fun k => by simp only [timeboundref23_Scratch.l0]; rw [if_pos (by omega), if_pos h0, if_pos z1, if_neg z2, w1]) this
    · rw [show inB a (rd_T74 l i) = false by simp [inB]; omega, Bool.false_or]
      exact Ev.step (fun k => by simp only [timeboundref23_Scratch.l0]; rw [if_pos (by omega), if_pos h0, if_neg z1, w1]) this
theorem scratch_any (l : List S74) (hl : l.length ≤ 1000) (a : Int) : Ev (fun k => timeboundref23_Scratch.f k l a) (l.any (inB a)) :=
  scratch_l0 l hl a l.length 0 (by omega) (by omega)
/-! #### ScratchPlaces -/
theorem valid36_l1 (y : List S76) (hy : y.length ≤ 1000) (x : S76) (i : Int) (hR : Ev (fun k => timeboundref36_Valid.l0 k y y (y.length : Int) (wrap64 (i + 1))) true) (p : List S76) (hp : p.length ≤ 1000) (ho : ∀ z ∈ p, overlapB x z = false) (d : Nat) : ∀ j : Int, 0 ≤ j → (p.length : Int) - j = d →
    Ev (fun k => timeboundref36_Valid.l1 k y y (y.length : Int) i p (p.length : Int) j x.f0 x.f1.f0 x.f1.f1 x.f2 x.f3) true := by
  induction d with
  | zero => exact fun j h0 hd => Ev.step (fun k => by simp only [timeboundref36_Valid.l1]; rw [if_neg (by omega)]) hR
  | succ d ih =>
    intro j h0 hd
    have hlt : j.toNat < p.length := by omega
    have hr : rd_T76 p j = p[j.toNat] := by simp [rd_T76, List.getD_eq_getElem?_getD, hlt]
    have hov := ho _ (List.getElem_mem hlt)
    rw [← hr] at hov
    have w1 : wrap64 (j + 1) = j + 1 := w64 (by omega)
    refine Ev.step (fun k => ?_) (ih (j + 1) (by omega) (by omega))
    simp only [timeboundref36_Valid.l1]
    rw [if_pos (by omega), if_pos h0, if_pos (by omega), w1]
    unfold overlapB at hov
    by_cases c1 : (x.f0 == (rd_T76 p j).f0) = true
    · rw [if_pos c1]
      by_cases c2 : x.f1.f0 < (rd_T76 p j).f1.f1
      · rw [if_pos c2]
        by_cases c3 : (rd_T76 p j).f1.f0 < x.f1.f1
        · simp [c1, c2, c3] at hov
        · rw [if_neg c3]
      · rw [if_neg c2]
    · rw [if_neg c1]
theorem valid36_l0 (y : List S76) (hx : itemsB y = true) (d : Nat) : ∀ i : Nat, i + d = y.length → Ev (fun k => timeboundref36_Valid.l0 k y y (y.length : Int) i) true := by
  have hl := itemsB_len hx
  induction d with
  | zero =>
    intro i hi
    refine Ev.step (f := fun _ => some true) (fun k => ?_) (Ev.now _)
    simp only [timeboundref36_Valid.l0]
    rw [if_neg (by omega), decide_eq_true (by omega)]
  | succ d ih =>
    intro i hi
    have hlt : i < y.length := by omega
    have hr : rd_T76 y (i : Int) = y.getD i z76 := by simp [rd_T76]
    have hIt : itemAt y i = true := by
      unfold itemsB at hx
      rw [Bool.and_eq_true, List.all_eq_true] at hx
      exact hx.1 i (by simpa using hlt)
    unfold itemAt at hIt
    rw [Bool.and_eq_true, ← hr] at hIt
    obtain ⟨hg, ho⟩ := hIt
    generalize hX : rd_T76 y (i : Int) = X at *
    unfold goodB at hg
    simp only [Bool.and_eq_true, decide_eq_true_eq] at hg
    have w1 : wrap64 ((i : Int) + 1) = ((i + 1 : Nat) : Int) := by rw [w64 (by omega)]; omega
    have R := ih (i + 1) (by omega)
    have ho' : ∀ z ∈ y.take i, overlapB X z = false := by
      intro z hz
      cases hb : overlapB X z with
      | false => rfl
      | true =>
        have : (y.take i).any (overlapB X) = true := List.any_eq_true.2 ⟨z, hz, hb⟩
        rw [this] at ho; simp at ho
    have R1 := valid36_l1 y (by omega) X i (by rw [w1]; exact R) (y.take i) (by rw [List.length_take]; omega) ho' (y.take i).length 0 (by omega) (by omega)
    have R2 : Ev (fun k => timeboundref36_Valid.j1 k y i 1024 y (y.length : Int) i X.f0 X.f1.f0 X.f1.f1 X.f2 X.f3) true := by
      refine Ev.step (fun k => ?_) R1
      simp only [timeboundref36_Valid.j1]
      rw [if_neg (by omega), if_neg (by omega), if_neg (by omega), if_pos (by omega), if_neg (by omega), if_neg (by omega), if_pos (by omega), if_pos (by omega)]
      simp only [Option.bind_some, Int.toNat_natCast]
    refine Ev.step (fun k => ?_) R2
    simp only [timeboundref36_Valid.l0]
    rw [if_pos (by omega), if_pos (by omega), if_pos (by omega), hX]
    split <;> rfl
theorem valid36 (y : List S76) (hx : itemsB y = true) : Ev (fun k => timeboundref36_Valid.f k y) true := valid36_l0 y hx y.length 0 (by omega)
theorem rvalue36 (y : List S76) (hx : itemsB y = true) (c : List Int) (hc : c.length ≤ 1000) : ∃ g n, Ev (fun k => timeboundref36_Value.f k y c) (g, n, choiceB y.length c) := by
  have := rvalue36_l0 y c hc c.length 0 (0, 0) (by omega)
  rw [← List.range_eq_range', List.drop_zero] at this
  unfold timeboundref36_Value.f
  by_cases h : choiceB y.length c = true
  · rw [show (List.range c.length).all (okAt y.length c) = true from h, if_pos rfl] at this
    rw [h]
    refine ⟨(val y c).1, (val y c).2, Ev.bind (valid36 y hx) ?_⟩
    simp only [if_true]
    exact this
  · have h' : choiceB y.length c = false := by simpa using h
    rw [show (List.range c.length).all (okAt y.length c) = false from h', if_neg (by simp)] at this
    rw [h']
    refine ⟨0, 0, Ev.bind (valid36 y hx) ?_⟩
    simp only [if_true]
    exact this
theorem cache22 {a b c : Int} (h : cache_Check.f a b c = some 0) : timeboundref22_Check.f a b c = some 0 := by
  have bt : ∀ x lo hi : Int, cache_between.f x lo hi = some (decide (lo ≤ x ∧ x ≤ hi)) := by
    intro x lo hi
    unfold cache_between.f
    by_cases z : x ≥ lo
    · rw [if_pos z]; congr 1; simp [show lo ≤ x from z]
    · rw [if_neg z]; congr 1; simp [show ¬ lo ≤ x by omega]
  unfold cache_Check.f at h
  rw [bt, bt, bt] at h
  simp only [Option.bind_some, decide_eq_true_eq] at h
  by_cases c1 : 0 ≤ a ∧ a ≤ 8
  · rw [if_pos c1] at h
    by_cases c2 : 1 ≤ b ∧ b ≤ 4
    · rw [if_pos c2] at h
      by_cases c3 : 1 ≤ c ∧ c ≤ 8
      · unfold timeboundref22_Check.f
        rw [if_neg (by omega), if_neg (by omega), if_neg (by omega), if_neg (by omega), if_neg (by omega), if_neg (by omega)]
      · rw [if_neg c3] at h; simp at h
    · rw [if_neg c2] at h; simp at h
  · rw [if_neg c1] at h; simp at h
abbrev PR := Int × Int × Int × Int × Int × Int × Int × Int × Int × Int × Int × Int × Int × Int × Int × List S74 × List S74 × Int
def badR (e : Int) : PR := (0, 0, 0, 0, 0, 0, 0, 0, 0, 0, 0, 0, 0, 0, 0, [], [], e)
section
variable {p0 p1 p2 p3 p4 p5 p6 p7 p8 p9 p10 p11 p12 p13 p14 : Int}
/-- What both say of a processor. -/
def chk (m : Int) (c d : List S74) : Int := if m < 0 then 3 else checkB c d
theorem chk_ev (h : numsOk p0 p1 p2 p3 p4 p5 p6 p7 p8 p9 p10 p11 p12 p13 p14) (m : Int) (hm : m = p6 ∨ m = -1) (c d : List S74) : Ev (fun k => timing_Check.f k p0 p1 p2 p3 p4 p5 m p7 p8 p9 p10 p11 p12 p13 p14 c d) (chk m c d) := by
  rcases hm with rfl | rfl
  · have h6 := h.2.2.1 m (by simp)
    unfold chk
    rw [if_neg (by omega)]
    exact check_any h c d
  · unfold chk
    rw [if_pos (by omega)]
    refine Ev.congr (fun k => ?_) (f := fun k => timing_Check.l0 k [-1, p9, p11, p12, p13, p14] 6 0 p0 p1 p2 p3 p4 p5 (-1) p7 p8 p9 p10 p11 p12 p13 p14 c d) ?_
    · unfold timing_Check.f
      rw [h.1, Option.bind_some, if_pos rfl, h.2.1, Option.bind_some, if_pos rfl, Option.bind_some]
      rfl
    · refine Ev.step (f := fun _ => some 3) (fun k => ?_) (Ev.now _)
      simp only [timing_Check.l0]
      rw [if_pos (by omega), if_pos (by omega), if_pos (by simp), show rd [-1, p9, p11, p12, p13, p14] 0 = -1 from rfl]
      unfold timing_between.f
      rw [if_neg (by omega), Option.bind_some, if_neg (by simp)]
theorem rchk (h : numsOk p0 p1 p2 p3 p4 p5 p6 p7 p8 p9 p10 p11 p12 p13 p14) (m : Int) (hm : m = p6 ∨ m = -1) (c d : List S74) : timeboundref23_Check.f p0 p1 p2 p3 p4 p5 m p7 p8 p9 p10 p11 p12 p13 p14 c d = some (chk m c d) := by
  obtain ⟨h1, h2, h3, h7, h8, h10⟩ := h
  have hr : rest23 p0 p1 p2 p3 p4 p5 m p7 p8 p9 p10 p11 p12 p13 p14 := by
    have := h3 p6 (by simp)
    refine ⟨cache22 h1, cache22 h2, by omega, h3 _ (by simp), h3 _ (by simp), h3 _ (by simp), h3 _ (by simp), h3 _ (by simp), h7, h8, h10⟩
  unfold timeboundref23_Check.f
  rw [if_pos hr]
  rfl
def placeM (m : Int) (p0 p1 p2 p3 p4 p5 p7 p8 p9 p10 p11 p12 p13 p14 : Int) (c d : List S74) : PR := if checkB c d = 0 then (p0, p1, p2, p3, p4, p5, m, p7, p8, p9, p10, p11, p12, p13, p14, c, d, 0) else badR 4
theorem places_l0 (h : numsOk p0 p1 p2 p3 p4 p5 p6 p7 p8 p9 p10 p11 p12 p13 p14) (x : List S76) (c : List Int) (hc : IsChoice x.length c) (hl : c.length ≤ 100) (n : Nat) : ∀ (i : Int) (cs ds : List S74), 0 ≤ i → (c.length : Int) - i = n → cs.length + n ≤ 1000 → ds.length + n ≤ 1000 →
    Ev (fun k => scratch_Place.l0 k x c (c.length : Int) i p0 p1 p2 p3 p4 p5 p6 p7 p8 p9 p10 p11 p12 p13 p14 cs ds) (placeM p6 p0 p1 p2 p3 p4 p5 p7 p8 p9 p10 p11 p12 p13 p14 (put36 x true (c.drop i.toNat) cs) (put36 x false (c.drop i.toNat) ds)) ∧
    Ev (fun k => timeboundref36_Place.l0 k x c (c.length : Int) i p0 p1 p2 p3 p4 p5 p6 p7 p8 p9 p10 p11 p12 p13 p14 cs ds) (placeM p6 p0 p1 p2 p3 p4 p5 p7 p8 p9 p10 p11 p12 p13 p14 (put36 x true (c.drop i.toNat) cs) (put36 x false (c.drop i.toNat) ds)) := by
  have h6 := h.2.2.1 p6 (by simp)
  have hk : ∀ a b, chk p6 a b = checkB a b := fun a b => by unfold chk; rw [if_neg (by omega)]
  induction n with
  | zero =>
    intro i cs ds h0 hi _ _
    rw [List.drop_of_length_le (by omega)]
    show Ev _ (placeM p6 p0 p1 p2 p3 p4 p5 p7 p8 p9 p10 p11 p12 p13 p14 cs ds) ∧ Ev _ (placeM p6 p0 p1 p2 p3 p4 p5 p7 p8 p9 p10 p11 p12 p13 p14 cs ds)
    constructor
    · refine Ev.step (fun k => by simp only [scratch_Place.l0]; rw [if_neg (by omega)]) (Ev.bind (check_any h cs ds) ?_)
      unfold placeM
      by_cases z : checkB cs ds = 0
      · simp only [if_pos z]; exact Ev.now _
      · simp only [if_neg z]; exact Ev.now _
    · have hq := rchk h p6 (.inl rfl) cs ds
      rw [hk] at hq
      refine Ev.step (f := fun _ => some (placeM p6 p0 p1 p2 p3 p4 p5 p7 p8 p9 p10 p11 p12 p13 p14 cs ds)) (fun k => ?_) (Ev.now _)
      simp only [timeboundref36_Place.l0]
      rw [if_neg (by omega), hq, Option.bind_some]
      unfold placeM
      split <;> rfl
  | succ n ih =>
    intro i cs ds h0 hi h1 h2
    have hlt : i.toNat < c.length := by omega
    have hr : rd c i = c[i.toNat] := by simp [rd, List.getD_eq_getElem?_getD, hlt]
    obtain ⟨a, b⟩ := hc.fits i h0 (by omega)
    have w1 : wrap64 (i + 1) = i + 1 := w64 (by omega)
    rw [List.drop_eq_getElem_cons hlt]
    unfold put36
    rw [List.foldl_cons, List.foldl_cons, ← hr]
    cases z : (rd_T76 x (rd c i)).f0 with
    | true =>
      have := ih (i + 1) (cs ++ [(rd_T76 x (rd c i)).f1]) ds (by omega) (by omega) (by simp; omega) (by omega)
      rw [show (i + 1).toNat = i.toNat + 1 by omega] at this
      rw [if_pos rfl, if_neg (by simp)]
      refine ⟨Ev.step (fun k => ?_) this.1, Ev.step (fun k => ?_) this.2⟩
      · simp only [scratch_Place.l0]
        rw [if_pos (by omega), if_pos h0, if_pos (by omega), if_pos a, if_pos b, if_pos z, if_pos (by omega), w1]
      · simp only [timeboundref36_Place.l0]
        rw [if_pos (by omega), if_pos h0, if_pos (by omega), if_pos a, if_pos b, if_pos z, if_pos (by omega), w1]
    | false =>
      have := ih (i + 1) cs (ds ++ [(rd_T76 x (rd c i)).f1]) (by omega) (by omega) (by omega) (by simp; omega)
      rw [show (i + 1).toNat = i.toNat + 1 by omega] at this
      rw [if_neg (by simp), if_pos rfl]
      refine ⟨Ev.step (fun k => ?_) this.1, Ev.step (fun k => ?_) this.2⟩
      · simp only [scratch_Place.l0]
        rw [if_pos (by omega), if_pos h0, if_pos (by omega), if_pos a, if_pos b, if_neg (by simp [z]), if_pos (by omega), w1]
      · simp only [timeboundref36_Place.l0]
        rw [if_pos (by omega), if_pos h0, if_pos (by omega), if_pos a, if_pos b, if_neg (by simp [z]), if_pos (by omega), w1]
def placeT (m : Int) (p0 p1 p2 p3 p4 p5 p7 p8 p9 p10 p11 p12 p13 p14 : Int) (c d : List S74) (x : List S76) (l : List Int) : PR :=
  if m < 0 then badR 32 else if checkB c d ≠ 0 then badR 32 else if choiceB x.length l = true then placeM m p0 p1 p2 p3 p4 p5 p7 p8 p9 p10 p11 p12 p13 p14 (put36 x true l c) (put36 x false l d) else badR 43
theorem places_any (h : numsOk p0 p1 p2 p3 p4 p5 p6 p7 p8 p9 p10 p11 p12 p13 p14) (m : Int) (hm : m = p6 ∨ m = -1) (x : List S76) (hx : itemsB x = true) (l : List Int) (hl : l.length ≤ 100) (c d : List S74) (l1 : c.length ≤ 100) (l2 : d.length ≤ 100) :
    Ev (fun k => scratch_Place.f k p0 p1 p2 p3 p4 p5 m p7 p8 p9 p10 p11 p12 p13 p14 c d x l) (placeT m p0 p1 p2 p3 p4 p5 p7 p8 p9 p10 p11 p12 p13 p14 c d x l) ∧
    Ev (fun k => timeboundref36_Place.f k p0 p1 p2 p3 p4 p5 m p7 p8 p9 p10 p11 p12 p13 p14 c d x l) (placeT m p0 p1 p2 p3 p4 p5 p7 p8 p9 p10 p11 p12 p13 p14 c d x l) := by
  have h6 := h.2.2.1 p6 (by simp)
  have E1 := chk_ev h m hm c d
  have E2 := rchk h m hm c d
  have hv : scratch_Valid.f x = some true := by unfold scratch_Valid.f; rw [hx]
  have he : ∀ l : List S74, l.length ≤ 100 → api_Span_95.f l = some l := fun l hl => by unfold api_Span_95.f; rw [if_pos (by omega)]
  have bad : ∀ z, chk m c d = z → z ≠ 0 → placeT m p0 p1 p2 p3 p4 p5 p7 p8 p9 p10 p11 p12 p13 p14 c d x l = badR 32 := by
    intro z hz hz0
    unfold placeT
    by_cases z0 : m < 0
    · rw [if_pos z0]
    · rw [if_neg z0]
      unfold chk at hz
      rw [if_neg z0] at hz
      rw [if_pos (by omega)]
  unfold scratch_Place.f timeboundref36_Place.f
  by_cases hz : chk m c d = 0
  · have hm0 : ¬ m < 0 := by
      intro hlt
      unfold chk at hz
      rw [if_pos hlt] at hz
      omega
    obtain rfl : m = p6 := by omega
    have hcb : checkB c d = 0 := by unfold chk at hz; rwa [if_neg hm0] at hz
    have hT : placeT m p0 p1 p2 p3 p4 p5 p7 p8 p9 p10 p11 p12 p13 p14 c d x l = if choiceB x.length l = true then placeM m p0 p1 p2 p3 p4 p5 p7 p8 p9 p10 p11 p12 p13 p14 (put36 x true l c) (put36 x false l d) else badR 43 := by
      unfold placeT
      rw [if_neg hm0, if_neg (by omega)]
    rw [hT]
    obtain ⟨g, n, hval⟩ := rvalue36 x hx l (by omega)
    rw [E2]
    simp only [Option.bind_some]
    rw [hz] at E1
    by_cases hch : choiceB x.length l = true
    · have P := places_l0 h x l (IsChoice.of hch) hl l.length 0 c d (by omega) (by omega) (by omega) (by omega)
      have P1 := P.1
      have P2 := P.2
      rw [if_pos hch]
      constructor
      · refine Ev.bind E1 ?_
        simp only [if_true, hv, Option.bind_some]
        refine Ev.bind (choiceG_ev x.length l (by omega)) ?_
        simp only [if_pos hch, he c l1, he d l2, Option.bind_some]
        exact P1
      · simp only [hz, if_true]
        refine Ev.bind hval ?_
        simp only [if_pos hch, List.nil_append, List.length_nil, Nat.zero_add]
        refine Ev.congr (fun k => ?_) P2
        rw [if_pos (by omega), if_pos (by omega)]
    · rw [if_neg hch]
      constructor
      · refine Ev.bind E1 ?_
        simp only [if_true, hv, Option.bind_some]
        refine Ev.bind (choiceG_ev x.length l (by omega)) ?_
        simp only [if_neg hch]
        exact Ev.now _
      · simp only [hz, if_true]
        refine Ev.bind hval ?_
        simp only [if_neg hch]
        exact Ev.now _
  · rw [bad _ rfl hz]
    constructor
    · refine Ev.bind E1 ?_
      simp only [if_neg hz]
      exact Ev.now _
    · rw [E2]
      simp only [Option.bind_some, if_neg hz]
      exact Ev.now _
end
theorem placed_ok {c : List S74} (h : placedB c 1024 = true) : spansOk c = true := by
  unfold placedB at h
  rw [Bool.and_eq_true] at h
  obtain ⟨h1, h2⟩ := h
  unfold spansOk
  rw [Bool.and_eq_true, List.all_eq_true]
  refine ⟨by have := of_decide_eq_true h1; rw [decide_eq_true_eq]; omega, fun s hs => ?_⟩
  have h3 : c.any (spanBad 1024) = false := by simpa using h2
  rw [List.any_eq_false] at h3
  have h4 := h3 s hs
  unfold spanBad at h4
  simp only [Bool.or_eq_true, decide_eq_true_eq, not_or] at h4
  simp only [Bool.and_eq_true, decide_eq_true_eq]
  omega
theorem wordsN_le (l : List S74) (N : Nat) : wordsN l N ≤ N := by
  unfold wordsN
  have := List.countP_le_length (l := List.range N) (p := fun a : Nat => cov l (a : Int))
  simpa using this
theorem wordsN_snoc (l : List S74) (N : Nat) : wordsN l (N + 1) = wordsN l N + (if cov l (N : Int) = true then 1 else 0) := by
  unfold wordsN
  rw [List.range_succ, List.countP_append, List.countP_singleton]
theorem cov_in (l : List S74) (a : Int) : l.any (inB a) = cov l a := rfl
section
variable {p0 p1 p2 p3 p4 p5 p6 p7 p8 p9 p10 p11 p12 p13 p14 : Int}
theorem words_l1 (c d : List S74) (hd : d.length ≤ 1000) (n0 : Nat) (hn0 : n0 ≤ 1024) (n : Nat) : ∀ a : Nat, a + n = 1024 →
    Ev (fun k => timeboundref36_Words.l1 k (n0 + wordsN d a : Nat) a p0 p1 p2 p3 p4 p5 p6 p7 p8 p9 p10 p11 p12 p13 p14 c d) ((n0 + wordsN d 1024 : Nat) : Int) := by
  induction n with
  | zero =>
    intro a ha
    obtain rfl : a = 1024 := by omega
    exact Ev.step (f := fun _ => some ((n0 + wordsN d 1024 : Nat) : Int)) (fun k => by simp only [timeboundref36_Words.l1]; rw [if_neg (by omega)]) (Ev.now _)
  | succ n ih =>
    intro a ha
    have hs := wordsN_snoc d a
    have hle := wordsN_le d a
    have w1 : wrap64 ((a : Int) + 1) = ((a + 1 : Nat) : Int) := by rw [w64 (by omega)]; omega
    have w2 : wrap64 (((n0 + wordsN d a : Nat) : Int) + 1) = ((n0 + wordsN d a + 1 : Nat) : Int) := by rw [w64 (by omega)]; omega
    have IH := ih (a + 1) (by omega)
    refine Ev.step (fun k => by simp only [timeboundref36_Words.l1]; rw [if_pos (by omega)]) (Ev.bind (scratch_any d hd (a : Int)) ?_)
    rw [cov_in]
    by_cases z : cov d (a : Int) = true
    · simp only [if_pos z, w1, w2]
      rw [if_pos z] at hs
      rw [hs, ← Nat.add_assoc] at IH
      exact IH
    · simp only [if_neg z, w1]
      rw [if_neg z] at hs
      rw [hs, Nat.add_zero] at IH
      exact IH
theorem words_l0 (c d : List S74) (hc : c.length ≤ 1000) (hd : d.length ≤ 1000) (n : Nat) : ∀ a : Nat, a + n = 1024 →
    Ev (fun k => timeboundref36_Words.l0 k (wordsN c a : Nat) a p0 p1 p2 p3 p4 p5 p6 p7 p8 p9 p10 p11 p12 p13 p14 c d) ((wordsN c 1024 + wordsN d 1024 : Nat) : Int) := by
  induction n with
  | zero =>
    intro a ha
    obtain rfl : a = 1024 := by omega
    have := words_l1 (p0 := p0) (p1 := p1) (p2 := p2) (p3 := p3) (p4 := p4) (p5 := p5) (p6 := p6) (p7 := p7) (p8 := p8) (p9 := p9) (p10 := p10) (p11 := p11) (p12 := p12) (p13 := p13) (p14 := p14) c d hd (wordsN c 1024) (wordsN_le c 1024) 1024 0 (by omega)
    rw [show wordsN d 0 = 0 from rfl, Nat.add_zero] at this
    exact Ev.step (fun k => by simp only [timeboundref36_Words.l0]; rw [if_neg (by omega)]; rfl) this
  | succ n ih =>
    intro a ha
    have hs := wordsN_snoc c a
    have hle := wordsN_le c a
    have w1 : wrap64 ((a : Int) + 1) = ((a + 1 : Nat) : Int) := by rw [w64 (by omega)]; omega
    have w2 : wrap64 (((wordsN c a : Nat) : Int) + 1) = ((wordsN c a + 1 : Nat) : Int) := by rw [w64 (by omega)]; omega
    have IH := ih (a + 1) (by omega)
    refine Ev.step (fun k => by simp only [timeboundref36_Words.l0]; rw [if_pos (by omega)]) (Ev.bind (scratch_any c hc (a : Int)) ?_)
    rw [cov_in]
    by_cases z : cov c (a : Int) = true
    · simp only [if_pos z, w1, w2]
      rw [if_pos z] at hs
      rw [hs] at IH
      exact IH
    · simp only [if_neg z, w1]
      rw [if_neg z] at hs
      rw [hs, Nat.add_zero] at IH
      exact IH
theorem words_any (c d : List S74) (hc : placedB c 1024 = true) (hd : placedB d 1024 = true) : ∃ n, scratch_Words.f p0 p1 p2 p3 p4 p5 p6 p7 p8 p9 p10 p11 p12 p13 p14 c d = some n ∧ Ev (fun k => timeboundref36_Words.f k p0 p1 p2 p3 p4 p5 p6 p7 p8 p9 p10 p11 p12 p13 p14 c d) n := by
  have h1 := placed_ok hc
  have h2 := placed_ok hd
  have e1 := wordsN_le c 1024
  have e2 := wordsN_le d 1024
  refine ⟨((wordsN c 1024 + wordsN d 1024 : Nat) : Int), ?_, ?_⟩
  · unfold scratch_Words.f scratch_count.f
    rw [if_pos h1, if_pos h2, Option.bind_some, Option.bind_some, w64 (by omega)]
    simp
  · have := words_l0 (p0 := p0) (p1 := p1) (p2 := p2) (p3 := p3) (p4 := p4) (p5 := p5) (p6 := p6) (p7 := p7) (p8 := p8) (p9 := p9) (p10 := p10) (p11 := p11) (p12 := p12) (p13 := p13) (p14 := p14) c d (by have := (spansOk_mem h1).1; omega) (by have := (spansOk_mem h2).1; omega) 1024 0 (by omega)
    exact this
theorem placeT_cases (m : Int) (x : List S76) (l : List Int) (c d : List S74) : (∃ cs ds, placedB cs 1024 = true ∧ placedB ds 1024 = true ∧ placeT m p0 p1 p2 p3 p4 p5 p7 p8 p9 p10 p11 p12 p13 p14 c d x l = (p0, p1, p2, p3, p4, p5, m, p7, p8, p9, p10, p11, p12, p13, p14, cs, ds, 0)) ∨ ∃ e, e ≠ 0 ∧ placeT m p0 p1 p2 p3 p4 p5 p7 p8 p9 p10 p11 p12 p13 p14 c d x l = badR e := by
  unfold placeT placeM
  by_cases h1 : m < 0
  · rw [if_pos h1]; exact .inr ⟨32, by omega, rfl⟩
  · rw [if_neg h1]
    by_cases h2 : checkB c d ≠ 0
    · rw [if_pos h2]; exact .inr ⟨32, by omega, rfl⟩
    · rw [if_neg h2]
      by_cases h3 : choiceB x.length l = true
      · rw [if_pos h3]
        by_cases h4 : checkB (put36 x true l c) (put36 x false l d) = 0
        · rw [if_pos h4]
          have h5 : (placedB (put36 x true l c) 1024 && placedB (put36 x false l d) 1024) = true := by
            unfold checkB at h4
            by_cases z : (placedB (put36 x true l c) 1024 && placedB (put36 x false l d) 1024) = true
            · exact z
            · rw [if_neg z] at h4; omega
          rw [Bool.and_eq_true] at h5
          exact .inl ⟨_, _, h5.1, h5.2, rfl⟩
        · rw [if_neg h4]; exact .inr ⟨4, by omega, rfl⟩
      · rw [if_neg h3]; exact .inr ⟨43, by omega, rfl⟩
theorem put_any (h : numsOk p0 p1 p2 p3 p4 p5 p6 p7 p8 p9 p10 p11 p12 p13 p14) (m : Int) (hm : m = p6 ∨ m = -1) (x : List S76) (hx : itemsB x = true) (l : List Int) (hl : l.length ≤ 100) (c d : List S74) (l1 : c.length ≤ 100) (l2 : d.length ≤ 100) : ∃ K, ∀ k, K ≤ k → Put36 k p0 p1 p2 p3 p4 p5 m p7 p8 p9 p10 p11 p12 p13 p14 c d x l := by
  obtain ⟨⟨K1, E1⟩, ⟨K2, E2⟩⟩ := places_any h m hm x hx l hl c d l1 l2
  rcases placeT_cases (p0 := p0) (p1 := p1) (p2 := p2) (p3 := p3) (p4 := p4) (p5 := p5) (p7 := p7) (p8 := p8) (p9 := p9) (p10 := p10) (p11 := p11) (p12 := p12) (p13 := p13) (p14 := p14) m x l c d with ⟨cs, ds, hc, hd, hT⟩ | ⟨e, he, hT⟩
  · obtain ⟨n, hn, ⟨K3, E3⟩⟩ := words_any (p0 := p0) (p1 := p1) (p2 := p2) (p3 := p3) (p4 := p4) (p5 := p5) (p6 := m) (p7 := p7) (p8 := p8) (p9 := p9) (p10 := p10) (p11 := p11) (p12 := p12) (p13 := p13) (p14 := p14) cs ds hc hd
    refine ⟨K1 + K2 + K3, fun k hk => ⟨p0, p1, p2, p3, p4, p5, m, p7, p8, p9, p10, p11, p12, p13, p14, cs, ds, 0, ?_, ?_, fun _ => ⟨n, hn, E3 k (by omega)⟩⟩⟩
    · have := E1 k (by omega); rw [hT] at this; exact this
    · have := E2 k (by omega); rw [hT] at this; exact this
  · refine ⟨K1 + K2, fun k hk => ⟨0, 0, 0, 0, 0, 0, 0, 0, 0, 0, 0, 0, 0, 0, 0, [], [], e, ?_, ?_, fun h0 => absurd h0 he⟩⟩
    · have := E1 k (by omega); rw [hT] at this; exact this
    · have := E2 k (by omega); rw [hT] at this; exact this
end
theorem chosen_any (s : List Int) (hs : s.length ≤ 1152921504606846976) (n : Nat) : ∀ (i : Nat) (q : Int) (c : List Int), 0 ≤ q → q ≤ s.length → ∃ ch, Chosen s n i q c ch ∧ ch.length ≤ c.length + n := by
  induction n with
  | zero => exact fun i q c _ _ => ⟨c, rfl, Nat.le_refl _⟩
  | succ n ih =>
    intro i q c q0 q1
    obtain ⟨v, q', e, _, _, u0, u1⟩ := next_range s q 2 hs q0 q1 (by omega) (by omega)
    obtain ⟨ch, h1, h2⟩ := ih (i + 1) q' (if v = 0 then c ++ [(i : Int)] else c) u0 u1
    refine ⟨ch, ⟨v, q', e, h1⟩, ?_⟩
    have : (if v = 0 then c ++ [(i : Int)] else c).length ≤ c.length + 1 := by split <;> simp
    omega
theorem ScratchPlaces_pure : timeboundlaw36_ScratchPlaces.Pure := by
  refine ⟨Ev.rounds awake36, ?_⟩
  intro l0 a1 a2 hl _ _
  obtain ⟨x, q, ⟨K0, hE⟩, hx, q0, q1⟩ := items_any l0 0 (by omega) (by omega) (by omega)
  obtain ⟨p0, p1, p2, p3, p4, p5, p6, p7, p8, p9, p10, p11, p12, p13, p14, pc, pd, q', hP, hn, k1, k2, g0, g1, w0, w1⟩ := processor_any l0 q (by omega) q0 q1
  obtain ⟨m7, e7, _, _⟩ := mod_range a1 7 (by omega) (by omega)
  obtain ⟨m3, e3, u0, u1⟩ := mod_range a2 3 (by omega) (by omega)
  obtain ⟨m12, e12, v0, v1⟩ := mod_range a2 12 (by omega) (by omega)
  have hxl := itemsB_len hx
  obtain ⟨ch, hch, hcl⟩ := chosen_any l0 (by omega) x.length 0 q' [] w0 w1
  have hm : (if m7 = 0 then (-1 : Int) else p6) = p6 ∨ (if m7 = 0 then (-1 : Int) else p6) = -1 := by split; exact .inr rfl; exact .inl rfl
  have hc : (if m7 = 1 then List.replicate (14 + m3).toNat z74 else pc).length ≤ 100 := by
    split
    · rw [List.length_replicate]; omega
    · omega
  simp at hcl
  obtain ⟨K1, h1⟩ := put_any hn _ hm x hx ch (by omega) (if m7 = 1 then List.replicate (14 + m3).toNat z74 else pc) pd hc (by omega)
  obtain ⟨K2, h2⟩ := put_any hn _ hm x hx [m12 - 1] (by simp) (if m7 = 1 then List.replicate (14 + m3).toNat z74 else pc) pd hc (by omega)
  refine ⟨K0 + K1 + K2, x, q, p0, p1, p2, p3, p4, p5, p6, p7, p8, p9, p10, p11, p12, p13, p14, pc, pd, q', m7, m3, m12, ch, hE _ (by omega), by omega, hP, e7, e3, ⟨u0, by omega⟩, e12, ⟨v0, by omega⟩, hch, ?_⟩
  intro l hl
  simp only [List.mem_cons, List.not_mem_nil, or_false] at hl
  rcases hl with rfl | rfl
  · exact h1 _ (by omega)
  · exact h2 _ (by omega)
end Go.Proofs.Ytdgegoefehmfmaa.QScratchPlaces
namespace Go.Proofs.Ytdgegoefehmfmaa.Pure
theorem ScratchPlaces : Go.Proofs.Ytdgegoefehmfmaa.QScratchPlaces.timeboundlaw36_ScratchPlaces.Pure := Go.Proofs.Ytdgegoefehmfmaa.QScratchPlaces.ScratchPlaces_pure
end Go.Proofs.Ytdgegoefehmfmaa.Pure
