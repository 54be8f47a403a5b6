/- The plain law of IntegerSolves: both sides say the same of a box and of columns. -/
import Derived.Test.YtdgegoefehmfmaaQIntegerSolvesx6
import Derived.Test.YtdgegoefehmfmaaQIntegerSolvesx9
import Derived.Test.YtdgegoefehmfmaaQIntegerSolvesx12
import Derived.Test.YtdgegoefehmfmaaQIntegerSolvesx13
namespace Go.Proofs.Ytdgegoefehmfmaa.QIntegerSolves
open Go.RowKit Go.Proofs.YtdgegoefehmfmaaW.PrintWords Go.Proofs.YtdgegoefehmfmaaW.PrintLast Go.Proofs.YtdgegoefehmfmaaW.PrintMore
set_option linter.unusedVariables false
set_option linter.unusedSimpArgs false
/-! #### the deck -/
theorem w64 {x : Int} (h : -9223372036854775808 ≤ x ∧ x ≤ 9223372036854775807) : wrap64 x = x := by unfold wrap64; omega
theorem mod_range (a n : Int) (h0 : 1 ≤ n) (h1 : n ≤ 1073741824) : ∃ v, timeboundmake_Mod.f a n = some v ∧ 0 ≤ v ∧ v < n := by
  unfold timeboundmake_Mod.f
  rw [if_neg (by omega)]
  refine ⟨_, rfl, ?_⟩
  have h2 : -n < Int.tmod a n ∧ Int.tmod a n < n := ⟨Int.lt_tmod_of_pos a (by omega), Int.tmod_lt_of_pos a (by omega)⟩
  rw [w64 (by omega), Int.tmod_eq_emod_of_nonneg (by omega)]
  exact ⟨Int.emod_nonneg _ (by omega), Int.emod_lt_of_pos _ (by omega)⟩
theorem next_range (s : List Int) (p n : Int) (hs : s.length ≤ 1152921504606846976) (hp : 0 ≤ p) (hq : p ≤ s.length) (h0 : 1 ≤ n) (h1 : n ≤ 1073741824) :
    ∃ v q, timeboundmake_Deck_Next.f s p n = some (v, q) ∧ 0 ≤ v ∧ v < n ∧ 0 ≤ q ∧ q ≤ s.length := by
  unfold timeboundmake_Deck_Next.f
  by_cases c : p ≥ (s.length : Int)
  · rw [if_pos c]; exact ⟨0, p, rfl, by omega, by omega, hp, hq⟩
  · rw [if_neg c]
    by_cases c1 : n ≤ 1
    · rw [if_pos c1]; exact ⟨0, p, rfl, by omega, by omega, hp, hq⟩
    · rw [if_neg c1]
      have e1 : wrap64 (p + 1) = p + 1 := w64 (by omega)
      have e2 : wrap64 (p + 1 - 1) = p := by rw [w64 (by omega)]; omega
      rw [e1, e2, if_pos hp, if_pos (by omega)]
      obtain ⟨v, hv, a, b⟩ := mod_range (rd s p) n h0 h1
      rw [hv]
      exact ⟨v, p + 1, rfl, a, b, by omega, by omega⟩
/-! #### small integer programs that are made -/
/-- Terms that ascend, within bounds. -/
def TOk (l : List S109) (cols most : Int) : Prop := (l.map (·.f0)).Pairwise (· < ·) ∧ ∀ t ∈ l, 0 ≤ t.f0 ∧ t.f0 < cols ∧ t.f1 ≠ 0 ∧ -most ≤ t.f1 ∧ t.f1 ≤ most
theorem TOk.nil (cols most : Int) : TOk [] cols most := ⟨List.Pairwise.nil, by simp⟩
theorem TOk.mono {l : List S109} {cols most m2 : Int} (h : TOk l cols most) (hm : most ≤ m2) : TOk l cols m2 := ⟨h.1, fun t ht => by have := h.2 t ht; omega⟩
theorem TOk.snoc {l : List S109} {cols most : Int} (h : TOk l cols most) (x : S109) (hx : 0 ≤ x.f0 ∧ x.f0 < cols ∧ x.f1 ≠ 0 ∧ -most ≤ x.f1 ∧ x.f1 ≤ most) (hl : ∀ t ∈ l, t.f0 < x.f0) : TOk (l ++ [x]) cols most := by
  refine ⟨?_, fun t ht => ?_⟩
  · rw [List.map_append, List.pairwise_append]
    refine ⟨h.1, by simp, fun a ha b hb => ?_⟩
    obtain ⟨t, ht, rfl⟩ := List.mem_map.1 ha
    simp at hb
    rw [hb]; exact hl t ht
  · rw [List.mem_append, List.mem_singleton] at ht
    rcases ht with ht | rfl
    · exact h.2 t ht
    · exact hx
theorem termsB_of {l : List S109} {cols most : Int} (h : TOk l cols most) : termsB l cols most = true := by
  apply termsB_yes
  intro j hj
  have e1 : l.getD j z109 = l[j] := by simp [List.getD_eq_getElem?_getD, hj]
  have hb := h.2 l[j] (List.getElem_mem hj)
  unfold termAt withinB
  rw [e1]
  have h0 : (decide (j = 0) || decide ((l.getD (j - 1) z109).f0 < l[j].f0)) = true := by
    by_cases c : j = 0
    · simp [c]
    · have hj1 : j - 1 < l.length := by omega
      have e2 : l.getD (j - 1) z109 = l[j - 1] := by simp [List.getD_eq_getElem?_getD, hj1]
      rw [e2]
      have := (List.pairwise_iff_getElem.1 h.1) (j - 1) j (by simpa using hj1) (by simpa using hj) (by omega)
      simp only [List.getElem_map] at this
      simp [this]
  rw [h0]
  simp only [Bool.and_eq_true, decide_eq_true_eq, Bool.not_eq_true', decide_eq_false_iff_not, Bool.and_true]
  exact ⟨⟨⟨hb.1, hb.2.1⟩, hb.2.2.1⟩, hb.2.2.2.1, hb.2.2.2.2⟩
theorem terms_l0 (s : List Int) (hs : s.length ≤ 1152921504606846976) (cols : Int) (hc : cols ≤ 400) (d : Nat) : ∀ (l : List S109) (c p : Int), TOk l cols 9 → (∀ t ∈ l, t.f0 < c) → (l.length : Int) ≤ c → 0 ≤ c → cols - c = d → 0 ≤ p → p ≤ s.length →
    ∃ r q, Ev (fun k => timeboundmake2_Terms.l0 k cols l c s p) (r, q) ∧ TOk r cols 9 ∧ (r.length : Int) ≤ cols ∧ 0 ≤ q ∧ q ≤ s.length := by
  induction d with
  | zero =>
    intro l c p hl hlc hlen h0 hd hp hq
    refine ⟨l, p, Ev.step (f := fun _ => some (l, p)) (fun k => ?_) (Ev.now _), hl, by omega, hp, hq⟩
    simp only [timeboundmake2_Terms.l0]
    rw [if_neg (by omega)]
  | succ d ih =>
    intro l c p hl hlc hlen h0 hd hp hq
    obtain ⟨n, p1, e1, n0, n1, p10, p11⟩ := next_range s p 19 hs hp hq (by omega) (by omega)
    obtain ⟨g, p2, e2, g0, g1, p20, p21⟩ := next_range s p1 3 hs p10 p11 (by omega) (by omega)
    have w1 : wrap64 (n - 9) = n - 9 := w64 (by omega)
    have w2 : wrap64 (c + 1) = c + 1 := w64 (by omega)
    by_cases hn : n - 9 = 0
    · obtain ⟨r, q, hE, h⟩ := ih l (c + 1) p1 hl (fun t ht => by have := hlc t ht; omega) (by omega) (by omega) (by omega) p10 p11
      refine ⟨r, q, Ev.step (fun k => ?_) hE, h⟩
      simp only [timeboundmake2_Terms.l0]
      rw [if_pos (by omega), e1, Option.bind_some, w1, if_pos hn, w2]
    · by_cases hg : g > 0
      · obtain ⟨r, q, hE, h⟩ := ih (l ++ [⟨c, n - 9⟩]) (c + 1) p2 (hl.snoc _ (by simp only; omega) (fun t ht => hlc t ht)) (fun t ht => by
          rw [List.mem_append, List.mem_singleton] at ht
          rcases ht with ht | rfl
          · have := hlc t ht; omega
          · simp only; omega) (by rw [List.length_append, List.length_singleton]; omega) (by omega) (by omega) p20 p21
        refine ⟨r, q, Ev.step (fun k => ?_) hE, h⟩
        simp only [timeboundmake2_Terms.l0]
        rw [if_pos (by omega), e1, Option.bind_some, w1, if_neg hn, e2, Option.bind_some, if_pos hg, if_pos (by omega), w2]
      · obtain ⟨r, q, hE, h⟩ := ih l (c + 1) p2 hl (fun t ht => by have := hlc t ht; omega) (by omega) (by omega) (by omega) p20 p21
        refine ⟨r, q, Ev.step (fun k => ?_) hE, h⟩
        simp only [timeboundmake2_Terms.l0]
        rw [if_pos (by omega), e1, Option.bind_some, w1, if_neg hn, e2, Option.bind_some, if_neg hg, w2]
theorem terms_any (s : List Int) (hs : s.length ≤ 1152921504606846976) (cols : Int) (h0 : 0 ≤ cols) (hc : cols ≤ 400) (p : Int) (hp : 0 ≤ p) (hq : p ≤ s.length) :
    ∃ r q, Ev (fun k => timeboundmake2_Terms.f k s p cols) (r, q) ∧ TOk r cols 9 ∧ (r.length : Int) ≤ cols ∧ 0 ≤ q ∧ q ≤ s.length := by
  obtain ⟨n, hn⟩ := Int.eq_ofNat_of_zero_le h0
  obtain ⟨r, q, hE, h⟩ := terms_l0 s hs cols hc n [] 0 p (TOk.nil _ _) (by simp) (by simp) (by omega) (by omega) hp hq
  exact ⟨r, q, hE, h⟩
/-- A row as it is made. -/
def ROk (n : Int) (r : S96) : Prop := TOk r.f0 n 9 ∧ (r.f0.length : Int) ≤ n ∧ -50 ≤ r.f1 ∧ r.f1 ≤ 50
theorem TOk.abs {l : List S109} {cols : Int} (h : TOk l cols 9) (i : Nat) (hi : i < l.length) : TOk (l.set i ⟨l[i].f0, mx l[i].f1 (-l[i].f1)⟩) cols 9 := by
  have hb := h.2 l[i] (List.getElem_mem hi)
  refine ⟨?_, fun t ht => ?_⟩
  · have e : (l.set i ⟨l[i].f0, mx l[i].f1 (-l[i].f1)⟩).map (·.f0) = l.map (·.f0) := by
      apply List.ext_getElem
      · simp
      · intro j h1 h2
        simp only [List.getElem_map, List.getElem_set]
        split
        · rename_i hij; subst hij; rfl
        · rfl
    rw [e]; exact h.1
  · rcases List.mem_or_eq_of_mem_set ht with ht | rfl
    · exact h.2 t ht
    · simp only; unfold mx; split <;> omega
theorem model_l1 (s : List Int) (n : Int) (hn : n ≤ 400) (rows : List S96) (hrows : rows.length ≤ 1000) (goal : List S109) (const p x6 m : Int) (hx6 : 0 < x6 ∧ x6 ≤ 1000) (hm : -50 ≤ m ∧ m ≤ 50) (d : Nat) : ∀ (lt : List S109) (j : Int), TOk lt n 9 → (lt.length : Int) ≤ n → 0 ≤ j → (lt.length : Int) - j = d →
    ∃ r, TOk r n 9 ∧ (r.length : Int) ≤ n ∧ ∀ R, Ev (fun k => timeboundmake2_Model.l0 k (x6 - 1) s p n (rows ++ [⟨r, mx m (-m)⟩]) goal const) R → Ev (fun k => timeboundmake2_Model.l1 k x6 (lt.length : Int) j s p n rows goal const lt m) R := by
  induction d with
  | zero =>
    intro lt j hl hlen h0 hd
    refine ⟨lt, hl, hlen, fun R hR => Ev.step (fun k => ?_) hR⟩
    have w1 : wrap64 (-m) = -m := w64 (by omega)
    have w2 : wrap64 (x6 - 1) = x6 - 1 := w64 (by omega)
    simp only [timeboundmake2_Model.l1]
    rw [if_neg (by omega), if_pos (by omega), w1, w2]
  | succ d ih =>
    intro lt j hl hlen h0 hd
    have hj : j.toNat < lt.length := by omega
    have hrd : rd_T109 lt j = lt[j.toNat] := by simp [rd_T109, List.getD_eq_getElem?_getD, hj]
    have hb := hl.2 lt[j.toNat] (List.getElem_mem hj)
    have w1 : wrap64 (-lt[j.toNat].f1) = -lt[j.toNat].f1 := w64 (by omega)
    have w2 : wrap64 (j + 1) = j + 1 := w64 (by omega)
    obtain ⟨r, h1, h2, h3⟩ := ih (lt.set j.toNat ⟨lt[j.toNat].f0, mx lt[j.toNat].f1 (-lt[j.toNat].f1)⟩) (j + 1) (hl.abs j.toNat hj) (by rw [List.length_set]; exact hlen) (by omega) (by rw [List.length_set]; omega)
    refine ⟨r, h1, h2, fun R hR => Ev.step (fun k => ?_) (h3 R hR)⟩
    simp only [timeboundmake2_Model.l1]
    rw [if_pos (by omega), if_pos h0, if_pos (by omega), hrd, w1, w2, List.length_set]
theorem model_l0 (s : List Int) (hs : s.length ≤ 1152921504606846976) (n : Int) (hn0 : 0 ≤ n) (hn : n ≤ 400) (goal : List S109) (const : Int) (d : Nat) : ∀ (rows : List S96) (p : Int), (∀ r ∈ rows, ROk n r) → rows.length + d ≤ 6 → 0 ≤ p → p ≤ s.length →
    ∃ out q, Ev (fun k => timeboundmake2_Model.l0 k (d : Int) s p n rows goal const) (n, out, goal, const, q) ∧ (∀ r ∈ out, ROk n r) ∧ out.length ≤ 6 ∧ 0 ≤ q ∧ q ≤ s.length := by
  induction d with
  | zero =>
    intro rows p hr hl hp hq
    refine ⟨rows, p, Ev.step (f := fun _ => some (n, rows, goal, const, p)) (fun k => ?_) (Ev.now _), hr, by omega, hp, hq⟩
    simp only [timeboundmake2_Model.l0]
    rw [if_neg (by omega)]
  | succ d ih =>
    intro rows p hr hl hp hq
    obtain ⟨t, p1, hT, hT1, hT2, p10, p11⟩ := terms_any s hs n hn0 hn p hp hq
    obtain ⟨m, p2, e2, m0, m1, p20, p21⟩ := next_range s p1 61 hs p10 p11 (by omega) (by omega)
    obtain ⟨g, p3, e3, g0, g1, p30, p31⟩ := next_range s p2 3 hs p20 p21 (by omega) (by omega)
    have w1 : wrap64 (m - 10) = m - 10 := w64 (by omega)
    have w2 : wrap64 (((d + 1 : Nat) : Int) - 1) = d := by rw [w64 (by omega)]; omega
    have add : ∀ (x : S96), ROk n x → ∀ r ∈ rows ++ [x], ROk n r := fun x hx r hmem => by
      rw [List.mem_append, List.mem_singleton] at hmem
      rcases hmem with hmem | rfl
      · exact hr r hmem
      · exact hx
    by_cases hg : g > 0
    · obtain ⟨lt, h1, h2, h3⟩ := model_l1 s n hn rows (by omega) goal const p3 ((d + 1 : Nat) : Int) (m - 10) (by omega) (by omega) t.length t 0 hT1 hT2 (by omega) (by omega)
      obtain ⟨out, q, hE, h⟩ := ih (rows ++ [⟨lt, mx (m - 10) (-(m - 10))⟩]) p3 (add _ ⟨h1, h2, by simp only; unfold mx; split <;> omega, by simp only; unfold mx; split <;> omega⟩) (by rw [List.length_append, List.length_singleton]; omega) p30 p31
      refine ⟨out, q, ?_, h⟩
      have hE' := h3 _ (by rw [show ((d + 1 : Nat) : Int) - 1 = d by omega]; exact hE)
      obtain ⟨K1, f1⟩ := hT
      obtain ⟨K2, f2⟩ := hE'
      refine ⟨K1 + K2 + 1, fun k hk => ?_⟩
      obtain ⟨k, rfl⟩ : ∃ m, k = m + 1 := ⟨k - 1, by omega⟩
      simp only [timeboundmake2_Model.l0]
      have g1 := f1 k (by omega)
      dsimp only at g1
      rw [if_pos (by omega), g1, Option.bind_some, e2, Option.bind_some, e3, Option.bind_some, if_pos hg, w1]
      exact f2 k (by omega)
    · obtain ⟨out, q, hE, h⟩ := ih (rows ++ [⟨t, m - 10⟩]) p3 (add _ ⟨hT1, hT2, by simp only; omega, by simp only; omega⟩) (by rw [List.length_append, List.length_singleton]; omega) p30 p31
      refine ⟨out, q, ?_, h⟩
      obtain ⟨K1, f1⟩ := hT
      obtain ⟨K2, f2⟩ := hE
      refine ⟨K1 + K2 + 1, fun k hk => ?_⟩
      obtain ⟨k, rfl⟩ : ∃ m, k = m + 1 := ⟨k - 1, by omega⟩
      simp only [timeboundmake2_Model.l0]
      have g1 := f1 k (by omega)
      dsimp only at g1
      rw [if_pos (by omega), g1, Option.bind_some, e2, Option.bind_some, e3, Option.bind_some, if_neg hg, if_pos (by omega), w1, w2]
      exact f2 k (by omega)
/-- A small integer program as it is made. -/
structure MOk (most n : Int) (rows : List S96) (goal : List S109) (const : Int) : Prop where
  n0 : 0 ≤ n
  n1 : n ≤ most
  rl : rows.length ≤ 6
  rk : ∀ r ∈ rows, ROk n r
  gk : TOk goal n 9
  gl : (goal.length : Int) ≤ n
  ck : -4 ≤ const ∧ const ≤ 4
theorem model_any (s : List Int) (hs : s.length ≤ 1152921504606846976) (most : Int) (hm0 : 0 ≤ most) (hm : most ≤ 300) (p : Int) (hp : 0 ≤ p) (hq : p ≤ s.length) :
    ∃ n rows goal const q, Ev (fun k => timeboundmake2_Model.f k s p most) (n, rows, goal, const, q) ∧ MOk most n rows goal const ∧ 0 ≤ q ∧ q ≤ s.length := by
  obtain ⟨n, p1, e1, n0, n1, p10, p11⟩ := next_range s p (most + 1) hs hp hq (by omega) (by omega)
  obtain ⟨c, p2, e2, c0, c1, p20, p21⟩ := next_range s p1 9 hs p10 p11 (by omega) (by omega)
  obtain ⟨goal, p3, hT, hT1, hT2, p30, p31⟩ := terms_any s hs n n0 (by omega) p2 p20 p21
  obtain ⟨g, p4, e4, g0, g1, p40, p41⟩ := next_range s p3 7 hs p30 p31 (by omega) (by omega)
  have w1 : wrap64 (most + 1) = most + 1 := w64 (by omega)
  have w2 : wrap64 (c - 4) = c - 4 := w64 (by omega)
  obtain ⟨d, rfl⟩ := Int.eq_ofNat_of_zero_le g0
  obtain ⟨out, q, hE, h1, h2, h3, h4⟩ := model_l0 s hs n n0 (by omega) goal (c - 4) d [] p4 (by simp) (by simp; omega) p40 p41
  refine ⟨n, out, goal, c - 4, q, ?_, ⟨n0, by omega, h2, h1, hT1, hT2, by omega⟩, h3, h4⟩
  obtain ⟨K1, f1⟩ := hT
  obtain ⟨K2, f2⟩ := hE
  refine ⟨K1 + K2, fun k hk => ?_⟩
  unfold timeboundmake2_Model.f
  dsimp only
  have g1 := f1 k (by omega)
  dsimp only at g1
  rw [w1, e1, Option.bind_some, e2, Option.bind_some, g1, Option.bind_some, e4, Option.bind_some, w2]
  exact f2 k (by omega)
theorem box_l0 (s : List Int) (hs : s.length ≤ 1152921504606846976) (n : Int) (hn : n ≤ 300) (d : Nat) : ∀ (l : List Int) (c p : Int), (∀ x ∈ l, 0 ≤ x ∧ x ≤ 3) → (l.length : Int) = c → 0 ≤ c → n - c = d → 0 ≤ p → p ≤ s.length →
    ∃ r q, Ev (fun k => timeboundmake2_Box.l0 k l n c s p) (r, q) ∧ (∀ x ∈ r, 0 ≤ x ∧ x ≤ 3) ∧ (r.length : Int) = n ∧ 0 ≤ q ∧ q ≤ s.length := by
  induction d with
  | zero =>
    intro l c p hl hlen h0 hd hp hq
    refine ⟨l, p, Ev.step (f := fun _ => some (l, p)) (fun k => ?_) (Ev.now _), hl, by omega, hp, hq⟩
    simp only [timeboundmake2_Box.l0]
    rw [if_neg (by omega)]
  | succ d ih =>
    intro l c p hl hlen h0 hd hp hq
    obtain ⟨v, p1, e1, v0, v1, p10, p11⟩ := next_range s p 4 hs hp hq (by omega) (by omega)
    obtain ⟨r, q, hE, h⟩ := ih (l ++ [v]) (c + 1) p1 (fun x hx => by
      rw [List.mem_append, List.mem_singleton] at hx
      rcases hx with hx | rfl
      · exact hl x hx
      · omega) (by rw [List.length_append, List.length_singleton]; omega) (by omega) (by omega) p10 p11
    refine ⟨r, q, Ev.step (fun k => ?_) hE, h⟩
    have w2 : wrap64 (c + 1) = c + 1 := w64 (by omega)
    simp only [timeboundmake2_Box.l0]
    rw [if_pos (by omega), e1, Option.bind_some, if_pos (by omega), w2]
theorem box_any (s : List Int) (hs : s.length ≤ 1152921504606846976) (n : Int) (hn0 : 0 ≤ n) (hn : n ≤ 300) (rows : List S96) (goal : List S109) (const p : Int) (hp : 0 ≤ p) (hq : p ≤ s.length) :
    ∃ r q, Ev (fun k => timeboundmake2_Box.f k s p n rows goal const) (r, q) ∧ (∀ x ∈ r, 0 ≤ x ∧ x ≤ 3) ∧ (r.length : Int) = n ∧ 0 ≤ q ∧ q ≤ s.length := by
  obtain ⟨d, hd⟩ := Int.eq_ofNat_of_zero_le hn0
  exact box_l0 s hs n hn d [] 0 p (by simp) rfl (by omega) (by omega) hp hq
/-! #### a boxed model -/
def bRow (most : List Int) (i : Nat) : S96 := ⟨[⟨(i : Int), 1⟩], rd most (i : Int)⟩
def bRows (most : List Int) : List S96 := (List.range most.length).map (bRow most)
theorem bRows_len (most : List Int) : (bRows most).length = most.length := by simp [bRows]
theorem bRows_take (most : List Int) (i : Nat) (h : i < most.length) : (bRows most).take (i + 1) = (bRows most).take i ++ [bRow most i] := by
  have h2 : i < (bRows most).length := by rw [bRows_len]; exact h
  rw [List.take_succ_eq_append_getElem h2]
  simp [bRows]
theorem boxed_l1 (most : List Int) (hm : most.length ≤ 300) (n : Int) (rows : List S96) (hr : rows.length ≤ 300) (goal : List S109) (const : Int) (d : Nat) : ∀ (i : Nat), i + d = most.length →
    Ev (fun k => integer_Boxed.l1 k most (most.length : Int) (i : Int) n (rows ++ (bRows most).take i) goal const) (n, rows ++ bRows most, goal, const, 0) := by
  induction d with
  | zero =>
    intro i hi
    refine Ev.step (f := fun _ => some (n, rows ++ bRows most, goal, const, 0)) (fun k => ?_) (Ev.now _)
    simp only [integer_Boxed.l1]
    rw [if_neg (by omega), List.take_of_length_le (by rw [bRows_len]; omega)]
  | succ d ih =>
    intro i hi
    refine Ev.step (fun k => ?_) (ih (i + 1) (by omega))
    have w1 : wrap64 ((i : Int) + 1) = ((i + 1 : Nat) : Int) := by rw [w64 (by omega)]; omega
    have hl : (rows ++ (bRows most).take i).length < 4398046511104 := by rw [List.length_append, List.length_take, bRows_len]; omega
    simp only [integer_Boxed.l1]
    rw [if_pos (by omega), if_pos (by omega), if_pos (by omega), if_pos hl, w1, bRows_take most i (by omega), List.append_assoc]
    rfl
theorem boxed_l0 (most : List Int) (hm : most.length ≤ 300) (n : Int) (rows : List S96) (hr : rows.length ≤ 300) (hrl : ∀ r ∈ rows, r.f0.length ≤ 1000) (goal : List S109) (const : Int) (d : Nat) : ∀ (i : Nat), i + d = rows.length →
    Ev (fun k => integer_Boxed.l0 k most rows (rows.length : Int) (i : Int) n (rows.take i) goal const) (n, rows ++ bRows most, goal, const, 0) := by
  induction d with
  | zero =>
    intro i hi
    refine Ev.step (fun k => ?_) (boxed_l1 most hm n rows hr goal const most.length 0 (by omega))
    simp only [integer_Boxed.l0]
    rw [if_neg (by omega), List.take_of_length_le (by omega), List.take_zero, List.append_nil]
    rfl
  | succ d ih =>
    intro i hi
    have hlt : i < rows.length := by omega
    have hrd : rd_T96 rows (i : Int) = rows[i] := by simp [rd_T96, List.getD_eq_getElem?_getD, hlt]
    have hcl : api_Term.f rows[i].f0 = some rows[i].f0 := by unfold api_Term.f; rw [if_pos (by have := hrl _ (List.getElem_mem hlt); omega)]
    refine Ev.step (fun k => ?_) (ih (i + 1) (by omega))
    have w1 : wrap64 ((i : Int) + 1) = ((i + 1 : Nat) : Int) := by rw [w64 (by omega)]; omega
    simp only [integer_Boxed.l0]
    rw [if_pos (by omega), if_pos (by omega), if_pos (by omega), hrd, hcl, Option.bind_some, if_pos (by rw [List.length_take]; omega), w1, List.take_succ_eq_append_getElem hlt]
theorem limitedB_of {n : Int} {rows : List S96} {goal : List S109} {const cols rowsMost entry goalMost constant most : Int} (h0 : 0 ≤ n) (h1 : n ≤ cols) (h2 : (rows.length : Int) ≤ rowsMost) (h3 : TOk goal n goalMost) (h4 : -constant ≤ const ∧ const ≤ constant)
    (h5 : ∀ r ∈ rows, TOk r.f0 n entry ∧ -most ≤ r.f1 ∧ r.f1 ≤ most) : limitedB n rows goal const cols rowsMost entry goalMost constant most = true := by
  unfold limitedB
  have h6 : rows.any (rowBad n entry most) = false := by
    rw [List.any_eq_false]
    intro r hr
    have := h5 r hr
    unfold rowBad withinB
    rw [termsB_of this.1]
    simp [this.2.1, this.2.2]
  rw [termsB_of h3, h6]
  unfold withinB
  simp [h0, h1, h2, h4.1, h4.2]
theorem MOk.small {m n : Int} {rows : List S96} {goal : List S109} {const : Int} (h : MOk m n rows goal const) (hm : m ≤ 6) : simplex_Small.f n rows goal const = some true := by
  unfold simplex_Small.f simplex_limited.f
  rw [if_pos (by omega), limitedB_of h.n0 (by have := h.n1; omega) (by have := h.rl; omega) h.gk (by have := h.ck; omega) (fun r hr => ⟨(h.rk r hr).1, (h.rk r hr).2.2⟩)]
  rfl
theorem boxed_ev {m n : Int} {rows : List S96} {goal : List S109} {const : Int} (h : MOk m n rows goal const) (hm : m ≤ 4) (most : List Int) (hl : (most.length : Int) = n) (hb : ∀ x ∈ most, 0 ≤ x ∧ x ≤ 3) :
    Ev (fun k => integer_Boxed.f k n rows goal const most) (n, rows ++ bRows most, goal, const, 0) := by
  have h0 := h.n0
  have h1 := h.n1
  have hrl := h.rl
  have hgl := h.gl
  have ho : outOfBox.f most = some false := by
    unfold outOfBox.f
    rw [show most.any outOfBoxB = false from ?_]
    rw [List.any_eq_false]
    intro x hx
    have := hb x hx
    unfold outOfBoxB
    simp; omega
  have hcl : api_Term.f goal = some goal := by unfold api_Term.f; rw [if_pos (by omega)]
  have hE := boxed_l0 most (by omega) n rows (by omega) (fun r hr => by have := (h.rk r hr).2.1; omega) goal const rows.length 0 (by omega)
  have hJ : Ev (fun k => integer_Boxed.j0 k most false n rows goal const) (n, rows ++ bRows most, goal, const, 0) := by
    refine Ev.step (fun k => ?_) hE
    simp only [integer_Boxed.j0]
    rw [if_neg (by simp), hcl, Option.bind_some]
    rfl
  refine Ev.congr (fun k => ?_) hJ
  unfold integer_Boxed.f
  rw [h.small (by omega), Option.bind_some, if_pos rfl, if_neg (by omega), if_pos hl, ho, Option.bind_some]
/-! #### values, and the search over a box -/
theorem grid_mem {most y : List Int} (h : y ∈ grid most) : y.length = most.length ∧ ∀ i, i < most.length → 0 ≤ rd y (i : Int) ∧ rd y (i : Int) ≤ rd most (i : Int) := by
  induction most generalizing y with
  | nil => rw [grid, List.mem_singleton] at h; subst h; exact ⟨rfl, fun i hi => by simp at hi⟩
  | cons m ms ih =>
    rw [grid, List.mem_flatMap] at h
    obtain ⟨j, hj, h⟩ := h
    obtain ⟨z, hz, rfl⟩ := List.mem_map.1 h
    obtain ⟨h1, h2⟩ := ih hz
    rw [List.mem_range] at hj
    refine ⟨by simp [h1], fun i hi => ?_⟩
    cases i with
    | zero => simp [rd]; omega
    | succ i =>
      have := h2 i (by simpa using hi)
      simpa [rd, show ((i + 1 : Nat) : Int).toNat = i + 1 by omega, show ((i : Nat) : Int).toNat = i by omega] using this
theorem mem_grid {most y : List Int} (hl : y.length = most.length) (h : ∀ i, i < most.length → 0 ≤ rd y (i : Int) ∧ rd y (i : Int) ≤ rd most (i : Int)) : y ∈ grid most := by
  induction most generalizing y with
  | nil => rw [grid, List.mem_singleton]; exact List.length_eq_zero_iff.1 hl
  | cons m ms ih =>
    cases y with
    | nil => simp at hl
    | cons a z =>
      have h0 := h 0 (by simp)
      simp [rd] at h0
      rw [grid, List.mem_flatMap]
      refine ⟨a.toNat, List.mem_range.2 (by omega), List.mem_map.2 ⟨z, ih (by simpa using hl) (fun i hi => ?_), ?_⟩⟩
      · have := h (i + 1) (by simpa using hi)
        simpa [rd, show ((i + 1 : Nat) : Int).toNat = i + 1 by omega, show ((i : Nat) : Int).toNat = i by omega] using this
      · rw [show ((a.toNat : Nat) : Int) = a by omega]
/-- The value of columns, within a box. -/
def valP (rows : List S96) (goal : List S109) (const : Int) (y : List Int) : Int × Bool := if rows.any (rowBroken y) = true then (0, false) else (wrap64 (const + sumT goal y), true)
theorem bRows_any {most y : List Int} (hm : ∀ x ∈ most, 0 ≤ x ∧ x ≤ 3) (h : y ∈ grid most) : (bRows most).any (rowBroken y) = false := by
  obtain ⟨h1, h2⟩ := grid_mem h
  rw [List.any_eq_false]
  intro r hr
  obtain ⟨i, hi, rfl⟩ := List.mem_map.1 hr
  rw [List.mem_range] at hi
  have := h2 i hi
  have h3 : rd most (i : Int) ≤ 3 := by
    have e : rd most (i : Int) = most[i] := by simp [rd, List.getD_eq_getElem?_getD, hi]
    rw [e]; exact (hm _ (List.getElem_mem hi)).2
  have e : sumT (bRow most i).f0 y = rd y (i : Int) := by
    show wrap64 (0 + wrap64 (1 * rd y (i : Int))) = _
    rw [w64 (x := 1 * rd y (i : Int)) (by omega), w64 (by omega)]
    omega
  unfold rowBroken
  rw [e, decide_eq_true_eq]
  show ¬ rd most (i : Int) < _
  omega
theorem sumOk_of {l : List S109} {n c : Int} (h : TOk l n c) (y : List Int) (hy : (y.length : Int) = n) : sumOk l y = true := by
  unfold sumOk
  rw [List.all_eq_true]
  intro t ht
  have := h.2 t ht
  simp; omega
theorem value_ev {m n : Int} {rows : List S96} {goal : List S109} {const : Int} (h : MOk m n rows goal const) (hm : m ≤ 4) (most : List Int) (hl : (most.length : Int) = n) (hb : ∀ x ∈ most, 0 ≤ x ∧ x ≤ 3) (y : List Int) (hy : y ∈ grid most) :
    Ev (fun k => integer_Value.f k n (rows ++ bRows most) goal const y) (valP rows goal const y) := by
  obtain ⟨h1, h2⟩ := grid_mem hy
  have h0 := h.n0
  have hn1 := h.n1
  have hrl := h.rl
  have hck := h.ck
  have hgl := h.gl
  have hmost : ∀ i, i < most.length → 0 ≤ rd most (i : Int) ∧ rd most (i : Int) ≤ 3 := fun i hi => by
    have e : rd most (i : Int) = most[i] := by simp [rd, List.getD_eq_getElem?_getD, hi]
    rw [e]; exact hb _ (List.getElem_mem hi)
  have hV : simplex_Valid.f n (rows ++ bRows most) goal const = some true := by
    unfold simplex_Valid.f simplex_limited.f
    rw [if_pos (by omega), limitedB_of h0 (by omega) (by rw [List.length_append, bRows_len]; omega) (h.gk.mono (by omega)) (by omega) (fun r hr => ?_)]
    · rfl
    · rw [List.mem_append] at hr
      rcases hr with hr | hr
      · have := h.rk r hr
        exact ⟨this.1.mono (by omega), by have := this.2; omega⟩
      · obtain ⟨i, hi, rfl⟩ := List.mem_map.1 hr
        rw [List.mem_range] at hi
        have := hmost i hi
        refine ⟨⟨by simp [bRow], fun t ht => ?_⟩, by unfold bRow; simp only; omega⟩
        simp [bRow] at ht
        subst ht
        simp; omega
  have hO : outOfRange.f y = some false := by
    unfold outOfRange.f
    rw [show y.any outOfRangeB = false from ?_]
    rw [List.any_eq_false]
    intro x hx
    obtain ⟨i, hi, rfl⟩ := List.mem_iff_getElem.1 hx
    have := h2 i (by omega)
    have h3 := hmost i (by omega)
    have e : rd y (i : Int) = y[i] := by simp [rd, List.getD_eq_getElem?_getD, hi]
    rw [e] at this
    unfold outOfRangeB
    simp; omega
  have hR : rowsOk (rows ++ bRows most) y = true := by
    unfold rowsOk
    rw [List.all_eq_true]
    intro r hr
    rw [List.mem_append] at hr
    rcases hr with hr | hr
    · exact sumOk_of (h.rk r hr).1 y (by omega)
    · obtain ⟨i, hi, rfl⟩ := List.mem_map.1 hr
      rw [List.mem_range] at hi
      unfold sumOk bRow
      simp; omega
  obtain ⟨K, hK⟩ := integer_sum_any goal y (by omega) (sumOk_of h.gk y (by omega))
  have hE : Ev (fun k => integer_sum.f k goal y) (sumT goal y) := Ev.of (fun k => integer_sum.mono _ _ k) hK
  have hB : (rows ++ bRows most).any (rowBroken y) = rows.any (rowBroken y) := by rw [List.any_append, bRows_any hb hy, Bool.or_false]
  by_cases hbr : rows.any (rowBroken y) = true
  · refine Ev.congr (f := fun _ => some (valP rows goal const y)) (fun k => ?_) (Ev.now _)
    unfold integer_Value.f integer_Broken.f
    rw [hV, Option.bind_some, if_pos rfl, if_pos (by omega), hO, Option.bind_some, if_neg (by simp), if_pos hR, Option.bind_some, valP, if_pos hbr]
    rw [if_pos ?_]
    have := idxB_nonneg (rowBroken y) (rows ++ bRows most)
    rw [hB, hbr] at this
    unfold brokenAt
    simpa using this
  · obtain ⟨K, f1⟩ := hE
    refine ⟨K, fun k hk => ?_⟩
    have g1 := f1 k hk
    dsimp only at g1 ⊢
    unfold integer_Value.f integer_Broken.f
    rw [hV, Option.bind_some, if_pos rfl, if_pos (by omega), hO, Option.bind_some, if_neg (by simp), if_pos hR, Option.bind_some, valP, if_neg hbr]
    rw [if_neg ?_, g1, Option.bind_some]
    have := idxB_nonneg (rowBroken y) (rows ++ bRows most)
    rw [hB] at this
    unfold brokenAt
    intro hc
    rw [decide_eq_true hc] at this
    exact hbr this.symm
/-! #### the search -/
/-- What a search leaves: the first of the greatest values. -/
structure Found (V : List Int → Int × Bool) (l : List (List Int)) (s : Int × Bool × List Int) : Prop where
  no : s.2.1 = false → ∀ y ∈ l, (V y).2 = false
  at_ : s.2.1 = true → s.2.2 ∈ l ∧ V s.2.2 = (s.1, true)
  top : s.2.1 = true → ∀ y ∈ l, (V y).2 = true → (V y).1 ≤ s.1
theorem Found.nil (V : List Int → Int × Bool) : Found V [] (0, false, []) := ⟨fun _ y hy => by simp at hy, fun h => by simp at h, fun h => by simp at h⟩
theorem Found.snoc {V : List Int → Int × Bool} {l : List (List Int)} {s : Int × Bool × List Int} (h : Found V l s) (x : List Int) : Found V (l ++ [x]) (stepV V s x) := by
  have mem : ∀ y, y ∈ l ++ [x] → y ∈ l ∨ y = x := fun y hy => by rwa [List.mem_append, List.mem_singleton] at hy
  unfold stepV stepB
  by_cases c : ((V x).2 && (!s.2.1 || decide (s.1 < (V x).1))) = true
  · rw [if_pos c]
    simp only [Bool.and_eq_true, Bool.or_eq_true, Bool.not_eq_true', decide_eq_true_eq] at c
    refine ⟨fun hf => by simp at hf, fun _ => ⟨by simp, Prod.ext rfl c.1⟩, fun _ y hy hv => ?_⟩
    rcases mem y hy with hy | rfl
    · rcases c.2 with c2 | c2
      · have := h.no c2 y hy; rw [hv] at this; cases this
      · by_cases hs : s.2.1 = true
        · have := h.top hs y hy hv; show _ ≤ (V x).1; omega
        · have := h.no (by simpa using hs) y hy; rw [hv] at this; cases this
    · exact Int.le_refl _
  · rw [if_neg c]
    simp only [Bool.and_eq_true, Bool.or_eq_true, Bool.not_eq_true', decide_eq_true_eq, not_and, not_or] at c
    refine ⟨fun hf y hy => ?_, fun ht => ?_, fun ht y hy hv => ?_⟩
    · rcases mem y hy with hy | rfl
      · exact h.no hf y hy
      · by_cases hv : (V y).2 = true
        · exact absurd hf (c hv).1
        · simpa using hv
    · exact ⟨List.mem_append_left _ (h.at_ ht).1, (h.at_ ht).2⟩
    · rcases mem y hy with hy | rfl
      · exact h.top ht y hy hv
      · have := (c hv).2; omega
theorem found_fold (V : List Int → Int × Bool) (l : List (List Int)) : Found V l (l.foldl (stepV V) (0, false, [])) := by
  have : ∀ (b a : List (List Int)) (s : Int × Bool × List Int), Found V a s → Found V (a ++ b) (b.foldl (stepV V) s) := by
    intro b
    induction b with
    | nil => intro a s h; rw [List.append_nil]; exact h
    | cons x b ih =>
      intro a s h
      have := ih (a ++ [x]) (stepV V s x) (h.snoc x)
      rwa [List.append_assoc] at this
  exact this l [] _ (Found.nil V)
theorem ev_all {α β : Type} (l : List β) (g : Nat → β → Option α) (v : β → α) (h : ∀ y ∈ l, Ev (fun k => g k y) (v y)) : ∃ K, ∀ k, K ≤ k → ∀ y ∈ l, g k y = some (v y) := by
  induction l with
  | nil => exact ⟨0, fun k _ y hy => by simp at hy⟩
  | cons a l ih =>
    obtain ⟨K1, h1⟩ := ih (fun y hy => h y (List.mem_cons_of_mem _ hy))
    obtain ⟨K2, h2⟩ := h a List.mem_cons_self
    refine ⟨K1 + K2, fun k hk y hy => ?_⟩
    rcases List.mem_cons.1 hy with rfl | hy
    · exact h2 k (by omega)
    · exact h1 k (by omega) y hy
theorem fold_congr (V V' : List Int → Int × Bool) (l : List (List Int)) (h : ∀ y ∈ l, V y = V' y) : ∀ s, l.foldl (stepV V) s = l.foldl (stepV V') s := by
  induction l with
  | nil => intro s; rfl
  | cons a l ih =>
    intro s
    rw [List.foldl_cons, List.foldl_cons, ih (fun y hy => h y (List.mem_cons_of_mem _ hy))]
    unfold stepV
    rw [h a List.mem_cons_self]
/-- What Solve answers. -/
def solveP (rows : List S96) (goal : List S109) (const : Int) (most : List Int) : Int × List Int × Int :=
  if ((grid most).foldl (stepV (valP rows goal const)) (0, false, [])).2.1 = true then (((grid most).foldl (stepV (valP rows goal const)) (0, false, [])).1, ((grid most).foldl (stepV (valP rows goal const)) (0, false, [])).2.2, 0) else (0, [], 34)
theorem solve_ev {m n : Int} {rows : List S96} {goal : List S109} {const : Int} (h : MOk m n rows goal const) (hm : m ≤ 4) (most : List Int) (hl : (most.length : Int) = n) (hb : ∀ x ∈ most, 0 ≤ x ∧ x ≤ 3) :
    Ev (fun k => integer_Solve.f k n rows goal const most) (solveP rows goal const most) := by
  obtain ⟨K1, h1⟩ := boxed_ev h hm most hl hb
  obtain ⟨K2, h2⟩ := ev_all (grid most) (fun k y => integer_Value.f k n (rows ++ bRows most) goal const y) (valP rows goal const) (fun y hy => value_ev h hm most hl hb y hy)
  refine ⟨K1 + K2, fun k hk => ?_⟩
  have g1 := h1 k (by omega)
  have g2 := h2 k (by omega)
  dsimp only at g1 g2 ⊢
  have h0 := h.n0
  have hn1 := h.n1
  have hok : solveOk k n (rows ++ bRows most) goal const most = true := by
    unfold solveOk
    simp only [Bool.and_eq_true, decide_eq_true_eq, List.all_eq_true]
    refine ⟨⟨fun y hy => by rw [g2 y hy]; rfl, by omega⟩, fun x hx => by have := hb x hx; omega⟩
  have hS : solveS k n (rows ++ bRows most) goal const most = (grid most).foldl (stepV (valP rows goal const)) (0, false, []) := by
    unfold solveS
    refine fold_congr _ _ _ (fun y hy => ?_) _
    rw [valF, g2 y hy]; rfl
  unfold integer_Solve.f
  rw [g1, Option.bind_some]
  simp only
  rw [if_pos trivial, if_pos hok, hS]
  unfold solveP
  split <;> rfl
theorem solveP_err (rows : List S96) (goal : List S109) (const : Int) (most : List Int) : (solveP rows goal const most).2.2 = 0 ∨ (solveP rows goal const most).2.2 = 34 := by
  unfold solveP
  split
  · exact .inl rfl
  · exact .inr rfl
/-- A greater box, or less rows: the value does not fall. -/
theorem solveP_mono (rows rows' : List S96) (goal : List S109) (const : Int) (most most' : List Int) (hg : ∀ y ∈ grid most, y ∈ grid most') (hr : ∀ r ∈ rows', r ∈ rows) (h : (solveP rows goal const most).2.2 = 0) :
    (solveP rows' goal const most').2.2 = 0 ∧ (solveP rows goal const most).1 ≤ (solveP rows' goal const most').1 := by
  have f1 := found_fold (valP rows goal const) (grid most)
  have f2 := found_fold (valP rows' goal const) (grid most')
  unfold solveP at h ⊢
  generalize (grid most).foldl (stepV (valP rows goal const)) (0, false, []) = s at *
  generalize (grid most').foldl (stepV (valP rows' goal const)) (0, false, []) = s' at *
  by_cases c : s.2.1 = true
  · rw [if_pos c] at h ⊢
    obtain ⟨hy, hv⟩ := f1.at_ c
    have hv' : valP rows' goal const s.2.2 = (s.1, true) := by
      unfold valP at hv ⊢
      split at hv
      · simp at hv
      · rename_i hn
        rw [if_neg ?_, hv]
        intro hc
        obtain ⟨r, hr1, hr2⟩ := List.any_eq_true.1 hc
        exact hn (List.any_eq_true.2 ⟨r, hr r hr1, hr2⟩)
    have hy' := hg _ hy
    by_cases c' : s'.2.1 = true
    · rw [if_pos c']
      have := f2.top c' _ hy' (by rw [hv'])
      rw [hv'] at this
      exact ⟨rfl, this⟩
    · have := f2.no (by simpa using c') _ hy'
      rw [hv'] at this
      cases this
  · rw [if_neg c] at h
    simp at h
/-! #### the reference of layers 32 and 33 -/
theorem rterms_l0 {l : List S109} {n m : Int} (h : TOk l n m) (hl : l.length ≤ 1000000) (hm : 0 ≤ m ∧ m ≤ 1073741824) (d : Nat) : ∀ i : Int, 0 ≤ i → (l.length : Int) - i = d → Ev (fun k => timeboundref32_terms.l0 k l n m l (l.length : Int) i) true := by
  induction d with
  | zero => exact fun i h0 hd => Ev.step (f := fun _ => some true) (fun k => by simp only [timeboundref32_terms.l0]; rw [if_neg (by omega)]) (Ev.now _)
  | succ d ih =>
    intro i h0 hd
    have hlt : i.toNat < l.length := by omega
    have hr : rd_T109 l i = l[i.toNat] := by simp [rd_T109, List.getD_eq_getElem?_getD, hlt]
    have ht := h.2 _ (List.getElem_mem hlt)
    have w1 : wrap64 (i + 1) = i + 1 := w64 (by omega)
    have w2 : wrap64 (-m) = -m := w64 (by omega)
    refine Ev.step (fun k => ?_) (ih (i + 1) (by omega) (by omega))
    simp only [timeboundref32_terms.l0]
    rw [if_pos (by omega), if_pos h0, if_pos (by omega), hr, if_neg (by omega), if_neg (by omega), if_neg (by omega), w2, if_neg (by omega), if_neg (by omega), w1]
    by_cases z : i > 0
    · have w3 : wrap64 (i - 1) = i - 1 := w64 (by omega)
      have hlt2 : (i - 1).toNat < l.length := by omega
      have hr2 : rd_T109 l (i - 1) = l[(i - 1).toNat] := by unfold rd_T109; rw [List.getD_eq_getElem?_getD, List.getElem?_eq_getElem hlt2]; rfl
      have hp := List.pairwise_iff_getElem.1 h.1 (i - 1).toNat i.toNat (by simpa using hlt2) (by simpa using hlt) (by omega)
      simp only [List.getElem_map] at hp
      rw [if_pos z, w3, if_pos (by omega), if_pos (by omega), hr2, if_neg (by omega)]
    · rw [if_neg z]
theorem rterms_ev {l : List S109} {n m : Int} (h : TOk l n m) (hl : l.length ≤ 1000000) (hm : 0 ≤ m ∧ m ≤ 1073741824) : Ev (fun k => timeboundref32_terms.f k l n m) true := rterms_l0 h hl hm l.length 0 (by omega) (by omega)
/-- Rows that are as those of a valid model must be. -/
def RV (n : Int) (rows : List S96) : Prop := ∀ r ∈ rows, TOk r.f0 n 9 ∧ r.f0.length ≤ 1000 ∧ -50 ≤ r.f1 ∧ r.f1 ≤ 50
theorem MOk.rv {m n : Int} {rows : List S96} {goal : List S109} {const : Int} (h : MOk m n rows goal const) (hm : m ≤ 1000) : RV n rows := fun r hr => by
  have a := h.rk r hr
  have b := h.n1
  have c := a.2.1
  exact ⟨a.1, by omega, a.2.2⟩
theorem rvalid_l0 {n : Int} {rows : List S96} (hr : RV n rows) (hl : rows.length ≤ 400) {goal : List S109} (hg : TOk goal n 9) (hgl : goal.length ≤ 1000) {const : Int} (hc : -9 ≤ const ∧ const ≤ 9) (n0 : 0 ≤ n) (n1 : n ≤ 300) (d : Nat) : ∀ i : Int, 0 ≤ i → (rows.length : Int) - i = d →
    Ev (fun k => timeboundref32_Valid.l0 k rows (rows.length : Int) i n rows goal const) true := by
  induction d with
  | zero =>
    intro i h0 hd
    refine Ev.step (fun k => by simp only [timeboundref32_Valid.l0]; rw [if_neg (by omega), if_pos (by omega), if_pos n1, if_pos (by omega)]) (Ev.bind (rterms_ev (hg.mono (m2 := 16777216) (by omega)) (by omega) (by omega)) ?_)
    simp only [if_true]
    rw [if_pos (by omega)]
    have e : decide (const ≤ 16777216) = true := decide_eq_true (by omega)
    rw [e]; exact Ev.now _
  | succ d ih =>
    intro i h0 hd
    have hlt : i.toNat < rows.length := by omega
    have hrd : rd_T96 rows i = rows[i.toNat] := by simp [rd_T96, List.getD_eq_getElem?_getD, hlt]
    obtain ⟨a, b, c1, c2⟩ := hr _ (List.getElem_mem hlt)
    have w1 : wrap64 (i + 1) = i + 1 := w64 (by omega)
    have hR : Ev (fun k => timeboundref32_Row.f k rows[i.toNat].f0 rows[i.toNat].f1 n) true := by
      unfold timeboundref32_Row.f
      refine Ev.bind (rterms_ev (a.mono (m2 := 1048576) (by omega)) (by omega) (by omega)) ?_
      simp only [if_true]
      rw [if_pos (by omega)]
      have e : decide (rows[i.toNat].f1 ≤ 1048576) = true := decide_eq_true (by omega)
      rw [e]; exact Ev.now _
    refine Ev.step (fun k => by simp only [timeboundref32_Valid.l0]; rw [if_pos (by omega), if_pos h0, if_pos (by omega), hrd]) (Ev.bind hR ?_)
    simp only [if_true, w1]
    exact ih (i + 1) (by omega) (by omega)
theorem rvalid_ev {n : Int} {rows : List S96} (hr : RV n rows) (hl : rows.length ≤ 400) {goal : List S109} (hg : TOk goal n 9) (hgl : goal.length ≤ 1000) {const : Int} (hc : -9 ≤ const ∧ const ≤ 9) (n0 : 0 ≤ n) (n1 : n ≤ 300) : Ev (fun k => timeboundref32_Valid.f k n rows goal const) true :=
  rvalid_l0 hr hl hg hgl hc n0 n1 rows.length 0 (by omega) (by omega)
theorem rsmall_l0 {n : Int} {rows : List S96} (hr : RV n rows) (hl : rows.length ≤ 400) (goal : List S109) (const : Int) (d : Nat) : ∀ i : Int, 0 ≤ i → (rows.length : Int) - i = d →
    Ev (fun k => timeboundref32_Small.l0 k rows (rows.length : Int) i n rows goal const) true := by
  induction d with
  | zero => exact fun i h0 hd => Ev.step (f := fun _ => some true) (fun k => by simp only [timeboundref32_Small.l0]; rw [if_neg (by omega)]) (Ev.now _)
  | succ d ih =>
    intro i h0 hd
    have hlt : i.toNat < rows.length := by omega
    have hrd : rd_T96 rows i = rows[i.toNat] := by simp [rd_T96, List.getD_eq_getElem?_getD, hlt]
    obtain ⟨a, b, c1, c2⟩ := hr _ (List.getElem_mem hlt)
    have w1 : wrap64 (i + 1) = i + 1 := w64 (by omega)
    refine Ev.step (fun k => by simp only [timeboundref32_Small.l0]; rw [if_pos (by omega), if_pos h0, if_pos (by omega), hrd]) (Ev.bind (rterms_ev a (by omega) (by omega)) ?_)
    simp only [if_true, w1, if_neg (show ¬ rows[i.toNat].f1 < -50 from by omega), if_neg (show ¬ rows[i.toNat].f1 > 50 from by omega)]
    exact ih (i + 1) (by omega) (by omega)
theorem rsmall_ev {m n : Int} {rows : List S96} {goal : List S109} {const : Int} (h : MOk m n rows goal const) (hm : m ≤ 6) : Ev (fun k => timeboundref32_Small.f k n rows goal const) true := by
  have h0 := h.n0
  have h1 := h.n1
  have h2 := h.rl
  have h3 := h.gl
  have h4 := h.ck
  unfold timeboundref32_Small.f
  refine Ev.bind (rvalid_ev (h.rv (by omega)) (by omega) h.gk (by omega) (by omega) h0 (by omega)) ?_
  simp only [if_true, if_neg (show ¬ n > 6 from by omega), if_neg (show ¬ (rows.length : Int) > 6 from by omega)]
  refine Ev.bind (rterms_ev h.gk (by omega) (by omega)) ?_
  have e : decide (const > 9) = false := decide_eq_false (by omega)
  simp only [if_true, if_neg (show ¬ const < -9 from by omega), e]
  exact Ev.step (fun k => by simp only [timeboundref32_Small.j0]; rw [if_neg (by simp)]) (rsmall_l0 (h.rv (by omega)) (by omega) goal const rows.length 0 (by omega) (by omega))
/-- What Boxed answers. -/
def boxP (n : Int) (rows : List S96) (goal : List S109) (const : Int) (most : List Int) : Int × List S96 × List S109 × Int × Int :=
  if n ≤ 4 ∧ (most.length : Int) = n ∧ ∀ x ∈ most, 0 ≤ x ∧ x ≤ 3 then (n, rows ++ bRows most, goal, const, 0) else (0, [], [], 0, 33)
theorem boxedP_ev {m n : Int} {rows : List S96} {goal : List S109} {const : Int} (h : MOk m n rows goal const) (hm : m ≤ 6) (most : List Int) : Ev (fun k => integer_Boxed.f k n rows goal const most) (boxP n rows goal const most) := by
  have h0 := h.n0
  have hj : Ev (fun k => integer_Boxed.j0 k most true n rows goal const) (0, [], [], 0, 33) := Ev.step (f := fun _ => some (0, [], [], 0, 33)) (fun k => by simp only [integer_Boxed.j0]; rw [if_pos trivial]) (Ev.now _)
  by_cases c1 : n ≤ 4
  · by_cases c2 : (most.length : Int) = n
    · by_cases c3 : ∀ x ∈ most, 0 ≤ x ∧ x ≤ 3
      · unfold boxP
        rw [if_pos ⟨c1, c2, c3⟩]
        exact boxed_ev (m := 4) ⟨h.n0, c1, h.rl, h.rk, h.gk, h.gl, h.ck⟩ (by omega) most c2 c3
      · unfold boxP
        rw [if_neg (fun hh => c3 hh.2.2)]
        have ho : outOfBox.f most = some true := by
          unfold outOfBox.f
          congr 1
          rw [List.any_eq_true]
          apply Classical.byContradiction
          intro hn
          apply c3
          intro x hx
          apply Classical.byContradiction
          intro hx2
          apply hn
          refine ⟨x, hx, ?_⟩
          unfold outOfBoxB
          simp; omega
        refine Ev.congr (fun k => ?_) hj
        unfold integer_Boxed.f
        rw [h.small hm, Option.bind_some, if_pos rfl, if_neg (by omega), if_pos c2, ho, Option.bind_some]
    · unfold boxP
      rw [if_neg (fun hh => c2 hh.2.1)]
      refine Ev.congr (fun k => ?_) hj
      unfold integer_Boxed.f
      rw [h.small hm, Option.bind_some, if_pos rfl, if_neg (by omega), if_neg c2]
  · unfold boxP
    rw [if_neg (fun hh => c1 hh.1)]
    refine Ev.congr (fun k => ?_) hj
    unfold integer_Boxed.f
    rw [h.small hm, Option.bind_some, if_pos rfl, if_pos (by omega)]
theorem rboxed_l1 (most : List Int) (hm : most.length ≤ 300) (n : Int) (rows : List S96) (hr : rows.length ≤ 300) (goal : List S109) (const : Int) (d : Nat) : ∀ (i : Nat), i + d = most.length → (∀ j, j < i → 0 ≤ rd most (j : Int) ∧ rd most (j : Int) ≤ 3) →
    Ev (fun k => timeboundref33_Boxed.l1 k most (most.length : Int) (i : Int) n (rows ++ (bRows most).take i) goal const) (if ∀ x ∈ most, 0 ≤ x ∧ x ≤ 3 then (n, rows ++ bRows most, goal, const, 0) else (0, [], [], 0, 33)) := by
  induction d with
  | zero =>
    intro i hi hp
    rw [if_pos ?_]
    · refine Ev.step (f := fun _ => some (n, rows ++ bRows most, goal, const, 0)) (fun k => ?_) (Ev.now _)
      simp only [timeboundref33_Boxed.l1]
      rw [if_neg (by omega), List.take_of_length_le (by rw [bRows_len]; omega)]
    · intro x hx
      obtain ⟨j, hj, rfl⟩ := List.mem_iff_getElem.1 hx
      have := hp j (by omega)
      have e : rd most (j : Int) = most[j] := by simp [rd, List.getD_eq_getElem?_getD, hj]
      rw [e] at this; exact this
  | succ d ih =>
    intro i hi hp
    have hlt : i < most.length := by omega
    have w1 : wrap64 ((i : Int) + 1) = ((i + 1 : Nat) : Int) := by rw [w64 (by omega)]; omega
    have e : rd most (i : Int) = most[i] := by simp [rd, List.getD_eq_getElem?_getD, hlt]
    by_cases c1 : rd most (i : Int) < 0
    · rw [if_neg (fun hh => by have := (hh _ (List.getElem_mem hlt)).1; omega)]
      refine Ev.step (f := fun _ => some (0, [], [], 0, 33)) (fun k => ?_) (Ev.now _)
      simp only [timeboundref33_Boxed.l1]
      rw [if_pos (by omega), if_pos (by omega), if_pos (by omega), if_pos c1]
    · by_cases c2 : rd most (i : Int) > 3
      · rw [if_neg (fun hh => by have := (hh _ (List.getElem_mem hlt)).2; omega)]
        refine Ev.step (f := fun _ => some (0, [], [], 0, 33)) (fun k => ?_) (Ev.now _)
        simp only [timeboundref33_Boxed.l1]
        rw [if_pos (by omega), if_pos (by omega), if_pos (by omega), if_neg c1, if_pos c2]
      · refine Ev.step (fun k => ?_) (ih (i + 1) (by omega) (fun j hj => ?_))
        · simp only [timeboundref33_Boxed.l1]
          rw [if_pos (by omega), if_pos (by omega), if_pos (by omega), if_neg c1, if_neg c2, if_pos (by rw [List.length_append, List.length_take]; omega), w1, bRows_take most i hlt, List.append_assoc]
          rfl
        · rcases Nat.lt_or_eq_of_le (Nat.le_of_lt_succ hj) with hj | rfl
          · exact hp j hj
          · omega
theorem rboxed_l0 (most : List Int) (hm : most.length ≤ 300) (n : Int) (rows : List S96) (hr : rows.length ≤ 300) (hrl : ∀ r ∈ rows, r.f0.length ≤ 1000) (goal : List S109) (const : Int) (d : Nat) : ∀ (i : Nat), i + d = rows.length →
    Ev (fun k => timeboundref33_Boxed.l0 k most rows (rows.length : Int) (i : Int) n (rows.take i) goal const) (if ∀ x ∈ most, 0 ≤ x ∧ x ≤ 3 then (n, rows ++ bRows most, goal, const, 0) else (0, [], [], 0, 33)) := by
  induction d with
  | zero =>
    intro i hi
    refine Ev.step (fun k => ?_) (rboxed_l1 most hm n rows hr goal const most.length 0 (by omega) (fun j hj => by omega))
    simp only [timeboundref33_Boxed.l0]
    rw [if_neg (by omega), List.take_of_length_le (by omega), List.take_zero, List.append_nil]
    rfl
  | succ d ih =>
    intro i hi
    have hlt : i < rows.length := by omega
    have hrd : rd_T96 rows (i : Int) = rows[i] := by simp [rd_T96, List.getD_eq_getElem?_getD, hlt]
    have hrl2 := hrl _ (List.getElem_mem hlt)
    refine Ev.step (fun k => ?_) (ih (i + 1) (by omega))
    have w1 : wrap64 ((i : Int) + 1) = ((i + 1 : Nat) : Int) := by rw [w64 (by omega)]; omega
    simp only [timeboundref33_Boxed.l0]
    rw [if_pos (by omega), if_pos (by omega), if_pos (by omega), hrd, if_pos (by simp; omega), if_pos (by rw [List.length_take]; omega), w1, List.take_succ_eq_append_getElem hlt, List.nil_append]
theorem rboxedP_ev {m n : Int} {rows : List S96} {goal : List S109} {const : Int} (h : MOk m n rows goal const) (hm : m ≤ 6) (most : List Int) : Ev (fun k => timeboundref33_Boxed.f k n rows goal const most) (boxP n rows goal const most) := by
  have h0 := h.n0
  have h2 := h.rl
  have h3 := h.gl
  have hn1 := h.n1
  have hj : Ev (fun k => timeboundref33_Boxed.j0 k most true n rows goal const) (0, [], [], 0, 33) := Ev.step (f := fun _ => some (0, [], [], 0, 33)) (fun k => by simp only [timeboundref33_Boxed.j0]; rw [if_pos trivial]) (Ev.now _)
  unfold timeboundref33_Boxed.f
  refine Ev.bind (rsmall_ev h hm) ?_
  simp only [if_true]
  by_cases c1 : n > 4
  · simp only [if_pos c1]
    unfold boxP
    rw [if_neg (fun hh => by omega)]
    exact hj
  · simp only [if_neg c1]
    by_cases c2 : (most.length : Int) = n
    · have e : ((most.length : Int) != n) = false := by simp [c2]
      rw [e]
      refine Ev.step (fun k => by simp only [timeboundref33_Boxed.j0]; rw [if_neg (by simp), if_pos (by simp; omega)]) ?_
      have := rboxed_l0 most (by omega) n rows (by omega) (fun r hr => (h.rv (by omega) r hr).2.1) goal const rows.length 0 (by omega)
      unfold boxP
      rw [List.nil_append]
      by_cases c3 : ∀ x ∈ most, 0 ≤ x ∧ x ≤ 3
      · rw [if_pos ⟨by omega, c2, c3⟩]; rw [if_pos c3] at this; exact this
      · rw [if_neg (fun hh => c3 hh.2.2)]; rw [if_neg c3] at this; exact this
    · have e : ((most.length : Int) != n) = true := by simp [c2]
      rw [e]
      unfold boxP
      rw [if_neg (fun hh => c2 hh.2.1)]
      exact hj
theorem awake33 : Ev (fun k => timeboundlaw33_awake.f k) true := by
  have h : MOk 4 2 [⟨[⟨0, 2⟩, ⟨1, 2⟩], 3⟩] [⟨0, 1⟩, ⟨1, 1⟩] 0 := ⟨by omega, by omega, by simp, by simp [ROk, TOk], by simp [TOk], by simp, by omega⟩
  obtain ⟨K, hK⟩ := solve_ev h (by omega) [3, 3] rfl (by simp)
  have hv : solveP [⟨[⟨0, 2⟩, ⟨1, 2⟩], 3⟩] [⟨0, 1⟩, ⟨1, 1⟩] 0 [3, 3] = (1, [0, 1], 0) := by decide +kernel
  refine ⟨K, fun k hk => ?_⟩
  have g := hK k hk
  dsimp only at g ⊢
  unfold timeboundlaw33_awake.f
  rw [g, hv]
  rfl
/-! #### any columns: both say the same -/
theorem Ev.one {α : Type} {g : Nat → Option α} {a b : α} (h1 : Ev g a) (h2 : Ev g b) : a = b := by
  obtain ⟨K1, f1⟩ := h1
  obtain ⟨K2, f2⟩ := h2
  have e1 := f1 (K1 + K2) (by omega)
  have e2 := f2 (K1 + K2) (by omega)
  rw [e1] at e2
  exact Option.some.inj e2
def accT (z : List Int) (l : List S109) (n : Int) : Int := l.foldl (fun n t => wrap64 (n + wrap64 (t.f1 * rd z t.f0))) n
theorem accT_shift (z : List Int) (l : List S109) : ∀ c n : Int, accT z l (wrap64 (c + n)) = wrap64 (c + accT z l n) := by
  unfold accT
  induction l with
  | nil => intro c n; rfl
  | cons t l ih =>
    intro c n
    rw [List.foldl_cons, List.foldl_cons, ← ih]
    congr 1
    generalize wrap64 (t.f1 * rd z t.f0) = w
    unfold wrap64
    omega
/-- The value of any columns. -/
def valG (n : Int) (rows : List S96) (goal : List S109) (const : Int) (z : List Int) : Int × Bool :=
  if (z.length : Int) = n then if z.any outOfRangeB = true then (0, false) else if rows.any (rowBroken z) = true then (0, false) else (wrap64 (const + sumT goal z), true) else (0, false)
theorem RV.rowsOk {n : Int} {rows : List S96} (h : RV n rows) (z : List Int) (hz : (z.length : Int) = n) : rowsOk rows z = true := by
  unfold Go.Proofs.Ytdgegoefehmfmaa.QIntegerSolves.rowsOk
  rw [List.all_eq_true]
  exact fun r hr => sumOk_of (h r hr).1 z hz
theorem valG_ev {n : Int} {rows : List S96} (hr : RV n rows) (hl : rows.length ≤ 400) {goal : List S109} (hg : TOk goal n 9) (hgl : goal.length ≤ 1000) {const : Int} (hc : -9 ≤ const ∧ const ≤ 9) (n0 : 0 ≤ n) (n1 : n ≤ 300) (z : List Int) :
    Ev (fun k => integer_Value.f k n rows goal const z) (valG n rows goal const z) := by
  have hV : simplex_Valid.f n rows goal const = some true := by
    unfold simplex_Valid.f simplex_limited.f
    rw [if_pos (by omega), limitedB_of n0 (by omega) (by omega) (hg.mono (by omega)) (by omega) (fun r hm => ?_)]
    · rfl
    · have := hr r hm
      exact ⟨this.1.mono (by omega), by omega, by omega⟩
  unfold integer_Value.f valG
  simp only [hV, Option.bind_some, if_true]
  by_cases c : (z.length : Int) = n
  · simp only [if_pos c]
    unfold outOfRange.f
    simp only [Option.bind_some]
    by_cases c2 : z.any outOfRangeB = true
    · simp only [if_pos c2]; exact Ev.now _
    · simp only [if_neg c2]
      unfold integer_Broken.f
      simp only [if_pos (hr.rowsOk z c), Option.bind_some]
      have hx := idxB_nonneg (rowBroken z) rows
      by_cases c3 : rows.any (rowBroken z) = true
      · rw [c3] at hx
        have : brokenAt rows z ≥ 0 := by unfold brokenAt; simpa using hx
        simp only [if_pos this, if_pos c3]
        exact Ev.now _
      · have : ¬ brokenAt rows z ≥ 0 := by
          unfold brokenAt
          intro h
          rw [decide_eq_true h] at hx
          exact c3 hx.symm
        simp only [if_neg this, if_neg c3]
        obtain ⟨K, hK⟩ := integer_sum_any goal z (by omega) (sumOk_of hg z c)
        exact Ev.bind (Ev.of (fun k => integer_sum.mono _ _ k) hK) (Ev.now _)
  · simp only [if_neg c]; exact Ev.now _
section
variable {n : Int} {rows : List S96} {goal : List S109} {const : Int} {z : List Int}
theorem rval_l3 (hg : TOk goal n 9) (hz : (z.length : Int) = n) (hgl : goal.length ≤ 1000) (d : Nat) : ∀ (x i : Int), 0 ≤ i → (goal.length : Int) - i = d →
    Ev (fun k => timeboundref33_Value.l3 k z x goal (goal.length : Int) i) (accT z (goal.drop i.toNat) x, true) := by
  induction d with
  | zero =>
    intro x i h0 hd
    rw [List.drop_of_length_le (by omega)]
    exact Ev.step (f := fun _ => some (x, true)) (fun k => by simp only [timeboundref33_Value.l3]; rw [if_neg (by omega)]) (Ev.now _)
  | succ d ih =>
    intro x i h0 hd
    have hlt : i.toNat < goal.length := by omega
    have hrd : rd_T109 goal i = goal[i.toNat] := by simp [rd_T109, List.getD_eq_getElem?_getD, hlt]
    have hb := hg.2 _ (List.getElem_mem hlt)
    have w1 : wrap64 (i + 1) = i + 1 := w64 (by omega)
    have := ih (wrap64 (x + wrap64 (goal[i.toNat].f1 * rd z goal[i.toNat].f0))) (i + 1) (by omega) (by omega)
    rw [show (i + 1).toNat = i.toNat + 1 by omega] at this
    rw [List.drop_eq_getElem_cons hlt]
    refine Ev.step (fun k => ?_) this
    simp only [timeboundref33_Value.l3]
    rw [if_pos (by omega), if_pos h0, if_pos (by omega), hrd, if_pos hb.1, if_pos (by omega), w1]
theorem rval_l2 {W : Int × Bool} (r : S96) (hr : TOk r.f0 n 9) (hz : (z.length : Int) = n) (hl : r.f0.length ≤ 1000) (i : Int)
    (hW : Ev (fun k => timeboundref33_Value.l1 k z rows (rows.length : Int) (wrap64 (i + 1)) n rows goal const) W) (d : Nat) : ∀ (x j : Int), 0 ≤ j → (r.f0.length : Int) - j = d →
    Ev (fun k => timeboundref33_Value.l2 k z x rows (rows.length : Int) i r.f0 (r.f0.length : Int) j n rows goal const r.f0 r.f1) (if r.f1 < accT z (r.f0.drop j.toNat) x then (0, false) else W) := by
  induction d with
  | zero =>
    intro x j h0 hd
    rw [List.drop_of_length_le (by omega)]
    show Ev _ (if r.f1 < x then (0, false) else W)
    by_cases c : r.f1 < x
    · rw [if_pos c]
      exact Ev.step (f := fun _ => some (0, false)) (fun k => by simp only [timeboundref33_Value.l2]; rw [if_neg (by omega), if_pos (by omega)]) (Ev.now _)
    · rw [if_neg c]
      exact Ev.step (fun k => by simp only [timeboundref33_Value.l2]; rw [if_neg (by omega), if_neg (by omega)]) hW
  | succ d ih =>
    intro x j h0 hd
    have hlt : j.toNat < r.f0.length := by omega
    have hrd : rd_T109 r.f0 j = r.f0[j.toNat] := by simp [rd_T109, List.getD_eq_getElem?_getD, hlt]
    have hb := hr.2 _ (List.getElem_mem hlt)
    have w1 : wrap64 (j + 1) = j + 1 := w64 (by omega)
    have := ih (wrap64 (x + wrap64 (r.f0[j.toNat].f1 * rd z r.f0[j.toNat].f0))) (j + 1) (by omega) (by omega)
    rw [show (j + 1).toNat = j.toNat + 1 by omega] at this
    rw [List.drop_eq_getElem_cons hlt]
    refine Ev.step (fun k => ?_) this
    simp only [timeboundref33_Value.l2]
    rw [if_pos (by omega), if_pos h0, if_pos (by omega), hrd, if_pos hb.1, if_pos (by omega), w1]
theorem rval_l1 {W : Int × Bool} (hr : RV n rows) (hl : rows.length ≤ 400) (hz : (z.length : Int) = n) (hW : Ev (fun k => timeboundref33_Value.l3 k z const goal (goal.length : Int) 0) W) (d : Nat) : ∀ i : Int, 0 ≤ i → (rows.length : Int) - i = d →
    Ev (fun k => timeboundref33_Value.l1 k z rows (rows.length : Int) i n rows goal const) (if (rows.drop i.toNat).any (rowBroken z) = true then (0, false) else W) := by
  induction d with
  | zero =>
    intro i h0 hd
    rw [List.drop_of_length_le (by omega), if_neg (by simp)]
    exact Ev.step (fun k => by simp only [timeboundref33_Value.l1]; rw [if_neg (by omega)]) hW
  | succ d ih =>
    intro i h0 hd
    have hlt : i.toNat < rows.length := by omega
    have hrd : rd_T96 rows i = rows[i.toNat] := by simp [rd_T96, List.getD_eq_getElem?_getD, hlt]
    obtain ⟨a, b, _⟩ := hr _ (List.getElem_mem hlt)
    have w1 : wrap64 (i + 1) = i + 1 := w64 (by omega)
    have := ih (i + 1) (by omega) (by omega)
    rw [show (i + 1).toNat = i.toNat + 1 by omega] at this
    have h2 := rval_l2 rows[i.toNat] a hz b i (W := _) (by rw [w1]; exact this) rows[i.toNat].f0.length 0 0 (by omega) (by omega)
    rw [List.drop_eq_getElem_cons hlt, List.any_cons]
    have e : (if (rowBroken z rows[i.toNat] || (rows.drop (i.toNat + 1)).any (rowBroken z)) = true then ((0, false) : Int × Bool) else W) = (if rows[i.toNat].f1 < accT z (rows[i.toNat].f0.drop (0 : Int).toNat) 0 then (0, false) else if (rows.drop (i.toNat + 1)).any (rowBroken z) = true then (0, false) else W) := by
      show _ = if rows[i.toNat].f1 < sumT rows[i.toNat].f0 z then _ else _
      unfold rowBroken
      by_cases c : rows[i.toNat].f1 < sumT rows[i.toNat].f0 z
      · simp [c]
      · simp [c]
    rw [e]
    refine Ev.step (fun k => ?_) h2
    simp only [timeboundref33_Value.l1]
    rw [if_pos (by omega), if_pos h0, if_pos (by omega), hrd]
theorem rval_l0 {W : Int × Bool} (hz : z.length ≤ 1000) (hW : Ev (fun k => timeboundref33_Value.l1 k z rows (rows.length : Int) 0 n rows goal const) W) (d : Nat) : ∀ i : Int, 0 ≤ i → (z.length : Int) - i = d →
    Ev (fun k => timeboundref33_Value.l0 k z z (z.length : Int) i n rows goal const) (if (z.drop i.toNat).any outOfRangeB = true then (0, false) else W) := by
  induction d with
  | zero =>
    intro i h0 hd
    rw [List.drop_of_length_le (by omega), if_neg (by simp)]
    exact Ev.step (fun k => by simp only [timeboundref33_Value.l0]; rw [if_neg (by omega)]) hW
  | succ d ih =>
    intro i h0 hd
    have hlt : i.toNat < z.length := by omega
    have hrd : rd z i = z[i.toNat] := by simp [rd, List.getD_eq_getElem?_getD, hlt]
    have w1 : wrap64 (i + 1) = i + 1 := w64 (by omega)
    have := ih (i + 1) (by omega) (by omega)
    rw [show (i + 1).toNat = i.toNat + 1 by omega] at this
    rw [List.drop_eq_getElem_cons hlt, List.any_cons]
    by_cases c1 : z[i.toNat] < 0
    · rw [show outOfRangeB z[i.toNat] = true by simp [outOfRangeB, c1], Bool.true_or, if_pos rfl]
      exact Ev.step (f := fun _ => some (0, false)) (fun k => by simp only [timeboundref33_Value.l0]; rw [if_pos (by omega), if_pos h0, if_pos (by omega), hrd, if_pos c1]) (Ev.now _)
    · by_cases c2 : z[i.toNat] > 1048576
      · rw [show outOfRangeB z[i.toNat] = true by simp [outOfRangeB]; omega, Bool.true_or, if_pos rfl]
        exact Ev.step (f := fun _ => some (0, false)) (fun k => by simp only [timeboundref33_Value.l0]; rw [if_pos (by omega), if_pos h0, if_pos (by omega), hrd, if_neg c1, if_pos c2]) (Ev.now _)
      · rw [show outOfRangeB z[i.toNat] = false by simp [outOfRangeB]; omega, Bool.false_or]
        exact Ev.step (fun k => by simp only [timeboundref33_Value.l0]; rw [if_pos (by omega), if_pos h0, if_pos (by omega), hrd, if_neg c1, if_neg c2, w1]) this
end
theorem rvalG_ev {n : Int} {rows : List S96} (hr : RV n rows) (hl : rows.length ≤ 400) {goal : List S109} (hg : TOk goal n 9) (hgl : goal.length ≤ 1000) {const : Int} (hc : -9 ≤ const ∧ const ≤ 9) (n1 : n ≤ 300) (z : List Int) :
    Ev (fun k => timeboundref33_Value.f k n rows goal const z) (valG n rows goal const z) := by
  unfold timeboundref33_Value.f valG
  by_cases c : (z.length : Int) = n
  · simp only [if_pos c]
    have h3 := rval_l3 hg c hgl goal.length const 0 (by omega) (by omega)
    have h1 := rval_l1 hr hl c h3 rows.length 0 (by omega) (by omega)
    have h0 := rval_l0 (by omega) h1 z.length 0 (by omega) (by omega)
    have e : accT z goal const = wrap64 (const + sumT goal z) := by
      have := accT_shift z goal const 0
      rw [show wrap64 (const + 0) = const by rw [w64 (by omega)]; omega] at this
      exact this
    simp only [Int.toNat_zero, List.drop_zero, e] at h0
    exact h0
  · simp only [if_neg c]; exact Ev.now _
theorem bRows_rv {most : List Int} (hb : ∀ x ∈ most, 0 ≤ x ∧ x ≤ 3) : RV most.length (bRows most) := by
  intro r hr
  obtain ⟨i, hi, rfl⟩ := List.mem_map.1 hr
  rw [List.mem_range] at hi
  have e : rd most (i : Int) = most[i] := by simp [rd, List.getD_eq_getElem?_getD, hi]
  have := hb _ (List.getElem_mem hi)
  refine ⟨⟨by simp [bRow], fun t ht => ?_⟩, by simp [bRow], by unfold bRow; simp only; omega⟩
  simp [bRow] at ht
  subst ht
  simp; omega
/-- What both searches answer. -/
def solveQ (n : Int) (rows : List S96) (goal : List S109) (const : Int) (most : List Int) : Int × List Int × Int :=
  if n ≤ 4 ∧ (most.length : Int) = n ∧ ∀ x ∈ most, 0 ≤ x ∧ x ≤ 3 then solveP rows goal const most else (0, [], 33)
theorem solveQ_ev {m n : Int} {rows : List S96} {goal : List S109} {const : Int} (h : MOk m n rows goal const) (hm : m ≤ 6) (most : List Int) : Ev (fun k => integer_Solve.f k n rows goal const most) (solveQ n rows goal const most) := by
  unfold solveQ
  by_cases c : n ≤ 4 ∧ (most.length : Int) = n ∧ ∀ x ∈ most, 0 ≤ x ∧ x ≤ 3
  · rw [if_pos c]
    exact solve_ev (m := 4) ⟨h.n0, c.1, h.rl, h.rk, h.gk, h.gl, h.ck⟩ (by omega) most c.2.1 c.2.2
  · rw [if_neg c]
    have := boxedP_ev h hm most
    unfold boxP at this
    rw [if_neg c] at this
    unfold integer_Solve.f
    refine Ev.bind this ?_
    simp only [show ¬ ((33 : Int) = 0) from by omega, if_false]
    exact Ev.now _
theorem rsolveQ_ev {m n : Int} {rows : List S96} {goal : List S109} {const : Int} (h : MOk m n rows goal const) (hm : m ≤ 6) (most : List Int) : Ev (fun k => timeboundref33_Solve.f k n rows goal const most) (solveQ n rows goal const most) := by
  have hB := rboxedP_ev h hm most
  unfold solveQ
  unfold boxP at hB
  by_cases c : n ≤ 4 ∧ (most.length : Int) = n ∧ ∀ x ∈ most, 0 ≤ x ∧ x ≤ 3
  · rw [if_pos c]
    rw [if_pos c] at hB
    have h' : MOk 4 n rows goal const := ⟨h.n0, c.1, h.rl, h.rk, h.gk, h.gl, h.ck⟩
    obtain ⟨_, hl, hb⟩ := c
    have hrv : RV n (rows ++ bRows most) := fun r hr => by
      rw [List.mem_append] at hr
      rcases hr with hr | hr
      · exact h.rv (by omega) r hr
      · have := bRows_rv hb r hr
        rw [hl] at this; exact this
    have h2 := h.rl
    have h3 := h.gl
    have h4 := h.ck
    have h5 := h.n1
    have h6 := h.n0
    have hlen : (rows ++ bRows most).length ≤ 400 := by rw [List.length_append, bRows_len]; omega
    have hv : ∀ y ∈ grid most, Ev (fun k => timeboundref33_Value.f k n (rows ++ bRows most) goal const y) (valP rows goal const y) := fun y hy => by
      have e := Ev.one (valG_ev hrv hlen h.gk (by omega) (by omega) h.n0 (by omega) y) (value_ev h' (by omega) most hl hb y hy)
      rw [← e]
      exact rvalG_ev hrv hlen h.gk (by omega) (by omega) (by omega) y
    obtain ⟨K1, f1⟩ := hB
    obtain ⟨K2, f2⟩ := ev_all (grid most) (fun k y => timeboundref33_Value.f k n (rows ++ bRows most) goal const y) (valP rows goal const) hv
    refine ⟨K1 + K2, fun k hk => ?_⟩
    have g1 := f1 k (by omega)
    have g2 := f2 k (by omega)
    dsimp only at g1 g2 ⊢
    have hok : solveROk k n (rows ++ bRows most) goal const most = true := by
      unfold solveROk
      simp only [Bool.and_eq_true, decide_eq_true_eq, List.all_eq_true]
      refine ⟨⟨fun y hy => by rw [g2 y hy]; rfl, by omega⟩, fun x hx => by have := hb x hx; omega⟩
    have hS : solveR k n (rows ++ bRows most) goal const most = (grid most).foldl (stepV (valP rows goal const)) (0, false, []) := by
      unfold solveR
      refine fold_congr _ _ _ (fun y hy => ?_) _
      rw [valR, g2 y hy]; rfl
    unfold timeboundref33_Solve.f
    rw [g1, Option.bind_some]
    simp only
    rw [if_pos trivial, if_pos ⟨hl.symm, hok⟩, hS]
    unfold solveP
    split <;> rfl
  · rw [if_neg c]
    rw [if_neg c] at hB
    unfold timeboundref33_Solve.f
    refine Ev.bind hB ?_
    simp only [show ¬ ((33 : Int) = 0) from by omega, if_false]
    exact Ev.now _
/-! #### the same is the same -/
theorem sameT_ev (l : List S109) (hl : l.length ≤ 100000) : Ev (fun k => timeboundref33_SameTerms.f k l l) true := by
  have : ∀ (d : Nat) (i : Int), 0 ≤ i → (l.length : Int) - i = d → Ev (fun k => timeboundref33_SameTerms.l0 k l l (l.length : Int) i) true := by
    intro d
    induction d with
    | zero => exact fun i h0 hd => Ev.step (f := fun _ => some true) (fun k => by simp only [timeboundref33_SameTerms.l0]; rw [if_neg (by omega)]) (Ev.now _)
    | succ d ih =>
      intro i h0 hd
      have w1 : wrap64 (i + 1) = i + 1 := w64 (by omega)
      exact Ev.step (fun k => by simp only [timeboundref33_SameTerms.l0]; rw [if_pos (by omega), if_pos h0, if_pos (by omega), if_pos (by omega), if_neg (by simp), w1]) (ih (i + 1) (by omega) (by omega))
  unfold timeboundref33_SameTerms.f
  simp only [if_true]
  exact this l.length 0 (by omega) (by omega)
theorem same_ev (n : Int) (rows : List S96) (goal : List S109) (const : Int) (hr : rows.length ≤ 100000) (hg : goal.length ≤ 100000) (hrl : ∀ r ∈ rows, r.f0.length ≤ 100000) : Ev (fun k => timeboundref33_Same.f k n rows goal const n rows goal const) true := by
  have : ∀ (d : Nat) (i : Int), 0 ≤ i → (rows.length : Int) - i = d → Ev (fun k => timeboundref33_Same.l0 k (rows.length : Int) i n rows goal const n rows goal const) true := by
    intro d
    induction d with
    | zero => exact fun i h0 hd => Ev.step (f := fun _ => some true) (fun k => by simp only [timeboundref33_Same.l0]; rw [if_neg (by omega)]) (Ev.now _)
    | succ d ih =>
      intro i h0 hd
      have w1 : wrap64 (i + 1) = i + 1 := w64 (by omega)
      have hlt : i.toNat < rows.length := by omega
      have hrd : rd_T96 rows i = rows[i.toNat] := by simp [rd_T96, List.getD_eq_getElem?_getD, hlt]
      refine Ev.step (fun k => by simp only [timeboundref33_Same.l0]; rw [if_pos (by omega), if_pos h0, if_pos (by omega), if_pos (by omega), if_pos trivial, hrd]) (Ev.bind (sameT_ev _ (hrl _ (List.getElem_mem hlt))) ?_)
      simp only [if_true, w1]
      exact ih (i + 1) (by omega) (by omega)
  unfold timeboundref33_Same.f
  simp only [if_true]
  refine Ev.bind (sameT_ev goal hg) ?_
  simp only [if_true, bne_self_eq_false]
  exact Ev.step (fun k => by simp only [timeboundref33_Same.j0]; rw [if_neg (by simp)]) (this rows.length 0 (by omega) (by omega))
theorem sameI_ev (l : List Int) (hl : l.length ≤ 100000) : Ev (fun k => timeboundref01_SameInts.f k l l) true := by
  have : ∀ (d : Nat) (i : Int), 0 ≤ i → (l.length : Int) - i = d → Ev (fun k => timeboundref01_SameInts.l0 k l l i) true := by
    intro d
    induction d with
    | zero => exact fun i h0 hd => Ev.step (f := fun _ => some true) (fun k => by simp only [timeboundref01_SameInts.l0]; rw [if_neg (by omega)]) (Ev.now _)
    | succ d ih =>
      intro i h0 hd
      have w1 : wrap64 (i + 1) = i + 1 := w64 (by omega)
      exact Ev.step (fun k => by simp only [timeboundref01_SameInts.l0]; rw [if_pos (by omega), if_pos h0, if_pos (by omega), if_pos trivial, w1]) (ih (i + 1) (by omega) (by omega))
  unfold timeboundref01_SameInts.f
  simp only [if_true]
  exact this l.length 0 (by omega) (by omega)
theorem solveQ_len (n : Int) (rows : List S96) (goal : List S109) (const : Int) (most : List Int) : (solveQ n rows goal const most).2.1.length ≤ 100000 := by
  unfold solveQ
  by_cases c : n ≤ 4 ∧ (most.length : Int) = n ∧ ∀ x ∈ most, 0 ≤ x ∧ x ≤ 3
  · rw [if_pos c]
    unfold solveP
    have f := found_fold (valP rows goal const) (grid most)
    by_cases s : ((grid most).foldl (stepV (valP rows goal const)) (0, false, [])).2.1 = true
    · rw [if_pos s]
      have := (grid_mem (f.at_ s).1).1
      simp only
      omega
    · rw [if_neg s]; simp
  · rw [if_neg c]; simp
/-! #### IntegerSolves -/
theorem same33 {m n : Int} {rows : List S96} {goal : List S109} {const : Int} (h : MOk m n rows goal const) (hm : m ≤ 6) (most : List Int) : ∃ K, ∀ k, K ≤ k → Same33 k n rows goal const most := by
  have h0 := h.n0
  have h1 := h.n1
  have h2 := h.rl
  have h3 := h.gl
  have hS : Ev (fun k => timeboundref33_Same.f k (boxP n rows goal const most).1 (boxP n rows goal const most).2.1 (boxP n rows goal const most).2.2.1 (boxP n rows goal const most).2.2.2.1 (boxP n rows goal const most).1 (boxP n rows goal const most).2.1 (boxP n rows goal const most).2.2.1 (boxP n rows goal const most).2.2.2.1) true := by
    unfold boxP
    by_cases c : n ≤ 4 ∧ (most.length : Int) = n ∧ ∀ x ∈ most, 0 ≤ x ∧ x ≤ 3
    · rw [if_pos c]
      refine same_ev _ _ _ _ (by simp only [List.length_append, bRows_len]; omega) (by simp only; omega) (fun r hr => ?_)
      rw [List.mem_append] at hr
      rcases hr with hr | hr
      · have := (h.rv (by omega) r hr).2.1; omega
      · have := (bRows_rv c.2.2 r hr).2.1; omega
    · rw [if_neg c]
      exact same_ev _ _ _ _ (by simp) (by simp) (by simp)
  obtain ⟨K1, f1⟩ := boxedP_ev h hm most
  obtain ⟨K2, f2⟩ := rboxedP_ev h hm most
  obtain ⟨K3, f3⟩ := solveQ_ev h hm most
  obtain ⟨K4, f4⟩ := rsolveQ_ev h hm most
  obtain ⟨K5, f5⟩ := hS
  obtain ⟨K6, f6⟩ := sameI_ev _ (solveQ_len n rows goal const most)
  exact ⟨K1 + K2 + K3 + K4 + K5 + K6, fun k hk => ⟨_, _, _, _, _, _, _, _, f1 k (by omega), f2 k (by omega), f3 k (by omega), f4 k (by omega), f5 k (by omega), f6 k (by omega)⟩⟩
theorem vals33 {m n : Int} {rows : List S96} {goal : List S109} {const : Int} (h : MOk m n rows goal const) (hm : m ≤ 6) (z : List Int) : ∃ K, ∀ k, K ≤ k → Vals33 k n rows goal const z := by
  have h0 := h.n0
  have h1 := h.n1
  have h2 := h.rl
  have h3 := h.gl
  have h4 := h.ck
  obtain ⟨K1, f1⟩ := valG_ev (const := const) (h.rv (by omega)) (by omega) h.gk (by omega) (by omega) h.n0 (by omega) z
  obtain ⟨K2, f2⟩ := rvalG_ev (const := const) (h.rv (by omega)) (by omega) h.gk (by omega) (by omega) (by omega) z
  exact ⟨K1 + K2, fun k hk => ⟨_, _, f1 k (by omega), f2 k (by omega)⟩⟩
theorem yok_any (s : List Int) (hs : s.length ≤ 1152921504606846976) (n : Nat) : ∀ (y : List Int) (q : Int), 0 ≤ q → q ≤ s.length → ∃ z, YOk s n y q z := by
  induction n with
  | zero => exact fun y q _ _ => ⟨y, rfl⟩
  | succ n ih =>
    intro y q h0 h1
    obtain ⟨a, q1, e1, a0, a1, u0, u1⟩ := next_range s q 5 hs h0 h1 (by omega) (by omega)
    obtain ⟨b, q2, e2, b0, b1, v0, v1⟩ := next_range s q1 8 hs u0 u1 (by omega) (by omega)
    obtain ⟨z, hz⟩ := ih (y ++ [a - b / 7]) q2 v0 v1
    exact ⟨z, a, q1, b, q2, e1, a0, a1, e2, b0, b1, hz⟩
theorem IntegerSolves_pure : timeboundlaw33_IntegerSolves.Pure := by
  refine ⟨Ev.rounds awake33, fun l0 l1 l2 hl0 hl2 hl1 => ?_⟩
  have hs : l1.length ≤ 1152921504606846976 := by omega
  obtain ⟨v1, q1, e1, v0, v6, q10, q11⟩ := next_range l1 0 6 hs (by omega) (by omega) (by omega) (by omega)
  obtain ⟨n, rows, goal, const, q2, hM, hO, q20, q21⟩ := model_any l1 hs (4 + v1 / 5) (by omega) (by omega) q1 q10 q11
  have h0 := hO.n0
  have h1 := hO.n1
  obtain ⟨box, q3, hB, hb, hbl, q30, q31⟩ := box_any l1 hs n h0 (by omega) rows goal const q2 q20 q21
  obtain ⟨y, hy⟩ := yok_any l1 hs n.toNat [] q3 q30 q31
  obtain ⟨K1, f1⟩ := hM
  obtain ⟨K2, f2⟩ := hB
  obtain ⟨K3, f3⟩ := same33 hO (by omega) box
  obtain ⟨K4, f4⟩ := same33 hO (by omega) l0
  obtain ⟨K5, f5⟩ := vals33 hO (by omega) l2
  obtain ⟨K6, f6⟩ := vals33 hO (by omega) y
  exact ⟨K1 + K2 + K3 + K4 + K5 + K6, v1, q1, n, rows, goal, const, q2, box, q3, y, e1, v0, v6, f1 _ (by omega), h0, by omega, f2 _ (by omega), f3 _ (by omega), f4 _ (by omega), hy, f5 _ (by omega), f6 _ (by omega)⟩
end Go.Proofs.Ytdgegoefehmfmaa.QIntegerSolves
namespace Go.Proofs.Ytdgegoefehmfmaa.Pure
theorem IntegerSolves : Go.Proofs.Ytdgegoefehmfmaa.QIntegerSolves.timeboundlaw33_IntegerSolves.Pure := Go.Proofs.Ytdgegoefehmfmaa.QIntegerSolves.IntegerSolves_pure
end Go.Proofs.Ytdgegoefehmfmaa.Pure
