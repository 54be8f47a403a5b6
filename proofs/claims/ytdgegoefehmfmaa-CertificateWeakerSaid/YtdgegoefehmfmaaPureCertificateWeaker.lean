/- The plain law of CertificateWeaker: the corner of a boxed model is accepted, with more, too, and with a further row; with less it is not. -/
import Derived.Test.YtdgegoefehmfmaaQCertWx3
import Derived.Test.YtdgegoefehmfmaaQCertWx4
import Derived.Test.YtdgegoefehmfmaaQCertWx5
import Derived.Test.YtdgegoefehmfmaaQCertWx6
import Derived.Test.YtdgegoefehmfmaaQCertWx8
import Derived.Test.YtdgegoefehmfmaaQCertWx9
import Derived.Test.YtdgegoefehmfmaaQCertWx10
import Derived.Test.YtdgegoefehmfmaaQCertWx11
namespace Go.Proofs.Ytdgegoefehmfmaa.QCertW
open Go.RowKit Go.Proofs.YtdgegoefehmfmaaW.PrintWords Go.Proofs.YtdgegoefehmfmaaW.PrintLast Go.Proofs.YtdgegoefehmfmaaW.PrintMore
set_option linter.unusedVariables false
set_option linter.unusedSimpArgs false
/-! #### the deck -/
theorem w64 {x : Int} (h : -9223372036854775808 ≤ x ∧ x ≤ 9223372036854775807) : wrap64 x = x := by unfold wrap64; omega
theorem mod_range (a n : Int) (h0 : 1 ≤ n) (h1 : n ≤ 1073741824) : ∃ v, timeboundmake_Mod.f a n = some v ∧ 0 ≤ v ∧ v < n := by
  unfold timeboundmake_Mod.f
  rw [if_neg (by omega)]
  refine ⟨_, rfl, ?_⟩
  have h2 : -n < Int.tmod a n ∧ Int.tmod a n < n := ⟨Int.lt_tmod_of_pos a (by omega), Int.tmod_lt_of_pos a (by omega)⟩
  rw [w64 (by omega), Int.tmod_eq_emod_of_nonneg (by omega)]
  exact ⟨Int.emod_nonneg _ (by omega), Int.emod_lt_of_pos _ (by omega)⟩
theorem next_range (s : List Int) (p n : Int) (hs : s.length ≤ 1152921504606846976) (hp : 0 ≤ p) (hq : p ≤ s.length) (h0 : 1 ≤ n) (h1 : n ≤ 1073741824) :
    ∃ v q, timeboundmake_Deck_Next.f s p n = some (v, q) ∧ 0 ≤ v ∧ v < n ∧ 0 ≤ q ∧ q ≤ s.length := by
  unfold timeboundmake_Deck_Next.f
  by_cases c : p ≥ (s.length : Int)
  · rw [if_pos c]; exact ⟨0, p, rfl, by omega, by omega, hp, hq⟩
  · rw [if_neg c]
    by_cases c1 : n ≤ 1
    · rw [if_pos c1]; exact ⟨0, p, rfl, by omega, by omega, hp, hq⟩
    · rw [if_neg c1]
      have e1 : wrap64 (p + 1) = p + 1 := w64 (by omega)
      have e2 : wrap64 (p + 1 - 1) = p := by rw [w64 (by omega)]; omega
      rw [e1, e2, if_pos hp, if_pos (by omega)]
      obtain ⟨v, hv, a, b⟩ := mod_range (rd s p) n h0 h1
      rw [hv]
      exact ⟨v, p + 1, rfl, a, b, by omega, by omega⟩
/-! #### small integer programs that are made -/
/-- Terms that ascend, within bounds. -/
def TOk (l : List S109) (cols most : Int) : Prop := (l.map (·.f0)).Pairwise (· < ·) ∧ ∀ t ∈ l, 0 ≤ t.f0 ∧ t.f0 < cols ∧ t.f1 ≠ 0 ∧ -most ≤ t.f1 ∧ t.f1 ≤ most
theorem TOk.nil (cols most : Int) : TOk [] cols most := ⟨List.Pairwise.nil, by simp⟩
theorem TOk.mono {l : List S109} {cols most m2 : Int} (h : TOk l cols most) (hm : most ≤ m2) : TOk l cols m2 := ⟨h.1, fun t ht => by have := h.2 t ht; omega⟩
theorem TOk.snoc {l : List S109} {cols most : Int} (h : TOk l cols most) (x : S109) (hx : 0 ≤ x.f0 ∧ x.f0 < cols ∧ x.f1 ≠ 0 ∧ -most ≤ x.f1 ∧ x.f1 ≤ most) (hl : ∀ t ∈ l, t.f0 < x.f0) : TOk (l ++ [x]) cols most := by
  refine ⟨?_, fun t ht => ?_⟩
  · rw [List.map_append, List.pairwise_append]
    refine ⟨h.1, by simp, fun a ha b hb => ?_⟩
    obtain ⟨t, ht, rfl⟩ := List.mem_map.1 ha
    simp at hb
    rw [hb]; exact hl t ht
  · rw [List.mem_append, List.mem_singleton] at ht
    rcases ht with ht | rfl
    · exact h.2 t ht
    · exact hx
theorem termsB_of {l : List S109} {cols most : Int} (h : TOk l cols most) : termsB l cols most = true := by
  apply termsB_yes
  intro j hj
  have e1 : l.getD j z109 = l[j] := by simp [List.getD_eq_getElem?_getD, hj]
  have hb := h.2 l[j] (List.getElem_mem hj)
  unfold termAt withinB
  rw [e1]
  have h0 : (decide (j = 0) || decide ((l.getD (j - 1) z109).f0 < l[j].f0)) = true := by
    by_cases c : j = 0
    · simp [c]
    · have hj1 : j - 1 < l.length := by omega
      have e2 : l.getD (j - 1) z109 = l[j - 1] := by simp [List.getD_eq_getElem?_getD, hj1]
      rw [e2]
      have := (List.pairwise_iff_getElem.1 h.1) (j - 1) j (by simpa using hj1) (by simpa using hj) (by omega)
      simp only [List.getElem_map] at this
      simp [this]
  rw [h0]
  simp only [Bool.and_eq_true, decide_eq_true_eq, Bool.not_eq_true', decide_eq_false_iff_not, Bool.and_true]
  exact ⟨⟨⟨hb.1, hb.2.1⟩, hb.2.2.1⟩, hb.2.2.2.1, hb.2.2.2.2⟩
theorem terms_l0 (s : List Int) (hs : s.length ≤ 1152921504606846976) (cols : Int) (hc : cols ≤ 400) (d : Nat) : ∀ (l : List S109) (c p : Int), TOk l cols 9 → (∀ t ∈ l, t.f0 < c) → (l.length : Int) ≤ c → 0 ≤ c → cols - c = d → 0 ≤ p → p ≤ s.length →
    ∃ r q, Ev (fun k => timeboundmake2_Terms.l0 k cols l c s p) (r, q) ∧ TOk r cols 9 ∧ (r.length : Int) ≤ cols ∧ 0 ≤ q ∧ q ≤ s.length := by
  induction d with
  | zero =>
    intro l c p hl hlc hlen h0 hd hp hq
    refine ⟨l, p, Ev.step (f := fun _ => some (l, p)) (fun k => ?_) (Ev.now _), hl, by omega, hp, hq⟩
    simp only [timeboundmake2_Terms.l0]
    rw [if_neg (by omega)]
  | succ d ih =>
    intro l c p hl hlc hlen h0 hd hp hq
    obtain ⟨n, p1, e1, n0, n1, p10, p11⟩ := next_range s p 19 hs hp hq (by omega) (by omega)
    obtain ⟨g, p2, e2, g0, g1, p20, p21⟩ := next_range s p1 3 hs p10 p11 (by omega) (by omega)
    have w1 : wrap64 (n - 9) = n - 9 := w64 (by omega)
    have w2 : wrap64 (c + 1) = c + 1 := w64 (by omega)
    by_cases hn : n - 9 = 0
    · obtain ⟨r, q, hE, h⟩ := ih l (c + 1) p1 hl (fun t ht => by have := hlc t ht; omega) (by omega) (by omega) (by omega) p10 p11
      refine ⟨r, q, Ev.step (fun k => ?_) hE, h⟩
      simp only [timeboundmake2_Terms.l0]
      rw [if_pos (by omega), e1, Option.bind_some, w1, if_pos hn, w2]
    · by_cases hg : g > 0
      · obtain ⟨r, q, hE, h⟩ := ih (l ++ [⟨c, n - 9⟩]) (c + 1) p2 (hl.snoc _ (by simp only; omega) (fun t ht => hlc t ht)) (fun t ht => by
          rw [List.mem_append, List.mem_singleton] at ht
          rcases ht with ht | rfl
          · have := hlc t ht; omega
          · simp only; omega) (by rw [List.length_append, List.length_singleton]; omega) (by omega) (by omega) p20 p21
        refine ⟨r, q, Ev.step (fun k => ?_) hE, h⟩
        simp only [timeboundmake2_Terms.l0]
        rw [if_pos (by omega), e1, Option.bind_some, w1, if_neg hn, e2, Option.bind_some, if_pos hg, if_pos (by omega), w2]
      · obtain ⟨r, q, hE, h⟩ := ih l (c + 1) p2 hl (fun t ht => by have := hlc t ht; omega) (by omega) (by omega) (by omega) p20 p21
        refine ⟨r, q, Ev.step (fun k => ?_) hE, h⟩
        simp only [timeboundmake2_Terms.l0]
        rw [if_pos (by omega), e1, Option.bind_some, w1, if_neg hn, e2, Option.bind_some, if_neg hg, w2]
theorem terms_any (s : List Int) (hs : s.length ≤ 1152921504606846976) (cols : Int) (h0 : 0 ≤ cols) (hc : cols ≤ 400) (p : Int) (hp : 0 ≤ p) (hq : p ≤ s.length) :
    ∃ r q, Ev (fun k => timeboundmake2_Terms.f k s p cols) (r, q) ∧ TOk r cols 9 ∧ (r.length : Int) ≤ cols ∧ 0 ≤ q ∧ q ≤ s.length := by
  obtain ⟨n, hn⟩ := Int.eq_ofNat_of_zero_le h0
  obtain ⟨r, q, hE, h⟩ := terms_l0 s hs cols hc n [] 0 p (TOk.nil _ _) (by simp) (by simp) (by omega) (by omega) hp hq
  exact ⟨r, q, hE, h⟩
/-- A row as it is made. -/
def ROk (n : Int) (r : S96) : Prop := TOk r.f0 n 9 ∧ (r.f0.length : Int) ≤ n ∧ -50 ≤ r.f1 ∧ r.f1 ≤ 50
theorem TOk.abs {l : List S109} {cols : Int} (h : TOk l cols 9) (i : Nat) (hi : i < l.length) : TOk (l.set i ⟨l[i].f0, mx l[i].f1 (-l[i].f1)⟩) cols 9 := by
  have hb := h.2 l[i] (List.getElem_mem hi)
  refine ⟨?_, fun t ht => ?_⟩
  · have e : (l.set i ⟨l[i].f0, mx l[i].f1 (-l[i].f1)⟩).map (·.f0) = l.map (·.f0) := by
      apply List.ext_getElem
      · simp
      · intro j h1 h2
        simp only [List.getElem_map, List.getElem_set]
        split
        · rename_i hij; subst hij; rfl
        · rfl
    rw [e]; exact h.1
  · rcases List.mem_or_eq_of_mem_set ht with ht | rfl
    · exact h.2 t ht
    · simp only; unfold mx; split <;> omega
theorem model_l1 (s : List Int) (n : Int) (hn : n ≤ 400) (rows : List S96) (hrows : rows.length ≤ 1000) (goal : List S109) (const p x6 m : Int) (hx6 : 0 < x6 ∧ x6 ≤ 1000) (hm : -50 ≤ m ∧ m ≤ 50) (d : Nat) : ∀ (lt : List S109) (j : Int), TOk lt n 9 → (lt.length : Int) ≤ n → 0 ≤ j → (lt.length : Int) - j = d →
    ∃ r, TOk r n 9 ∧ (r.length : Int) ≤ n ∧ ∀ R, Ev (fun k => timeboundmake2_Model.l0 k (x6 - 1) s p n (rows ++ [⟨r, mx m (-m)⟩]) goal const) R → Ev (fun k => timeboundmake2_Model.l1 k x6 (lt.length : Int) j s p n rows goal const lt m) R := by
  induction d with
  | zero =>
    intro lt j hl hlen h0 hd
    refine ⟨lt, hl, hlen, fun R hR => Ev.step (fun k => ?_) hR⟩
    have w1 : wrap64 (-m) = -m := w64 (by omega)
    have w2 : wrap64 (x6 - 1) = x6 - 1 := w64 (by omega)
    simp only [timeboundmake2_Model.l1]
    rw [if_neg (by omega), if_pos (by omega), w1, w2]
  | succ d ih =>
    intro lt j hl hlen h0 hd
    have hj : j.toNat < lt.length := by omega
    have hrd : rd_T109 lt j = lt[j.toNat] := by simp [rd_T109, List.getD_eq_getElem?_getD, hj]
    have hb := hl.2 lt[j.toNat] (List.getElem_mem hj)
    have w1 : wrap64 (-lt[j.toNat].f1) = -lt[j.toNat].f1 := w64 (by omega)
    have w2 : wrap64 (j + 1) = j + 1 := w64 (by omega)
    obtain ⟨r, h1, h2, h3⟩ := ih (lt.set j.toNat ⟨lt[j.toNat].f0, mx lt[j.toNat].f1 (-lt[j.toNat].f1)⟩) (j + 1) (hl.abs j.toNat hj) (by rw [List.length_set]; exact hlen) (by omega) (by rw [List.length_set]; omega)
    refine ⟨r, h1, h2, fun R hR => Ev.step (fun k => ?_) (h3 R hR)⟩
    simp only [timeboundmake2_Model.l1]
    rw [if_pos (by omega), if_pos h0, if_pos (by omega), hrd, w1, w2, List.length_set]
theorem model_l0 (s : List Int) (hs : s.length ≤ 1152921504606846976) (n : Int) (hn0 : 0 ≤ n) (hn : n ≤ 400) (goal : List S109) (const : Int) (d : Nat) : ∀ (rows : List S96) (p : Int), (∀ r ∈ rows, ROk n r) → rows.length + d ≤ 6 → 0 ≤ p → p ≤ s.length →
    ∃ out q, Ev (fun k => timeboundmake2_Model.l0 k (d : Int) s p n rows goal const) (n, out, goal, const, q) ∧ (∀ r ∈ out, ROk n r) ∧ out.length ≤ 6 ∧ 0 ≤ q ∧ q ≤ s.length := by
  induction d with
  | zero =>
    intro rows p hr hl hp hq
    refine ⟨rows, p, Ev.step (f := fun _ => some (n, rows, goal, const, p)) (fun k => ?_) (Ev.now _), hr, by omega, hp, hq⟩
    simp only [timeboundmake2_Model.l0]
    rw [if_neg (by omega)]
  | succ d ih =>
    intro rows p hr hl hp hq
    obtain ⟨t, p1, hT, hT1, hT2, p10, p11⟩ := terms_any s hs n hn0 hn p hp hq
    obtain ⟨m, p2, e2, m0, m1, p20, p21⟩ := next_range s p1 61 hs p10 p11 (by omega) (by omega)
    obtain ⟨g, p3, e3, g0, g1, p30, p31⟩ := next_range s p2 3 hs p20 p21 (by omega) (by omega)
    have w1 : wrap64 (m - 10) = m - 10 := w64 (by omega)
    have w2 : wrap64 (((d + 1 : Nat) : Int) - 1) = d := by rw [w64 (by omega)]; omega
    have add : ∀ (x : S96), ROk n x → ∀ r ∈ rows ++ [x], ROk n r := fun x hx r hmem => by
      rw [List.mem_append, List.mem_singleton] at hmem
      rcases hmem with hmem | rfl
      · exact hr r hmem
      · exact hx
    by_cases hg : g > 0
    · obtain ⟨lt, h1, h2, h3⟩ := model_l1 s n hn rows (by omega) goal const p3 ((d + 1 : Nat) : Int) (m - 10) (by omega) (by omega) t.length t 0 hT1 hT2 (by omega) (by omega)
      obtain ⟨out, q, hE, h⟩ := ih (rows ++ [⟨lt, mx (m - 10) (-(m - 10))⟩]) p3 (add _ ⟨h1, h2, by simp only; unfold mx; split <;> omega, by simp only; unfold mx; split <;> omega⟩) (by rw [List.length_append, List.length_singleton]; omega) p30 p31
      refine ⟨out, q, ?_, h⟩
      have hE' := h3 _ (by rw [show ((d + 1 : Nat) : Int) - 1 = d by omega]; exact hE)
      obtain ⟨K1, f1⟩ := hT
      obtain ⟨K2, f2⟩ := hE'
      refine ⟨K1 + K2 + 1, fun k hk => ?_⟩
      obtain ⟨k, rfl⟩ : ∃ m, k = m + 1 := ⟨k - 1, by omega⟩
      simp only [timeboundmake2_Model.l0]
      have g1 := f1 k (by omega)
      dsimp only at g1
      rw [if_pos (by omega), g1, Option.bind_some, e2, Option.bind_some, e3, Option.bind_some, if_pos hg, w1]
      exact f2 k (by omega)
    · obtain ⟨out, q, hE, h⟩ := ih (rows ++ [⟨t, m - 10⟩]) p3 (add _ ⟨hT1, hT2, by simp only; omega, by simp only; omega⟩) (by rw [List.length_append, List.length_singleton]; omega) p30 p31
      refine ⟨out, q, ?_, h⟩
      obtain ⟨K1, f1⟩ := hT
      obtain ⟨K2, f2⟩ := hE
      refine ⟨K1 + K2 + 1, fun k hk => ?_⟩
      obtain ⟨k, rfl⟩ : ∃ m, k = m + 1 := ⟨k - 1, by omega⟩
      simp only [timeboundmake2_Model.l0]
      have g1 := f1 k (by omega)
      dsimp only at g1
      rw [if_pos (by omega), g1, Option.bind_some, e2, Option.bind_some, e3, Option.bind_some, if_neg hg, if_pos (by omega), w1, w2]
      exact f2 k (by omega)
/-- A small integer program as it is made. -/
structure MOk (most n : Int) (rows : List S96) (goal : List S109) (const : Int) : Prop where
  n0 : 0 ≤ n
  n1 : n ≤ most
  rl : rows.length ≤ 6
  rk : ∀ r ∈ rows, ROk n r
  gk : TOk goal n 9
  gl : (goal.length : Int) ≤ n
  ck : -4 ≤ const ∧ const ≤ 4
theorem model_any (s : List Int) (hs : s.length ≤ 1152921504606846976) (most : Int) (hm0 : 0 ≤ most) (hm : most ≤ 300) (p : Int) (hp : 0 ≤ p) (hq : p ≤ s.length) :
    ∃ n rows goal const q, Ev (fun k => timeboundmake2_Model.f k s p most) (n, rows, goal, const, q) ∧ MOk most n rows goal const ∧ 0 ≤ q ∧ q ≤ s.length := by
  obtain ⟨n, p1, e1, n0, n1, p10, p11⟩ := next_range s p (most + 1) hs hp hq (by omega) (by omega)
  obtain ⟨c, p2, e2, c0, c1, p20, p21⟩ := next_range s p1 9 hs p10 p11 (by omega) (by omega)
  obtain ⟨goal, p3, hT, hT1, hT2, p30, p31⟩ := terms_any s hs n n0 (by omega) p2 p20 p21
  obtain ⟨g, p4, e4, g0, g1, p40, p41⟩ := next_range s p3 7 hs p30 p31 (by omega) (by omega)
  have w1 : wrap64 (most + 1) = most + 1 := w64 (by omega)
  have w2 : wrap64 (c - 4) = c - 4 := w64 (by omega)
  obtain ⟨d, rfl⟩ := Int.eq_ofNat_of_zero_le g0
  obtain ⟨out, q, hE, h1, h2, h3, h4⟩ := model_l0 s hs n n0 (by omega) goal (c - 4) d [] p4 (by simp) (by simp; omega) p40 p41
  refine ⟨n, out, goal, c - 4, q, ?_, ⟨n0, by omega, h2, h1, hT1, hT2, by omega⟩, h3, h4⟩
  obtain ⟨K1, f1⟩ := hT
  obtain ⟨K2, f2⟩ := hE
  refine ⟨K1 + K2, fun k hk => ?_⟩
  unfold timeboundmake2_Model.f
  dsimp only
  have g1 := f1 k (by omega)
  dsimp only at g1
  rw [w1, e1, Option.bind_some, e2, Option.bind_some, g1, Option.bind_some, e4, Option.bind_some, w2]
  exact f2 k (by omega)
theorem box_l0 (s : List Int) (hs : s.length ≤ 1152921504606846976) (n : Int) (hn : n ≤ 300) (d : Nat) : ∀ (l : List Int) (c p : Int), (∀ x ∈ l, 0 ≤ x ∧ x ≤ 3) → (l.length : Int) = c → 0 ≤ c → n - c = d → 0 ≤ p → p ≤ s.length →
    ∃ r q, Ev (fun k => timeboundmake2_Box.l0 k l n c s p) (r, q) ∧ (∀ x ∈ r, 0 ≤ x ∧ x ≤ 3) ∧ (r.length : Int) = n ∧ 0 ≤ q ∧ q ≤ s.length := by
  induction d with
  | zero =>
    intro l c p hl hlen h0 hd hp hq
    refine ⟨l, p, Ev.step (f := fun _ => some (l, p)) (fun k => ?_) (Ev.now _), hl, by omega, hp, hq⟩
    simp only [timeboundmake2_Box.l0]
    rw [if_neg (by omega)]
  | succ d ih =>
    intro l c p hl hlen h0 hd hp hq
    obtain ⟨v, p1, e1, v0, v1, p10, p11⟩ := next_range s p 4 hs hp hq (by omega) (by omega)
    obtain ⟨r, q, hE, h⟩ := ih (l ++ [v]) (c + 1) p1 (fun x hx => by
      rw [List.mem_append, List.mem_singleton] at hx
      rcases hx with hx | rfl
      · exact hl x hx
      · omega) (by rw [List.length_append, List.length_singleton]; omega) (by omega) (by omega) p10 p11
    refine ⟨r, q, Ev.step (fun k => ?_) hE, h⟩
    have w2 : wrap64 (c + 1) = c + 1 := w64 (by omega)
    simp only [timeboundmake2_Box.l0]
    rw [if_pos (by omega), e1, Option.bind_some, if_pos (by omega), w2]
theorem box_any (s : List Int) (hs : s.length ≤ 1152921504606846976) (n : Int) (hn0 : 0 ≤ n) (hn : n ≤ 300) (rows : List S96) (goal : List S109) (const p : Int) (hp : 0 ≤ p) (hq : p ≤ s.length) :
    ∃ r q, Ev (fun k => timeboundmake2_Box.f k s p n rows goal const) (r, q) ∧ (∀ x ∈ r, 0 ≤ x ∧ x ≤ 3) ∧ (r.length : Int) = n ∧ 0 ≤ q ∧ q ≤ s.length := by
  obtain ⟨d, hd⟩ := Int.eq_ofNat_of_zero_le hn0
  exact box_l0 s hs n hn d [] 0 p (by simp) rfl (by omega) (by omega) hp hq
/-! #### boxed models, true path -/
def bRow (most : List Int) (i : Nat) : S96 := ⟨[⟨(i : Int), 1⟩], rd most (i : Int)⟩
def bRows (most : List Int) : List S96 := (List.range most.length).map (bRow most)
theorem bRows_len (most : List Int) : (bRows most).length = most.length := by simp [bRows]
theorem bRows_take (most : List Int) (i : Nat) (h : i < most.length) : (bRows most).take (i + 1) = (bRows most).take i ++ [bRow most i] := by
  have h2 : i < (bRows most).length := by rw [bRows_len]; exact h
  rw [List.take_succ_eq_append_getElem h2]
  simp [bRows]
theorem limitedB_of {n : Int} {rows : List S96} {goal : List S109} {const cols rowsMost entry goalMost constant most : Int} (h0 : 0 ≤ n) (h1 : n ≤ cols) (h2 : (rows.length : Int) ≤ rowsMost) (h3 : TOk goal n goalMost) (h4 : -constant ≤ const ∧ const ≤ constant)
    (h5 : ∀ r ∈ rows, TOk r.f0 n entry ∧ -most ≤ r.f1 ∧ r.f1 ≤ most) : limitedB n rows goal const cols rowsMost entry goalMost constant most = true := by
  unfold limitedB
  have h6 : rows.any (rowBad n entry most) = false := by
    rw [List.any_eq_false]
    intro r hr
    have := h5 r hr
    unfold rowBad withinB
    rw [termsB_of this.1]
    simp [this.2.1, this.2.2]
  rw [termsB_of h3, h6]
  unfold withinB
  simp [h0, h1, h2, h4.1, h4.2]
theorem rterms_l0 {l : List S109} {n m : Int} (h : TOk l n m) (hl : l.length ≤ 1000000) (hm : 0 ≤ m ∧ m ≤ 1073741824) (d : Nat) : ∀ i : Int, 0 ≤ i → (l.length : Int) - i = d → Ev (fun k => timeboundref32_terms.l0 k l n m l (l.length : Int) i) true := by
  induction d with
  | zero => exact fun i h0 hd => Ev.step (f := fun _ => some true) (fun k => by simp only [timeboundref32_terms.l0]; rw [if_neg (by omega)]) (Ev.now _)
  | succ d ih =>
    intro i h0 hd
    have hlt : i.toNat < l.length := by omega
    have hr : rd_T109 l i = l[i.toNat] := by simp [rd_T109, List.getD_eq_getElem?_getD, hlt]
    have ht := h.2 _ (List.getElem_mem hlt)
    have w1 : wrap64 (i + 1) = i + 1 := w64 (by omega)
    have w2 : wrap64 (-m) = -m := w64 (by omega)
    refine Ev.step (fun k => ?_) (ih (i + 1) (by omega) (by omega))
    simp only [timeboundref32_terms.l0]
    rw [if_pos (by omega), if_pos h0, if_pos (by omega), hr, if_neg (by omega), if_neg (by omega), if_neg (by omega), w2, if_neg (by omega), if_neg (by omega), w1]
    by_cases z : i > 0
    · have w3 : wrap64 (i - 1) = i - 1 := w64 (by omega)
      have hlt2 : (i - 1).toNat < l.length := by omega
      have hr2 : rd_T109 l (i - 1) = l[(i - 1).toNat] := by unfold rd_T109; rw [List.getD_eq_getElem?_getD, List.getElem?_eq_getElem hlt2]; rfl
      have hp := List.pairwise_iff_getElem.1 h.1 (i - 1).toNat i.toNat (by simpa using hlt2) (by simpa using hlt) (by omega)
      simp only [List.getElem_map] at hp
      rw [if_pos z, w3, if_pos (by omega), if_pos (by omega), hr2, if_neg (by omega)]
    · rw [if_neg z]
theorem rterms_ev {l : List S109} {n m : Int} (h : TOk l n m) (hl : l.length ≤ 1000000) (hm : 0 ≤ m ∧ m ≤ 1073741824) : Ev (fun k => timeboundref32_terms.f k l n m) true := rterms_l0 h hl hm l.length 0 (by omega) (by omega)
/-- Rows that are as those of a valid model must be. -/
def RV (n : Int) (rows : List S96) : Prop := ∀ r ∈ rows, TOk r.f0 n 9 ∧ r.f0.length ≤ 1000 ∧ -50 ≤ r.f1 ∧ r.f1 ≤ 50
theorem MOk.rv {m n : Int} {rows : List S96} {goal : List S109} {const : Int} (h : MOk m n rows goal const) (hm : m ≤ 1000) : RV n rows := fun r hr => by
  have a := h.rk r hr
  have b := h.n1
  have c := a.2.1
  exact ⟨a.1, by omega, a.2.2⟩
theorem bRows_rv {most : List Int} (hb : ∀ x ∈ most, 0 ≤ x ∧ x ≤ 3) : RV most.length (bRows most) := by
  intro r hr
  obtain ⟨i, hi, rfl⟩ := List.mem_map.1 hr
  rw [List.mem_range] at hi
  have e : rd most (i : Int) = most[i] := by simp [rd, List.getD_eq_getElem?_getD, hi]
  have := hb _ (List.getElem_mem hi)
  refine ⟨⟨by simp [bRow], fun t ht => ?_⟩, by simp [bRow], by unfold bRow; simp only; omega⟩
  simp [bRow] at ht
  subst ht
  simp; omega
theorem RV.append {n : Int} {a b : List S96} (ha : RV n a) (hb : RV n b) : RV n (a ++ b) := fun r hr => by
  rw [List.mem_append] at hr
  rcases hr with hr | hr
  · exact ha r hr
  · exact hb r hr
theorem valid_of {n : Int} {rows : List S96} (hr : RV n rows) (hl : rows.length ≤ 400) {goal : List S109} (hg : TOk goal n 9) {const : Int} (hc : -9 ≤ const ∧ const ≤ 9) (n0 : 0 ≤ n) (n1 : n ≤ 300) : simplex_Valid.f n rows goal const = some true := by
  unfold simplex_Valid.f simplex_limited.f
  rw [if_pos (by omega), limitedB_of n0 (by omega) (by omega) (hg.mono (by omega)) (by omega) (fun r hm => ?_)]
  · rfl
  · have := hr r hm
    exact ⟨this.1.mono (by omega), by omega, by omega⟩
theorem rvalid_l0 {n : Int} {rows : List S96} (hr : RV n rows) (hl : rows.length ≤ 400) {goal : List S109} (hg : TOk goal n 9) (hgl : goal.length ≤ 1000) {const : Int} (hc : -9 ≤ const ∧ const ≤ 9) (n0 : 0 ≤ n) (n1 : n ≤ 300) (d : Nat) : ∀ i : Int, 0 ≤ i → (rows.length : Int) - i = d →
    Ev (fun k => timeboundref32_Valid.l0 k rows (rows.length : Int) i n rows goal const) true := by
  induction d with
  | zero =>
    intro i h0 hd
    refine Ev.step (fun k => by simp only [timeboundref32_Valid.l0]; rw [if_neg (by omega), if_pos (by omega), if_pos n1, if_pos (by omega)]) (Ev.bind (rterms_ev (hg.mono (m2 := 16777216) (by omega)) (by omega) (by omega)) ?_)
    simp only [if_true]
    rw [if_pos (by omega)]
    have e : decide (const ≤ 16777216) = true := decide_eq_true (by omega)
    rw [e]; exact Ev.now _
  | succ d ih =>
    intro i h0 hd
    have hlt : i.toNat < rows.length := by omega
    have hrd : rd_T96 rows i = rows[i.toNat] := by simp [rd_T96, List.getD_eq_getElem?_getD, hlt]
    obtain ⟨a, b, c1, c2⟩ := hr _ (List.getElem_mem hlt)
    have w1 : wrap64 (i + 1) = i + 1 := w64 (by omega)
    have hR : Ev (fun k => timeboundref32_Row.f k rows[i.toNat].f0 rows[i.toNat].f1 n) true := by
      unfold timeboundref32_Row.f
      refine Ev.bind (rterms_ev (a.mono (m2 := 1048576) (by omega)) (by omega) (by omega)) ?_
      simp only [if_true]
      rw [if_pos (by omega)]
      have e : decide (rows[i.toNat].f1 ≤ 1048576) = true := decide_eq_true (by omega)
      rw [e]; exact Ev.now _
    refine Ev.step (fun k => by simp only [timeboundref32_Valid.l0]; rw [if_pos (by omega), if_pos h0, if_pos (by omega), hrd]) (Ev.bind hR ?_)
    simp only [if_true, w1]
    exact ih (i + 1) (by omega) (by omega)
theorem rsmall_l0 {n : Int} {rows : List S96} (hr : RV n rows) (hl : rows.length ≤ 400) (goal : List S109) (const : Int) (d : Nat) : ∀ i : Int, 0 ≤ i → (rows.length : Int) - i = d →
    Ev (fun k => timeboundref32_Small.l0 k rows (rows.length : Int) i n rows goal const) true := by
  induction d with
  | zero => exact fun i h0 hd => Ev.step (f := fun _ => some true) (fun k => by simp only [timeboundref32_Small.l0]; rw [if_neg (by omega)]) (Ev.now _)
  | succ d ih =>
    intro i h0 hd
    have hlt : i.toNat < rows.length := by omega
    have hrd : rd_T96 rows i = rows[i.toNat] := by simp [rd_T96, List.getD_eq_getElem?_getD, hlt]
    obtain ⟨a, b, c1, c2⟩ := hr _ (List.getElem_mem hlt)
    have w1 : wrap64 (i + 1) = i + 1 := w64 (by omega)
    refine Ev.step (fun k => by simp only [timeboundref32_Small.l0]; rw [if_pos (by omega), if_pos h0, if_pos (by omega), hrd]) (Ev.bind (rterms_ev a (by omega) (by omega)) ?_)
    simp only [if_true, w1, if_neg (show ¬ rows[i.toNat].f1 < -50 from by omega), if_neg (show ¬ rows[i.toNat].f1 > 50 from by omega)]
    exact ih (i + 1) (by omega) (by omega)
theorem rsmall_ev {m n : Int} {rows : List S96} {goal : List S109} {const : Int} (h : MOk m n rows goal const) (hm : m ≤ 6) : Ev (fun k => timeboundref32_Small.f k n rows goal const) true := by
  have h0 := h.n0
  have h1 := h.n1
  have h2 := h.rl
  have h3 := h.gl
  have h4 := h.ck
  unfold timeboundref32_Small.f
  refine Ev.bind (rvalid_l0 (h.rv (by omega)) (by omega) h.gk (by omega) (by omega) h0 (by omega) rows.length 0 (by omega) (by omega)) ?_
  simp only [if_true, if_neg (show ¬ n > 6 from by omega), if_neg (show ¬ (rows.length : Int) > 6 from by omega)]
  refine Ev.bind (rterms_ev h.gk (by omega) (by omega)) ?_
  simp only [if_true, if_neg (show ¬ const < -9 from by omega), if_neg (show ¬ const > 9 from by omega)]
  exact rsmall_l0 (h.rv (by omega)) (by omega) goal const rows.length 0 (by omega) (by omega)
theorem rboxed_l1 (most : List Int) (hm : most.length ≤ 300) (hb : ∀ x ∈ most, 0 ≤ x ∧ x ≤ 3) (n : Int) (rows : List S96) (hr : rows.length ≤ 300) (goal : List S109) (const : Int) (d : Nat) : ∀ (i : Nat), i + d = most.length →
    Ev (fun k => timeboundref33_Boxed.l1 k most (most.length : Int) (i : Int) n (rows ++ (bRows most).take i) goal const) (n, rows ++ bRows most, goal, const, 0) := by
  induction d with
  | zero =>
    intro i hi
    refine Ev.step (f := fun _ => some (n, rows ++ bRows most, goal, const, 0)) (fun k => ?_) (Ev.now _)
    simp only [timeboundref33_Boxed.l1]
    rw [if_neg (by omega), List.take_of_length_le (by rw [bRows_len]; omega)]
  | succ d ih =>
    intro i hi
    have hlt : i < most.length := by omega
    have w1 : wrap64 ((i : Int) + 1) = ((i + 1 : Nat) : Int) := by rw [w64 (by omega)]; omega
    have e : rd most (i : Int) = most[i] := by simp [rd, List.getD_eq_getElem?_getD, hlt]
    have := hb _ (List.getElem_mem hlt)
    refine Ev.step (fun k => ?_) (ih (i + 1) (by omega))
    simp only [timeboundref33_Boxed.l1]
    rw [if_pos (by omega), if_pos (by omega), if_pos (by omega), if_neg (by omega), if_neg (by omega), if_pos (by rw [List.length_append, List.length_take]; omega), w1, bRows_take most i hlt, List.append_assoc]
    rfl
theorem rboxed_l0 (most : List Int) (hm : most.length ≤ 300) (hb : ∀ x ∈ most, 0 ≤ x ∧ x ≤ 3) (n : Int) (rows : List S96) (hr : rows.length ≤ 300) (hrl : ∀ r ∈ rows, r.f0.length ≤ 1000) (goal : List S109) (const : Int) (d : Nat) : ∀ (i : Nat), i + d = rows.length →
    Ev (fun k => timeboundref33_Boxed.l0 k most rows (rows.length : Int) (i : Int) n (rows.take i) goal const) (n, rows ++ bRows most, goal, const, 0) := by
  induction d with
  | zero =>
    intro i hi
    refine Ev.step (fun k => ?_) (rboxed_l1 most hm hb n rows hr goal const most.length 0 (by omega))
    simp only [timeboundref33_Boxed.l0]
    rw [if_neg (by omega), List.take_of_length_le (by omega), List.take_zero, List.append_nil]
    rfl
  | succ d ih =>
    intro i hi
    have hlt : i < rows.length := by omega
    have hrd : rd_T96 rows (i : Int) = rows[i] := by simp [rd_T96, List.getD_eq_getElem?_getD, hlt]
    have hrl2 := hrl _ (List.getElem_mem hlt)
    refine Ev.step (fun k => ?_) (ih (i + 1) (by omega))
    have w1 : wrap64 ((i : Int) + 1) = ((i + 1 : Nat) : Int) := by rw [w64 (by omega)]; omega
    simp only [timeboundref33_Boxed.l0]
    rw [if_pos (by omega), if_pos (by omega), if_pos (by omega), hrd, if_pos (by simp; omega), if_pos (by rw [List.length_take]; omega), w1, List.take_succ_eq_append_getElem hlt, List.nil_append]
theorem rboxed_ev {n : Int} {rows : List S96} {goal : List S109} {const : Int} (h : MOk 4 n rows goal const) (most : List Int) (hl : (most.length : Int) = n) (hb : ∀ x ∈ most, 0 ≤ x ∧ x ≤ 3) : Ev (fun k => timeboundref33_Boxed.f k n rows goal const most) (n, rows ++ bRows most, goal, const, 0) := by
  have h0 := h.n0
  have h1 := h.n1
  have h2 := h.rl
  have h3 := h.gl
  unfold timeboundref33_Boxed.f
  refine Ev.bind (rsmall_ev h (by omega)) ?_
  simp only [if_true, if_neg (show ¬ n > 4 from by omega), if_pos hl, if_pos (show ([] : List S109).length + goal.length < 8796093022208 from by simp; omega), List.nil_append]
  exact rboxed_l0 most (by omega) hb n rows (by omega) (fun r hr => (h.rv (by omega) r hr).2.1) goal const rows.length 0 (by omega)
/-! #### the corner -/
def posT (goal : List S109) : List S109 := goal.filter (fun t => decide (t.f1 > 0))
def shiftT (r0 : Int) (l : List S109) : List S109 := l.map (fun t => ⟨r0 + t.f0, t.f1⟩)
theorem posT_yes {t : S109} {l : List S109} (h : t.f1 > 0) : posT (t :: l) = t :: posT l := by simp [posT, h]
theorem posT_no {t : S109} {l : List S109} (h : ¬ t.f1 > 0) : posT (t :: l) = posT l := by simp [posT, h]
theorem corner_l0 (n r0 : Int) (rows : List S96) (hr : (rows.length : Int) - n = r0) (hr1 : 0 ≤ r0 ∧ r0 ≤ 1000) (goal : List S109) (hg : TOk goal n 9) (hgl : goal.length ≤ 1000) (hn : n ≤ 1000) (const : Int) (d : Nat) : ∀ (i : Int) (acc : List S109), 0 ≤ i → (goal.length : Int) - i = d → acc.length ≤ i →
    Ev (fun k => timeboundlaw34_corner.l0 k goal (goal.length : Int) i n rows goal const (-1) (-1) 0 acc 1) (-1, -1, [], 0, acc ++ shiftT r0 (posT (goal.drop i.toNat)), 1) := by
  induction d with
  | zero =>
    intro i acc h0 hd ha
    rw [List.drop_of_length_le (by omega)]
    refine Ev.step (f := fun _ => some (-1, -1, [], 0, acc, 1)) (fun k => by simp only [timeboundlaw34_corner.l0]; rw [if_neg (by omega)]) ?_
    rw [show shiftT r0 (posT []) = [] from rfl, List.append_nil]
    exact Ev.now _
  | succ d ih =>
    intro i acc h0 hd ha
    have hlt : i.toNat < goal.length := by omega
    have hrd : rd_T109 goal i = goal[i.toNat] := by simp [rd_T109, List.getD_eq_getElem?_getD, hlt]
    have hb := hg.2 _ (List.getElem_mem hlt)
    have w1 : wrap64 (i + 1) = i + 1 := w64 (by omega)
    have w2 : wrap64 ((rows.length : Int) - n) = r0 := by rw [w64 (by omega)]; exact hr
    have w3 : wrap64 (r0 + goal[i.toNat].f0) = r0 + goal[i.toNat].f0 := w64 (by omega)
    rw [List.drop_eq_getElem_cons hlt]
    by_cases c : goal[i.toNat].f1 > 0
    · have := ih (i + 1) (acc ++ [⟨r0 + goal[i.toNat].f0, goal[i.toNat].f1⟩]) (by omega) (by omega) (by simp; omega)
      rw [show (i + 1).toNat = i.toNat + 1 by omega] at this
      rw [show shiftT r0 (posT (goal[i.toNat] :: goal.drop (i.toNat + 1))) = ⟨r0 + goal[i.toNat].f0, goal[i.toNat].f1⟩ :: shiftT r0 (posT (goal.drop (i.toNat + 1))) by rw [posT_yes c]; rfl]
      rw [List.append_assoc] at this
      refine Ev.step (fun k => ?_) this
      simp only [timeboundlaw34_corner.l0]
      rw [if_pos (by omega), if_pos h0, if_pos (by omega), hrd, if_pos c, if_pos (by omega), w2, w3, w1]
    · have := ih (i + 1) acc (by omega) (by omega) (by omega)
      rw [show (i + 1).toNat = i.toNat + 1 by omega] at this
      rw [show posT (goal[i.toNat] :: goal.drop (i.toNat + 1)) = posT (goal.drop (i.toNat + 1)) from posT_no c]
      refine Ev.step (fun k => ?_) this
      simp only [timeboundlaw34_corner.l0]
      rw [if_pos (by omega), if_pos h0, if_pos (by omega), hrd, if_neg c, w1]
/-! #### sums of the corner's rows -/
/-- What is added to a column. -/
def qq : List S109 → Int → Int
  | [], _ => 0
  | t :: l, c => (if t.f0 = c then t.f1 else 0) + qq l c
/-- What its rows are at most, with their multipliers. -/
def rt (box : List Int) : List S109 → Int
  | [] => 0
  | t :: l => t.f1 * rd box t.f0 + rt box l
def addT (out : List Int) (t : S109) : List Int := out.set t.f0.toNat (wrap64 (rd out t.f0 + wrap64 (t.f1 * 1)))
def subT (den : Int) (out : List Int) (t : S109) : List Int := out.set t.f0.toNat (wrap64 (rd out t.f0 - wrap64 (den * t.f1)))
theorem rd_set (out : List Int) (i : Nat) (hi : i < out.length) (v : Int) (c : Nat) : rd (out.set i v) (c : Int) = if i = c then v else rd out (c : Int) := by
  simp only [rd, Int.toNat_natCast, List.getD_eq_getElem?_getD, List.getElem?_set]
  by_cases e : i = c
  · subst e; simp [hi]
  · simp [e]
theorem addT_all (n : Nat) (l : List S109) (hl : ∀ t ∈ l, 0 ≤ t.f0 ∧ t.f0 < n ∧ 1 ≤ t.f1 ∧ t.f1 ≤ 9) : ∀ (out : List Int) (B : Int), out.length = n → 0 ≤ B → B + 9 * l.length ≤ 100000 → (∀ c : Nat, c < n → 0 ≤ rd out c ∧ rd out c ≤ B) →
    (l.foldl addT out).length = n ∧ ∀ c : Nat, c < n → rd (l.foldl addT out) c = rd out c + qq l c := by
  induction l with
  | nil => exact fun out B h _ _ _ => ⟨h, fun c _ => by simp [qq]⟩
  | cons t l ih =>
    intro out B ho hB0 hB hr
    obtain ⟨t0, t1, t2, t3⟩ := hl t List.mem_cons_self
    rw [List.length_cons] at hB
    have hlt : t.f0.toNat < out.length := by omega
    have hc0 := hr t.f0.toNat (by omega)
    rw [Int.toNat_of_nonneg t0] at hc0
    have e : addT out t = out.set t.f0.toNat (rd out t.f0 + t.f1) := by
      unfold addT
      rw [w64 (x := t.f1 * 1) (by omega), w64 (by omega), Int.mul_one]
    obtain ⟨h1, h2⟩ := ih (fun x hx => hl x (List.mem_cons_of_mem _ hx)) (addT out t) (B + 9) (by rw [e, List.length_set]; exact ho) (by omega) (by omega) (fun c hc => by
      rw [e, rd_set out _ hlt]
      have := hr c hc
      split <;> omega)
    rw [List.foldl_cons]
    refine ⟨h1, fun c hc => ?_⟩
    rw [h2 c hc, e, rd_set out _ hlt, qq]
    by_cases z : t.f0.toNat = c
    · rw [if_pos z, if_pos (by omega), show (c : Int) = t.f0 by omega]; omega
    · rw [if_neg z, if_neg (by omega)]; omega
theorem subT_all (n : Nat) (l : List S109) (hl : ∀ t ∈ l, 0 ≤ t.f0 ∧ t.f0 < n ∧ -9 ≤ t.f1 ∧ t.f1 ≤ 9) : ∀ (out : List Int) (B : Int), out.length = n → 0 ≤ B → B + 9 * l.length ≤ 200000 → (∀ c : Nat, c < n → -B ≤ rd out c ∧ rd out c ≤ B) →
    (l.foldl (subT 1) out).length = n ∧ ∀ c : Nat, c < n → rd (l.foldl (subT 1) out) c = rd out c - qq l c := by
  induction l with
  | nil => exact fun out B h _ _ _ => ⟨h, fun c _ => by simp [qq]⟩
  | cons t l ih =>
    intro out B ho hB0 hB hr
    obtain ⟨t0, t1, t2, t3⟩ := hl t List.mem_cons_self
    rw [List.length_cons] at hB
    have hlt : t.f0.toNat < out.length := by omega
    have hc0 := hr t.f0.toNat (by omega)
    rw [Int.toNat_of_nonneg t0] at hc0
    have e : subT 1 out t = out.set t.f0.toNat (rd out t.f0 - t.f1) := by
      unfold subT
      rw [w64 (x := 1 * t.f1) (by omega), w64 (by omega), Int.one_mul]
    obtain ⟨h1, h2⟩ := ih (fun x hx => hl x (List.mem_cons_of_mem _ hx)) (subT 1 out t) (B + 9) (by rw [e, List.length_set]; exact ho) (by omega) (by omega) (fun c hc => by
      rw [e, rd_set out _ hlt]
      have := hr c hc
      split <;> omega)
    rw [List.foldl_cons]
    refine ⟨h1, fun c hc => ?_⟩
    rw [h2 c hc, e, rd_set out _ hlt, qq]
    by_cases z : t.f0.toNat = c
    · rw [if_pos z, if_pos (by omega), show (c : Int) = t.f0 by omega]; omega
    · rw [if_neg z, if_neg (by omega)]; omega
theorem qq_pos (l : List S109) (c : Int) : qq l c ≤ qq (posT l) c := by
  induction l with
  | nil => exact Int.le_refl _
  | cons t l ih =>
    by_cases h : t.f1 > 0
    · rw [show posT (t :: l) = t :: posT l by simp [posT, h], qq, qq]; omega
    · rw [show posT (t :: l) = posT l by simp [posT, h], qq]
      split <;> omega
theorem qq_nonneg (l : List S109) (c : Int) : 0 ≤ qq (posT l) c := by
  induction l with
  | nil => exact Int.le_refl _
  | cons t l ih =>
    by_cases h : t.f1 > 0
    · rw [show posT (t :: l) = t :: posT l by simp [posT, h], qq]
      split <;> omega
    · rw [show posT (t :: l) = posT l by simp [posT, h]]; exact ih
theorem qq_le (n : Nat) (l : List S109) (hl : ∀ t ∈ l, 0 ≤ t.f0 ∧ t.f0 < n ∧ 1 ≤ t.f1 ∧ t.f1 ≤ 9) (c : Int) : qq l c ≤ 9 * l.length := by
  induction l with
  | nil => simp [qq]
  | cons t l ih =>
    have := ih (fun x hx => hl x (List.mem_cons_of_mem _ hx))
    obtain ⟨_, _, _, _⟩ := hl t List.mem_cons_self
    rw [qq, List.length_cons]
    split <;> omega
/-- The coefficient that is found first. -/
def cf : List S109 → Int → Int
  | [], _ => 0
  | t :: l, c => if t.f0 = c then t.f1 else cf l c
theorem cf_le (l : List S109) (c : Int) : cf l c ≤ qq (posT l) c := by
  induction l with
  | nil => exact Int.le_refl _
  | cons t l ih =>
    have h0 := qq_nonneg l c
    by_cases h : t.f1 > 0
    · rw [show posT (t :: l) = t :: posT l by simp [posT, h], qq, cf]
      split <;> omega
    · rw [show posT (t :: l) = posT l by simp [posT, h], cf]
      split <;> omega
theorem cf_bd (n : Int) (l : List S109) (h : TOk l n 9) (c : Int) : -9 ≤ cf l c ∧ cf l c ≤ 9 := by
  have : ∀ l : List S109, (∀ t ∈ l, -9 ≤ t.f1 ∧ t.f1 ≤ 9) → -9 ≤ cf l c ∧ cf l c ≤ 9 := by
    intro l
    induction l with
    | nil => intro _; simp [cf]
    | cons t l ih =>
      intro hl
      rw [cf]
      split
      · exact hl t List.mem_cons_self
      · exact ih (fun x hx => hl x (List.mem_cons_of_mem _ hx))
  exact this l (fun t ht => by have := h.2 t ht; omega)
theorem coef_ev (l : List S109) (hl : l.length ≤ 100000) (c : Int) : Ev (fun k => timeboundref32_Coef.f k l c) (cf l c) := by
  have : ∀ (d : Nat) (i : Int), 0 ≤ i → (l.length : Int) - i = d → Ev (fun k => timeboundref32_Coef.l0 k c l (l.length : Int) i) (cf (l.drop i.toNat) c) := by
    intro d
    induction d with
    | zero =>
      intro i h0 hd
      rw [List.drop_of_length_le (by omega)]
      exact Ev.step (f := fun _ => some 0) (fun k => by simp only [timeboundref32_Coef.l0]; rw [if_neg (by omega)]) (Ev.now _)
    | succ d ih =>
      intro i h0 hd
      have hlt : i.toNat < l.length := by omega
      have hrd : rd_T109 l i = l[i.toNat] := by simp [rd_T109, List.getD_eq_getElem?_getD, hlt]
      have w1 : wrap64 (i + 1) = i + 1 := w64 (by omega)
      have := ih (i + 1) (by omega) (by omega)
      rw [show (i + 1).toNat = i.toNat + 1 by omega] at this
      rw [List.drop_eq_getElem_cons hlt, cf]
      by_cases z : l[i.toNat].f0 = c
      · rw [if_pos z]
        exact Ev.step (f := fun _ => some l[i.toNat].f1) (fun k => by simp only [timeboundref32_Coef.l0]; rw [if_pos (by omega), if_pos h0, if_pos (by omega), hrd, if_pos z]) (Ev.now _)
      · rw [if_neg z]
        exact Ev.step (fun k => by simp only [timeboundref32_Coef.l0]; rw [if_pos (by omega), if_pos h0, if_pos (by omega), hrd, if_neg z, w1]) this
  exact this l.length 0 (by omega) (by omega)
theorem rt_bd (box : List Int) (n : Nat) (hbl : box.length = n) (hb : ∀ x ∈ box, 0 ≤ x ∧ x ≤ 3) (l : List S109) (hl : ∀ t ∈ l, 0 ≤ t.f0 ∧ t.f0 < n ∧ 1 ≤ t.f1 ∧ t.f1 ≤ 9) : 0 ≤ rt box l ∧ rt box l ≤ 27 * l.length := by
  induction l with
  | nil => simp [rt]
  | cons t l ih =>
    obtain ⟨i0, i1⟩ := ih (fun x hx => hl x (List.mem_cons_of_mem _ hx))
    obtain ⟨t0, t1, t2, t3⟩ := hl t List.mem_cons_self
    have hlt : t.f0.toNat < box.length := by omega
    have e : rd box t.f0 = box[t.f0.toNat] := by simp [rd, List.getD_eq_getElem?_getD, hlt]
    have hx := hb _ (List.getElem_mem hlt)
    rw [← e] at hx
    have h1 : 0 ≤ t.f1 * rd box t.f0 := Int.mul_nonneg (by omega) hx.1
    have h2 : t.f1 * rd box t.f0 ≤ 9 * 3 := Int.mul_le_mul (by omega) hx.2 hx.1 (by omega)
    rw [rt, List.length_cons]
    omega
/-- The rows of the box lie behind the others. -/
def Behind (R : List S96) (r0 : Int) (box : List Int) : Prop := 0 ≤ r0 ∧ r0 + box.length ≤ R.length ∧ ∀ c : Int, 0 ≤ c → c < box.length → rd_T96 R (r0 + c) = ⟨[⟨c, 1⟩], rd box c⟩
theorem Behind.mk {a : List S96} {box : List Int} (b : List S96) : Behind (a ++ bRows box ++ b) a.length box := by
  refine ⟨by omega, by simp [bRows_len]; omega, fun c h0 h1 => ?_⟩
  have hlt : c.toNat < (bRows box).length := by rw [bRows_len]; omega
  unfold rd_T96
  rw [List.getD_eq_getElem?_getD, List.append_assoc, List.getElem?_append_right (by omega), show ((a.length : Int) + c).toNat - a.length = c.toNat by omega, List.getElem?_append_left hlt, List.getElem?_eq_getElem hlt]
  simp only [bRows, List.getElem_map, List.getElem_range, Option.getD_some, bRow, Int.toNat_of_nonneg h0]
section
variable {R : List S96} {r0 : Int} {box : List Int} {n : Nat} {goal : List S109} {const : Int}
theorem shift_rd {l : List S109} {i : Nat} (hi : i < l.length) : rd_T109 (shiftT r0 l) (i : Int) = ⟨r0 + l[i].f0, l[i].f1⟩ := by
  simp [rd_T109, shiftT, List.getD_eq_getElem?_getD, hi]
theorem prod_bd {f b : Int} (h1 : 1 ≤ f) (h2 : f ≤ 9) (h3 : 0 ≤ b) (h4 : b ≤ 3) : 0 ≤ f * b ∧ f * b ≤ 27 :=
  ⟨Int.mul_nonneg (by omega) h3, by have := Int.mul_le_mul h2 h4 h3 (by omega : (0 : Int) ≤ 9); omega⟩
theorem rlen (R : List S96) (h : (R.length : Int) ≤ 1000) : wrap64 ((R.length : Int) + (([] : List S96).length : Int)) = R.length := by
  rw [show (R.length : Int) + (([] : List S96).length : Int) = R.length from by simp]
  exact w64 (by omega)
theorem csums_row (out : List Int) (r : Int) (ts : List S109) (len i c b N x : Int) {W : List Int × Int × Bool} (h0 : 0 ≤ c) (h1 : c < out.length)
    (h : Ev (fun k => certificate_sums.l0 k [] (out.set c.toNat (wrap64 (rd out c + wrap64 (b * 1)))) r ts len (wrap64 (i + 1)) N R goal const) W) : Ev (fun k => certificate_sums.l1 k [] out r ts len i [⟨c, 1⟩] 1 0 N R goal const x b) W := by
  have g1 : ∀ q : S109, rd_T109 [q] 0 = q := fun _ => rfl
  have e1 : wrap64 ((0 : Int) + 1) = 1 := w64 (by omega)
  refine Ev.step (f := fun k => certificate_sums.l1 k [] (out.set c.toNat (wrap64 (rd out c + wrap64 (b * 1)))) r ts len i [⟨c, 1⟩] 1 1 N R goal const x b) (fun k => ?_) (Ev.step (f := fun k => certificate_sums.l0 k [] (out.set c.toNat (wrap64 (rd out c + wrap64 (b * 1)))) r ts len (wrap64 (i + 1)) N R goal const) (fun k => ?_) h)
  · rw [certificate_sums.l1, g1, e1]
    simp only [show (0 : Int) < 1 from by omega, if_true, show (0 : Int) ≤ 0 from by omega, show (0 : Int) < (([(⟨c, 1⟩ : S109)] : List S109).length : Int) from by simp, if_neg (show ¬ c < 0 by omega), if_neg (show ¬ c ≥ (out.length : Int) by omega), if_pos h0, if_pos h1]
  · rw [certificate_sums.l1, if_neg (show ¬ (1 : Int) < 1 by omega)]
theorem rsums_row (out : List Int) (r : Int) (ts l4 : List S109) (len i c b N x y : Int) {W : Int × Bool × Bool} (h0 : 0 ≤ c) (h1 : c < out.length)
    (h : Ev (fun k => timeboundref34_Leaf.l0 k [] (out.set c.toNat (wrap64 (rd out c + wrap64 (b * 1)))) (wrap64 (r + wrap64 (b * y))) ts len (wrap64 (i + 1)) N R goal const (-1) (-1) [] 0 l4 1) W) : Ev (fun k => timeboundref34_Leaf.l1 k [] out r ts len i [⟨c, 1⟩] 1 0 N R goal const (-1) (-1) [] 0 l4 1 x b [⟨c, 1⟩] y) W := by
  have g1 : ∀ q : S109, rd_T109 [q] 0 = q := fun _ => rfl
  have e1 : wrap64 ((0 : Int) + 1) = 1 := w64 (by omega)
  refine Ev.step (f := fun k => timeboundref34_Leaf.l1 k [] (out.set c.toNat (wrap64 (rd out c + wrap64 (b * 1)))) r ts len i [⟨c, 1⟩] 1 1 N R goal const (-1) (-1) [] 0 l4 1 x b [⟨c, 1⟩] y) (fun k => ?_) (Ev.step (f := fun k => timeboundref34_Leaf.l0 k [] (out.set c.toNat (wrap64 (rd out c + wrap64 (b * 1)))) (wrap64 (r + wrap64 (b * y))) ts len (wrap64 (i + 1)) N R goal const (-1) (-1) [] 0 l4 1) (fun k => ?_) h)
  · rw [timeboundref34_Leaf.l1, g1, e1]
    simp only [show (0 : Int) < 1 from by omega, if_true, show (0 : Int) ≤ 0 from by omega, show (0 : Int) < (([(⟨c, 1⟩ : S109)] : List S109).length : Int) from by simp, if_pos h0, if_pos h1]
  · rw [timeboundref34_Leaf.l1, if_neg (show ¬ (1 : Int) < 1 by omega)]
theorem csums_step (out : List Int) (r : Int) (ts : List S109) (len i c b N rc y : Int) {W : List Int × Int × Bool} (h0 : 0 ≤ c) (h1 : c < out.length) (i0 : 0 ≤ i) (i1 : i < len) (i2 : i < ts.length) (hrd : rd_T109 ts i = ⟨rc, b⟩) (r0 : 0 ≤ rc) (r1 : rc < R.length) (hrow : rd_T96 R rc = ⟨[⟨c, 1⟩], y⟩)
    (h : Ev (fun k => certificate_sums.l0 k [] (out.set c.toNat (wrap64 (rd out c + wrap64 (b * 1)))) (wrap64 (r + wrap64 (b * y))) ts len (wrap64 (i + 1)) N R goal const) W) : Ev (fun k => certificate_sums.l0 k [] out r ts len i N R goal const) W := by
  refine Ev.step (f := fun k => certificate_sums.j1 k [] out r ts len i true N R goal const rc b) (fun k => ?_) (Ev.step (f := fun k => certificate_sums.l1 k [] out (wrap64 (r + wrap64 (b * y))) ts len i [⟨c, 1⟩] 1 0 N R goal const rc b) (fun k => ?_) (csums_row out _ ts len i c b N rc h0 h1 h))
  · rw [certificate_sums.l0, hrd]
    simp only [if_pos i0, if_pos i1, if_pos i2, if_pos (show rc ≥ 0 from r0), decide_eq_true r1]
  · rw [certificate_sums.j1, hrow]
    simp only [if_true, if_pos r0, if_pos r1]
    rfl
theorem rsums_step (out : List Int) (r : Int) (ts l4 : List S109) (len i c b N rc y : Int) {W : Int × Bool × Bool} (h0 : 0 ≤ c) (h1 : c < out.length) (i0 : 0 ≤ i) (i1 : i < len) (i2 : i < ts.length) (hrd : rd_T109 ts i = ⟨rc, b⟩) (r0 : 0 ≤ rc) (r1 : rc < R.length) (hl : wrap64 ((R.length : Int) + (([] : List S96).length : Int)) = R.length) (hrow : rd_T96 R rc = ⟨[⟨c, 1⟩], y⟩)
    (h : Ev (fun k => timeboundref34_Leaf.l0 k [] (out.set c.toNat (wrap64 (rd out c + wrap64 (b * 1)))) (wrap64 (r + wrap64 (b * y))) ts len (wrap64 (i + 1)) N R goal const (-1) (-1) [] 0 l4 1) W) : Ev (fun k => timeboundref34_Leaf.l0 k [] out r ts len i N R goal const (-1) (-1) [] 0 l4 1) W := by
  refine Ev.step (f := fun k => timeboundref34_Leaf.j1 k [] out r ts len i false N R goal const (-1) (-1) [] 0 l4 1 rc b) (fun k => ?_) (Ev.step (f := fun k => timeboundref34_Leaf.l1 k [] out r ts len i [⟨c, 1⟩] 1 0 N R goal const (-1) (-1) [] 0 l4 1 rc b [⟨c, 1⟩] y) (fun k => ?_) (rsums_row out r ts l4 len i c b N rc y h0 h1 h))
  · rw [timeboundref34_Leaf.l0, hrd, hl]
    simp only [if_pos i0, if_pos i1, if_pos i2, if_neg (show ¬ rc < 0 by omega), decide_eq_false (show ¬ rc ≥ (R.length : Int) by omega)]
  · rw [timeboundref34_Leaf.j1, hrow]
    simp only [Bool.false_eq_true, if_false, if_pos r0, if_pos r1]
    rfl
theorem csums_l0 (hB : Behind R r0 box) (hbl : box.length = n) (hb : ∀ x ∈ box, 0 ≤ x ∧ x ≤ 3) (hn : n ≤ 300) (hR : R.length ≤ 1000) (l : List S109) (hll : l.length ≤ 1000) (hl : ∀ t ∈ l, 0 ≤ t.f0 ∧ t.f0 < n ∧ 1 ≤ t.f1 ∧ t.f1 ≤ 9) (N : Int) (d : Nat) : ∀ (i : Nat) (out : List Int) (r : Int), i + d = l.length → out.length = n → 0 ≤ r → r + 27 * d ≤ 1000000 →
    Ev (fun k => certificate_sums.l0 k [] out r (shiftT r0 l) (l.length : Int) (i : Int) N R goal const) ((l.drop i).foldl addT out, r + rt box (l.drop i), true) := by
  induction d with
  | zero =>
    intro i out r hi ho hr0 hr1
    rw [List.drop_of_length_le (by omega)]
    refine Ev.step (f := fun _ => some (out, r, true)) (fun k => by simp only [certificate_sums.l0]; rw [if_neg (by omega)]) ?_
    rw [show r + rt box [] = r from Int.add_zero r]
    exact Ev.now _
  | succ d ih =>
    intro i out r hi ho hr0 hr1
    have hlt : i < l.length := by omega
    obtain ⟨t0, t1, t2, t3⟩ := hl _ (List.getElem_mem hlt)
    have hrd := shift_rd (r0 := r0) hlt
    have hrow := hB.2.2 l[i].f0 t0 (by omega)
    have hlt2 : l[i].f0.toNat < box.length := by omega
    have e : rd box l[i].f0 = box[l[i].f0.toNat] := by simp [rd, List.getD_eq_getElem?_getD, hlt2]
    have hx := hb _ (List.getElem_mem hlt2)
    rw [← e] at hx
    have hp := prod_bd t2 t3 hx.1 hx.2
    have w1 : wrap64 ((i : Int) + 1) = ((i + 1 : Nat) : Int) := by rw [w64 (by omega)]; omega
    have w2 : wrap64 (l[i].f1 * rd box l[i].f0) = l[i].f1 * rd box l[i].f0 := w64 (by omega)
    have w3 : wrap64 (r + l[i].f1 * rd box l[i].f0) = r + l[i].f1 * rd box l[i].f0 := w64 (by omega)
    have h1 := hB.1
    have h2 := hB.2.1
    have IH := ih (i + 1) (addT out l[i]) (r + l[i].f1 * rd box l[i].f0) (by omega) (by unfold addT; rw [List.length_set]; exact ho) (by omega) (by omega)
    rw [List.drop_eq_getElem_cons hlt, List.foldl_cons, show r + rt box (l[i] :: l.drop (i + 1)) = r + l[i].f1 * rd box l[i].f0 + rt box (l.drop (i + 1)) by rw [rt]; omega]
    have s1 : l[i].f0 < (out.length : Int) := by rw [ho]; exact t1
    have s2 : (i : Int) < ((shiftT r0 l).length : Int) := by simp only [shiftT, List.length_map]; omega
    have s3 : r0 + l[i].f0 < (R.length : Int) := by omega
    refine csums_step out r _ _ i _ _ N _ _ t0 s1 (Int.natCast_nonneg i) (by omega) s2 hrd (by omega) s3 hrow ?_
    rw [w1, w2, w3]
    exact IH
theorem rsums_l0 (hB : Behind R r0 box) (hbl : box.length = n) (hb : ∀ x ∈ box, 0 ≤ x ∧ x ≤ 3) (hn : n ≤ 300) (hR : R.length ≤ 1000) (l : List S109) (hll : l.length ≤ 1000) (hl : ∀ t ∈ l, 0 ≤ t.f0 ∧ t.f0 < n ∧ 1 ≤ t.f1 ∧ t.f1 ≤ 9) (N : Int) (l4 : List S109) {W : Int × Bool × Bool} (d : Nat) : ∀ (i : Nat) (out : List Int) (r : Int), i + d = l.length → out.length = n → 0 ≤ r → r + 27 * d ≤ 1000000 →
    Ev (fun k => timeboundref34_Leaf.l2 k (r + rt box (l.drop i)) ((l.drop i).foldl addT out) (((l.drop i).foldl addT out).length : Int) 0 N R goal const (-1) (-1) [] 0 l4 1) W →
    Ev (fun k => timeboundref34_Leaf.l0 k [] out r (shiftT r0 l) (l.length : Int) (i : Int) N R goal const (-1) (-1) [] 0 l4 1) W := by
  induction d with
  | zero =>
    intro i out r hi ho hr0 hr1 hW
    rw [List.drop_of_length_le (by omega), show r + rt box [] = r from Int.add_zero r] at hW
    exact Ev.step (fun k => by simp only [timeboundref34_Leaf.l0]; rw [if_neg (by omega)]; rfl) hW
  | succ d ih =>
    intro i out r hi ho hr0 hr1 hW
    have hlt : i < l.length := by omega
    obtain ⟨t0, t1, t2, t3⟩ := hl _ (List.getElem_mem hlt)
    have hrd := shift_rd (r0 := r0) hlt
    have hrow := hB.2.2 l[i].f0 t0 (by omega)
    have hlt2 : l[i].f0.toNat < box.length := by omega
    have e : rd box l[i].f0 = box[l[i].f0.toNat] := by simp [rd, List.getD_eq_getElem?_getD, hlt2]
    have hx := hb _ (List.getElem_mem hlt2)
    rw [← e] at hx
    have hp := prod_bd t2 t3 hx.1 hx.2
    have w1 : wrap64 ((i : Int) + 1) = ((i + 1 : Nat) : Int) := by rw [w64 (by omega)]; omega
    have w2 : wrap64 (l[i].f1 * rd box l[i].f0) = l[i].f1 * rd box l[i].f0 := w64 (by omega)
    have w3 : wrap64 (r + l[i].f1 * rd box l[i].f0) = r + l[i].f1 * rd box l[i].f0 := w64 (by omega)
    have h1 := hB.1
    have h2 := hB.2.1
    rw [List.drop_eq_getElem_cons hlt, List.foldl_cons, show r + rt box (l[i] :: l.drop (i + 1)) = r + l[i].f1 * rd box l[i].f0 + rt box (l.drop (i + 1)) by rw [rt]; omega] at hW
    have IH := ih (i + 1) (addT out l[i]) (r + l[i].f1 * rd box l[i].f0) (by omega) (by unfold addT; rw [List.length_set]; exact ho) (by omega) (by omega) hW
    have s1 : l[i].f0 < (out.length : Int) := by rw [ho]; exact t1
    have s2 : (i : Int) < ((shiftT r0 l).length : Int) := by simp only [shiftT, List.length_map]; omega
    have s3 : r0 + l[i].f0 < (R.length : Int) := by omega
    have hR2 : (R.length : Int) ≤ 1000 := by omega
    refine rsums_step out r _ _ _ i _ _ N _ _ t0 s1 (Int.natCast_nonneg i) (by omega) s2 hrd (by omega) s3 (rlen R hR2) hrow ?_
    rw [w1, w2, w3]
    exact IH
theorem rleaf_l2 (N : Int) (l4 : List S109) (hg : TOk goal N 9) (hgl : goal.length ≤ 1000) (r : Int) (hr : 0 ≤ r ∧ r ≤ 1000000) (out : List Int) (ho : out.length ≤ 1000) (hc : ∀ c : Nat, c < out.length → cf goal c ≤ rd out c) (d : Nat) : ∀ i : Nat, i + d = out.length →
    Ev (fun k => timeboundref34_Leaf.l2 k r out (out.length : Int) (i : Int) N R goal const (-1) (-1) [] 0 l4 1) (wrap64 (const + r), true, false) := by
  induction d with
  | zero =>
    intro i hi
    refine Ev.step (f := fun _ => some (wrap64 (const + r), true, false)) (fun k => ?_) (Ev.now _)
    simp only [timeboundref34_Leaf.l2]
    rw [if_neg (by omega), if_neg (by omega), if_neg (by simp), show Int.tdiv r 1 = r from Int.tdiv_one r, w64 (x := r) (by omega)]
  | succ d ih =>
    intro i hi
    have hcf := cf_bd N goal hg (i : Int)
    have hh := hc i (by omega)
    have w1 : wrap64 ((i : Int) + 1) = ((i + 1 : Nat) : Int) := by rw [w64 (by omega)]; omega
    have w2 : wrap64 (1 * cf goal (i : Int)) = cf goal (i : Int) := by rw [Int.one_mul, w64 (by omega)]
    refine Ev.step (fun k => by simp only [timeboundref34_Leaf.l2]; rw [if_pos (by omega), if_pos (by omega), if_pos (by omega)]) (Ev.bind (coef_ev goal (by omega) i) ?_)
    rw [w2]
    simp only [if_neg (show ¬ rd out (i : Int) < cf goal (i : Int) by omega), w1]
    exact ih (i + 1) (by omega)
theorem cleaf_l0 (N : Int) (l4 : List S109) (hgl : goal.length ≤ 1000) (r : Int) (hr : 0 ≤ r ∧ r ≤ 1000000) (hg : ∀ t ∈ goal, 0 ≤ t.f0 ∧ t.f0 < n) (d : Nat) : ∀ (i : Nat) (out : List Int), i + d = goal.length → out.length = n → (∀ x ∈ (goal.drop i).foldl (subT 1) out, 0 ≤ x) →
    Ev (fun k => certificate_Leaf.l0 k out r goal (goal.length : Int) (i : Int) N R goal const (-1) (-1) [] 0 l4 1) (wrap64 (const + r), true, false) := by
  induction d with
  | zero =>
    intro i out hi ho hz
    rw [List.drop_of_length_le (by omega)] at hz
    have hb : below0.f out = some false := by
      unfold below0.f
      rw [show out.any below0B = false from ?_]
      rw [List.any_eq_false]
      intro x hx
      have := hz x hx
      unfold below0B
      simp; omega
    have hf : certificate_floor.f r 1 = some r := by
      unfold certificate_floor.f
      rw [if_neg (by omega), if_neg (by simp), show Int.tdiv r 1 = r from Int.tdiv_one r, w64 (x := r) (by omega)]
    refine Ev.step (f := fun _ => some (wrap64 (const + r), true, false)) (fun k => ?_) (Ev.now _)
    simp only [certificate_Leaf.l0]
    rw [if_neg (by omega), hb, Option.bind_some, if_neg (by simp), if_pos (by omega), hf, Option.bind_some]
  | succ d ih =>
    intro i out hi ho hz
    have hlt : i < goal.length := by omega
    have hrd : rd_T109 goal (i : Int) = goal[i] := by simp [rd_T109, List.getD_eq_getElem?_getD, hlt]
    obtain ⟨t0, t1⟩ := hg _ (List.getElem_mem hlt)
    have w1 : wrap64 ((i : Int) + 1) = ((i + 1 : Nat) : Int) := by rw [w64 (by omega)]; omega
    rw [List.drop_eq_getElem_cons hlt, List.foldl_cons] at hz
    refine Ev.step (fun k => ?_) (ih (i + 1) (subT 1 out goal[i]) (by omega) (by unfold subT; rw [List.length_set]; exact ho) hz)
    simp only [certificate_Leaf.l0]
    rw [if_pos (by omega), if_pos (by omega), if_pos (by omega), hrd, if_pos t0, if_pos (by omega), w1]
    rfl
theorem posT_in (hg : TOk goal n 9) : ∀ t ∈ posT goal, 0 ≤ t.f0 ∧ t.f0 < n ∧ 1 ≤ t.f1 ∧ t.f1 ≤ 9 := fun t ht => by
  unfold posT at ht
  rw [List.mem_filter, decide_eq_true_eq] at ht
  have := hg.2 t ht.1
  omega
theorem posT_len : (posT goal).length ≤ goal.length := List.length_filter_le _ _
theorem zeros_rd (c : Nat) : rd (List.replicate n (0 : Int)) (c : Int) = 0 := by
  simp only [rd, Int.toNat_natCast, List.getD_eq_getElem?_getD, List.getElem?_replicate]
  split <;> rfl
/-- What the corner tells. -/
theorem leaf_ev (hB : Behind R r0 box) (hbl : box.length = n) (hb : ∀ x ∈ box, 0 ≤ x ∧ x ≤ 3) (hn : n ≤ 300) (hR : R.length ≤ 1000) (hg : TOk goal n 9) (hgl : goal.length ≤ 300) :
    Ev (fun k => certificate_Leaf.f k n R goal const [] (-1) (-1) [] 0 (shiftT r0 (posT goal)) 1) (wrap64 (const + rt box (posT goal)), true, false) ∧
    Ev (fun k => timeboundref34_Leaf.f k n R goal const [] (-1) (-1) [] 0 (shiftT r0 (posT goal)) 1) (wrap64 (const + rt box (posT goal)), true, false) := by
  have hP := posT_in hg
  have hPl := posT_len (goal := goal)
  have hz : ∀ c : Nat, c < n → 0 ≤ rd (List.replicate n (0 : Int)) (c : Int) ∧ rd (List.replicate n (0 : Int)) (c : Int) ≤ 0 := fun c _ => by rw [zeros_rd]; omega
  obtain ⟨a1, a2⟩ := addT_all n (posT goal) hP (List.replicate n 0) 0 (by simp) (by omega) (by omega) hz
  have hq : ∀ c : Nat, c < n → rd ((posT goal).foldl addT (List.replicate n 0)) (c : Int) = qq (posT goal) c := fun c hc => by rw [a2 c hc, zeros_rd]; omega
  have hrt := rt_bd box n hbl hb (posT goal) hP
  have hsl : ((shiftT r0 (posT goal)).length : Int) = (posT goal).length := by simp [shiftT]
  constructor
  · have hs := csums_l0 (goal := goal) (const := const) hB hbl hb hn hR (posT goal) (by omega) hP n (posT goal).length 0 (List.replicate n 0) 0 (by omega) (by simp) (by omega) (by omega)
    rw [List.drop_zero, Int.zero_add] at hs
    unfold certificate_Leaf.f certificate_sums.f
    have hm : mx 0 (n : Int) = n := by unfold mx; split <;> omega
    simp only [hm, Int.toNat_natCast, if_pos (show (0 : Int) ≤ (n : Int) by omega), if_pos (show n ≤ 35184372088832 by omega), hsl]
    refine Ev.bind hs ?_
    have ht : simplex_Terms.f goal n 16777216 = some true := by
      unfold simplex_Terms.f
      rw [if_pos (by omega), termsB_of (hg.mono (by omega))]
    simp only [if_true, ht, Option.bind_some]
    refine Ev.step (fun k => by simp only [certificate_Leaf.j0]; rw [if_neg (by simp)]) ?_
    obtain ⟨b1, b2⟩ := subT_all n goal (fun t ht => by have := hg.2 t ht; omega) ((posT goal).foldl addT (List.replicate n 0)) (9 * 300) a1 (by omega) (by omega) (fun c hc => by
      rw [hq c hc]
      have := qq_nonneg goal c
      have := qq_le n (posT goal) hP c
      omega)
    refine cleaf_l0 (n := n) n _ (by omega) _ (by omega) (fun t ht => by have := hg.2 t ht; omega) goal.length 0 _ (by omega) a1 (fun x hx => ?_)
    rw [List.drop_zero] at hx
    obtain ⟨c, hc, rfl⟩ := List.mem_iff_getElem.1 hx
    have e : rd (goal.foldl (subT 1) ((posT goal).foldl addT (List.replicate n 0))) (c : Int) = (goal.foldl (subT 1) ((posT goal).foldl addT (List.replicate n 0)))[c] := by simp [rd, List.getD_eq_getElem?_getD, hc]
    rw [← e, b2 c (by omega), hq c (by omega)]
    have := qq_pos goal c
    omega
  · unfold timeboundref34_Leaf.f
    simp only [Int.toNat_natCast, if_pos (show (0 : Int) ≤ (n : Int) by omega), if_pos (show n ≤ 35184372088832 by omega), hsl]
    refine rsums_l0 hB hbl hb hn hR (posT goal) (by omega) hP n _ (posT goal).length 0 (List.replicate n 0) 0 (by omega) (by simp) (by omega) (by omega) ?_
    rw [List.drop_zero, Int.zero_add]
    exact rleaf_l2 n _ hg (by omega) _ (by omega) _ (by omega) (fun c hc => by rw [hq c (by omega)]; exact cf_le goal c) ((posT goal).foldl addT (List.replicate n 0)).length 0 (by omega)
end
theorem rowsP_of {goal : List S109} {n r0 : Int} (hg : TOk goal n 9) (hr : 0 ≤ r0) : rowsP (shiftT r0 (posT goal)) := by
  intro k hk
  have hl : k < (posT goal).length := by simpa [shiftT] using hk
  have e : ∀ (j : Nat) (hj : j < (posT goal).length), (shiftT r0 (posT goal)).getD j z109 = ⟨r0 + (posT goal)[j].f0, (posT goal)[j].f1⟩ := fun j hj => by simp [shiftT, List.getD_eq_getElem?_getD, hj]
  have hin : ∀ t ∈ posT goal, 0 ≤ t.f0 ∧ 1 ≤ t.f1 ∧ t.f1 ≤ 9 := fun t ht => by
    unfold posT at ht
    rw [List.mem_filter, decide_eq_true_eq] at ht
    have := hg.2 t ht.1
    omega
  have hpw : ((posT goal).map (·.f0)).Pairwise (· < ·) := List.Pairwise.sublist (List.Sublist.map _ List.filter_sublist) hg.1
  unfold rowAt
  rw [e k hl]
  have hb := hin _ (List.getElem_mem hl)
  refine ⟨by simp only; omega, ?_, by simp only; omega, by simp only; omega⟩
  by_cases z : k = 0
  · exact .inl z
  · right
    rw [e (k - 1) (by omega)]
    have := (List.pairwise_iff_getElem.1 hpw) (k - 1) k (by simp; omega) (by simpa using hl) (by omega)
    simp only [List.getElem_map] at this
    simp only
    omega
theorem check_ev {R : List S96} {n : Nat} {goal ts : List S109} {const v most : Int} (h1 : R.length ≤ 400) (h2 : rowsP ts) (h3 : simplex_Valid.f n R goal const = some true) (hL : Ev (fun k => certificate_Leaf.f k n R goal const [] (-1) (-1) [] 0 ts 1) (v, true, false)) :
    Ev (fun k => certificate_Check.f k n R goal const [⟨-1, -1, [], 0, ts, 1⟩] most) (if most < v then 37 else 0) := by
  have ho : oneLeaf n R goal const [⟨-1, -1, [], 0, ts, 1⟩] := ⟨rfl, h1, rfl, rfl, rfl, rfl, (by show (0 : Int) ≤ 1; omega), (by show (1 : Int) ≤ 1024; omega), h2, h3⟩
  unfold certificate_Check.f
  simp only [if_pos ho]
  refine Ev.bind hL ?_
  simp only [if_true, Bool.false_eq_true, if_false]
  exact Ev.now _
theorem awake34 : ∃ k, timeboundlaw34_awake.f k = some true := ⟨40, by decide +kernel⟩
theorem CertificateWeaker_pure : timeboundlaw34_CertificateWeaker.Pure := by
  intro l0 _ hl _
  refine Ev.rounds ?_
  have hs : l0.length ≤ 1152921504606846976 := by omega
  obtain ⟨n, rows, goal, const, q, hM, hO, q0, q1⟩ := model_any l0 hs 4 (by omega) (by omega) 0 (by omega) (by omega)
  have h0 := hO.n0
  have h1 := hO.n1
  have h2 := hO.rl
  have h3 := hO.gl
  have h4 := hO.ck
  obtain ⟨box, q2, hBx, hb, hbl, q20, q21⟩ := box_any l0 hs n h0 (by omega) rows goal const q q0 q1
  obtain ⟨m, rfl⟩ := Int.eq_ofNat_of_zero_le h0
  have hbm : box.length = m := by omega
  have hbr := bRows_rv hb
  rw [hbm] at hbr
  have hR1 : RV m (rows ++ bRows box) := RV.append (hO.rv (by omega)) hbr
  have hlen : (rows ++ bRows box).length ≤ 100 := by rw [List.length_append, bRows_len]; omega
  have hboxed : Ev (fun k => timeboundlaw34_boxed.f k l0 0) (m, rows ++ bRows box, goal, const, box, q2) := by
    unfold timeboundlaw34_boxed.f
    refine Ev.bind hM ?_
    refine Ev.bind hBx ?_
    refine Ev.bind (rboxed_ev hO box hbl hb) ?_
    exact Ev.now _
  have hcorner : Ev (fun k => timeboundlaw34_corner.f k m (rows ++ bRows box) goal const) (-1, -1, [], 0, shiftT rows.length (posT goal), 1) := by
    have := corner_l0 m rows.length (rows ++ bRows box) (by rw [List.length_append, bRows_len]; omega) (by omega) goal hO.gk (by omega) (by omega) const goal.length 0 [] (by omega) (by omega) (by simp)
    rw [show (0 : Int).toNat = 0 from rfl, List.drop_zero, List.nil_append] at this
    exact this
  have hBe : Behind (rows ++ bRows box) rows.length box := by
    have := Behind.mk (a := rows) (box := box) []
    rw [List.append_nil] at this
    exact this
  obtain ⟨hl1, hl2⟩ := leaf_ev (const := const) hBe hbm hb (by omega) (by omega) hO.gk (by omega)
  have hrt := rt_bd box m hbm hb (posT goal) (posT_in hO.gk)
  have hpl := posT_len (goal := goal)
  obtain ⟨a, q3, e3, a0, a1, q30, q31⟩ := next_range l0 q2 9 hs q20 q21 (by omega) (by omega)
  obtain ⟨form, q4, hT, hT1, hT2, q40, q41⟩ := terms_any l0 hs m (by omega) (by omega) q3 q30 q31
  obtain ⟨b, q5, e5, b0, b1, q50, q51⟩ := next_range l0 q4 30 hs q40 q41 (by omega) (by omega)
  have hR2 : RV m (rows ++ bRows box ++ [⟨form, b⟩]) := RV.append hR1 (fun r hr => by
    rw [List.mem_singleton] at hr
    subst hr
    exact ⟨hT1, by simp only; omega, by simp only; omega, by simp only; omega⟩)
  have hlen2 : (rows ++ bRows box ++ [(⟨form, b⟩ : S96)]).length ≤ 101 := by rw [List.length_append, List.length_cons, List.length_nil]; omega
  have hlen3 : ([] : List S96).length + (rows ++ bRows box).length < 4398046511104 := by rw [List.length_nil, Nat.zero_add]; omega
  obtain ⟨hl3, _⟩ := leaf_ev (const := const) (Behind.mk (a := rows) (box := box) [⟨form, b⟩]) hbm hb (by omega) (by omega) hO.gk (by omega)
  have hv1 := valid_of hR1 (by omega) hO.gk (const := const) (by omega) h0 (by omega)
  have hv2 := valid_of hR2 (by omega) hO.gk (const := const) (by omega) h0 (by omega)
  have hrp := rowsP_of (r0 := (rows.length : Int)) hO.gk (by omega)
  generalize hv : wrap64 (const + rt box (posT goal)) = v at *
  have hvb : -4 ≤ v ∧ v ≤ 100000 := by rw [← hv, w64 (by omega)]; omega
  have w1 : wrap64 (v + a) = v + a := w64 (by omega)
  have w2 : wrap64 (v - 1) = v - 1 := w64 (by omega)
  have c1 : Ev (fun k => certificate_Check.f k m (rows ++ bRows box) goal const [⟨-1, -1, [], 0, shiftT rows.length (posT goal), 1⟩] v) 0 := by
    have := check_ev (most := v) (by omega) hrp hv1 hl1
    rwa [if_neg (by omega)] at this
  have c2 : Ev (fun k => certificate_Check.f k m (rows ++ bRows box) goal const [⟨-1, -1, [], 0, shiftT rows.length (posT goal), 1⟩] (wrap64 (v + a))) 0 := by
    have := check_ev (most := wrap64 (v + a)) (by omega) hrp hv1 hl1
    rwa [if_neg (by omega)] at this
  have c3 : Ev (fun k => certificate_Check.f k m (rows ++ bRows box ++ [⟨form, b⟩]) goal const [⟨-1, -1, [], 0, shiftT rows.length (posT goal), 1⟩] v) 0 := by
    have := check_ev (most := v) (by omega) hrp hv2 hl3
    rwa [if_neg (by omega)] at this
  have c4 : Ev (fun k => certificate_Check.f k m (rows ++ bRows box) goal const [⟨-1, -1, [], 0, shiftT rows.length (posT goal), 1⟩] (wrap64 (v - 1))) 37 := by
    have := check_ev (most := wrap64 (v - 1)) (by omega) hrp hv1 hl1
    rwa [if_pos (by omega)] at this
  have haw : Ev (fun k => timeboundlaw34_awake.f k) true := by
    obtain ⟨k, hk⟩ := awake34
    exact Ev.of (fun k => timeboundlaw34_awake.mono k) hk
  unfold timeboundlaw34_CertificateWeaker.f timeboundmake_New.f
  simp only [Option.bind_some]
  refine Ev.bind hboxed ?_
  refine Ev.bind hcorner ?_
  refine Ev.bind hl2 ?_
  simp only [e3, Option.bind_some, List.nil_append, if_pos hlen3]
  refine Ev.bind hT ?_
  simp only [e5, Option.bind_some, if_pos (show (rows ++ bRows box).length < 4398046511104 by omega), if_true]
  refine Ev.bind c1 ?_
  simp only [if_true]
  refine Ev.bind c2 ?_
  simp only [if_true]
  refine Ev.bind c3 ?_
  simp only [if_true]
  refine Ev.bind c4 ?_
  simp only [if_true]
  exact Ev.bind haw (Ev.now _)
end Go.Proofs.Ytdgegoefehmfmaa.QCertW
namespace Go.Proofs.Ytdgegoefehmfmaa.Pure
theorem CertificateWeaker : Go.Proofs.Ytdgegoefehmfmaa.QCertW.timeboundlaw34_CertificateWeaker.Pure := Go.Proofs.Ytdgegoefehmfmaa.QCertW.CertificateWeaker_pure
end Go.Proofs.Ytdgegoefehmfmaa.Pure
