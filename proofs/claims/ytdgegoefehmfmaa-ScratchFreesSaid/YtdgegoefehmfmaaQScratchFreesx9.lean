-- Written for this claim by this session's own program (wip/pp).
import Derived.Test.YtdgegoefehmfmaaQScratchFreesx0
import Derived.Test.YtdgegoefehmfmaaQScratchFreesx1
import Derived.Test.YtdgegoefehmfmaaQScratchFreesx3
import Derived.Test.YtdgegoefehmfmaaQScratchFreesx4
import Derived.Test.YtdgegoefehmfmaaQScratchFreesx5
import Derived.Test.YtdgegoefehmfmaaQScratchFreesx7
import Derived.Test.YtdgegoefehmfmaaQScratchFreesx8
namespace Go.Proofs.Ytdgegoefehmfmaa.QScratchFrees
open Go.RowKit Go.Proofs.YtdgegoefehmfmaaW.PrintWords Go.Proofs.YtdgegoefehmfmaaW.PrintLast Go.Proofs.YtdgegoefehmfmaaW.PrintMore
attribute [local go_sem] max2_int min2_int max_two min_two max_three min_three max_four min_four   -- for this text's walks alone
set_option linter.unusedVariables false
set_option linter.unusedSimpArgs false

/-! ### timeboundlaw36_ScratchFrees: function 8 -/
mutual
def timeboundlaw36_ScratchFrees.l0 : Nat → List (S76) → List Int → Int → Int → List Int → Int → Int → Int → Int → Int → Int → Int → Int → Int → Int → Int → Int → Int → Int → Int → Int → List (S74) → List (S74) → Option (Bool)
  | 0, _, _, _, _, _, _, _, _, _, _, _, _, _, _, _, _, _, _, _, _, _, _, _ => none
  | k + 1, x4, x6, x23, x24, x209000, x209001, x236000, x236001, x236002, x236003, x236004, x236005, x236006, x236007, x236008, x236009, x236010, x236011, x236012, x236013, x236014, x236015, x236016 => if x24 < x23 then ((timeboundmake_Deck_Next.f x209000 x209001 2).bind fun bt236 => (if bt236.1 = 0 then (if x6.length < 17592186044416 then (timeboundlaw36_ScratchFrees.l0 k x4 (x6 ++ [x24]) x23 (wrap64 (x24 + 1)) x209000 bt236.2 x236000 x236001 x236002 x236003 x236004 x236005 x236006 x236007 x236008 x236009 x236010 x236011 x236012 x236013 x236014 x236015 x236016) else (none)) else (timeboundlaw36_ScratchFrees.l0 k x4 x6 x23 (wrap64 (x24 + 1)) x209000 bt236.2 x236000 x236001 x236002 x236003 x236004 x236005 x236006 x236007 x236008 x236009 x236010 x236011 x236012 x236013 x236014 x236015 x236016))) else ((scratch_Place.f k x236000 x236001 x236002 x236003 x236004 x236005 x236006 x236007 x236008 x236009 x236010 x236011 x236012 x236013 x236014 x236015 x236016 x4 x6).bind fun bt241 => (timeboundlaw36_ScratchFrees.j1 k x4 x6 bt241.2.2.2.2.2.2.2.2.2.2.2.2.2.2.2.2.2 (bt241.2.2.2.2.2.2.2.2.2.2.2.2.2.2.2.2.2 != 0) x236000 x236001 x236002 x236003 x236004 x236005 x236006 x236007 x236008 x236009 x236010 x236011 x236012 x236013 x236014 x236015 x236016 bt241.1 bt241.2.1 bt241.2.2.1 bt241.2.2.2.1 bt241.2.2.2.2.1 bt241.2.2.2.2.2.1 bt241.2.2.2.2.2.2.1 bt241.2.2.2.2.2.2.2.1 bt241.2.2.2.2.2.2.2.2.1 bt241.2.2.2.2.2.2.2.2.2.1 bt241.2.2.2.2.2.2.2.2.2.2.1 bt241.2.2.2.2.2.2.2.2.2.2.2.1 bt241.2.2.2.2.2.2.2.2.2.2.2.2.1 bt241.2.2.2.2.2.2.2.2.2.2.2.2.2.1 bt241.2.2.2.2.2.2.2.2.2.2.2.2.2.2.1 bt241.2.2.2.2.2.2.2.2.2.2.2.2.2.2.2.1 bt241.2.2.2.2.2.2.2.2.2.2.2.2.2.2.2.2.1))
def timeboundlaw36_ScratchFrees.j1 : Nat → List (S76) → List Int → Int → Bool → Int → Int → Int → Int → Int → Int → Int → Int → Int → Int → Int → Int → Int → Int → Int → List (S74) → List (S74) → Int → Int → Int → Int → Int → Int → Int → Int → Int → Int → Int → Int → Int → Int → Int → List (S74) → List (S74) → Option (Bool)
  | 0, _, _, _, _, _, _, _, _, _, _, _, _, _, _, _, _, _, _, _, _, _, _, _, _, _, _, _, _, _, _, _, _, _, _, _, _, _, _ => none
  | k + 1, x4, x6, x9, x43, x236000, x236001, x236002, x236003, x236004, x236005, x236006, x236007, x236008, x236009, x236010, x236011, x236012, x236013, x236014, x236015, x236016, x264000, x264001, x264002, x264003, x264004, x264005, x264006, x264007, x264008, x264009, x264010, x264011, x264012, x264013, x264014, x264015, x264016 => if x43 = true then (if x9 = 4 then ((timeboundlaw36_awake.f k).bind fun t264 => (some t264)) else (some false)) else (timeboundlaw36_ScratchFrees.l1 k x4 x6 0 x236000 x236001 x236002 x236003 x236004 x236005 x236006 x236007 x236008 x236009 x236010 x236011 x236012 x236013 x236014 x236015 x236016 x264000 x264001 x264002 x264003 x264004 x264005 x264006 x264007 x264008 x264009 x264010 x264011 x264012 x264013 x264014 x264015 x264016)
def timeboundlaw36_ScratchFrees.l1 : Nat → List (S76) → List Int → Int → Int → Int → Int → Int → Int → Int → Int → Int → Int → Int → Int → Int → Int → Int → Int → List (S74) → List (S74) → Int → Int → Int → Int → Int → Int → Int → Int → Int → Int → Int → Int → Int → Int → Int → List (S74) → List (S74) → Option (Bool)
  | 0, _, _, _, _, _, _, _, _, _, _, _, _, _, _, _, _, _, _, _, _, _, _, _, _, _, _, _, _, _, _, _, _, _, _, _, _, _ => none
  | k + 1, x4, x6, x49, x236000, x236001, x236002, x236003, x236004, x236005, x236006, x236007, x236008, x236009, x236010, x236011, x236012, x236013, x236014, x236015, x236016, x264000, x264001, x264002, x264003, x264004, x264005, x264006, x264007, x264008, x264009, x264010, x264011, x264012, x264013, x264014, x264015, x264016 => if x49 < 100 then ((timeboundref23_Scratch.f k x236015 x49).bind fun t266 => ((timeboundref23_Scratch.f k x236016 x49).bind fun t267 => (timeboundlaw36_ScratchFrees.l2 k x4 x6 x49 t266 t267 x49 x6 (x6.length : Int) 0 x236000 x236001 x236002 x236003 x236004 x236005 x236006 x236007 x236008 x236009 x236010 x236011 x236012 x236013 x236014 x236015 x236016 x264000 x264001 x264002 x264003 x264004 x264005 x264006 x264007 x264008 x264009 x264010 x264011 x264012 x264013 x264014 x264015 x264016))) else ((timeboundlaw36_awake.f k).bind fun t265 => (some t265))
def timeboundlaw36_ScratchFrees.l2 : Nat → List (S76) → List Int → Int → Bool → Bool → Int → List Int → Int → Int → Int → Int → Int → Int → Int → Int → Int → Int → Int → Int → Int → Int → Int → Int → Int → List (S74) → List (S74) → Int → Int → Int → Int → Int → Int → Int → Int → Int → Int → Int → Int → Int → Int → Int → List (S74) → List (S74) → Option (Bool)
  | 0, _, _, _, _, _, _, _, _, _, _, _, _, _, _, _, _, _, _, _, _, _, _, _, _, _, _, _, _, _, _, _, _, _, _, _, _, _, _, _, _, _, _, _ => none
  | k + 1, x4, x6, x10, x11, x12, x49, x60, x61, x62, x236000, x236001, x236002, x236003, x236004, x236005, x236006, x236007, x236008, x236009, x236010, x236011, x236012, x236013, x236014, x236015, x236016, x264000, x264001, x264002, x264003, x264004, x264005, x264006, x264007, x264008, x264009, x264010, x264011, x264012, x264013, x264014, x264015, x264016 => if x62 < x61 then (if 0 ≤ x62 then (if x62 < (x60.length : Int) then (if 0 ≤ (rd x60 x62) then (if (rd x60 x62) < (x4.length : Int) then (if x10 ≥ ((rd_T76 x4 (rd x60 x62)).f1.f0) then (if x11 = true then (if x12 = true then (timeboundlaw36_ScratchFrees.l2 k x4 x6 x10 true true x49 x60 x61 (wrap64 (x62 + 1)) x236000 x236001 x236002 x236003 x236004 x236005 x236006 x236007 x236008 x236009 x236010 x236011 x236012 x236013 x236014 x236015 x236016 x264000 x264001 x264002 x264003 x264004 x264005 x264006 x264007 x264008 x264009 x264010 x264011 x264012 x264013 x264014 x264015 x264016) else (if x10 < ((rd_T76 x4 (rd x60 x62)).f1.f1) then (timeboundlaw36_ScratchFrees.l2 k x4 x6 x10 true (!((rd_T76 x4 (rd x60 x62)).f0)) x49 x60 x61 (wrap64 (x62 + 1)) x236000 x236001 x236002 x236003 x236004 x236005 x236006 x236007 x236008 x236009 x236010 x236011 x236012 x236013 x236014 x236015 x236016 x264000 x264001 x264002 x264003 x264004 x264005 x264006 x264007 x264008 x264009 x264010 x264011 x264012 x264013 x264014 x264015 x264016) else (timeboundlaw36_ScratchFrees.l2 k x4 x6 x10 true false x49 x60 x61 (wrap64 (x62 + 1)) x236000 x236001 x236002 x236003 x236004 x236005 x236006 x236007 x236008 x236009 x236010 x236011 x236012 x236013 x236014 x236015 x236016 x264000 x264001 x264002 x264003 x264004 x264005 x264006 x264007 x264008 x264009 x264010 x264011 x264012 x264013 x264014 x264015 x264016))) else (if x10 < ((rd_T76 x4 (rd x60 x62)).f1.f1) then (if x12 = true then (timeboundlaw36_ScratchFrees.l2 k x4 x6 x10 ((rd_T76 x4 (rd x60 x62)).f0) true x49 x60 x61 (wrap64 (x62 + 1)) x236000 x236001 x236002 x236003 x236004 x236005 x236006 x236007 x236008 x236009 x236010 x236011 x236012 x236013 x236014 x236015 x236016 x264000 x264001 x264002 x264003 x264004 x264005 x264006 x264007 x264008 x264009 x264010 x264011 x264012 x264013 x264014 x264015 x264016) else (timeboundlaw36_ScratchFrees.l2 k x4 x6 x10 ((rd_T76 x4 (rd x60 x62)).f0) (!((rd_T76 x4 (rd x60 x62)).f0)) x49 x60 x61 (wrap64 (x62 + 1)) x236000 x236001 x236002 x236003 x236004 x236005 x236006 x236007 x236008 x236009 x236010 x236011 x236012 x236013 x236014 x236015 x236016 x264000 x264001 x264002 x264003 x264004 x264005 x264006 x264007 x264008 x264009 x264010 x264011 x264012 x264013 x264014 x264015 x264016)) else (if x12 = true then (timeboundlaw36_ScratchFrees.l2 k x4 x6 x10 false true x49 x60 x61 (wrap64 (x62 + 1)) x236000 x236001 x236002 x236003 x236004 x236005 x236006 x236007 x236008 x236009 x236010 x236011 x236012 x236013 x236014 x236015 x236016 x264000 x264001 x264002 x264003 x264004 x264005 x264006 x264007 x264008 x264009 x264010 x264011 x264012 x264013 x264014 x264015 x264016) else (timeboundlaw36_ScratchFrees.l2 k x4 x6 x10 false false x49 x60 x61 (wrap64 (x62 + 1)) x236000 x236001 x236002 x236003 x236004 x236005 x236006 x236007 x236008 x236009 x236010 x236011 x236012 x236013 x236014 x236015 x236016 x264000 x264001 x264002 x264003 x264004 x264005 x264006 x264007 x264008 x264009 x264010 x264011 x264012 x264013 x264014 x264015 x264016)))) else (if x11 = true then (if x12 = true then (timeboundlaw36_ScratchFrees.l2 k x4 x6 x10 true true x49 x60 x61 (wrap64 (x62 + 1)) x236000 x236001 x236002 x236003 x236004 x236005 x236006 x236007 x236008 x236009 x236010 x236011 x236012 x236013 x236014 x236015 x236016 x264000 x264001 x264002 x264003 x264004 x264005 x264006 x264007 x264008 x264009 x264010 x264011 x264012 x264013 x264014 x264015 x264016) else (timeboundlaw36_ScratchFrees.l2 k x4 x6 x10 true false x49 x60 x61 (wrap64 (x62 + 1)) x236000 x236001 x236002 x236003 x236004 x236005 x236006 x236007 x236008 x236009 x236010 x236011 x236012 x236013 x236014 x236015 x236016 x264000 x264001 x264002 x264003 x264004 x264005 x264006 x264007 x264008 x264009 x264010 x264011 x264012 x264013 x264014 x264015 x264016)) else (if x12 = true then (timeboundlaw36_ScratchFrees.l2 k x4 x6 x10 false true x49 x60 x61 (wrap64 (x62 + 1)) x236000 x236001 x236002 x236003 x236004 x236005 x236006 x236007 x236008 x236009 x236010 x236011 x236012 x236013 x236014 x236015 x236016 x264000 x264001 x264002 x264003 x264004 x264005 x264006 x264007 x264008 x264009 x264010 x264011 x264012 x264013 x264014 x264015 x264016) else (timeboundlaw36_ScratchFrees.l2 k x4 x6 x10 false false x49 x60 x61 (wrap64 (x62 + 1)) x236000 x236001 x236002 x236003 x236004 x236005 x236006 x236007 x236008 x236009 x236010 x236011 x236012 x236013 x236014 x236015 x236016 x264000 x264001 x264002 x264003 x264004 x264005 x264006 x264007 x264008 x264009 x264010 x264011 x264012 x264013 x264014 x264015 x264016)))) else (none)) else (none)) else (none)) else (none)) else ((timeboundref23_Scratch.f k x264015 x10).bind fun t274 => (if (t274 != x11) = true then (some false) else ((timeboundref23_Scratch.f k x264016 x10).bind fun t275 => (if (t275 != x12) = true then (some false) else (timeboundlaw36_ScratchFrees.l1 k x4 x6 (wrap64 (x49 + 1)) x236000 x236001 x236002 x236003 x236004 x236005 x236006 x236007 x236008 x236009 x236010 x236011 x236012 x236013 x236014 x236015 x236016 x264000 x264001 x264002 x264003 x264004 x264005 x264006 x264007 x264008 x264009 x264010 x264011 x264012 x264013 x264014 x264015 x264016)))))
end
def timeboundlaw36_ScratchFrees.f (k : Nat) (l0 : List Int) : Option (Bool) := (timeboundmake_New.f l0).bind fun bt206 => ((timeboundmake2_Items.f k bt206.1 bt206.2).bind fun bt209 => ((timeboundmake_Processor.f bt206.1 bt209.2).bind fun bt213 => (timeboundlaw36_ScratchFrees.l0 k bt209.1 ([] : List Int) (bt209.1.length : Int) 0 bt206.1 bt213.2.2.2.2.2.2.2.2.2.2.2.2.2.2.2.2.2 bt213.1 bt213.2.1 bt213.2.2.1 bt213.2.2.2.1 bt213.2.2.2.2.1 bt213.2.2.2.2.2.1 bt213.2.2.2.2.2.2.1 bt213.2.2.2.2.2.2.2.1 bt213.2.2.2.2.2.2.2.2.1 bt213.2.2.2.2.2.2.2.2.2.1 bt213.2.2.2.2.2.2.2.2.2.2.1 bt213.2.2.2.2.2.2.2.2.2.2.2.1 bt213.2.2.2.2.2.2.2.2.2.2.2.2.1 bt213.2.2.2.2.2.2.2.2.2.2.2.2.2.1 bt213.2.2.2.2.2.2.2.2.2.2.2.2.2.2.1 bt213.2.2.2.2.2.2.2.2.2.2.2.2.2.2.2.1 bt213.2.2.2.2.2.2.2.2.2.2.2.2.2.2.2.2.1)))
theorem timeboundlaw36_ScratchFrees.mono_l : ∀ k, (∀ y0 y1 y2 y3 y4 y5 y6 y7 y8 y9 y10 y11 y12 y13 y14 y15 y16 y17 y18 y19 y20 y21 y22, LeO (timeboundlaw36_ScratchFrees.l0 k y0 y1 y2 y3 y4 y5 y6 y7 y8 y9 y10 y11 y12 y13 y14 y15 y16 y17 y18 y19 y20 y21 y22) (timeboundlaw36_ScratchFrees.l0 (k + 1) y0 y1 y2 y3 y4 y5 y6 y7 y8 y9 y10 y11 y12 y13 y14 y15 y16 y17 y18 y19 y20 y21 y22)) ∧ (∀ y0 y1 y2 y3 y4 y5 y6 y7 y8 y9 y10 y11 y12 y13 y14 y15 y16 y17 y18 y19 y20 y21 y22 y23 y24 y25 y26 y27 y28 y29 y30 y31 y32 y33 y34 y35 y36 y37, LeO (timeboundlaw36_ScratchFrees.j1 k y0 y1 y2 y3 y4 y5 y6 y7 y8 y9 y10 y11 y12 y13 y14 y15 y16 y17 y18 y19 y20 y21 y22 y23 y24 y25 y26 y27 y28 y29 y30 y31 y32 y33 y34 y35 y36 y37) (timeboundlaw36_ScratchFrees.j1 (k + 1) y0 y1 y2 y3 y4 y5 y6 y7 y8 y9 y10 y11 y12 y13 y14 y15 y16 y17 y18 y19 y20 y21 y22 y23 y24 y25 y26 y27 y28 y29 y30 y31 y32 y33 y34 y35 y36 y37)) ∧ (∀ y0 y1 y2 y3 y4 y5 y6 y7 y8 y9 y10 y11 y12 y13 y14 y15 y16 y17 y18 y19 y20 y21 y22 y23 y24 y25 y26 y27 y28 y29 y30 y31 y32 y33 y34 y35 y36, LeO (timeboundlaw36_ScratchFrees.l1 k y0 y1 y2 y3 y4 y5 y6 y7 y8 y9 y10 y11 y12 y13 y14 y15 y16 y17 y18 y19 y20 y21 y22 y23 y24 y25 y26 y27 y28 y29 y30 y31 y32 y33 y34 y35 y36) (timeboundlaw36_ScratchFrees.l1 (k + 1) y0 y1 y2 y3 y4 y5 y6 y7 y8 y9 y10 y11 y12 y13 y14 y15 y16 y17 y18 y19 y20 y21 y22 y23 y24 y25 y26 y27 y28 y29 y30 y31 y32 y33 y34 y35 y36)) ∧ (∀ y0 y1 y2 y3 y4 y5 y6 y7 y8 y9 y10 y11 y12 y13 y14 y15 y16 y17 y18 y19 y20 y21 y22 y23 y24 y25 y26 y27 y28 y29 y30 y31 y32 y33 y34 y35 y36 y37 y38 y39 y40 y41 y42, LeO (timeboundlaw36_ScratchFrees.l2 k y0 y1 y2 y3 y4 y5 y6 y7 y8 y9 y10 y11 y12 y13 y14 y15 y16 y17 y18 y19 y20 y21 y22 y23 y24 y25 y26 y27 y28 y29 y30 y31 y32 y33 y34 y35 y36 y37 y38 y39 y40 y41 y42) (timeboundlaw36_ScratchFrees.l2 (k + 1) y0 y1 y2 y3 y4 y5 y6 y7 y8 y9 y10 y11 y12 y13 y14 y15 y16 y17 y18 y19 y20 y21 y22 y23 y24 y25 y26 y27 y28 y29 y30 y31 y32 y33 y34 y35 y36 y37 y38 y39 y40 y41 y42))
  | 0 => ⟨fun _ _ _ _ _ _ _ _ _ _ _ _ _ _ _ _ _ _ _ _ _ _ _ r h => by simp [timeboundlaw36_ScratchFrees.l0] at h, fun _ _ _ _ _ _ _ _ _ _ _ _ _ _ _ _ _ _ _ _ _ _ _ _ _ _ _ _ _ _ _ _ _ _ _ _ _ _ r h => by simp [timeboundlaw36_ScratchFrees.j1] at h, fun _ _ _ _ _ _ _ _ _ _ _ _ _ _ _ _ _ _ _ _ _ _ _ _ _ _ _ _ _ _ _ _ _ _ _ _ _ r h => by simp [timeboundlaw36_ScratchFrees.l1] at h, fun _ _ _ _ _ _ _ _ _ _ _ _ _ _ _ _ _ _ _ _ _ _ _ _ _ _ _ _ _ _ _ _ _ _ _ _ _ _ _ _ _ _ _ r h => by simp [timeboundlaw36_ScratchFrees.l2] at h⟩
  | k + 1 => by
    obtain ⟨ih0, ih1, ih2, ih3⟩ := timeboundlaw36_ScratchFrees.mono_l k
    refine ⟨?_, ?_, ?_, ?_⟩
    · intro y0 y1 y2 y3 y4 y5 y6 y7 y8 y9 y10 y11 y12 y13 y14 y15 y16 y17 y18 y19 y20 y21 y22
      unfold timeboundlaw36_ScratchFrees.l0
      repeat' first
      | (with_reducible exact ih0 _ _ _ _ _ _ _ _ _ _ _ _ _ _ _ _ _ _ _ _ _ _ _)
      | (with_reducible exact ih1 _ _ _ _ _ _ _ _ _ _ _ _ _ _ _ _ _ _ _ _ _ _ _ _ _ _ _ _ _ _ _ _ _ _ _ _ _ _)
      | (with_reducible exact ih2 _ _ _ _ _ _ _ _ _ _ _ _ _ _ _ _ _ _ _ _ _ _ _ _ _ _ _ _ _ _ _ _ _ _ _ _ _)
      | (with_reducible exact ih3 _ _ _ _ _ _ _ _ _ _ _ _ _ _ _ _ _ _ _ _ _ _ _ _ _ _ _ _ _ _ _ _ _ _ _ _ _ _ _ _ _ _ _)
      | (with_reducible exact scratch_Place.mono _ _ _ _ _ _ _ _ _ _ _ _ _ _ _ _ _ _ _ _)
      | (with_reducible exact timeboundlaw36_awake.mono _)
      | (with_reducible exact timeboundmake2_Items.mono _ _ _)
      | (with_reducible exact timeboundref23_Scratch.mono _ _ _)
      | (with_reducible exact LeO.refl _)
      | (with_reducible exact LeO.none _)
      | (with_reducible refine LeO.ite ?_ ?_)
      | (with_reducible refine LeO.bind ?_ (fun _ => ?_))
      | exact ih0 _ _ _ _ _ _ _ _ _ _ _ _ _ _ _ _ _ _ _ _ _ _ _
      | exact ih1 _ _ _ _ _ _ _ _ _ _ _ _ _ _ _ _ _ _ _ _ _ _ _ _ _ _ _ _ _ _ _ _ _ _ _ _ _ _
      | exact ih2 _ _ _ _ _ _ _ _ _ _ _ _ _ _ _ _ _ _ _ _ _ _ _ _ _ _ _ _ _ _ _ _ _ _ _ _ _
      | exact ih3 _ _ _ _ _ _ _ _ _ _ _ _ _ _ _ _ _ _ _ _ _ _ _ _ _ _ _ _ _ _ _ _ _ _ _ _ _ _ _ _ _ _ _
      | exact scratch_Place.mono _ _ _ _ _ _ _ _ _ _ _ _ _ _ _ _ _ _ _ _
      | exact timeboundlaw36_awake.mono _
      | exact timeboundmake2_Items.mono _ _ _
      | exact timeboundref23_Scratch.mono _ _ _
      | exact LeO.none _
      | refine LeO.ite ?_ ?_
      | refine LeO.bind ?_ (fun _ => ?_)
    · intro y0 y1 y2 y3 y4 y5 y6 y7 y8 y9 y10 y11 y12 y13 y14 y15 y16 y17 y18 y19 y20 y21 y22 y23 y24 y25 y26 y27 y28 y29 y30 y31 y32 y33 y34 y35 y36 y37
      unfold timeboundlaw36_ScratchFrees.j1
      repeat' first
      | (with_reducible exact ih0 _ _ _ _ _ _ _ _ _ _ _ _ _ _ _ _ _ _ _ _ _ _ _)
      | (with_reducible exact ih1 _ _ _ _ _ _ _ _ _ _ _ _ _ _ _ _ _ _ _ _ _ _ _ _ _ _ _ _ _ _ _ _ _ _ _ _ _ _)
      | (with_reducible exact ih2 _ _ _ _ _ _ _ _ _ _ _ _ _ _ _ _ _ _ _ _ _ _ _ _ _ _ _ _ _ _ _ _ _ _ _ _ _)
      | (with_reducible exact ih3 _ _ _ _ _ _ _ _ _ _ _ _ _ _ _ _ _ _ _ _ _ _ _ _ _ _ _ _ _ _ _ _ _ _ _ _ _ _ _ _ _ _ _)
      | (with_reducible exact scratch_Place.mono _ _ _ _ _ _ _ _ _ _ _ _ _ _ _ _ _ _ _ _)
      | (with_reducible exact timeboundlaw36_awake.mono _)
      | (with_reducible exact timeboundmake2_Items.mono _ _ _)
      | (with_reducible exact timeboundref23_Scratch.mono _ _ _)
      | (with_reducible exact LeO.refl _)
      | (with_reducible exact LeO.none _)
      | (with_reducible refine LeO.ite ?_ ?_)
      | (with_reducible refine LeO.bind ?_ (fun _ => ?_))
      | exact ih0 _ _ _ _ _ _ _ _ _ _ _ _ _ _ _ _ _ _ _ _ _ _ _
      | exact ih1 _ _ _ _ _ _ _ _ _ _ _ _ _ _ _ _ _ _ _ _ _ _ _ _ _ _ _ _ _ _ _ _ _ _ _ _ _ _
      | exact ih2 _ _ _ _ _ _ _ _ _ _ _ _ _ _ _ _ _ _ _ _ _ _ _ _ _ _ _ _ _ _ _ _ _ _ _ _ _
      | exact ih3 _ _ _ _ _ _ _ _ _ _ _ _ _ _ _ _ _ _ _ _ _ _ _ _ _ _ _ _ _ _ _ _ _ _ _ _ _ _ _ _ _ _ _
      | exact scratch_Place.mono _ _ _ _ _ _ _ _ _ _ _ _ _ _ _ _ _ _ _ _
      | exact timeboundlaw36_awake.mono _
      | exact timeboundmake2_Items.mono _ _ _
      | exact timeboundref23_Scratch.mono _ _ _
      | exact LeO.none _
      | refine LeO.ite ?_ ?_
      | refine LeO.bind ?_ (fun _ => ?_)
    · intro y0 y1 y2 y3 y4 y5 y6 y7 y8 y9 y10 y11 y12 y13 y14 y15 y16 y17 y18 y19 y20 y21 y22 y23 y24 y25 y26 y27 y28 y29 y30 y31 y32 y33 y34 y35 y36
      unfold timeboundlaw36_ScratchFrees.l1
      repeat' first
      | (with_reducible exact ih0 _ _ _ _ _ _ _ _ _ _ _ _ _ _ _ _ _ _ _ _ _ _ _)
      | (with_reducible exact ih1 _ _ _ _ _ _ _ _ _ _ _ _ _ _ _ _ _ _ _ _ _ _ _ _ _ _ _ _ _ _ _ _ _ _ _ _ _ _)
      | (with_reducible exact ih2 _ _ _ _ _ _ _ _ _ _ _ _ _ _ _ _ _ _ _ _ _ _ _ _ _ _ _ _ _ _ _ _ _ _ _ _ _)
      | (with_reducible exact ih3 _ _ _ _ _ _ _ _ _ _ _ _ _ _ _ _ _ _ _ _ _ _ _ _ _ _ _ _ _ _ _ _ _ _ _ _ _ _ _ _ _ _ _)
      | (with_reducible exact scratch_Place.mono _ _ _ _ _ _ _ _ _ _ _ _ _ _ _ _ _ _ _ _)
      | (with_reducible exact timeboundlaw36_awake.mono _)
      | (with_reducible exact timeboundmake2_Items.mono _ _ _)
      | (with_reducible exact timeboundref23_Scratch.mono _ _ _)
      | (with_reducible exact LeO.refl _)
      | (with_reducible exact LeO.none _)
      | (with_reducible refine LeO.ite ?_ ?_)
      | (with_reducible refine LeO.bind ?_ (fun _ => ?_))
      | exact ih0 _ _ _ _ _ _ _ _ _ _ _ _ _ _ _ _ _ _ _ _ _ _ _
      | exact ih1 _ _ _ _ _ _ _ _ _ _ _ _ _ _ _ _ _ _ _ _ _ _ _ _ _ _ _ _ _ _ _ _ _ _ _ _ _ _
      | exact ih2 _ _ _ _ _ _ _ _ _ _ _ _ _ _ _ _ _ _ _ _ _ _ _ _ _ _ _ _ _ _ _ _ _ _ _ _ _
      | exact ih3 _ _ _ _ _ _ _ _ _ _ _ _ _ _ _ _ _ _ _ _ _ _ _ _ _ _ _ _ _ _ _ _ _ _ _ _ _ _ _ _ _ _ _
      | exact scratch_Place.mono _ _ _ _ _ _ _ _ _ _ _ _ _ _ _ _ _ _ _ _
      | exact timeboundlaw36_awake.mono _
      | exact timeboundmake2_Items.mono _ _ _
      | exact timeboundref23_Scratch.mono _ _ _
      | exact LeO.none _
      | refine LeO.ite ?_ ?_
      | refine LeO.bind ?_ (fun _ => ?_)
    · intro y0 y1 y2 y3 y4 y5 y6 y7 y8 y9 y10 y11 y12 y13 y14 y15 y16 y17 y18 y19 y20 y21 y22 y23 y24 y25 y26 y27 y28 y29 y30 y31 y32 y33 y34 y35 y36 y37 y38 y39 y40 y41 y42
      unfold timeboundlaw36_ScratchFrees.l2
      repeat' first
      | (with_reducible exact ih0 _ _ _ _ _ _ _ _ _ _ _ _ _ _ _ _ _ _ _ _ _ _ _)
      | (with_reducible exact ih1 _ _ _ _ _ _ _ _ _ _ _ _ _ _ _ _ _ _ _ _ _ _ _ _ _ _ _ _ _ _ _ _ _ _ _ _ _ _)
      | (with_reducible exact ih2 _ _ _ _ _ _ _ _ _ _ _ _ _ _ _ _ _ _ _ _ _ _ _ _ _ _ _ _ _ _ _ _ _ _ _ _ _)
      | (with_reducible exact ih3 _ _ _ _ _ _ _ _ _ _ _ _ _ _ _ _ _ _ _ _ _ _ _ _ _ _ _ _ _ _ _ _ _ _ _ _ _ _ _ _ _ _ _)
      | (with_reducible exact scratch_Place.mono _ _ _ _ _ _ _ _ _ _ _ _ _ _ _ _ _ _ _ _)
      | (with_reducible exact timeboundlaw36_awake.mono _)
      | (with_reducible exact timeboundmake2_Items.mono _ _ _)
      | (with_reducible exact timeboundref23_Scratch.mono _ _ _)
      | (with_reducible exact LeO.refl _)
      | (with_reducible exact LeO.none _)
      | (with_reducible refine LeO.ite ?_ ?_)
      | (with_reducible refine LeO.bind ?_ (fun _ => ?_))
      | exact ih0 _ _ _ _ _ _ _ _ _ _ _ _ _ _ _ _ _ _ _ _ _ _ _
      | exact ih1 _ _ _ _ _ _ _ _ _ _ _ _ _ _ _ _ _ _ _ _ _ _ _ _ _ _ _ _ _ _ _ _ _ _ _ _ _ _
      | exact ih2 _ _ _ _ _ _ _ _ _ _ _ _ _ _ _ _ _ _ _ _ _ _ _ _ _ _ _ _ _ _ _ _ _ _ _ _ _
      | exact ih3 _ _ _ _ _ _ _ _ _ _ _ _ _ _ _ _ _ _ _ _ _ _ _ _ _ _ _ _ _ _ _ _ _ _ _ _ _ _ _ _ _ _ _
      | exact scratch_Place.mono _ _ _ _ _ _ _ _ _ _ _ _ _ _ _ _ _ _ _ _
      | exact timeboundlaw36_awake.mono _
      | exact timeboundmake2_Items.mono _ _ _
      | exact timeboundref23_Scratch.mono _ _ _
      | exact LeO.none _
      | refine LeO.ite ?_ ?_
      | refine LeO.bind ?_ (fun _ => ?_)
theorem timeboundlaw36_ScratchFrees.mono : ∀ a0 k, LeO (timeboundlaw36_ScratchFrees.f k a0) (timeboundlaw36_ScratchFrees.f (k + 1) a0) := by
  intro a0 k
  obtain ⟨ih0, ih1, ih2, ih3⟩ := timeboundlaw36_ScratchFrees.mono_l k
  unfold timeboundlaw36_ScratchFrees.f
  repeat' first
      | (with_reducible exact ih0 _ _ _ _ _ _ _ _ _ _ _ _ _ _ _ _ _ _ _ _ _ _ _)
      | (with_reducible exact ih1 _ _ _ _ _ _ _ _ _ _ _ _ _ _ _ _ _ _ _ _ _ _ _ _ _ _ _ _ _ _ _ _ _ _ _ _ _ _)
      | (with_reducible exact ih2 _ _ _ _ _ _ _ _ _ _ _ _ _ _ _ _ _ _ _ _ _ _ _ _ _ _ _ _ _ _ _ _ _ _ _ _ _)
      | (with_reducible exact ih3 _ _ _ _ _ _ _ _ _ _ _ _ _ _ _ _ _ _ _ _ _ _ _ _ _ _ _ _ _ _ _ _ _ _ _ _ _ _ _ _ _ _ _)
      | (with_reducible exact scratch_Place.mono _ _ _ _ _ _ _ _ _ _ _ _ _ _ _ _ _ _ _ _)
      | (with_reducible exact timeboundlaw36_awake.mono _)
      | (with_reducible exact timeboundmake2_Items.mono _ _ _)
      | (with_reducible exact timeboundref23_Scratch.mono _ _ _)
      | (with_reducible exact LeO.refl _)
      | (with_reducible exact LeO.none _)
      | (with_reducible refine LeO.ite ?_ ?_)
      | (with_reducible refine LeO.bind ?_ (fun _ => ?_))
      | exact ih0 _ _ _ _ _ _ _ _ _ _ _ _ _ _ _ _ _ _ _ _ _ _ _
      | exact ih1 _ _ _ _ _ _ _ _ _ _ _ _ _ _ _ _ _ _ _ _ _ _ _ _ _ _ _ _ _ _ _ _ _ _ _ _ _ _
      | exact ih2 _ _ _ _ _ _ _ _ _ _ _ _ _ _ _ _ _ _ _ _ _ _ _ _ _ _ _ _ _ _ _ _ _ _ _ _ _
      | exact ih3 _ _ _ _ _ _ _ _ _ _ _ _ _ _ _ _ _ _ _ _ _ _ _ _ _ _ _ _ _ _ _ _ _ _ _ _ _ _ _ _ _ _ _
      | exact scratch_Place.mono _ _ _ _ _ _ _ _ _ _ _ _ _ _ _ _ _ _ _ _
      | exact timeboundlaw36_awake.mono _
      | exact timeboundmake2_Items.mono _ _ _
      | exact timeboundref23_Scratch.mono _ _ _
      | exact LeO.none _
      | refine LeO.ite ?_ ?_
      | refine LeO.bind ?_ (fun _ => ?_)
set_option maxHeartbeats 8000000 in
set_option maxRecDepth 100000 in
theorem timeboundlaw36_ScratchFrees.calls (k : Nat) (A0 : Option Addr) (c0 : Nat) (l0 : List Int) (r : Bool) (w : World) (hr0 : Kd.C (Kd.int .i64) w A0 l0.length l0) (hc0 : l0.length ≤ c0) (h : timeboundlaw36_ScratchFrees.f k l0 = some r) :
    Calls Try.prog 8 #[.slice A0 l0.length c0] w fun e w' => e = .returned (.bool r) ∧ Below w.heap.size w w' := by
  have hu68 := Try.underlying68
  have HR0 := Aside0.mk hr0
  have HC0 := Aside0.mk hc0
  clear hr0 hc0
  have HB := Aside0.mk (Below.refl w.heap.size w)
  have H : ((timeboundmake_New.f l0).bind fun bt206 => ((timeboundmake2_Items.f k bt206.1 bt206.2).bind fun bt209 => ((timeboundmake_Processor.f bt206.1 bt209.2).bind fun bt213 => (timeboundlaw36_ScratchFrees.l0 k bt209.1 ([] : List Int) (bt209.1.length : Int) 0 bt206.1 bt213.2.2.2.2.2.2.2.2.2.2.2.2.2.2.2.2.2 bt213.1 bt213.2.1 bt213.2.2.1 bt213.2.2.2.1 bt213.2.2.2.2.1 bt213.2.2.2.2.2.1 bt213.2.2.2.2.2.2.1 bt213.2.2.2.2.2.2.2.1 bt213.2.2.2.2.2.2.2.2.1 bt213.2.2.2.2.2.2.2.2.2.1 bt213.2.2.2.2.2.2.2.2.2.2.1 bt213.2.2.2.2.2.2.2.2.2.2.2.1 bt213.2.2.2.2.2.2.2.2.2.2.2.2.1 bt213.2.2.2.2.2.2.2.2.2.2.2.2.2.1 bt213.2.2.2.2.2.2.2.2.2.2.2.2.2.2.1 bt213.2.2.2.2.2.2.2.2.2.2.2.2.2.2.2.1 bt213.2.2.2.2.2.2.2.2.2.2.2.2.2.2.2.2.1)))) = some r := h
  clear h
  replace H := Option.bind_eq_some_iff.mp H
  obtain ⟨⟨t206, t207⟩, A20, H⟩ := H
  replace H : ((timeboundmake2_Items.f k t206 t207).bind fun bt209 => ((timeboundmake_Processor.f t206 bt209.2).bind fun bt213 => (timeboundlaw36_ScratchFrees.l0 k bt209.1 ([] : List Int) (bt209.1.length : Int) 0 t206 bt213.2.2.2.2.2.2.2.2.2.2.2.2.2.2.2.2.2 bt213.1 bt213.2.1 bt213.2.2.1 bt213.2.2.2.1 bt213.2.2.2.2.1 bt213.2.2.2.2.2.1 bt213.2.2.2.2.2.2.1 bt213.2.2.2.2.2.2.2.1 bt213.2.2.2.2.2.2.2.2.1 bt213.2.2.2.2.2.2.2.2.2.1 bt213.2.2.2.2.2.2.2.2.2.2.1 bt213.2.2.2.2.2.2.2.2.2.2.2.1 bt213.2.2.2.2.2.2.2.2.2.2.2.2.1 bt213.2.2.2.2.2.2.2.2.2.2.2.2.2.1 bt213.2.2.2.2.2.2.2.2.2.2.2.2.2.2.1 bt213.2.2.2.2.2.2.2.2.2.2.2.2.2.2.2.1 bt213.2.2.2.2.2.2.2.2.2.2.2.2.2.2.2.2.1))) = some r := H
  have A2 := Aside0.mk A20
  clear A20
  replace H := Option.bind_eq_some_iff.mp H
  obtain ⟨⟨t209, t212⟩, A30, H⟩ := H
  replace H : ((timeboundmake_Processor.f t206 t212).bind fun bt213 => (timeboundlaw36_ScratchFrees.l0 k t209 ([] : List Int) (t209.length : Int) 0 t206 bt213.2.2.2.2.2.2.2.2.2.2.2.2.2.2.2.2.2 bt213.1 bt213.2.1 bt213.2.2.1 bt213.2.2.2.1 bt213.2.2.2.2.1 bt213.2.2.2.2.2.1 bt213.2.2.2.2.2.2.1 bt213.2.2.2.2.2.2.2.1 bt213.2.2.2.2.2.2.2.2.1 bt213.2.2.2.2.2.2.2.2.2.1 bt213.2.2.2.2.2.2.2.2.2.2.1 bt213.2.2.2.2.2.2.2.2.2.2.2.1 bt213.2.2.2.2.2.2.2.2.2.2.2.2.1 bt213.2.2.2.2.2.2.2.2.2.2.2.2.2.1 bt213.2.2.2.2.2.2.2.2.2.2.2.2.2.2.1 bt213.2.2.2.2.2.2.2.2.2.2.2.2.2.2.2.1 bt213.2.2.2.2.2.2.2.2.2.2.2.2.2.2.2.2.1)) = some r := H
  have A3 := Aside0.mk A30
  clear A30
  replace H := Option.bind_eq_some_iff.mp H
  obtain ⟨⟨t213, t214, t215, t216, t217, t218, t219, t220, t221, t222, t223, t224, t225, t226, t227, t228, t231, t234⟩, A40, H⟩ := H
  replace H : (timeboundlaw36_ScratchFrees.l0 k t209 ([] : List Int) (t209.length : Int) 0 t206 t234 t213 t214 t215 t216 t217 t218 t219 t220 t221 t222 t223 t224 t225 t226 t227 t228 t231) = some r := H
  have A4 := Aside0.mk A40
  clear A40
  have H' := Aside0.mk H
  clear H
  go_enter Try.func8, Try.ntmps8
  go_wp2_with (first | (go_at_call 16; (with_reducible refine (timeboundmake_New.calls _ _ l0 t206 t207 w _ ?side1 ?side2 ?side3 A2.out).mono ?_); (case side1 => repeat (first | (with_reducible first | exact HB.out | apply below_alloc | apply pw_below_drewN | apply below_drew1) | exact HB.out)); (case side2 => exact HR0.out); (case side3 => exact HC0.out); rintro e w5 ⟨g208, rfl, hi, hb, hb2⟩; have n0_ := Aside0.mk (hb); have n1_ := Aside0.mk (hi); clear HB; have HB := n0_; have HI208 := n1_; clear n0_ n1_; (try clear hb); (try clear hb2); (try clear hk); (try clear hi)) | (go_at_call 32; (with_reducible refine (timeboundmake2_Items.calls k g208 t206 t207 t209 t212 w _ ?side1 ?side2 A3.out).mono ?_); (case side1 => repeat (first | (with_reducible first | exact HI208.out | apply IsS111.alloc | apply IsS111.drewN | apply IsS111.drew | apply IsS111.set_1) | exact HI208.out)); (case side2 => repeat (first | (with_reducible first | exact HB.out | apply below_alloc | apply pw_below_drewN | apply below_drew1 | refine below_set ?_ (IsS111.ge HI208.out)) | exact HB.out)); rintro e w6 ⟨v210, rfl, ho0, hi, hb, hk⟩; have n0_ := Aside0.mk (Kd.R_lower ho0 (below_size (by repeat (first | (with_reducible first | exact HB.out | apply below_alloc | apply pw_below_drewN | apply below_drew1 | refine below_set ?_ (IsS111.ge HI208.out)) | exact HB.out)))); have n1_ := Aside0.mk (hb); have n2_ := Aside0.mk (hi); clear HB; clear HI208; have HO211 := n0_; have HB := n1_; have HI208 := n2_; clear n0_ n1_ n2_; (try clear hb); (try clear hb2); (try clear hk); (try clear hi); (try clear ho0)) | (go_at_call 41; (with_reducible refine (timeboundmake_Processor.calls g208 t206 t212 t213 t214 t215 t216 t217 t218 t219 t220 t221 t222 t223 t224 t225 t226 t227 t228 t231 t234 w _ ?side1 ?side2 A4.out).mono ?_); (case side1 => repeat (first | (with_reducible first | exact HI208.out | apply IsS111.alloc | apply IsS111.drewN | apply IsS111.drew | apply IsS111.set_1) | exact HI208.out)); (case side2 => repeat (first | (with_reducible first | exact HB.out | apply below_alloc | apply pw_below_drewN | apply below_drew1 | refine below_set ?_ (IsS111.ge HI208.out)) | exact HB.out)); rintro e w7 ⟨v229, v232, rfl, ho0, ho1, hi, hb, hk⟩; have n0_ := Aside0.mk (Kd.R_mono (Kd.R_keep (IsS111.apart (show IsS111 w _ g208 t206 t212 from by repeat (first | (with_reducible first | exact HI208.out | apply IsS111.alloc | apply IsS111.drewN | apply IsS111.drew | apply IsS111.set_1) | exact HI208.out)) (by (with_reducible repeat (first | apply Kd.R_alloc | apply Kd.R_drewN | apply Kd.R_drew)); exact HO211.out) (by decide)) hk (fun _ h => h.2)) (fun _ h => h.1)); have n1_ := Aside0.mk (Kd.R_lower ho0 (below_size (by repeat (first | (with_reducible first | exact HB.out | apply below_alloc | apply pw_below_drewN | apply below_drew1 | refine below_set ?_ (IsS111.ge HI208.out)) | exact HB.out)))); have n2_ := Aside0.mk (Kd.R_lower ho1 (below_size (by repeat (first | (with_reducible first | exact HB.out | apply below_alloc | apply pw_below_drewN | apply below_drew1 | refine below_set ?_ (IsS111.ge HI208.out)) | exact HB.out)))); have n3_ := Aside0.mk (hb); have n4_ := Aside0.mk (hi); clear HO211; clear HB; clear HI208; have HO211 := n0_; have HO230 := n1_; have HO233 := n2_; have HB := n3_; have HI208 := n4_; clear n0_ n1_ n2_ n3_ n4_; (try clear hb); (try clear hb2); (try clear hk); (try clear hi); (try clear ho0); (try clear ho1)) | ((with_reducible refine gate_dst (N := 5) rfl ?_); refine box_event ?hg (N := 5) ?hd (cs := #[.int .i64 0, .int .i64 0, .int .i64 0, .int .i64 0, .int .i64 0, .int .i64 0, .int .i64 0, .int .i64 0, .int .i64 0, .int .i64 0, .int .i64 0, .int .i64 0, .int .i64 0, .int .i64 0, .int .i64 0, .slice none 0 0, .slice none 0 0]) (t := 68) ?hr ?_; (case hd => rfl); (case hg => rfl); (case hr => first | (go_simp; done) | (go_simp; rfl)); intro gb235 hg w8 hbox hb; have n0_ := Aside0.mk (Kd.R_below (by (with_reducible repeat (first | apply Kd.R_alloc | apply Kd.R_drewN | apply Kd.R_drew)); exact HO211.out) hb); have n1_ := Aside0.mk (Kd.R_below (by (with_reducible repeat (first | apply Kd.R_alloc | apply Kd.R_drewN | apply Kd.R_drew)); exact HO230.out) hb); have n2_ := Aside0.mk (Kd.R_below (by (with_reducible repeat (first | apply Kd.R_alloc | apply Kd.R_drewN | apply Kd.R_drew)); exact HO233.out) hb); have n3_ := Aside0.mk (IsS111.below (by repeat (first | (with_reducible first | exact HI208.out | apply IsS111.alloc | apply IsS111.drewN | apply IsS111.drew | apply IsS111.set_1) | exact HI208.out)) hb); have n4_ := Aside0.mk (below_step (by repeat (first | (with_reducible first | exact HB.out | apply below_alloc | apply pw_below_drewN | apply below_drew1 | refine below_set ?_ (IsS111.ge HI208.out)) | exact HB.out)) hb); have n5_ := Aside0.mk (hbox); have n6_ := Aside0.mk ((by rw [hg]; exact (below_size (by repeat (first | (with_reducible first | exact HB.out | apply below_alloc | apply pw_below_drewN | apply below_drew1 | refine below_set ?_ (IsS111.ge HI208.out)) | exact HB.out))) : w.heap.size ≤ gb235)); have n7_ := Aside0.mk ((by rw [hg]; exact (below_size (by repeat (first | (with_reducible first | exact HB.out | apply below_alloc | apply pw_below_drewN | apply below_drew1 | refine below_set ?_ (IsS111.ge HI208.out)) | exact HB.out))) : w.heap.size ≤ gb235)); have n8_ := Aside0.mk ((by rw [hg]; exact Nat.ne_of_lt (IsS111.lt (show IsS111 w _ g208 t206 t234 from by repeat (first | (with_reducible first | exact HI208.out | apply IsS111.alloc | apply IsS111.drewN | apply IsS111.drew | apply IsS111.set_1) | exact HI208.out))) : g208 ≠ gb235)); have n9_ := Aside0.mk ((by rw [hg]; exact Nat.ne_of_gt (IsS111.lt (show IsS111 w _ g208 t206 t234 from by repeat (first | (with_reducible first | exact HI208.out | apply IsS111.alloc | apply IsS111.drewN | apply IsS111.drew | apply IsS111.set_1) | exact HI208.out))) : gb235 ≠ g208)); clear HO211; clear HO230; clear HO233; clear HI208; clear HB; have HO211 := n0_; have HO230 := n1_; have HO233 := n2_; have HI208 := n3_; have HB := n4_; have BK235 := n5_; have GW235 := n6_; have GE235 := n7_; have NB208_235 := n8_; have NB235_208 := n9_; clear n0_ n1_ n2_ n3_ n4_ n5_ n6_ n7_ n8_ n9_; clear hb hbox hg; obtain ⟨Ao9, co9, eo9⟩ := Kd.R_slice HO230.out; subst eo9; obtain ⟨Ao10, co10, eo10⟩ := Kd.R_slice HO233.out; subst eo10) | ((with_reducible refine gate_store (t := 68) (p := 5) rfl ?_); (try (rw [drewN_self w8]; generalize hq_ : World.drewN w8 _ = w8; have n0_ := Aside0.mk (Kd.R_at hq_ HO211.out); have n1_ := Aside0.mk (Kd.R_at hq_ HO230.out); have n2_ := Aside0.mk (Kd.R_at hq_ HO233.out); have n3_ := Aside0.mk (blk_at hq_ BK235.out); have n4_ := Aside0.mk (IsS111.at_ hq_ HI208.out); have n5_ := Aside0.mk (below_at hq_ HB.out); clear hq_ HO211 HO230 HO233 BK235 HI208 HB; have HO211 := n0_; have HO230 := n1_; have HO233 := n2_; have BK235 := n3_; have HI208 := n4_; have HB := n5_; clear n0_ n1_ n2_ n3_ n4_ n5_; (try (obtain ⟨Ao9, co9, eo9⟩ := Kd.R_slice HO230.out)); (try (subst eo9)); (try (obtain ⟨Ao10, co10, eo10⟩ := Kd.R_slice HO233.out)); (try (subst eo10)))); refine row_event (t := 68) (p := 5) (g := gb235) (old := #[.int .i64 0, .int .i64 0, .int .i64 0, .int .i64 0, .int .i64 0, .int .i64 0, .int .i64 0, .int .i64 0, .int .i64 0, .int .i64 0, .int .i64 0, .int .i64 0, .int .i64 0, .int .i64 0, .int .i64 0, .slice none 0 0, .slice none 0 0]) (new := #[.int .i64 t213, .int .i64 t214, .int .i64 t215, .int .i64 t216, .int .i64 t217, .int .i64 t218, .int .i64 t219, .int .i64 t220, .int .i64 t221, .int .i64 t222, .int .i64 t223, .int .i64 t224, .int .i64 t225, .int .i64 t226, .int .i64 t227, .slice Ao9 t228.length co9, .slice Ao10 t231.length co10]) (tt := 68) rfl rfl rfl (by (with_reducible repeat (first | refine blk_drewN ?_ _ | refine blk_drew ?_ | refine blk_alloc ?_ _)); exact BK235.out) rfl rfl (by kernel_rfl) rfl rfl ?_; intro w11 hbox hg; have n0_ := Aside0.mk (IsS111.grown (show IsS111 w _ g208 t206 t234 from by repeat (first | (with_reducible first | exact HI208.out | apply IsS111.alloc | apply IsS111.drewN | apply IsS111.drew | apply IsS111.set_1 | refine IsS111.far ?_ NB208_235.out _) | exact HI208.out)) hg (fun e_ => NB208_235.out (Option.some.inj e_))); have n1_ := Aside0.mk (Kd.R_mono (Kd.R_grown (Kd.R_types (by (with_reducible repeat (first | apply Kd.R_alloc | apply Kd.R_drewN | apply Kd.R_drew)); exact HO211.out) (show _ = some (Obj.cells #[.int .i64 0, .int .i64 0, .int .i64 0, .int .i64 0, .int .i64 0, .int .i64 0, .int .i64 0, .int .i64 0, .int .i64 0, .int .i64 0, .int .i64 0, .int .i64 0, .int .i64 0, .int .i64 0, .int .i64 0, .slice none 0 0, .slice none 0 0] 68 (0, 0)) from by (with_reducible repeat (first | refine blk_drewN ?_ _ | refine blk_drew ?_ | refine blk_alloc ?_ _)); exact BK235.out) (by decide)) hg (fun k_ hk_ e_ => hk_.2 (Option.some.inj e_))) (fun _ hk_ => hk_.1)); have n2_ := Aside0.mk (Kd.R_mono (Kd.R_grown (Kd.R_types (by (with_reducible repeat (first | apply Kd.R_alloc | apply Kd.R_drewN | apply Kd.R_drew)); exact HO230.out) (show _ = some (Obj.cells #[.int .i64 0, .int .i64 0, .int .i64 0, .int .i64 0, .int .i64 0, .int .i64 0, .int .i64 0, .int .i64 0, .int .i64 0, .int .i64 0, .int .i64 0, .int .i64 0, .int .i64 0, .int .i64 0, .int .i64 0, .slice none 0 0, .slice none 0 0] 68 (0, 0)) from by (with_reducible repeat (first | refine blk_drewN ?_ _ | refine blk_drew ?_ | refine blk_alloc ?_ _)); exact BK235.out) (by decide)) hg (fun k_ hk_ e_ => hk_.2 (Option.some.inj e_))) (fun _ hk_ => hk_.1)); have n3_ := Aside0.mk (Kd.R_mono (Kd.R_grown (Kd.R_types (by (with_reducible repeat (first | apply Kd.R_alloc | apply Kd.R_drewN | apply Kd.R_drew)); exact HO233.out) (show _ = some (Obj.cells #[.int .i64 0, .int .i64 0, .int .i64 0, .int .i64 0, .int .i64 0, .int .i64 0, .int .i64 0, .int .i64 0, .int .i64 0, .int .i64 0, .int .i64 0, .int .i64 0, .int .i64 0, .int .i64 0, .int .i64 0, .slice none 0 0, .slice none 0 0] 68 (0, 0)) from by (with_reducible repeat (first | refine blk_drewN ?_ _ | refine blk_drew ?_ | refine blk_alloc ?_ _)); exact BK235.out) (by decide)) hg (fun k_ hk_ e_ => hk_.2 (Option.some.inj e_))) (fun _ hk_ => hk_.1)); have n4_ := Aside0.mk (hbox); have n5_ := Aside0.mk (pw_below_grown (by repeat (first | (with_reducible first | exact HB.out | apply below_alloc | apply pw_below_drewN | apply below_drew1 | refine below_set ?_ (IsS111.ge HI208.out) | refine below_set ?_ GE235.out) | exact HB.out)) _ ((below_size (by repeat (first | (with_reducible first | exact HB.out | apply below_alloc | apply pw_below_drewN | apply below_drew1 | refine below_set ?_ (IsS111.ge HI208.out) | refine below_set ?_ GE235.out) | exact HB.out)))) hg (fun k_ e_ => by injection e_ with e_; subst e_; exact GE235.out)); clear HI208; clear HO211; clear HO230; clear HO233; clear BK235; clear HB; have HI208 := n0_; have HO211 := n1_; have HO230 := n2_; have HO233 := n3_; have BK235 := n4_; have HB := n5_; clear n0_ n1_ n2_ n3_ n4_ n5_; clear hg hbox; obtain ⟨Ao12, co12, eo12⟩ := Kd.R_slice HO211.out; subst eo12))
  go_loopg [6, 24] k (fun kq v6 v24 w' => ∃ (x6_1 : List Int) (x24_1 : Int) (x209001_1 : Int), v24 = .int .i64 x24_1 ∧ Aside0 (timeboundlaw36_ScratchFrees.l0 kq t209 x6_1 (t209.length : Int) x24_1 t206 x209001_1 t213 t214 t215 t216 t217 t218 t219 t220 t221 t222 t223 t224 t225 t226 t227 t228 t231 = some r) ∧ Aside0 (kq ≤ k) ∧ Aside0 (Kd.R k76 76 w' w.heap.size (fun _ => True) (.slice Ao12 t209.length co12) t209) ∧ Aside0 (Kd.R (Kd.int .i64) 3 w' w.heap.size (fun _ => True) v6 x6_1) ∧ Aside0 (Kd.R k74 74 w' w.heap.size (fun k_ => some k_ ≠ ((.slice Ao10 t231.length co10) : Value).ownBlock) (.slice Ao9 t228.length co9) t228) ∧ Aside0 (Kd.R k74 74 w' w.heap.size (fun k_ => some k_ ≠ ((.slice Ao9 t228.length co9) : Value).ownBlock) (.slice Ao10 t231.length co10) t231) ∧ Aside0 (w'.heap[gb235]? = some (.cells #[.int .i64 t213, .int .i64 t214, .int .i64 t215, .int .i64 t216, .int .i64 t217, .int .i64 t218, .int .i64 t219, .int .i64 t220, .int .i64 t221, .int .i64 t222, .int .i64 t223, .int .i64 t224, .int .i64 t225, .int .i64 t226, .int .i64 t227, (.slice Ao9 t228.length co9), (.slice Ao10 t231.length co10)] 68 (0, 0))) ∧ Aside0 (IsS111 w w' g208 t206 x209001_1) ∧ Aside0 (Below w.heap.size w w'))
  case atStart => exact ⟨(([] : List Int)), (0), (t234), (by first | rfl | (simp; done) | (simp [*]; done)), H', ⟨Nat.le_refl _⟩, ⟨by (with_reducible repeat (first | apply Kd.R_alloc | apply Kd.R_drewN | apply Kd.R_drew)); exact HO211.out⟩, ⟨by first | exact Kd.R_nil _ _ _ _ _ | exact Kd.N_nil _ _ _ _ _ | exact Kd.V_nil _ _ _ _ _ | exact Kd.Q_nil _ _ _ _ _ | exact Kd.S_nil _ _ _ _ _⟩, ⟨by (with_reducible repeat (first | apply Kd.R_alloc | apply Kd.R_drewN | apply Kd.R_drew)); exact HO230.out⟩, ⟨by (with_reducible repeat (first | apply Kd.R_alloc | apply Kd.R_drewN | apply Kd.R_drew)); exact HO233.out⟩, ⟨by (with_reducible repeat (first | refine blk_drewN ?_ _ | refine blk_drew ?_ | refine blk_alloc ?_ _)); exact BK235.out⟩, ⟨by repeat (first | (with_reducible first | exact HI208.out | apply IsS111.alloc | apply IsS111.drewN | apply IsS111.drew | apply IsS111.set_1 | refine IsS111.far ?_ NB208_235.out _) | exact HI208.out)⟩, ⟨by repeat (first | (with_reducible first | exact HB.out | apply below_alloc | apply pw_below_drewN | apply below_drew1 | refine below_set ?_ (IsS111.ge HI208.out) | refine below_set ?_ GE235.out) | exact HB.out)⟩⟩
  case round =>
    clear H'
    try clear p2
    try clear c8
    obtain ⟨x6_1, x24_1, x209001_1, rfl, HA, HK1, HO_4, HO_6, HO_236015, HO_236016, BK235, HI208, HB⟩ := hrel
    cases gk with
    | zero => exact absurd HA.out (by simp [timeboundlaw36_ScratchFrees.l0])
    | succ k1 =>
      have H := HA.out
      clear HA
      simp only [timeboundlaw36_ScratchFrees.l0] at H
      by_cases c13 : x24_1 < (t209.length : Int)
      · rw [if_pos c13] at H
        have c13b0 : decide (x24_1 < (t209.length : Int)) = true := decide_eq_true c13
        clear c13
        replace H := Option.bind_eq_some_iff.mp H
        obtain ⟨⟨t236, t237⟩, A140, H⟩ := H
        replace H : (if t236 = 0 then (if x6_1.length < 17592186044416 then (timeboundlaw36_ScratchFrees.l0 k1 t209 (x6_1 ++ [x24_1]) (t209.length : Int) (wrap64 (x24_1 + 1)) t206 t237 t213 t214 t215 t216 t217 t218 t219 t220 t221 t222 t223 t224 t225 t226 t227 t228 t231) else (none)) else (timeboundlaw36_ScratchFrees.l0 k1 t209 x6_1 (t209.length : Int) (wrap64 (x24_1 + 1)) t206 t237 t213 t214 t215 t216 t217 t218 t219 t220 t221 t222 t223 t224 t225 t226 t227 t228 t231)) = some r := H
        have A14 := Aside0.mk A140
        clear A140
        by_cases c15 : t236 = 0
        · rw [if_pos c15] at H
          have c15b0 : (t236 == 0) = true := beq_iff_eq.mpr c15
          have c15b1 : (t236 != 0) = false := bne_eq_false_iff_eq.mpr c15
          clear c15
          by_cases c16 : x6_1.length < 17592186044416
          · rw [if_pos c16] at H
            have LMc16 := Aside0.mk c16
            clear c16
            obtain ⟨y238, hy238⟩ : ∃ y_ : List Int, y_ = (x6_1 ++ [x24_1]) := ⟨_, rfl⟩
            replace H : (timeboundlaw36_ScratchFrees.l0 k1 t209 y238 (t209.length : Int) (wrap64 (x24_1 + 1)) t206 t237 t213 t214 t215 t216 t217 t218 t219 t220 t221 t222 t223 t224 t225 t226 t227 t228 t231) = some r := by first | (rw [hy238]; with_reducible exact H) | (have H2_ := (Option.bind_some _ _).symm.trans H; rw [hy238]; with_reducible exact H2_) | (have H2_ := (Option.bind_some _ _).symm.trans H; with_reducible exact H2_) | with_reducible exact H | (rw [hy238]; exact H) | exact H
            have Ny238 := Aside0.mk hy238
            clear hy238
            have H' := Aside0.mk H
            clear H
            go_wp2_with (first | (go_at_call 18; (with_reducible refine (timeboundmake_Deck_Next.calls g208 t206 x209001_1 2 t236 t237 w _ ?side1 ?side2 A14.out).mono ?_); (case side1 => repeat (first | (with_reducible first | exact HI208.out | apply IsS111.alloc | apply IsS111.drewN | apply IsS111.drew | apply IsS111.set_1 | refine IsS111.far ?_ NB208_235.out _) | exact HI208.out)); (case side2 => repeat (first | (with_reducible first | exact HB.out | apply below_alloc | apply pw_below_drewN | apply below_drew1 | refine below_set ?_ (IsS111.ge HI208.out) | refine below_set ?_ GE235.out) | exact HB.out)); rintro e w17 ⟨rfl, hi, hb, hk⟩; have n0_ := Aside0.mk (Kd.R_mono (Kd.R_keep (IsS111.apart (show IsS111 w _ g208 t206 x209001_1 from by repeat (first | (with_reducible first | exact HI208.out | apply IsS111.alloc | apply IsS111.drewN | apply IsS111.drew | apply IsS111.set_1 | refine IsS111.far ?_ NB208_235.out _) | exact HI208.out)) (by (with_reducible repeat (first | apply Kd.R_alloc | apply Kd.R_drewN | apply Kd.R_drew)); exact HO_4.out) (by decide)) hk (fun _ h => h.2)) (fun _ h => h.1)); have n1_ := Aside0.mk (Kd.R_mono (Kd.R_keep (IsS111.apart (show IsS111 w _ g208 t206 x209001_1 from by repeat (first | (with_reducible first | exact HI208.out | apply IsS111.alloc | apply IsS111.drewN | apply IsS111.drew | apply IsS111.set_1 | refine IsS111.far ?_ NB208_235.out _) | exact HI208.out)) (by (with_reducible repeat (first | apply Kd.R_alloc | apply Kd.R_drewN | apply Kd.R_drew)); exact HO_6.out) (by decide)) hk (fun _ h => h.2)) (fun _ h => h.1)); have n2_ := Aside0.mk (Kd.R_mono (Kd.R_keep (IsS111.apart (show IsS111 w _ g208 t206 x209001_1 from by repeat (first | (with_reducible first | exact HI208.out | apply IsS111.alloc | apply IsS111.drewN | apply IsS111.drew | apply IsS111.set_1 | refine IsS111.far ?_ NB208_235.out _) | exact HI208.out)) (by (with_reducible repeat (first | apply Kd.R_alloc | apply Kd.R_drewN | apply Kd.R_drew)); exact HO_236015.out) (by decide)) hk (fun _ h => h.2)) (fun _ h => h.1)); have n3_ := Aside0.mk (Kd.R_mono (Kd.R_keep (IsS111.apart (show IsS111 w _ g208 t206 x209001_1 from by repeat (first | (with_reducible first | exact HI208.out | apply IsS111.alloc | apply IsS111.drewN | apply IsS111.drew | apply IsS111.set_1 | refine IsS111.far ?_ NB208_235.out _) | exact HI208.out)) (by (with_reducible repeat (first | apply Kd.R_alloc | apply Kd.R_drewN | apply Kd.R_drew)); exact HO_236016.out) (by decide)) hk (fun _ h => h.2)) (fun _ h => h.1)); have n4_ := Aside0.mk (KeepBut.blk hk (g' := gb235) (o := .cells #[.int .i64 t213, .int .i64 t214, .int .i64 t215, .int .i64 t216, .int .i64 t217, .int .i64 t218, .int .i64 t219, .int .i64 t220, .int .i64 t221, .int .i64 t222, .int .i64 t223, .int .i64 t224, .int .i64 t225, .int .i64 t226, .int .i64 t227, .slice Ao9 t228.length co9, .slice Ao10 t231.length co10] 68 (0, 0)) (by (with_reducible repeat (first | refine blk_drewN ?_ _ | refine blk_drew ?_ | refine blk_alloc ?_ _)); exact BK235.out) NB235_208.out (by simp)); have n5_ := Aside0.mk (hb); have n6_ := Aside0.mk (hi); clear HO_4; clear HO_6; clear HO_236015; clear HO_236016; clear BK235; clear HB; clear HI208; have HO_4 := n0_; have HO_6 := n1_; have HO_236015 := n2_; have HO_236016 := n3_; have BK235 := n4_; have HB := n5_; have HI208 := n6_; clear n0_ n1_ n2_ n3_ n4_ n5_ n6_; (try clear hb); (try clear hb2); (try clear hk); (try clear hi)) | ((with_reducible refine gate_builtin (b := .append) (xs := #[.tmp 30, .tmp 32]) rfl ?_); at_builtin; refine Kd.R_append (Kd.int .i64) (w0 := w) w.heap.size rfl (.tmp 30) (.tmp 32) 22 3 (.int .i64 0) 8 rfl Try.underlying22 info3 rfl (by decide) (by omega) u6 x6_1 x24_1 [.int .i64 x24_1] (fun _ => True) (fun _ => False) rfl rfl ?aP (fun _ hk => hk.elim) ?aF ?aO ?aB ?aS ?aL ?_; (case aP => exact rfl); (case aB => exact (by repeat (first | (with_reducible first | exact HB.out | apply below_alloc | apply pw_below_drewN | apply below_drew1 | refine below_set ?_ (IsS111.ge HI208.out) | refine below_set ?_ GE235.out) | exact HB.out))); (case aF => exact (fun _ _ => trivial)); (case aO => exact (by (with_reducible repeat (first | apply Kd.R_alloc | apply Kd.R_drewN | apply Kd.R_drew)); exact HO_6.out)); (case aS => exact (below_size (by repeat (first | (with_reducible first | exact HB.out | apply below_alloc | apply pw_below_drewN | apply below_drew1 | refine below_set ?_ (IsS111.ge HI208.out) | refine below_set ?_ GE235.out) | exact HB.out)))); (case aL => have := LMc16.out; omega); intro v239 w18 ho hb hg hat; rw [← Ny238.out] at ho; have n0_ := Aside0.mk (Kd.R_over' (by (with_reducible repeat (first | apply Kd.R_alloc | apply Kd.R_drewN | apply Kd.R_drew)); exact HO_4.out) (Kd.R_typed (by (with_reducible repeat (first | apply Kd.R_alloc | apply Kd.R_drewN | apply Kd.R_drew)); exact HO_6.out)) (by decide) hg); have n1_ := Aside0.mk (Kd.R_over' (by (with_reducible repeat (first | apply Kd.R_alloc | apply Kd.R_drewN | apply Kd.R_drew)); exact HO_236015.out) (Kd.R_typed (by (with_reducible repeat (first | apply Kd.R_alloc | apply Kd.R_drewN | apply Kd.R_drew)); exact HO_6.out)) (by decide) hg); have n2_ := Aside0.mk (Kd.R_over' (by (with_reducible repeat (first | apply Kd.R_alloc | apply Kd.R_drewN | apply Kd.R_drew)); exact HO_236016.out) (Kd.R_typed (by (with_reducible repeat (first | apply Kd.R_alloc | apply Kd.R_drewN | apply Kd.R_drew)); exact HO_6.out)) (by decide) hg); have n3_ := Aside0.mk (blk_grown (g := gb235) (o := .cells #[.int .i64 t213, .int .i64 t214, .int .i64 t215, .int .i64 t216, .int .i64 t217, .int .i64 t218, .int .i64 t219, .int .i64 t220, .int .i64 t221, .int .i64 t222, .int .i64 t223, .int .i64 t224, .int .i64 t225, .int .i64 t226, .int .i64 t227, .slice Ao9 t228.length co9, .slice Ao10 t231.length co10] 68 (0, 0)) (by (with_reducible repeat (first | refine blk_drewN ?_ _ | refine blk_drew ?_ | refine blk_alloc ?_ _)); exact BK235.out) hg (Kd.R_ne HO_6.out BK235.out (by decide))); have n4_ := Aside0.mk (IsS111.grown (by repeat (first | (with_reducible first | exact HI208.out | apply IsS111.alloc | apply IsS111.drewN | apply IsS111.drew | apply IsS111.set_1 | refine IsS111.far ?_ NB208_235.out _) | exact HI208.out)) hg (IsS111.own_ne HI208.out HO_6.out (by decide))); have n5_ := Aside0.mk (hb); have n6_ := Aside0.mk (ho); clear HO_4; clear HO_236015; clear HO_236016; clear BK235; clear HI208; clear HB; clear HO_6; have HO_4 := n0_; have HO_236015 := n1_; have HO_236016 := n2_; have BK235 := n3_; have HI208 := n4_; have HB := n5_; have HO240 := n6_; clear n0_ n1_ n2_ n3_ n4_ n5_ n6_; clear ho hb hg hat))
            go_roundg k1
            case measure => have := HK1.out; omega
            case rel => exact ⟨(y238), (wrap64 (x24_1 + 1)), (t237), (by first | rfl | (simp; done) | (simp [*]; done)), H', ⟨by have := HK1.out; omega⟩, ⟨by (with_reducible repeat (first | apply Kd.R_alloc | apply Kd.R_drewN | apply Kd.R_drew)); exact HO_4.out⟩, ⟨by (with_reducible repeat (first | apply Kd.R_alloc | apply Kd.R_drewN | apply Kd.R_drew)); exact HO240.out⟩, ⟨by (with_reducible repeat (first | apply Kd.R_alloc | apply Kd.R_drewN | apply Kd.R_drew)); exact HO_236015.out⟩, ⟨by (with_reducible repeat (first | apply Kd.R_alloc | apply Kd.R_drewN | apply Kd.R_drew)); exact HO_236016.out⟩, ⟨by (with_reducible repeat (first | refine blk_drewN ?_ _ | refine blk_drew ?_ | refine blk_alloc ?_ _)); exact BK235.out⟩, ⟨by repeat (first | (with_reducible first | exact HI208.out | apply IsS111.alloc | apply IsS111.drewN | apply IsS111.drew | apply IsS111.set_1 | refine IsS111.far ?_ NB208_235.out _) | exact HI208.out)⟩, ⟨by repeat (first | (with_reducible first | exact HB.out | apply below_alloc | apply pw_below_drewN | apply below_drew1 | refine below_set ?_ (IsS111.ge HI208.out) | refine below_set ?_ GE235.out) | exact HB.out)⟩⟩
          · rw [if_neg c16] at H
            exact absurd H (by simp)
        · rw [if_neg c15] at H
          have c15b0 : (t236 == 0) = false := beq_eq_false_iff_ne.mpr c15
          have c15b1 : (t236 != 0) = true := bne_iff_ne.mpr c15
          have H' := Aside0.mk H
          clear H
          go_wp2_with (first | (go_at_call 18; (with_reducible refine (timeboundmake_Deck_Next.calls g208 t206 x209001_1 2 t236 t237 w _ ?side1 ?side2 A14.out).mono ?_); (case side1 => repeat (first | (with_reducible first | exact HI208.out | apply IsS111.alloc | apply IsS111.drewN | apply IsS111.drew | apply IsS111.set_1 | refine IsS111.far ?_ NB208_235.out _) | exact HI208.out)); (case side2 => repeat (first | (with_reducible first | exact HB.out | apply below_alloc | apply pw_below_drewN | apply below_drew1 | refine below_set ?_ (IsS111.ge HI208.out) | refine below_set ?_ GE235.out) | exact HB.out)); rintro e w19 ⟨rfl, hi, hb, hk⟩; have n0_ := Aside0.mk (Kd.R_mono (Kd.R_keep (IsS111.apart (show IsS111 w _ g208 t206 x209001_1 from by repeat (first | (with_reducible first | exact HI208.out | apply IsS111.alloc | apply IsS111.drewN | apply IsS111.drew | apply IsS111.set_1 | refine IsS111.far ?_ NB208_235.out _) | exact HI208.out)) (by (with_reducible repeat (first | apply Kd.R_alloc | apply Kd.R_drewN | apply Kd.R_drew)); exact HO_4.out) (by decide)) hk (fun _ h => h.2)) (fun _ h => h.1)); have n1_ := Aside0.mk (Kd.R_mono (Kd.R_keep (IsS111.apart (show IsS111 w _ g208 t206 x209001_1 from by repeat (first | (with_reducible first | exact HI208.out | apply IsS111.alloc | apply IsS111.drewN | apply IsS111.drew | apply IsS111.set_1 | refine IsS111.far ?_ NB208_235.out _) | exact HI208.out)) (by (with_reducible repeat (first | apply Kd.R_alloc | apply Kd.R_drewN | apply Kd.R_drew)); exact HO_6.out) (by decide)) hk (fun _ h => h.2)) (fun _ h => h.1)); have n2_ := Aside0.mk (Kd.R_mono (Kd.R_keep (IsS111.apart (show IsS111 w _ g208 t206 x209001_1 from by repeat (first | (with_reducible first | exact HI208.out | apply IsS111.alloc | apply IsS111.drewN | apply IsS111.drew | apply IsS111.set_1 | refine IsS111.far ?_ NB208_235.out _) | exact HI208.out)) (by (with_reducible repeat (first | apply Kd.R_alloc | apply Kd.R_drewN | apply Kd.R_drew)); exact HO_236015.out) (by decide)) hk (fun _ h => h.2)) (fun _ h => h.1)); have n3_ := Aside0.mk (Kd.R_mono (Kd.R_keep (IsS111.apart (show IsS111 w _ g208 t206 x209001_1 from by repeat (first | (with_reducible first | exact HI208.out | apply IsS111.alloc | apply IsS111.drewN | apply IsS111.drew | apply IsS111.set_1 | refine IsS111.far ?_ NB208_235.out _) | exact HI208.out)) (by (with_reducible repeat (first | apply Kd.R_alloc | apply Kd.R_drewN | apply Kd.R_drew)); exact HO_236016.out) (by decide)) hk (fun _ h => h.2)) (fun _ h => h.1)); have n4_ := Aside0.mk (KeepBut.blk hk (g' := gb235) (o := .cells #[.int .i64 t213, .int .i64 t214, .int .i64 t215, .int .i64 t216, .int .i64 t217, .int .i64 t218, .int .i64 t219, .int .i64 t220, .int .i64 t221, .int .i64 t222, .int .i64 t223, .int .i64 t224, .int .i64 t225, .int .i64 t226, .int .i64 t227, .slice Ao9 t228.length co9, .slice Ao10 t231.length co10] 68 (0, 0)) (by (with_reducible repeat (first | refine blk_drewN ?_ _ | refine blk_drew ?_ | refine blk_alloc ?_ _)); exact BK235.out) NB235_208.out (by simp)); have n5_ := Aside0.mk (hb); have n6_ := Aside0.mk (hi); clear HO_4; clear HO_6; clear HO_236015; clear HO_236016; clear BK235; clear HB; clear HI208; have HO_4 := n0_; have HO_6 := n1_; have HO_236015 := n2_; have HO_236016 := n3_; have BK235 := n4_; have HB := n5_; have HI208 := n6_; clear n0_ n1_ n2_ n3_ n4_ n5_ n6_; (try clear hb); (try clear hb2); (try clear hk); (try clear hi)))
          go_roundg k1
          case measure => have := HK1.out; omega
          case rel => exact ⟨(x6_1), (wrap64 (x24_1 + 1)), (t237), (by first | rfl | (simp; done) | (simp [*]; done)), H', ⟨by have := HK1.out; omega⟩, ⟨by (with_reducible repeat (first | apply Kd.R_alloc | apply Kd.R_drewN | apply Kd.R_drew)); exact HO_4.out⟩, ⟨by (with_reducible repeat (first | apply Kd.R_alloc | apply Kd.R_drewN | apply Kd.R_drew)); exact HO_6.out⟩, ⟨by (with_reducible repeat (first | apply Kd.R_alloc | apply Kd.R_drewN | apply Kd.R_drew)); exact HO_236015.out⟩, ⟨by (with_reducible repeat (first | apply Kd.R_alloc | apply Kd.R_drewN | apply Kd.R_drew)); exact HO_236016.out⟩, ⟨by (with_reducible repeat (first | refine blk_drewN ?_ _ | refine blk_drew ?_ | refine blk_alloc ?_ _)); exact BK235.out⟩, ⟨by repeat (first | (with_reducible first | exact HI208.out | apply IsS111.alloc | apply IsS111.drewN | apply IsS111.drew | apply IsS111.set_1 | refine IsS111.far ?_ NB208_235.out _) | exact HI208.out)⟩, ⟨by repeat (first | (with_reducible first | exact HB.out | apply below_alloc | apply pw_below_drewN | apply below_drew1 | refine below_set ?_ (IsS111.ge HI208.out) | refine below_set ?_ GE235.out) | exact HB.out)⟩⟩
      · rw [if_neg c13] at H
        have c13b0 : decide (x24_1 < (t209.length : Int)) = false := decide_eq_false c13
        clear c13
        replace H := Option.bind_eq_some_iff.mp H
        obtain ⟨⟨t241, t242, t243, t244, t245, t246, t247, t248, t249, t250, t251, t252, t253, t254, t255, t256, t259, t262⟩, A200, H⟩ := H
        replace H : (timeboundlaw36_ScratchFrees.j1 k1 t209 x6_1 t262 (t262 != 0) t213 t214 t215 t216 t217 t218 t219 t220 t221 t222 t223 t224 t225 t226 t227 t228 t231 t241 t242 t243 t244 t245 t246 t247 t248 t249 t250 t251 t252 t253 t254 t255 t256 t259) = some r := H
        have A20 := Aside0.mk A200
        clear A200
        have HC21 := Aside0.mk H
        clear H
        obtain ⟨Ao22, co22, eo22⟩ := Kd.R_slice HO_6.out
        subst eo22
        go_upto_region 11 with (first | ((with_reducible refine gate_dst (N := 36) rfl ?_); refine wpList_load_row rfl 68 _ rfl gb235 rfl 68 #[.int .i64 t213, .int .i64 t214, .int .i64 t215, .int .i64 t216, .int .i64 t217, .int .i64 t218, .int .i64 t219, .int .i64 t220, .int .i64 t221, .int .i64 t222, .int .i64 t223, .int .i64 t224, .int .i64 t225, .int .i64 t226, .int .i64 t227, .slice Ao9 t228.length co9, .slice Ao10 t231.length co10] (0, 0) _ (by (with_reducible repeat (first | refine blk_drewN ?_ _ | refine blk_drew ?_ | refine blk_alloc ?_ _)); exact BK235.out) Try.underlying68 rfl (by kernel_rfl) ?_) | (go_at_call 42; (with_reducible refine (scratch_Place.calls k1 t213 t214 t215 t216 t217 t218 t219 t220 t221 t222 t223 t224 t225 t226 t227 _ _ t228 _ _ t231 _ _ t209 _ _ x6_1 t241 t242 t243 t244 t245 t246 t247 t248 t249 t250 t251 t252 t253 t254 t255 t256 t259 t262 _ ?side1 ?side2 ?side3 ?side4 ?side5 ?side6 ?side7 ?side8 A20.out).mono ?_); (case side1 => repeat (first | exact (Kd.R_reads' HO_236015.out).2.2 | (with_reducible refine Kd.C_alloc ?_ _) | (with_reducible refine Kd.C_drewN ?_ _) | (with_reducible refine Kd.C_drew ?_))); (case side2 => exact (Kd.R_reads' HO_236015.out).2.1); (case side3 => repeat (first | exact (Kd.R_reads' HO_236016.out).2.2 | (with_reducible refine Kd.C_alloc ?_ _) | (with_reducible refine Kd.C_drewN ?_ _) | (with_reducible refine Kd.C_drew ?_))); (case side4 => exact (Kd.R_reads' HO_236016.out).2.1); (case side5 => repeat (first | exact (Kd.R_reads' HO_4.out).2.2 | (with_reducible refine Kd.C_alloc ?_ _) | (with_reducible refine Kd.C_drewN ?_ _) | (with_reducible refine Kd.C_drew ?_))); (case side6 => exact (Kd.R_reads' HO_4.out).2.1); (case side7 => repeat (first | exact (Kd.R_reads' HO_6.out).2.2 | (with_reducible refine Kd.C_alloc ?_ _) | (with_reducible refine Kd.C_drewN ?_ _) | (with_reducible refine Kd.C_drew ?_))); (case side8 => exact (Kd.R_reads' HO_6.out).2.1); rintro e w23 ⟨v257, v260, rfl, ho0, ho1, hb⟩; have n0_ := Aside0.mk (Kd.R_below (by (with_reducible repeat (first | apply Kd.R_alloc | apply Kd.R_drewN | apply Kd.R_drew)); exact HO_4.out) hb); have n1_ := Aside0.mk (Kd.R_below (by (with_reducible repeat (first | apply Kd.R_alloc | apply Kd.R_drewN | apply Kd.R_drew)); exact HO_6.out) hb); have n2_ := Aside0.mk (Kd.R_mono (Kd.R_told (Kd.R_told (Kd.R_old (by (with_reducible repeat (first | apply Kd.R_alloc | apply Kd.R_drewN | apply Kd.R_drew)); exact HO_236015.out) hb) (Kd.R_base ho0)) (Kd.R_base ho1)) (fun _ h_ => h_.1)); have n3_ := Aside0.mk (Kd.R_mono (Kd.R_told (Kd.R_told (Kd.R_old (by (with_reducible repeat (first | apply Kd.R_alloc | apply Kd.R_drewN | apply Kd.R_drew)); exact HO_236016.out) hb) (Kd.R_base ho0)) (Kd.R_base ho1)) (fun _ h_ => h_.1)); have n4_ := Aside0.mk (Kd.R_lower (Kd.R_new' (Kd.R_new' ho0 (Kd.R_lt (by (with_reducible repeat (first | apply Kd.R_alloc | apply Kd.R_drewN | apply Kd.R_drew)); exact HO_236015.out))) (Kd.R_lt (by (with_reducible repeat (first | apply Kd.R_alloc | apply Kd.R_drewN | apply Kd.R_drew)); exact HO_236016.out))) (below_size (by repeat (first | (with_reducible first | exact HB.out | apply below_alloc | apply pw_below_drewN | apply below_drew1 | refine below_set ?_ (IsS111.ge HI208.out) | refine below_set ?_ GE235.out) | exact HB.out)))); have n5_ := Aside0.mk (Kd.R_lower (Kd.R_new' (Kd.R_new' ho1 (Kd.R_lt (by (with_reducible repeat (first | apply Kd.R_alloc | apply Kd.R_drewN | apply Kd.R_drew)); exact HO_236015.out))) (Kd.R_lt (by (with_reducible repeat (first | apply Kd.R_alloc | apply Kd.R_drewN | apply Kd.R_drew)); exact HO_236016.out))) (below_size (by repeat (first | (with_reducible first | exact HB.out | apply below_alloc | apply pw_below_drewN | apply below_drew1 | refine below_set ?_ (IsS111.ge HI208.out) | refine below_set ?_ GE235.out) | exact HB.out)))); have n6_ := Aside0.mk (blk_below (g := gb235) (o := .cells #[.int .i64 t213, .int .i64 t214, .int .i64 t215, .int .i64 t216, .int .i64 t217, .int .i64 t218, .int .i64 t219, .int .i64 t220, .int .i64 t221, .int .i64 t222, .int .i64 t223, .int .i64 t224, .int .i64 t225, .int .i64 t226, .int .i64 t227, .slice Ao9 t228.length co9, .slice Ao10 t231.length co10] 68 (0, 0)) (by (with_reducible repeat (first | refine blk_drewN ?_ _ | refine blk_drew ?_ | refine blk_alloc ?_ _)); exact BK235.out) hb); have n7_ := Aside0.mk (IsS111.below (by repeat (first | (with_reducible first | exact HI208.out | apply IsS111.alloc | apply IsS111.drewN | apply IsS111.drew | apply IsS111.set_1 | refine IsS111.far ?_ NB208_235.out _) | exact HI208.out)) hb); have n8_ := Aside0.mk (below_step (by repeat (first | (with_reducible first | exact HB.out | apply below_alloc | apply pw_below_drewN | apply below_drew1 | refine below_set ?_ (IsS111.ge HI208.out) | refine below_set ?_ GE235.out) | exact HB.out)) hb); clear HO_4; clear HO_6; clear HO_236015; clear HO_236016; clear BK235; clear HI208; clear HB; have HO_4 := n0_; have HO_6 := n1_; have HO_236015 := n2_; have HO_236016 := n3_; have HO258 := n4_; have HO261 := n5_; have BK235 := n6_; have HI208 := n7_; have HB := n8_; clear n0_ n1_ n2_ n3_ n4_ n5_ n6_ n7_ n8_; (try clear hb); (try clear hb2); (try clear hk); (try clear hi); (try clear ho0); (try clear ho1)) | ((with_reducible refine gate_dst (N := 8) rfl ?_); refine box_event ?hg (N := 8) ?hd (cs := #[.int .i64 0, .int .i64 0, .int .i64 0, .int .i64 0, .int .i64 0, .int .i64 0, .int .i64 0, .int .i64 0, .int .i64 0, .int .i64 0, .int .i64 0, .int .i64 0, .int .i64 0, .int .i64 0, .int .i64 0, .slice none 0 0, .slice none 0 0]) (t := 68) ?hr ?_; (case hd => rfl); (case hg => rfl); (case hr => first | (go_simp; done) | (go_simp; rfl)); intro gb263 hg w24 hbox hb; have n0_ := Aside0.mk (Kd.R_below (by (with_reducible repeat (first | apply Kd.R_alloc | apply Kd.R_drewN | apply Kd.R_drew)); exact HO_4.out) hb); have n1_ := Aside0.mk (Kd.R_below (by (with_reducible repeat (first | apply Kd.R_alloc | apply Kd.R_drewN | apply Kd.R_drew)); exact HO_6.out) hb); have n2_ := Aside0.mk (Kd.R_below (by (with_reducible repeat (first | apply Kd.R_alloc | apply Kd.R_drewN | apply Kd.R_drew)); exact HO_236015.out) hb); have n3_ := Aside0.mk (Kd.R_below (by (with_reducible repeat (first | apply Kd.R_alloc | apply Kd.R_drewN | apply Kd.R_drew)); exact HO_236016.out) hb); have n4_ := Aside0.mk (Kd.R_below (by (with_reducible repeat (first | apply Kd.R_alloc | apply Kd.R_drewN | apply Kd.R_drew)); exact HO258.out) hb); have n5_ := Aside0.mk (Kd.R_below (by (with_reducible repeat (first | apply Kd.R_alloc | apply Kd.R_drewN | apply Kd.R_drew)); exact HO261.out) hb); have n6_ := Aside0.mk (blk_below (g := gb235) (o := .cells #[.int .i64 t213, .int .i64 t214, .int .i64 t215, .int .i64 t216, .int .i64 t217, .int .i64 t218, .int .i64 t219, .int .i64 t220, .int .i64 t221, .int .i64 t222, .int .i64 t223, .int .i64 t224, .int .i64 t225, .int .i64 t226, .int .i64 t227, .slice Ao9 t228.length co9, .slice Ao10 t231.length co10] 68 (0, 0)) (by (with_reducible repeat (first | refine blk_drewN ?_ _ | refine blk_drew ?_ | refine blk_alloc ?_ _)); exact BK235.out) hb); have n7_ := Aside0.mk (IsS111.below (by repeat (first | (with_reducible first | exact HI208.out | apply IsS111.alloc | apply IsS111.drewN | apply IsS111.drew | apply IsS111.set_1 | refine IsS111.far ?_ NB208_235.out _) | exact HI208.out)) hb); have n8_ := Aside0.mk (below_step (by repeat (first | (with_reducible first | exact HB.out | apply below_alloc | apply pw_below_drewN | apply below_drew1 | refine below_set ?_ (IsS111.ge HI208.out) | refine below_set ?_ GE235.out) | exact HB.out)) hb); have n9_ := Aside0.mk (hbox); have n10_ := Aside0.mk ((by rw [hg]; exact (below_size (by repeat (first | (with_reducible first | exact HB.out | apply below_alloc | apply pw_below_drewN | apply below_drew1 | refine below_set ?_ (IsS111.ge HI208.out) | refine below_set ?_ GE235.out) | exact HB.out))) : w.heap.size ≤ gb263)); have n11_ := Aside0.mk ((by rw [hg]; exact (below_size (by repeat (first | (with_reducible first | exact HB.out | apply below_alloc | apply pw_below_drewN | apply below_drew1 | refine below_set ?_ (IsS111.ge HI208.out) | refine below_set ?_ GE235.out) | exact HB.out))) : w.heap.size ≤ gb263)); have n12_ := Aside0.mk ((by rw [hg]; exact Nat.ne_of_lt (blk_lt (g := gb235) (o := .cells #[.int .i64 t213, .int .i64 t214, .int .i64 t215, .int .i64 t216, .int .i64 t217, .int .i64 t218, .int .i64 t219, .int .i64 t220, .int .i64 t221, .int .i64 t222, .int .i64 t223, .int .i64 t224, .int .i64 t225, .int .i64 t226, .int .i64 t227, .slice Ao9 t228.length co9, .slice Ao10 t231.length co10] 68 (0, 0)) (by (with_reducible repeat (first | refine blk_drewN ?_ _ | refine blk_drew ?_ | refine blk_alloc ?_ _)); exact BK235.out)) : gb235 ≠ gb263)); have n13_ := Aside0.mk ((by rw [hg]; exact Nat.ne_of_gt (blk_lt (g := gb235) (o := .cells #[.int .i64 t213, .int .i64 t214, .int .i64 t215, .int .i64 t216, .int .i64 t217, .int .i64 t218, .int .i64 t219, .int .i64 t220, .int .i64 t221, .int .i64 t222, .int .i64 t223, .int .i64 t224, .int .i64 t225, .int .i64 t226, .int .i64 t227, .slice Ao9 t228.length co9, .slice Ao10 t231.length co10] 68 (0, 0)) (by (with_reducible repeat (first | refine blk_drewN ?_ _ | refine blk_drew ?_ | refine blk_alloc ?_ _)); exact BK235.out)) : gb263 ≠ gb235)); have n14_ := Aside0.mk ((by rw [hg]; exact Nat.ne_of_lt (IsS111.lt (show IsS111 w _ g208 t206 x209001_1 from by repeat (first | (with_reducible first | exact HI208.out | apply IsS111.alloc | apply IsS111.drewN | apply IsS111.drew | apply IsS111.set_1 | refine IsS111.far ?_ NB208_235.out _) | exact HI208.out))) : g208 ≠ gb263)); have n15_ := Aside0.mk ((by rw [hg]; exact Nat.ne_of_gt (IsS111.lt (show IsS111 w _ g208 t206 x209001_1 from by repeat (first | (with_reducible first | exact HI208.out | apply IsS111.alloc | apply IsS111.drewN | apply IsS111.drew | apply IsS111.set_1 | refine IsS111.far ?_ NB208_235.out _) | exact HI208.out))) : gb263 ≠ g208)); clear HO_4; clear HO_6; clear HO_236015; clear HO_236016; clear HO258; clear HO261; clear BK235; clear HI208; clear HB; have HO_4 := n0_; have HO_6 := n1_; have HO_236015 := n2_; have HO_236016 := n3_; have HO258 := n4_; have HO261 := n5_; have BK235 := n6_; have HI208 := n7_; have HB := n8_; have BK263 := n9_; have GW263 := n10_; have GE263 := n11_; have NB235_263 := n12_; have NB263_235 := n13_; have NB208_263 := n14_; have NB263_208 := n15_; clear n0_ n1_ n2_ n3_ n4_ n5_ n6_ n7_ n8_ n9_ n10_ n11_ n12_ n13_ n14_ n15_; clear hb hbox hg; obtain ⟨Ao25, co25, eo25⟩ := Kd.R_slice HO258.out; subst eo25; obtain ⟨Ao26, co26, eo26⟩ := Kd.R_slice HO261.out; subst eo26) | ((with_reducible refine gate_store (t := 68) (p := 8) rfl ?_); (try (rw [drewN_self w24]; generalize hq_ : World.drewN w24 _ = w24; have n0_ := Aside0.mk (Kd.R_at hq_ HO_4.out); have n1_ := Aside0.mk (Kd.R_at hq_ HO_6.out); have n2_ := Aside0.mk (Kd.R_at hq_ HO_236015.out); have n3_ := Aside0.mk (Kd.R_at hq_ HO_236016.out); have n4_ := Aside0.mk (Kd.R_at hq_ HO258.out); have n5_ := Aside0.mk (Kd.R_at hq_ HO261.out); have n6_ := Aside0.mk (blk_at hq_ BK235.out); have n7_ := Aside0.mk (blk_at hq_ BK263.out); have n8_ := Aside0.mk (IsS111.at_ hq_ HI208.out); have n9_ := Aside0.mk (below_at hq_ HB.out); clear hq_ HO_4 HO_6 HO_236015 HO_236016 HO258 HO261 BK235 BK263 HI208 HB; have HO_4 := n0_; have HO_6 := n1_; have HO_236015 := n2_; have HO_236016 := n3_; have HO258 := n4_; have HO261 := n5_; have BK235 := n6_; have BK263 := n7_; have HI208 := n8_; have HB := n9_; clear n0_ n1_ n2_ n3_ n4_ n5_ n6_ n7_ n8_ n9_; (try (obtain ⟨Ao25, co25, eo25⟩ := Kd.R_slice HO258.out)); (try (subst eo25)); (try (obtain ⟨Ao26, co26, eo26⟩ := Kd.R_slice HO261.out)); (try (subst eo26)))); refine row_event (t := 68) (p := 8) (g := gb263) (old := #[.int .i64 0, .int .i64 0, .int .i64 0, .int .i64 0, .int .i64 0, .int .i64 0, .int .i64 0, .int .i64 0, .int .i64 0, .int .i64 0, .int .i64 0, .int .i64 0, .int .i64 0, .int .i64 0, .int .i64 0, .slice none 0 0, .slice none 0 0]) (new := #[.int .i64 t241, .int .i64 t242, .int .i64 t243, .int .i64 t244, .int .i64 t245, .int .i64 t246, .int .i64 t247, .int .i64 t248, .int .i64 t249, .int .i64 t250, .int .i64 t251, .int .i64 t252, .int .i64 t253, .int .i64 t254, .int .i64 t255, .slice Ao25 t256.length co25, .slice Ao26 t259.length co26]) (tt := 68) rfl rfl rfl (by (with_reducible repeat (first | refine blk_drewN ?_ _ | refine blk_drew ?_ | refine blk_alloc ?_ _)); exact BK263.out) rfl rfl (by kernel_rfl) rfl rfl ?_; intro w27 hbox hg; have n0_ := Aside0.mk (Kd.R_mono (Kd.R_grown (Kd.R_types (by (with_reducible repeat (first | apply Kd.R_alloc | apply Kd.R_drewN | apply Kd.R_drew)); exact HO_4.out) (show _ = some (Obj.cells #[.int .i64 0, .int .i64 0, .int .i64 0, .int .i64 0, .int .i64 0, .int .i64 0, .int .i64 0, .int .i64 0, .int .i64 0, .int .i64 0, .int .i64 0, .int .i64 0, .int .i64 0, .int .i64 0, .int .i64 0, .slice none 0 0, .slice none 0 0] 68 (0, 0)) from by (with_reducible repeat (first | refine blk_drewN ?_ _ | refine blk_drew ?_ | refine blk_alloc ?_ _)); exact BK263.out) (by decide)) hg (fun k_ hk_ e_ => hk_.2 (Option.some.inj e_))) (fun _ hk_ => hk_.1)); have n1_ := Aside0.mk (Kd.R_mono (Kd.R_grown (Kd.R_types (by (with_reducible repeat (first | apply Kd.R_alloc | apply Kd.R_drewN | apply Kd.R_drew)); exact HO_6.out) (show _ = some (Obj.cells #[.int .i64 0, .int .i64 0, .int .i64 0, .int .i64 0, .int .i64 0, .int .i64 0, .int .i64 0, .int .i64 0, .int .i64 0, .int .i64 0, .int .i64 0, .int .i64 0, .int .i64 0, .int .i64 0, .int .i64 0, .slice none 0 0, .slice none 0 0] 68 (0, 0)) from by (with_reducible repeat (first | refine blk_drewN ?_ _ | refine blk_drew ?_ | refine blk_alloc ?_ _)); exact BK263.out) (by decide)) hg (fun k_ hk_ e_ => hk_.2 (Option.some.inj e_))) (fun _ hk_ => hk_.1)); have n2_ := Aside0.mk (Kd.R_mono (Kd.R_grown (Kd.R_types (by (with_reducible repeat (first | apply Kd.R_alloc | apply Kd.R_drewN | apply Kd.R_drew)); exact HO_236015.out) (show _ = some (Obj.cells #[.int .i64 0, .int .i64 0, .int .i64 0, .int .i64 0, .int .i64 0, .int .i64 0, .int .i64 0, .int .i64 0, .int .i64 0, .int .i64 0, .int .i64 0, .int .i64 0, .int .i64 0, .int .i64 0, .int .i64 0, .slice none 0 0, .slice none 0 0] 68 (0, 0)) from by (with_reducible repeat (first | refine blk_drewN ?_ _ | refine blk_drew ?_ | refine blk_alloc ?_ _)); exact BK263.out) (by decide)) hg (fun k_ hk_ e_ => hk_.2 (Option.some.inj e_))) (fun _ hk_ => hk_.1)); have n3_ := Aside0.mk (Kd.R_mono (Kd.R_grown (Kd.R_types (by (with_reducible repeat (first | apply Kd.R_alloc | apply Kd.R_drewN | apply Kd.R_drew)); exact HO_236016.out) (show _ = some (Obj.cells #[.int .i64 0, .int .i64 0, .int .i64 0, .int .i64 0, .int .i64 0, .int .i64 0, .int .i64 0, .int .i64 0, .int .i64 0, .int .i64 0, .int .i64 0, .int .i64 0, .int .i64 0, .int .i64 0, .int .i64 0, .slice none 0 0, .slice none 0 0] 68 (0, 0)) from by (with_reducible repeat (first | refine blk_drewN ?_ _ | refine blk_drew ?_ | refine blk_alloc ?_ _)); exact BK263.out) (by decide)) hg (fun k_ hk_ e_ => hk_.2 (Option.some.inj e_))) (fun _ hk_ => hk_.1)); have n4_ := Aside0.mk (blk_rowed (show _ = some (Obj.cells #[.int .i64 t213, .int .i64 t214, .int .i64 t215, .int .i64 t216, .int .i64 t217, .int .i64 t218, .int .i64 t219, .int .i64 t220, .int .i64 t221, .int .i64 t222, .int .i64 t223, .int .i64 t224, .int .i64 t225, .int .i64 t226, .int .i64 t227, .slice Ao9 t228.length co9, .slice Ao10 t231.length co10] 68 (0, 0)) from by (with_reducible repeat (first | refine blk_drewN ?_ _ | refine blk_drew ?_ | refine blk_alloc ?_ _)); exact BK235.out) hg NB235_263.out); have n5_ := Aside0.mk (IsS111.grown (show IsS111 w _ g208 t206 x209001_1 from by repeat (first | (with_reducible first | exact HI208.out | apply IsS111.alloc | apply IsS111.drewN | apply IsS111.drew | apply IsS111.set_1 | refine IsS111.far ?_ NB208_235.out _ | refine IsS111.far ?_ NB208_263.out _) | exact HI208.out)) hg (fun e_ => NB208_263.out (Option.some.inj e_))); have n6_ := Aside0.mk (Kd.R_mono (Kd.R_grown (Kd.R_types (by (with_reducible repeat (first | apply Kd.R_alloc | apply Kd.R_drewN | apply Kd.R_drew)); exact HO258.out) (show _ = some (Obj.cells #[.int .i64 0, .int .i64 0, .int .i64 0, .int .i64 0, .int .i64 0, .int .i64 0, .int .i64 0, .int .i64 0, .int .i64 0, .int .i64 0, .int .i64 0, .int .i64 0, .int .i64 0, .int .i64 0, .int .i64 0, .slice none 0 0, .slice none 0 0] 68 (0, 0)) from by (with_reducible repeat (first | refine blk_drewN ?_ _ | refine blk_drew ?_ | refine blk_alloc ?_ _)); exact BK263.out) (by decide)) hg (fun k_ hk_ e_ => hk_.2 (Option.some.inj e_))) (fun _ hk_ => hk_.1)); have n7_ := Aside0.mk (Kd.R_mono (Kd.R_grown (Kd.R_types (by (with_reducible repeat (first | apply Kd.R_alloc | apply Kd.R_drewN | apply Kd.R_drew)); exact HO261.out) (show _ = some (Obj.cells #[.int .i64 0, .int .i64 0, .int .i64 0, .int .i64 0, .int .i64 0, .int .i64 0, .int .i64 0, .int .i64 0, .int .i64 0, .int .i64 0, .int .i64 0, .int .i64 0, .int .i64 0, .int .i64 0, .int .i64 0, .slice none 0 0, .slice none 0 0] 68 (0, 0)) from by (with_reducible repeat (first | refine blk_drewN ?_ _ | refine blk_drew ?_ | refine blk_alloc ?_ _)); exact BK263.out) (by decide)) hg (fun k_ hk_ e_ => hk_.2 (Option.some.inj e_))) (fun _ hk_ => hk_.1)); have n8_ := Aside0.mk (hbox); have n9_ := Aside0.mk (pw_below_grown (by repeat (first | (with_reducible first | exact HB.out | apply below_alloc | apply pw_below_drewN | apply below_drew1 | refine below_set ?_ (IsS111.ge HI208.out) | refine below_set ?_ GE235.out | refine below_set ?_ GE263.out) | exact HB.out)) _ ((below_size (by repeat (first | (with_reducible first | exact HB.out | apply below_alloc | apply pw_below_drewN | apply below_drew1 | refine below_set ?_ (IsS111.ge HI208.out) | refine below_set ?_ GE235.out | refine below_set ?_ GE263.out) | exact HB.out)))) hg (fun k_ e_ => by injection e_ with e_; subst e_; exact GE263.out)); clear HO_4; clear HO_6; clear HO_236015; clear HO_236016; clear BK235; clear HI208; clear HO258; clear HO261; clear BK263; clear HB; have HO_4 := n0_; have HO_6 := n1_; have HO_236015 := n2_; have HO_236016 := n3_; have BK235 := n4_; have HI208 := n5_; have HO258 := n6_; have HO261 := n7_; have BK263 := n8_; have HB := n9_; clear n0_ n1_ n2_ n3_ n4_ n5_ n6_ n7_ n8_ n9_; clear hg hbox))
        go_cut [43] (fun v43 wc => ∃ (kq : Nat) (x43_20 : Bool), v43 = .bool x43_20 ∧ Aside0 (timeboundlaw36_ScratchFrees.j1 kq t209 x6_1 t262 x43_20 t213 t214 t215 t216 t217 t218 t219 t220 t221 t222 t223 t224 t225 t226 t227 t228 t231 t241 t242 t243 t244 t245 t246 t247 t248 t249 t250 t251 t252 t253 t254 t255 t256 t259 = some r) ∧ Aside0 (kq ≤ k1) ∧ Aside0 (Kd.R k76 76 wc w.heap.size (fun _ => True) (.slice Ao12 t209.length co12) t209) ∧ Aside0 (Kd.R (Kd.int .i64) 3 wc w.heap.size (fun _ => True) (.slice Ao22 x6_1.length co22) x6_1) ∧ Aside0 (Kd.R k74 74 wc w.heap.size (fun k_ => some k_ ≠ ((.slice Ao10 t231.length co10) : Value).ownBlock ∧ some k_ ≠ ((.slice Ao25 t256.length co25) : Value).ownBlock ∧ some k_ ≠ ((.slice Ao26 t259.length co26) : Value).ownBlock) (.slice Ao9 t228.length co9) t228) ∧ Aside0 (Kd.R k74 74 wc w.heap.size (fun k_ => some k_ ≠ ((.slice Ao9 t228.length co9) : Value).ownBlock ∧ some k_ ≠ ((.slice Ao25 t256.length co25) : Value).ownBlock ∧ some k_ ≠ ((.slice Ao26 t259.length co26) : Value).ownBlock) (.slice Ao10 t231.length co10) t231) ∧ Aside0 (Kd.R k74 74 wc w.heap.size (fun k_ => some k_ ≠ ((.slice Ao9 t228.length co9) : Value).ownBlock ∧ some k_ ≠ ((.slice Ao10 t231.length co10) : Value).ownBlock ∧ some k_ ≠ ((.slice Ao26 t259.length co26) : Value).ownBlock) (.slice Ao25 t256.length co25) t256) ∧ Aside0 (Kd.R k74 74 wc w.heap.size (fun k_ => some k_ ≠ ((.slice Ao9 t228.length co9) : Value).ownBlock ∧ some k_ ≠ ((.slice Ao10 t231.length co10) : Value).ownBlock ∧ some k_ ≠ ((.slice Ao25 t256.length co25) : Value).ownBlock) (.slice Ao26 t259.length co26) t259) ∧ Aside0 (wc.heap[gb235]? = some (.cells #[.int .i64 t213, .int .i64 t214, .int .i64 t215, .int .i64 t216, .int .i64 t217, .int .i64 t218, .int .i64 t219, .int .i64 t220, .int .i64 t221, .int .i64 t222, .int .i64 t223, .int .i64 t224, .int .i64 t225, .int .i64 t226, .int .i64 t227, (.slice Ao9 t228.length co9), (.slice Ao10 t231.length co10)] 68 (0, 0))) ∧ Aside0 (wc.heap[gb263]? = some (.cells #[.int .i64 t241, .int .i64 t242, .int .i64 t243, .int .i64 t244, .int .i64 t245, .int .i64 t246, .int .i64 t247, .int .i64 t248, .int .i64 t249, .int .i64 t250, .int .i64 t251, .int .i64 t252, .int .i64 t253, .int .i64 t254, .int .i64 t255, (.slice Ao25 t256.length co25), (.slice Ao26 t259.length co26)] 68 (0, 0))) ∧ Aside0 (Below w.heap.size w wc))
        case first =>
          have H := HC21.out
          clear HC21
          have H' := Aside0.mk H
          clear H
          go_wp2
          go_meet
          case rel => exact ⟨_, ((t262 != 0)), (by first | rfl | (simp; done) | (simp [*]; done)), H', ⟨by have := HK1.out; first | omega | exact Nat.le_refl _⟩, ⟨by (with_reducible repeat (first | apply Kd.R_alloc | apply Kd.R_drewN | apply Kd.R_drew)); exact HO_4.out⟩, ⟨by (with_reducible repeat (first | apply Kd.R_alloc | apply Kd.R_drewN | apply Kd.R_drew)); exact HO_6.out⟩, ⟨by (with_reducible repeat (first | apply Kd.R_alloc | apply Kd.R_drewN | apply Kd.R_drew)); exact Kd.R_mono HO_236015.out (fun _ hk => ⟨hk.1.1, ⟨hk.1.2, hk.2⟩⟩)⟩, ⟨by (with_reducible repeat (first | apply Kd.R_alloc | apply Kd.R_drewN | apply Kd.R_drew)); exact Kd.R_mono HO_236016.out (fun _ hk => ⟨hk.1.1, ⟨hk.1.2, hk.2⟩⟩)⟩, ⟨by (with_reducible repeat (first | apply Kd.R_alloc | apply Kd.R_drewN | apply Kd.R_drew)); exact Kd.R_mono HO258.out (fun _ hk => ⟨hk.1.2, ⟨hk.2, hk.1.1⟩⟩)⟩, ⟨by (with_reducible repeat (first | apply Kd.R_alloc | apply Kd.R_drewN | apply Kd.R_drew)); exact Kd.R_mono HO261.out (fun _ hk => ⟨hk.1.2, ⟨hk.2, hk.1.1⟩⟩)⟩, ⟨by (with_reducible repeat (first | refine blk_drewN ?_ _ | refine blk_drew ?_ | refine blk_alloc ?_ _)); exact BK235.out⟩, ⟨by (with_reducible repeat (first | refine blk_drewN ?_ _ | refine blk_drew ?_ | refine blk_alloc ?_ _)); exact BK263.out⟩, ⟨by repeat (first | (with_reducible first | exact HB.out | apply below_alloc | apply pw_below_drewN | apply below_drew1 | refine below_set ?_ (IsS111.ge HI208.out) | refine below_set ?_ GE235.out | refine below_set ?_ GE263.out) | exact HB.out)⟩⟩
        case rest =>
          clear HC21
          try clear c1
          try clear p2
          try clear p6
          try clear c8
          try clear c13
          try clear c13b0
          try clear c15
          try clear c15b0
          try clear c15b1
          try clear c16
          try clear p2
          obtain ⟨kq, x43_20, rfl, HA, HJ20, HO_4, HO_6, HO_236015, HO_236016, HO_264015, HO_264016, BK235, BK263, HB⟩ := hcut
          cases kq with
          | zero => exact absurd HA.out (by simp [timeboundlaw36_ScratchFrees.j1])
          | succ kj20 =>
            have H := HA.out
            clear HA
            simp only [timeboundlaw36_ScratchFrees.j1] at H
            by_cases c28 : x43_20 = true
            · subst c28
              have H1 : (if t262 = 4 then ((timeboundlaw36_awake.f kj20).bind fun t264 => (some t264)) else (some false)) = some r := by rw [if_pos rfl] at H; exact H
              clear H
              have H := H1
              clear H1
              by_cases c29 : t262 = 4
              · rw [if_pos c29] at H
                have c29b0 : (t262 == 4) = true := beq_iff_eq.mpr c29
                have c29b1 : (t262 != 4) = false := bne_eq_false_iff_eq.mpr c29
                clear c29
                replace H := Option.bind_eq_some_iff.mp H
                obtain ⟨t264, A300, H⟩ := H
                replace H : (some t264) = some r := H
                have A30 := Aside0.mk A300
                clear A300
                obtain rfl := Option.some.inj H
                go_wp2_with (first | (go_at_call 31; (with_reducible refine (timeboundlaw36_awake.calls kj20  t264 _ A30.out).mono ?_); rintro e w31 ⟨rfl, hb⟩; have n0_ := Aside0.mk (Kd.R_below (by (with_reducible repeat (first | apply Kd.R_alloc | apply Kd.R_drewN | apply Kd.R_drew)); exact HO_4.out) hb); have n1_ := Aside0.mk (Kd.R_below (by (with_reducible repeat (first | apply Kd.R_alloc | apply Kd.R_drewN | apply Kd.R_drew)); exact HO_6.out) hb); have n2_ := Aside0.mk (Kd.R_below (by (with_reducible repeat (first | apply Kd.R_alloc | apply Kd.R_drewN | apply Kd.R_drew)); exact HO_236015.out) hb); have n3_ := Aside0.mk (Kd.R_below (by (with_reducible repeat (first | apply Kd.R_alloc | apply Kd.R_drewN | apply Kd.R_drew)); exact HO_236016.out) hb); have n4_ := Aside0.mk (Kd.R_below (by (with_reducible repeat (first | apply Kd.R_alloc | apply Kd.R_drewN | apply Kd.R_drew)); exact HO_264015.out) hb); have n5_ := Aside0.mk (Kd.R_below (by (with_reducible repeat (first | apply Kd.R_alloc | apply Kd.R_drewN | apply Kd.R_drew)); exact HO_264016.out) hb); have n6_ := Aside0.mk (blk_below (g := gb235) (o := .cells #[.int .i64 t213, .int .i64 t214, .int .i64 t215, .int .i64 t216, .int .i64 t217, .int .i64 t218, .int .i64 t219, .int .i64 t220, .int .i64 t221, .int .i64 t222, .int .i64 t223, .int .i64 t224, .int .i64 t225, .int .i64 t226, .int .i64 t227, .slice Ao9 t228.length co9, .slice Ao10 t231.length co10] 68 (0, 0)) (by (with_reducible repeat (first | refine blk_drewN ?_ _ | refine blk_drew ?_ | refine blk_alloc ?_ _)); exact BK235.out) hb); have n7_ := Aside0.mk (blk_below (g := gb263) (o := .cells #[.int .i64 t241, .int .i64 t242, .int .i64 t243, .int .i64 t244, .int .i64 t245, .int .i64 t246, .int .i64 t247, .int .i64 t248, .int .i64 t249, .int .i64 t250, .int .i64 t251, .int .i64 t252, .int .i64 t253, .int .i64 t254, .int .i64 t255, .slice Ao25 t256.length co25, .slice Ao26 t259.length co26] 68 (0, 0)) (by (with_reducible repeat (first | refine blk_drewN ?_ _ | refine blk_drew ?_ | refine blk_alloc ?_ _)); exact BK263.out) hb); have n8_ := Aside0.mk (below_step (by repeat (first | (with_reducible first | exact HB.out | apply below_alloc | apply pw_below_drewN | apply below_drew1 | refine below_set ?_ GE235.out | refine below_set ?_ GE263.out) | exact HB.out)) hb); clear HO_4; clear HO_6; clear HO_236015; clear HO_236016; clear HO_264015; clear HO_264016; clear BK235; clear BK263; clear HB; have HO_4 := n0_; have HO_6 := n1_; have HO_236015 := n2_; have HO_236016 := n3_; have HO_264015 := n4_; have HO_264016 := n5_; have BK235 := n6_; have BK263 := n7_; have HB := n8_; clear n0_ n1_ n2_ n3_ n4_ n5_ n6_ n7_ n8_; (try clear hb); (try clear hb2); (try clear hk); (try clear hi)))
                go_ret
                exact ⟨by first | rfl | (simp [errW_none, errW_some] <;> rfl) | (simp [*, errW_none, errW_some] <;> rfl), by repeat (first | (with_reducible first | exact HB.out | apply below_alloc | apply pw_below_drewN | apply below_drew1 | refine below_set ?_ GE235.out | refine below_set ?_ GE263.out) | exact HB.out)⟩
              · rw [if_neg c29] at H
                have c29b0 : (t262 == 4) = false := beq_eq_false_iff_ne.mpr c29
                have c29b1 : (t262 != 4) = true := bne_iff_ne.mpr c29
                obtain rfl := Option.some.inj H
                go_wp2
                go_ret
                exact ⟨by first | rfl | (simp [errW_none, errW_some] <;> rfl) | (simp [*, errW_none, errW_some] <;> rfl), by repeat (first | (with_reducible first | exact HB.out | apply below_alloc | apply pw_below_drewN | apply below_drew1 | refine below_set ?_ GE235.out | refine below_set ?_ GE263.out) | exact HB.out)⟩
            · replace c28 := Bool.eq_false_iff.mpr c28
              subst c28
              have H1 : (timeboundlaw36_ScratchFrees.l1 kj20 t209 x6_1 0 t213 t214 t215 t216 t217 t218 t219 t220 t221 t222 t223 t224 t225 t226 t227 t228 t231 t241 t242 t243 t244 t245 t246 t247 t248 t249 t250 t251 t252 t253 t254 t255 t256 t259) = some r := by rw [if_neg (show ¬ (false = true) by decide)] at H; exact H
              clear H
              have H := H1
              clear H1
              have H' := Aside0.mk H
              clear H
              go_wp2
              go_loopg [49] kj20 (fun kq v49 w' => ∃ (x49_3 : Int), v49 = .int .i64 x49_3 ∧ Aside0 (timeboundlaw36_ScratchFrees.l1 kq t209 x6_1 x49_3 t213 t214 t215 t216 t217 t218 t219 t220 t221 t222 t223 t224 t225 t226 t227 t228 t231 t241 t242 t243 t244 t245 t246 t247 t248 t249 t250 t251 t252 t253 t254 t255 t256 t259 = some r) ∧ Aside0 (kq ≤ kj20) ∧ Aside0 (Kd.R k76 76 w' w.heap.size (fun _ => True) (.slice Ao12 t209.length co12) t209) ∧ Aside0 (Kd.R (Kd.int .i64) 3 w' w.heap.size (fun _ => True) (.slice Ao22 x6_1.length co22) x6_1) ∧ Aside0 (Kd.R k74 74 w' w.heap.size (fun k_ => some k_ ≠ ((.slice Ao10 t231.length co10) : Value).ownBlock ∧ some k_ ≠ ((.slice Ao25 t256.length co25) : Value).ownBlock ∧ some k_ ≠ ((.slice Ao26 t259.length co26) : Value).ownBlock) (.slice Ao9 t228.length co9) t228) ∧ Aside0 (Kd.R k74 74 w' w.heap.size (fun k_ => some k_ ≠ ((.slice Ao9 t228.length co9) : Value).ownBlock ∧ some k_ ≠ ((.slice Ao25 t256.length co25) : Value).ownBlock ∧ some k_ ≠ ((.slice Ao26 t259.length co26) : Value).ownBlock) (.slice Ao10 t231.length co10) t231) ∧ Aside0 (Kd.R k74 74 w' w.heap.size (fun k_ => some k_ ≠ ((.slice Ao9 t228.length co9) : Value).ownBlock ∧ some k_ ≠ ((.slice Ao10 t231.length co10) : Value).ownBlock ∧ some k_ ≠ ((.slice Ao26 t259.length co26) : Value).ownBlock) (.slice Ao25 t256.length co25) t256) ∧ Aside0 (Kd.R k74 74 w' w.heap.size (fun k_ => some k_ ≠ ((.slice Ao9 t228.length co9) : Value).ownBlock ∧ some k_ ≠ ((.slice Ao10 t231.length co10) : Value).ownBlock ∧ some k_ ≠ ((.slice Ao25 t256.length co25) : Value).ownBlock) (.slice Ao26 t259.length co26) t259) ∧ Aside0 (w'.heap[gb235]? = some (.cells #[.int .i64 t213, .int .i64 t214, .int .i64 t215, .int .i64 t216, .int .i64 t217, .int .i64 t218, .int .i64 t219, .int .i64 t220, .int .i64 t221, .int .i64 t222, .int .i64 t223, .int .i64 t224, .int .i64 t225, .int .i64 t226, .int .i64 t227, (.slice Ao9 t228.length co9), (.slice Ao10 t231.length co10)] 68 (0, 0))) ∧ Aside0 (w'.heap[gb263]? = some (.cells #[.int .i64 t241, .int .i64 t242, .int .i64 t243, .int .i64 t244, .int .i64 t245, .int .i64 t246, .int .i64 t247, .int .i64 t248, .int .i64 t249, .int .i64 t250, .int .i64 t251, .int .i64 t252, .int .i64 t253, .int .i64 t254, .int .i64 t255, (.slice Ao25 t256.length co25), (.slice Ao26 t259.length co26)] 68 (0, 0))) ∧ Aside0 (Below w.heap.size w w'))
              case atStart => exact ⟨(0), (by first | rfl | (simp; done) | (simp [*]; done)), H', ⟨Nat.le_refl _⟩, ⟨by (with_reducible repeat (first | apply Kd.R_alloc | apply Kd.R_drewN | apply Kd.R_drew)); exact HO_4.out⟩, ⟨by (with_reducible repeat (first | apply Kd.R_alloc | apply Kd.R_drewN | apply Kd.R_drew)); exact HO_6.out⟩, ⟨by (with_reducible repeat (first | apply Kd.R_alloc | apply Kd.R_drewN | apply Kd.R_drew)); exact HO_236015.out⟩, ⟨by (with_reducible repeat (first | apply Kd.R_alloc | apply Kd.R_drewN | apply Kd.R_drew)); exact HO_236016.out⟩, ⟨by (with_reducible repeat (first | apply Kd.R_alloc | apply Kd.R_drewN | apply Kd.R_drew)); exact HO_264015.out⟩, ⟨by (with_reducible repeat (first | apply Kd.R_alloc | apply Kd.R_drewN | apply Kd.R_drew)); exact HO_264016.out⟩, ⟨by (with_reducible repeat (first | refine blk_drewN ?_ _ | refine blk_drew ?_ | refine blk_alloc ?_ _)); exact BK235.out⟩, ⟨by (with_reducible repeat (first | refine blk_drewN ?_ _ | refine blk_drew ?_ | refine blk_alloc ?_ _)); exact BK263.out⟩, ⟨by repeat (first | (with_reducible first | exact HB.out | apply below_alloc | apply pw_below_drewN | apply below_drew1 | refine below_set ?_ GE235.out | refine below_set ?_ GE263.out) | exact HB.out)⟩⟩
              case round =>
                clear H'
                try clear c1
                try clear c2
                try clear p2
                try clear p6
                try clear c8
                try clear c13
                try clear c13b0
                try clear c15
                try clear c15b0
                try clear c15b1
                try clear c16
                try clear c28
                try clear c29
                try clear c29b0
                try clear c29b1
                try clear p2
                try clear p6
                obtain ⟨x49_3, rfl, HA, HK3, HO_4, HO_6, HO_236015, HO_236016, HO_264015, HO_264016, BK235, BK263, HB⟩ := hrel
                cases gk with
                | zero => exact absurd HA.out (by simp [timeboundlaw36_ScratchFrees.l1])
                | succ k3 =>
                  have H := HA.out
                  clear HA
                  simp only [timeboundlaw36_ScratchFrees.l1] at H
                  by_cases c32 : x49_3 < 100
                  · rw [if_pos c32] at H
                    have c32b0 : decide (x49_3 < 100) = true := decide_eq_true c32
                    clear c32
                    replace H := Option.bind_eq_some_iff.mp H
                    obtain ⟨t266, A330, H⟩ := H
                    replace H : ((timeboundref23_Scratch.f k3 t231 x49_3).bind fun t267 => (timeboundlaw36_ScratchFrees.l2 k3 t209 x6_1 x49_3 t266 t267 x49_3 x6_1 (x6_1.length : Int) 0 t213 t214 t215 t216 t217 t218 t219 t220 t221 t222 t223 t224 t225 t226 t227 t228 t231 t241 t242 t243 t244 t245 t246 t247 t248 t249 t250 t251 t252 t253 t254 t255 t256 t259)) = some r := H
                    have A33 := Aside0.mk A330
                    clear A330
                    replace H := Option.bind_eq_some_iff.mp H
                    obtain ⟨t267, A340, H⟩ := H
                    replace H : (timeboundlaw36_ScratchFrees.l2 k3 t209 x6_1 x49_3 t266 t267 x49_3 x6_1 (x6_1.length : Int) 0 t213 t214 t215 t216 t217 t218 t219 t220 t221 t222 t223 t224 t225 t226 t227 t228 t231 t241 t242 t243 t244 t245 t246 t247 t248 t249 t250 t251 t252 t253 t254 t255 t256 t259) = some r := H
                    have A34 := Aside0.mk A340
                    clear A340
                    have H' := Aside0.mk H
                    clear H
                    have hnb35 := NB235_263.out
                    have hnc35 := NB263_235.out
                    have hcz36_0 : wr.cell? ⟨gb235, 0, none⟩ = some (.int .i64 t213) := (blk_cell BK235.out 0).trans rfl
                    have hcz36_1 : wr.cell? ⟨gb235, 1, none⟩ = some (.int .i64 t214) := (blk_cell BK235.out 1).trans rfl
                    have hcz36_2 : wr.cell? ⟨gb235, 2, none⟩ = some (.int .i64 t215) := (blk_cell BK235.out 2).trans rfl
                    have hcz36_3 : wr.cell? ⟨gb235, 3, none⟩ = some (.int .i64 t216) := (blk_cell BK235.out 3).trans rfl
                    have hcz36_4 : wr.cell? ⟨gb235, 4, none⟩ = some (.int .i64 t217) := (blk_cell BK235.out 4).trans rfl
                    have hcz36_5 : wr.cell? ⟨gb235, 5, none⟩ = some (.int .i64 t218) := (blk_cell BK235.out 5).trans rfl
                    have hcz36_6 : wr.cell? ⟨gb235, 6, none⟩ = some (.int .i64 t219) := (blk_cell BK235.out 6).trans rfl
                    have hcz36_7 : wr.cell? ⟨gb235, 7, none⟩ = some (.int .i64 t220) := (blk_cell BK235.out 7).trans rfl
                    have hcz36_8 : wr.cell? ⟨gb235, 8, none⟩ = some (.int .i64 t221) := (blk_cell BK235.out 8).trans rfl
                    have hcz36_9 : wr.cell? ⟨gb235, 9, none⟩ = some (.int .i64 t222) := (blk_cell BK235.out 9).trans rfl
                    have hcz36_10 : wr.cell? ⟨gb235, 10, none⟩ = some (.int .i64 t223) := (blk_cell BK235.out 10).trans rfl
                    have hcz36_11 : wr.cell? ⟨gb235, 11, none⟩ = some (.int .i64 t224) := (blk_cell BK235.out 11).trans rfl
                    have hcz36_12 : wr.cell? ⟨gb235, 12, none⟩ = some (.int .i64 t225) := (blk_cell BK235.out 12).trans rfl
                    have hcz36_13 : wr.cell? ⟨gb235, 13, none⟩ = some (.int .i64 t226) := (blk_cell BK235.out 13).trans rfl
                    have hcz36_14 : wr.cell? ⟨gb235, 14, none⟩ = some (.int .i64 t227) := (blk_cell BK235.out 14).trans rfl
                    have hcz36_15 : wr.cell? ⟨gb235, 15, none⟩ = some (.slice Ao9 t228.length co9) := (blk_cell BK235.out 15).trans rfl
                    have hcz36_16 : wr.cell? ⟨gb235, 16, none⟩ = some (.slice Ao10 t231.length co10) := (blk_cell BK235.out 16).trans rfl
                    have hfz36_0 := blk_frozen BK235.out 0
                    have hfz36_1 := blk_frozen BK235.out 1
                    have hfz36_2 := blk_frozen BK235.out 2
                    have hfz36_3 := blk_frozen BK235.out 3
                    have hfz36_4 := blk_frozen BK235.out 4
                    have hfz36_5 := blk_frozen BK235.out 5
                    have hfz36_6 := blk_frozen BK235.out 6
                    have hfz36_7 := blk_frozen BK235.out 7
                    have hfz36_8 := blk_frozen BK235.out 8
                    have hfz36_9 := blk_frozen BK235.out 9
                    have hfz36_10 := blk_frozen BK235.out 10
                    have hfz36_11 := blk_frozen BK235.out 11
                    have hfz36_12 := blk_frozen BK235.out 12
                    have hfz36_13 := blk_frozen BK235.out 13
                    have hfz36_14 := blk_frozen BK235.out 14
                    have hfz36_15 := blk_frozen BK235.out 15
                    have hfz36_16 := blk_frozen BK235.out 16
                    go_wp2
                    try go_quiet (first | (go_at_call 43; (with_reducible refine (timeboundref23_Scratch.calls k3 _ _ t228 x49_3 t266 _ ?side1 ?side2 A33.out).mono ?_); (case side1 => repeat (first | exact (Kd.R_reads' HO_236015.out).2.2 | (with_reducible refine Kd.C_alloc ?_ _) | (with_reducible refine Kd.C_drewN ?_ _) | (with_reducible refine Kd.C_drew ?_))); (case side2 => exact (Kd.R_reads' HO_236015.out).2.1); rintro e w' ⟨rfl, ⟨nd, rfl⟩⟩; (try first | exact ⟨rfl, _, World.drewN_drewN _ _ _⟩ | exact ⟨rfl, _, Eq.trans (World.drewN_drewN _ _ _) (congrArg (World.drewN _) (Nat.add_assoc _ _ _))⟩)) | (go_at_call 43; (with_reducible refine (timeboundref23_Scratch.calls k3 _ _ t231 x49_3 t267 _ ?side1 ?side2 A34.out).mono ?_); (case side1 => repeat (first | exact (Kd.R_reads' HO_236016.out).2.2 | (with_reducible refine Kd.C_alloc ?_ _) | (with_reducible refine Kd.C_drewN ?_ _) | (with_reducible refine Kd.C_drew ?_))); (case side2 => exact (Kd.R_reads' HO_236016.out).2.1); rintro e w' ⟨rfl, ⟨nd, rfl⟩⟩; (try first | exact ⟨rfl, _, World.drewN_drewN _ _ _⟩ | exact ⟨rfl, _, Eq.trans (World.drewN_drewN _ _ _) (congrArg (World.drewN _) (Nat.add_assoc _ _ _))⟩)))
                    try go_wp2
                    go_loopg [11, 12, 62] k3 (fun kq v11 v12 v62 w' => ∃ (x11_4 : Bool) (x12_4 : Bool) (x62_4 : Int), v11 = .bool x11_4 ∧ v12 = .bool x12_4 ∧ v62 = .int .i64 x62_4 ∧ Aside0 (timeboundlaw36_ScratchFrees.l2 kq t209 x6_1 x49_3 x11_4 x12_4 x49_3 x6_1 (x6_1.length : Int) x62_4 t213 t214 t215 t216 t217 t218 t219 t220 t221 t222 t223 t224 t225 t226 t227 t228 t231 t241 t242 t243 t244 t245 t246 t247 t248 t249 t250 t251 t252 t253 t254 t255 t256 t259 = some r) ∧ Aside0 (kq ≤ k3) ∧ Aside0 (Kd.R k76 76 w' w.heap.size (fun _ => True) (.slice Ao12 t209.length co12) t209) ∧ Aside0 (Kd.R (Kd.int .i64) 3 w' w.heap.size (fun _ => True) (.slice Ao22 x6_1.length co22) x6_1) ∧ Aside0 (Kd.R (Kd.int .i64) 3 w' w.heap.size (fun _ => True) (.slice Ao22 x6_1.length co22) x6_1) ∧ Aside0 (Kd.R k74 74 w' w.heap.size (fun k_ => some k_ ≠ ((.slice Ao10 t231.length co10) : Value).ownBlock ∧ some k_ ≠ ((.slice Ao25 t256.length co25) : Value).ownBlock ∧ some k_ ≠ ((.slice Ao26 t259.length co26) : Value).ownBlock) (.slice Ao9 t228.length co9) t228) ∧ Aside0 (Kd.R k74 74 w' w.heap.size (fun k_ => some k_ ≠ ((.slice Ao9 t228.length co9) : Value).ownBlock ∧ some k_ ≠ ((.slice Ao25 t256.length co25) : Value).ownBlock ∧ some k_ ≠ ((.slice Ao26 t259.length co26) : Value).ownBlock) (.slice Ao10 t231.length co10) t231) ∧ Aside0 (Kd.R k74 74 w' w.heap.size (fun k_ => some k_ ≠ ((.slice Ao9 t228.length co9) : Value).ownBlock ∧ some k_ ≠ ((.slice Ao10 t231.length co10) : Value).ownBlock ∧ some k_ ≠ ((.slice Ao26 t259.length co26) : Value).ownBlock) (.slice Ao25 t256.length co25) t256) ∧ Aside0 (Kd.R k74 74 w' w.heap.size (fun k_ => some k_ ≠ ((.slice Ao9 t228.length co9) : Value).ownBlock ∧ some k_ ≠ ((.slice Ao10 t231.length co10) : Value).ownBlock ∧ some k_ ≠ ((.slice Ao25 t256.length co25) : Value).ownBlock) (.slice Ao26 t259.length co26) t259) ∧ Aside0 (w'.heap[gb235]? = some (.cells #[.int .i64 t213, .int .i64 t214, .int .i64 t215, .int .i64 t216, .int .i64 t217, .int .i64 t218, .int .i64 t219, .int .i64 t220, .int .i64 t221, .int .i64 t222, .int .i64 t223, .int .i64 t224, .int .i64 t225, .int .i64 t226, .int .i64 t227, (.slice Ao9 t228.length co9), (.slice Ao10 t231.length co10)] 68 (0, 0))) ∧ Aside0 (w'.heap[gb263]? = some (.cells #[.int .i64 t241, .int .i64 t242, .int .i64 t243, .int .i64 t244, .int .i64 t245, .int .i64 t246, .int .i64 t247, .int .i64 t248, .int .i64 t249, .int .i64 t250, .int .i64 t251, .int .i64 t252, .int .i64 t253, .int .i64 t254, .int .i64 t255, (.slice Ao25 t256.length co25), (.slice Ao26 t259.length co26)] 68 (0, 0))) ∧ Aside0 (Below w.heap.size w w'))
                    case atStart => exact ⟨(t266), (t267), (0), (by first | rfl | (simp; done) | (simp [*]; done)), (by first | rfl | (simp; done) | (simp [*]; done)), (by first | rfl | (simp; done) | (simp [*]; done)), H', ⟨Nat.le_refl _⟩, ⟨by (with_reducible repeat (first | apply Kd.R_alloc | apply Kd.R_drewN | apply Kd.R_drew)); exact HO_4.out⟩, ⟨by (with_reducible repeat (first | apply Kd.R_alloc | apply Kd.R_drewN | apply Kd.R_drew)); exact HO_6.out⟩, ⟨by (with_reducible repeat (first | apply Kd.R_alloc | apply Kd.R_drewN | apply Kd.R_drew)); exact HO_6.out⟩, ⟨by (with_reducible repeat (first | apply Kd.R_alloc | apply Kd.R_drewN | apply Kd.R_drew)); exact HO_236015.out⟩, ⟨by (with_reducible repeat (first | apply Kd.R_alloc | apply Kd.R_drewN | apply Kd.R_drew)); exact HO_236016.out⟩, ⟨by (with_reducible repeat (first | apply Kd.R_alloc | apply Kd.R_drewN | apply Kd.R_drew)); exact HO_264015.out⟩, ⟨by (with_reducible repeat (first | apply Kd.R_alloc | apply Kd.R_drewN | apply Kd.R_drew)); exact HO_264016.out⟩, ⟨by (with_reducible repeat (first | refine blk_drewN ?_ _ | refine blk_drew ?_ | refine blk_alloc ?_ _)); exact BK235.out⟩, ⟨by (with_reducible repeat (first | refine blk_drewN ?_ _ | refine blk_drew ?_ | refine blk_alloc ?_ _)); exact BK263.out⟩, ⟨by repeat (first | (with_reducible first | exact HB.out | apply below_alloc | apply pw_below_drewN | apply below_drew1 | refine below_set ?_ GE235.out | refine below_set ?_ GE263.out) | exact HB.out)⟩⟩
                    case round =>
                      clear H'
                      try clear c1
                      try clear c2
                      try clear p2
                      try clear c3
                      try clear p6
                      try clear c8
                      try clear c13
                      try clear c13b0
                      try clear c15
                      try clear c15b0
                      try clear c15b1
                      try clear c16
                      try clear c28
                      try clear c29
                      try clear c29b0
                      try clear c29b1
                      try clear c32
                      try clear c32b0
                      try clear c35
                      try clear hcz36_0
                      try clear hcz36_1
                      try clear hcz36_10
                      try clear hcz36_11
                      try clear hcz36_12
                      try clear hcz36_13
                      try clear hcz36_14
                      try clear hcz36_15
                      try clear hcz36_16
                      try clear hcz36_2
                      try clear hcz36_3
                      try clear hcz36_4
                      try clear hcz36_5
                      try clear hcz36_6
                      try clear hcz36_7
                      try clear hcz36_8
                      try clear hcz36_9
                      try clear hfz36_0
                      try clear hfz36_1
                      try clear hfz36_10
                      try clear hfz36_11
                      try clear hfz36_12
                      try clear hfz36_13
                      try clear hfz36_14
                      try clear hfz36_15
                      try clear hfz36_16
                      try clear hfz36_2
                      try clear hfz36_3
                      try clear hfz36_4
                      try clear hfz36_5
                      try clear hfz36_6
                      try clear hfz36_7
                      try clear hfz36_8
                      try clear hfz36_9
                      try clear p2
                      try clear p6
                      obtain ⟨x11_4, x12_4, x62_4, rfl, rfl, rfl, HA, HK4, HO_4, HO_6, HO_60, HO_236015, HO_236016, HO_264015, HO_264016, BK235, BK263, HB⟩ := hrel
                      cases gk with
                      | zero => exact absurd HA.out (by simp [timeboundlaw36_ScratchFrees.l2])
                      | succ k4 =>
                        have H := HA.out
                        clear HA
                        simp only [timeboundlaw36_ScratchFrees.l2] at H
                        by_cases c37 : x62_4 < (x6_1.length : Int)
                        · rw [if_pos c37] at H
                          have c37b0 : decide (x62_4 < (x6_1.length : Int)) = true := decide_eq_true c37
                          clear c37
                          by_cases c38 : 0 ≤ x62_4
                          · rw [if_pos c38] at H
                            have c38b0 : decide (0 ≤ x62_4) = true := decide_eq_true c38
                            clear c38
                            by_cases c39 : x62_4 < (x6_1.length : Int)
                            · rw [if_pos c39] at H
                              have c39b0 : decide (x62_4 < (x6_1.length : Int)) = true := decide_eq_true c39
                              clear c39
                              by_cases c40 : 0 ≤ (rd x6_1 x62_4)
                              · rw [if_pos c40] at H
                                have c40b0 : decide (0 ≤ (rd x6_1 x62_4)) = true := decide_eq_true c40
                                clear c40
                                by_cases c41 : (rd x6_1 x62_4) < (t209.length : Int)
                                · rw [if_pos c41] at H
                                  have c41b0 : decide ((rd x6_1 x62_4) < (t209.length : Int)) = true := decide_eq_true c41
                                  clear c41
                                  by_cases c42 : x49_3 ≥ ((rd_T76 t209 (rd x6_1 x62_4)).f1.f0)
                                  · rw [if_pos c42] at H
                                    have c42b0 : decide (((rd_T76 t209 (rd x6_1 x62_4)).f1.f0) ≤ x49_3) = true := decide_eq_true c42
                                    clear c42
                                    by_cases c43 : x11_4 = true
                                    · subst c43
                                      have H1 : (if x12_4 = true then (timeboundlaw36_ScratchFrees.l2 k4 t209 x6_1 x49_3 true true x49_3 x6_1 (x6_1.length : Int) (wrap64 (x62_4 + 1)) t213 t214 t215 t216 t217 t218 t219 t220 t221 t222 t223 t224 t225 t226 t227 t228 t231 t241 t242 t243 t244 t245 t246 t247 t248 t249 t250 t251 t252 t253 t254 t255 t256 t259) else (if x49_3 < ((rd_T76 t209 (rd x6_1 x62_4)).f1.f1) then (timeboundlaw36_ScratchFrees.l2 k4 t209 x6_1 x49_3 true (!((rd_T76 t209 (rd x6_1 x62_4)).f0)) x49_3 x6_1 (x6_1.length : Int) (wrap64 (x62_4 + 1)) t213 t214 t215 t216 t217 t218 t219 t220 t221 t222 t223 t224 t225 t226 t227 t228 t231 t241 t242 t243 t244 t245 t246 t247 t248 t249 t250 t251 t252 t253 t254 t255 t256 t259) else (timeboundlaw36_ScratchFrees.l2 k4 t209 x6_1 x49_3 true false x49_3 x6_1 (x6_1.length : Int) (wrap64 (x62_4 + 1)) t213 t214 t215 t216 t217 t218 t219 t220 t221 t222 t223 t224 t225 t226 t227 t228 t231 t241 t242 t243 t244 t245 t246 t247 t248 t249 t250 t251 t252 t253 t254 t255 t256 t259))) = some r := by rw [if_pos rfl] at H; exact H
                                      clear H
                                      have H := H1
                                      clear H1
                                      by_cases c44 : x12_4 = true
                                      · subst c44
                                        have H1 : (timeboundlaw36_ScratchFrees.l2 k4 t209 x6_1 x49_3 true true x49_3 x6_1 (x6_1.length : Int) (wrap64 (x62_4 + 1)) t213 t214 t215 t216 t217 t218 t219 t220 t221 t222 t223 t224 t225 t226 t227 t228 t231 t241 t242 t243 t244 t245 t246 t247 t248 t249 t250 t251 t252 t253 t254 t255 t256 t259) = some r := by rw [if_pos rfl] at H; exact H
                                        clear H
                                        have H := H1
                                        clear H1
                                        have H' := Aside0.mk H
                                        clear H
                                        have p268 : 0 ≤ (x62_4 : Int) := of_decide_eq_true (by first | (with_reducible assumption) | assumption)
                                        have q268 : x62_4 < (x6_1.length : Int) := of_decide_eq_true (by first | (with_reducible assumption) | assumption)
                                        obtain ⟨ad268, e268, hx268_0⟩ := Kd.at_int (Kd.R_reads' HO_60.out).2.2 x62_4 p268 q268
                                        cases e268
                                        replace p268 := eq_true p268
                                        replace q268 := eq_true q268
                                        have p269 : 0 ≤ ((rd x6_1 x62_4) : Int) := of_decide_eq_true (by first | (with_reducible assumption) | assumption)
                                        have q269 : (rd x6_1 x62_4) < (t209.length : Int) := of_decide_eq_true (by first | (with_reducible assumption) | assumption)
                                        obtain ⟨ad269, e269, hx269_0, hx269_1, hx269_2, hx269_3, hx269_4⟩ := at_T76 (Kd.R_reads' HO_4.out).2.2 (rd x6_1 x62_4) p269 q269
                                        cases e269
                                        replace p269 := eq_true p269
                                        replace q269 := eq_true q269
                                        have p270 : 0 ≤ ((rd x6_1 x62_4) : Int) := of_decide_eq_true (by first | (with_reducible assumption) | assumption)
                                        have q270 : (rd x6_1 x62_4) < (t209.length : Int) := of_decide_eq_true (by first | (with_reducible assumption) | assumption)
                                        obtain ⟨ad270, e270, hx270_0, hx270_1, hx270_2, hx270_3, hx270_4⟩ := at_T76 (Kd.R_reads' HO_4.out).2.2 (rd x6_1 x62_4) p270 q270
                                        obtain rfl : ad269 = ad270 := (by injection e270)
                                        replace p270 := eq_true p270
                                        replace q270 := eq_true q270
                                        go_wp2
                                        go_roundg k4
                                        case measure => have := HK1.out; have := HJ20.out; have := HK3.out; have := HK4.out; omega
                                        case rel => exact ⟨(true), (true), (wrap64 (x62_4 + 1)), (by first | rfl | (simp; done) | (simp [*]; done)), (by first | rfl | (simp; done) | (simp [*]; done)), (by first | rfl | (simp; done) | (simp [*]; done)), H', ⟨by have := HK1.out; have := HJ20.out; have := HK3.out; have := HK4.out; omega⟩, ⟨by (with_reducible repeat (first | apply Kd.R_alloc | apply Kd.R_drewN | apply Kd.R_drew)); exact HO_4.out⟩, ⟨by (with_reducible repeat (first | apply Kd.R_alloc | apply Kd.R_drewN | apply Kd.R_drew)); exact HO_6.out⟩, ⟨by (with_reducible repeat (first | apply Kd.R_alloc | apply Kd.R_drewN | apply Kd.R_drew)); exact HO_60.out⟩, ⟨by (with_reducible repeat (first | apply Kd.R_alloc | apply Kd.R_drewN | apply Kd.R_drew)); exact HO_236015.out⟩, ⟨by (with_reducible repeat (first | apply Kd.R_alloc | apply Kd.R_drewN | apply Kd.R_drew)); exact HO_236016.out⟩, ⟨by (with_reducible repeat (first | apply Kd.R_alloc | apply Kd.R_drewN | apply Kd.R_drew)); exact HO_264015.out⟩, ⟨by (with_reducible repeat (first | apply Kd.R_alloc | apply Kd.R_drewN | apply Kd.R_drew)); exact HO_264016.out⟩, ⟨by (with_reducible repeat (first | refine blk_drewN ?_ _ | refine blk_drew ?_ | refine blk_alloc ?_ _)); exact BK235.out⟩, ⟨by (with_reducible repeat (first | refine blk_drewN ?_ _ | refine blk_drew ?_ | refine blk_alloc ?_ _)); exact BK263.out⟩, ⟨by repeat (first | (with_reducible first | exact HB.out | apply below_alloc | apply pw_below_drewN | apply below_drew1 | refine below_set ?_ GE235.out | refine below_set ?_ GE263.out) | exact HB.out)⟩⟩
                                      · replace c44 := Bool.eq_false_iff.mpr c44
                                        subst c44
                                        have H1 : (if x49_3 < ((rd_T76 t209 (rd x6_1 x62_4)).f1.f1) then (timeboundlaw36_ScratchFrees.l2 k4 t209 x6_1 x49_3 true (!((rd_T76 t209 (rd x6_1 x62_4)).f0)) x49_3 x6_1 (x6_1.length : Int) (wrap64 (x62_4 + 1)) t213 t214 t215 t216 t217 t218 t219 t220 t221 t222 t223 t224 t225 t226 t227 t228 t231 t241 t242 t243 t244 t245 t246 t247 t248 t249 t250 t251 t252 t253 t254 t255 t256 t259) else (timeboundlaw36_ScratchFrees.l2 k4 t209 x6_1 x49_3 true false x49_3 x6_1 (x6_1.length : Int) (wrap64 (x62_4 + 1)) t213 t214 t215 t216 t217 t218 t219 t220 t221 t222 t223 t224 t225 t226 t227 t228 t231 t241 t242 t243 t244 t245 t246 t247 t248 t249 t250 t251 t252 t253 t254 t255 t256 t259)) = some r := by rw [if_neg (show ¬ (false = true) by decide)] at H; exact H
                                        clear H
                                        have H := H1
                                        clear H1
                                        by_cases c45 : x49_3 < ((rd_T76 t209 (rd x6_1 x62_4)).f1.f1)
                                        · rw [if_pos c45] at H
                                          have c45b0 : decide (x49_3 < ((rd_T76 t209 (rd x6_1 x62_4)).f1.f1)) = true := decide_eq_true c45
                                          clear c45
                                          have H' := Aside0.mk H
                                          clear H
                                          have p268 : 0 ≤ (x62_4 : Int) := of_decide_eq_true (by first | (with_reducible assumption) | assumption)
                                          have q268 : x62_4 < (x6_1.length : Int) := of_decide_eq_true (by first | (with_reducible assumption) | assumption)
                                          obtain ⟨ad268, e268, hx268_0⟩ := Kd.at_int (Kd.R_reads' HO_60.out).2.2 x62_4 p268 q268
                                          cases e268
                                          replace p268 := eq_true p268
                                          replace q268 := eq_true q268
                                          have p269 : 0 ≤ ((rd x6_1 x62_4) : Int) := of_decide_eq_true (by first | (with_reducible assumption) | assumption)
                                          have q269 : (rd x6_1 x62_4) < (t209.length : Int) := of_decide_eq_true (by first | (with_reducible assumption) | assumption)
                                          obtain ⟨ad269, e269, hx269_0, hx269_1, hx269_2, hx269_3, hx269_4⟩ := at_T76 (Kd.R_reads' HO_4.out).2.2 (rd x6_1 x62_4) p269 q269
                                          cases e269
                                          replace p269 := eq_true p269
                                          replace q269 := eq_true q269
                                          have p270 : 0 ≤ ((rd x6_1 x62_4) : Int) := of_decide_eq_true (by first | (with_reducible assumption) | assumption)
                                          have q270 : (rd x6_1 x62_4) < (t209.length : Int) := of_decide_eq_true (by first | (with_reducible assumption) | assumption)
                                          obtain ⟨ad270, e270, hx270_0, hx270_1, hx270_2, hx270_3, hx270_4⟩ := at_T76 (Kd.R_reads' HO_4.out).2.2 (rd x6_1 x62_4) p270 q270
                                          obtain rfl : ad269 = ad270 := (by injection e270)
                                          replace p270 := eq_true p270
                                          replace q270 := eq_true q270
                                          have p271 : 0 ≤ ((rd x6_1 x62_4) : Int) := of_decide_eq_true (by first | (with_reducible assumption) | assumption)
                                          have q271 : (rd x6_1 x62_4) < (t209.length : Int) := of_decide_eq_true (by first | (with_reducible assumption) | assumption)
                                          obtain ⟨ad271, e271, hx271_0, hx271_1, hx271_2, hx271_3, hx271_4⟩ := at_T76 (Kd.R_reads' HO_4.out).2.2 (rd x6_1 x62_4) p271 q271
                                          obtain rfl : ad269 = ad271 := (by injection e271)
                                          replace p271 := eq_true p271
                                          replace q271 := eq_true q271
                                          go_wp2
                                          go_roundg k4
                                          case measure => have := HK1.out; have := HJ20.out; have := HK3.out; have := HK4.out; omega
                                          case rel => exact ⟨(true), (!((rd_T76 t209 (rd x6_1 x62_4)).f0)), (wrap64 (x62_4 + 1)), (by first | rfl | (simp; done) | (simp [*]; done)), (by first | rfl | (simp; done) | (simp [*]; done)), (by first | rfl | (simp; done) | (simp [*]; done)), H', ⟨by have := HK1.out; have := HJ20.out; have := HK3.out; have := HK4.out; omega⟩, ⟨by (with_reducible repeat (first | apply Kd.R_alloc | apply Kd.R_drewN | apply Kd.R_drew)); exact HO_4.out⟩, ⟨by (with_reducible repeat (first | apply Kd.R_alloc | apply Kd.R_drewN | apply Kd.R_drew)); exact HO_6.out⟩, ⟨by (with_reducible repeat (first | apply Kd.R_alloc | apply Kd.R_drewN | apply Kd.R_drew)); exact HO_60.out⟩, ⟨by (with_reducible repeat (first | apply Kd.R_alloc | apply Kd.R_drewN | apply Kd.R_drew)); exact HO_236015.out⟩, ⟨by (with_reducible repeat (first | apply Kd.R_alloc | apply Kd.R_drewN | apply Kd.R_drew)); exact HO_236016.out⟩, ⟨by (with_reducible repeat (first | apply Kd.R_alloc | apply Kd.R_drewN | apply Kd.R_drew)); exact HO_264015.out⟩, ⟨by (with_reducible repeat (first | apply Kd.R_alloc | apply Kd.R_drewN | apply Kd.R_drew)); exact HO_264016.out⟩, ⟨by (with_reducible repeat (first | refine blk_drewN ?_ _ | refine blk_drew ?_ | refine blk_alloc ?_ _)); exact BK235.out⟩, ⟨by (with_reducible repeat (first | refine blk_drewN ?_ _ | refine blk_drew ?_ | refine blk_alloc ?_ _)); exact BK263.out⟩, ⟨by repeat (first | (with_reducible first | exact HB.out | apply below_alloc | apply pw_below_drewN | apply below_drew1 | refine below_set ?_ GE235.out | refine below_set ?_ GE263.out) | exact HB.out)⟩⟩
                                        · rw [if_neg c45] at H
                                          have c45b0 : decide (x49_3 < ((rd_T76 t209 (rd x6_1 x62_4)).f1.f1)) = false := decide_eq_false c45
                                          clear c45
                                          have H' := Aside0.mk H
                                          clear H
                                          have p268 : 0 ≤ (x62_4 : Int) := of_decide_eq_true (by first | (with_reducible assumption) | assumption)
                                          have q268 : x62_4 < (x6_1.length : Int) := of_decide_eq_true (by first | (with_reducible assumption) | assumption)
                                          obtain ⟨ad268, e268, hx268_0⟩ := Kd.at_int (Kd.R_reads' HO_60.out).2.2 x62_4 p268 q268
                                          cases e268
                                          replace p268 := eq_true p268
                                          replace q268 := eq_true q268
                                          have p269 : 0 ≤ ((rd x6_1 x62_4) : Int) := of_decide_eq_true (by first | (with_reducible assumption) | assumption)
                                          have q269 : (rd x6_1 x62_4) < (t209.length : Int) := of_decide_eq_true (by first | (with_reducible assumption) | assumption)
                                          obtain ⟨ad269, e269, hx269_0, hx269_1, hx269_2, hx269_3, hx269_4⟩ := at_T76 (Kd.R_reads' HO_4.out).2.2 (rd x6_1 x62_4) p269 q269
                                          cases e269
                                          replace p269 := eq_true p269
                                          replace q269 := eq_true q269
                                          have p270 : 0 ≤ ((rd x6_1 x62_4) : Int) := of_decide_eq_true (by first | (with_reducible assumption) | assumption)
                                          have q270 : (rd x6_1 x62_4) < (t209.length : Int) := of_decide_eq_true (by first | (with_reducible assumption) | assumption)
                                          obtain ⟨ad270, e270, hx270_0, hx270_1, hx270_2, hx270_3, hx270_4⟩ := at_T76 (Kd.R_reads' HO_4.out).2.2 (rd x6_1 x62_4) p270 q270
                                          obtain rfl : ad269 = ad270 := (by injection e270)
                                          replace p270 := eq_true p270
                                          replace q270 := eq_true q270
                                          go_wp2
                                          go_roundg k4
                                          case measure => have := HK1.out; have := HJ20.out; have := HK3.out; have := HK4.out; omega
                                          case rel => exact ⟨(true), (false), (wrap64 (x62_4 + 1)), (by first | rfl | (simp; done) | (simp [*]; done)), (by first | rfl | (simp; done) | (simp [*]; done)), (by first | rfl | (simp; done) | (simp [*]; done)), H', ⟨by have := HK1.out; have := HJ20.out; have := HK3.out; have := HK4.out; omega⟩, ⟨by (with_reducible repeat (first | apply Kd.R_alloc | apply Kd.R_drewN | apply Kd.R_drew)); exact HO_4.out⟩, ⟨by (with_reducible repeat (first | apply Kd.R_alloc | apply Kd.R_drewN | apply Kd.R_drew)); exact HO_6.out⟩, ⟨by (with_reducible repeat (first | apply Kd.R_alloc | apply Kd.R_drewN | apply Kd.R_drew)); exact HO_60.out⟩, ⟨by (with_reducible repeat (first | apply Kd.R_alloc | apply Kd.R_drewN | apply Kd.R_drew)); exact HO_236015.out⟩, ⟨by (with_reducible repeat (first | apply Kd.R_alloc | apply Kd.R_drewN | apply Kd.R_drew)); exact HO_236016.out⟩, ⟨by (with_reducible repeat (first | apply Kd.R_alloc | apply Kd.R_drewN | apply Kd.R_drew)); exact HO_264015.out⟩, ⟨by (with_reducible repeat (first | apply Kd.R_alloc | apply Kd.R_drewN | apply Kd.R_drew)); exact HO_264016.out⟩, ⟨by (with_reducible repeat (first | refine blk_drewN ?_ _ | refine blk_drew ?_ | refine blk_alloc ?_ _)); exact BK235.out⟩, ⟨by (with_reducible repeat (first | refine blk_drewN ?_ _ | refine blk_drew ?_ | refine blk_alloc ?_ _)); exact BK263.out⟩, ⟨by repeat (first | (with_reducible first | exact HB.out | apply below_alloc | apply pw_below_drewN | apply below_drew1 | refine below_set ?_ GE235.out | refine below_set ?_ GE263.out) | exact HB.out)⟩⟩
                                    · replace c43 := Bool.eq_false_iff.mpr c43
                                      subst c43
                                      have H1 : (if x49_3 < ((rd_T76 t209 (rd x6_1 x62_4)).f1.f1) then (if x12_4 = true then (timeboundlaw36_ScratchFrees.l2 k4 t209 x6_1 x49_3 ((rd_T76 t209 (rd x6_1 x62_4)).f0) true x49_3 x6_1 (x6_1.length : Int) (wrap64 (x62_4 + 1)) t213 t214 t215 t216 t217 t218 t219 t220 t221 t222 t223 t224 t225 t226 t227 t228 t231 t241 t242 t243 t244 t245 t246 t247 t248 t249 t250 t251 t252 t253 t254 t255 t256 t259) else (timeboundlaw36_ScratchFrees.l2 k4 t209 x6_1 x49_3 ((rd_T76 t209 (rd x6_1 x62_4)).f0) (!((rd_T76 t209 (rd x6_1 x62_4)).f0)) x49_3 x6_1 (x6_1.length : Int) (wrap64 (x62_4 + 1)) t213 t214 t215 t216 t217 t218 t219 t220 t221 t222 t223 t224 t225 t226 t227 t228 t231 t241 t242 t243 t244 t245 t246 t247 t248 t249 t250 t251 t252 t253 t254 t255 t256 t259)) else (if x12_4 = true then (timeboundlaw36_ScratchFrees.l2 k4 t209 x6_1 x49_3 false true x49_3 x6_1 (x6_1.length : Int) (wrap64 (x62_4 + 1)) t213 t214 t215 t216 t217 t218 t219 t220 t221 t222 t223 t224 t225 t226 t227 t228 t231 t241 t242 t243 t244 t245 t246 t247 t248 t249 t250 t251 t252 t253 t254 t255 t256 t259) else (timeboundlaw36_ScratchFrees.l2 k4 t209 x6_1 x49_3 false false x49_3 x6_1 (x6_1.length : Int) (wrap64 (x62_4 + 1)) t213 t214 t215 t216 t217 t218 t219 t220 t221 t222 t223 t224 t225 t226 t227 t228 t231 t241 t242 t243 t244 t245 t246 t247 t248 t249 t250 t251 t252 t253 t254 t255 t256 t259))) = some r := by rw [if_neg (show ¬ (false = true) by decide)] at H; exact H
                                      clear H
                                      have H := H1
                                      clear H1
                                      by_cases c46 : x49_3 < ((rd_T76 t209 (rd x6_1 x62_4)).f1.f1)
                                      · rw [if_pos c46] at H
                                        have c46b0 : decide (x49_3 < ((rd_T76 t209 (rd x6_1 x62_4)).f1.f1)) = true := decide_eq_true c46
                                        clear c46
                                        by_cases c47 : x12_4 = true
                                        · subst c47
                                          have H1 : (timeboundlaw36_ScratchFrees.l2 k4 t209 x6_1 x49_3 ((rd_T76 t209 (rd x6_1 x62_4)).f0) true x49_3 x6_1 (x6_1.length : Int) (wrap64 (x62_4 + 1)) t213 t214 t215 t216 t217 t218 t219 t220 t221 t222 t223 t224 t225 t226 t227 t228 t231 t241 t242 t243 t244 t245 t246 t247 t248 t249 t250 t251 t252 t253 t254 t255 t256 t259) = some r := by rw [if_pos rfl] at H; exact H
                                          clear H
                                          have H := H1
                                          clear H1
                                          have H' := Aside0.mk H
                                          clear H
                                          have p268 : 0 ≤ (x62_4 : Int) := of_decide_eq_true (by first | (with_reducible assumption) | assumption)
                                          have q268 : x62_4 < (x6_1.length : Int) := of_decide_eq_true (by first | (with_reducible assumption) | assumption)
                                          obtain ⟨ad268, e268, hx268_0⟩ := Kd.at_int (Kd.R_reads' HO_60.out).2.2 x62_4 p268 q268
                                          cases e268
                                          replace p268 := eq_true p268
                                          replace q268 := eq_true q268
                                          have p269 : 0 ≤ ((rd x6_1 x62_4) : Int) := of_decide_eq_true (by first | (with_reducible assumption) | assumption)
                                          have q269 : (rd x6_1 x62_4) < (t209.length : Int) := of_decide_eq_true (by first | (with_reducible assumption) | assumption)
                                          obtain ⟨ad269, e269, hx269_0, hx269_1, hx269_2, hx269_3, hx269_4⟩ := at_T76 (Kd.R_reads' HO_4.out).2.2 (rd x6_1 x62_4) p269 q269
                                          cases e269
                                          replace p269 := eq_true p269
                                          replace q269 := eq_true q269
                                          have p270 : 0 ≤ ((rd x6_1 x62_4) : Int) := of_decide_eq_true (by first | (with_reducible assumption) | assumption)
                                          have q270 : (rd x6_1 x62_4) < (t209.length : Int) := of_decide_eq_true (by first | (with_reducible assumption) | assumption)
                                          obtain ⟨ad270, e270, hx270_0, hx270_1, hx270_2, hx270_3, hx270_4⟩ := at_T76 (Kd.R_reads' HO_4.out).2.2 (rd x6_1 x62_4) p270 q270
                                          obtain rfl : ad269 = ad270 := (by injection e270)
                                          replace p270 := eq_true p270
                                          replace q270 := eq_true q270
                                          have p272 : 0 ≤ ((rd x6_1 x62_4) : Int) := of_decide_eq_true (by first | (with_reducible assumption) | assumption)
                                          have q272 : (rd x6_1 x62_4) < (t209.length : Int) := of_decide_eq_true (by first | (with_reducible assumption) | assumption)
                                          obtain ⟨ad272, e272, hx272_0, hx272_1, hx272_2, hx272_3, hx272_4⟩ := at_T76 (Kd.R_reads' HO_4.out).2.2 (rd x6_1 x62_4) p272 q272
                                          obtain rfl : ad269 = ad272 := (by injection e272)
                                          replace p272 := eq_true p272
                                          replace q272 := eq_true q272
                                          go_wp2
                                          go_roundg k4
                                          case measure => have := HK1.out; have := HJ20.out; have := HK3.out; have := HK4.out; omega
                                          case rel => exact ⟨((rd_T76 t209 (rd x6_1 x62_4)).f0), (true), (wrap64 (x62_4 + 1)), (by first | rfl | (simp; done) | (simp [*]; done)), (by first | rfl | (simp; done) | (simp [*]; done)), (by first | rfl | (simp; done) | (simp [*]; done)), H', ⟨by have := HK1.out; have := HJ20.out; have := HK3.out; have := HK4.out; omega⟩, ⟨by (with_reducible repeat (first | apply Kd.R_alloc | apply Kd.R_drewN | apply Kd.R_drew)); exact HO_4.out⟩, ⟨by (with_reducible repeat (first | apply Kd.R_alloc | apply Kd.R_drewN | apply Kd.R_drew)); exact HO_6.out⟩, ⟨by (with_reducible repeat (first | apply Kd.R_alloc | apply Kd.R_drewN | apply Kd.R_drew)); exact HO_60.out⟩, ⟨by (with_reducible repeat (first | apply Kd.R_alloc | apply Kd.R_drewN | apply Kd.R_drew)); exact HO_236015.out⟩, ⟨by (with_reducible repeat (first | apply Kd.R_alloc | apply Kd.R_drewN | apply Kd.R_drew)); exact HO_236016.out⟩, ⟨by (with_reducible repeat (first | apply Kd.R_alloc | apply Kd.R_drewN | apply Kd.R_drew)); exact HO_264015.out⟩, ⟨by (with_reducible repeat (first | apply Kd.R_alloc | apply Kd.R_drewN | apply Kd.R_drew)); exact HO_264016.out⟩, ⟨by (with_reducible repeat (first | refine blk_drewN ?_ _ | refine blk_drew ?_ | refine blk_alloc ?_ _)); exact BK235.out⟩, ⟨by (with_reducible repeat (first | refine blk_drewN ?_ _ | refine blk_drew ?_ | refine blk_alloc ?_ _)); exact BK263.out⟩, ⟨by repeat (first | (with_reducible first | exact HB.out | apply below_alloc | apply pw_below_drewN | apply below_drew1 | refine below_set ?_ GE235.out | refine below_set ?_ GE263.out) | exact HB.out)⟩⟩
                                        · replace c47 := Bool.eq_false_iff.mpr c47
                                          subst c47
                                          have H1 : (timeboundlaw36_ScratchFrees.l2 k4 t209 x6_1 x49_3 ((rd_T76 t209 (rd x6_1 x62_4)).f0) (!((rd_T76 t209 (rd x6_1 x62_4)).f0)) x49_3 x6_1 (x6_1.length : Int) (wrap64 (x62_4 + 1)) t213 t214 t215 t216 t217 t218 t219 t220 t221 t222 t223 t224 t225 t226 t227 t228 t231 t241 t242 t243 t244 t245 t246 t247 t248 t249 t250 t251 t252 t253 t254 t255 t256 t259) = some r := by rw [if_neg (show ¬ (false = true) by decide)] at H; exact H
                                          clear H
                                          have H := H1
                                          clear H1
                                          have H' := Aside0.mk H
                                          clear H
                                          have p268 : 0 ≤ (x62_4 : Int) := of_decide_eq_true (by first | (with_reducible assumption) | assumption)
                                          have q268 : x62_4 < (x6_1.length : Int) := of_decide_eq_true (by first | (with_reducible assumption) | assumption)
                                          obtain ⟨ad268, e268, hx268_0⟩ := Kd.at_int (Kd.R_reads' HO_60.out).2.2 x62_4 p268 q268
                                          cases e268
                                          replace p268 := eq_true p268
                                          replace q268 := eq_true q268
                                          have p269 : 0 ≤ ((rd x6_1 x62_4) : Int) := of_decide_eq_true (by first | (with_reducible assumption) | assumption)
                                          have q269 : (rd x6_1 x62_4) < (t209.length : Int) := of_decide_eq_true (by first | (with_reducible assumption) | assumption)
                                          obtain ⟨ad269, e269, hx269_0, hx269_1, hx269_2, hx269_3, hx269_4⟩ := at_T76 (Kd.R_reads' HO_4.out).2.2 (rd x6_1 x62_4) p269 q269
                                          cases e269
                                          replace p269 := eq_true p269
                                          replace q269 := eq_true q269
                                          have p270 : 0 ≤ ((rd x6_1 x62_4) : Int) := of_decide_eq_true (by first | (with_reducible assumption) | assumption)
                                          have q270 : (rd x6_1 x62_4) < (t209.length : Int) := of_decide_eq_true (by first | (with_reducible assumption) | assumption)
                                          obtain ⟨ad270, e270, hx270_0, hx270_1, hx270_2, hx270_3, hx270_4⟩ := at_T76 (Kd.R_reads' HO_4.out).2.2 (rd x6_1 x62_4) p270 q270
                                          obtain rfl : ad269 = ad270 := (by injection e270)
                                          replace p270 := eq_true p270
                                          replace q270 := eq_true q270
                                          have p272 : 0 ≤ ((rd x6_1 x62_4) : Int) := of_decide_eq_true (by first | (with_reducible assumption) | assumption)
                                          have q272 : (rd x6_1 x62_4) < (t209.length : Int) := of_decide_eq_true (by first | (with_reducible assumption) | assumption)
                                          obtain ⟨ad272, e272, hx272_0, hx272_1, hx272_2, hx272_3, hx272_4⟩ := at_T76 (Kd.R_reads' HO_4.out).2.2 (rd x6_1 x62_4) p272 q272
                                          obtain rfl : ad269 = ad272 := (by injection e272)
                                          replace p272 := eq_true p272
                                          replace q272 := eq_true q272
                                          have p273 : 0 ≤ ((rd x6_1 x62_4) : Int) := of_decide_eq_true (by first | (with_reducible assumption) | assumption)
                                          have q273 : (rd x6_1 x62_4) < (t209.length : Int) := of_decide_eq_true (by first | (with_reducible assumption) | assumption)
                                          obtain ⟨ad273, e273, hx273_0, hx273_1, hx273_2, hx273_3, hx273_4⟩ := at_T76 (Kd.R_reads' HO_4.out).2.2 (rd x6_1 x62_4) p273 q273
                                          obtain rfl : ad269 = ad273 := (by injection e273)
                                          replace p273 := eq_true p273
                                          replace q273 := eq_true q273
                                          go_wp2
                                          go_roundg k4
                                          case measure => have := HK1.out; have := HJ20.out; have := HK3.out; have := HK4.out; omega
                                          case rel => exact ⟨((rd_T76 t209 (rd x6_1 x62_4)).f0), (!((rd_T76 t209 (rd x6_1 x62_4)).f0)), (wrap64 (x62_4 + 1)), (by first | rfl | (simp; done) | (simp [*]; done)), (by first | rfl | (simp; done) | (simp [*]; done)), (by first | rfl | (simp; done) | (simp [*]; done)), H', ⟨by have := HK1.out; have := HJ20.out; have := HK3.out; have := HK4.out; omega⟩, ⟨by (with_reducible repeat (first | apply Kd.R_alloc | apply Kd.R_drewN | apply Kd.R_drew)); exact HO_4.out⟩, ⟨by (with_reducible repeat (first | apply Kd.R_alloc | apply Kd.R_drewN | apply Kd.R_drew)); exact HO_6.out⟩, ⟨by (with_reducible repeat (first | apply Kd.R_alloc | apply Kd.R_drewN | apply Kd.R_drew)); exact HO_60.out⟩, ⟨by (with_reducible repeat (first | apply Kd.R_alloc | apply Kd.R_drewN | apply Kd.R_drew)); exact HO_236015.out⟩, ⟨by (with_reducible repeat (first | apply Kd.R_alloc | apply Kd.R_drewN | apply Kd.R_drew)); exact HO_236016.out⟩, ⟨by (with_reducible repeat (first | apply Kd.R_alloc | apply Kd.R_drewN | apply Kd.R_drew)); exact HO_264015.out⟩, ⟨by (with_reducible repeat (first | apply Kd.R_alloc | apply Kd.R_drewN | apply Kd.R_drew)); exact HO_264016.out⟩, ⟨by (with_reducible repeat (first | refine blk_drewN ?_ _ | refine blk_drew ?_ | refine blk_alloc ?_ _)); exact BK235.out⟩, ⟨by (with_reducible repeat (first | refine blk_drewN ?_ _ | refine blk_drew ?_ | refine blk_alloc ?_ _)); exact BK263.out⟩, ⟨by repeat (first | (with_reducible first | exact HB.out | apply below_alloc | apply pw_below_drewN | apply below_drew1 | refine below_set ?_ GE235.out | refine below_set ?_ GE263.out) | exact HB.out)⟩⟩
                                      · rw [if_neg c46] at H
                                        have c46b0 : decide (x49_3 < ((rd_T76 t209 (rd x6_1 x62_4)).f1.f1)) = false := decide_eq_false c46
                                        clear c46
                                        by_cases c48 : x12_4 = true
                                        · subst c48
                                          have H1 : (timeboundlaw36_ScratchFrees.l2 k4 t209 x6_1 x49_3 false true x49_3 x6_1 (x6_1.length : Int) (wrap64 (x62_4 + 1)) t213 t214 t215 t216 t217 t218 t219 t220 t221 t222 t223 t224 t225 t226 t227 t228 t231 t241 t242 t243 t244 t245 t246 t247 t248 t249 t250 t251 t252 t253 t254 t255 t256 t259) = some r := by rw [if_pos rfl] at H; exact H
                                          clear H
                                          have H := H1
                                          clear H1
                                          have H' := Aside0.mk H
                                          clear H
                                          have p268 : 0 ≤ (x62_4 : Int) := of_decide_eq_true (by first | (with_reducible assumption) | assumption)
                                          have q268 : x62_4 < (x6_1.length : Int) := of_decide_eq_true (by first | (with_reducible assumption) | assumption)
                                          obtain ⟨ad268, e268, hx268_0⟩ := Kd.at_int (Kd.R_reads' HO_60.out).2.2 x62_4 p268 q268
                                          cases e268
                                          replace p268 := eq_true p268
                                          replace q268 := eq_true q268
                                          have p269 : 0 ≤ ((rd x6_1 x62_4) : Int) := of_decide_eq_true (by first | (with_reducible assumption) | assumption)
                                          have q269 : (rd x6_1 x62_4) < (t209.length : Int) := of_decide_eq_true (by first | (with_reducible assumption) | assumption)
                                          obtain ⟨ad269, e269, hx269_0, hx269_1, hx269_2, hx269_3, hx269_4⟩ := at_T76 (Kd.R_reads' HO_4.out).2.2 (rd x6_1 x62_4) p269 q269
                                          cases e269
                                          replace p269 := eq_true p269
                                          replace q269 := eq_true q269
                                          have p270 : 0 ≤ ((rd x6_1 x62_4) : Int) := of_decide_eq_true (by first | (with_reducible assumption) | assumption)
                                          have q270 : (rd x6_1 x62_4) < (t209.length : Int) := of_decide_eq_true (by first | (with_reducible assumption) | assumption)
                                          obtain ⟨ad270, e270, hx270_0, hx270_1, hx270_2, hx270_3, hx270_4⟩ := at_T76 (Kd.R_reads' HO_4.out).2.2 (rd x6_1 x62_4) p270 q270
                                          obtain rfl : ad269 = ad270 := (by injection e270)
                                          replace p270 := eq_true p270
                                          replace q270 := eq_true q270
                                          go_wp2
                                          go_roundg k4
                                          case measure => have := HK1.out; have := HJ20.out; have := HK3.out; have := HK4.out; omega
                                          case rel => exact ⟨(false), (true), (wrap64 (x62_4 + 1)), (by first | rfl | (simp; done) | (simp [*]; done)), (by first | rfl | (simp; done) | (simp [*]; done)), (by first | rfl | (simp; done) | (simp [*]; done)), H', ⟨by have := HK1.out; have := HJ20.out; have := HK3.out; have := HK4.out; omega⟩, ⟨by (with_reducible repeat (first | apply Kd.R_alloc | apply Kd.R_drewN | apply Kd.R_drew)); exact HO_4.out⟩, ⟨by (with_reducible repeat (first | apply Kd.R_alloc | apply Kd.R_drewN | apply Kd.R_drew)); exact HO_6.out⟩, ⟨by (with_reducible repeat (first | apply Kd.R_alloc | apply Kd.R_drewN | apply Kd.R_drew)); exact HO_60.out⟩, ⟨by (with_reducible repeat (first | apply Kd.R_alloc | apply Kd.R_drewN | apply Kd.R_drew)); exact HO_236015.out⟩, ⟨by (with_reducible repeat (first | apply Kd.R_alloc | apply Kd.R_drewN | apply Kd.R_drew)); exact HO_236016.out⟩, ⟨by (with_reducible repeat (first | apply Kd.R_alloc | apply Kd.R_drewN | apply Kd.R_drew)); exact HO_264015.out⟩, ⟨by (with_reducible repeat (first | apply Kd.R_alloc | apply Kd.R_drewN | apply Kd.R_drew)); exact HO_264016.out⟩, ⟨by (with_reducible repeat (first | refine blk_drewN ?_ _ | refine blk_drew ?_ | refine blk_alloc ?_ _)); exact BK235.out⟩, ⟨by (with_reducible repeat (first | refine blk_drewN ?_ _ | refine blk_drew ?_ | refine blk_alloc ?_ _)); exact BK263.out⟩, ⟨by repeat (first | (with_reducible first | exact HB.out | apply below_alloc | apply pw_below_drewN | apply below_drew1 | refine below_set ?_ GE235.out | refine below_set ?_ GE263.out) | exact HB.out)⟩⟩
                                        · replace c48 := Bool.eq_false_iff.mpr c48
                                          subst c48
                                          have H1 : (timeboundlaw36_ScratchFrees.l2 k4 t209 x6_1 x49_3 false false x49_3 x6_1 (x6_1.length : Int) (wrap64 (x62_4 + 1)) t213 t214 t215 t216 t217 t218 t219 t220 t221 t222 t223 t224 t225 t226 t227 t228 t231 t241 t242 t243 t244 t245 t246 t247 t248 t249 t250 t251 t252 t253 t254 t255 t256 t259) = some r := by rw [if_neg (show ¬ (false = true) by decide)] at H; exact H
                                          clear H
                                          have H := H1
                                          clear H1
                                          have H' := Aside0.mk H
                                          clear H
                                          have p268 : 0 ≤ (x62_4 : Int) := of_decide_eq_true (by first | (with_reducible assumption) | assumption)
                                          have q268 : x62_4 < (x6_1.length : Int) := of_decide_eq_true (by first | (with_reducible assumption) | assumption)
                                          obtain ⟨ad268, e268, hx268_0⟩ := Kd.at_int (Kd.R_reads' HO_60.out).2.2 x62_4 p268 q268
                                          cases e268
                                          replace p268 := eq_true p268
                                          replace q268 := eq_true q268
                                          have p269 : 0 ≤ ((rd x6_1 x62_4) : Int) := of_decide_eq_true (by first | (with_reducible assumption) | assumption)
                                          have q269 : (rd x6_1 x62_4) < (t209.length : Int) := of_decide_eq_true (by first | (with_reducible assumption) | assumption)
                                          obtain ⟨ad269, e269, hx269_0, hx269_1, hx269_2, hx269_3, hx269_4⟩ := at_T76 (Kd.R_reads' HO_4.out).2.2 (rd x6_1 x62_4) p269 q269
                                          cases e269
                                          replace p269 := eq_true p269
                                          replace q269 := eq_true q269
                                          have p270 : 0 ≤ ((rd x6_1 x62_4) : Int) := of_decide_eq_true (by first | (with_reducible assumption) | assumption)
                                          have q270 : (rd x6_1 x62_4) < (t209.length : Int) := of_decide_eq_true (by first | (with_reducible assumption) | assumption)
                                          obtain ⟨ad270, e270, hx270_0, hx270_1, hx270_2, hx270_3, hx270_4⟩ := at_T76 (Kd.R_reads' HO_4.out).2.2 (rd x6_1 x62_4) p270 q270
                                          obtain rfl : ad269 = ad270 := (by injection e270)
                                          replace p270 := eq_true p270
                                          replace q270 := eq_true q270
                                          go_wp2
                                          go_roundg k4
                                          case measure => have := HK1.out; have := HJ20.out; have := HK3.out; have := HK4.out; omega
                                          case rel => exact ⟨(false), (false), (wrap64 (x62_4 + 1)), (by first | rfl | (simp; done) | (simp [*]; done)), (by first | rfl | (simp; done) | (simp [*]; done)), (by first | rfl | (simp; done) | (simp [*]; done)), H', ⟨by have := HK1.out; have := HJ20.out; have := HK3.out; have := HK4.out; omega⟩, ⟨by (with_reducible repeat (first | apply Kd.R_alloc | apply Kd.R_drewN | apply Kd.R_drew)); exact HO_4.out⟩, ⟨by (with_reducible repeat (first | apply Kd.R_alloc | apply Kd.R_drewN | apply Kd.R_drew)); exact HO_6.out⟩, ⟨by (with_reducible repeat (first | apply Kd.R_alloc | apply Kd.R_drewN | apply Kd.R_drew)); exact HO_60.out⟩, ⟨by (with_reducible repeat (first | apply Kd.R_alloc | apply Kd.R_drewN | apply Kd.R_drew)); exact HO_236015.out⟩, ⟨by (with_reducible repeat (first | apply Kd.R_alloc | apply Kd.R_drewN | apply Kd.R_drew)); exact HO_236016.out⟩, ⟨by (with_reducible repeat (first | apply Kd.R_alloc | apply Kd.R_drewN | apply Kd.R_drew)); exact HO_264015.out⟩, ⟨by (with_reducible repeat (first | apply Kd.R_alloc | apply Kd.R_drewN | apply Kd.R_drew)); exact HO_264016.out⟩, ⟨by (with_reducible repeat (first | refine blk_drewN ?_ _ | refine blk_drew ?_ | refine blk_alloc ?_ _)); exact BK235.out⟩, ⟨by (with_reducible repeat (first | refine blk_drewN ?_ _ | refine blk_drew ?_ | refine blk_alloc ?_ _)); exact BK263.out⟩, ⟨by repeat (first | (with_reducible first | exact HB.out | apply below_alloc | apply pw_below_drewN | apply below_drew1 | refine below_set ?_ GE235.out | refine below_set ?_ GE263.out) | exact HB.out)⟩⟩
                                  · rw [if_neg c42] at H
                                    have c42b0 : decide (((rd_T76 t209 (rd x6_1 x62_4)).f1.f0) ≤ x49_3) = false := decide_eq_false c42
                                    clear c42
                                    by_cases c49 : x11_4 = true
                                    · subst c49
                                      have H1 : (if x12_4 = true then (timeboundlaw36_ScratchFrees.l2 k4 t209 x6_1 x49_3 true true x49_3 x6_1 (x6_1.length : Int) (wrap64 (x62_4 + 1)) t213 t214 t215 t216 t217 t218 t219 t220 t221 t222 t223 t224 t225 t226 t227 t228 t231 t241 t242 t243 t244 t245 t246 t247 t248 t249 t250 t251 t252 t253 t254 t255 t256 t259) else (timeboundlaw36_ScratchFrees.l2 k4 t209 x6_1 x49_3 true false x49_3 x6_1 (x6_1.length : Int) (wrap64 (x62_4 + 1)) t213 t214 t215 t216 t217 t218 t219 t220 t221 t222 t223 t224 t225 t226 t227 t228 t231 t241 t242 t243 t244 t245 t246 t247 t248 t249 t250 t251 t252 t253 t254 t255 t256 t259)) = some r := by rw [if_pos rfl] at H; exact H
                                      clear H
                                      have H := H1
                                      clear H1
                                      by_cases c50 : x12_4 = true
                                      · subst c50
                                        have H1 : (timeboundlaw36_ScratchFrees.l2 k4 t209 x6_1 x49_3 true true x49_3 x6_1 (x6_1.length : Int) (wrap64 (x62_4 + 1)) t213 t214 t215 t216 t217 t218 t219 t220 t221 t222 t223 t224 t225 t226 t227 t228 t231 t241 t242 t243 t244 t245 t246 t247 t248 t249 t250 t251 t252 t253 t254 t255 t256 t259) = some r := by rw [if_pos rfl] at H; exact H
                                        clear H
                                        have H := H1
                                        clear H1
                                        have H' := Aside0.mk H
                                        clear H
                                        have p268 : 0 ≤ (x62_4 : Int) := of_decide_eq_true (by first | (with_reducible assumption) | assumption)
                                        have q268 : x62_4 < (x6_1.length : Int) := of_decide_eq_true (by first | (with_reducible assumption) | assumption)
                                        obtain ⟨ad268, e268, hx268_0⟩ := Kd.at_int (Kd.R_reads' HO_60.out).2.2 x62_4 p268 q268
                                        cases e268
                                        replace p268 := eq_true p268
                                        replace q268 := eq_true q268
                                        have p269 : 0 ≤ ((rd x6_1 x62_4) : Int) := of_decide_eq_true (by first | (with_reducible assumption) | assumption)
                                        have q269 : (rd x6_1 x62_4) < (t209.length : Int) := of_decide_eq_true (by first | (with_reducible assumption) | assumption)
                                        obtain ⟨ad269, e269, hx269_0, hx269_1, hx269_2, hx269_3, hx269_4⟩ := at_T76 (Kd.R_reads' HO_4.out).2.2 (rd x6_1 x62_4) p269 q269
                                        cases e269
                                        replace p269 := eq_true p269
                                        replace q269 := eq_true q269
                                        go_wp2
                                        go_roundg k4
                                        case measure => have := HK1.out; have := HJ20.out; have := HK3.out; have := HK4.out; omega
                                        case rel => exact ⟨(true), (true), (wrap64 (x62_4 + 1)), (by first | rfl | (simp; done) | (simp [*]; done)), (by first | rfl | (simp; done) | (simp [*]; done)), (by first | rfl | (simp; done) | (simp [*]; done)), H', ⟨by have := HK1.out; have := HJ20.out; have := HK3.out; have := HK4.out; omega⟩, ⟨by (with_reducible repeat (first | apply Kd.R_alloc | apply Kd.R_drewN | apply Kd.R_drew)); exact HO_4.out⟩, ⟨by (with_reducible repeat (first | apply Kd.R_alloc | apply Kd.R_drewN | apply Kd.R_drew)); exact HO_6.out⟩, ⟨by (with_reducible repeat (first | apply Kd.R_alloc | apply Kd.R_drewN | apply Kd.R_drew)); exact HO_60.out⟩, ⟨by (with_reducible repeat (first | apply Kd.R_alloc | apply Kd.R_drewN | apply Kd.R_drew)); exact HO_236015.out⟩, ⟨by (with_reducible repeat (first | apply Kd.R_alloc | apply Kd.R_drewN | apply Kd.R_drew)); exact HO_236016.out⟩, ⟨by (with_reducible repeat (first | apply Kd.R_alloc | apply Kd.R_drewN | apply Kd.R_drew)); exact HO_264015.out⟩, ⟨by (with_reducible repeat (first | apply Kd.R_alloc | apply Kd.R_drewN | apply Kd.R_drew)); exact HO_264016.out⟩, ⟨by (with_reducible repeat (first | refine blk_drewN ?_ _ | refine blk_drew ?_ | refine blk_alloc ?_ _)); exact BK235.out⟩, ⟨by (with_reducible repeat (first | refine blk_drewN ?_ _ | refine blk_drew ?_ | refine blk_alloc ?_ _)); exact BK263.out⟩, ⟨by repeat (first | (with_reducible first | exact HB.out | apply below_alloc | apply pw_below_drewN | apply below_drew1 | refine below_set ?_ GE235.out | refine below_set ?_ GE263.out) | exact HB.out)⟩⟩
                                      · replace c50 := Bool.eq_false_iff.mpr c50
                                        subst c50
                                        have H1 : (timeboundlaw36_ScratchFrees.l2 k4 t209 x6_1 x49_3 true false x49_3 x6_1 (x6_1.length : Int) (wrap64 (x62_4 + 1)) t213 t214 t215 t216 t217 t218 t219 t220 t221 t222 t223 t224 t225 t226 t227 t228 t231 t241 t242 t243 t244 t245 t246 t247 t248 t249 t250 t251 t252 t253 t254 t255 t256 t259) = some r := by rw [if_neg (show ¬ (false = true) by decide)] at H; exact H
                                        clear H
                                        have H := H1
                                        clear H1
                                        have H' := Aside0.mk H
                                        clear H
                                        have p268 : 0 ≤ (x62_4 : Int) := of_decide_eq_true (by first | (with_reducible assumption) | assumption)
                                        have q268 : x62_4 < (x6_1.length : Int) := of_decide_eq_true (by first | (with_reducible assumption) | assumption)
                                        obtain ⟨ad268, e268, hx268_0⟩ := Kd.at_int (Kd.R_reads' HO_60.out).2.2 x62_4 p268 q268
                                        cases e268
                                        replace p268 := eq_true p268
                                        replace q268 := eq_true q268
                                        have p269 : 0 ≤ ((rd x6_1 x62_4) : Int) := of_decide_eq_true (by first | (with_reducible assumption) | assumption)
                                        have q269 : (rd x6_1 x62_4) < (t209.length : Int) := of_decide_eq_true (by first | (with_reducible assumption) | assumption)
                                        obtain ⟨ad269, e269, hx269_0, hx269_1, hx269_2, hx269_3, hx269_4⟩ := at_T76 (Kd.R_reads' HO_4.out).2.2 (rd x6_1 x62_4) p269 q269
                                        cases e269
                                        replace p269 := eq_true p269
                                        replace q269 := eq_true q269
                                        go_wp2
                                        go_roundg k4
                                        case measure => have := HK1.out; have := HJ20.out; have := HK3.out; have := HK4.out; omega
                                        case rel => exact ⟨(true), (false), (wrap64 (x62_4 + 1)), (by first | rfl | (simp; done) | (simp [*]; done)), (by first | rfl | (simp; done) | (simp [*]; done)), (by first | rfl | (simp; done) | (simp [*]; done)), H', ⟨by have := HK1.out; have := HJ20.out; have := HK3.out; have := HK4.out; omega⟩, ⟨by (with_reducible repeat (first | apply Kd.R_alloc | apply Kd.R_drewN | apply Kd.R_drew)); exact HO_4.out⟩, ⟨by (with_reducible repeat (first | apply Kd.R_alloc | apply Kd.R_drewN | apply Kd.R_drew)); exact HO_6.out⟩, ⟨by (with_reducible repeat (first | apply Kd.R_alloc | apply Kd.R_drewN | apply Kd.R_drew)); exact HO_60.out⟩, ⟨by (with_reducible repeat (first | apply Kd.R_alloc | apply Kd.R_drewN | apply Kd.R_drew)); exact HO_236015.out⟩, ⟨by (with_reducible repeat (first | apply Kd.R_alloc | apply Kd.R_drewN | apply Kd.R_drew)); exact HO_236016.out⟩, ⟨by (with_reducible repeat (first | apply Kd.R_alloc | apply Kd.R_drewN | apply Kd.R_drew)); exact HO_264015.out⟩, ⟨by (with_reducible repeat (first | apply Kd.R_alloc | apply Kd.R_drewN | apply Kd.R_drew)); exact HO_264016.out⟩, ⟨by (with_reducible repeat (first | refine blk_drewN ?_ _ | refine blk_drew ?_ | refine blk_alloc ?_ _)); exact BK235.out⟩, ⟨by (with_reducible repeat (first | refine blk_drewN ?_ _ | refine blk_drew ?_ | refine blk_alloc ?_ _)); exact BK263.out⟩, ⟨by repeat (first | (with_reducible first | exact HB.out | apply below_alloc | apply pw_below_drewN | apply below_drew1 | refine below_set ?_ GE235.out | refine below_set ?_ GE263.out) | exact HB.out)⟩⟩
                                    · replace c49 := Bool.eq_false_iff.mpr c49
                                      subst c49
                                      have H1 : (if x12_4 = true then (timeboundlaw36_ScratchFrees.l2 k4 t209 x6_1 x49_3 false true x49_3 x6_1 (x6_1.length : Int) (wrap64 (x62_4 + 1)) t213 t214 t215 t216 t217 t218 t219 t220 t221 t222 t223 t224 t225 t226 t227 t228 t231 t241 t242 t243 t244 t245 t246 t247 t248 t249 t250 t251 t252 t253 t254 t255 t256 t259) else (timeboundlaw36_ScratchFrees.l2 k4 t209 x6_1 x49_3 false false x49_3 x6_1 (x6_1.length : Int) (wrap64 (x62_4 + 1)) t213 t214 t215 t216 t217 t218 t219 t220 t221 t222 t223 t224 t225 t226 t227 t228 t231 t241 t242 t243 t244 t245 t246 t247 t248 t249 t250 t251 t252 t253 t254 t255 t256 t259)) = some r := by rw [if_neg (show ¬ (false = true) by decide)] at H; exact H
                                      clear H
                                      have H := H1
                                      clear H1
                                      by_cases c51 : x12_4 = true
                                      · subst c51
                                        have H1 : (timeboundlaw36_ScratchFrees.l2 k4 t209 x6_1 x49_3 false true x49_3 x6_1 (x6_1.length : Int) (wrap64 (x62_4 + 1)) t213 t214 t215 t216 t217 t218 t219 t220 t221 t222 t223 t224 t225 t226 t227 t228 t231 t241 t242 t243 t244 t245 t246 t247 t248 t249 t250 t251 t252 t253 t254 t255 t256 t259) = some r := by rw [if_pos rfl] at H; exact H
                                        clear H
                                        have H := H1
                                        clear H1
                                        have H' := Aside0.mk H
                                        clear H
                                        have p268 : 0 ≤ (x62_4 : Int) := of_decide_eq_true (by first | (with_reducible assumption) | assumption)
                                        have q268 : x62_4 < (x6_1.length : Int) := of_decide_eq_true (by first | (with_reducible assumption) | assumption)
                                        obtain ⟨ad268, e268, hx268_0⟩ := Kd.at_int (Kd.R_reads' HO_60.out).2.2 x62_4 p268 q268
                                        cases e268
                                        replace p268 := eq_true p268
                                        replace q268 := eq_true q268
                                        have p269 : 0 ≤ ((rd x6_1 x62_4) : Int) := of_decide_eq_true (by first | (with_reducible assumption) | assumption)
                                        have q269 : (rd x6_1 x62_4) < (t209.length : Int) := of_decide_eq_true (by first | (with_reducible assumption) | assumption)
                                        obtain ⟨ad269, e269, hx269_0, hx269_1, hx269_2, hx269_3, hx269_4⟩ := at_T76 (Kd.R_reads' HO_4.out).2.2 (rd x6_1 x62_4) p269 q269
                                        cases e269
                                        replace p269 := eq_true p269
                                        replace q269 := eq_true q269
                                        go_wp2
                                        go_roundg k4
                                        case measure => have := HK1.out; have := HJ20.out; have := HK3.out; have := HK4.out; omega
                                        case rel => exact ⟨(false), (true), (wrap64 (x62_4 + 1)), (by first | rfl | (simp; done) | (simp [*]; done)), (by first | rfl | (simp; done) | (simp [*]; done)), (by first | rfl | (simp; done) | (simp [*]; done)), H', ⟨by have := HK1.out; have := HJ20.out; have := HK3.out; have := HK4.out; omega⟩, ⟨by (with_reducible repeat (first | apply Kd.R_alloc | apply Kd.R_drewN | apply Kd.R_drew)); exact HO_4.out⟩, ⟨by (with_reducible repeat (first | apply Kd.R_alloc | apply Kd.R_drewN | apply Kd.R_drew)); exact HO_6.out⟩, ⟨by (with_reducible repeat (first | apply Kd.R_alloc | apply Kd.R_drewN | apply Kd.R_drew)); exact HO_60.out⟩, ⟨by (with_reducible repeat (first | apply Kd.R_alloc | apply Kd.R_drewN | apply Kd.R_drew)); exact HO_236015.out⟩, ⟨by (with_reducible repeat (first | apply Kd.R_alloc | apply Kd.R_drewN | apply Kd.R_drew)); exact HO_236016.out⟩, ⟨by (with_reducible repeat (first | apply Kd.R_alloc | apply Kd.R_drewN | apply Kd.R_drew)); exact HO_264015.out⟩, ⟨by (with_reducible repeat (first | apply Kd.R_alloc | apply Kd.R_drewN | apply Kd.R_drew)); exact HO_264016.out⟩, ⟨by (with_reducible repeat (first | refine blk_drewN ?_ _ | refine blk_drew ?_ | refine blk_alloc ?_ _)); exact BK235.out⟩, ⟨by (with_reducible repeat (first | refine blk_drewN ?_ _ | refine blk_drew ?_ | refine blk_alloc ?_ _)); exact BK263.out⟩, ⟨by repeat (first | (with_reducible first | exact HB.out | apply below_alloc | apply pw_below_drewN | apply below_drew1 | refine below_set ?_ GE235.out | refine below_set ?_ GE263.out) | exact HB.out)⟩⟩
                                      · replace c51 := Bool.eq_false_iff.mpr c51
                                        subst c51
                                        have H1 : (timeboundlaw36_ScratchFrees.l2 k4 t209 x6_1 x49_3 false false x49_3 x6_1 (x6_1.length : Int) (wrap64 (x62_4 + 1)) t213 t214 t215 t216 t217 t218 t219 t220 t221 t222 t223 t224 t225 t226 t227 t228 t231 t241 t242 t243 t244 t245 t246 t247 t248 t249 t250 t251 t252 t253 t254 t255 t256 t259) = some r := by rw [if_neg (show ¬ (false = true) by decide)] at H; exact H
                                        clear H
                                        have H := H1
                                        clear H1
                                        have H' := Aside0.mk H
                                        clear H
                                        have p268 : 0 ≤ (x62_4 : Int) := of_decide_eq_true (by first | (with_reducible assumption) | assumption)
                                        have q268 : x62_4 < (x6_1.length : Int) := of_decide_eq_true (by first | (with_reducible assumption) | assumption)
                                        obtain ⟨ad268, e268, hx268_0⟩ := Kd.at_int (Kd.R_reads' HO_60.out).2.2 x62_4 p268 q268
                                        cases e268
                                        replace p268 := eq_true p268
                                        replace q268 := eq_true q268
                                        have p269 : 0 ≤ ((rd x6_1 x62_4) : Int) := of_decide_eq_true (by first | (with_reducible assumption) | assumption)
                                        have q269 : (rd x6_1 x62_4) < (t209.length : Int) := of_decide_eq_true (by first | (with_reducible assumption) | assumption)
                                        obtain ⟨ad269, e269, hx269_0, hx269_1, hx269_2, hx269_3, hx269_4⟩ := at_T76 (Kd.R_reads' HO_4.out).2.2 (rd x6_1 x62_4) p269 q269
                                        cases e269
                                        replace p269 := eq_true p269
                                        replace q269 := eq_true q269
                                        go_wp2
                                        go_roundg k4
                                        case measure => have := HK1.out; have := HJ20.out; have := HK3.out; have := HK4.out; omega
                                        case rel => exact ⟨(false), (false), (wrap64 (x62_4 + 1)), (by first | rfl | (simp; done) | (simp [*]; done)), (by first | rfl | (simp; done) | (simp [*]; done)), (by first | rfl | (simp; done) | (simp [*]; done)), H', ⟨by have := HK1.out; have := HJ20.out; have := HK3.out; have := HK4.out; omega⟩, ⟨by (with_reducible repeat (first | apply Kd.R_alloc | apply Kd.R_drewN | apply Kd.R_drew)); exact HO_4.out⟩, ⟨by (with_reducible repeat (first | apply Kd.R_alloc | apply Kd.R_drewN | apply Kd.R_drew)); exact HO_6.out⟩, ⟨by (with_reducible repeat (first | apply Kd.R_alloc | apply Kd.R_drewN | apply Kd.R_drew)); exact HO_60.out⟩, ⟨by (with_reducible repeat (first | apply Kd.R_alloc | apply Kd.R_drewN | apply Kd.R_drew)); exact HO_236015.out⟩, ⟨by (with_reducible repeat (first | apply Kd.R_alloc | apply Kd.R_drewN | apply Kd.R_drew)); exact HO_236016.out⟩, ⟨by (with_reducible repeat (first | apply Kd.R_alloc | apply Kd.R_drewN | apply Kd.R_drew)); exact HO_264015.out⟩, ⟨by (with_reducible repeat (first | apply Kd.R_alloc | apply Kd.R_drewN | apply Kd.R_drew)); exact HO_264016.out⟩, ⟨by (with_reducible repeat (first | refine blk_drewN ?_ _ | refine blk_drew ?_ | refine blk_alloc ?_ _)); exact BK235.out⟩, ⟨by (with_reducible repeat (first | refine blk_drewN ?_ _ | refine blk_drew ?_ | refine blk_alloc ?_ _)); exact BK263.out⟩, ⟨by repeat (first | (with_reducible first | exact HB.out | apply below_alloc | apply pw_below_drewN | apply below_drew1 | refine below_set ?_ GE235.out | refine below_set ?_ GE263.out) | exact HB.out)⟩⟩
                                · rw [if_neg c41] at H
                                  exact absurd H (by simp)
                              · rw [if_neg c40] at H
                                exact absurd H (by simp)
                            · rw [if_neg c39] at H
                              exact absurd H (by simp)
                          · rw [if_neg c38] at H
                            exact absurd H (by simp)
                        · rw [if_neg c37] at H
                          have c37b0 : decide (x62_4 < (x6_1.length : Int)) = false := decide_eq_false c37
                          clear c37
                          replace H := Option.bind_eq_some_iff.mp H
                          obtain ⟨t274, A520, H⟩ := H
                          replace H : (if (t274 != x11_4) = true then (some false) else ((timeboundref23_Scratch.f k4 t259 x49_3).bind fun t275 => (if (t275 != x12_4) = true then (some false) else (timeboundlaw36_ScratchFrees.l1 k4 t209 x6_1 (wrap64 (x49_3 + 1)) t213 t214 t215 t216 t217 t218 t219 t220 t221 t222 t223 t224 t225 t226 t227 t228 t231 t241 t242 t243 t244 t245 t246 t247 t248 t249 t250 t251 t252 t253 t254 t255 t256 t259)))) = some r := H
                          have A52 := Aside0.mk A520
                          clear A520
                          by_cases c53 : (t274 != x11_4) = true
                          · rw [if_pos c53] at H
                            have c53b0 : (t274 != x11_4) = true := c53
                            (try (have c53b1 : decide (t274 = x11_4) = false := by simpa using c53))
                            (try (have c53b2 : (t274 == x11_4) = false := by simpa using c53))
                            (try (have c53b3 : ¬ (t274 = x11_4) := by simpa using c53))
                            clear c53
                            obtain rfl := Option.some.inj H
                            have hnb54 := NB263_235.out
                            have hnc54 := NB235_263.out
                            have hcz55_0 : wr.cell? ⟨gb263, 0, none⟩ = some (.int .i64 t241) := (blk_cell BK263.out 0).trans rfl
                            have hcz55_1 : wr.cell? ⟨gb263, 1, none⟩ = some (.int .i64 t242) := (blk_cell BK263.out 1).trans rfl
                            have hcz55_2 : wr.cell? ⟨gb263, 2, none⟩ = some (.int .i64 t243) := (blk_cell BK263.out 2).trans rfl
                            have hcz55_3 : wr.cell? ⟨gb263, 3, none⟩ = some (.int .i64 t244) := (blk_cell BK263.out 3).trans rfl
                            have hcz55_4 : wr.cell? ⟨gb263, 4, none⟩ = some (.int .i64 t245) := (blk_cell BK263.out 4).trans rfl
                            have hcz55_5 : wr.cell? ⟨gb263, 5, none⟩ = some (.int .i64 t246) := (blk_cell BK263.out 5).trans rfl
                            have hcz55_6 : wr.cell? ⟨gb263, 6, none⟩ = some (.int .i64 t247) := (blk_cell BK263.out 6).trans rfl
                            have hcz55_7 : wr.cell? ⟨gb263, 7, none⟩ = some (.int .i64 t248) := (blk_cell BK263.out 7).trans rfl
                            have hcz55_8 : wr.cell? ⟨gb263, 8, none⟩ = some (.int .i64 t249) := (blk_cell BK263.out 8).trans rfl
                            have hcz55_9 : wr.cell? ⟨gb263, 9, none⟩ = some (.int .i64 t250) := (blk_cell BK263.out 9).trans rfl
                            have hcz55_10 : wr.cell? ⟨gb263, 10, none⟩ = some (.int .i64 t251) := (blk_cell BK263.out 10).trans rfl
                            have hcz55_11 : wr.cell? ⟨gb263, 11, none⟩ = some (.int .i64 t252) := (blk_cell BK263.out 11).trans rfl
                            have hcz55_12 : wr.cell? ⟨gb263, 12, none⟩ = some (.int .i64 t253) := (blk_cell BK263.out 12).trans rfl
                            have hcz55_13 : wr.cell? ⟨gb263, 13, none⟩ = some (.int .i64 t254) := (blk_cell BK263.out 13).trans rfl
                            have hcz55_14 : wr.cell? ⟨gb263, 14, none⟩ = some (.int .i64 t255) := (blk_cell BK263.out 14).trans rfl
                            have hcz55_15 : wr.cell? ⟨gb263, 15, none⟩ = some (.slice Ao25 t256.length co25) := (blk_cell BK263.out 15).trans rfl
                            have hcz55_16 : wr.cell? ⟨gb263, 16, none⟩ = some (.slice Ao26 t259.length co26) := (blk_cell BK263.out 16).trans rfl
                            have hfz55_0 := blk_frozen BK263.out 0
                            have hfz55_1 := blk_frozen BK263.out 1
                            have hfz55_2 := blk_frozen BK263.out 2
                            have hfz55_3 := blk_frozen BK263.out 3
                            have hfz55_4 := blk_frozen BK263.out 4
                            have hfz55_5 := blk_frozen BK263.out 5
                            have hfz55_6 := blk_frozen BK263.out 6
                            have hfz55_7 := blk_frozen BK263.out 7
                            have hfz55_8 := blk_frozen BK263.out 8
                            have hfz55_9 := blk_frozen BK263.out 9
                            have hfz55_10 := blk_frozen BK263.out 10
                            have hfz55_11 := blk_frozen BK263.out 11
                            have hfz55_12 := blk_frozen BK263.out 12
                            have hfz55_13 := blk_frozen BK263.out 13
                            have hfz55_14 := blk_frozen BK263.out 14
                            have hfz55_15 := blk_frozen BK263.out 15
                            have hfz55_16 := blk_frozen BK263.out 16
                            go_wp2_with (first | (go_at_call 43; (with_reducible refine (timeboundref23_Scratch.calls k4 _ _ t256 x49_3 t274 _ ?side1 ?side2 A52.out).mono ?_); (case side1 => repeat (first | exact (Kd.R_reads' HO_264015.out).2.2 | (with_reducible refine Kd.C_alloc ?_ _) | (with_reducible refine Kd.C_drewN ?_ _) | (with_reducible refine Kd.C_drew ?_))); (case side2 => exact (Kd.R_reads' HO_264015.out).2.1); rintro e w' ⟨rfl, ⟨nd, rfl⟩⟩; (try first | exact ⟨rfl, _, World.drewN_drewN _ _ _⟩ | exact ⟨rfl, _, Eq.trans (World.drewN_drewN _ _ _) (congrArg (World.drewN _) (Nat.add_assoc _ _ _))⟩)))
                            go_ret
                            exact ⟨by first | rfl | (simp [errW_none, errW_some] <;> rfl) | (simp [*, errW_none, errW_some] <;> rfl), by repeat (first | (with_reducible first | exact HB.out | apply below_alloc | apply pw_below_drewN | apply below_drew1 | refine below_set ?_ GE235.out | refine below_set ?_ GE263.out) | exact HB.out)⟩
                          · rw [if_neg c53] at H
                            have c53b0 : (t274 != x11_4) = false := by simpa using c53
                            (try (have c53b1 : decide (t274 = x11_4) = true := by simpa using c53))
                            (try (have c53b2 : (t274 == x11_4) = true := by simpa using c53))
                            clear c53
                            replace H := Option.bind_eq_some_iff.mp H
                            obtain ⟨t275, A560, H⟩ := H
                            replace H : (if (t275 != x12_4) = true then (some false) else (timeboundlaw36_ScratchFrees.l1 k4 t209 x6_1 (wrap64 (x49_3 + 1)) t213 t214 t215 t216 t217 t218 t219 t220 t221 t222 t223 t224 t225 t226 t227 t228 t231 t241 t242 t243 t244 t245 t246 t247 t248 t249 t250 t251 t252 t253 t254 t255 t256 t259)) = some r := H
                            have A56 := Aside0.mk A560
                            clear A560
                            by_cases c57 : (t275 != x12_4) = true
                            · rw [if_pos c57] at H
                              have c57b0 : (t275 != x12_4) = true := c57
                              (try (have c57b1 : decide (t275 = x12_4) = false := by simpa using c57))
                              (try (have c57b2 : (t275 == x12_4) = false := by simpa using c57))
                              (try (have c57b3 : ¬ (t275 = x12_4) := by simpa using c57))
                              clear c57
                              obtain rfl := Option.some.inj H
                              have hnb58 := NB263_235.out
                              have hnc58 := NB235_263.out
                              have hcz59_0 : wr.cell? ⟨gb263, 0, none⟩ = some (.int .i64 t241) := (blk_cell BK263.out 0).trans rfl
                              have hcz59_1 : wr.cell? ⟨gb263, 1, none⟩ = some (.int .i64 t242) := (blk_cell BK263.out 1).trans rfl
                              have hcz59_2 : wr.cell? ⟨gb263, 2, none⟩ = some (.int .i64 t243) := (blk_cell BK263.out 2).trans rfl
                              have hcz59_3 : wr.cell? ⟨gb263, 3, none⟩ = some (.int .i64 t244) := (blk_cell BK263.out 3).trans rfl
                              have hcz59_4 : wr.cell? ⟨gb263, 4, none⟩ = some (.int .i64 t245) := (blk_cell BK263.out 4).trans rfl
                              have hcz59_5 : wr.cell? ⟨gb263, 5, none⟩ = some (.int .i64 t246) := (blk_cell BK263.out 5).trans rfl
                              have hcz59_6 : wr.cell? ⟨gb263, 6, none⟩ = some (.int .i64 t247) := (blk_cell BK263.out 6).trans rfl
                              have hcz59_7 : wr.cell? ⟨gb263, 7, none⟩ = some (.int .i64 t248) := (blk_cell BK263.out 7).trans rfl
                              have hcz59_8 : wr.cell? ⟨gb263, 8, none⟩ = some (.int .i64 t249) := (blk_cell BK263.out 8).trans rfl
                              have hcz59_9 : wr.cell? ⟨gb263, 9, none⟩ = some (.int .i64 t250) := (blk_cell BK263.out 9).trans rfl
                              have hcz59_10 : wr.cell? ⟨gb263, 10, none⟩ = some (.int .i64 t251) := (blk_cell BK263.out 10).trans rfl
                              have hcz59_11 : wr.cell? ⟨gb263, 11, none⟩ = some (.int .i64 t252) := (blk_cell BK263.out 11).trans rfl
                              have hcz59_12 : wr.cell? ⟨gb263, 12, none⟩ = some (.int .i64 t253) := (blk_cell BK263.out 12).trans rfl
                              have hcz59_13 : wr.cell? ⟨gb263, 13, none⟩ = some (.int .i64 t254) := (blk_cell BK263.out 13).trans rfl
                              have hcz59_14 : wr.cell? ⟨gb263, 14, none⟩ = some (.int .i64 t255) := (blk_cell BK263.out 14).trans rfl
                              have hcz59_15 : wr.cell? ⟨gb263, 15, none⟩ = some (.slice Ao25 t256.length co25) := (blk_cell BK263.out 15).trans rfl
                              have hcz59_16 : wr.cell? ⟨gb263, 16, none⟩ = some (.slice Ao26 t259.length co26) := (blk_cell BK263.out 16).trans rfl
                              have hfz59_0 := blk_frozen BK263.out 0
                              have hfz59_1 := blk_frozen BK263.out 1
                              have hfz59_2 := blk_frozen BK263.out 2
                              have hfz59_3 := blk_frozen BK263.out 3
                              have hfz59_4 := blk_frozen BK263.out 4
                              have hfz59_5 := blk_frozen BK263.out 5
                              have hfz59_6 := blk_frozen BK263.out 6
                              have hfz59_7 := blk_frozen BK263.out 7
                              have hfz59_8 := blk_frozen BK263.out 8
                              have hfz59_9 := blk_frozen BK263.out 9
                              have hfz59_10 := blk_frozen BK263.out 10
                              have hfz59_11 := blk_frozen BK263.out 11
                              have hfz59_12 := blk_frozen BK263.out 12
                              have hfz59_13 := blk_frozen BK263.out 13
                              have hfz59_14 := blk_frozen BK263.out 14
                              have hfz59_15 := blk_frozen BK263.out 15
                              have hfz59_16 := blk_frozen BK263.out 16
                              go_wp2_with (first | (go_at_call 43; (with_reducible refine (timeboundref23_Scratch.calls k4 _ _ t256 x49_3 t274 _ ?side1 ?side2 A52.out).mono ?_); (case side1 => repeat (first | exact (Kd.R_reads' HO_264015.out).2.2 | (with_reducible refine Kd.C_alloc ?_ _) | (with_reducible refine Kd.C_drewN ?_ _) | (with_reducible refine Kd.C_drew ?_))); (case side2 => exact (Kd.R_reads' HO_264015.out).2.1); rintro e w' ⟨rfl, ⟨nd, rfl⟩⟩; (try first | exact ⟨rfl, _, World.drewN_drewN _ _ _⟩ | exact ⟨rfl, _, Eq.trans (World.drewN_drewN _ _ _) (congrArg (World.drewN _) (Nat.add_assoc _ _ _))⟩)) | (go_at_call 43; (with_reducible refine (timeboundref23_Scratch.calls k4 _ _ t259 x49_3 t275 _ ?side1 ?side2 A56.out).mono ?_); (case side1 => repeat (first | exact (Kd.R_reads' HO_264016.out).2.2 | (with_reducible refine Kd.C_alloc ?_ _) | (with_reducible refine Kd.C_drewN ?_ _) | (with_reducible refine Kd.C_drew ?_))); (case side2 => exact (Kd.R_reads' HO_264016.out).2.1); rintro e w' ⟨rfl, ⟨nd, rfl⟩⟩; (try first | exact ⟨rfl, _, World.drewN_drewN _ _ _⟩ | exact ⟨rfl, _, Eq.trans (World.drewN_drewN _ _ _) (congrArg (World.drewN _) (Nat.add_assoc _ _ _))⟩)))
                              go_ret
                              exact ⟨by first | rfl | (simp [errW_none, errW_some] <;> rfl) | (simp [*, errW_none, errW_some] <;> rfl), by repeat (first | (with_reducible first | exact HB.out | apply below_alloc | apply pw_below_drewN | apply below_drew1 | refine below_set ?_ GE235.out | refine below_set ?_ GE263.out) | exact HB.out)⟩
                            · rw [if_neg c57] at H
                              have c57b0 : (t275 != x12_4) = false := by simpa using c57
                              (try (have c57b1 : decide (t275 = x12_4) = true := by simpa using c57))
                              (try (have c57b2 : (t275 == x12_4) = true := by simpa using c57))
                              clear c57
                              have H' := Aside0.mk H
                              clear H
                              have hnb60 := NB263_235.out
                              have hnc60 := NB235_263.out
                              have hcz61_0 : wr.cell? ⟨gb263, 0, none⟩ = some (.int .i64 t241) := (blk_cell BK263.out 0).trans rfl
                              have hcz61_1 : wr.cell? ⟨gb263, 1, none⟩ = some (.int .i64 t242) := (blk_cell BK263.out 1).trans rfl
                              have hcz61_2 : wr.cell? ⟨gb263, 2, none⟩ = some (.int .i64 t243) := (blk_cell BK263.out 2).trans rfl
                              have hcz61_3 : wr.cell? ⟨gb263, 3, none⟩ = some (.int .i64 t244) := (blk_cell BK263.out 3).trans rfl
                              have hcz61_4 : wr.cell? ⟨gb263, 4, none⟩ = some (.int .i64 t245) := (blk_cell BK263.out 4).trans rfl
                              have hcz61_5 : wr.cell? ⟨gb263, 5, none⟩ = some (.int .i64 t246) := (blk_cell BK263.out 5).trans rfl
                              have hcz61_6 : wr.cell? ⟨gb263, 6, none⟩ = some (.int .i64 t247) := (blk_cell BK263.out 6).trans rfl
                              have hcz61_7 : wr.cell? ⟨gb263, 7, none⟩ = some (.int .i64 t248) := (blk_cell BK263.out 7).trans rfl
                              have hcz61_8 : wr.cell? ⟨gb263, 8, none⟩ = some (.int .i64 t249) := (blk_cell BK263.out 8).trans rfl
                              have hcz61_9 : wr.cell? ⟨gb263, 9, none⟩ = some (.int .i64 t250) := (blk_cell BK263.out 9).trans rfl
                              have hcz61_10 : wr.cell? ⟨gb263, 10, none⟩ = some (.int .i64 t251) := (blk_cell BK263.out 10).trans rfl
                              have hcz61_11 : wr.cell? ⟨gb263, 11, none⟩ = some (.int .i64 t252) := (blk_cell BK263.out 11).trans rfl
                              have hcz61_12 : wr.cell? ⟨gb263, 12, none⟩ = some (.int .i64 t253) := (blk_cell BK263.out 12).trans rfl
                              have hcz61_13 : wr.cell? ⟨gb263, 13, none⟩ = some (.int .i64 t254) := (blk_cell BK263.out 13).trans rfl
                              have hcz61_14 : wr.cell? ⟨gb263, 14, none⟩ = some (.int .i64 t255) := (blk_cell BK263.out 14).trans rfl
                              have hcz61_15 : wr.cell? ⟨gb263, 15, none⟩ = some (.slice Ao25 t256.length co25) := (blk_cell BK263.out 15).trans rfl
                              have hcz61_16 : wr.cell? ⟨gb263, 16, none⟩ = some (.slice Ao26 t259.length co26) := (blk_cell BK263.out 16).trans rfl
                              have hfz61_0 := blk_frozen BK263.out 0
                              have hfz61_1 := blk_frozen BK263.out 1
                              have hfz61_2 := blk_frozen BK263.out 2
                              have hfz61_3 := blk_frozen BK263.out 3
                              have hfz61_4 := blk_frozen BK263.out 4
                              have hfz61_5 := blk_frozen BK263.out 5
                              have hfz61_6 := blk_frozen BK263.out 6
                              have hfz61_7 := blk_frozen BK263.out 7
                              have hfz61_8 := blk_frozen BK263.out 8
                              have hfz61_9 := blk_frozen BK263.out 9
                              have hfz61_10 := blk_frozen BK263.out 10
                              have hfz61_11 := blk_frozen BK263.out 11
                              have hfz61_12 := blk_frozen BK263.out 12
                              have hfz61_13 := blk_frozen BK263.out 13
                              have hfz61_14 := blk_frozen BK263.out 14
                              have hfz61_15 := blk_frozen BK263.out 15
                              have hfz61_16 := blk_frozen BK263.out 16
                              go_wp2_with (first | (go_at_call 43; (with_reducible refine (timeboundref23_Scratch.calls k4 _ _ t256 x49_3 t274 _ ?side1 ?side2 A52.out).mono ?_); (case side1 => repeat (first | exact (Kd.R_reads' HO_264015.out).2.2 | (with_reducible refine Kd.C_alloc ?_ _) | (with_reducible refine Kd.C_drewN ?_ _) | (with_reducible refine Kd.C_drew ?_))); (case side2 => exact (Kd.R_reads' HO_264015.out).2.1); rintro e w' ⟨rfl, ⟨nd, rfl⟩⟩; (try first | exact ⟨rfl, _, World.drewN_drewN _ _ _⟩ | exact ⟨rfl, _, Eq.trans (World.drewN_drewN _ _ _) (congrArg (World.drewN _) (Nat.add_assoc _ _ _))⟩)) | (go_at_call 43; (with_reducible refine (timeboundref23_Scratch.calls k4 _ _ t259 x49_3 t275 _ ?side1 ?side2 A56.out).mono ?_); (case side1 => repeat (first | exact (Kd.R_reads' HO_264016.out).2.2 | (with_reducible refine Kd.C_alloc ?_ _) | (with_reducible refine Kd.C_drewN ?_ _) | (with_reducible refine Kd.C_drew ?_))); (case side2 => exact (Kd.R_reads' HO_264016.out).2.1); rintro e w' ⟨rfl, ⟨nd, rfl⟩⟩; (try first | exact ⟨rfl, _, World.drewN_drewN _ _ _⟩ | exact ⟨rfl, _, Eq.trans (World.drewN_drewN _ _ _) (congrArg (World.drewN _) (Nat.add_assoc _ _ _))⟩)))
                              go_roundg k4
                              case measure => have := HK1.out; have := HJ20.out; have := HK3.out; have := HK4.out; omega
                              case rel => exact ⟨(wrap64 (x49_3 + 1)), (by first | rfl | (simp; done) | (simp [*]; done)), H', ⟨by have := HK1.out; have := HJ20.out; have := HK3.out; have := HK4.out; omega⟩, ⟨by (with_reducible repeat (first | apply Kd.R_alloc | apply Kd.R_drewN | apply Kd.R_drew)); exact HO_4.out⟩, ⟨by (with_reducible repeat (first | apply Kd.R_alloc | apply Kd.R_drewN | apply Kd.R_drew)); exact HO_6.out⟩, ⟨by (with_reducible repeat (first | apply Kd.R_alloc | apply Kd.R_drewN | apply Kd.R_drew)); exact HO_236015.out⟩, ⟨by (with_reducible repeat (first | apply Kd.R_alloc | apply Kd.R_drewN | apply Kd.R_drew)); exact HO_236016.out⟩, ⟨by (with_reducible repeat (first | apply Kd.R_alloc | apply Kd.R_drewN | apply Kd.R_drew)); exact HO_264015.out⟩, ⟨by (with_reducible repeat (first | apply Kd.R_alloc | apply Kd.R_drewN | apply Kd.R_drew)); exact HO_264016.out⟩, ⟨by (with_reducible repeat (first | refine blk_drewN ?_ _ | refine blk_drew ?_ | refine blk_alloc ?_ _)); exact BK235.out⟩, ⟨by (with_reducible repeat (first | refine blk_drewN ?_ _ | refine blk_drew ?_ | refine blk_alloc ?_ _)); exact BK263.out⟩, ⟨by repeat (first | (with_reducible first | exact HB.out | apply below_alloc | apply pw_below_drewN | apply below_drew1 | refine below_set ?_ GE235.out | refine below_set ?_ GE263.out) | exact HB.out)⟩⟩
                  · rw [if_neg c32] at H
                    have c32b0 : decide (x49_3 < 100) = false := decide_eq_false c32
                    clear c32
                    replace H := Option.bind_eq_some_iff.mp H
                    obtain ⟨t265, A620, H⟩ := H
                    replace H : (some t265) = some r := H
                    have A62 := Aside0.mk A620
                    clear A620
                    obtain rfl := Option.some.inj H
                    go_wp2_with (first | (go_at_call 31; (with_reducible refine (timeboundlaw36_awake.calls k3  t265 _ A62.out).mono ?_); rintro e w63 ⟨rfl, hb⟩; have n0_ := Aside0.mk (Kd.R_below (by (with_reducible repeat (first | apply Kd.R_alloc | apply Kd.R_drewN | apply Kd.R_drew)); exact HO_4.out) hb); have n1_ := Aside0.mk (Kd.R_below (by (with_reducible repeat (first | apply Kd.R_alloc | apply Kd.R_drewN | apply Kd.R_drew)); exact HO_6.out) hb); have n2_ := Aside0.mk (Kd.R_below (by (with_reducible repeat (first | apply Kd.R_alloc | apply Kd.R_drewN | apply Kd.R_drew)); exact HO_236015.out) hb); have n3_ := Aside0.mk (Kd.R_below (by (with_reducible repeat (first | apply Kd.R_alloc | apply Kd.R_drewN | apply Kd.R_drew)); exact HO_236016.out) hb); have n4_ := Aside0.mk (Kd.R_below (by (with_reducible repeat (first | apply Kd.R_alloc | apply Kd.R_drewN | apply Kd.R_drew)); exact HO_264015.out) hb); have n5_ := Aside0.mk (Kd.R_below (by (with_reducible repeat (first | apply Kd.R_alloc | apply Kd.R_drewN | apply Kd.R_drew)); exact HO_264016.out) hb); have n6_ := Aside0.mk (blk_below (g := gb235) (o := .cells #[.int .i64 t213, .int .i64 t214, .int .i64 t215, .int .i64 t216, .int .i64 t217, .int .i64 t218, .int .i64 t219, .int .i64 t220, .int .i64 t221, .int .i64 t222, .int .i64 t223, .int .i64 t224, .int .i64 t225, .int .i64 t226, .int .i64 t227, .slice Ao9 t228.length co9, .slice Ao10 t231.length co10] 68 (0, 0)) (by (with_reducible repeat (first | refine blk_drewN ?_ _ | refine blk_drew ?_ | refine blk_alloc ?_ _)); exact BK235.out) hb); have n7_ := Aside0.mk (blk_below (g := gb263) (o := .cells #[.int .i64 t241, .int .i64 t242, .int .i64 t243, .int .i64 t244, .int .i64 t245, .int .i64 t246, .int .i64 t247, .int .i64 t248, .int .i64 t249, .int .i64 t250, .int .i64 t251, .int .i64 t252, .int .i64 t253, .int .i64 t254, .int .i64 t255, .slice Ao25 t256.length co25, .slice Ao26 t259.length co26] 68 (0, 0)) (by (with_reducible repeat (first | refine blk_drewN ?_ _ | refine blk_drew ?_ | refine blk_alloc ?_ _)); exact BK263.out) hb); have n8_ := Aside0.mk (below_step (by repeat (first | (with_reducible first | exact HB.out | apply below_alloc | apply pw_below_drewN | apply below_drew1 | refine below_set ?_ GE235.out | refine below_set ?_ GE263.out) | exact HB.out)) hb); clear HO_4; clear HO_6; clear HO_236015; clear HO_236016; clear HO_264015; clear HO_264016; clear BK235; clear BK263; clear HB; have HO_4 := n0_; have HO_6 := n1_; have HO_236015 := n2_; have HO_236016 := n3_; have HO_264015 := n4_; have HO_264016 := n5_; have BK235 := n6_; have BK263 := n7_; have HB := n8_; clear n0_ n1_ n2_ n3_ n4_ n5_ n6_ n7_ n8_; (try clear hb); (try clear hb2); (try clear hk); (try clear hi)))
                    go_ret
                    exact ⟨by first | rfl | (simp [errW_none, errW_some] <;> rfl) | (simp [*, errW_none, errW_some] <;> rfl), by repeat (first | (with_reducible first | exact HB.out | apply below_alloc | apply pw_below_drewN | apply below_drew1 | refine below_set ?_ GE235.out | refine below_set ?_ GE263.out) | exact HB.out)⟩

/-- THE ONE PURE STATEMENT of timeboundlaw36_ScratchFrees: yours. -/
def timeboundlaw36_ScratchFrees.Pure : Prop := ∀ (l0 : List Int), l0.length ≤ maxLen → l0.length * 8 ≤ 140737488351232 → (∀ x ∈ l0, (Lit.int .i64 x).wf = true) → ∃ k, timeboundlaw36_ScratchFrees.f k l0 = some true
theorem timeboundlaw36_ScratchFrees.walk (P : timeboundlaw36_ScratchFrees.Pure) (a0 : Option Addr) (len0 cap0 : Nat) (z0 : List Int) (w : World) (w0 : (a0 = none ∧ len0 = 0 ∧ cap0 = 0 ∧ z0 = []) ∨ ∃ x, a0 = some x ∧ len0 ≤ cap0 ∧ cap0 ≤ maxLen ∧ z0.length = cap0 ∧ (∀ i, i < z0.length → w.cell? (x.add i) = some (.int .i64 (z0.getD i 0))) ∧ ∀ n ∈ z0, (Lit.int .i64 n).wf = true) (y0 : len0 * 8 ≤ 140737488351232) :
    Calls Try.prog 8 #[.slice a0 len0 cap0] w fun e w' => e = .returned (.bool true) ∧ Below w.heap.size w w' := by
  obtain ⟨l0, rfl, hr0, hm0, hw0, hc0⟩ := ReadsInt.ofRowC w0
  obtain ⟨k, h⟩ := P l0 hm0 y0 hw0
  refine (timeboundlaw36_ScratchFrees.calls k _ _ l0 true w (Kd.C_of_reads (d := (0 : Int)) (h1 := fun _ => rfl) hr0) hc0 h).mono ?_
  rintro e w' ⟨rfl, hd⟩
  exact ⟨rfl, hd⟩

end Go.Proofs.Ytdgegoefehmfmaa.QScratchFrees
