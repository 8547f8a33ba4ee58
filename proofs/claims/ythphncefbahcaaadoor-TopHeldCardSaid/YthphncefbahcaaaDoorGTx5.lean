/- Made by gprint.py, this session's program over the kit's print program, out of the translation; the functions that it does not print are proved by hand (wip/given). Lean checks it. -/
import Derived.Test.YthphncefbahcaaaDoorGTx0
import Derived.Test.YthphncefbahcaaaDoorGTx1
import Derived.Test.YthphncefbahcaaaDoorGTx2
import Derived.Test.YthphncefbahcaaaDoorGTx3
import Derived.Test.YthphncefbahcaaaDoorGTx4
import Derived.Test.YthphncefbahcaaaDoorGTr
namespace Go.Proofs.YthphncefbahcaaaDoor.GT
open Go.RowKit Go.Proofs.YthphncefbahcaaaDoorW.PrintWords Go.Proofs.YthphncefbahcaaaDoorW.PrintLast Go.Proofs.YthphncefbahcaaaDoorW.PrintMore
attribute [local go_sem] max2_int min2_int max_two min_two max_three min_three max_four min_four   -- for this text's walks alone
set_option linter.unusedVariables false
set_option linter.unusedSimpArgs false

/-! ### besomtop_TopHeld: function 14 -/
mutual
def besomtop_TopHeld.l0 : Nat → Int → List Int → List Int → List Int → List Int → Int → Int → Int → Int → List Int → Option (Bool)
  | 0, _, _, _, _, _, _, _, _, _, _ => none
  | k + 1, x0, x1, x2, x9, x10, x11, x44, x45, x164000, x164001 => if x45 < x44 then (if 0 ≤ x45 then (if x45 < (x1.length : Int) then ((class_Pages.f k (rd x1 x45)).bind fun bt165 => (if x45 = 20 then (besomtop_TopHeld.j1 k x0 x1 x2 x9 x10 x11 bt165.1 x44 x45 true x164000 x164001) else (besomtop_TopHeld.j1 k x0 x1 x2 x9 x10 x11 bt165.1 x44 x45 (bt165.2 != 0) x164000 x164001))) else (none)) else (none)) else ((pages_Free.f k x164000 x164001).bind fun bt188 => (if bt188.2 = 0 then (besomtop_TopHeld.j3 k x0 x2 x9 x10 ((wrap64 (bt188.1 + x11)) != x0) x164000 x164001) else (besomtop_TopHeld.j3 k x0 x2 x9 x10 true x164000 x164001)))
def besomtop_TopHeld.j1 : Nat → Int → List Int → List Int → List Int → List Int → Int → Int → Int → Int → Bool → Int → List Int → Option (Bool)
  | 0, _, _, _, _, _, _, _, _, _, _, _, _ => none
  | k + 1, x0, x1, x2, x9, x10, x11, x14, x44, x45, x60, x164000, x164001 => if x60 = true then (besomtop_TopHeld.l0 k x0 x1 x2 x9 x10 x11 x44 (wrap64 (x45 + 1)) x164000 x164001) else ((pages_Take.f k x164000 x164001 x14).bind fun bt167 => (if bt167.2.2.2 = 0 then (besomtop_TopHeld.l1 k x0 x1 x2 x9 x10 x11 x14 bt167.2.2.1 x44 x45 (x9.length : Int) 0 bt167.1 bt167.2.1) else (besomtop_TopHeld.l0 k x0 x1 x2 x9 x10 x11 x44 (wrap64 (x45 + 1)) x164000 x164001)))
def besomtop_TopHeld.l1 : Nat → Int → List Int → List Int → List Int → List Int → Int → Int → Int → Int → Int → Int → Int → Int → List Int → Option (Bool)
  | 0, _, _, _, _, _, _, _, _, _, _, _, _, _, _ => none
  | k + 1, x0, x1, x2, x9, x10, x11, x14, x17, x44, x45, x71, x72, x174000, x174001 => if x72 < x71 then (if 0 ≤ x72 then (if x72 < (x9.length : Int) then (if x72 < (x10.length : Int) then (if x17 < (wrap64 ((rd x9 x72) + (rd x10 x72))) then (if (rd x9 x72) < (wrap64 (x17 + x14)) then (some false) else (besomtop_TopHeld.l1 k x0 x1 x2 x9 x10 x11 x14 x17 x44 x45 x71 (wrap64 (x72 + 1)) x174000 x174001)) else (besomtop_TopHeld.l1 k x0 x1 x2 x9 x10 x11 x14 x17 x44 x45 x71 (wrap64 (x72 + 1)) x174000 x174001)) else (none)) else (none)) else (none)) else ((some (([x17] : List Int) : List Int)).bind fun y176 => (if x9.length + y176.length < 17592186044416 then ((some (([x14] : List Int) : List Int)).bind fun y182 => (if x10.length + y182.length < 17592186044416 then (besomtop_TopHeld.l0 k x0 x1 x2 (x9 ++ y176) (x10 ++ y182) (wrap64 (x11 + x14)) x44 (wrap64 (x45 + 1)) x174000 x174001) else (none))) else (none)))
def besomtop_TopHeld.j3 : Nat → Int → List Int → List Int → List Int → Bool → Int → List Int → Option (Bool)
  | 0, _, _, _, _, _, _, _ => none
  | k + 1, x0, x2, x9, x10, x119, x164000, x164001 => if x119 = true then (some false) else (besomtop_TopHeld.l2 k x0 x2 x9 x10 0 x164000 x164001)
def besomtop_TopHeld.l2 : Nat → Int → List Int → List Int → List Int → Int → Int → List Int → Option (Bool)
  | 0, _, _, _, _, _, _, _ => none
  | k + 1, x0, x2, x9, x10, x22, x164000, x164001 => if (x9.length : Int) > 0 then (if (x2.length : Int) > 0 then (if (x2.length : Int) = 0 then (none) else (if 0 ≤ (Int.tmod x22 (x2.length : Int)) then (if (Int.tmod x22 (x2.length : Int)) < (x2.length : Int) then (if (x9.length : Int) = 0 then (none) else (if 0 ≤ (Int.tmod (wrap64 (rd x2 (Int.tmod x22 (x2.length : Int)))) (x9.length : Int)) then (if (Int.tmod (wrap64 (rd x2 (Int.tmod x22 (x2.length : Int)))) (x9.length : Int)) < (x9.length : Int) then (if (Int.tmod (wrap64 (rd x2 (Int.tmod x22 (x2.length : Int)))) (x9.length : Int)) < (x10.length : Int) then ((pages_Give.f k x164000 x164001 (rd x9 (Int.tmod (wrap64 (rd x2 (Int.tmod x22 (x2.length : Int)))) (x9.length : Int))) (rd x10 (Int.tmod (wrap64 (rd x2 (Int.tmod x22 (x2.length : Int)))) (x9.length : Int)))).bind fun bt195 => (if bt195.2.2 = 0 then ((some (([Int.tmod (wrap64 (rd x2 (Int.tmod x22 (x2.length : Int)))) (x9.length : Int)] : List Int) : List Int)).bind fun y201 => (if x9.length + y201.length < 17592186044416 then ((some (([Int.tmod (wrap64 (rd x2 (Int.tmod x22 (x2.length : Int)))) (x9.length : Int)] : List Int) : List Int)).bind fun y207 => (if x10.length + y207.length < 17592186044416 then (besomtop_TopHeld.l2 k x0 x2 (cutAt x9 y201) (cutAt x10 y207) (wrap64 (x22 + 1)) bt195.1 bt195.2.1) else (none))) else (none))) else (some false))) else (none)) else (none)) else (none))) else (none)) else (none))) else (if 0 < (x9.length : Int) then (if 0 < (x10.length : Int) then ((pages_Give.f k x164000 x164001 (rd x9 0) (rd x10 0)).bind fun bt215 => (if bt215.2.2 = 0 then ((some (([0] : List Int) : List Int)).bind fun y221 => (if x9.length + y221.length < 17592186044416 then ((some (([0] : List Int) : List Int)).bind fun y227 => (if x10.length + y227.length < 17592186044416 then (besomtop_TopHeld.l2 k x0 x2 (cutAt x9 y221) (cutAt x10 y227) (wrap64 (x22 + 1)) bt215.1 bt215.2.1) else (none))) else (none))) else (some false))) else (none)) else (none))) else ((pages_Longest.f k x164000 x164001).bind fun bt190 => (if bt190.2 = 0 then (some (bt190.1 == x0)) else (some false)))
end
def besomtop_TopHeld.f (k : Nat) (a0 : Int) (l1 : List Int) (l2 : List Int) : Option (Bool) := (besomtop_begins.f k).bind fun t157 => (if t157 = true then ((pages_Make.f a0).bind fun bt158 => (if bt158.2.2 = 0 then (besomtop_TopHeld.l0 k a0 l1 l2 ([] : List Int) ([] : List Int) 0 (l1.length : Int) 0 bt158.1 bt158.2.1) else (if a0 < 0 then (some true) else (some (decide (a0 > 4096)))))) else (some false))
theorem besomtop_TopHeld.mono_l : ∀ k, (∀ y0 y1 y2 y3 y4 y5 y6 y7 y8 y9, LeO (besomtop_TopHeld.l0 k y0 y1 y2 y3 y4 y5 y6 y7 y8 y9) (besomtop_TopHeld.l0 (k + 1) y0 y1 y2 y3 y4 y5 y6 y7 y8 y9)) ∧ (∀ y0 y1 y2 y3 y4 y5 y6 y7 y8 y9 y10 y11, LeO (besomtop_TopHeld.j1 k y0 y1 y2 y3 y4 y5 y6 y7 y8 y9 y10 y11) (besomtop_TopHeld.j1 (k + 1) y0 y1 y2 y3 y4 y5 y6 y7 y8 y9 y10 y11)) ∧ (∀ y0 y1 y2 y3 y4 y5 y6 y7 y8 y9 y10 y11 y12 y13, LeO (besomtop_TopHeld.l1 k y0 y1 y2 y3 y4 y5 y6 y7 y8 y9 y10 y11 y12 y13) (besomtop_TopHeld.l1 (k + 1) y0 y1 y2 y3 y4 y5 y6 y7 y8 y9 y10 y11 y12 y13)) ∧ (∀ y0 y1 y2 y3 y4 y5 y6, LeO (besomtop_TopHeld.j3 k y0 y1 y2 y3 y4 y5 y6) (besomtop_TopHeld.j3 (k + 1) y0 y1 y2 y3 y4 y5 y6)) ∧ (∀ y0 y1 y2 y3 y4 y5 y6, LeO (besomtop_TopHeld.l2 k y0 y1 y2 y3 y4 y5 y6) (besomtop_TopHeld.l2 (k + 1) y0 y1 y2 y3 y4 y5 y6))
  | 0 => ⟨fun _ _ _ _ _ _ _ _ _ _ r h => by simp [besomtop_TopHeld.l0] at h, fun _ _ _ _ _ _ _ _ _ _ _ _ r h => by simp [besomtop_TopHeld.j1] at h, fun _ _ _ _ _ _ _ _ _ _ _ _ _ _ r h => by simp [besomtop_TopHeld.l1] at h, fun _ _ _ _ _ _ _ r h => by simp [besomtop_TopHeld.j3] at h, fun _ _ _ _ _ _ _ r h => by simp [besomtop_TopHeld.l2] at h⟩
  | k + 1 => by
    obtain ⟨ih0, ih1, ih2, ih3, ih4⟩ := besomtop_TopHeld.mono_l k
    refine ⟨?_, ?_, ?_, ?_, ?_⟩
    · intro y0 y1 y2 y3 y4 y5 y6 y7 y8 y9
      unfold besomtop_TopHeld.l0
      repeat' first
      | (with_reducible exact ih0 _ _ _ _ _ _ _ _ _ _)
      | (with_reducible exact ih1 _ _ _ _ _ _ _ _ _ _ _ _)
      | (with_reducible exact ih2 _ _ _ _ _ _ _ _ _ _ _ _ _ _)
      | (with_reducible exact ih3 _ _ _ _ _ _ _)
      | (with_reducible exact ih4 _ _ _ _ _ _ _)
      | (with_reducible exact besomtop_begins.mono _)
      | (with_reducible exact class_Pages.mono _ _)
      | (with_reducible exact pages_Free.mono _ _ _)
      | (with_reducible exact pages_Give.mono _ _ _ _ _)
      | (with_reducible exact pages_Longest.mono _ _ _)
      | (with_reducible exact pages_Take.mono _ _ _ _)
      | (with_reducible exact LeO.refl _)
      | (with_reducible exact LeO.none _)
      | (with_reducible refine LeO.ite ?_ ?_)
      | (with_reducible refine LeO.bind ?_ (fun _ => ?_))
      | exact ih0 _ _ _ _ _ _ _ _ _ _
      | exact ih1 _ _ _ _ _ _ _ _ _ _ _ _
      | exact ih2 _ _ _ _ _ _ _ _ _ _ _ _ _ _
      | exact ih3 _ _ _ _ _ _ _
      | exact ih4 _ _ _ _ _ _ _
      | exact besomtop_begins.mono _
      | exact class_Pages.mono _ _
      | exact pages_Free.mono _ _ _
      | exact pages_Give.mono _ _ _ _ _
      | exact pages_Longest.mono _ _ _
      | exact pages_Take.mono _ _ _ _
      | exact LeO.none _
      | refine LeO.ite ?_ ?_
      | refine LeO.bind ?_ (fun _ => ?_)
    · intro y0 y1 y2 y3 y4 y5 y6 y7 y8 y9 y10 y11
      unfold besomtop_TopHeld.j1
      repeat' first
      | (with_reducible exact ih0 _ _ _ _ _ _ _ _ _ _)
      | (with_reducible exact ih1 _ _ _ _ _ _ _ _ _ _ _ _)
      | (with_reducible exact ih2 _ _ _ _ _ _ _ _ _ _ _ _ _ _)
      | (with_reducible exact ih3 _ _ _ _ _ _ _)
      | (with_reducible exact ih4 _ _ _ _ _ _ _)
      | (with_reducible exact besomtop_begins.mono _)
      | (with_reducible exact class_Pages.mono _ _)
      | (with_reducible exact pages_Free.mono _ _ _)
      | (with_reducible exact pages_Give.mono _ _ _ _ _)
      | (with_reducible exact pages_Longest.mono _ _ _)
      | (with_reducible exact pages_Take.mono _ _ _ _)
      | (with_reducible exact LeO.refl _)
      | (with_reducible exact LeO.none _)
      | (with_reducible refine LeO.ite ?_ ?_)
      | (with_reducible refine LeO.bind ?_ (fun _ => ?_))
      | exact ih0 _ _ _ _ _ _ _ _ _ _
      | exact ih1 _ _ _ _ _ _ _ _ _ _ _ _
      | exact ih2 _ _ _ _ _ _ _ _ _ _ _ _ _ _
      | exact ih3 _ _ _ _ _ _ _
      | exact ih4 _ _ _ _ _ _ _
      | exact besomtop_begins.mono _
      | exact class_Pages.mono _ _
      | exact pages_Free.mono _ _ _
      | exact pages_Give.mono _ _ _ _ _
      | exact pages_Longest.mono _ _ _
      | exact pages_Take.mono _ _ _ _
      | exact LeO.none _
      | refine LeO.ite ?_ ?_
      | refine LeO.bind ?_ (fun _ => ?_)
    · intro y0 y1 y2 y3 y4 y5 y6 y7 y8 y9 y10 y11 y12 y13
      unfold besomtop_TopHeld.l1
      repeat' first
      | (with_reducible exact ih0 _ _ _ _ _ _ _ _ _ _)
      | (with_reducible exact ih1 _ _ _ _ _ _ _ _ _ _ _ _)
      | (with_reducible exact ih2 _ _ _ _ _ _ _ _ _ _ _ _ _ _)
      | (with_reducible exact ih3 _ _ _ _ _ _ _)
      | (with_reducible exact ih4 _ _ _ _ _ _ _)
      | (with_reducible exact besomtop_begins.mono _)
      | (with_reducible exact class_Pages.mono _ _)
      | (with_reducible exact pages_Free.mono _ _ _)
      | (with_reducible exact pages_Give.mono _ _ _ _ _)
      | (with_reducible exact pages_Longest.mono _ _ _)
      | (with_reducible exact pages_Take.mono _ _ _ _)
      | (with_reducible exact LeO.refl _)
      | (with_reducible exact LeO.none _)
      | (with_reducible refine LeO.ite ?_ ?_)
      | (with_reducible refine LeO.bind ?_ (fun _ => ?_))
      | exact ih0 _ _ _ _ _ _ _ _ _ _
      | exact ih1 _ _ _ _ _ _ _ _ _ _ _ _
      | exact ih2 _ _ _ _ _ _ _ _ _ _ _ _ _ _
      | exact ih3 _ _ _ _ _ _ _
      | exact ih4 _ _ _ _ _ _ _
      | exact besomtop_begins.mono _
      | exact class_Pages.mono _ _
      | exact pages_Free.mono _ _ _
      | exact pages_Give.mono _ _ _ _ _
      | exact pages_Longest.mono _ _ _
      | exact pages_Take.mono _ _ _ _
      | exact LeO.none _
      | refine LeO.ite ?_ ?_
      | refine LeO.bind ?_ (fun _ => ?_)
    · intro y0 y1 y2 y3 y4 y5 y6
      unfold besomtop_TopHeld.j3
      repeat' first
      | (with_reducible exact ih0 _ _ _ _ _ _ _ _ _ _)
      | (with_reducible exact ih1 _ _ _ _ _ _ _ _ _ _ _ _)
      | (with_reducible exact ih2 _ _ _ _ _ _ _ _ _ _ _ _ _ _)
      | (with_reducible exact ih3 _ _ _ _ _ _ _)
      | (with_reducible exact ih4 _ _ _ _ _ _ _)
      | (with_reducible exact besomtop_begins.mono _)
      | (with_reducible exact class_Pages.mono _ _)
      | (with_reducible exact pages_Free.mono _ _ _)
      | (with_reducible exact pages_Give.mono _ _ _ _ _)
      | (with_reducible exact pages_Longest.mono _ _ _)
      | (with_reducible exact pages_Take.mono _ _ _ _)
      | (with_reducible exact LeO.refl _)
      | (with_reducible exact LeO.none _)
      | (with_reducible refine LeO.ite ?_ ?_)
      | (with_reducible refine LeO.bind ?_ (fun _ => ?_))
      | exact ih0 _ _ _ _ _ _ _ _ _ _
      | exact ih1 _ _ _ _ _ _ _ _ _ _ _ _
      | exact ih2 _ _ _ _ _ _ _ _ _ _ _ _ _ _
      | exact ih3 _ _ _ _ _ _ _
      | exact ih4 _ _ _ _ _ _ _
      | exact besomtop_begins.mono _
      | exact class_Pages.mono _ _
      | exact pages_Free.mono _ _ _
      | exact pages_Give.mono _ _ _ _ _
      | exact pages_Longest.mono _ _ _
      | exact pages_Take.mono _ _ _ _
      | exact LeO.none _
      | refine LeO.ite ?_ ?_
      | refine LeO.bind ?_ (fun _ => ?_)
    · intro y0 y1 y2 y3 y4 y5 y6
      unfold besomtop_TopHeld.l2
      repeat' first
      | (with_reducible exact ih0 _ _ _ _ _ _ _ _ _ _)
      | (with_reducible exact ih1 _ _ _ _ _ _ _ _ _ _ _ _)
      | (with_reducible exact ih2 _ _ _ _ _ _ _ _ _ _ _ _ _ _)
      | (with_reducible exact ih3 _ _ _ _ _ _ _)
      | (with_reducible exact ih4 _ _ _ _ _ _ _)
      | (with_reducible exact besomtop_begins.mono _)
      | (with_reducible exact class_Pages.mono _ _)
      | (with_reducible exact pages_Free.mono _ _ _)
      | (with_reducible exact pages_Give.mono _ _ _ _ _)
      | (with_reducible exact pages_Longest.mono _ _ _)
      | (with_reducible exact pages_Take.mono _ _ _ _)
      | (with_reducible exact LeO.refl _)
      | (with_reducible exact LeO.none _)
      | (with_reducible refine LeO.ite ?_ ?_)
      | (with_reducible refine LeO.bind ?_ (fun _ => ?_))
      | exact ih0 _ _ _ _ _ _ _ _ _ _
      | exact ih1 _ _ _ _ _ _ _ _ _ _ _ _
      | exact ih2 _ _ _ _ _ _ _ _ _ _ _ _ _ _
      | exact ih3 _ _ _ _ _ _ _
      | exact ih4 _ _ _ _ _ _ _
      | exact besomtop_begins.mono _
      | exact class_Pages.mono _ _
      | exact pages_Free.mono _ _ _
      | exact pages_Give.mono _ _ _ _ _
      | exact pages_Longest.mono _ _ _
      | exact pages_Take.mono _ _ _ _
      | exact LeO.none _
      | refine LeO.ite ?_ ?_
      | refine LeO.bind ?_ (fun _ => ?_)
theorem besomtop_TopHeld.mono : ∀ a0 a1 a2 k, LeO (besomtop_TopHeld.f k a0 a1 a2) (besomtop_TopHeld.f (k + 1) a0 a1 a2) := by
  intro a0 a1 a2 k
  obtain ⟨ih0, ih1, ih2, ih3, ih4⟩ := besomtop_TopHeld.mono_l k
  unfold besomtop_TopHeld.f
  repeat' first
      | (with_reducible exact ih0 _ _ _ _ _ _ _ _ _ _)
      | (with_reducible exact ih1 _ _ _ _ _ _ _ _ _ _ _ _)
      | (with_reducible exact ih2 _ _ _ _ _ _ _ _ _ _ _ _ _ _)
      | (with_reducible exact ih3 _ _ _ _ _ _ _)
      | (with_reducible exact ih4 _ _ _ _ _ _ _)
      | (with_reducible exact besomtop_begins.mono _)
      | (with_reducible exact class_Pages.mono _ _)
      | (with_reducible exact pages_Free.mono _ _ _)
      | (with_reducible exact pages_Give.mono _ _ _ _ _)
      | (with_reducible exact pages_Longest.mono _ _ _)
      | (with_reducible exact pages_Take.mono _ _ _ _)
      | (with_reducible exact LeO.refl _)
      | (with_reducible exact LeO.none _)
      | (with_reducible refine LeO.ite ?_ ?_)
      | (with_reducible refine LeO.bind ?_ (fun _ => ?_))
      | exact ih0 _ _ _ _ _ _ _ _ _ _
      | exact ih1 _ _ _ _ _ _ _ _ _ _ _ _
      | exact ih2 _ _ _ _ _ _ _ _ _ _ _ _ _ _
      | exact ih3 _ _ _ _ _ _ _
      | exact ih4 _ _ _ _ _ _ _
      | exact besomtop_begins.mono _
      | exact class_Pages.mono _ _
      | exact pages_Free.mono _ _ _
      | exact pages_Give.mono _ _ _ _ _
      | exact pages_Longest.mono _ _ _
      | exact pages_Take.mono _ _ _ _
      | exact LeO.none _
      | refine LeO.ite ?_ ?_
      | refine LeO.bind ?_ (fun _ => ?_)
def besomtop_TopHeld.T21 : Bool × List (List Nat × List Nat) := (true, [([], []), ([], []), ([], []), ([2], [2]), ([1, 3], [1, 3]), ([], []), ([], []), ([6], [6]), ([5, 7, 4], [5, 7]), ([], []), ([], []), ([9, 10], [9, 10]), ([0, 8, 0], [0]), ([4, 12, 0, 1, 2, 3, 4, 12], [1, 4]), ([8, 13, 0, 1, 2, 3, 4, 5, 6, 7, 8, 12, 13], [5, 8]), ([11, 14, 0, 1, 2, 3, 4, 5, 6, 7, 8, 9, 10, 11, 12, 13, 14], [9, 11])])
def besomtop_TopHeld.B21 : List Nat := [0, 0, 0, 4, 14, 0, 0, 64, 254, 0, 0, 1536, 511, 4607, 12799, 32767]
theorem besomtop_TopHeld.tab21 : rtab .any (opsOf Tryd.f14 21) = besomtop_TopHeld.T21 := by kernel_rfl
theorem besomtop_TopHeld.bits21 : waitsOk besomtop_TopHeld.T21.2 besomtop_TopHeld.B21 = true := by kernel_rfl
def besomtop_TopHeld.T32 : Bool × List (List Nat × List Nat) := (true, [([], []), ([], []), ([], []), ([1, 2], [1, 2]), ([3], [3]), ([], []), ([], []), ([5, 6], [5, 6]), ([7], [7]), ([0, 4, 8], [0, 4, 8]), ([9], [9]), ([10], [10]), ([10], [10]), ([], []), ([13, 11, 9, 0, 1, 2, 3, 4, 5, 6, 7, 8, 9, 10, 11, 13], [11, 13]), ([12, 14, 0, 1, 2, 3, 4, 5, 6, 7, 8, 9, 10, 11, 12, 13, 14], [12])])
def besomtop_TopHeld.B32 : List Nat := [0, 0, 0, 6, 14, 0, 0, 96, 224, 511, 1023, 2047, 2047, 0, 12287, 32767]
theorem besomtop_TopHeld.tab32 : rtab .any (opsOf Tryd.f14 32) = besomtop_TopHeld.T32 := by kernel_rfl
theorem besomtop_TopHeld.bits32 : waitsOk besomtop_TopHeld.T32.2 besomtop_TopHeld.B32 = true := by kernel_rfl
set_option maxHeartbeats 8000000 in
set_option maxRecDepth 100000 in
theorem besomtop_TopHeld.calls (k : Nat) (a0 : Int) (A1 : Option Addr) (c1 : Nat) (l1 : List Int) (A2 : Option Addr) (c2 : Nat) (l2 : List Int) (r : Bool) (w : World) (hr1 : Kd.C (Kd.int .i64) w A1 l1.length l1) (hc1 : l1.length ≤ c1) (hr2 : Kd.C (Kd.int .u8) w A2 l2.length l2) (hc2 : l2.length ≤ c2) (hT : TzOk w) (hlaw : r = true) (h : besomtop_TopHeld.f k a0 l1 l2 = some r) :
    Calls Tryd.prog 14 #[.int .i64 a0, .slice A1 l1.length c1, .slice A2 l2.length c2] w fun e w' => e = .returned (.bool r) ∧ Below w.heap.size w w' := by
  have hu44 := Tryd.underlying44
  have HR1 := Aside0.mk hr1
  have HC1 := Aside0.mk hc1
  clear hr1 hc1
  have HR2 := Aside0.mk hr2
  have HC2 := Aside0.mk hc2
  clear hr2 hc2
  have HB := Aside0.mk (Below.refl w.heap.size w)
  have H : ((besomtop_begins.f k).bind fun t157 => (if t157 = true then ((pages_Make.f a0).bind fun bt158 => (if bt158.2.2 = 0 then (besomtop_TopHeld.l0 k a0 l1 l2 ([] : List Int) ([] : List Int) 0 (l1.length : Int) 0 bt158.1 bt158.2.1) else (if a0 < 0 then (some true) else (some (decide (a0 > 4096)))))) else (some false))) = some r := h
  clear h
  have HT := Aside0.mk hT
  clear hT
  have HLAW := Aside0.mk hlaw
  clear hlaw
  replace H := Option.bind_eq_some_iff.mp H
  obtain ⟨t157, A40, H⟩ := H
  replace H : (if t157 = true then ((pages_Make.f a0).bind fun bt158 => (if bt158.2.2 = 0 then (besomtop_TopHeld.l0 k a0 l1 l2 ([] : List Int) ([] : List Int) 0 (l1.length : Int) 0 bt158.1 bt158.2.1) else (if a0 < 0 then (some true) else (some (decide (a0 > 4096)))))) else (some false)) = some r := H
  have A4 := Aside0.mk A40
  clear A40
  by_cases c5 : t157 = true
  rotate_left
  · replace c5 := Bool.eq_false_iff.mpr c5
    subst c5
    have H1 : (some false) = some r := by rw [if_neg (show ¬ (false = true) by decide)] at H; exact H
    clear H
    have H := H1
    clear H1
    exact absurd ((Option.some.inj H).trans HLAW.out) (by decide)

  subst c5
  have H1 : ((pages_Make.f a0).bind fun bt158 => (if bt158.2.2 = 0 then (besomtop_TopHeld.l0 k a0 l1 l2 ([] : List Int) ([] : List Int) 0 (l1.length : Int) 0 bt158.1 bt158.2.1) else (if a0 < 0 then (some true) else (some (decide (a0 > 4096)))))) = some r := by rw [if_pos rfl] at H; exact H
  clear H
  have H := H1
  clear H1
  replace H := Option.bind_eq_some_iff.mp H
  obtain ⟨⟨t158, t159, t162⟩, A60, H⟩ := H
  replace H : (if t162 = 0 then (besomtop_TopHeld.l0 k a0 l1 l2 ([] : List Int) ([] : List Int) 0 (l1.length : Int) 0 t158 t159) else (if a0 < 0 then (some true) else (some (decide (a0 > 4096))))) = some r := H
  have A6 := Aside0.mk A60
  clear A60
  by_cases c7 : t162 = 0
  rotate_left
  · rw [if_neg c7] at H
    have c7b0 : (t162 == 0) = false := beq_eq_false_iff_ne.mpr c7
    have c7b1 : (t162 != 0) = true := bne_iff_ne.mpr c7
    by_cases c137 : a0 < 0
    rotate_left
    · rw [if_neg c137] at H
      have c137b0 : decide (a0 < 0) = false := decide_eq_false c137
      clear c137
      obtain rfl := Option.some.inj H
      go_enter Tryd.func14, Tryd.ntmps14
      go_wp2_with (first | ((with_reducible refine gate_callee (f := 40) rfl ?_); refine goesL_ (some 28) rfl rfl Tryd.func40 (by kernel_rfl) rfl #[] rfl (by (try simp only [List.map_toArray, List.map_cons, List.map_nil]); first | done | rfl | (simp only [List.length_drop, List.length_take]; rfl)) ?_; (with_reducible refine (besomtop_begins.calls k  true _ A4.out).mono ?_); rintro e w143 ⟨rfl, hb⟩; refine ⟨_, rfl, ?_⟩; have n0_ := Aside0.mk (below_step (by repeat (first | (with_reducible first | exact HB.out | apply below_alloc | apply pw_below_drewN | apply below_drew1) | exact HB.out)) hb); clear HB; have HB := n0_; clear n0_; (try clear hb); (try clear hb2); (try clear hk); (try clear hi)) | ((with_reducible refine gate_callee (f := 36) rfl ?_); refine goesL_ (some 32) rfl rfl Tryd.func36 (by kernel_rfl) rfl #[.int .i64 a0] rfl (by (try simp only [List.map_toArray, List.map_cons, List.map_nil]); first | done | rfl | (simp only [List.length_drop, List.length_take]; rfl)) ?_; (with_reducible refine (pages_Make.calls a0 t158 t159 t162 _ A6.out).mono ?_); rintro e w144 ⟨v160, rfl, ho0, hb⟩; refine ⟨_, rfl, ?_⟩; have n0_ := Aside0.mk (Kd.R_lower ho0 (below_size (by repeat (first | (with_reducible first | exact HB.out | apply below_alloc | apply pw_below_drewN | apply below_drew1) | exact HB.out)))); have n1_ := Aside0.mk (below_step (by repeat (first | (with_reducible first | exact HB.out | apply below_alloc | apply pw_below_drewN | apply below_drew1) | exact HB.out)) hb); clear HB; have HO161 := n0_; have HB := n1_; clear n0_ n1_; (try clear hb); (try clear hb2); (try clear hk); (try clear hi); (try clear ho0)) | ((with_reducible refine gate_dst (N := 7) rfl ?_); refine box_event ?hg (N := 7) ?hd (cs := #[.int .i64 0, .slice none 0 0]) (t := 44) ?hr ?_; (case hd => rfl); (case hg => rfl); (case hr => first | (go_simp; done) | (go_simp; rfl)); intro gb163 hg w145 hbox hb; have n0_ := Aside0.mk (Kd.R_below (by (with_reducible repeat (first | apply Kd.R_alloc | apply Kd.R_drewN | apply Kd.R_drew)); exact HO161.out) hb); have n1_ := Aside0.mk (below_step (by repeat (first | (with_reducible first | exact HB.out | apply below_alloc | apply pw_below_drewN | apply below_drew1) | exact HB.out)) hb); have n2_ := Aside0.mk (hbox); have n3_ := Aside0.mk ((by rw [hg]; exact (below_size (by repeat (first | (with_reducible first | exact HB.out | apply below_alloc | apply pw_below_drewN | apply below_drew1) | exact HB.out))) : w.heap.size ≤ gb163)); have n4_ := Aside0.mk ((by rw [hg]; exact (below_size (by repeat (first | (with_reducible first | exact HB.out | apply below_alloc | apply pw_below_drewN | apply below_drew1) | exact HB.out))) : w.heap.size ≤ gb163)); clear HO161; clear HB; have HO161 := n0_; have HB := n1_; have BK163 := n2_; have GW163 := n3_; have GE163 := n4_; clear n0_ n1_ n2_ n3_ n4_; clear hb hbox hg; have hcz146_0 : w145.cell? ⟨gb163, 0, none⟩ = some (.int .i64 0) := (blk_cell BK163.out 0).trans rfl; have hcz146_1 : w145.cell? ⟨gb163, 1, none⟩ = some (.slice none 0 0) := (blk_cell BK163.out 1).trans rfl; have hfz146_0 := blk_frozen BK163.out 0; have hfz146_1 := blk_frozen BK163.out 1; obtain ⟨Ao147, co147, eo147⟩ := Kd.R_slice HO161.out; subst eo147))
      go_ret
      exact ⟨by first | rfl | (simp [errW_none, errW_some] <;> rfl) | (simp [*, errW_none, errW_some] <;> rfl), by repeat (first | (with_reducible first | exact HB.out | apply below_alloc | apply pw_below_drewN | apply below_drew1 | refine below_set ?_ GE163.out) | exact HB.out)⟩
    rw [if_pos c137] at H
    have c137b0 : decide (a0 < 0) = true := decide_eq_true c137
    clear c137
    obtain rfl := Option.some.inj H
    go_enter Tryd.func14, Tryd.ntmps14
    go_wp2_with (first | ((with_reducible refine gate_callee (f := 40) rfl ?_); refine goesL_ (some 28) rfl rfl Tryd.func40 (by kernel_rfl) rfl #[] rfl (by (try simp only [List.map_toArray, List.map_cons, List.map_nil]); first | done | rfl | (simp only [List.length_drop, List.length_take]; rfl)) ?_; (with_reducible refine (besomtop_begins.calls k  true _ A4.out).mono ?_); rintro e w138 ⟨rfl, hb⟩; refine ⟨_, rfl, ?_⟩; have n0_ := Aside0.mk (below_step (by repeat (first | (with_reducible first | exact HB.out | apply below_alloc | apply pw_below_drewN | apply below_drew1) | exact HB.out)) hb); clear HB; have HB := n0_; clear n0_; (try clear hb); (try clear hb2); (try clear hk); (try clear hi)) | ((with_reducible refine gate_callee (f := 36) rfl ?_); refine goesL_ (some 32) rfl rfl Tryd.func36 (by kernel_rfl) rfl #[.int .i64 a0] rfl (by (try simp only [List.map_toArray, List.map_cons, List.map_nil]); first | done | rfl | (simp only [List.length_drop, List.length_take]; rfl)) ?_; (with_reducible refine (pages_Make.calls a0 t158 t159 t162 _ A6.out).mono ?_); rintro e w139 ⟨v160, rfl, ho0, hb⟩; refine ⟨_, rfl, ?_⟩; have n0_ := Aside0.mk (Kd.R_lower ho0 (below_size (by repeat (first | (with_reducible first | exact HB.out | apply below_alloc | apply pw_below_drewN | apply below_drew1) | exact HB.out)))); have n1_ := Aside0.mk (below_step (by repeat (first | (with_reducible first | exact HB.out | apply below_alloc | apply pw_below_drewN | apply below_drew1) | exact HB.out)) hb); clear HB; have HO161 := n0_; have HB := n1_; clear n0_ n1_; (try clear hb); (try clear hb2); (try clear hk); (try clear hi); (try clear ho0)) | ((with_reducible refine gate_dst (N := 7) rfl ?_); refine box_event ?hg (N := 7) ?hd (cs := #[.int .i64 0, .slice none 0 0]) (t := 44) ?hr ?_; (case hd => rfl); (case hg => rfl); (case hr => first | (go_simp; done) | (go_simp; rfl)); intro gb163 hg w140 hbox hb; have n0_ := Aside0.mk (Kd.R_below (by (with_reducible repeat (first | apply Kd.R_alloc | apply Kd.R_drewN | apply Kd.R_drew)); exact HO161.out) hb); have n1_ := Aside0.mk (below_step (by repeat (first | (with_reducible first | exact HB.out | apply below_alloc | apply pw_below_drewN | apply below_drew1) | exact HB.out)) hb); have n2_ := Aside0.mk (hbox); have n3_ := Aside0.mk ((by rw [hg]; exact (below_size (by repeat (first | (with_reducible first | exact HB.out | apply below_alloc | apply pw_below_drewN | apply below_drew1) | exact HB.out))) : w.heap.size ≤ gb163)); have n4_ := Aside0.mk ((by rw [hg]; exact (below_size (by repeat (first | (with_reducible first | exact HB.out | apply below_alloc | apply pw_below_drewN | apply below_drew1) | exact HB.out))) : w.heap.size ≤ gb163)); clear HO161; clear HB; have HO161 := n0_; have HB := n1_; have BK163 := n2_; have GW163 := n3_; have GE163 := n4_; clear n0_ n1_ n2_ n3_ n4_; clear hb hbox hg; have hcz141_0 : w140.cell? ⟨gb163, 0, none⟩ = some (.int .i64 0) := (blk_cell BK163.out 0).trans rfl; have hcz141_1 : w140.cell? ⟨gb163, 1, none⟩ = some (.slice none 0 0) := (blk_cell BK163.out 1).trans rfl; have hfz141_0 := blk_frozen BK163.out 0; have hfz141_1 := blk_frozen BK163.out 1; obtain ⟨Ao142, co142, eo142⟩ := Kd.R_slice HO161.out; subst eo142))
    go_ret
    exact ⟨by first | rfl | (simp [errW_none, errW_some] <;> rfl) | (simp [*, errW_none, errW_some] <;> rfl), by repeat (first | (with_reducible first | exact HB.out | apply below_alloc | apply pw_below_drewN | apply below_drew1 | refine below_set ?_ GE163.out) | exact HB.out)⟩
  rw [if_pos c7] at H
  have c7b0 : (t162 == 0) = true := beq_iff_eq.mpr c7
  have c7b1 : (t162 != 0) = false := bne_eq_false_iff_eq.mpr c7
  clear c7
  have H' := Aside0.mk H
  clear H
  go_enter Tryd.func14, Tryd.ntmps14
  go_wp2_with (first | ((with_reducible refine gate_callee (f := 40) rfl ?_); refine goesL_ (some 28) rfl rfl Tryd.func40 (by kernel_rfl) rfl #[] rfl (by (try simp only [List.map_toArray, List.map_cons, List.map_nil]); first | done | rfl | (simp only [List.length_drop, List.length_take]; rfl)) ?_; (with_reducible refine (besomtop_begins.calls k  true _ A4.out).mono ?_); rintro e w8 ⟨rfl, hb⟩; refine ⟨_, rfl, ?_⟩; have n0_ := Aside0.mk (below_step (by repeat (first | (with_reducible first | exact HB.out | apply below_alloc | apply pw_below_drewN | apply below_drew1) | exact HB.out)) hb); clear HB; have HB := n0_; clear n0_; (try clear hb); (try clear hb2); (try clear hk); (try clear hi)) | ((with_reducible refine gate_callee (f := 36) rfl ?_); refine goesL_ (some 32) rfl rfl Tryd.func36 (by kernel_rfl) rfl #[.int .i64 a0] rfl (by (try simp only [List.map_toArray, List.map_cons, List.map_nil]); first | done | rfl | (simp only [List.length_drop, List.length_take]; rfl)) ?_; (with_reducible refine (pages_Make.calls a0 t158 t159 t162 _ A6.out).mono ?_); rintro e w9 ⟨v160, rfl, ho0, hb⟩; refine ⟨_, rfl, ?_⟩; have n0_ := Aside0.mk (Kd.R_lower ho0 (below_size (by repeat (first | (with_reducible first | exact HB.out | apply below_alloc | apply pw_below_drewN | apply below_drew1) | exact HB.out)))); have n1_ := Aside0.mk (below_step (by repeat (first | (with_reducible first | exact HB.out | apply below_alloc | apply pw_below_drewN | apply below_drew1) | exact HB.out)) hb); clear HB; have HO161 := n0_; have HB := n1_; clear n0_ n1_; (try clear hb); (try clear hb2); (try clear hk); (try clear hi); (try clear ho0)) | ((with_reducible refine gate_dst (N := 7) rfl ?_); refine box_event ?hg (N := 7) ?hd (cs := #[.int .i64 0, .slice none 0 0]) (t := 44) ?hr ?_; (case hd => rfl); (case hg => rfl); (case hr => first | (go_simp; done) | (go_simp; rfl)); intro gb163 hg w10 hbox hb; have n0_ := Aside0.mk (Kd.R_below (by (with_reducible repeat (first | apply Kd.R_alloc | apply Kd.R_drewN | apply Kd.R_drew)); exact HO161.out) hb); have n1_ := Aside0.mk (below_step (by repeat (first | (with_reducible first | exact HB.out | apply below_alloc | apply pw_below_drewN | apply below_drew1) | exact HB.out)) hb); have n2_ := Aside0.mk (hbox); have n3_ := Aside0.mk ((by rw [hg]; exact (below_size (by repeat (first | (with_reducible first | exact HB.out | apply below_alloc | apply pw_below_drewN | apply below_drew1) | exact HB.out))) : w.heap.size ≤ gb163)); have n4_ := Aside0.mk ((by rw [hg]; exact (below_size (by repeat (first | (with_reducible first | exact HB.out | apply below_alloc | apply pw_below_drewN | apply below_drew1) | exact HB.out))) : w.heap.size ≤ gb163)); clear HO161; clear HB; have HO161 := n0_; have HB := n1_; have BK163 := n2_; have GW163 := n3_; have GE163 := n4_; clear n0_ n1_ n2_ n3_ n4_; clear hb hbox hg; have hcz11_0 : w10.cell? ⟨gb163, 0, none⟩ = some (.int .i64 0) := (blk_cell BK163.out 0).trans rfl; have hcz11_1 : w10.cell? ⟨gb163, 1, none⟩ = some (.slice none 0 0) := (blk_cell BK163.out 1).trans rfl; have hfz11_0 := blk_frozen BK163.out 0; have hfz11_1 := blk_frozen BK163.out 1; obtain ⟨Ao12, co12, eo12⟩ := Kd.R_slice HO161.out; subst eo12))
  go_loopg [9, 10, 11, 45] k (fun kq v9 v10 v11 v45 w' => ∃ (x9_1 : List Int) (x10_1 : List Int) (x11_1 : Int) (x45_1 : Int) (x164000_1 : Int) (x164001_1 : List Int) (u164001 : Value), v11 = .int .i64 x11_1 ∧ v45 = .int .i64 x45_1 ∧ Aside0 (besomtop_TopHeld.l0 kq a0 l1 l2 x9_1 x10_1 x11_1 (l1.length : Int) x45_1 x164000_1 x164001_1 = some r) ∧ Aside0 (kq ≤ k) ∧ Aside0 (Kd.R (Kd.int .i64) 3 w' w.heap.size (fun k_ => some k_ ≠ (v10 : Value).ownBlock) v9 x9_1) ∧ Aside0 (Kd.R (Kd.int .i64) 3 w' w.heap.size (fun k_ => some k_ ≠ (v9 : Value).ownBlock) v10 x10_1) ∧ Aside0 (Kd.R (Kd.int .u64) 42 w' w.heap.size (fun _ => True) u164001 x164001_1) ∧ Aside0 (w'.heap[gb163]? = some (.cells #[.int .i64 x164000_1, u164001] 44 (0, 0))) ∧ Aside0 (Below w.heap.size w w'))
  case atStart => exact ⟨(([] : List Int)), (([] : List Int)), (0), (0), (t158), (t159), (.slice Ao12 t159.length co12), (by first | rfl | (simp; done) | (simp [*]; done)), (by first | rfl | (simp; done) | (simp [*]; done)), H', ⟨Nat.le_refl _⟩, ⟨by first | exact Kd.R_nil _ _ _ _ _ | exact Kd.N_nil _ _ _ _ _ | exact Kd.V_nil _ _ _ _ _ | exact Kd.Q_nil _ _ _ _ _ | exact Kd.S_nil _ _ _ _ _⟩, ⟨by first | exact Kd.R_nil _ _ _ _ _ | exact Kd.N_nil _ _ _ _ _ | exact Kd.V_nil _ _ _ _ _ | exact Kd.Q_nil _ _ _ _ _ | exact Kd.S_nil _ _ _ _ _⟩, ⟨by (with_reducible repeat (first | apply Kd.R_alloc | apply Kd.R_drewN | apply Kd.R_drew)); exact Kd.R_mono (Kd.R_far (p := ⟨gb163, 1, none⟩) (Kd.R_far (p := ⟨gb163, 0, none⟩) (Kd.R_types HO161.out BK163.out (by decide)) (fun _ hk => hk.2) (.int .i64 t158)) (fun _ hk => hk.2) (.slice Ao12 t159.length co12)) (fun _ hk => trivial)⟩, ⟨by (with_reducible repeat (first | refine blk_drewN ?_ _ | refine blk_drew ?_ | refine blk_alloc ?_ _)); refine blk_put (cs := #[.int .i64 t158, .slice none 0 0]) ?_ 1 _ rfl; (with_reducible repeat (first | refine blk_drewN ?_ _ | refine blk_drew ?_ | refine blk_alloc ?_ _)); refine blk_put (cs := #[.int .i64 0, .slice none 0 0]) ?_ 0 _ rfl; (with_reducible repeat (first | refine blk_drewN ?_ _ | refine blk_drew ?_ | refine blk_alloc ?_ _)); exact BK163.out⟩, ⟨by repeat (first | (with_reducible first | exact HB.out | apply below_alloc | apply pw_below_drewN | apply below_drew1 | refine below_set ?_ GE163.out) | exact HB.out)⟩⟩
  case round =>
    clear H'
    try clear c1
    try clear c2
    try clear p2
    try clear c3
    try clear c4
    try clear c5
    try clear c7
    try clear c7b0
    try clear c7b1
    try clear hcz11_0
    try clear hcz11_1
    try clear hfz11_0
    try clear hfz11_1
    obtain ⟨x9_1, x10_1, x11_1, x45_1, x164000_1, x164001_1, u164001, rfl, rfl, HA, HK1, HO_9, HO_10, HO_164001, BK163, HB⟩ := hrel
    cases gk with
    | zero => exact absurd HA.out (by simp [besomtop_TopHeld.l0])
    | succ k1 =>
      have H := HA.out
      clear HA
      simp only [besomtop_TopHeld.l0] at H
      by_cases c13 : x45_1 < (l1.length : Int)
      rotate_left
      · rw [if_neg c13] at H
        have c13b0 : decide (x45_1 < (l1.length : Int)) = false := decide_eq_false c13
        clear c13
        replace H := Option.bind_eq_some_iff.mp H
        obtain ⟨⟨t188, t189⟩, A610, H⟩ := H
        replace H : (if t189 = 0 then (besomtop_TopHeld.j3 k1 a0 l2 x9_1 x10_1 ((wrap64 (t188 + x11_1)) != a0) x164000_1 x164001_1) else (besomtop_TopHeld.j3 k1 a0 l2 x9_1 x10_1 true x164000_1 x164001_1)) = some r := H
        have A61 := Aside0.mk A610
        clear A610
        have HC62 := Aside0.mk H
        clear H
        have hcz63_0 : wr.cell? ⟨gb163, 0, none⟩ = some (.int .i64 x164000_1) := (blk_cell BK163.out 0).trans rfl
        have hcz63_1 : wr.cell? ⟨gb163, 1, none⟩ = some (u164001) := (blk_cell BK163.out 1).trans rfl
        have hfz63_0 := blk_frozen BK163.out 0
        have hfz63_1 := blk_frozen BK163.out 1
        obtain ⟨Ao64, co64, eo64⟩ := Kd.R_slice HO_164001.out
        subst eo64
        go_upto_region 24 with (first | ((with_reducible refine gate_callee (f := 32) rfl ?_); refine goesL_ (some 108) rfl rfl Tryd.func32 (by kernel_rfl) rfl #[.agg #[.int .i64 x164000_1, .slice Ao64 x164001_1.length co64]] rfl (by (try simp only [List.map_toArray, List.map_cons, List.map_nil]); first | done | rfl | (simp only [List.length_drop, List.length_take]; rfl)) ?_; (with_reducible refine (pages_Free.calls k1 x164000_1 _ _ x164001_1 t188 t189 _ ?side1 ?side2 A61.out).mono ?_); (case side1 => repeat (first | exact (Kd.R_reads' HO_164001.out).2.2 | (with_reducible refine Kd.C_alloc ?_ _) | (with_reducible refine Kd.C_drewN ?_ _) | (with_reducible refine Kd.C_drew ?_))); (case side2 => exact (Kd.R_reads' HO_164001.out).2.1); rintro e w65 ⟨rfl, hb⟩; refine ⟨_, rfl, ?_⟩; have n0_ := Aside0.mk (Kd.R_below (by (with_reducible repeat (first | apply Kd.R_alloc | apply Kd.R_drewN | apply Kd.R_drew)); exact HO_9.out) hb); have n1_ := Aside0.mk (Kd.R_below (by (with_reducible repeat (first | apply Kd.R_alloc | apply Kd.R_drewN | apply Kd.R_drew)); exact HO_10.out) hb); have n2_ := Aside0.mk (Kd.R_below (by (with_reducible repeat (first | apply Kd.R_alloc | apply Kd.R_drewN | apply Kd.R_drew)); exact HO_164001.out) hb); have n3_ := Aside0.mk (blk_below (g := gb163) (o := .cells #[.int .i64 x164000_1, .slice Ao64 x164001_1.length co64] 44 (0, 0)) (by (with_reducible repeat (first | refine blk_drewN ?_ _ | refine blk_drew ?_ | refine blk_alloc ?_ _)); exact BK163.out) hb); have n4_ := Aside0.mk (below_step (by repeat (first | (with_reducible first | exact HB.out | apply below_alloc | apply pw_below_drewN | apply below_drew1 | refine below_set ?_ GE163.out) | exact HB.out)) hb); clear HO_9; clear HO_10; clear HO_164001; clear BK163; clear HB; have HO_9 := n0_; have HO_10 := n1_; have HO_164001 := n2_; have BK163 := n3_; have HB := n4_; clear n0_ n1_ n2_ n3_ n4_; (try clear hb); (try clear hb2); (try clear hk); (try clear hi)))
        (try simp only [Act.put, List.setIfInBounds_toArray, List.set_cons_zero, List.set_cons_succ])
        go_cut [119] (fun v119 wc => ∃ (kq : Nat) (x119_61 : Bool), v119 = .bool x119_61 ∧ Aside0 (besomtop_TopHeld.j3 kq a0 l2 x9_1 x10_1 x119_61 x164000_1 x164001_1 = some r) ∧ Aside0 (kq ≤ k1) ∧ Aside0 (Kd.R (Kd.int .i64) 3 wc w.heap.size (fun k_ => some k_ ≠ (u10 : Value).ownBlock) u9 x9_1) ∧ Aside0 (Kd.R (Kd.int .i64) 3 wc w.heap.size (fun k_ => some k_ ≠ (u9 : Value).ownBlock) u10 x10_1) ∧ Aside0 (Kd.R (Kd.int .u64) 42 wc w.heap.size (fun _ => True) (.slice Ao64 x164001_1.length co64) x164001_1) ∧ Aside0 (wc.heap[gb163]? = some (.cells #[.int .i64 x164000_1, (.slice Ao64 x164001_1.length co64)] 44 (0, 0))) ∧ Aside0 (Below w.heap.size w wc))
        case first =>
          have H := HC62.out
          clear HC62
          by_cases c66 : t189 = 0
          rotate_left
          · rw [if_neg c66] at H
            have c66b0 : (t189 == 0) = false := beq_eq_false_iff_ne.mpr c66
            have c66b1 : (t189 != 0) = true := bne_iff_ne.mpr c66
            (first | rw [c66b0] | (simp only [i64_w, i32_w]; rw [c66b0]) | skip)
            have H' := Aside0.mk H
            clear H
            go_wp2
            go_meet
            case rel => exact ⟨_, (true), (by first | rfl | (simp; done) | (simp [*]; done)), H', ⟨by have := HK1.out; first | omega | exact Nat.le_refl _⟩, ⟨by (with_reducible repeat (first | apply Kd.R_alloc | apply Kd.R_drewN | apply Kd.R_drew)); exact HO_9.out⟩, ⟨by (with_reducible repeat (first | apply Kd.R_alloc | apply Kd.R_drewN | apply Kd.R_drew)); exact HO_10.out⟩, ⟨by (with_reducible repeat (first | apply Kd.R_alloc | apply Kd.R_drewN | apply Kd.R_drew)); exact HO_164001.out⟩, ⟨by (with_reducible repeat (first | refine blk_drewN ?_ _ | refine blk_drew ?_ | refine blk_alloc ?_ _)); exact BK163.out⟩, ⟨by repeat (first | (with_reducible first | exact HB.out | apply below_alloc | apply pw_below_drewN | apply below_drew1 | refine below_set ?_ GE163.out) | exact HB.out)⟩⟩
          rw [if_pos c66] at H
          have c66b0 : (t189 == 0) = true := beq_iff_eq.mpr c66
          have c66b1 : (t189 != 0) = false := bne_eq_false_iff_eq.mpr c66
          clear c66
          (first | rw [c66b0] | (simp only [i64_w, i32_w]; rw [c66b0]) | skip)
          have H' := Aside0.mk H
          clear H
          go_wp2
          go_meet
          case rel => exact ⟨_, (((wrap64 (t188 + x11_1)) != a0)), (by first | rfl | (simp; done) | (simp [*]; done)), H', ⟨by have := HK1.out; first | omega | exact Nat.le_refl _⟩, ⟨by (with_reducible repeat (first | apply Kd.R_alloc | apply Kd.R_drewN | apply Kd.R_drew)); exact HO_9.out⟩, ⟨by (with_reducible repeat (first | apply Kd.R_alloc | apply Kd.R_drewN | apply Kd.R_drew)); exact HO_10.out⟩, ⟨by (with_reducible repeat (first | apply Kd.R_alloc | apply Kd.R_drewN | apply Kd.R_drew)); exact HO_164001.out⟩, ⟨by (with_reducible repeat (first | refine blk_drewN ?_ _ | refine blk_drew ?_ | refine blk_alloc ?_ _)); exact BK163.out⟩, ⟨by repeat (first | (with_reducible first | exact HB.out | apply below_alloc | apply pw_below_drewN | apply below_drew1 | refine below_set ?_ GE163.out) | exact HB.out)⟩⟩
        case rest =>
          clear HC62
          try clear c1
          try clear c2
          try clear p2
          try clear c3
          try clear c4
          try clear c5
          try clear c6
          try clear p6
          try clear c13
          try clear c13b0
          try clear c14
          try clear c15
          try clear c22
          try clear c22b0
          try clear c22b1
          try clear c26
          try clear c32
          try clear c39
          try clear c40
          try clear c58
          try clear p64
          try clear c66
          try clear c66b0
          try clear c66b1
          try clear hcz54_0
          try clear hcz54_1
          try clear hcz59_0
          try clear hcz59_1
          try clear hcz63_0
          try clear hcz63_1
          try clear hfz54_0
          try clear hfz54_1
          try clear hfz59_0
          try clear hfz59_1
          try clear hfz63_0
          try clear hfz63_1
          obtain ⟨kq, x119_61, rfl, HA, HJ61, HO_9, HO_10, HO_164001, BK163, HB⟩ := hcut
          cases kq with
          | zero => exact absurd HA.out (by simp [besomtop_TopHeld.j3])
          | succ kj61 =>
            have H := HA.out
            clear HA
            simp only [besomtop_TopHeld.j3] at H
            by_cases c67 : x119_61 = true
            rotate_left
            · replace c67 := Bool.eq_false_iff.mpr c67
              subst c67
              have H1 : (besomtop_TopHeld.l2 kj61 a0 l2 x9_1 x10_1 0 x164000_1 x164001_1) = some r := by rw [if_neg (show ¬ (false = true) by decide)] at H; exact H
              clear H
              have H := H1
              clear H1
              have H' := Aside0.mk H
              clear H
              go_wp2
              go_loopg [9, 10, 22] kj61 (fun kq v9 v10 v22 w' => ∃ (x9_3 : List Int) (x10_3 : List Int) (x22_3 : Int) (x164000_3 : Int) (x164001_3 : List Int) (u164001 : Value), v22 = .int .i64 x22_3 ∧ Aside0 (besomtop_TopHeld.l2 kq a0 l2 x9_3 x10_3 x22_3 x164000_3 x164001_3 = some r) ∧ Aside0 (kq ≤ kj61) ∧ Aside0 (Kd.R (Kd.int .i64) 3 w' w.heap.size (fun k_ => some k_ ≠ (v10 : Value).ownBlock) v9 x9_3) ∧ Aside0 (Kd.R (Kd.int .i64) 3 w' w.heap.size (fun k_ => some k_ ≠ (v9 : Value).ownBlock) v10 x10_3) ∧ Aside0 (Kd.R (Kd.int .u64) 42 w' w.heap.size (fun _ => True) u164001 x164001_3) ∧ Aside0 (w'.heap[gb163]? = some (.cells #[.int .i64 x164000_3, u164001] 44 (0, 0))) ∧ Aside0 (Below w.heap.size w w'))
              case atStart => exact ⟨(x9_1), (x10_1), (0), (x164000_1), (x164001_1), (.slice Ao64 x164001_1.length co64), (by first | rfl | (simp; done) | (simp [*]; done)), H', ⟨Nat.le_refl _⟩, ⟨by (with_reducible repeat (first | apply Kd.R_alloc | apply Kd.R_drewN | apply Kd.R_drew)); exact HO_9.out⟩, ⟨by (with_reducible repeat (first | apply Kd.R_alloc | apply Kd.R_drewN | apply Kd.R_drew)); exact HO_10.out⟩, ⟨by (with_reducible repeat (first | apply Kd.R_alloc | apply Kd.R_drewN | apply Kd.R_drew)); exact HO_164001.out⟩, ⟨by (with_reducible repeat (first | refine blk_drewN ?_ _ | refine blk_drew ?_ | refine blk_alloc ?_ _)); exact BK163.out⟩, ⟨by repeat (first | (with_reducible first | exact HB.out | apply below_alloc | apply pw_below_drewN | apply below_drew1 | refine below_set ?_ GE163.out) | exact HB.out)⟩⟩
              case round =>
                clear H'
                try clear c1
                try clear c2
                try clear p2
                try clear c3
                try clear c4
                try clear c5
                try clear c6
                try clear p6
                try clear c13
                try clear c13b0
                try clear c14
                try clear c15
                try clear c22
                try clear c22b0
                try clear c22b1
                try clear c26
                try clear c32
                try clear c39
                try clear c40
                try clear c58
                try clear p64
                try clear c66
                try clear c66b0
                try clear c66b1
                try clear c67
                try clear hcz54_0
                try clear hcz54_1
                try clear hcz59_0
                try clear hcz59_1
                try clear hcz63_0
                try clear hcz63_1
                try clear hfz54_0
                try clear hfz54_1
                try clear hfz59_0
                try clear hfz59_1
                try clear hfz63_0
                try clear hfz63_1
                try clear p2
                try clear p6
                try clear p64
                obtain ⟨x9_3, x10_3, x22_3, x164000_3, x164001_3, u164001, rfl, HA, HK3, HO_9, HO_10, HO_164001, BK163, HB⟩ := hrel
                cases gk with
                | zero => exact absurd HA.out (by simp [besomtop_TopHeld.l2])
                | succ k3 =>
                  have H := HA.out
                  clear HA
                  simp only [besomtop_TopHeld.l2] at H
                  by_cases c68 : (x9_3.length : Int) > 0
                  rotate_left
                  · rw [if_neg c68] at H
                    have c68b0 : decide (0 < (x9_3.length : Int)) = false := decide_eq_false c68
                    have c68b1 : decide (0 < x9_3.length) = false := decide_eq_false (by omega)
                    clear c68
                    replace H := Option.bind_eq_some_iff.mp H
                    obtain ⟨⟨t190, t191⟩, A1310, H⟩ := H
                    replace H : (if t191 = 0 then (some (t190 == a0)) else (some false)) = some r := H
                    have A131 := Aside0.mk A1310
                    clear A1310
                    by_cases c132 : t191 = 0
                    rotate_left
                    · rw [if_neg c132] at H
                      have c132b0 : (t191 == 0) = false := beq_eq_false_iff_ne.mpr c132
                      have c132b1 : (t191 != 0) = true := bne_iff_ne.mpr c132
                      exact absurd ((Option.some.inj H).trans HLAW.out) (by decide)
                    rw [if_pos c132] at H
                    have c132b0 : (t191 == 0) = true := beq_iff_eq.mpr c132
                    have c132b1 : (t191 != 0) = false := bne_eq_false_iff_eq.mpr c132
                    clear c132
                    obtain rfl := Option.some.inj H
                    obtain ⟨Ao133, co133, eo133⟩ := Kd.R_slice HO_9.out
                    subst eo133
                    have hcz134_0 : wr.cell? ⟨gb163, 0, none⟩ = some (.int .i64 x164000_3) := (blk_cell BK163.out 0).trans rfl
                    have hcz134_1 : wr.cell? ⟨gb163, 1, none⟩ = some (u164001) := (blk_cell BK163.out 1).trans rfl
                    have hfz134_0 := blk_frozen BK163.out 0
                    have hfz134_1 := blk_frozen BK163.out 1
                    obtain ⟨Ao135, co135, eo135⟩ := Kd.R_slice HO_164001.out
                    subst eo135
                    go_wp2_with (first | ((with_reducible refine gate_callee (f := 34) rfl ?_); refine goesL_ (some 177) rfl rfl Tryd.func34 (by kernel_rfl) rfl #[.agg #[.int .i64 x164000_3, .slice Ao135 x164001_3.length co135]] rfl (by (try simp only [List.map_toArray, List.map_cons, List.map_nil]); first | done | rfl | (simp only [List.length_drop, List.length_take]; rfl)) ?_; (with_reducible refine (pages_Longest.calls k3 x164000_3 _ _ x164001_3 t190 t191 _ ?side1 ?side2 ?side3 A131.out).mono ?_); (case side1 => repeat (first | exact (Kd.R_reads' HO_164001.out).2.2 | (with_reducible refine Kd.C_alloc ?_ _) | (with_reducible refine Kd.C_drewN ?_ _) | (with_reducible refine Kd.C_drew ?_))); (case side2 => exact (Kd.R_reads' HO_164001.out).2.1); (case side3 => repeat (first | exact HT.out | exact TzOk.below HT.out (by repeat (first | (with_reducible first | exact HB.out | apply below_alloc | apply pw_below_drewN | apply below_drew1 | refine below_set ?_ GE163.out) | exact HB.out)) | (with_reducible refine TzOk.alloc ?_ _) | (with_reducible refine TzOk.drewN ?_ _) | (with_reducible refine TzOk.drew ?_))); rintro e w136 ⟨rfl, hb⟩; refine ⟨_, rfl, ?_⟩; have n0_ := Aside0.mk (Kd.R_below (by (with_reducible repeat (first | apply Kd.R_alloc | apply Kd.R_drewN | apply Kd.R_drew)); exact HO_9.out) hb); have n1_ := Aside0.mk (Kd.R_below (by (with_reducible repeat (first | apply Kd.R_alloc | apply Kd.R_drewN | apply Kd.R_drew)); exact HO_10.out) hb); have n2_ := Aside0.mk (Kd.R_below (by (with_reducible repeat (first | apply Kd.R_alloc | apply Kd.R_drewN | apply Kd.R_drew)); exact HO_164001.out) hb); have n3_ := Aside0.mk (blk_below (g := gb163) (o := .cells #[.int .i64 x164000_3, .slice Ao135 x164001_3.length co135] 44 (0, 0)) (by (with_reducible repeat (first | refine blk_drewN ?_ _ | refine blk_drew ?_ | refine blk_alloc ?_ _)); exact BK163.out) hb); have n4_ := Aside0.mk (below_step (by repeat (first | (with_reducible first | exact HB.out | apply below_alloc | apply pw_below_drewN | apply below_drew1 | refine below_set ?_ GE163.out) | exact HB.out)) hb); clear HO_9; clear HO_10; clear HO_164001; clear BK163; clear HB; have HO_9 := n0_; have HO_10 := n1_; have HO_164001 := n2_; have BK163 := n3_; have HB := n4_; clear n0_ n1_ n2_ n3_ n4_; (try clear hb); (try clear hb2); (try clear hk); (try clear hi)))
                    go_ret
                    exact ⟨by first | rfl | (simp [errW_none, errW_some] <;> rfl) | (simp [*, errW_none, errW_some] <;> rfl), by repeat (first | (with_reducible first | exact HB.out | apply below_alloc | apply pw_below_drewN | apply below_drew1 | refine below_set ?_ GE163.out) | exact HB.out)⟩
                  rw [if_pos c68] at H
                  have c68b0 : decide (0 < (x9_3.length : Int)) = true := decide_eq_true c68
                  have c68b1 : decide (0 < x9_3.length) = true := decide_eq_true (by omega)
                  clear c68
                  by_cases c69 : (l2.length : Int) > 0
                  rotate_left
                  · rw [if_neg c69] at H
                    have c69b0 : decide (0 < (l2.length : Int)) = false := decide_eq_false c69
                    have c69b1 : decide (0 < l2.length) = false := decide_eq_false (by omega)
                    clear c69
                    by_cases c104 : 0 < (x9_3.length : Int)
                    rotate_left
                    · rw [if_neg c104] at H
                      exact absurd H (by simp)
                    rw [if_pos c104] at H
                    have c104b0 : decide (0 < (x9_3.length : Int)) = true := decide_eq_true c104
                    have c104b1 : decide (0 < x9_3.length) = true := decide_eq_true (by omega)
                    clear c104
                    by_cases c105 : 0 < (x10_3.length : Int)
                    rotate_left
                    · rw [if_neg c105] at H
                      exact absurd H (by simp)
                    rw [if_pos c105] at H
                    have c105b0 : decide (0 < (x10_3.length : Int)) = true := decide_eq_true c105
                    have c105b1 : decide (0 < x10_3.length) = true := decide_eq_true (by omega)
                    clear c105
                    replace H := Option.bind_eq_some_iff.mp H
                    obtain ⟨⟨t215, t216, t219⟩, A1060, H⟩ := H
                    replace H : (if t219 = 0 then ((some (([0] : List Int) : List Int)).bind fun y221 => (if x9_3.length + y221.length < 17592186044416 then ((some (([0] : List Int) : List Int)).bind fun y227 => (if x10_3.length + y227.length < 17592186044416 then (besomtop_TopHeld.l2 k3 a0 l2 (cutAt x9_3 y221) (cutAt x10_3 y227) (wrap64 (x22_3 + 1)) t215 t216) else (none))) else (none))) else (some false)) = some r := H
                    have A106 := Aside0.mk A1060
                    clear A1060
                    by_cases c107 : t219 = 0
                    rotate_left
                    · rw [if_neg c107] at H
                      have c107b0 : (t219 == 0) = false := beq_eq_false_iff_ne.mpr c107
                      have c107b1 : (t219 != 0) = true := bne_iff_ne.mpr c107
                      exact absurd ((Option.some.inj H).trans HLAW.out) (by decide)
                    rw [if_pos c107] at H
                    have c107b0 : (t219 == 0) = true := beq_iff_eq.mpr c107
                    have c107b1 : (t219 != 0) = false := bne_eq_false_iff_eq.mpr c107
                    clear c107
                    obtain ⟨y221, hy221⟩ : ∃ y_ : List Int, y_ = (([0] : List Int)) := ⟨_, rfl⟩
                    replace H : (if x9_3.length + y221.length < 17592186044416 then ((some (([0] : List Int) : List Int)).bind fun y227 => (if x10_3.length + y227.length < 17592186044416 then (besomtop_TopHeld.l2 k3 a0 l2 (cutAt x9_3 y221) (cutAt x10_3 y227) (wrap64 (x22_3 + 1)) t215 t216) else (none))) else (none)) = some r := by first | (rw [hy221]; with_reducible exact H) | (have H2_ := (Option.bind_some _ _).symm.trans H; rw [hy221]; with_reducible exact H2_) | (have H2_ := (Option.bind_some _ _).symm.trans H; with_reducible exact H2_) | with_reducible exact H | (rw [hy221]; exact H) | exact H
                    have Ny221 := Aside0.mk hy221
                    clear hy221
                    by_cases c108 : x9_3.length + y221.length < 17592186044416
                    rotate_left
                    · rw [if_neg c108] at H
                      exact absurd H (by simp)
                    rw [if_pos c108] at H
                    have LMc108 := Aside0.mk c108
                    clear c108
                    obtain ⟨y224, hy224⟩ : ∃ y_ : List Int, y_ = (cutAt x9_3 y221) := ⟨_, rfl⟩
                    replace H : ((some (([0] : List Int) : List Int)).bind fun y227 => (if x10_3.length + y227.length < 17592186044416 then (besomtop_TopHeld.l2 k3 a0 l2 y224 (cutAt x10_3 y227) (wrap64 (x22_3 + 1)) t215 t216) else (none))) = some r := by first | (rw [hy224]; with_reducible exact H) | (have H2_ := (Option.bind_some _ _).symm.trans H; rw [hy224]; with_reducible exact H2_) | (have H2_ := (Option.bind_some _ _).symm.trans H; with_reducible exact H2_) | with_reducible exact H | (rw [hy224]; exact H) | exact H
                    have Ny224 := Aside0.mk hy224
                    clear hy224
                    obtain ⟨y227, hy227⟩ : ∃ y_ : List Int, y_ = (([0] : List Int)) := ⟨_, rfl⟩
                    replace H : (if x10_3.length + y227.length < 17592186044416 then (besomtop_TopHeld.l2 k3 a0 l2 y224 (cutAt x10_3 y227) (wrap64 (x22_3 + 1)) t215 t216) else (none)) = some r := by first | (rw [hy227]; with_reducible exact H) | (have H2_ := (Option.bind_some _ _).symm.trans H; rw [hy227]; with_reducible exact H2_) | (have H2_ := (Option.bind_some _ _).symm.trans H; with_reducible exact H2_) | with_reducible exact H | (rw [hy227]; exact H) | exact H
                    have Ny227 := Aside0.mk hy227
                    clear hy227
                    by_cases c109 : x10_3.length + y227.length < 17592186044416
                    rotate_left
                    · rw [if_neg c109] at H
                      exact absurd H (by simp)
                    rw [if_pos c109] at H
                    have LMc109 := Aside0.mk c109
                    clear c109
                    obtain ⟨y230, hy230⟩ : ∃ y_ : List Int, y_ = (cutAt x10_3 y227) := ⟨_, rfl⟩
                    replace H : (besomtop_TopHeld.l2 k3 a0 l2 y224 y230 (wrap64 (x22_3 + 1)) t215 t216) = some r := by first | (rw [hy230]; with_reducible exact H) | (have H2_ := (Option.bind_some _ _).symm.trans H; rw [hy230]; with_reducible exact H2_) | (have H2_ := (Option.bind_some _ _).symm.trans H; with_reducible exact H2_) | with_reducible exact H | (rw [hy230]; exact H) | exact H
                    have Ny230 := Aside0.mk hy230
                    clear hy230
                    have H' := Aside0.mk H
                    clear H
                    obtain ⟨Ao110, co110, eo110⟩ := Kd.R_slice HO_9.out
                    subst eo110
                    obtain ⟨Ao111, co111, eo111⟩ := Kd.R_slice HO_164001.out
                    subst eo111
                    try go_wp2
                    have n0_ := Aside0.mk (Kd.R_drew HO_9.out)
                    have n1_ := Aside0.mk (Kd.R_drew HO_10.out)
                    have n2_ := Aside0.mk (Kd.R_drew HO_164001.out)
                    have n3_ := Aside0.mk (blk_drew BK163.out)
                    have n4_ := Aside0.mk (below_drew1 HB.out)
                    clear HO_9
                    clear HO_10
                    clear HO_164001
                    clear BK163
                    clear HB
                    have HO_9 := n0_
                    have HO_10 := n1_
                    have HO_164001 := n2_
                    have BK163 := n3_
                    have HB := n4_
                    clear n0_ n1_ n2_ n3_ n4_
                    have p213 : 0 ≤ (0 : Int) := (by omega)
                    have q213 : 0 < (x9_3.length : Int) := of_decide_eq_true (by first | (with_reducible assumption) | assumption)
                    obtain ⟨ad213, e213, hx213_0⟩ := Kd.at_int (Kd.R_reads' HO_9.out).2.2 0 p213 q213
                    cases e213
                    have qi213 : (0 < x9_3.length) = True := eq_true (by omega)
                    (try rw [show ((0 : Int)).toNat = 0 from rfl] at hx213_0)
                    (try rw [Addr.add_zero'] at hx213_0)
                    replace p213 := eq_true p213
                    replace q213 := eq_true q213
                    obtain ⟨Ao113, co113, eo113⟩ := Kd.R_slice HO_10.out
                    (first | subst eo113 | (injection eo113 with f1_ f2_ f3_; have f4_ := f1_.symm; have f5_ := f3_.symm; clear f1_ f2_ f3_; subst f4_; subst f5_))
                    have p214 : 0 ≤ (0 : Int) := (by omega)
                    have q214 : 0 < (x10_3.length : Int) := of_decide_eq_true (by first | (with_reducible assumption) | assumption)
                    obtain ⟨ad214, e214, hx214_0⟩ := Kd.at_int (Kd.R_reads' HO_10.out).2.2 0 p214 q214
                    cases e214
                    have qi214 : (0 < x10_3.length) = True := eq_true (by omega)
                    (try rw [show ((0 : Int)).toNat = 0 from rfl] at hx214_0)
                    (try rw [Addr.add_zero'] at hx214_0)
                    replace p214 := eq_true p214
                    replace q214 := eq_true q214
                    refine start_ (n := 16) (S := fun w' => w'.cell? ⟨gb163, 0, none⟩ = some (.int .i64 x164000_3) ∧ w'.cell? ⟨gb163, 1, none⟩ = some (.slice Ao111 x164001_3.length co111) ∧ w'.cell? ad213 = some (.int .i64 (rd x9_3 0)) ∧ w'.cell? ad214 = some (.int .i64 (rd x10_3 0))) (ds := []) #[false, false, false, false, false, false, false, false, false, false, false, false, false, false, false, false] (by kernel_rfl) rfl rfl ⟨(blk_cell BK163.out 0).trans rfl, (blk_cell BK163.out 1).trans rfl, hx213_0, hx214_0⟩ (fun hHeld => ?_); refine with_tabW besomtop_TopHeld.tab32 besomtop_TopHeld.bits32 (fun HT_ HW_ => ?_)
                    generalize wr.drew = w112 at HO_9 HO_10 HO_164001 BK163 HB hx213_0 hx214_0 hHeld ⊢
                    refine pure_ (i := 1) (N := some 141) (v := ?_) (a' := ?_) #[false, true, false, false, false, false, false, false, false, false, false, false, false, false, false, false] rfl rfl (any_of HT_.out (by kernel_rfl)) (fun _ _ _ h => h) (Or.inl ⟨by rfl, ?_⟩) ?_ ?_
                    rotate_left
                    · intro w'
                      go_simp
                      with_reducible rfl
                    rotate_left
                    · simp only [Act.put, List.setIfInBounds_toArray, List.set_cons_zero, List.set_cons_succ, i64_w, i32_w]
                      rfl
                    refine pure_ (i := 2) (N := some 142) (v := ?_) (a' := ?_) #[false, true, true, false, false, false, false, false, false, false, false, false, false, false, false, false] rfl rfl (any_of HT_.out (by kernel_rfl)) (fun _ _ _ h => h) (Or.inl ⟨by rfl, ?_⟩) ?_ ?_
                    rotate_left
                    · intro w'
                      go_simp
                      with_reducible rfl
                    rotate_left
                    · simp only [Act.put, List.setIfInBounds_toArray, List.set_cons_zero, List.set_cons_succ, i64_w, i32_w]
                      rfl
                    refine pure_ (i := 3) (N := some 143) (v := ?_) (a' := ?_) #[false, true, true, true, false, false, false, false, false, false, false, false, false, false, false, false] rfl rfl (any_of HT_.out (by kernel_rfl)) (fun _ _ _ h => h) (Or.inl ⟨by rfl, ?_⟩) ?_ ?_
                    rotate_left
                    · intro w'
                      go_simp
                      with_reducible rfl
                    rotate_left
                    · simp only [Act.put, List.setIfInBounds_toArray, List.set_cons_zero, List.set_cons_succ, i64_w, i32_w]
                      rfl
                    refine pure_ (i := 5) (N := some 145) (v := ?_) (a' := ?_) #[false, true, true, true, false, true, false, false, false, false, false, false, false, false, false, false] rfl rfl (any_of HT_.out (by kernel_rfl)) (fun _ _ _ h => h) (Or.inl ⟨by rfl, ?_⟩) ?_ ?_
                    rotate_left
                    · intro w'
                      go_simp
                      with_reducible rfl
                    rotate_left
                    · simp only [Act.put, List.setIfInBounds_toArray, List.set_cons_zero, List.set_cons_succ, i64_w, i32_w]
                      rfl
                    refine pure_ (i := 6) (N := some 146) (v := ?_) (a' := ?_) #[false, true, true, true, false, true, true, false, false, false, false, false, false, false, false, false] rfl rfl (any_of HT_.out (by kernel_rfl)) (fun _ _ _ h => h) (Or.inl ⟨by rfl, ?_⟩) ?_ ?_
                    rotate_left
                    · intro w'
                      go_simp
                      with_reducible rfl
                    rotate_left
                    · simp only [Act.put, List.setIfInBounds_toArray, List.set_cons_zero, List.set_cons_succ, i64_w, i32_w]
                      rfl
                    refine pure_ (i := 7) (N := some 147) (v := ?_) (a' := ?_) #[false, true, true, true, false, true, true, true, false, false, false, false, false, false, false, false] rfl rfl (any_of HT_.out (by kernel_rfl)) (fun _ _ _ h => h) (Or.inl ⟨by rfl, ?_⟩) ?_ ?_
                    rotate_left
                    · intro w'
                      go_simp
                      with_reducible rfl
                    rotate_left
                    · simp only [Act.put, List.setIfInBounds_toArray, List.set_cons_zero, List.set_cons_succ, i64_w, i32_w]
                      rfl
                    refine take_ (i := 0) (N := some 140) (v := ?_) (a' := ?_) #[true, true, true, true, false, true, true, true, false, false, false, false, false, false, false, false] rfl rfl (take_ofW HT_.out HW_.out (by kernel_rfl)) (fun _ _ _ h => h) (Or.inl ⟨by rfl, ?_⟩) hHeld ?_ ?_
                    rotate_left
                    · rintro w' ⟨s0, s1, s2, s3⟩
                      go_simp
                      with_reducible rfl
                    rotate_left
                    · simp only [Act.put, List.setIfInBounds_toArray, List.set_cons_zero, List.set_cons_succ, i64_w, i32_w]
                      rfl
                    refine take_ (i := 4) (N := some 144) (v := ?_) (a' := ?_) #[true, true, true, true, true, true, true, true, false, false, false, false, false, false, false, false] rfl rfl (take_ofW HT_.out HW_.out (by kernel_rfl)) (fun _ _ _ h => h) (Or.inl ⟨by rfl, ?_⟩) hHeld ?_ ?_
                    rotate_left
                    · rintro w' ⟨s0, s1, s2, s3⟩
                      go_simp
                      with_reducible rfl
                    rotate_left
                    · simp only [Act.put, List.setIfInBounds_toArray, List.set_cons_zero, List.set_cons_succ, i64_w, i32_w]
                      rfl
                    refine take_ (i := 8) (N := some 148) (v := ?_) (a' := ?_) #[true, true, true, true, true, true, true, true, true, false, false, false, false, false, false, false] rfl rfl (take_ofW HT_.out HW_.out (by kernel_rfl)) (fun _ _ _ h => h) (Or.inl ⟨by rfl, ?_⟩) hHeld ?_ ?_
                    rotate_left
                    · rintro w' ⟨s0, s1, s2, s3⟩
                      go_simp
                      with_reducible rfl
                    rotate_left
                    · simp only [Act.put, List.setIfInBounds_toArray, List.set_cons_zero, List.set_cons_succ, i64_w, i32_w]
                      rfl
                    refine join_ (σ := Value × Nat) 2 #[true, true, true, true, true, true, true, true, true, true, true, true, true, true, false, false] (fun s_ => [(149, .tuple #[.agg #[.int .i64 t215, s_.1], .int .i64 t219]), (24, .pointer (some ⟨s_.2, 0, none⟩)), (139, .tuple #[.agg #[.int .i64 t215, s_.1], .int .i64 t219]), (150, .agg #[.int .i64 t215, s_.1]), (151, .int .i64 t219)]) (fun s_ w' => (w'.cell? ⟨gb163, 0, none⟩ = some (.int .i64 x164000_3) ∧ w'.cell? ⟨gb163, 1, none⟩ = some (.slice Ao111 x164001_3.length co111) ∧ w'.cell? ad213 = some (.int .i64 (rd x9_3 0)) ∧ w'.cell? ad214 = some (.int .i64 (rd x10_3 0))) ∧ (Kd.R (Kd.int .u64) 42 w' w.heap.size (fun k_ => some k_ ≠ (.slice Ao111 x164001_3.length co111 : Value).ownBlock) s_.1 t216) ∧ (Kd.R (Kd.int .i64) 3 w' w.heap.size (fun k_ => some k_ ≠ (.slice (some ad213) x9_3.length co110 : Value).ownBlock) (.slice (some ad214) x10_3.length co113) x10_3) ∧ (Kd.R (Kd.int .u64) 42 w' w.heap.size (fun k_ => some k_ ≠ (s_.1 : Value).ownBlock) (.slice Ao111 x164001_3.length co111) x164001_3) ∧ (Kd.R (Kd.int .i64) 3 w' w.heap.size (fun k_ => some k_ ≠ (.slice (some ad214) x10_3.length co113 : Value).ownBlock) (.slice (some ad213) x9_3.length co110) x9_3) ∧ (w'.heap[gb163]? = some (.cells #[.int .i64 x164000_3, .slice Ao111 x164001_3.length co111] 44 (0, 0))) ∧ (w'.heap[s_.2]? = some (.cells #[.int .i64 0, .slice none 0 0] 44 (0, 0))) ∧ (w.heap.size ≤ s_.2) ∧ (w.heap.size ≤ s_.2) ∧ (gb163 ≠ s_.2) ∧ (s_.2 ≠ gb163) ∧ (Below w.heap.size w w')) ?_ ?_
                    rotate_left
                    · intro hCont
                      refine two_ (i := 9) (j := 13) (Ni := some 149) (Nj := some 24) #[true, true, true, true, true, true, true, true, true, true, false, false, false, false, false, false] #[true, true, true, true, true, true, true, true, true, false, false, false, false, true, false, false] rfl rfl rfl rfl (two_of HT_.out (by kernel_rfl)) (by decide) (by decide) (fun K hK => ?_) (fun K hK => ?_)
                      · skip
                        refine goes_ Tryd.func28 (by kernel_rfl) rfl #[.agg #[.int .i64 x164000_3, .slice Ao111 x164001_3.length co111], .int .i64 (rd x9_3 0), .int .i64 (rd x10_3 0)] (by rfl) rfl rfl (by (try simp only [List.map_toArray, List.map_cons, List.map_nil]); first | done | rfl | (simp only [List.length_drop, List.length_take]; rfl)) ?_
                        with_reducible refine (pages_Give.calls k3 x164000_3 _ _ x164001_3 (rd x9_3 0) (rd x10_3 0) t215 t216 t219 _ ?side1 ?side2 ?side3 A106.out).mono ?_
                        (case side1 => repeat (first | exact (Kd.R_reads' HO_164001.out).2.2 | (with_reducible refine Kd.C_alloc ?_ _) | (with_reducible refine Kd.C_drewN ?_ _) | (with_reducible refine Kd.C_drew ?_)))
                        (case side2 => exact (Kd.R_reads' HO_164001.out).2.1)
                        (case side3 => repeat (first | exact HT.out | exact TzOk.below HT.out (by repeat (first | (with_reducible first | exact HB.out | apply below_alloc | apply pw_below_drewN | apply below_drew1 | refine below_set ?_ GE163.out) | exact HB.out)) | (with_reducible refine TzOk.alloc ?_ _) | (with_reducible refine TzOk.drewN ?_ _) | (with_reducible refine TzOk.drew ?_)))
                        rintro e w114 ⟨v217, rfl, ho0, hb⟩
                        have HS2_ := (hb.cell (World.block_lt_of_cell? _ _ (hHeld.2.2.1))).trans (hHeld.2.2.1)
                        have HS3_ := (hb.cell (World.block_lt_of_cell? _ _ (hHeld.2.2.2))).trans (hHeld.2.2.2)
                        refine ⟨_, rfl, ?_⟩
                        have n0_ := Aside0.mk (Kd.R_below (by (with_reducible repeat (first | apply Kd.R_alloc | apply Kd.R_drewN | apply Kd.R_drew)); exact HO_9.out) hb)
                        have n1_ := Aside0.mk (Kd.R_below (by (with_reducible repeat (first | apply Kd.R_alloc | apply Kd.R_drewN | apply Kd.R_drew)); exact HO_10.out) hb)
                        have n2_ := Aside0.mk (Kd.R_elder' (by (with_reducible repeat (first | apply Kd.R_alloc | apply Kd.R_drewN | apply Kd.R_drew)); exact HO_164001.out) (Kd.R_base ho0) hb)
                        have n3_ := Aside0.mk (Kd.R_lower (Kd.R_new' ho0 (Kd.R_lt (by (with_reducible repeat (first | apply Kd.R_alloc | apply Kd.R_drewN | apply Kd.R_drew)); exact HO_164001.out))) (below_size (by repeat (first | (with_reducible first | exact HB.out | apply below_alloc | apply pw_below_drewN | apply below_drew1 | refine below_set ?_ GE163.out) | exact HB.out))))
                        have n4_ := Aside0.mk (blk_below (g := gb163) (o := .cells #[.int .i64 x164000_3, .slice Ao111 x164001_3.length co111] 44 (0, 0)) (by (with_reducible repeat (first | refine blk_drewN ?_ _ | refine blk_drew ?_ | refine blk_alloc ?_ _)); exact BK163.out) hb)
                        have n5_ := Aside0.mk (below_step (by repeat (first | (with_reducible first | exact HB.out | apply below_alloc | apply pw_below_drewN | apply below_drew1 | refine below_set ?_ GE163.out) | exact HB.out)) hb)
                        clear HO_9
                        clear HO_10
                        clear HO_164001
                        clear BK163
                        clear HB
                        have HO_9 := n0_
                        have HO_10 := n1_
                        have HO_164001 := n2_
                        have HO218 := n3_
                        have BK163 := n4_
                        have HB := n5_
                        clear n0_ n1_ n2_ n3_ n4_ n5_
                        (try clear hb)
                        (try clear hb2)
                        (try clear hk)
                        (try clear hi)
                        (try clear ho0)
                        refine hK.out _ _ ⟨(blk_cell BK163.out 0).trans rfl, (blk_cell BK163.out 1).trans rfl, HS2_, HS3_⟩ (fun hHeld => ?_)
                        clear hK K
                        refine norm_ (a' := ?_) ?_ ?_
                        rotate_left
                        · show Act.put _ (some 149) _ = _
                          simp only [Act.put, List.setIfInBounds_toArray, List.set_cons_zero, List.set_cons_succ, i64_w, i32_w]
                          rfl
                        refine pure_ (i := 10) (N := some 139) (v := ?_) (a' := ?_) #[true, true, true, true, true, true, true, true, true, true, true, false, false, false, false, false] rfl rfl (any_of HT_.out (by kernel_rfl)) (fun _ _ _ h => h) (Or.inl ⟨by rfl, ?_⟩) ?_ ?_
                        rotate_left
                        · intro w'
                          go_simp
                          with_reducible rfl
                        rotate_left
                        · simp only [Act.put, List.setIfInBounds_toArray, List.set_cons_zero, List.set_cons_succ, i64_w, i32_w]
                          rfl
                        refine pure_ (i := 11) (N := some 150) (v := ?_) (a' := ?_) #[true, true, true, true, true, true, true, true, true, true, true, true, false, false, false, false] rfl rfl (any_of HT_.out (by kernel_rfl)) (fun _ _ _ h => h) (Or.inl ⟨by rfl, ?_⟩) ?_ ?_
                        rotate_left
                        · intro w'
                          go_simp
                          with_reducible rfl
                        rotate_left
                        · simp only [Act.put, List.setIfInBounds_toArray, List.set_cons_zero, List.set_cons_succ, i64_w, i32_w]
                          rfl
                        refine pure_ (i := 12) (N := some 151) (v := ?_) (a' := ?_) #[true, true, true, true, true, true, true, true, true, true, true, true, true, false, false, false] rfl rfl (any_of HT_.out (by kernel_rfl)) (fun _ _ _ h => h) (Or.inl ⟨by rfl, ?_⟩) ?_ ?_
                        rotate_left
                        · intro w'
                          go_simp
                          with_reducible rfl
                        rotate_left
                        · simp only [Act.put, List.setIfInBounds_toArray, List.set_cons_zero, List.set_cons_succ, i64_w, i32_w]
                          rfl
                        refine one_ (i := 13) (N := some 24) #[true, true, true, true, true, true, true, true, true, true, true, true, true, true, false, false] rfl rfl (one_of HT_.out (by kernel_rfl)) (by decide) (fun K hK => ?_)
                        refine box_step ?hg (N := 24) ?hd (cs := #[.int .i64 0, .slice none 0 0]) (t := 44) ?hr ?_; (case hd => rfl); (case hg => rfl); (case hr => first | (go_simp; done) | (go_simp; rfl))
                        intro gb220 hg w115 hbox hb
                        have HS2_ := (hb.cell (World.block_lt_of_cell? _ _ (hHeld.2.2.1))).trans (hHeld.2.2.1)
                        have HS3_ := (hb.cell (World.block_lt_of_cell? _ _ (hHeld.2.2.2))).trans (hHeld.2.2.2)
                        have n0_ := Aside0.mk (Kd.R_below (by (with_reducible repeat (first | apply Kd.R_alloc | apply Kd.R_drewN | apply Kd.R_drew)); exact HO_9.out) hb)
                        have n1_ := Aside0.mk (Kd.R_below (by (with_reducible repeat (first | apply Kd.R_alloc | apply Kd.R_drewN | apply Kd.R_drew)); exact HO_10.out) hb)
                        have n2_ := Aside0.mk (Kd.R_below (by (with_reducible repeat (first | apply Kd.R_alloc | apply Kd.R_drewN | apply Kd.R_drew)); exact HO_164001.out) hb)
                        have n3_ := Aside0.mk (Kd.R_below (by (with_reducible repeat (first | apply Kd.R_alloc | apply Kd.R_drewN | apply Kd.R_drew)); exact HO218.out) hb)
                        have n4_ := Aside0.mk (blk_below (g := gb163) (o := .cells #[.int .i64 x164000_3, .slice Ao111 x164001_3.length co111] 44 (0, 0)) (by (with_reducible repeat (first | refine blk_drewN ?_ _ | refine blk_drew ?_ | refine blk_alloc ?_ _)); exact BK163.out) hb)
                        have n5_ := Aside0.mk (below_step (by repeat (first | (with_reducible first | exact HB.out | apply below_alloc | apply pw_below_drewN | apply below_drew1 | refine below_set ?_ GE163.out) | exact HB.out)) hb)
                        have n6_ := Aside0.mk (hbox)
                        have n7_ := Aside0.mk ((by rw [hg]; exact (below_size (by repeat (first | (with_reducible first | exact HB.out | apply below_alloc | apply pw_below_drewN | apply below_drew1 | refine below_set ?_ GE163.out) | exact HB.out))) : w.heap.size ≤ gb220))
                        have n8_ := Aside0.mk ((by rw [hg]; exact (below_size (by repeat (first | (with_reducible first | exact HB.out | apply below_alloc | apply pw_below_drewN | apply below_drew1 | refine below_set ?_ GE163.out) | exact HB.out))) : w.heap.size ≤ gb220))
                        have n9_ := Aside0.mk ((by rw [hg]; exact Nat.ne_of_lt (blk_lt (g := gb163) (o := .cells #[.int .i64 x164000_3, .slice Ao111 x164001_3.length co111] 44 (0, 0)) (by (with_reducible repeat (first | refine blk_drewN ?_ _ | refine blk_drew ?_ | refine blk_alloc ?_ _)); exact BK163.out)) : gb163 ≠ gb220))
                        have n10_ := Aside0.mk ((by rw [hg]; exact Nat.ne_of_gt (blk_lt (g := gb163) (o := .cells #[.int .i64 x164000_3, .slice Ao111 x164001_3.length co111] 44 (0, 0)) (by (with_reducible repeat (first | refine blk_drewN ?_ _ | refine blk_drew ?_ | refine blk_alloc ?_ _)); exact BK163.out)) : gb220 ≠ gb163))
                        clear HO_9
                        clear HO_10
                        clear HO_164001
                        clear HO218
                        clear BK163
                        clear HB
                        have HO_9 := n0_
                        have HO_10 := n1_
                        have HO_164001 := n2_
                        have HO218 := n3_
                        have BK163 := n4_
                        have HB := n5_
                        have BK220 := n6_
                        have GW220 := n7_
                        have GE220 := n8_
                        have NB163_220 := n9_
                        have NB220_163 := n10_
                        clear n0_ n1_ n2_ n3_ n4_ n5_ n6_ n7_ n8_ n9_ n10_
                        clear hb hbox hg
                        refine hK.out _ _ ⟨(blk_cell BK163.out 0).trans rfl, (blk_cell BK163.out 1).trans rfl, HS2_, HS3_⟩ (fun hHeld => ?_)
                        clear hK K
                        refine norm_ (a' := ?_) ?_ ?_
                        rotate_left
                        · show Act.put _ (some 24) _ = _
                          simp only [Act.put, List.setIfInBounds_toArray, List.set_cons_zero, List.set_cons_succ, i64_w, i32_w]
                          rfl
                        exact norm_ (by simp only [putAll, Act.put, List.setIfInBounds_toArray, List.set_cons_zero, List.set_cons_succ]) (hCont (v217, gb220) _ ⟨hHeld, (by (with_reducible repeat (first | apply Kd.R_alloc | apply Kd.R_drewN | apply Kd.R_drew)); exact Kd.R_mono HO218.out (fun _ hk => hk.2)), (by (with_reducible repeat (first | apply Kd.R_alloc | apply Kd.R_drewN | apply Kd.R_drew)); exact HO_10.out), (by (with_reducible repeat (first | apply Kd.R_alloc | apply Kd.R_drewN | apply Kd.R_drew)); exact Kd.R_mono HO_164001.out (fun _ hk => hk.2)), (by (with_reducible repeat (first | apply Kd.R_alloc | apply Kd.R_drewN | apply Kd.R_drew)); exact HO_9.out), (by (with_reducible repeat (first | refine blk_drewN ?_ _ | refine blk_drew ?_ | refine blk_alloc ?_ _)); exact BK163.out), (by (with_reducible repeat (first | refine blk_drewN ?_ _ | refine blk_drew ?_ | refine blk_alloc ?_ _)); exact BK220.out), GW220.out, GE220.out, NB163_220.out, NB220_163.out, (by repeat (first | (with_reducible first | exact HB.out | apply below_alloc | apply pw_below_drewN | apply below_drew1 | refine below_set ?_ GE163.out | refine below_set ?_ GE220.out) | exact HB.out))⟩)
                      · skip
                        refine box_step ?hg (N := 24) ?hd (cs := #[.int .i64 0, .slice none 0 0]) (t := 44) ?hr ?_; (case hd => rfl); (case hg => rfl); (case hr => first | (go_simp; done) | (go_simp; rfl))
                        intro gb220 hg w114 hbox hb
                        have HS2_ := (hb.cell (World.block_lt_of_cell? _ _ (hHeld.2.2.1))).trans (hHeld.2.2.1)
                        have HS3_ := (hb.cell (World.block_lt_of_cell? _ _ (hHeld.2.2.2))).trans (hHeld.2.2.2)
                        have n0_ := Aside0.mk (Kd.R_below (by (with_reducible repeat (first | apply Kd.R_alloc | apply Kd.R_drewN | apply Kd.R_drew)); exact HO_9.out) hb)
                        have n1_ := Aside0.mk (Kd.R_below (by (with_reducible repeat (first | apply Kd.R_alloc | apply Kd.R_drewN | apply Kd.R_drew)); exact HO_10.out) hb)
                        have n2_ := Aside0.mk (Kd.R_below (by (with_reducible repeat (first | apply Kd.R_alloc | apply Kd.R_drewN | apply Kd.R_drew)); exact HO_164001.out) hb)
                        have n3_ := Aside0.mk (blk_below (g := gb163) (o := .cells #[.int .i64 x164000_3, .slice Ao111 x164001_3.length co111] 44 (0, 0)) (by (with_reducible repeat (first | refine blk_drewN ?_ _ | refine blk_drew ?_ | refine blk_alloc ?_ _)); exact BK163.out) hb)
                        have n4_ := Aside0.mk (below_step (by repeat (first | (with_reducible first | exact HB.out | apply below_alloc | apply pw_below_drewN | apply below_drew1 | refine below_set ?_ GE163.out) | exact HB.out)) hb)
                        have n5_ := Aside0.mk (hbox)
                        have n6_ := Aside0.mk ((by rw [hg]; exact (below_size (by repeat (first | (with_reducible first | exact HB.out | apply below_alloc | apply pw_below_drewN | apply below_drew1 | refine below_set ?_ GE163.out) | exact HB.out))) : w.heap.size ≤ gb220))
                        have n7_ := Aside0.mk ((by rw [hg]; exact (below_size (by repeat (first | (with_reducible first | exact HB.out | apply below_alloc | apply pw_below_drewN | apply below_drew1 | refine below_set ?_ GE163.out) | exact HB.out))) : w.heap.size ≤ gb220))
                        have n8_ := Aside0.mk ((by rw [hg]; exact Nat.ne_of_lt (blk_lt (g := gb163) (o := .cells #[.int .i64 x164000_3, .slice Ao111 x164001_3.length co111] 44 (0, 0)) (by (with_reducible repeat (first | refine blk_drewN ?_ _ | refine blk_drew ?_ | refine blk_alloc ?_ _)); exact BK163.out)) : gb163 ≠ gb220))
                        have n9_ := Aside0.mk ((by rw [hg]; exact Nat.ne_of_gt (blk_lt (g := gb163) (o := .cells #[.int .i64 x164000_3, .slice Ao111 x164001_3.length co111] 44 (0, 0)) (by (with_reducible repeat (first | refine blk_drewN ?_ _ | refine blk_drew ?_ | refine blk_alloc ?_ _)); exact BK163.out)) : gb220 ≠ gb163))
                        clear HO_9
                        clear HO_10
                        clear HO_164001
                        clear BK163
                        clear HB
                        have HO_9 := n0_
                        have HO_10 := n1_
                        have HO_164001 := n2_
                        have BK163 := n3_
                        have HB := n4_
                        have BK220 := n5_
                        have GW220 := n6_
                        have GE220 := n7_
                        have NB163_220 := n8_
                        have NB220_163 := n9_
                        clear n0_ n1_ n2_ n3_ n4_ n5_ n6_ n7_ n8_ n9_
                        clear hb hbox hg
                        refine hK.out _ _ ⟨(blk_cell BK163.out 0).trans rfl, (blk_cell BK163.out 1).trans rfl, HS2_, HS3_⟩ (fun hHeld => ?_)
                        clear hK K
                        refine norm_ (a' := ?_) ?_ ?_
                        rotate_left
                        · show Act.put _ (some 24) _ = _
                          simp only [Act.put, List.setIfInBounds_toArray, List.set_cons_zero, List.set_cons_succ, i64_w, i32_w]
                          rfl
                        refine one_ (i := 9) (N := some 149) #[true, true, true, true, true, true, true, true, true, true, false, false, false, true, false, false] rfl rfl (one_of HT_.out (by kernel_rfl)) (by decide) (fun K hK => ?_)
                        refine goes_ Tryd.func28 (by kernel_rfl) rfl #[.agg #[.int .i64 x164000_3, .slice Ao111 x164001_3.length co111], .int .i64 (rd x9_3 0), .int .i64 (rd x10_3 0)] (by rfl) rfl rfl (by (try simp only [List.map_toArray, List.map_cons, List.map_nil]); first | done | rfl | (simp only [List.length_drop, List.length_take]; rfl)) ?_
                        with_reducible refine (pages_Give.calls k3 x164000_3 _ _ x164001_3 (rd x9_3 0) (rd x10_3 0) t215 t216 t219 _ ?side1 ?side2 ?side3 A106.out).mono ?_
                        (case side1 => repeat (first | exact (Kd.R_reads' HO_164001.out).2.2 | (with_reducible refine Kd.C_alloc ?_ _) | (with_reducible refine Kd.C_drewN ?_ _) | (with_reducible refine Kd.C_drew ?_)))
                        (case side2 => exact (Kd.R_reads' HO_164001.out).2.1)
                        (case side3 => repeat (first | exact HT.out | exact TzOk.below HT.out (by repeat (first | (with_reducible first | exact HB.out | apply below_alloc | apply pw_below_drewN | apply below_drew1 | refine below_set ?_ GE163.out | refine below_set ?_ GE220.out) | exact HB.out)) | (with_reducible refine TzOk.alloc ?_ _) | (with_reducible refine TzOk.drewN ?_ _) | (with_reducible refine TzOk.drew ?_)))
                        rintro e w115 ⟨v217, rfl, ho0, hb⟩
                        have HS2_ := (hb.cell (World.block_lt_of_cell? _ _ (hHeld.2.2.1))).trans (hHeld.2.2.1)
                        have HS3_ := (hb.cell (World.block_lt_of_cell? _ _ (hHeld.2.2.2))).trans (hHeld.2.2.2)
                        refine ⟨_, rfl, ?_⟩
                        have n0_ := Aside0.mk (Kd.R_below (by (with_reducible repeat (first | apply Kd.R_alloc | apply Kd.R_drewN | apply Kd.R_drew)); exact HO_9.out) hb)
                        have n1_ := Aside0.mk (Kd.R_below (by (with_reducible repeat (first | apply Kd.R_alloc | apply Kd.R_drewN | apply Kd.R_drew)); exact HO_10.out) hb)
                        have n2_ := Aside0.mk (Kd.R_elder' (by (with_reducible repeat (first | apply Kd.R_alloc | apply Kd.R_drewN | apply Kd.R_drew)); exact HO_164001.out) (Kd.R_base ho0) hb)
                        have n3_ := Aside0.mk (Kd.R_lower (Kd.R_new' ho0 (Kd.R_lt (by (with_reducible repeat (first | apply Kd.R_alloc | apply Kd.R_drewN | apply Kd.R_drew)); exact HO_164001.out))) (below_size (by repeat (first | (with_reducible first | exact HB.out | apply below_alloc | apply pw_below_drewN | apply below_drew1 | refine below_set ?_ GE163.out | refine below_set ?_ GE220.out) | exact HB.out))))
                        have n4_ := Aside0.mk (blk_below (g := gb163) (o := .cells #[.int .i64 x164000_3, .slice Ao111 x164001_3.length co111] 44 (0, 0)) (by (with_reducible repeat (first | refine blk_drewN ?_ _ | refine blk_drew ?_ | refine blk_alloc ?_ _)); exact BK163.out) hb)
                        have n5_ := Aside0.mk (blk_below (g := gb220) (o := .cells #[.int .i64 0, .slice none 0 0] 44 (0, 0)) (by (with_reducible repeat (first | refine blk_drewN ?_ _ | refine blk_drew ?_ | refine blk_alloc ?_ _)); exact BK220.out) hb)
                        have n6_ := Aside0.mk (below_step (by repeat (first | (with_reducible first | exact HB.out | apply below_alloc | apply pw_below_drewN | apply below_drew1 | refine below_set ?_ GE163.out | refine below_set ?_ GE220.out) | exact HB.out)) hb)
                        clear HO_9
                        clear HO_10
                        clear HO_164001
                        clear BK163
                        clear BK220
                        clear HB
                        have HO_9 := n0_
                        have HO_10 := n1_
                        have HO_164001 := n2_
                        have HO218 := n3_
                        have BK163 := n4_
                        have BK220 := n5_
                        have HB := n6_
                        clear n0_ n1_ n2_ n3_ n4_ n5_ n6_
                        (try clear hb)
                        (try clear hb2)
                        (try clear hk)
                        (try clear hi)
                        (try clear ho0)
                        refine hK.out _ _ ⟨(blk_cell BK163.out 0).trans rfl, (blk_cell BK163.out 1).trans rfl, HS2_, HS3_⟩ (fun hHeld => ?_)
                        clear hK K
                        refine norm_ (a' := ?_) ?_ ?_
                        rotate_left
                        · show Act.put _ (some 149) _ = _
                          simp only [Act.put, List.setIfInBounds_toArray, List.set_cons_zero, List.set_cons_succ, i64_w, i32_w]
                          rfl
                        refine pure_ (i := 10) (N := some 139) (v := ?_) (a' := ?_) #[true, true, true, true, true, true, true, true, true, true, true, false, false, true, false, false] rfl rfl (any_of HT_.out (by kernel_rfl)) (fun _ _ _ h => h) (Or.inl ⟨by rfl, ?_⟩) ?_ ?_
                        rotate_left
                        · intro w'
                          go_simp
                          with_reducible rfl
                        rotate_left
                        · simp only [Act.put, List.setIfInBounds_toArray, List.set_cons_zero, List.set_cons_succ, i64_w, i32_w]
                          rfl
                        refine pure_ (i := 11) (N := some 150) (v := ?_) (a' := ?_) #[true, true, true, true, true, true, true, true, true, true, true, true, false, true, false, false] rfl rfl (any_of HT_.out (by kernel_rfl)) (fun _ _ _ h => h) (Or.inl ⟨by rfl, ?_⟩) ?_ ?_
                        rotate_left
                        · intro w'
                          go_simp
                          with_reducible rfl
                        rotate_left
                        · simp only [Act.put, List.setIfInBounds_toArray, List.set_cons_zero, List.set_cons_succ, i64_w, i32_w]
                          rfl
                        refine pure_ (i := 12) (N := some 151) (v := ?_) (a' := ?_) #[true, true, true, true, true, true, true, true, true, true, true, true, true, true, false, false] rfl rfl (any_of HT_.out (by kernel_rfl)) (fun _ _ _ h => h) (Or.inl ⟨by rfl, ?_⟩) ?_ ?_
                        rotate_left
                        · intro w'
                          go_simp
                          with_reducible rfl
                        rotate_left
                        · simp only [Act.put, List.setIfInBounds_toArray, List.set_cons_zero, List.set_cons_succ, i64_w, i32_w]
                          rfl
                        exact norm_ (by simp only [putAll, Act.put, List.setIfInBounds_toArray, List.set_cons_zero, List.set_cons_succ]) (hCont (v217, gb220) _ ⟨hHeld, (by (with_reducible repeat (first | apply Kd.R_alloc | apply Kd.R_drewN | apply Kd.R_drew)); exact Kd.R_mono HO218.out (fun _ hk => hk.2)), (by (with_reducible repeat (first | apply Kd.R_alloc | apply Kd.R_drewN | apply Kd.R_drew)); exact HO_10.out), (by (with_reducible repeat (first | apply Kd.R_alloc | apply Kd.R_drewN | apply Kd.R_drew)); exact Kd.R_mono HO_164001.out (fun _ hk => hk.2)), (by (with_reducible repeat (first | apply Kd.R_alloc | apply Kd.R_drewN | apply Kd.R_drew)); exact HO_9.out), (by (with_reducible repeat (first | refine blk_drewN ?_ _ | refine blk_drew ?_ | refine blk_alloc ?_ _)); exact BK163.out), (by (with_reducible repeat (first | refine blk_drewN ?_ _ | refine blk_drew ?_ | refine blk_alloc ?_ _)); exact BK220.out), GW220.out, GE220.out, NB163_220.out, NB220_163.out, (by repeat (first | (with_reducible first | exact HB.out | apply below_alloc | apply pw_below_drewN | apply below_drew1 | refine below_set ?_ GE163.out | refine below_set ?_ GE220.out) | exact HB.out))⟩)
                    rintro ⟨v217, gb220⟩ w116 ⟨hS_, h0_, h1_, h2_, h3_, h4_, h5_, h6_, h7_, h8_, h9_, h10_⟩
                    have n0_ : Aside0 (Kd.R (Kd.int .u64) 42 w116 w.heap.size (fun k_ => some k_ ≠ (.slice Ao111 x164001_3.length co111 : Value).ownBlock) v217 t216) := ⟨h0_⟩
                    have n1_ : Aside0 (Kd.R (Kd.int .i64) 3 w116 w.heap.size (fun k_ => some k_ ≠ (.slice (some ad213) x9_3.length co110 : Value).ownBlock) (.slice (some ad214) x10_3.length co113) x10_3) := ⟨h1_⟩
                    have n2_ : Aside0 (Kd.R (Kd.int .u64) 42 w116 w.heap.size (fun k_ => some k_ ≠ (v217 : Value).ownBlock) (.slice Ao111 x164001_3.length co111) x164001_3) := ⟨h2_⟩
                    have n3_ : Aside0 (Kd.R (Kd.int .i64) 3 w116 w.heap.size (fun k_ => some k_ ≠ (.slice (some ad214) x10_3.length co113 : Value).ownBlock) (.slice (some ad213) x9_3.length co110) x9_3) := ⟨h3_⟩
                    have n4_ : Aside0 (w116.heap[gb163]? = some (.cells #[.int .i64 x164000_3, .slice Ao111 x164001_3.length co111] 44 (0, 0))) := ⟨h4_⟩
                    have n5_ : Aside0 (w116.heap[gb220]? = some (.cells #[.int .i64 0, .slice none 0 0] 44 (0, 0))) := ⟨h5_⟩
                    have n6_ : Aside0 (w.heap.size ≤ gb220) := ⟨h6_⟩
                    have n7_ : Aside0 (w.heap.size ≤ gb220) := ⟨h7_⟩
                    have n8_ : Aside0 (gb163 ≠ gb220) := ⟨h8_⟩
                    have n9_ : Aside0 (gb220 ≠ gb163) := ⟨h9_⟩
                    have n10_ : Aside0 (Below w.heap.size w w116) := ⟨h10_⟩
                    clear HO_9
                    clear HO_10
                    clear HO_164001
                    clear BK163
                    clear HB
                    clear h0_ h1_ h2_ h3_ h4_ h5_ h6_ h7_ h8_ h9_ h10_
                    have HO218 := n0_
                    have HO_10 := n1_
                    have HO_164001 := n2_
                    have HO_9 := n3_
                    have BK163 := n4_
                    have BK220 := n5_
                    have GW220 := n6_
                    have GE220 := n7_
                    have NB163_220 := n8_
                    have NB220_163 := n9_
                    have HB := n10_
                    clear n0_ n1_ n2_ n3_ n4_ n5_ n6_ n7_ n8_ n9_ n10_
                    have hHeld : w116.cell? ⟨gb163, 0, none⟩ = some (.int .i64 x164000_3) ∧ w116.cell? ⟨gb163, 1, none⟩ = some (.slice Ao111 x164001_3.length co111) ∧ w116.cell? ad213 = some (.int .i64 (rd x9_3 0)) ∧ w116.cell? ad214 = some (.int .i64 (rd x10_3 0)) := hS_
                    obtain ⟨Ao118, co118, eo118⟩ := Kd.R_slice HO218.out
                    (first | subst eo118 | (injection eo118 with f1_ f2_ f3_; have f4_ := f1_.symm; have f5_ := f3_.symm; clear f1_ f2_ f3_; subst f4_; subst f5_))
                    refine norm_ (a' := ?_) ?_ ?_
                    rotate_left
                    · simp only [putAll, Act.put, List.setIfInBounds_toArray, List.set_cons_zero, List.set_cons_succ]
                      rfl
                    refine one_ (i := 14) (N := none) #[true, true, true, true, true, true, true, true, true, true, true, true, true, true, true, false] rfl rfl (one_of HT_.out (by kernel_rfl)) (by decide) (fun K hK => ?_)
                    have hs117 : w116.cell? ⟨gb220, 0, none⟩ = some (.int .i64 0) := (blk_cell BK220.out 0).trans rfl
                    have hfs117 := blk_frozen BK220.out 0
                    have hns117_0 := NB163_220.out
                    have hms117_0 := NB220_163.out
                    have hs119 : w116.cell? ⟨gb220, 1, none⟩ = some (.slice none 0 0) := (blk_cell BK220.out 1).trans rfl
                    have hfs119 := blk_frozen BK220.out 1
                    have hns119_0 := NB163_220.out
                    have hms119_0 := NB220_163.out
                    refine skip_ (w1 := ?_) (by rfl) rfl ?_ ?_
                    rotate_left
                    · go_simp
                      rfl
                    refine hK.out _ _ ⟨((cell_far (p := ⟨gb220, _, none⟩) NB163_220.out _).trans (((cell_far (p := ⟨gb220, _, none⟩) NB163_220.out _).trans (hHeld.1)))), ((cell_far (p := ⟨gb220, _, none⟩) NB163_220.out _).trans (((cell_far (p := ⟨gb220, _, none⟩) NB163_220.out _).trans (hHeld.2.1)))), ((cell_far (p := ⟨gb220, _, none⟩) (by first | exact Kd.own_blk (Kd.R_ne HO_9.out BK220.out (by decide)) | (rw [add_block]; exact Kd.own_blk (Kd.R_ne HO_9.out BK220.out (by decide))) | (show (Addr.add _ _).block ≠ _; rw [add_block]; exact Kd.own_blk (Kd.R_ne HO_9.out BK220.out (by decide))) | (dsimp only; exact Kd.own_blk (Kd.R_ne HO_9.out BK220.out (by decide)))) _).trans (((cell_far (p := ⟨gb220, _, none⟩) (by first | exact Kd.own_blk (Kd.R_ne HO_9.out BK220.out (by decide)) | (rw [add_block]; exact Kd.own_blk (Kd.R_ne HO_9.out BK220.out (by decide))) | (show (Addr.add _ _).block ≠ _; rw [add_block]; exact Kd.own_blk (Kd.R_ne HO_9.out BK220.out (by decide))) | (dsimp only; exact Kd.own_blk (Kd.R_ne HO_9.out BK220.out (by decide)))) _).trans (hHeld.2.2.1)))), ((cell_far (p := ⟨gb220, _, none⟩) (by first | exact Kd.own_blk (Kd.R_ne HO_10.out BK220.out (by decide)) | (rw [add_block]; exact Kd.own_blk (Kd.R_ne HO_10.out BK220.out (by decide))) | (show (Addr.add _ _).block ≠ _; rw [add_block]; exact Kd.own_blk (Kd.R_ne HO_10.out BK220.out (by decide))) | (dsimp only; exact Kd.own_blk (Kd.R_ne HO_10.out BK220.out (by decide)))) _).trans (((cell_far (p := ⟨gb220, _, none⟩) (by first | exact Kd.own_blk (Kd.R_ne HO_10.out BK220.out (by decide)) | (rw [add_block]; exact Kd.own_blk (Kd.R_ne HO_10.out BK220.out (by decide))) | (show (Addr.add _ _).block ≠ _; rw [add_block]; exact Kd.own_blk (Kd.R_ne HO_10.out BK220.out (by decide))) | (dsimp only; exact Kd.own_blk (Kd.R_ne HO_10.out BK220.out (by decide)))) _).trans (hHeld.2.2.2))))⟩ (fun hHeld => ?_)
                    clear hK K
                    refine pure_ (i := 15) (N := some 25) (v := ?_) (a' := ?_) #[true, true, true, true, true, true, true, true, true, true, true, true, true, true, true, true] rfl rfl (any_of HT_.out (by kernel_rfl)) (fun _ _ _ h => h) (Or.inl ⟨by rfl, ?_⟩) ?_ ?_
                    rotate_left
                    · intro w'
                      go_simp
                      with_reducible rfl
                    rotate_left
                    · simp only [Act.put, List.setIfInBounds_toArray, List.set_cons_zero, List.set_cons_succ, i64_w, i32_w]
                      rfl
                    refine done_ (done_of HT_.out (by kernel_rfl)) ?_
                    have hnb120 := NB220_163.out
                    have hnc120 := NB163_220.out
                    have hcz121_0 : w116.cell? ⟨gb220, 0, none⟩ = some (.int .i64 0) := (blk_cell BK220.out 0).trans rfl
                    have hcz121_1 : w116.cell? ⟨gb220, 1, none⟩ = some (.slice none 0 0) := (blk_cell BK220.out 1).trans rfl
                    have hfz121_0 := blk_frozen BK220.out 0
                    have hfz121_1 := blk_frozen BK220.out 1
                    try go_wp2_with fail
                    have hk0_ : (0 : Int) ≤ (0 : Int) := by omega
                    have hk1_ : (0 : Int) < (x9_3.length : Int) := (of_decide_eq_true (by first | (with_reducible assumption) | assumption))
                    have hk2_ : (0 : Int) < (x10_3.length : Int) := (of_decide_eq_true (by first | (with_reducible assumption) | assumption))
                    have hL9_ : x9_3.length + 1 < 17592186044416 := by have h_ := LMc108.out; rw [Ny221.out] at h_; simpa using h_
                    have hL10_ : x10_3.length + 1 < 17592186044416 := by have h_ := LMc109.out; rw [Ny227.out] at h_; simpa using h_
                    have z9_ : Kd.R (Kd.int .i64) 3 ((w116.setCell ⟨gb220, 0, none⟩ (.int .i64 t215)).setCell ⟨gb220, 1, none⟩ (.slice Ao118 t216.length co118)) w.heap.size (fun _ => True) (.slice (some ad213) x9_3.length co110) x9_3 := Kd.R_mono (Kd.R_far (p := ⟨gb220, 1, none⟩) (Kd.R_far (p := ⟨gb220, 0, none⟩) (Kd.R_types HO_9.out BK220.out (by decide)) (fun _ hk => hk.2) (.int .i64 t215)) (fun _ hk => hk.2) (.slice Ao118 t216.length co118)) (fun _ _ => trivial)
                    have z10_ : Kd.R (Kd.int .i64) 3 ((w116.setCell ⟨gb220, 0, none⟩ (.int .i64 t215)).setCell ⟨gb220, 1, none⟩ (.slice Ao118 t216.length co118)) w.heap.size (fun _ => True) (.slice (some ad214) x10_3.length co113) x10_3 := Kd.R_mono (Kd.R_far (p := ⟨gb220, 1, none⟩) (Kd.R_far (p := ⟨gb220, 0, none⟩) (Kd.R_types HO_10.out BK220.out (by decide)) (fun _ hk => hk.2) (.int .i64 t215)) (fun _ hk => hk.2) (.slice Ao118 t216.length co118)) (fun _ _ => trivial)
                    have zr_ := Aside0.mk (show Kd.R (Kd.int .u64) 42 ((w116.setCell ⟨gb220, 0, none⟩ (.int .i64 t215)).setCell ⟨gb220, 1, none⟩ (.slice Ao118 t216.length co118)) w.heap.size (fun _ => True) (.slice Ao118 t216.length co118) t216 from Kd.R_mono (Kd.R_far (p := ⟨gb220, 1, none⟩) (Kd.R_far (p := ⟨gb220, 0, none⟩) (Kd.R_types HO218.out BK220.out (by decide)) (fun _ hk => hk.2) (.int .i64 t215)) (fun _ hk => hk.2) (.slice Ao118 t216.length co118)) (fun _ _ => trivial))
                    have zp_ := Aside0.mk (show ((w116.setCell ⟨gb220, 0, none⟩ (.int .i64 t215)).setCell ⟨gb220, 1, none⟩ (.slice Ao118 t216.length co118)).heap[gb163]? = some (.cells #[.int .i64 x164000_3, .slice Ao111 x164001_3.length co111] 44 (0, 0)) from blk_far (blk_far BK163.out NB163_220.out _) NB163_220.out _)
                    have zq_ : ((w116.setCell ⟨gb220, 0, none⟩ (.int .i64 t215)).setCell ⟨gb220, 1, none⟩ (.slice Ao118 t216.length co118)).heap[gb220]? = some (.cells #[.int .i64 t215, .slice Ao118 t216.length co118] 44 (0, 0)) := blk_put (cs := #[.int .i64 t215, .slice none 0 0]) (blk_put (cs := #[.int .i64 0, .slice none 0 0]) BK220.out 0 _ rfl) 1 _ rfl
                    have zB_ := Aside0.mk (show Below w.heap.size w ((w116.setCell ⟨gb220, 0, none⟩ (.int .i64 t215)).setCell ⟨gb220, 1, none⟩ (.slice Ao118 t216.length co118)) from below_set (below_set HB.out GE220.out) GE220.out)
                    refine reg_at (o' := opsOf Tryd.f14 35) (by kernel_rfl) (reg35 (base := w.heap.size) z9_ z10_ zp_.out zq_ (fun _ _ _ _ _ h => h) hk0_ hk1_ hk2_ hL9_ hL10_ ?_)
                    intro v164 v174 wE s154 s155 s156 s157 s158 s159 s160 s161 s162 s163 s164 s165 s166 s167 s168 s169 s170 s171 s172 s173 s174 h9_ h10_ FA_ hb_
                    have zw_ := Aside0.mk hb_
                    have zF_ := Aside0.mk FA_
                    have e9_ := Aside0.mk (show y224 = x9_3.take ((0 : Int)).toNat ++ x9_3.drop (((0 : Int)).toNat + 1) from by rw [Ny224.out, Ny221.out]; rfl)
                    have e10_ := Aside0.mk (show y230 = x10_3.take ((0 : Int)).toNat ++ x10_3.drop (((0 : Int)).toNat + 1) from by rw [Ny230.out, Ny227.out]; rfl)
                    have z9 := Aside0.mk (Kd.R_lower h9_ (below_size zB_.out))
                    have z10 := Aside0.mk (Kd.R_lower h10_ (below_size zB_.out))
                    rw [← e9_.out] at z9
                    rw [← e10_.out] at z10
                    clear z9_ z10_ zq_ hk0_ hk1_ hk2_ hL9_ hL10_ h9_ h10_ FA_ hb_ e9_ e10_
                    try go_wp2_with fail
                    go_roundg k3
                    case measure => have := HK1.out; have := HJ61.out; have := HK3.out; omega
                    case rel => exact ⟨y224, y230, (wrap64 (x22_3 + 1)), t215, t216, (.slice Ao118 t216.length co118), (by first | rfl | (simp; done) | (simp [*]; done)), H', ⟨by have := HK1.out; have := HJ61.out; have := HK3.out; omega⟩, ⟨by (with_reducible repeat (first | apply Kd.R_alloc | apply Kd.R_drewN | apply Kd.R_drew)); refine Kd.R_reok rfl (Kd.R_far (p := ⟨gb163, 1, none⟩) (Kd.R_far (p := ⟨gb163, 0, none⟩) (Kd.R_types z9.out (blk_below zp_.out zw_.out) (by decide)) (fun _ hk => hk.2) (.int .i64 t215)) (fun _ hk => hk.2) (.slice Ao118 t216.length co118)) (fun k_ hk => zF_.out.symm k_ hk)⟩, ⟨by (with_reducible repeat (first | apply Kd.R_alloc | apply Kd.R_drewN | apply Kd.R_drew)); refine Kd.R_reok rfl (Kd.R_far (p := ⟨gb163, 1, none⟩) (Kd.R_far (p := ⟨gb163, 0, none⟩) (Kd.R_types z10.out (blk_below zp_.out zw_.out) (by decide)) (fun _ hk => hk.2) (.int .i64 t215)) (fun _ hk => hk.2) (.slice Ao118 t216.length co118)) (fun k_ hk => zF_.out k_ hk)⟩, ⟨by (with_reducible repeat (first | apply Kd.R_alloc | apply Kd.R_drewN | apply Kd.R_drew)); refine Kd.R_reok rfl (Kd.R_far (p := ⟨gb163, 1, none⟩) (Kd.R_far (p := ⟨gb163, 0, none⟩) (Kd.R_types (Kd.R_below zr_.out zw_.out) (blk_below zp_.out zw_.out) (by decide)) (fun _ hk => hk.2) (.int .i64 t215)) (fun _ hk => hk.2) (.slice Ao118 t216.length co118)) (fun _ _ => trivial)⟩, ⟨by (with_reducible repeat (first | refine blk_drewN ?_ _ | refine blk_drew ?_ | refine blk_alloc ?_ _)); exact blk_put (cs := #[.int .i64 t215, .slice Ao111 x164001_3.length co111]) (blk_put (cs := #[.int .i64 x164000_3, .slice Ao111 x164001_3.length co111]) (blk_below zp_.out zw_.out) 0 _ rfl) 1 _ rfl⟩, ⟨by repeat (first | exact below_step zB_.out zw_.out | apply pw_below_drewN | apply below_drew1 | refine below_set ?_ GE163.out)⟩⟩
                  rw [if_pos c69] at H
                  have c69b0 : decide (0 < (l2.length : Int)) = true := decide_eq_true c69
                  have c69b1 : decide (0 < l2.length) = true := decide_eq_true (by omega)
                  clear c69
                  by_cases c70 : (l2.length : Int) = 0
                  rotate_left
                  · rw [if_neg c70] at H
                    have c70b0 : ((l2.length : Int) == 0) = false := beq_eq_false_iff_ne.mpr c70
                    have c70b1 : ((l2.length : Int) != 0) = true := bne_iff_ne.mpr c70
                    have c70b2 : ¬ (l2 = []) := fun h_ => c70 (by rw [h_]; rfl)
                    obtain ⟨ji71, hji71⟩ : ∃ j_ : Int, (Int.tmod x22_3 (l2.length : Int)) = j_ := ⟨_, rfl⟩
                    replace H : (if 0 ≤ (ji71) then (if (ji71) < (l2.length : Int) then (if (x9_3.length : Int) = 0 then (none) else (if 0 ≤ (Int.tmod (wrap64 (rd l2 (ji71))) (x9_3.length : Int)) then (if (Int.tmod (wrap64 (rd l2 (ji71))) (x9_3.length : Int)) < (x9_3.length : Int) then (if (Int.tmod (wrap64 (rd l2 (ji71))) (x9_3.length : Int)) < (x10_3.length : Int) then ((pages_Give.f k3 x164000_3 x164001_3 (rd x9_3 (Int.tmod (wrap64 (rd l2 (ji71))) (x9_3.length : Int))) (rd x10_3 (Int.tmod (wrap64 (rd l2 (ji71))) (x9_3.length : Int)))).bind fun bt195 => (if bt195.2.2 = 0 then ((some (([Int.tmod (wrap64 (rd l2 (ji71))) (x9_3.length : Int)] : List Int) : List Int)).bind fun y201 => (if x9_3.length + y201.length < 17592186044416 then ((some (([Int.tmod (wrap64 (rd l2 (ji71))) (x9_3.length : Int)] : List Int) : List Int)).bind fun y207 => (if x10_3.length + y207.length < 17592186044416 then (besomtop_TopHeld.l2 k3 a0 l2 (cutAt x9_3 y201) (cutAt x10_3 y207) (wrap64 (x22_3 + 1)) bt195.1 bt195.2.1) else (none))) else (none))) else (some false))) else (none)) else (none)) else (none))) else (none)) else (none)) = some r := by first | (rw [hji71] at H; exact H) | (simp only [hji71] at H ⊢; exact H)
                    by_cases c72 : 0 ≤ (ji71)
                    rotate_left
                    · rw [if_neg c72] at H
                      exact absurd H (by simp)
                    rw [if_pos c72] at H
                    have c72b0 : decide (0 ≤ (ji71)) = true := decide_eq_true c72
                    clear c72
                    by_cases c73 : (ji71) < (l2.length : Int)
                    rotate_left
                    · rw [if_neg c73] at H
                      exact absurd H (by simp)
                    rw [if_pos c73] at H
                    have c73b0 : decide ((ji71) < (l2.length : Int)) = true := decide_eq_true c73
                    clear c73
                    by_cases c74 : (x9_3.length : Int) = 0
                    rotate_left
                    · rw [if_neg c74] at H
                      have c74b0 : ((x9_3.length : Int) == 0) = false := beq_eq_false_iff_ne.mpr c74
                      have c74b1 : ((x9_3.length : Int) != 0) = true := bne_iff_ne.mpr c74
                      have c74b2 : ¬ (x9_3 = []) := fun h_ => c74 (by rw [h_]; rfl)
                      obtain ⟨ji75, hji75⟩ : ∃ j_ : Int, (Int.tmod (wrap64 (rd l2 (ji71))) (x9_3.length : Int)) = j_ := ⟨_, rfl⟩
                      replace H : (if 0 ≤ (ji75) then (if (ji75) < (x9_3.length : Int) then (if (ji75) < (x10_3.length : Int) then ((pages_Give.f k3 x164000_3 x164001_3 (rd x9_3 (ji75)) (rd x10_3 (ji75))).bind fun bt195 => (if bt195.2.2 = 0 then ((some (([ji75] : List Int) : List Int)).bind fun y201 => (if x9_3.length + y201.length < 17592186044416 then ((some (([ji75] : List Int) : List Int)).bind fun y207 => (if x10_3.length + y207.length < 17592186044416 then (besomtop_TopHeld.l2 k3 a0 l2 (cutAt x9_3 y201) (cutAt x10_3 y207) (wrap64 (x22_3 + 1)) bt195.1 bt195.2.1) else (none))) else (none))) else (some false))) else (none)) else (none)) else (none)) = some r := by first | (rw [hji75] at H; exact H) | (simp only [hji75] at H ⊢; exact H)
                      by_cases c76 : 0 ≤ (ji75)
                      rotate_left
                      · rw [if_neg c76] at H
                        exact absurd H (by simp)
                      rw [if_pos c76] at H
                      have c76b0 : decide (0 ≤ (ji75)) = true := decide_eq_true c76
                      clear c76
                      by_cases c77 : (ji75) < (x9_3.length : Int)
                      rotate_left
                      · rw [if_neg c77] at H
                        exact absurd H (by simp)
                      rw [if_pos c77] at H
                      have c77b0 : decide ((ji75) < (x9_3.length : Int)) = true := decide_eq_true c77
                      clear c77
                      by_cases c78 : (ji75) < (x10_3.length : Int)
                      rotate_left
                      · rw [if_neg c78] at H
                        exact absurd H (by simp)
                      rw [if_pos c78] at H
                      have c78b0 : decide ((ji75) < (x10_3.length : Int)) = true := decide_eq_true c78
                      clear c78
                      replace H := Option.bind_eq_some_iff.mp H
                      obtain ⟨⟨t195, t196, t199⟩, A790, H⟩ := H
                      replace H : (if t199 = 0 then ((some (([ji75] : List Int) : List Int)).bind fun y201 => (if x9_3.length + y201.length < 17592186044416 then ((some (([ji75] : List Int) : List Int)).bind fun y207 => (if x10_3.length + y207.length < 17592186044416 then (besomtop_TopHeld.l2 k3 a0 l2 (cutAt x9_3 y201) (cutAt x10_3 y207) (wrap64 (x22_3 + 1)) t195 t196) else (none))) else (none))) else (some false)) = some r := H
                      have A79 := Aside0.mk A790
                      clear A790
                      by_cases c80 : t199 = 0
                      rotate_left
                      · rw [if_neg c80] at H
                        have c80b0 : (t199 == 0) = false := beq_eq_false_iff_ne.mpr c80
                        have c80b1 : (t199 != 0) = true := bne_iff_ne.mpr c80
                        exact absurd ((Option.some.inj H).trans HLAW.out) (by decide)
                      rw [if_pos c80] at H
                      have c80b0 : (t199 == 0) = true := beq_iff_eq.mpr c80
                      have c80b1 : (t199 != 0) = false := bne_eq_false_iff_eq.mpr c80
                      clear c80
                      obtain ⟨y201, hy201⟩ : ∃ y_ : List Int, y_ = (([ji75] : List Int)) := ⟨_, rfl⟩
                      replace H : (if x9_3.length + y201.length < 17592186044416 then ((some (([ji75] : List Int) : List Int)).bind fun y207 => (if x10_3.length + y207.length < 17592186044416 then (besomtop_TopHeld.l2 k3 a0 l2 (cutAt x9_3 y201) (cutAt x10_3 y207) (wrap64 (x22_3 + 1)) t195 t196) else (none))) else (none)) = some r := by first | (rw [hy201]; with_reducible exact H) | (have H2_ := (Option.bind_some _ _).symm.trans H; rw [hy201]; with_reducible exact H2_) | (have H2_ := (Option.bind_some _ _).symm.trans H; with_reducible exact H2_) | with_reducible exact H | (rw [hy201]; exact H) | exact H
                      have Ny201 := Aside0.mk hy201
                      clear hy201
                      by_cases c81 : x9_3.length + y201.length < 17592186044416
                      rotate_left
                      · rw [if_neg c81] at H
                        exact absurd H (by simp)
                      rw [if_pos c81] at H
                      have LMc81 := Aside0.mk c81
                      clear c81
                      obtain ⟨y204, hy204⟩ : ∃ y_ : List Int, y_ = (cutAt x9_3 y201) := ⟨_, rfl⟩
                      replace H : ((some (([ji75] : List Int) : List Int)).bind fun y207 => (if x10_3.length + y207.length < 17592186044416 then (besomtop_TopHeld.l2 k3 a0 l2 y204 (cutAt x10_3 y207) (wrap64 (x22_3 + 1)) t195 t196) else (none))) = some r := by first | (rw [hy204]; with_reducible exact H) | (have H2_ := (Option.bind_some _ _).symm.trans H; rw [hy204]; with_reducible exact H2_) | (have H2_ := (Option.bind_some _ _).symm.trans H; with_reducible exact H2_) | with_reducible exact H | (rw [hy204]; exact H) | exact H
                      have Ny204 := Aside0.mk hy204
                      clear hy204
                      obtain ⟨y207, hy207⟩ : ∃ y_ : List Int, y_ = (([ji75] : List Int)) := ⟨_, rfl⟩
                      replace H : (if x10_3.length + y207.length < 17592186044416 then (besomtop_TopHeld.l2 k3 a0 l2 y204 (cutAt x10_3 y207) (wrap64 (x22_3 + 1)) t195 t196) else (none)) = some r := by first | (rw [hy207]; with_reducible exact H) | (have H2_ := (Option.bind_some _ _).symm.trans H; rw [hy207]; with_reducible exact H2_) | (have H2_ := (Option.bind_some _ _).symm.trans H; with_reducible exact H2_) | with_reducible exact H | (rw [hy207]; exact H) | exact H
                      have Ny207 := Aside0.mk hy207
                      clear hy207
                      by_cases c82 : x10_3.length + y207.length < 17592186044416
                      rotate_left
                      · rw [if_neg c82] at H
                        exact absurd H (by simp)
                      rw [if_pos c82] at H
                      have LMc82 := Aside0.mk c82
                      clear c82
                      obtain ⟨y210, hy210⟩ : ∃ y_ : List Int, y_ = (cutAt x10_3 y207) := ⟨_, rfl⟩
                      replace H : (besomtop_TopHeld.l2 k3 a0 l2 y204 y210 (wrap64 (x22_3 + 1)) t195 t196) = some r := by first | (rw [hy210]; with_reducible exact H) | (have H2_ := (Option.bind_some _ _).symm.trans H; rw [hy210]; with_reducible exact H2_) | (have H2_ := (Option.bind_some _ _).symm.trans H; with_reducible exact H2_) | with_reducible exact H | (rw [hy210]; exact H) | exact H
                      have Ny210 := Aside0.mk hy210
                      clear hy210
                      have H' := Aside0.mk H
                      clear H
                      obtain ⟨Ao83, co83, eo83⟩ := Kd.R_slice HO_9.out
                      subst eo83
                      have p192 : 0 ≤ ((ji71) : Int) := of_decide_eq_true (by first | (with_reducible assumption) | assumption)
                      have q192 : (ji71) < (l2.length : Int) := of_decide_eq_true (by first | (with_reducible assumption) | assumption)
                      obtain ⟨ad192, e192, hx192_0⟩ := Kd.at_int HR2.out (ji71) p192 q192
                      cases e192
                      replace hx192_0 := (HB.out.cell (World.block_lt_of_cell? w _ hx192_0)).trans hx192_0
                      replace p192 := eq_true p192
                      replace q192 := eq_true q192
                      obtain ⟨Ao84, co84, eo84⟩ := Kd.R_slice HO_164001.out
                      subst eo84
                      try go_wp2
                      have n0_ := Aside0.mk (Kd.R_drew HO_9.out)
                      have n1_ := Aside0.mk (Kd.R_drew HO_10.out)
                      have n2_ := Aside0.mk (Kd.R_drew HO_164001.out)
                      have n3_ := Aside0.mk (blk_drew BK163.out)
                      have n4_ := Aside0.mk (below_drew1 HB.out)
                      clear HO_9
                      clear HO_10
                      clear HO_164001
                      clear BK163
                      clear HB
                      have HO_9 := n0_
                      have HO_10 := n1_
                      have HO_164001 := n2_
                      have BK163 := n3_
                      have HB := n4_
                      clear n0_ n1_ n2_ n3_ n4_
                      have p193 : 0 ≤ ((ji75) : Int) := of_decide_eq_true (by first | (with_reducible assumption) | assumption)
                      have q193 : (ji75) < (x9_3.length : Int) := of_decide_eq_true (by first | (with_reducible assumption) | assumption)
                      obtain ⟨ad193, e193, hx193_0⟩ := Kd.at_int (Kd.R_reads' HO_9.out).2.2 (ji75) p193 q193
                      cases e193
                      replace p193 := eq_true p193
                      replace q193 := eq_true q193
                      obtain ⟨Ao86, co86, eo86⟩ := Kd.R_slice HO_10.out
                      (first | subst eo86 | (injection eo86 with f1_ f2_ f3_; have f4_ := f1_.symm; have f5_ := f3_.symm; clear f1_ f2_ f3_; subst f4_; subst f5_))
                      have p194 : 0 ≤ ((ji75) : Int) := of_decide_eq_true (by first | (with_reducible assumption) | assumption)
                      have q194 : (ji75) < (x10_3.length : Int) := of_decide_eq_true (by first | (with_reducible assumption) | assumption)
                      obtain ⟨ad194, e194, hx194_0⟩ := Kd.at_int (Kd.R_reads' HO_10.out).2.2 (ji75) p194 q194
                      cases e194
                      replace p194 := eq_true p194
                      replace q194 := eq_true q194
                      refine start_ (n := 16) (S := fun w' => w'.cell? ⟨gb163, 0, none⟩ = some (.int .i64 x164000_3) ∧ w'.cell? ⟨gb163, 1, none⟩ = some (.slice Ao84 x164001_3.length co84) ∧ w'.cell? (ad193.add ((ji75)).toNat) = some (.int .i64 (rd x9_3 (ji75))) ∧ w'.cell? (ad194.add ((ji75)).toNat) = some (.int .i64 (rd x10_3 (ji75)))) (ds := []) #[false, false, false, false, false, false, false, false, false, false, false, false, false, false, false, false] (by kernel_rfl) rfl rfl ⟨(blk_cell BK163.out 0).trans rfl, (blk_cell BK163.out 1).trans rfl, hx193_0, hx194_0⟩ (fun hHeld => ?_); refine with_tabW besomtop_TopHeld.tab32 besomtop_TopHeld.bits32 (fun HT_ HW_ => ?_)
                      generalize wr.drew = w85 at HO_9 HO_10 HO_164001 BK163 HB hx193_0 hx194_0 hHeld ⊢
                      refine pure_ (i := 1) (N := some 141) (v := ?_) (a' := ?_) #[false, true, false, false, false, false, false, false, false, false, false, false, false, false, false, false] rfl rfl (any_of HT_.out (by kernel_rfl)) (fun _ _ _ h => h) (Or.inl ⟨by rfl, ?_⟩) ?_ ?_
                      rotate_left
                      · intro w'
                        go_simp
                        with_reducible rfl
                      rotate_left
                      · simp only [Act.put, List.setIfInBounds_toArray, List.set_cons_zero, List.set_cons_succ, i64_w, i32_w]
                        rfl
                      refine pure_ (i := 2) (N := some 142) (v := ?_) (a' := ?_) #[false, true, true, false, false, false, false, false, false, false, false, false, false, false, false, false] rfl rfl (any_of HT_.out (by kernel_rfl)) (fun _ _ _ h => h) (Or.inl ⟨by rfl, ?_⟩) ?_ ?_
                      rotate_left
                      · intro w'
                        go_simp
                        with_reducible rfl
                      rotate_left
                      · simp only [Act.put, List.setIfInBounds_toArray, List.set_cons_zero, List.set_cons_succ, i64_w, i32_w]
                        rfl
                      refine pure_ (i := 3) (N := some 143) (v := ?_) (a' := ?_) #[false, true, true, true, false, false, false, false, false, false, false, false, false, false, false, false] rfl rfl (any_of HT_.out (by kernel_rfl)) (fun _ _ _ h => h) (Or.inl ⟨by rfl, ?_⟩) ?_ ?_
                      rotate_left
                      · intro w'
                        go_simp
                        with_reducible rfl
                      rotate_left
                      · simp only [Act.put, List.setIfInBounds_toArray, List.set_cons_zero, List.set_cons_succ, i64_w, i32_w]
                        rfl
                      refine pure_ (i := 5) (N := some 145) (v := ?_) (a' := ?_) #[false, true, true, true, false, true, false, false, false, false, false, false, false, false, false, false] rfl rfl (any_of HT_.out (by kernel_rfl)) (fun _ _ _ h => h) (Or.inl ⟨by rfl, ?_⟩) ?_ ?_
                      rotate_left
                      · intro w'
                        go_simp
                        with_reducible rfl
                      rotate_left
                      · simp only [Act.put, List.setIfInBounds_toArray, List.set_cons_zero, List.set_cons_succ, i64_w, i32_w]
                        rfl
                      refine pure_ (i := 6) (N := some 146) (v := ?_) (a' := ?_) #[false, true, true, true, false, true, true, false, false, false, false, false, false, false, false, false] rfl rfl (any_of HT_.out (by kernel_rfl)) (fun _ _ _ h => h) (Or.inl ⟨by rfl, ?_⟩) ?_ ?_
                      rotate_left
                      · intro w'
                        go_simp
                        with_reducible rfl
                      rotate_left
                      · simp only [Act.put, List.setIfInBounds_toArray, List.set_cons_zero, List.set_cons_succ, i64_w, i32_w]
                        rfl
                      refine pure_ (i := 7) (N := some 147) (v := ?_) (a' := ?_) #[false, true, true, true, false, true, true, true, false, false, false, false, false, false, false, false] rfl rfl (any_of HT_.out (by kernel_rfl)) (fun _ _ _ h => h) (Or.inl ⟨by rfl, ?_⟩) ?_ ?_
                      rotate_left
                      · intro w'
                        go_simp
                        with_reducible rfl
                      rotate_left
                      · simp only [Act.put, List.setIfInBounds_toArray, List.set_cons_zero, List.set_cons_succ, i64_w, i32_w]
                        rfl
                      refine take_ (i := 0) (N := some 140) (v := ?_) (a' := ?_) #[true, true, true, true, false, true, true, true, false, false, false, false, false, false, false, false] rfl rfl (take_ofW HT_.out HW_.out (by kernel_rfl)) (fun _ _ _ h => h) (Or.inl ⟨by rfl, ?_⟩) hHeld ?_ ?_
                      rotate_left
                      · rintro w' ⟨s0, s1, s2, s3⟩
                        go_simp
                        with_reducible rfl
                      rotate_left
                      · simp only [Act.put, List.setIfInBounds_toArray, List.set_cons_zero, List.set_cons_succ, i64_w, i32_w]
                        rfl
                      refine take_ (i := 4) (N := some 144) (v := ?_) (a' := ?_) #[true, true, true, true, true, true, true, true, false, false, false, false, false, false, false, false] rfl rfl (take_ofW HT_.out HW_.out (by kernel_rfl)) (fun _ _ _ h => h) (Or.inl ⟨by rfl, ?_⟩) hHeld ?_ ?_
                      rotate_left
                      · rintro w' ⟨s0, s1, s2, s3⟩
                        go_simp
                        with_reducible rfl
                      rotate_left
                      · simp only [Act.put, List.setIfInBounds_toArray, List.set_cons_zero, List.set_cons_succ, i64_w, i32_w]
                        rfl
                      refine take_ (i := 8) (N := some 148) (v := ?_) (a' := ?_) #[true, true, true, true, true, true, true, true, true, false, false, false, false, false, false, false] rfl rfl (take_ofW HT_.out HW_.out (by kernel_rfl)) (fun _ _ _ h => h) (Or.inl ⟨by rfl, ?_⟩) hHeld ?_ ?_
                      rotate_left
                      · rintro w' ⟨s0, s1, s2, s3⟩
                        go_simp
                        with_reducible rfl
                      rotate_left
                      · simp only [Act.put, List.setIfInBounds_toArray, List.set_cons_zero, List.set_cons_succ, i64_w, i32_w]
                        rfl
                      refine join_ (σ := Value × Nat) 2 #[true, true, true, true, true, true, true, true, true, true, true, true, true, true, false, false] (fun s_ => [(149, .tuple #[.agg #[.int .i64 t195, s_.1], .int .i64 t199]), (24, .pointer (some ⟨s_.2, 0, none⟩)), (139, .tuple #[.agg #[.int .i64 t195, s_.1], .int .i64 t199]), (150, .agg #[.int .i64 t195, s_.1]), (151, .int .i64 t199)]) (fun s_ w' => (w'.cell? ⟨gb163, 0, none⟩ = some (.int .i64 x164000_3) ∧ w'.cell? ⟨gb163, 1, none⟩ = some (.slice Ao84 x164001_3.length co84) ∧ w'.cell? (ad193.add ((ji75)).toNat) = some (.int .i64 (rd x9_3 (ji75))) ∧ w'.cell? (ad194.add ((ji75)).toNat) = some (.int .i64 (rd x10_3 (ji75)))) ∧ (Kd.R (Kd.int .u64) 42 w' w.heap.size (fun k_ => some k_ ≠ (.slice Ao84 x164001_3.length co84 : Value).ownBlock) s_.1 t196) ∧ (Kd.R (Kd.int .i64) 3 w' w.heap.size (fun k_ => some k_ ≠ (.slice (some ad193) x9_3.length co83 : Value).ownBlock) (.slice (some ad194) x10_3.length co86) x10_3) ∧ (Kd.R (Kd.int .u64) 42 w' w.heap.size (fun k_ => some k_ ≠ (s_.1 : Value).ownBlock) (.slice Ao84 x164001_3.length co84) x164001_3) ∧ (Kd.R (Kd.int .i64) 3 w' w.heap.size (fun k_ => some k_ ≠ (.slice (some ad194) x10_3.length co86 : Value).ownBlock) (.slice (some ad193) x9_3.length co83) x9_3) ∧ (w'.heap[gb163]? = some (.cells #[.int .i64 x164000_3, .slice Ao84 x164001_3.length co84] 44 (0, 0))) ∧ (w'.heap[s_.2]? = some (.cells #[.int .i64 0, .slice none 0 0] 44 (0, 0))) ∧ (w.heap.size ≤ s_.2) ∧ (w.heap.size ≤ s_.2) ∧ (gb163 ≠ s_.2) ∧ (s_.2 ≠ gb163) ∧ (Below w.heap.size w w')) ?_ ?_
                      rotate_left
                      · intro hCont
                        refine two_ (i := 9) (j := 13) (Ni := some 149) (Nj := some 24) #[true, true, true, true, true, true, true, true, true, true, false, false, false, false, false, false] #[true, true, true, true, true, true, true, true, true, false, false, false, false, true, false, false] rfl rfl rfl rfl (two_of HT_.out (by kernel_rfl)) (by decide) (by decide) (fun K hK => ?_) (fun K hK => ?_)
                        · skip
                          refine goes_ Tryd.func28 (by kernel_rfl) rfl #[.agg #[.int .i64 x164000_3, .slice Ao84 x164001_3.length co84], .int .i64 (rd x9_3 (ji75)), .int .i64 (rd x10_3 (ji75))] (by rfl) rfl rfl (by (try simp only [List.map_toArray, List.map_cons, List.map_nil]); first | done | (simp only [hji75]; rfl) | rfl | (simp only [List.length_drop, List.length_take]; rfl)) ?_
                          with_reducible refine (pages_Give.calls k3 x164000_3 _ _ x164001_3 (rd x9_3 (ji75)) (rd x10_3 (ji75)) t195 t196 t199 _ ?side1 ?side2 ?side3 A79.out).mono ?_
                          (case side1 => repeat (first | exact (Kd.R_reads' HO_164001.out).2.2 | (with_reducible refine Kd.C_alloc ?_ _) | (with_reducible refine Kd.C_drewN ?_ _) | (with_reducible refine Kd.C_drew ?_)))
                          (case side2 => exact (Kd.R_reads' HO_164001.out).2.1)
                          (case side3 => repeat (first | exact HT.out | exact TzOk.below HT.out (by repeat (first | (with_reducible first | exact HB.out | apply below_alloc | apply pw_below_drewN | apply below_drew1 | refine below_set ?_ GE163.out) | exact HB.out)) | (with_reducible refine TzOk.alloc ?_ _) | (with_reducible refine TzOk.drewN ?_ _) | (with_reducible refine TzOk.drew ?_)))
                          rintro e w87 ⟨v197, rfl, ho0, hb⟩
                          have HS2_ := (hb.cell (World.block_lt_of_cell? _ _ (hHeld.2.2.1))).trans (hHeld.2.2.1)
                          have HS3_ := (hb.cell (World.block_lt_of_cell? _ _ (hHeld.2.2.2))).trans (hHeld.2.2.2)
                          refine ⟨_, rfl, ?_⟩
                          have n0_ := Aside0.mk (Kd.R_below (by (with_reducible repeat (first | apply Kd.R_alloc | apply Kd.R_drewN | apply Kd.R_drew)); exact HO_9.out) hb)
                          have n1_ := Aside0.mk (Kd.R_below (by (with_reducible repeat (first | apply Kd.R_alloc | apply Kd.R_drewN | apply Kd.R_drew)); exact HO_10.out) hb)
                          have n2_ := Aside0.mk (Kd.R_elder' (by (with_reducible repeat (first | apply Kd.R_alloc | apply Kd.R_drewN | apply Kd.R_drew)); exact HO_164001.out) (Kd.R_base ho0) hb)
                          have n3_ := Aside0.mk (Kd.R_lower (Kd.R_new' ho0 (Kd.R_lt (by (with_reducible repeat (first | apply Kd.R_alloc | apply Kd.R_drewN | apply Kd.R_drew)); exact HO_164001.out))) (below_size (by repeat (first | (with_reducible first | exact HB.out | apply below_alloc | apply pw_below_drewN | apply below_drew1 | refine below_set ?_ GE163.out) | exact HB.out))))
                          have n4_ := Aside0.mk (blk_below (g := gb163) (o := .cells #[.int .i64 x164000_3, .slice Ao84 x164001_3.length co84] 44 (0, 0)) (by (with_reducible repeat (first | refine blk_drewN ?_ _ | refine blk_drew ?_ | refine blk_alloc ?_ _)); exact BK163.out) hb)
                          have n5_ := Aside0.mk (below_step (by repeat (first | (with_reducible first | exact HB.out | apply below_alloc | apply pw_below_drewN | apply below_drew1 | refine below_set ?_ GE163.out) | exact HB.out)) hb)
                          clear HO_9
                          clear HO_10
                          clear HO_164001
                          clear BK163
                          clear HB
                          have HO_9 := n0_
                          have HO_10 := n1_
                          have HO_164001 := n2_
                          have HO198 := n3_
                          have BK163 := n4_
                          have HB := n5_
                          clear n0_ n1_ n2_ n3_ n4_ n5_
                          (try clear hb)
                          (try clear hb2)
                          (try clear hk)
                          (try clear hi)
                          (try clear ho0)
                          refine hK.out _ _ ⟨(blk_cell BK163.out 0).trans rfl, (blk_cell BK163.out 1).trans rfl, HS2_, HS3_⟩ (fun hHeld => ?_)
                          clear hK K
                          refine norm_ (a' := ?_) ?_ ?_
                          rotate_left
                          · show Act.put _ (some 149) _ = _
                            simp only [Act.put, List.setIfInBounds_toArray, List.set_cons_zero, List.set_cons_succ, i64_w, i32_w]
                            rfl
                          refine pure_ (i := 10) (N := some 139) (v := ?_) (a' := ?_) #[true, true, true, true, true, true, true, true, true, true, true, false, false, false, false, false] rfl rfl (any_of HT_.out (by kernel_rfl)) (fun _ _ _ h => h) (Or.inl ⟨by rfl, ?_⟩) ?_ ?_
                          rotate_left
                          · intro w'
                            go_simp
                            with_reducible rfl
                          rotate_left
                          · simp only [Act.put, List.setIfInBounds_toArray, List.set_cons_zero, List.set_cons_succ, i64_w, i32_w]
                            rfl
                          refine pure_ (i := 11) (N := some 150) (v := ?_) (a' := ?_) #[true, true, true, true, true, true, true, true, true, true, true, true, false, false, false, false] rfl rfl (any_of HT_.out (by kernel_rfl)) (fun _ _ _ h => h) (Or.inl ⟨by rfl, ?_⟩) ?_ ?_
                          rotate_left
                          · intro w'
                            go_simp
                            with_reducible rfl
                          rotate_left
                          · simp only [Act.put, List.setIfInBounds_toArray, List.set_cons_zero, List.set_cons_succ, i64_w, i32_w]
                            rfl
                          refine pure_ (i := 12) (N := some 151) (v := ?_) (a' := ?_) #[true, true, true, true, true, true, true, true, true, true, true, true, true, false, false, false] rfl rfl (any_of HT_.out (by kernel_rfl)) (fun _ _ _ h => h) (Or.inl ⟨by rfl, ?_⟩) ?_ ?_
                          rotate_left
                          · intro w'
                            go_simp
                            with_reducible rfl
                          rotate_left
                          · simp only [Act.put, List.setIfInBounds_toArray, List.set_cons_zero, List.set_cons_succ, i64_w, i32_w]
                            rfl
                          refine one_ (i := 13) (N := some 24) #[true, true, true, true, true, true, true, true, true, true, true, true, true, true, false, false] rfl rfl (one_of HT_.out (by kernel_rfl)) (by decide) (fun K hK => ?_)
                          refine box_step ?hg (N := 24) ?hd (cs := #[.int .i64 0, .slice none 0 0]) (t := 44) ?hr ?_; (case hd => rfl); (case hg => rfl); (case hr => first | (go_simp; done) | (go_simp; rfl))
                          intro gb200 hg w88 hbox hb
                          have HS2_ := (hb.cell (World.block_lt_of_cell? _ _ (hHeld.2.2.1))).trans (hHeld.2.2.1)
                          have HS3_ := (hb.cell (World.block_lt_of_cell? _ _ (hHeld.2.2.2))).trans (hHeld.2.2.2)
                          have n0_ := Aside0.mk (Kd.R_below (by (with_reducible repeat (first | apply Kd.R_alloc | apply Kd.R_drewN | apply Kd.R_drew)); exact HO_9.out) hb)
                          have n1_ := Aside0.mk (Kd.R_below (by (with_reducible repeat (first | apply Kd.R_alloc | apply Kd.R_drewN | apply Kd.R_drew)); exact HO_10.out) hb)
                          have n2_ := Aside0.mk (Kd.R_below (by (with_reducible repeat (first | apply Kd.R_alloc | apply Kd.R_drewN | apply Kd.R_drew)); exact HO_164001.out) hb)
                          have n3_ := Aside0.mk (Kd.R_below (by (with_reducible repeat (first | apply Kd.R_alloc | apply Kd.R_drewN | apply Kd.R_drew)); exact HO198.out) hb)
                          have n4_ := Aside0.mk (blk_below (g := gb163) (o := .cells #[.int .i64 x164000_3, .slice Ao84 x164001_3.length co84] 44 (0, 0)) (by (with_reducible repeat (first | refine blk_drewN ?_ _ | refine blk_drew ?_ | refine blk_alloc ?_ _)); exact BK163.out) hb)
                          have n5_ := Aside0.mk (below_step (by repeat (first | (with_reducible first | exact HB.out | apply below_alloc | apply pw_below_drewN | apply below_drew1 | refine below_set ?_ GE163.out) | exact HB.out)) hb)
                          have n6_ := Aside0.mk (hbox)
                          have n7_ := Aside0.mk ((by rw [hg]; exact (below_size (by repeat (first | (with_reducible first | exact HB.out | apply below_alloc | apply pw_below_drewN | apply below_drew1 | refine below_set ?_ GE163.out) | exact HB.out))) : w.heap.size ≤ gb200))
                          have n8_ := Aside0.mk ((by rw [hg]; exact (below_size (by repeat (first | (with_reducible first | exact HB.out | apply below_alloc | apply pw_below_drewN | apply below_drew1 | refine below_set ?_ GE163.out) | exact HB.out))) : w.heap.size ≤ gb200))
                          have n9_ := Aside0.mk ((by rw [hg]; exact Nat.ne_of_lt (blk_lt (g := gb163) (o := .cells #[.int .i64 x164000_3, .slice Ao84 x164001_3.length co84] 44 (0, 0)) (by (with_reducible repeat (first | refine blk_drewN ?_ _ | refine blk_drew ?_ | refine blk_alloc ?_ _)); exact BK163.out)) : gb163 ≠ gb200))
                          have n10_ := Aside0.mk ((by rw [hg]; exact Nat.ne_of_gt (blk_lt (g := gb163) (o := .cells #[.int .i64 x164000_3, .slice Ao84 x164001_3.length co84] 44 (0, 0)) (by (with_reducible repeat (first | refine blk_drewN ?_ _ | refine blk_drew ?_ | refine blk_alloc ?_ _)); exact BK163.out)) : gb200 ≠ gb163))
                          clear HO_9
                          clear HO_10
                          clear HO_164001
                          clear HO198
                          clear BK163
                          clear HB
                          have HO_9 := n0_
                          have HO_10 := n1_
                          have HO_164001 := n2_
                          have HO198 := n3_
                          have BK163 := n4_
                          have HB := n5_
                          have BK200 := n6_
                          have GW200 := n7_
                          have GE200 := n8_
                          have NB163_200 := n9_
                          have NB200_163 := n10_
                          clear n0_ n1_ n2_ n3_ n4_ n5_ n6_ n7_ n8_ n9_ n10_
                          clear hb hbox hg
                          refine hK.out _ _ ⟨(blk_cell BK163.out 0).trans rfl, (blk_cell BK163.out 1).trans rfl, HS2_, HS3_⟩ (fun hHeld => ?_)
                          clear hK K
                          refine norm_ (a' := ?_) ?_ ?_
                          rotate_left
                          · show Act.put _ (some 24) _ = _
                            simp only [Act.put, List.setIfInBounds_toArray, List.set_cons_zero, List.set_cons_succ, i64_w, i32_w]
                            rfl
                          exact norm_ (by simp only [putAll, Act.put, List.setIfInBounds_toArray, List.set_cons_zero, List.set_cons_succ]) (hCont (v197, gb200) _ ⟨hHeld, (by (with_reducible repeat (first | apply Kd.R_alloc | apply Kd.R_drewN | apply Kd.R_drew)); exact Kd.R_mono HO198.out (fun _ hk => hk.2)), (by (with_reducible repeat (first | apply Kd.R_alloc | apply Kd.R_drewN | apply Kd.R_drew)); exact HO_10.out), (by (with_reducible repeat (first | apply Kd.R_alloc | apply Kd.R_drewN | apply Kd.R_drew)); exact Kd.R_mono HO_164001.out (fun _ hk => hk.2)), (by (with_reducible repeat (first | apply Kd.R_alloc | apply Kd.R_drewN | apply Kd.R_drew)); exact HO_9.out), (by (with_reducible repeat (first | refine blk_drewN ?_ _ | refine blk_drew ?_ | refine blk_alloc ?_ _)); exact BK163.out), (by (with_reducible repeat (first | refine blk_drewN ?_ _ | refine blk_drew ?_ | refine blk_alloc ?_ _)); exact BK200.out), GW200.out, GE200.out, NB163_200.out, NB200_163.out, (by repeat (first | (with_reducible first | exact HB.out | apply below_alloc | apply pw_below_drewN | apply below_drew1 | refine below_set ?_ GE163.out | refine below_set ?_ GE200.out) | exact HB.out))⟩)
                        · skip
                          refine box_step ?hg (N := 24) ?hd (cs := #[.int .i64 0, .slice none 0 0]) (t := 44) ?hr ?_; (case hd => rfl); (case hg => rfl); (case hr => first | (go_simp; done) | (go_simp; rfl))
                          intro gb200 hg w87 hbox hb
                          have HS2_ := (hb.cell (World.block_lt_of_cell? _ _ (hHeld.2.2.1))).trans (hHeld.2.2.1)
                          have HS3_ := (hb.cell (World.block_lt_of_cell? _ _ (hHeld.2.2.2))).trans (hHeld.2.2.2)
                          have n0_ := Aside0.mk (Kd.R_below (by (with_reducible repeat (first | apply Kd.R_alloc | apply Kd.R_drewN | apply Kd.R_drew)); exact HO_9.out) hb)
                          have n1_ := Aside0.mk (Kd.R_below (by (with_reducible repeat (first | apply Kd.R_alloc | apply Kd.R_drewN | apply Kd.R_drew)); exact HO_10.out) hb)
                          have n2_ := Aside0.mk (Kd.R_below (by (with_reducible repeat (first | apply Kd.R_alloc | apply Kd.R_drewN | apply Kd.R_drew)); exact HO_164001.out) hb)
                          have n3_ := Aside0.mk (blk_below (g := gb163) (o := .cells #[.int .i64 x164000_3, .slice Ao84 x164001_3.length co84] 44 (0, 0)) (by (with_reducible repeat (first | refine blk_drewN ?_ _ | refine blk_drew ?_ | refine blk_alloc ?_ _)); exact BK163.out) hb)
                          have n4_ := Aside0.mk (below_step (by repeat (first | (with_reducible first | exact HB.out | apply below_alloc | apply pw_below_drewN | apply below_drew1 | refine below_set ?_ GE163.out) | exact HB.out)) hb)
                          have n5_ := Aside0.mk (hbox)
                          have n6_ := Aside0.mk ((by rw [hg]; exact (below_size (by repeat (first | (with_reducible first | exact HB.out | apply below_alloc | apply pw_below_drewN | apply below_drew1 | refine below_set ?_ GE163.out) | exact HB.out))) : w.heap.size ≤ gb200))
                          have n7_ := Aside0.mk ((by rw [hg]; exact (below_size (by repeat (first | (with_reducible first | exact HB.out | apply below_alloc | apply pw_below_drewN | apply below_drew1 | refine below_set ?_ GE163.out) | exact HB.out))) : w.heap.size ≤ gb200))
                          have n8_ := Aside0.mk ((by rw [hg]; exact Nat.ne_of_lt (blk_lt (g := gb163) (o := .cells #[.int .i64 x164000_3, .slice Ao84 x164001_3.length co84] 44 (0, 0)) (by (with_reducible repeat (first | refine blk_drewN ?_ _ | refine blk_drew ?_ | refine blk_alloc ?_ _)); exact BK163.out)) : gb163 ≠ gb200))
                          have n9_ := Aside0.mk ((by rw [hg]; exact Nat.ne_of_gt (blk_lt (g := gb163) (o := .cells #[.int .i64 x164000_3, .slice Ao84 x164001_3.length co84] 44 (0, 0)) (by (with_reducible repeat (first | refine blk_drewN ?_ _ | refine blk_drew ?_ | refine blk_alloc ?_ _)); exact BK163.out)) : gb200 ≠ gb163))
                          clear HO_9
                          clear HO_10
                          clear HO_164001
                          clear BK163
                          clear HB
                          have HO_9 := n0_
                          have HO_10 := n1_
                          have HO_164001 := n2_
                          have BK163 := n3_
                          have HB := n4_
                          have BK200 := n5_
                          have GW200 := n6_
                          have GE200 := n7_
                          have NB163_200 := n8_
                          have NB200_163 := n9_
                          clear n0_ n1_ n2_ n3_ n4_ n5_ n6_ n7_ n8_ n9_
                          clear hb hbox hg
                          refine hK.out _ _ ⟨(blk_cell BK163.out 0).trans rfl, (blk_cell BK163.out 1).trans rfl, HS2_, HS3_⟩ (fun hHeld => ?_)
                          clear hK K
                          refine norm_ (a' := ?_) ?_ ?_
                          rotate_left
                          · show Act.put _ (some 24) _ = _
                            simp only [Act.put, List.setIfInBounds_toArray, List.set_cons_zero, List.set_cons_succ, i64_w, i32_w]
                            rfl
                          refine one_ (i := 9) (N := some 149) #[true, true, true, true, true, true, true, true, true, true, false, false, false, true, false, false] rfl rfl (one_of HT_.out (by kernel_rfl)) (by decide) (fun K hK => ?_)
                          refine goes_ Tryd.func28 (by kernel_rfl) rfl #[.agg #[.int .i64 x164000_3, .slice Ao84 x164001_3.length co84], .int .i64 (rd x9_3 (ji75)), .int .i64 (rd x10_3 (ji75))] (by rfl) rfl rfl (by (try simp only [List.map_toArray, List.map_cons, List.map_nil]); first | done | (simp only [hji75]; rfl) | rfl | (simp only [List.length_drop, List.length_take]; rfl)) ?_
                          with_reducible refine (pages_Give.calls k3 x164000_3 _ _ x164001_3 (rd x9_3 (ji75)) (rd x10_3 (ji75)) t195 t196 t199 _ ?side1 ?side2 ?side3 A79.out).mono ?_
                          (case side1 => repeat (first | exact (Kd.R_reads' HO_164001.out).2.2 | (with_reducible refine Kd.C_alloc ?_ _) | (with_reducible refine Kd.C_drewN ?_ _) | (with_reducible refine Kd.C_drew ?_)))
                          (case side2 => exact (Kd.R_reads' HO_164001.out).2.1)
                          (case side3 => repeat (first | exact HT.out | exact TzOk.below HT.out (by repeat (first | (with_reducible first | exact HB.out | apply below_alloc | apply pw_below_drewN | apply below_drew1 | refine below_set ?_ GE163.out | refine below_set ?_ GE200.out) | exact HB.out)) | (with_reducible refine TzOk.alloc ?_ _) | (with_reducible refine TzOk.drewN ?_ _) | (with_reducible refine TzOk.drew ?_)))
                          rintro e w88 ⟨v197, rfl, ho0, hb⟩
                          have HS2_ := (hb.cell (World.block_lt_of_cell? _ _ (hHeld.2.2.1))).trans (hHeld.2.2.1)
                          have HS3_ := (hb.cell (World.block_lt_of_cell? _ _ (hHeld.2.2.2))).trans (hHeld.2.2.2)
                          refine ⟨_, rfl, ?_⟩
                          have n0_ := Aside0.mk (Kd.R_below (by (with_reducible repeat (first | apply Kd.R_alloc | apply Kd.R_drewN | apply Kd.R_drew)); exact HO_9.out) hb)
                          have n1_ := Aside0.mk (Kd.R_below (by (with_reducible repeat (first | apply Kd.R_alloc | apply Kd.R_drewN | apply Kd.R_drew)); exact HO_10.out) hb)
                          have n2_ := Aside0.mk (Kd.R_elder' (by (with_reducible repeat (first | apply Kd.R_alloc | apply Kd.R_drewN | apply Kd.R_drew)); exact HO_164001.out) (Kd.R_base ho0) hb)
                          have n3_ := Aside0.mk (Kd.R_lower (Kd.R_new' ho0 (Kd.R_lt (by (with_reducible repeat (first | apply Kd.R_alloc | apply Kd.R_drewN | apply Kd.R_drew)); exact HO_164001.out))) (below_size (by repeat (first | (with_reducible first | exact HB.out | apply below_alloc | apply pw_below_drewN | apply below_drew1 | refine below_set ?_ GE163.out | refine below_set ?_ GE200.out) | exact HB.out))))
                          have n4_ := Aside0.mk (blk_below (g := gb163) (o := .cells #[.int .i64 x164000_3, .slice Ao84 x164001_3.length co84] 44 (0, 0)) (by (with_reducible repeat (first | refine blk_drewN ?_ _ | refine blk_drew ?_ | refine blk_alloc ?_ _)); exact BK163.out) hb)
                          have n5_ := Aside0.mk (blk_below (g := gb200) (o := .cells #[.int .i64 0, .slice none 0 0] 44 (0, 0)) (by (with_reducible repeat (first | refine blk_drewN ?_ _ | refine blk_drew ?_ | refine blk_alloc ?_ _)); exact BK200.out) hb)
                          have n6_ := Aside0.mk (below_step (by repeat (first | (with_reducible first | exact HB.out | apply below_alloc | apply pw_below_drewN | apply below_drew1 | refine below_set ?_ GE163.out | refine below_set ?_ GE200.out) | exact HB.out)) hb)
                          clear HO_9
                          clear HO_10
                          clear HO_164001
                          clear BK163
                          clear BK200
                          clear HB
                          have HO_9 := n0_
                          have HO_10 := n1_
                          have HO_164001 := n2_
                          have HO198 := n3_
                          have BK163 := n4_
                          have BK200 := n5_
                          have HB := n6_
                          clear n0_ n1_ n2_ n3_ n4_ n5_ n6_
                          (try clear hb)
                          (try clear hb2)
                          (try clear hk)
                          (try clear hi)
                          (try clear ho0)
                          refine hK.out _ _ ⟨(blk_cell BK163.out 0).trans rfl, (blk_cell BK163.out 1).trans rfl, HS2_, HS3_⟩ (fun hHeld => ?_)
                          clear hK K
                          refine norm_ (a' := ?_) ?_ ?_
                          rotate_left
                          · show Act.put _ (some 149) _ = _
                            simp only [Act.put, List.setIfInBounds_toArray, List.set_cons_zero, List.set_cons_succ, i64_w, i32_w]
                            rfl
                          refine pure_ (i := 10) (N := some 139) (v := ?_) (a' := ?_) #[true, true, true, true, true, true, true, true, true, true, true, false, false, true, false, false] rfl rfl (any_of HT_.out (by kernel_rfl)) (fun _ _ _ h => h) (Or.inl ⟨by rfl, ?_⟩) ?_ ?_
                          rotate_left
                          · intro w'
                            go_simp
                            with_reducible rfl
                          rotate_left
                          · simp only [Act.put, List.setIfInBounds_toArray, List.set_cons_zero, List.set_cons_succ, i64_w, i32_w]
                            rfl
                          refine pure_ (i := 11) (N := some 150) (v := ?_) (a' := ?_) #[true, true, true, true, true, true, true, true, true, true, true, true, false, true, false, false] rfl rfl (any_of HT_.out (by kernel_rfl)) (fun _ _ _ h => h) (Or.inl ⟨by rfl, ?_⟩) ?_ ?_
                          rotate_left
                          · intro w'
                            go_simp
                            with_reducible rfl
                          rotate_left
                          · simp only [Act.put, List.setIfInBounds_toArray, List.set_cons_zero, List.set_cons_succ, i64_w, i32_w]
                            rfl
                          refine pure_ (i := 12) (N := some 151) (v := ?_) (a' := ?_) #[true, true, true, true, true, true, true, true, true, true, true, true, true, true, false, false] rfl rfl (any_of HT_.out (by kernel_rfl)) (fun _ _ _ h => h) (Or.inl ⟨by rfl, ?_⟩) ?_ ?_
                          rotate_left
                          · intro w'
                            go_simp
                            with_reducible rfl
                          rotate_left
                          · simp only [Act.put, List.setIfInBounds_toArray, List.set_cons_zero, List.set_cons_succ, i64_w, i32_w]
                            rfl
                          exact norm_ (by simp only [putAll, Act.put, List.setIfInBounds_toArray, List.set_cons_zero, List.set_cons_succ]) (hCont (v197, gb200) _ ⟨hHeld, (by (with_reducible repeat (first | apply Kd.R_alloc | apply Kd.R_drewN | apply Kd.R_drew)); exact Kd.R_mono HO198.out (fun _ hk => hk.2)), (by (with_reducible repeat (first | apply Kd.R_alloc | apply Kd.R_drewN | apply Kd.R_drew)); exact HO_10.out), (by (with_reducible repeat (first | apply Kd.R_alloc | apply Kd.R_drewN | apply Kd.R_drew)); exact Kd.R_mono HO_164001.out (fun _ hk => hk.2)), (by (with_reducible repeat (first | apply Kd.R_alloc | apply Kd.R_drewN | apply Kd.R_drew)); exact HO_9.out), (by (with_reducible repeat (first | refine blk_drewN ?_ _ | refine blk_drew ?_ | refine blk_alloc ?_ _)); exact BK163.out), (by (with_reducible repeat (first | refine blk_drewN ?_ _ | refine blk_drew ?_ | refine blk_alloc ?_ _)); exact BK200.out), GW200.out, GE200.out, NB163_200.out, NB200_163.out, (by repeat (first | (with_reducible first | exact HB.out | apply below_alloc | apply pw_below_drewN | apply below_drew1 | refine below_set ?_ GE163.out | refine below_set ?_ GE200.out) | exact HB.out))⟩)
                      rintro ⟨v197, gb200⟩ w89 ⟨hS_, h0_, h1_, h2_, h3_, h4_, h5_, h6_, h7_, h8_, h9_, h10_⟩
                      have n0_ : Aside0 (Kd.R (Kd.int .u64) 42 w89 w.heap.size (fun k_ => some k_ ≠ (.slice Ao84 x164001_3.length co84 : Value).ownBlock) v197 t196) := ⟨h0_⟩
                      have n1_ : Aside0 (Kd.R (Kd.int .i64) 3 w89 w.heap.size (fun k_ => some k_ ≠ (.slice (some ad193) x9_3.length co83 : Value).ownBlock) (.slice (some ad194) x10_3.length co86) x10_3) := ⟨h1_⟩
                      have n2_ : Aside0 (Kd.R (Kd.int .u64) 42 w89 w.heap.size (fun k_ => some k_ ≠ (v197 : Value).ownBlock) (.slice Ao84 x164001_3.length co84) x164001_3) := ⟨h2_⟩
                      have n3_ : Aside0 (Kd.R (Kd.int .i64) 3 w89 w.heap.size (fun k_ => some k_ ≠ (.slice (some ad194) x10_3.length co86 : Value).ownBlock) (.slice (some ad193) x9_3.length co83) x9_3) := ⟨h3_⟩
                      have n4_ : Aside0 (w89.heap[gb163]? = some (.cells #[.int .i64 x164000_3, .slice Ao84 x164001_3.length co84] 44 (0, 0))) := ⟨h4_⟩
                      have n5_ : Aside0 (w89.heap[gb200]? = some (.cells #[.int .i64 0, .slice none 0 0] 44 (0, 0))) := ⟨h5_⟩
                      have n6_ : Aside0 (w.heap.size ≤ gb200) := ⟨h6_⟩
                      have n7_ : Aside0 (w.heap.size ≤ gb200) := ⟨h7_⟩
                      have n8_ : Aside0 (gb163 ≠ gb200) := ⟨h8_⟩
                      have n9_ : Aside0 (gb200 ≠ gb163) := ⟨h9_⟩
                      have n10_ : Aside0 (Below w.heap.size w w89) := ⟨h10_⟩
                      clear HO_9
                      clear HO_10
                      clear HO_164001
                      clear BK163
                      clear HB
                      clear h0_ h1_ h2_ h3_ h4_ h5_ h6_ h7_ h8_ h9_ h10_
                      have HO198 := n0_
                      have HO_10 := n1_
                      have HO_164001 := n2_
                      have HO_9 := n3_
                      have BK163 := n4_
                      have BK200 := n5_
                      have GW200 := n6_
                      have GE200 := n7_
                      have NB163_200 := n8_
                      have NB200_163 := n9_
                      have HB := n10_
                      clear n0_ n1_ n2_ n3_ n4_ n5_ n6_ n7_ n8_ n9_ n10_
                      have hHeld : w89.cell? ⟨gb163, 0, none⟩ = some (.int .i64 x164000_3) ∧ w89.cell? ⟨gb163, 1, none⟩ = some (.slice Ao84 x164001_3.length co84) ∧ w89.cell? (ad193.add ((ji75)).toNat) = some (.int .i64 (rd x9_3 (ji75))) ∧ w89.cell? (ad194.add ((ji75)).toNat) = some (.int .i64 (rd x10_3 (ji75))) := hS_
                      obtain ⟨Ao91, co91, eo91⟩ := Kd.R_slice HO198.out
                      (first | subst eo91 | (injection eo91 with f1_ f2_ f3_; have f4_ := f1_.symm; have f5_ := f3_.symm; clear f1_ f2_ f3_; subst f4_; subst f5_))
                      refine norm_ (a' := ?_) ?_ ?_
                      rotate_left
                      · simp only [putAll, Act.put, List.setIfInBounds_toArray, List.set_cons_zero, List.set_cons_succ]
                        rfl
                      refine one_ (i := 14) (N := none) #[true, true, true, true, true, true, true, true, true, true, true, true, true, true, true, false] rfl rfl (one_of HT_.out (by kernel_rfl)) (by decide) (fun K hK => ?_)
                      have hs90 : w89.cell? ⟨gb200, 0, none⟩ = some (.int .i64 0) := (blk_cell BK200.out 0).trans rfl
                      have hfs90 := blk_frozen BK200.out 0
                      have hns90_0 := NB163_200.out
                      have hms90_0 := NB200_163.out
                      have hs92 : w89.cell? ⟨gb200, 1, none⟩ = some (.slice none 0 0) := (blk_cell BK200.out 1).trans rfl
                      have hfs92 := blk_frozen BK200.out 1
                      have hns92_0 := NB163_200.out
                      have hms92_0 := NB200_163.out
                      refine skip_ (w1 := ?_) (by rfl) rfl ?_ ?_
                      rotate_left
                      · go_simp
                        rfl
                      refine hK.out _ _ ⟨((cell_far (p := ⟨gb200, _, none⟩) NB163_200.out _).trans (((cell_far (p := ⟨gb200, _, none⟩) NB163_200.out _).trans (hHeld.1)))), ((cell_far (p := ⟨gb200, _, none⟩) NB163_200.out _).trans (((cell_far (p := ⟨gb200, _, none⟩) NB163_200.out _).trans (hHeld.2.1)))), ((cell_far (p := ⟨gb200, _, none⟩) (by first | exact Kd.own_blk (Kd.R_ne HO_9.out BK200.out (by decide)) | (rw [add_block]; exact Kd.own_blk (Kd.R_ne HO_9.out BK200.out (by decide))) | (show (Addr.add _ _).block ≠ _; rw [add_block]; exact Kd.own_blk (Kd.R_ne HO_9.out BK200.out (by decide))) | (dsimp only; exact Kd.own_blk (Kd.R_ne HO_9.out BK200.out (by decide)))) _).trans (((cell_far (p := ⟨gb200, _, none⟩) (by first | exact Kd.own_blk (Kd.R_ne HO_9.out BK200.out (by decide)) | (rw [add_block]; exact Kd.own_blk (Kd.R_ne HO_9.out BK200.out (by decide))) | (show (Addr.add _ _).block ≠ _; rw [add_block]; exact Kd.own_blk (Kd.R_ne HO_9.out BK200.out (by decide))) | (dsimp only; exact Kd.own_blk (Kd.R_ne HO_9.out BK200.out (by decide)))) _).trans (hHeld.2.2.1)))), ((cell_far (p := ⟨gb200, _, none⟩) (by first | exact Kd.own_blk (Kd.R_ne HO_10.out BK200.out (by decide)) | (rw [add_block]; exact Kd.own_blk (Kd.R_ne HO_10.out BK200.out (by decide))) | (show (Addr.add _ _).block ≠ _; rw [add_block]; exact Kd.own_blk (Kd.R_ne HO_10.out BK200.out (by decide))) | (dsimp only; exact Kd.own_blk (Kd.R_ne HO_10.out BK200.out (by decide)))) _).trans (((cell_far (p := ⟨gb200, _, none⟩) (by first | exact Kd.own_blk (Kd.R_ne HO_10.out BK200.out (by decide)) | (rw [add_block]; exact Kd.own_blk (Kd.R_ne HO_10.out BK200.out (by decide))) | (show (Addr.add _ _).block ≠ _; rw [add_block]; exact Kd.own_blk (Kd.R_ne HO_10.out BK200.out (by decide))) | (dsimp only; exact Kd.own_blk (Kd.R_ne HO_10.out BK200.out (by decide)))) _).trans (hHeld.2.2.2))))⟩ (fun hHeld => ?_)
                      clear hK K
                      refine pure_ (i := 15) (N := some 25) (v := ?_) (a' := ?_) #[true, true, true, true, true, true, true, true, true, true, true, true, true, true, true, true] rfl rfl (any_of HT_.out (by kernel_rfl)) (fun _ _ _ h => h) (Or.inl ⟨by rfl, ?_⟩) ?_ ?_
                      rotate_left
                      · intro w'
                        go_simp
                        with_reducible rfl
                      rotate_left
                      · simp only [Act.put, List.setIfInBounds_toArray, List.set_cons_zero, List.set_cons_succ, i64_w, i32_w]
                        rfl
                      refine done_ (done_of HT_.out (by kernel_rfl)) ?_
                      have hnb93 := NB200_163.out
                      have hnc93 := NB163_200.out
                      have hcz94_0 : w89.cell? ⟨gb200, 0, none⟩ = some (.int .i64 0) := (blk_cell BK200.out 0).trans rfl
                      have hcz94_1 : w89.cell? ⟨gb200, 1, none⟩ = some (.slice none 0 0) := (blk_cell BK200.out 1).trans rfl
                      have hfz94_0 := blk_frozen BK200.out 0
                      have hfz94_1 := blk_frozen BK200.out 1
                      try go_wp2_with fail
                      have hk0_ : (0 : Int) ≤ ji75 := (of_decide_eq_true (by first | (with_reducible assumption) | assumption))
                      have hk1_ : ji75 < (x9_3.length : Int) := (of_decide_eq_true (by first | (with_reducible assumption) | assumption))
                      have hk2_ : ji75 < (x10_3.length : Int) := (of_decide_eq_true (by first | (with_reducible assumption) | assumption))
                      have hL9_ : x9_3.length + 1 < 17592186044416 := by have h_ := LMc81.out; rw [Ny201.out] at h_; simpa using h_
                      have hL10_ : x10_3.length + 1 < 17592186044416 := by have h_ := LMc82.out; rw [Ny207.out] at h_; simpa using h_
                      have z9_ : Kd.R (Kd.int .i64) 3 ((w89.setCell ⟨gb200, 0, none⟩ (.int .i64 t195)).setCell ⟨gb200, 1, none⟩ (.slice Ao91 t196.length co91)) w.heap.size (fun _ => True) (.slice (some ad193) x9_3.length co83) x9_3 := Kd.R_mono (Kd.R_far (p := ⟨gb200, 1, none⟩) (Kd.R_far (p := ⟨gb200, 0, none⟩) (Kd.R_types HO_9.out BK200.out (by decide)) (fun _ hk => hk.2) (.int .i64 t195)) (fun _ hk => hk.2) (.slice Ao91 t196.length co91)) (fun _ _ => trivial)
                      have z10_ : Kd.R (Kd.int .i64) 3 ((w89.setCell ⟨gb200, 0, none⟩ (.int .i64 t195)).setCell ⟨gb200, 1, none⟩ (.slice Ao91 t196.length co91)) w.heap.size (fun _ => True) (.slice (some ad194) x10_3.length co86) x10_3 := Kd.R_mono (Kd.R_far (p := ⟨gb200, 1, none⟩) (Kd.R_far (p := ⟨gb200, 0, none⟩) (Kd.R_types HO_10.out BK200.out (by decide)) (fun _ hk => hk.2) (.int .i64 t195)) (fun _ hk => hk.2) (.slice Ao91 t196.length co91)) (fun _ _ => trivial)
                      have zr_ := Aside0.mk (show Kd.R (Kd.int .u64) 42 ((w89.setCell ⟨gb200, 0, none⟩ (.int .i64 t195)).setCell ⟨gb200, 1, none⟩ (.slice Ao91 t196.length co91)) w.heap.size (fun _ => True) (.slice Ao91 t196.length co91) t196 from Kd.R_mono (Kd.R_far (p := ⟨gb200, 1, none⟩) (Kd.R_far (p := ⟨gb200, 0, none⟩) (Kd.R_types HO198.out BK200.out (by decide)) (fun _ hk => hk.2) (.int .i64 t195)) (fun _ hk => hk.2) (.slice Ao91 t196.length co91)) (fun _ _ => trivial))
                      have zp_ := Aside0.mk (show ((w89.setCell ⟨gb200, 0, none⟩ (.int .i64 t195)).setCell ⟨gb200, 1, none⟩ (.slice Ao91 t196.length co91)).heap[gb163]? = some (.cells #[.int .i64 x164000_3, .slice Ao84 x164001_3.length co84] 44 (0, 0)) from blk_far (blk_far BK163.out NB163_200.out _) NB163_200.out _)
                      have zq_ : ((w89.setCell ⟨gb200, 0, none⟩ (.int .i64 t195)).setCell ⟨gb200, 1, none⟩ (.slice Ao91 t196.length co91)).heap[gb200]? = some (.cells #[.int .i64 t195, .slice Ao91 t196.length co91] 44 (0, 0)) := blk_put (cs := #[.int .i64 t195, .slice none 0 0]) (blk_put (cs := #[.int .i64 0, .slice none 0 0]) BK200.out 0 _ rfl) 1 _ rfl
                      have zB_ := Aside0.mk (show Below w.heap.size w ((w89.setCell ⟨gb200, 0, none⟩ (.int .i64 t195)).setCell ⟨gb200, 1, none⟩ (.slice Ao91 t196.length co91)) from below_set (below_set HB.out GE200.out) GE200.out)
                      refine reg_at (o' := opsOf Tryd.f14 35) (by kernel_rfl) (reg35 (base := w.heap.size) z9_ z10_ zp_.out zq_ (fun _ _ _ _ _ h => h) hk0_ hk1_ hk2_ hL9_ hL10_ ?_)
                      intro v164 v174 wE s154 s155 s156 s157 s158 s159 s160 s161 s162 s163 s164 s165 s166 s167 s168 s169 s170 s171 s172 s173 s174 h9_ h10_ FA_ hb_
                      have zw_ := Aside0.mk hb_
                      have zF_ := Aside0.mk FA_
                      have e9_ := Aside0.mk (show y204 = x9_3.take (ji75).toNat ++ x9_3.drop ((ji75).toNat + 1) from by rw [Ny204.out, Ny201.out]; rfl)
                      have e10_ := Aside0.mk (show y210 = x10_3.take (ji75).toNat ++ x10_3.drop ((ji75).toNat + 1) from by rw [Ny210.out, Ny207.out]; rfl)
                      have z9 := Aside0.mk (Kd.R_lower h9_ (below_size zB_.out))
                      have z10 := Aside0.mk (Kd.R_lower h10_ (below_size zB_.out))
                      rw [← e9_.out] at z9
                      rw [← e10_.out] at z10
                      clear z9_ z10_ zq_ hk0_ hk1_ hk2_ hL9_ hL10_ h9_ h10_ FA_ hb_ e9_ e10_
                      try go_wp2_with fail
                      go_roundg k3
                      case measure => have := HK1.out; have := HJ61.out; have := HK3.out; omega
                      case rel => exact ⟨y204, y210, (wrap64 (x22_3 + 1)), t195, t196, (.slice Ao91 t196.length co91), (by first | rfl | (simp; done) | (simp [*]; done)), H', ⟨by have := HK1.out; have := HJ61.out; have := HK3.out; omega⟩, ⟨by (with_reducible repeat (first | apply Kd.R_alloc | apply Kd.R_drewN | apply Kd.R_drew)); refine Kd.R_reok rfl (Kd.R_far (p := ⟨gb163, 1, none⟩) (Kd.R_far (p := ⟨gb163, 0, none⟩) (Kd.R_types z9.out (blk_below zp_.out zw_.out) (by decide)) (fun _ hk => hk.2) (.int .i64 t195)) (fun _ hk => hk.2) (.slice Ao91 t196.length co91)) (fun k_ hk => zF_.out.symm k_ hk)⟩, ⟨by (with_reducible repeat (first | apply Kd.R_alloc | apply Kd.R_drewN | apply Kd.R_drew)); refine Kd.R_reok rfl (Kd.R_far (p := ⟨gb163, 1, none⟩) (Kd.R_far (p := ⟨gb163, 0, none⟩) (Kd.R_types z10.out (blk_below zp_.out zw_.out) (by decide)) (fun _ hk => hk.2) (.int .i64 t195)) (fun _ hk => hk.2) (.slice Ao91 t196.length co91)) (fun k_ hk => zF_.out k_ hk)⟩, ⟨by (with_reducible repeat (first | apply Kd.R_alloc | apply Kd.R_drewN | apply Kd.R_drew)); refine Kd.R_reok rfl (Kd.R_far (p := ⟨gb163, 1, none⟩) (Kd.R_far (p := ⟨gb163, 0, none⟩) (Kd.R_types (Kd.R_below zr_.out zw_.out) (blk_below zp_.out zw_.out) (by decide)) (fun _ hk => hk.2) (.int .i64 t195)) (fun _ hk => hk.2) (.slice Ao91 t196.length co91)) (fun _ _ => trivial)⟩, ⟨by (with_reducible repeat (first | refine blk_drewN ?_ _ | refine blk_drew ?_ | refine blk_alloc ?_ _)); exact blk_put (cs := #[.int .i64 t195, .slice Ao84 x164001_3.length co84]) (blk_put (cs := #[.int .i64 x164000_3, .slice Ao84 x164001_3.length co84]) (blk_below zp_.out zw_.out) 0 _ rfl) 1 _ rfl⟩, ⟨by repeat (first | exact below_step zB_.out zw_.out | apply pw_below_drewN | apply below_drew1 | refine below_set ?_ GE163.out)⟩⟩
                    rw [if_pos c74] at H
                    exact absurd H (by simp)
                  rw [if_pos c70] at H
                  exact absurd H (by simp)
            subst c67
            have H1 : (some false) = some r := by rw [if_pos rfl] at H; exact H
            clear H
            have H := H1
            clear H1
            exact absurd ((Option.some.inj H).trans HLAW.out) (by decide)
      rw [if_pos c13] at H
      have c13b0 : decide (x45_1 < (l1.length : Int)) = true := decide_eq_true c13
      clear c13
      by_cases c14 : 0 ≤ x45_1
      rotate_left
      · rw [if_neg c14] at H
        exact absurd H (by simp)
      rw [if_pos c14] at H
      have c14b0 : decide (0 ≤ x45_1) = true := decide_eq_true c14
      clear c14
      by_cases c15 : x45_1 < (l1.length : Int)
      rotate_left
      · rw [if_neg c15] at H
        exact absurd H (by simp)
      rw [if_pos c15] at H
      have c15b0 : decide (x45_1 < (l1.length : Int)) = true := decide_eq_true c15
      clear c15
      replace H := Option.bind_eq_some_iff.mp H
      obtain ⟨⟨t165, t166⟩, A160, H⟩ := H
      replace H : (if x45_1 = 20 then (besomtop_TopHeld.j1 k1 a0 l1 l2 x9_1 x10_1 x11_1 t165 (l1.length : Int) x45_1 true x164000_1 x164001_1) else (besomtop_TopHeld.j1 k1 a0 l1 l2 x9_1 x10_1 x11_1 t165 (l1.length : Int) x45_1 (t166 != 0) x164000_1 x164001_1)) = some r := H
      have A16 := Aside0.mk A160
      clear A160
      have HC17 := Aside0.mk H
      clear H
      have p164 : 0 ≤ (x45_1 : Int) := of_decide_eq_true (by first | (with_reducible assumption) | assumption)
      have q164 : x45_1 < (l1.length : Int) := of_decide_eq_true (by first | (with_reducible assumption) | assumption)
      obtain ⟨ad164, e164, hx164_0⟩ := Kd.at_int HR1.out x45_1 p164 q164
      cases e164
      replace hx164_0 := (HB.out.cell (World.block_lt_of_cell? w _ hx164_0)).trans hx164_0
      replace p164 := eq_true p164
      replace q164 := eq_true q164
      go_upto_region 12 with (first | ((with_reducible refine gate_callee (f := 41) rfl ?_); refine goesL_ (some 52) rfl rfl Tryd.func41 (by kernel_rfl) rfl #[.int .i64 (rd l1 x45_1)] rfl (by (try simp only [List.map_toArray, List.map_cons, List.map_nil]); first | done | rfl | (simp only [List.length_drop, List.length_take]; rfl)) ?_; (with_reducible refine (class_Pages.calls k1 (rd l1 x45_1) t165 t166 _ A16.out).mono ?_); rintro e w18 ⟨rfl, hb⟩; refine ⟨_, rfl, ?_⟩; have n0_ := Aside0.mk (Kd.R_below (by (with_reducible repeat (first | apply Kd.R_alloc | apply Kd.R_drewN | apply Kd.R_drew)); exact HO_9.out) hb); have n1_ := Aside0.mk (Kd.R_below (by (with_reducible repeat (first | apply Kd.R_alloc | apply Kd.R_drewN | apply Kd.R_drew)); exact HO_10.out) hb); have n2_ := Aside0.mk (Kd.R_below (by (with_reducible repeat (first | apply Kd.R_alloc | apply Kd.R_drewN | apply Kd.R_drew)); exact HO_164001.out) hb); have n3_ := Aside0.mk (blk_below (g := gb163) (o := .cells #[.int .i64 x164000_1, u164001] 44 (0, 0)) (by (with_reducible repeat (first | refine blk_drewN ?_ _ | refine blk_drew ?_ | refine blk_alloc ?_ _)); exact BK163.out) hb); have n4_ := Aside0.mk (below_step (by repeat (first | (with_reducible first | exact HB.out | apply below_alloc | apply pw_below_drewN | apply below_drew1 | refine below_set ?_ GE163.out) | exact HB.out)) hb); clear HO_9; clear HO_10; clear HO_164001; clear BK163; clear HB; have HO_9 := n0_; have HO_10 := n1_; have HO_164001 := n2_; have BK163 := n3_; have HB := n4_; clear n0_ n1_ n2_ n3_ n4_; (try clear hb); (try clear hb2); (try clear hk); (try clear hi)))
      (try simp only [Act.put, List.setIfInBounds_toArray, List.set_cons_zero, List.set_cons_succ])
      go_cut [60] (fun v60 wc => ∃ (kq : Nat) (x60_16 : Bool), v60 = .bool x60_16 ∧ Aside0 (besomtop_TopHeld.j1 kq a0 l1 l2 x9_1 x10_1 x11_1 t165 (l1.length : Int) x45_1 x60_16 x164000_1 x164001_1 = some r) ∧ Aside0 (kq ≤ k1) ∧ Aside0 (Kd.R (Kd.int .i64) 3 wc w.heap.size (fun k_ => some k_ ≠ (u10 : Value).ownBlock) u9 x9_1) ∧ Aside0 (Kd.R (Kd.int .i64) 3 wc w.heap.size (fun k_ => some k_ ≠ (u9 : Value).ownBlock) u10 x10_1) ∧ Aside0 (Kd.R (Kd.int .u64) 42 wc w.heap.size (fun _ => True) u164001 x164001_1) ∧ Aside0 (wc.heap[gb163]? = some (.cells #[.int .i64 x164000_1, u164001] 44 (0, 0))) ∧ Aside0 (Below w.heap.size w wc))
      case first =>
        have H := HC17.out
        clear HC17
        by_cases c19 : x45_1 = 20
        rotate_left
        · rw [if_neg c19] at H
          have c19b0 : (x45_1 == 20) = false := beq_eq_false_iff_ne.mpr c19
          have c19b1 : (x45_1 != 20) = true := bne_iff_ne.mpr c19
          (first | rw [c19b0] | (simp only [i64_w, i32_w]; rw [c19b0]) | skip)
          have H' := Aside0.mk H
          clear H
          go_wp2
          go_meet
          case rel => exact ⟨_, ((t166 != 0)), (by first | rfl | (simp; done) | (simp [*]; done)), H', ⟨by have := HK1.out; first | omega | exact Nat.le_refl _⟩, ⟨by (with_reducible repeat (first | apply Kd.R_alloc | apply Kd.R_drewN | apply Kd.R_drew)); exact HO_9.out⟩, ⟨by (with_reducible repeat (first | apply Kd.R_alloc | apply Kd.R_drewN | apply Kd.R_drew)); exact HO_10.out⟩, ⟨by (with_reducible repeat (first | apply Kd.R_alloc | apply Kd.R_drewN | apply Kd.R_drew)); exact HO_164001.out⟩, ⟨by (with_reducible repeat (first | refine blk_drewN ?_ _ | refine blk_drew ?_ | refine blk_alloc ?_ _)); exact BK163.out⟩, ⟨by repeat (first | (with_reducible first | exact HB.out | apply below_alloc | apply pw_below_drewN | apply below_drew1 | refine below_set ?_ GE163.out) | exact HB.out)⟩⟩
        rw [if_pos c19] at H
        have c19b0 : (x45_1 == 20) = true := beq_iff_eq.mpr c19
        have c19b1 : (x45_1 != 20) = false := bne_eq_false_iff_eq.mpr c19
        clear c19
        (first | rw [c19b0] | (simp only [i64_w, i32_w]; rw [c19b0]) | skip)
        have H' := Aside0.mk H
        clear H
        go_wp2
        go_meet
        case rel => exact ⟨_, (true), (by first | rfl | (simp; done) | (simp [*]; done)), H', ⟨by have := HK1.out; first | omega | exact Nat.le_refl _⟩, ⟨by (with_reducible repeat (first | apply Kd.R_alloc | apply Kd.R_drewN | apply Kd.R_drew)); exact HO_9.out⟩, ⟨by (with_reducible repeat (first | apply Kd.R_alloc | apply Kd.R_drewN | apply Kd.R_drew)); exact HO_10.out⟩, ⟨by (with_reducible repeat (first | apply Kd.R_alloc | apply Kd.R_drewN | apply Kd.R_drew)); exact HO_164001.out⟩, ⟨by (with_reducible repeat (first | refine blk_drewN ?_ _ | refine blk_drew ?_ | refine blk_alloc ?_ _)); exact BK163.out⟩, ⟨by repeat (first | (with_reducible first | exact HB.out | apply below_alloc | apply pw_below_drewN | apply below_drew1 | refine below_set ?_ GE163.out) | exact HB.out)⟩⟩
      case rest =>
        clear HC17
        try clear c1
        try clear p1
        try clear q1
        try clear hx1
        try clear c2
        try clear p2
        try clear c3
        try clear c4
        try clear c5
        try clear c7
        try clear c7b0
        try clear c7b1
        try clear c13
        try clear c13b0
        try clear c14
        try clear c14b0
        try clear c15
        try clear c15b0
        try clear p16
        try clear q16
        try clear hx16
        try clear c19
        try clear c19b0
        try clear c19b1
        try clear hcz11_0
        try clear hcz11_1
        try clear hfz11_0
        try clear hfz11_1
        try clear hx164_0
        try clear p164
        try clear p2
        try clear q164
        obtain ⟨kq, x60_16, rfl, HA, HJ16, HO_9, HO_10, HO_164001, BK163, HB⟩ := hcut
        cases kq with
        | zero => exact absurd HA.out (by simp [besomtop_TopHeld.j1])
        | succ kj16 =>
          have H := HA.out
          clear HA
          simp only [besomtop_TopHeld.j1] at H
          by_cases c20 : x60_16 = true
          rotate_left
          · replace c20 := Bool.eq_false_iff.mpr c20
            subst c20
            have H1 : ((pages_Take.f kj16 x164000_1 x164001_1 t165).bind fun bt167 => (if bt167.2.2.2 = 0 then (besomtop_TopHeld.l1 kj16 a0 l1 l2 x9_1 x10_1 x11_1 t165 bt167.2.2.1 (l1.length : Int) x45_1 (x9_1.length : Int) 0 bt167.1 bt167.2.1) else (besomtop_TopHeld.l0 kj16 a0 l1 l2 x9_1 x10_1 x11_1 (l1.length : Int) (wrap64 (x45_1 + 1)) x164000_1 x164001_1))) = some r := by rw [if_neg (show ¬ (false = true) by decide)] at H; exact H
            clear H
            have H := H1
            clear H1
            replace H := Option.bind_eq_some_iff.mp H
            obtain ⟨⟨t167, t168, t171, t172⟩, A210, H⟩ := H
            replace H : (if t172 = 0 then (besomtop_TopHeld.l1 kj16 a0 l1 l2 x9_1 x10_1 x11_1 t165 t171 (l1.length : Int) x45_1 (x9_1.length : Int) 0 t167 t168) else (besomtop_TopHeld.l0 kj16 a0 l1 l2 x9_1 x10_1 x11_1 (l1.length : Int) (wrap64 (x45_1 + 1)) x164000_1 x164001_1)) = some r := H
            have A21 := Aside0.mk A210
            clear A210
            by_cases c22 : t172 = 0
            rotate_left
            · rw [if_neg c22] at H
              have c22b0 : (t172 == 0) = false := beq_eq_false_iff_ne.mpr c22
              have c22b1 : (t172 != 0) = true := bne_iff_ne.mpr c22
              have H' := Aside0.mk H
              clear H
              have hcz54_0 : wc.cell? ⟨gb163, 0, none⟩ = some (.int .i64 x164000_1) := (blk_cell BK163.out 0).trans rfl
              have hcz54_1 : wc.cell? ⟨gb163, 1, none⟩ = some (u164001) := (blk_cell BK163.out 1).trans rfl
              have hfz54_0 := blk_frozen BK163.out 0
              have hfz54_1 := blk_frozen BK163.out 1
              obtain ⟨Ao55, co55, eo55⟩ := Kd.R_slice HO_164001.out
              subst eo55
              go_wp2_with (first | ((with_reducible refine gate_callee (f := 26) rfl ?_); refine goesL_ (some 64) rfl rfl Tryd.func26 (by kernel_rfl) rfl #[.agg #[.int .i64 x164000_1, .slice Ao55 x164001_1.length co55], .int .i64 t165] rfl (by (try simp only [List.map_toArray, List.map_cons, List.map_nil]); first | done | rfl | (simp only [List.length_drop, List.length_take]; rfl)) ?_; (with_reducible refine (pages_Take.calls kj16 x164000_1 _ _ x164001_1 t165 t167 t168 t171 t172 _ ?side1 ?side2 ?side3 A21.out).mono ?_); (case side1 => repeat (first | exact (Kd.R_reads' HO_164001.out).2.2 | (with_reducible refine Kd.C_alloc ?_ _) | (with_reducible refine Kd.C_drewN ?_ _) | (with_reducible refine Kd.C_drew ?_))); (case side2 => exact (Kd.R_reads' HO_164001.out).2.1); (case side3 => repeat (first | exact HT.out | exact TzOk.below HT.out (by repeat (first | (with_reducible first | exact HB.out | apply below_alloc | apply pw_below_drewN | apply below_drew1 | refine below_set ?_ GE163.out) | exact HB.out)) | (with_reducible refine TzOk.alloc ?_ _) | (with_reducible refine TzOk.drewN ?_ _) | (with_reducible refine TzOk.drew ?_))); rintro e w56 ⟨v169, rfl, ho0, hb⟩; refine ⟨_, rfl, ?_⟩; have n0_ := Aside0.mk (Kd.R_below (by (with_reducible repeat (first | apply Kd.R_alloc | apply Kd.R_drewN | apply Kd.R_drew)); exact HO_9.out) hb); have n1_ := Aside0.mk (Kd.R_below (by (with_reducible repeat (first | apply Kd.R_alloc | apply Kd.R_drewN | apply Kd.R_drew)); exact HO_10.out) hb); have n2_ := Aside0.mk (Kd.R_elder' (by (with_reducible repeat (first | apply Kd.R_alloc | apply Kd.R_drewN | apply Kd.R_drew)); exact HO_164001.out) (Kd.R_base ho0) hb); have n3_ := Aside0.mk (Kd.R_lower (Kd.R_new' ho0 (Kd.R_lt (by (with_reducible repeat (first | apply Kd.R_alloc | apply Kd.R_drewN | apply Kd.R_drew)); exact HO_164001.out))) (below_size (by repeat (first | (with_reducible first | exact HB.out | apply below_alloc | apply pw_below_drewN | apply below_drew1 | refine below_set ?_ GE163.out) | exact HB.out)))); have n4_ := Aside0.mk (blk_below (g := gb163) (o := .cells #[.int .i64 x164000_1, .slice Ao55 x164001_1.length co55] 44 (0, 0)) (by (with_reducible repeat (first | refine blk_drewN ?_ _ | refine blk_drew ?_ | refine blk_alloc ?_ _)); exact BK163.out) hb); have n5_ := Aside0.mk (below_step (by repeat (first | (with_reducible first | exact HB.out | apply below_alloc | apply pw_below_drewN | apply below_drew1 | refine below_set ?_ GE163.out) | exact HB.out)) hb); clear HO_9; clear HO_10; clear HO_164001; clear BK163; clear HB; have HO_9 := n0_; have HO_10 := n1_; have HO_164001 := n2_; have HO170 := n3_; have BK163 := n4_; have HB := n5_; clear n0_ n1_ n2_ n3_ n4_ n5_; (try clear hb); (try clear hb2); (try clear hk); (try clear hi); (try clear ho0)) | ((with_reducible refine gate_dst (N := 16) rfl ?_); refine box_event ?hg (N := 16) ?hd (cs := #[.int .i64 0, .slice none 0 0]) (t := 44) ?hr ?_; (case hd => rfl); (case hg => rfl); (case hr => first | (go_simp; done) | (go_simp; rfl)); intro gb173 hg w57 hbox hb; have n0_ := Aside0.mk (Kd.R_below (by (with_reducible repeat (first | apply Kd.R_alloc | apply Kd.R_drewN | apply Kd.R_drew)); exact HO_9.out) hb); have n1_ := Aside0.mk (Kd.R_below (by (with_reducible repeat (first | apply Kd.R_alloc | apply Kd.R_drewN | apply Kd.R_drew)); exact HO_10.out) hb); have n2_ := Aside0.mk (Kd.R_below (by (with_reducible repeat (first | apply Kd.R_alloc | apply Kd.R_drewN | apply Kd.R_drew)); exact HO_164001.out) hb); have n3_ := Aside0.mk (Kd.R_below (by (with_reducible repeat (first | apply Kd.R_alloc | apply Kd.R_drewN | apply Kd.R_drew)); exact HO170.out) hb); have n4_ := Aside0.mk (blk_below (g := gb163) (o := .cells #[.int .i64 x164000_1, .slice Ao55 x164001_1.length co55] 44 (0, 0)) (by (with_reducible repeat (first | refine blk_drewN ?_ _ | refine blk_drew ?_ | refine blk_alloc ?_ _)); exact BK163.out) hb); have n5_ := Aside0.mk (below_step (by repeat (first | (with_reducible first | exact HB.out | apply below_alloc | apply pw_below_drewN | apply below_drew1 | refine below_set ?_ GE163.out) | exact HB.out)) hb); have n6_ := Aside0.mk (hbox); have n7_ := Aside0.mk ((by rw [hg]; exact (below_size (by repeat (first | (with_reducible first | exact HB.out | apply below_alloc | apply pw_below_drewN | apply below_drew1 | refine below_set ?_ GE163.out) | exact HB.out))) : w.heap.size ≤ gb173)); have n8_ := Aside0.mk ((by rw [hg]; exact (below_size (by repeat (first | (with_reducible first | exact HB.out | apply below_alloc | apply pw_below_drewN | apply below_drew1 | refine below_set ?_ GE163.out) | exact HB.out))) : w.heap.size ≤ gb173)); have n9_ := Aside0.mk ((by rw [hg]; exact Nat.ne_of_lt (blk_lt (g := gb163) (o := .cells #[.int .i64 x164000_1, .slice Ao55 x164001_1.length co55] 44 (0, 0)) (by (with_reducible repeat (first | refine blk_drewN ?_ _ | refine blk_drew ?_ | refine blk_alloc ?_ _)); exact BK163.out)) : gb163 ≠ gb173)); have n10_ := Aside0.mk ((by rw [hg]; exact Nat.ne_of_gt (blk_lt (g := gb163) (o := .cells #[.int .i64 x164000_1, .slice Ao55 x164001_1.length co55] 44 (0, 0)) (by (with_reducible repeat (first | refine blk_drewN ?_ _ | refine blk_drew ?_ | refine blk_alloc ?_ _)); exact BK163.out)) : gb173 ≠ gb163)); clear HO_9; clear HO_10; clear HO_164001; clear HO170; clear BK163; clear HB; have HO_9 := n0_; have HO_10 := n1_; have HO_164001 := n2_; have HO170 := n3_; have BK163 := n4_; have HB := n5_; have BK173 := n6_; have GW173 := n7_; have GE173 := n8_; have NB163_173 := n9_; have NB173_163 := n10_; clear n0_ n1_ n2_ n3_ n4_ n5_ n6_ n7_ n8_ n9_ n10_; clear hb hbox hg; have hnb58 := NB173_163.out; have hnc58 := NB163_173.out; have hcz59_0 : w57.cell? ⟨gb173, 0, none⟩ = some (.int .i64 0) := (blk_cell BK173.out 0).trans rfl; have hcz59_1 : w57.cell? ⟨gb173, 1, none⟩ = some (.slice none 0 0) := (blk_cell BK173.out 1).trans rfl; have hfz59_0 := blk_frozen BK173.out 0; have hfz59_1 := blk_frozen BK173.out 1; obtain ⟨Ao60, co60, eo60⟩ := Kd.R_slice HO170.out; subst eo60))
              go_roundg kj16
              case measure => have := HK1.out; have := HJ16.out; omega
              case rel => exact ⟨(x9_1), (x10_1), (x11_1), (wrap64 (x45_1 + 1)), (x164000_1), (x164001_1), (.slice Ao55 x164001_1.length co55), (by first | rfl | (simp; done) | (simp [*]; done)), (by first | rfl | (simp; done) | (simp [*]; done)), H', ⟨by have := HK1.out; have := HJ16.out; omega⟩, ⟨by (with_reducible repeat (first | apply Kd.R_alloc | apply Kd.R_drewN | apply Kd.R_drew)); exact Kd.R_mono (Kd.R_far (p := ⟨gb173, 1, none⟩) (Kd.R_far (p := ⟨gb173, 0, none⟩) (Kd.R_types HO_9.out BK173.out (by decide)) (fun _ hk => hk.2) (.int .i64 t167)) (fun _ hk => hk.2) (.slice Ao60 t168.length co60)) (fun _ hk => hk.1)⟩, ⟨by (with_reducible repeat (first | apply Kd.R_alloc | apply Kd.R_drewN | apply Kd.R_drew)); exact Kd.R_mono (Kd.R_far (p := ⟨gb173, 1, none⟩) (Kd.R_far (p := ⟨gb173, 0, none⟩) (Kd.R_types HO_10.out BK173.out (by decide)) (fun _ hk => hk.2) (.int .i64 t167)) (fun _ hk => hk.2) (.slice Ao60 t168.length co60)) (fun _ hk => hk.1)⟩, ⟨by (with_reducible repeat (first | apply Kd.R_alloc | apply Kd.R_drewN | apply Kd.R_drew)); exact Kd.R_mono (Kd.R_far (p := ⟨gb173, 1, none⟩) (Kd.R_far (p := ⟨gb173, 0, none⟩) (Kd.R_types HO_164001.out BK173.out (by decide)) (fun _ hk => hk.2) (.int .i64 t167)) (fun _ hk => hk.2) (.slice Ao60 t168.length co60)) (fun _ hk => trivial)⟩, ⟨by (with_reducible repeat (first | refine blk_drewN ?_ _ | refine blk_drew ?_ | refine blk_alloc ?_ _)); refine blk_far ?_ NB163_173.out _; (with_reducible repeat (first | refine blk_drewN ?_ _ | refine blk_drew ?_ | refine blk_alloc ?_ _)); refine blk_far ?_ NB163_173.out _; (with_reducible repeat (first | refine blk_drewN ?_ _ | refine blk_drew ?_ | refine blk_alloc ?_ _)); exact BK163.out⟩, ⟨by repeat (first | (with_reducible first | exact HB.out | apply below_alloc | apply pw_below_drewN | apply below_drew1 | refine below_set ?_ GE163.out | refine below_set ?_ GE173.out) | exact HB.out)⟩⟩
            rw [if_pos c22] at H
            have c22b0 : (t172 == 0) = true := beq_iff_eq.mpr c22
            have c22b1 : (t172 != 0) = false := bne_eq_false_iff_eq.mpr c22
            clear c22
            have H' := Aside0.mk H
            clear H
            have hcz23_0 : wc.cell? ⟨gb163, 0, none⟩ = some (.int .i64 x164000_1) := (blk_cell BK163.out 0).trans rfl
            have hcz23_1 : wc.cell? ⟨gb163, 1, none⟩ = some (u164001) := (blk_cell BK163.out 1).trans rfl
            have hfz23_0 := blk_frozen BK163.out 0
            have hfz23_1 := blk_frozen BK163.out 1
            obtain ⟨Ao24, co24, eo24⟩ := Kd.R_slice HO_164001.out
            subst eo24
            go_wp2_with (first | ((with_reducible refine gate_callee (f := 26) rfl ?_); refine goesL_ (some 64) rfl rfl Tryd.func26 (by kernel_rfl) rfl #[.agg #[.int .i64 x164000_1, .slice Ao24 x164001_1.length co24], .int .i64 t165] rfl (by (try simp only [List.map_toArray, List.map_cons, List.map_nil]); first | done | rfl | (simp only [List.length_drop, List.length_take]; rfl)) ?_; (with_reducible refine (pages_Take.calls kj16 x164000_1 _ _ x164001_1 t165 t167 t168 t171 t172 _ ?side1 ?side2 ?side3 A21.out).mono ?_); (case side1 => repeat (first | exact (Kd.R_reads' HO_164001.out).2.2 | (with_reducible refine Kd.C_alloc ?_ _) | (with_reducible refine Kd.C_drewN ?_ _) | (with_reducible refine Kd.C_drew ?_))); (case side2 => exact (Kd.R_reads' HO_164001.out).2.1); (case side3 => repeat (first | exact HT.out | exact TzOk.below HT.out (by repeat (first | (with_reducible first | exact HB.out | apply below_alloc | apply pw_below_drewN | apply below_drew1 | refine below_set ?_ GE163.out) | exact HB.out)) | (with_reducible refine TzOk.alloc ?_ _) | (with_reducible refine TzOk.drewN ?_ _) | (with_reducible refine TzOk.drew ?_))); rintro e w25 ⟨v169, rfl, ho0, hb⟩; refine ⟨_, rfl, ?_⟩; have n0_ := Aside0.mk (Kd.R_below (by (with_reducible repeat (first | apply Kd.R_alloc | apply Kd.R_drewN | apply Kd.R_drew)); exact HO_9.out) hb); have n1_ := Aside0.mk (Kd.R_below (by (with_reducible repeat (first | apply Kd.R_alloc | apply Kd.R_drewN | apply Kd.R_drew)); exact HO_10.out) hb); have n2_ := Aside0.mk (Kd.R_elder' (by (with_reducible repeat (first | apply Kd.R_alloc | apply Kd.R_drewN | apply Kd.R_drew)); exact HO_164001.out) (Kd.R_base ho0) hb); have n3_ := Aside0.mk (Kd.R_lower (Kd.R_new' ho0 (Kd.R_lt (by (with_reducible repeat (first | apply Kd.R_alloc | apply Kd.R_drewN | apply Kd.R_drew)); exact HO_164001.out))) (below_size (by repeat (first | (with_reducible first | exact HB.out | apply below_alloc | apply pw_below_drewN | apply below_drew1 | refine below_set ?_ GE163.out) | exact HB.out)))); have n4_ := Aside0.mk (blk_below (g := gb163) (o := .cells #[.int .i64 x164000_1, .slice Ao24 x164001_1.length co24] 44 (0, 0)) (by (with_reducible repeat (first | refine blk_drewN ?_ _ | refine blk_drew ?_ | refine blk_alloc ?_ _)); exact BK163.out) hb); have n5_ := Aside0.mk (below_step (by repeat (first | (with_reducible first | exact HB.out | apply below_alloc | apply pw_below_drewN | apply below_drew1 | refine below_set ?_ GE163.out) | exact HB.out)) hb); clear HO_9; clear HO_10; clear HO_164001; clear BK163; clear HB; have HO_9 := n0_; have HO_10 := n1_; have HO_164001 := n2_; have HO170 := n3_; have BK163 := n4_; have HB := n5_; clear n0_ n1_ n2_ n3_ n4_ n5_; (try clear hb); (try clear hb2); (try clear hk); (try clear hi); (try clear ho0)) | ((with_reducible refine gate_dst (N := 16) rfl ?_); refine box_event ?hg (N := 16) ?hd (cs := #[.int .i64 0, .slice none 0 0]) (t := 44) ?hr ?_; (case hd => rfl); (case hg => rfl); (case hr => first | (go_simp; done) | (go_simp; rfl)); intro gb173 hg w26 hbox hb; have n0_ := Aside0.mk (Kd.R_below (by (with_reducible repeat (first | apply Kd.R_alloc | apply Kd.R_drewN | apply Kd.R_drew)); exact HO_9.out) hb); have n1_ := Aside0.mk (Kd.R_below (by (with_reducible repeat (first | apply Kd.R_alloc | apply Kd.R_drewN | apply Kd.R_drew)); exact HO_10.out) hb); have n2_ := Aside0.mk (Kd.R_below (by (with_reducible repeat (first | apply Kd.R_alloc | apply Kd.R_drewN | apply Kd.R_drew)); exact HO_164001.out) hb); have n3_ := Aside0.mk (Kd.R_below (by (with_reducible repeat (first | apply Kd.R_alloc | apply Kd.R_drewN | apply Kd.R_drew)); exact HO170.out) hb); have n4_ := Aside0.mk (blk_below (g := gb163) (o := .cells #[.int .i64 x164000_1, .slice Ao24 x164001_1.length co24] 44 (0, 0)) (by (with_reducible repeat (first | refine blk_drewN ?_ _ | refine blk_drew ?_ | refine blk_alloc ?_ _)); exact BK163.out) hb); have n5_ := Aside0.mk (below_step (by repeat (first | (with_reducible first | exact HB.out | apply below_alloc | apply pw_below_drewN | apply below_drew1 | refine below_set ?_ GE163.out) | exact HB.out)) hb); have n6_ := Aside0.mk (hbox); have n7_ := Aside0.mk ((by rw [hg]; exact (below_size (by repeat (first | (with_reducible first | exact HB.out | apply below_alloc | apply pw_below_drewN | apply below_drew1 | refine below_set ?_ GE163.out) | exact HB.out))) : w.heap.size ≤ gb173)); have n8_ := Aside0.mk ((by rw [hg]; exact (below_size (by repeat (first | (with_reducible first | exact HB.out | apply below_alloc | apply pw_below_drewN | apply below_drew1 | refine below_set ?_ GE163.out) | exact HB.out))) : w.heap.size ≤ gb173)); have n9_ := Aside0.mk ((by rw [hg]; exact Nat.ne_of_lt (blk_lt (g := gb163) (o := .cells #[.int .i64 x164000_1, .slice Ao24 x164001_1.length co24] 44 (0, 0)) (by (with_reducible repeat (first | refine blk_drewN ?_ _ | refine blk_drew ?_ | refine blk_alloc ?_ _)); exact BK163.out)) : gb163 ≠ gb173)); have n10_ := Aside0.mk ((by rw [hg]; exact Nat.ne_of_gt (blk_lt (g := gb163) (o := .cells #[.int .i64 x164000_1, .slice Ao24 x164001_1.length co24] 44 (0, 0)) (by (with_reducible repeat (first | refine blk_drewN ?_ _ | refine blk_drew ?_ | refine blk_alloc ?_ _)); exact BK163.out)) : gb173 ≠ gb163)); clear HO_9; clear HO_10; clear HO_164001; clear HO170; clear BK163; clear HB; have HO_9 := n0_; have HO_10 := n1_; have HO_164001 := n2_; have HO170 := n3_; have BK163 := n4_; have HB := n5_; have BK173 := n6_; have GW173 := n7_; have GE173 := n8_; have NB163_173 := n9_; have NB173_163 := n10_; clear n0_ n1_ n2_ n3_ n4_ n5_ n6_ n7_ n8_ n9_ n10_; clear hb hbox hg; have hnb27 := NB173_163.out; have hnc27 := NB163_173.out; have hcz28_0 : w26.cell? ⟨gb173, 0, none⟩ = some (.int .i64 0) := (blk_cell BK173.out 0).trans rfl; have hcz28_1 : w26.cell? ⟨gb173, 1, none⟩ = some (.slice none 0 0) := (blk_cell BK173.out 1).trans rfl; have hfz28_0 := blk_frozen BK173.out 0; have hfz28_1 := blk_frozen BK173.out 1; obtain ⟨Ao29, co29, eo29⟩ := Kd.R_slice HO170.out; subst eo29; obtain ⟨Ao30, co30, eo30⟩ := Kd.R_slice HO_9.out; subst eo30))
            go_loopg [72] kj16 (fun kq v72 w' => ∃ (x72_3 : Int), v72 = .int .i64 x72_3 ∧ Aside0 (besomtop_TopHeld.l1 kq a0 l1 l2 x9_1 x10_1 x11_1 t165 t171 (l1.length : Int) x45_1 (x9_1.length : Int) x72_3 t167 t168 = some r) ∧ Aside0 (kq ≤ kj16) ∧ Aside0 (Kd.R (Kd.int .i64) 3 w' w.heap.size (fun k_ => some k_ ≠ (u10 : Value).ownBlock) (.slice Ao30 x9_1.length co30) x9_1) ∧ Aside0 (Kd.R (Kd.int .i64) 3 w' w.heap.size (fun k_ => some k_ ≠ ((.slice Ao30 x9_1.length co30) : Value).ownBlock) u10 x10_1) ∧ Aside0 (Kd.R (Kd.int .u64) 42 w' w.heap.size (fun k_ => some k_ ≠ ((.slice Ao29 t168.length co29) : Value).ownBlock) (.slice Ao24 x164001_1.length co24) x164001_1) ∧ Aside0 (Kd.R (Kd.int .u64) 42 w' w.heap.size (fun k_ => some k_ ≠ ((.slice Ao24 x164001_1.length co24) : Value).ownBlock) (.slice Ao29 t168.length co29) t168) ∧ Aside0 (w'.heap[gb163]? = some (.cells #[.int .i64 x164000_1, (.slice Ao24 x164001_1.length co24)] 44 (0, 0))) ∧ Aside0 (w'.heap[gb173]? = some (.cells #[.int .i64 t167, (.slice Ao29 t168.length co29)] 44 (0, 0))) ∧ Aside0 (Below w.heap.size w w'))
            case atStart => exact ⟨(0), (by first | rfl | (simp; done) | (simp [*]; done)), H', ⟨Nat.le_refl _⟩, ⟨by (with_reducible repeat (first | apply Kd.R_alloc | apply Kd.R_drewN | apply Kd.R_drew)); exact Kd.R_mono (Kd.R_far (p := ⟨gb173, 1, none⟩) (Kd.R_far (p := ⟨gb173, 0, none⟩) (Kd.R_types HO_9.out BK173.out (by decide)) (fun _ hk => hk.2) (.int .i64 t167)) (fun _ hk => hk.2) (.slice Ao29 t168.length co29)) (fun _ hk => hk.1)⟩, ⟨by (with_reducible repeat (first | apply Kd.R_alloc | apply Kd.R_drewN | apply Kd.R_drew)); exact Kd.R_mono (Kd.R_far (p := ⟨gb173, 1, none⟩) (Kd.R_far (p := ⟨gb173, 0, none⟩) (Kd.R_types HO_10.out BK173.out (by decide)) (fun _ hk => hk.2) (.int .i64 t167)) (fun _ hk => hk.2) (.slice Ao29 t168.length co29)) (fun _ hk => hk.1)⟩, ⟨by (with_reducible repeat (first | apply Kd.R_alloc | apply Kd.R_drewN | apply Kd.R_drew)); exact Kd.R_mono (Kd.R_far (p := ⟨gb173, 1, none⟩) (Kd.R_far (p := ⟨gb173, 0, none⟩) (Kd.R_types HO_164001.out BK173.out (by decide)) (fun _ hk => hk.2) (.int .i64 t167)) (fun _ hk => hk.2) (.slice Ao29 t168.length co29)) (fun _ hk => hk.1.2)⟩, ⟨by (with_reducible repeat (first | apply Kd.R_alloc | apply Kd.R_drewN | apply Kd.R_drew)); exact Kd.R_mono (Kd.R_far (p := ⟨gb173, 1, none⟩) (Kd.R_far (p := ⟨gb173, 0, none⟩) (Kd.R_types HO170.out BK173.out (by decide)) (fun _ hk => hk.2) (.int .i64 t167)) (fun _ hk => hk.2) (.slice Ao29 t168.length co29)) (fun _ hk => hk.1.2)⟩, ⟨by (with_reducible repeat (first | refine blk_drewN ?_ _ | refine blk_drew ?_ | refine blk_alloc ?_ _)); refine blk_far ?_ NB163_173.out _; (with_reducible repeat (first | refine blk_drewN ?_ _ | refine blk_drew ?_ | refine blk_alloc ?_ _)); refine blk_far ?_ NB163_173.out _; (with_reducible repeat (first | refine blk_drewN ?_ _ | refine blk_drew ?_ | refine blk_alloc ?_ _)); exact BK163.out⟩, ⟨by (with_reducible repeat (first | refine blk_drewN ?_ _ | refine blk_drew ?_ | refine blk_alloc ?_ _)); refine blk_put (cs := #[.int .i64 t167, .slice none 0 0]) ?_ 1 _ rfl; (with_reducible repeat (first | refine blk_drewN ?_ _ | refine blk_drew ?_ | refine blk_alloc ?_ _)); refine blk_put (cs := #[.int .i64 0, .slice none 0 0]) ?_ 0 _ rfl; (with_reducible repeat (first | refine blk_drewN ?_ _ | refine blk_drew ?_ | refine blk_alloc ?_ _)); exact BK173.out⟩, ⟨by repeat (first | (with_reducible first | exact HB.out | apply below_alloc | apply pw_below_drewN | apply below_drew1 | refine below_set ?_ GE163.out | refine below_set ?_ GE173.out) | exact HB.out)⟩⟩
            case round =>
              clear H'
              try clear c1
              try clear p1
              try clear q1
              try clear hx1
              try clear c2
              try clear p2
              try clear c3
              try clear c4
              try clear c5
              try clear p6
              try clear c7
              try clear c7b0
              try clear c7b1
              try clear c13
              try clear c13b0
              try clear c14
              try clear c14b0
              try clear c15
              try clear c15b0
              try clear p16
              try clear q16
              try clear hx16
              try clear c19
              try clear c19b0
              try clear c19b1
              try clear c20
              try clear c22
              try clear c22b0
              try clear c22b1
              try clear c26
              try clear c27
              try clear hcz11_0
              try clear hcz11_1
              try clear hcz23_0
              try clear hcz23_1
              try clear hcz28_0
              try clear hcz28_1
              try clear hfz11_0
              try clear hfz11_1
              try clear hfz23_0
              try clear hfz23_1
              try clear hfz28_0
              try clear hfz28_1
              try clear hx164_0
              try clear p1
              try clear p16
              try clear p164
              try clear p2
              try clear q1
              try clear q16
              try clear q164
              obtain ⟨x72_3, rfl, HA, HK3, HO_9, HO_10, HO_164001, HO_174001, BK163, BK173, HB⟩ := hrel
              cases gk with
              | zero => exact absurd HA.out (by simp [besomtop_TopHeld.l1])
              | succ k3 =>
                have H := HA.out
                clear HA
                simp only [besomtop_TopHeld.l1] at H
                by_cases c31 : x72_3 < (x9_1.length : Int)
                rotate_left
                · rw [if_neg c31] at H
                  have c31b0 : decide (x72_3 < (x9_1.length : Int)) = false := decide_eq_false c31
                  clear c31
                  obtain ⟨y176, hy176⟩ : ∃ y_ : List Int, y_ = (([t171] : List Int)) := ⟨_, rfl⟩
                  replace H : (if x9_1.length + y176.length < 17592186044416 then ((some (([t165] : List Int) : List Int)).bind fun y182 => (if x10_1.length + y182.length < 17592186044416 then (besomtop_TopHeld.l0 k3 a0 l1 l2 (x9_1 ++ y176) (x10_1 ++ y182) (wrap64 (x11_1 + t165)) (l1.length : Int) (wrap64 (x45_1 + 1)) t167 t168) else (none))) else (none)) = some r := by first | (rw [hy176]; with_reducible exact H) | (have H2_ := (Option.bind_some _ _).symm.trans H; rw [hy176]; with_reducible exact H2_) | (have H2_ := (Option.bind_some _ _).symm.trans H; with_reducible exact H2_) | with_reducible exact H | (rw [hy176]; exact H) | exact H
                  have Ny176 := Aside0.mk hy176
                  clear hy176
                  by_cases c39 : x9_1.length + y176.length < 17592186044416
                  rotate_left
                  · rw [if_neg c39] at H
                    exact absurd H (by simp)
                  rw [if_pos c39] at H
                  have LMc39 := Aside0.mk c39
                  clear c39
                  obtain ⟨y179, hy179⟩ : ∃ y_ : List Int, y_ = (x9_1 ++ y176) := ⟨_, rfl⟩
                  replace H : ((some (([t165] : List Int) : List Int)).bind fun y182 => (if x10_1.length + y182.length < 17592186044416 then (besomtop_TopHeld.l0 k3 a0 l1 l2 y179 (x10_1 ++ y182) (wrap64 (x11_1 + t165)) (l1.length : Int) (wrap64 (x45_1 + 1)) t167 t168) else (none))) = some r := by first | (rw [hy179]; with_reducible exact H) | (have H2_ := (Option.bind_some _ _).symm.trans H; rw [hy179]; with_reducible exact H2_) | (have H2_ := (Option.bind_some _ _).symm.trans H; with_reducible exact H2_) | with_reducible exact H | (rw [hy179]; exact H) | exact H
                  have Ny179 := Aside0.mk hy179
                  clear hy179
                  obtain ⟨y182, hy182⟩ : ∃ y_ : List Int, y_ = (([t165] : List Int)) := ⟨_, rfl⟩
                  replace H : (if x10_1.length + y182.length < 17592186044416 then (besomtop_TopHeld.l0 k3 a0 l1 l2 y179 (x10_1 ++ y182) (wrap64 (x11_1 + t165)) (l1.length : Int) (wrap64 (x45_1 + 1)) t167 t168) else (none)) = some r := by first | (rw [hy182]; with_reducible exact H) | (have H2_ := (Option.bind_some _ _).symm.trans H; rw [hy182]; with_reducible exact H2_) | (have H2_ := (Option.bind_some _ _).symm.trans H; with_reducible exact H2_) | with_reducible exact H | (rw [hy182]; exact H) | exact H
                  have Ny182 := Aside0.mk hy182
                  clear hy182
                  by_cases c40 : x10_1.length + y182.length < 17592186044416
                  rotate_left
                  · rw [if_neg c40] at H
                    exact absurd H (by simp)
                  rw [if_pos c40] at H
                  have LMc40 := Aside0.mk c40
                  clear c40
                  obtain ⟨y185, hy185⟩ : ∃ y_ : List Int, y_ = (x10_1 ++ y182) := ⟨_, rfl⟩
                  replace H : (besomtop_TopHeld.l0 k3 a0 l1 l2 y179 y185 (wrap64 (x11_1 + t165)) (l1.length : Int) (wrap64 (x45_1 + 1)) t167 t168) = some r := by first | (rw [hy185]; with_reducible exact H) | (have H2_ := (Option.bind_some _ _).symm.trans H; rw [hy185]; with_reducible exact H2_) | (have H2_ := (Option.bind_some _ _).symm.trans H; with_reducible exact H2_) | with_reducible exact H | (rw [hy185]; exact H) | exact H
                  have Ny185 := Aside0.mk hy185
                  clear hy185
                  have H' := Aside0.mk H
                  clear H
                  obtain ⟨Ao41, co41, eo41⟩ := Kd.R_slice HO_10.out
                  subst eo41
                  try go_wp2
                  have n0_ := Aside0.mk (Kd.R_drew HO_9.out)
                  have n1_ := Aside0.mk (Kd.R_drew HO_10.out)
                  have n2_ := Aside0.mk (Kd.R_drew HO_164001.out)
                  have n3_ := Aside0.mk (Kd.R_drew HO_174001.out)
                  have n4_ := Aside0.mk (blk_drew BK163.out)
                  have n5_ := Aside0.mk (blk_drew BK173.out)
                  have n6_ := Aside0.mk (below_drew1 HB.out)
                  clear HO_9
                  clear HO_10
                  clear HO_164001
                  clear HO_174001
                  clear BK163
                  clear BK173
                  clear HB
                  have HO_9 := n0_
                  have HO_10 := n1_
                  have HO_164001 := n2_
                  have HO_174001 := n3_
                  have BK163 := n4_
                  have BK173 := n5_
                  have HB := n6_
                  clear n0_ n1_ n2_ n3_ n4_ n5_ n6_
                  refine start_ (n := 16) (S := fun w' => w'.cell? ⟨gb173, 0, none⟩ = some (.int .i64 t167) ∧ w'.cell? ⟨gb173, 1, none⟩ = some (.slice Ao29 t168.length co29)) (ds := []) #[false, false, false, false, false, false, false, false, false, false, false, false, false, false, false, false] (by kernel_rfl) rfl rfl ⟨(blk_cell BK173.out 0).trans rfl, (blk_cell BK173.out 1).trans rfl⟩ (fun hHeld => ?_); refine with_tabW besomtop_TopHeld.tab21 besomtop_TopHeld.bits21 (fun HT_ HW_ => ?_)
                  generalize wr.drew = w42 at HO_9 HO_10 HO_164001 HO_174001 BK163 BK173 HB hHeld ⊢
                  refine pure_ (i := 1) (N := some 94) (v := ?_) (a' := ?_) #[false, true, false, false, false, false, false, false, false, false, false, false, false, false, false, false] rfl rfl (any_of HT_.out (by kernel_rfl)) (fun _ _ _ h => h) (Or.inl ⟨by rfl, ?_⟩) ?_ ?_
                  rotate_left
                  · intro w'
                    go_simp
                    with_reducible rfl
                  rotate_left
                  · simp only [Act.put, List.setIfInBounds_toArray, List.set_cons_zero, List.set_cons_succ, i64_w, i32_w]
                    rfl
                  refine pure_ (i := 2) (N := some 95) (v := ?_) (a' := ?_) #[false, true, true, false, false, false, false, false, false, false, false, false, false, false, false, false] rfl rfl (any_of HT_.out (by kernel_rfl)) (fun _ _ _ h => h) (Or.inl ⟨by rfl, ?_⟩) ?_ ?_
                  rotate_left
                  · intro w'
                    go_simp
                    with_reducible rfl
                  rotate_left
                  · simp only [Act.put, List.setIfInBounds_toArray, List.set_cons_zero, List.set_cons_succ, i64_w, i32_w]
                    rfl
                  refine pure_ (i := 5) (N := some 98) (v := ?_) (a' := ?_) #[false, true, true, false, false, true, false, false, false, false, false, false, false, false, false, false] rfl rfl (any_of HT_.out (by kernel_rfl)) (fun _ _ _ h => h) (Or.inl ⟨by rfl, ?_⟩) ?_ ?_
                  rotate_left
                  · intro w'
                    go_simp
                    with_reducible rfl
                  rotate_left
                  · simp only [Act.put, List.setIfInBounds_toArray, List.set_cons_zero, List.set_cons_succ, i64_w, i32_w]
                    rfl
                  refine pure_ (i := 6) (N := some 99) (v := ?_) (a' := ?_) #[false, true, true, false, false, true, true, false, false, false, false, false, false, false, false, false] rfl rfl (any_of HT_.out (by kernel_rfl)) (fun _ _ _ h => h) (Or.inl ⟨by rfl, ?_⟩) ?_ ?_
                  rotate_left
                  · intro w'
                    go_simp
                    with_reducible rfl
                  rotate_left
                  · simp only [Act.put, List.setIfInBounds_toArray, List.set_cons_zero, List.set_cons_succ, i64_w, i32_w]
                    rfl
                  refine pure_ (i := 9) (N := some 102) (v := ?_) (a' := ?_) #[false, true, true, false, false, true, true, false, false, true, false, false, false, false, false, false] rfl rfl (any_of HT_.out (by kernel_rfl)) (fun _ _ _ h => h) (Or.inl ⟨by rfl, ?_⟩) ?_ ?_
                  rotate_left
                  · intro w'
                    go_simp
                    with_reducible rfl
                  rotate_left
                  · simp only [Act.put, List.setIfInBounds_toArray, List.set_cons_zero, List.set_cons_succ, i64_w, i32_w]
                    rfl
                  refine pure_ (i := 10) (N := some 103) (v := ?_) (a' := ?_) #[false, true, true, false, false, true, true, false, false, true, true, false, false, false, false, false] rfl rfl (any_of HT_.out (by kernel_rfl)) (fun _ _ _ h => h) (Or.inl ⟨by rfl, ?_⟩) ?_ ?_
                  rotate_left
                  · intro w'
                    go_simp
                    with_reducible rfl
                  rotate_left
                  · simp only [Act.put, List.setIfInBounds_toArray, List.set_cons_zero, List.set_cons_succ, i64_w, i32_w]
                    rfl
                  refine pure_ (i := 11) (N := some 104) (v := ?_) (a' := ?_) #[false, true, true, false, false, true, true, false, false, true, true, true, false, false, false, false] rfl rfl (any_of HT_.out (by kernel_rfl)) (fun _ _ _ h => h) (Or.inl ⟨by rfl, ?_⟩) ?_ ?_
                  rotate_left
                  · intro w'
                    go_simp
                    with_reducible rfl
                  rotate_left
                  · simp only [Act.put, List.setIfInBounds_toArray, List.set_cons_zero, List.set_cons_succ, i64_w, i32_w]
                    rfl
                  refine take_ (i := 0) (N := some 93) (v := ?_) (a' := ?_) #[true, true, true, false, false, true, true, false, false, true, true, true, false, false, false, false] rfl rfl (take_ofW HT_.out HW_.out (by kernel_rfl)) (fun _ _ _ h => h) (Or.inl ⟨by rfl, ?_⟩) hHeld ?_ ?_
                  rotate_left
                  · rintro w' ⟨s0, s1⟩
                    go_simp
                    with_reducible rfl
                  rotate_left
                  · simp only [Act.put, List.setIfInBounds_toArray, List.set_cons_zero, List.set_cons_succ, i64_w, i32_w]
                    rfl
                  refine join_ (σ := Value × Value × Value) 5 #[true, true, true, true, true, true, true, true, false, true, true, true, false, false, false, false] (fun s_ => [(96, s_.1), (97, s_.2.1), (100, s_.2.2)]) (fun s_ w' => (w'.cell? ⟨gb173, 0, none⟩ = some (.int .i64 t167) ∧ w'.cell? ⟨gb173, 1, none⟩ = some (.slice Ao29 t168.length co29)) ∧ (Kd.R (Kd.int .i64) 3 w' w.heap.size (fun k_ => some k_ ≠ (s_.2.1 : Value).ownBlock ∧ some k_ ≠ (s_.2.2 : Value).ownBlock ∧ some k_ ≠ (.slice Ao41 x10_1.length co41 : Value).ownBlock) s_.1 y176) ∧ (Kd.R (Kd.int .i64) 3 w' w.heap.size (fun k_ => some k_ ≠ (s_.1 : Value).ownBlock ∧ some k_ ≠ (s_.2.2 : Value).ownBlock ∧ some k_ ≠ (.slice Ao41 x10_1.length co41 : Value).ownBlock) s_.2.1 y179) ∧ (Kd.R (Kd.int .i64) 3 w' w.heap.size (fun k_ => some k_ ≠ (s_.1 : Value).ownBlock ∧ some k_ ≠ (s_.2.1 : Value).ownBlock ∧ some k_ ≠ (.slice Ao41 x10_1.length co41 : Value).ownBlock) s_.2.2 y182) ∧ (Kd.R (Kd.int .i64) 3 w' w.heap.size (fun k_ => some k_ ≠ (s_.1 : Value).ownBlock ∧ some k_ ≠ (s_.2.1 : Value).ownBlock ∧ some k_ ≠ (s_.2.2 : Value).ownBlock) (.slice Ao41 x10_1.length co41) x10_1) ∧ (Kd.R (Kd.int .u64) 42 w' w.heap.size (fun k_ => some k_ ≠ (.slice Ao29 t168.length co29 : Value).ownBlock) (.slice Ao24 x164001_1.length co24) x164001_1) ∧ (Kd.R (Kd.int .u64) 42 w' w.heap.size (fun k_ => some k_ ≠ (.slice Ao24 x164001_1.length co24 : Value).ownBlock) (.slice Ao29 t168.length co29) t168) ∧ (w'.heap[gb163]? = some (.cells #[.int .i64 x164000_1, .slice Ao24 x164001_1.length co24] 44 (0, 0))) ∧ (w'.heap[gb173]? = some (.cells #[.int .i64 t167, .slice Ao29 t168.length co29] 44 (0, 0))) ∧ (Below w.heap.size w w')) ?_ ?_
                  rotate_left
                  · intro hCont
                    refine two_ (i := 3) (j := 7) (Ni := some 96) (Nj := some 100) #[true, true, true, true, false, true, true, false, false, true, true, true, false, false, false, false] #[true, true, true, false, false, true, true, true, false, true, true, true, false, false, false, false] rfl rfl rfl rfl (two_of HT_.out (by kernel_rfl)) (by decide) (by decide) (fun K hK => ?_) (fun K hK => ?_)
                    · skip
                      refine Kd.R_lit_step (Kd.int .i64) _ 3 ?hg (N := 96) ?hd (xs := ([t171] : List Int)) (inner := [.int .i64 t171]) (ok := fun _ => True) (okp := fun _ => True) ?hr ?hp (fun _ hk => hk) trivial (Below.refl _ _) (Nat.le_refl _) (by simp) ?_; (case hd => rfl); (case hg => rfl); (case hr => first | (go_simp; done) | (go_simp; rfl)); (case hp => exact (Reps.one (show Kd.M (Kd.int .i64) _ _ _ t171 [.int .i64 t171] from rfl) (Reps.none _ _)))
                      intro v177 w43 ho44 hb hg_ hnew_
                      clear hg_ hnew_
                      (first | rw [← Ny176.out] at ho44 | (simp only [Int.reduceToNat] at ho44; rw [← Ny176.out] at ho44))
                      have n0_ := Aside0.mk (Kd.R_elder' (by (with_reducible repeat (first | apply Kd.R_alloc | apply Kd.R_drewN | apply Kd.R_drew)); exact HO_9.out) (Kd.R_base ho44) hb)
                      have n1_ := Aside0.mk (Kd.R_elder' (by (with_reducible repeat (first | apply Kd.R_alloc | apply Kd.R_drewN | apply Kd.R_drew)); exact HO_10.out) (Kd.R_base ho44) hb)
                      have n2_ := Aside0.mk (Kd.R_below (by (with_reducible repeat (first | apply Kd.R_alloc | apply Kd.R_drewN | apply Kd.R_drew)); exact HO_164001.out) hb)
                      have n3_ := Aside0.mk (Kd.R_below (by (with_reducible repeat (first | apply Kd.R_alloc | apply Kd.R_drewN | apply Kd.R_drew)); exact HO_174001.out) hb)
                      have n4_ := Aside0.mk (Kd.R_lower (Kd.R_new' (Kd.R_new' ho44 (Kd.R_lt (by (with_reducible repeat (first | apply Kd.R_alloc | apply Kd.R_drewN | apply Kd.R_drew)); exact HO_9.out))) (Kd.R_lt (by (with_reducible repeat (first | apply Kd.R_alloc | apply Kd.R_drewN | apply Kd.R_drew)); exact HO_10.out))) (below_size (by repeat (first | (with_reducible first | exact HB.out | apply below_alloc | apply pw_below_drewN | apply below_drew1 | refine below_set ?_ GE163.out | refine below_set ?_ GE173.out) | exact HB.out))))
                      have n5_ := Aside0.mk (blk_below (g := gb163) (o := .cells #[.int .i64 x164000_1, .slice Ao24 x164001_1.length co24] 44 (0, 0)) (by (with_reducible repeat (first | refine blk_drewN ?_ _ | refine blk_drew ?_ | refine blk_alloc ?_ _)); exact BK163.out) hb)
                      have n6_ := Aside0.mk (blk_below (g := gb173) (o := .cells #[.int .i64 t167, .slice Ao29 t168.length co29] 44 (0, 0)) (by (with_reducible repeat (first | refine blk_drewN ?_ _ | refine blk_drew ?_ | refine blk_alloc ?_ _)); exact BK173.out) hb)
                      have n7_ := Aside0.mk (below_step (by repeat (first | (with_reducible first | exact HB.out | apply below_alloc | apply pw_below_drewN | apply below_drew1 | refine below_set ?_ GE163.out | refine below_set ?_ GE173.out) | exact HB.out)) hb)
                      clear HO_9
                      clear HO_10
                      clear HO_164001
                      clear HO_174001
                      clear BK163
                      clear BK173
                      clear HB
                      have HO_9 := n0_
                      have HO_10 := n1_
                      have HO_164001 := n2_
                      have HO_174001 := n3_
                      have HO178 := n4_
                      have BK163 := n5_
                      have BK173 := n6_
                      have HB := n7_
                      clear n0_ n1_ n2_ n3_ n4_ n5_ n6_ n7_
                      clear hb ho44
                      obtain ⟨Ao46, co46, eo46⟩ := Kd.R_slice HO178.out
                      (first | subst eo46 | (injection eo46 with f1_ f2_ f3_; have f4_ := f1_.symm; have f5_ := f3_.symm; clear f1_ f2_ f3_; subst f4_; subst f5_))
                      refine hK.out _ _ ⟨(blk_cell BK173.out 0).trans rfl, (blk_cell BK173.out 1).trans rfl⟩ (fun hHeld => ?_)
                      clear hK K
                      refine norm_ (a' := ?_) ?_ ?_
                      rotate_left
                      · show Act.put _ (some 96) _ = _
                        simp only [Act.put, List.setIfInBounds_toArray, List.set_cons_zero, List.set_cons_succ, i64_w, i32_w]
                        rfl
                      refine two_ (i := 4) (j := 7) (Ni := some 97) (Nj := some 100) #[true, true, true, true, true, true, true, false, false, true, true, true, false, false, false, false] #[true, true, true, true, false, true, true, true, false, true, true, true, false, false, false, false] rfl rfl rfl rfl (two_of HT_.out (by kernel_rfl)) (by decide) (by decide) (fun K hK => ?_) (fun K hK => ?_)
                      · skip
                        refine Kd.R_append_rows_step (Kd.int .i64) (w0 := w) w.heap.size (by rfl) (.tmp 94) (.tmp 96) 56 3 (.int .i64 0) 8 rfl Tryd.underlying56 info3 rfl (by decide) (by omega) (.slice Ao30 x9_1.length co30) x9_1 y176 _ _ _ (fun k_ => some k_ ≠ (.slice Ao41 x10_1.length co41 : Value).ownBlock ∧ some k_ ≠ (.slice Ao46 y176.length co46 : Value).ownBlock) (fun _ => False) rfl rfl ?aO ?aR (fun _ _ h => h) (fun _ h => h.elim) ?aF ?aB ?aS ?aL ?_
                        (case aR => repeat (first | exact (Kd.R_reads' HO178.out).2.2 | (with_reducible refine Kd.C_alloc ?_ _) | (with_reducible refine Kd.C_drewN ?_ _) | (with_reducible refine Kd.C_drew ?_)))
                        (case aB => exact (by repeat (first | (with_reducible first | exact HB.out | apply below_alloc | apply pw_below_drewN | apply below_drew1 | refine below_set ?_ GE163.out | refine below_set ?_ GE173.out) | exact HB.out)))
                        (case aF => exact (fun k_ hk => ⟨Kd.fresh' (Kd.R_lt (by (with_reducible repeat (first | apply Kd.R_alloc | apply Kd.R_drewN | apply Kd.R_drew)); exact HO_10.out)) k_ hk, Kd.fresh' (Kd.R_lt (by (with_reducible repeat (first | apply Kd.R_alloc | apply Kd.R_drewN | apply Kd.R_drew)); exact HO178.out)) k_ hk⟩))
                        (case aO => exact (by (with_reducible repeat (first | apply Kd.R_alloc | apply Kd.R_drewN | apply Kd.R_drew)); exact HO_9.out))
                        (case aS => exact (below_size (by repeat (first | (with_reducible first | exact HB.out | apply below_alloc | apply pw_below_drewN | apply below_drew1 | refine below_set ?_ GE163.out | refine below_set ?_ GE173.out) | exact HB.out))))
                        (case aL => have := LMc39.out; omega)
                        intro v180 w45 ho hb hg hat
                        rw [← Ny179.out] at ho
                        have n0_ := Aside0.mk (Kd.R_after (ok := (fun k_ => some k_ ≠ (.slice Ao46 y176.length co46 : Value).ownBlock)) (by (with_reducible repeat (first | apply Kd.R_alloc | apply Kd.R_drewN | apply Kd.R_drew)); exact Kd.R_mono HO_10.out (fun _ hk => ⟨hk.2, hk.1⟩)) hg hat)
                        have n1_ := Aside0.mk (Kd.R_over' (by (with_reducible repeat (first | apply Kd.R_alloc | apply Kd.R_drewN | apply Kd.R_drew)); exact HO_164001.out) (Kd.R_typed (by (with_reducible repeat (first | apply Kd.R_alloc | apply Kd.R_drewN | apply Kd.R_drew)); exact HO_9.out)) (by decide) hg)
                        have n2_ := Aside0.mk (Kd.R_over' (by (with_reducible repeat (first | apply Kd.R_alloc | apply Kd.R_drewN | apply Kd.R_drew)); exact HO_174001.out) (Kd.R_typed (by (with_reducible repeat (first | apply Kd.R_alloc | apply Kd.R_drewN | apply Kd.R_drew)); exact HO_9.out)) (by decide) hg)
                        have n3_ := Aside0.mk (blk_grown (g := gb163) (o := .cells #[.int .i64 x164000_1, .slice Ao24 x164001_1.length co24] 44 (0, 0)) (by (with_reducible repeat (first | refine blk_drewN ?_ _ | refine blk_drew ?_ | refine blk_alloc ?_ _)); exact BK163.out) hg (Kd.R_ne HO_9.out BK163.out (by decide)))
                        have n4_ := Aside0.mk (blk_grown (g := gb173) (o := .cells #[.int .i64 t167, .slice Ao29 t168.length co29] 44 (0, 0)) (by (with_reducible repeat (first | refine blk_drewN ?_ _ | refine blk_drew ?_ | refine blk_alloc ?_ _)); exact BK173.out) hg (Kd.R_ne HO_9.out BK173.out (by decide)))
                        have n5_ := Aside0.mk (Kd.R_after (ok := (fun k_ => some k_ ≠ (.slice Ao41 x10_1.length co41 : Value).ownBlock)) (by (with_reducible repeat (first | apply Kd.R_alloc | apply Kd.R_drewN | apply Kd.R_drew)); exact Kd.R_mono HO178.out (fun _ hk => ⟨hk.2, hk.1.2⟩)) hg hat)
                        have n6_ := Aside0.mk (hb)
                        have n7_ := Aside0.mk (ho)
                        clear HO_10
                        clear HO_164001
                        clear HO_174001
                        clear BK163
                        clear BK173
                        clear HO178
                        clear HB
                        clear HO_9
                        have HO_10 := n0_
                        have HO_164001 := n1_
                        have HO_174001 := n2_
                        have BK163 := n3_
                        have BK173 := n4_
                        have HO178 := n5_
                        have HB := n6_
                        have HO181 := n7_
                        clear n0_ n1_ n2_ n3_ n4_ n5_ n6_ n7_
                        clear ho hb hg hat
                        refine hK.out _ _ ⟨(blk_cell BK173.out 0).trans rfl, (blk_cell BK173.out 1).trans rfl⟩ (fun hHeld => ?_)
                        clear hK K
                        refine norm_ (a' := ?_) ?_ ?_
                        rotate_left
                        · show Act.put _ (some 97) _ = _
                          simp only [Act.put, List.setIfInBounds_toArray, List.set_cons_zero, List.set_cons_succ, i64_w, i32_w]
                          rfl
                        refine one_ (i := 7) (N := some 100) #[true, true, true, true, true, true, true, true, false, true, true, true, false, false, false, false] rfl rfl (one_of HT_.out (by kernel_rfl)) (by decide) (fun K hK => ?_)
                        refine Kd.R_lit_step (Kd.int .i64) _ 3 ?hg (N := 100) ?hd (xs := ([t165] : List Int)) (inner := [.int .i64 t165]) (ok := fun _ => True) (okp := fun _ => True) ?hr ?hp (fun _ hk => hk) trivial (Below.refl _ _) (Nat.le_refl _) (by simp) ?_; (case hd => rfl); (case hg => rfl); (case hr => first | (go_simp; done) | (go_simp; rfl)); (case hp => exact (Reps.one (show Kd.M (Kd.int .i64) _ _ _ t165 [.int .i64 t165] from rfl) (Reps.none _ _)))
                        intro v183 w47 ho48 hb hg_ hnew_
                        clear hg_ hnew_
                        (first | rw [← Ny182.out] at ho48 | (simp only [Int.reduceToNat] at ho48; rw [← Ny182.out] at ho48))
                        have n0_ := Aside0.mk (Kd.R_elder' (by (with_reducible repeat (first | apply Kd.R_alloc | apply Kd.R_drewN | apply Kd.R_drew)); exact HO_10.out) (Kd.R_base ho48) hb)
                        have n1_ := Aside0.mk (Kd.R_below (by (with_reducible repeat (first | apply Kd.R_alloc | apply Kd.R_drewN | apply Kd.R_drew)); exact HO_164001.out) hb)
                        have n2_ := Aside0.mk (Kd.R_below (by (with_reducible repeat (first | apply Kd.R_alloc | apply Kd.R_drewN | apply Kd.R_drew)); exact HO_174001.out) hb)
                        have n3_ := Aside0.mk (Kd.R_elder' (by (with_reducible repeat (first | apply Kd.R_alloc | apply Kd.R_drewN | apply Kd.R_drew)); exact HO178.out) (Kd.R_base ho48) hb)
                        have n4_ := Aside0.mk (Kd.R_elder' (by (with_reducible repeat (first | apply Kd.R_alloc | apply Kd.R_drewN | apply Kd.R_drew)); exact HO181.out) (Kd.R_base ho48) hb)
                        have n5_ := Aside0.mk (Kd.R_lower (Kd.R_new' (Kd.R_new' (Kd.R_new' ho48 (Kd.R_lt (by (with_reducible repeat (first | apply Kd.R_alloc | apply Kd.R_drewN | apply Kd.R_drew)); exact HO_10.out))) (Kd.R_lt (by (with_reducible repeat (first | apply Kd.R_alloc | apply Kd.R_drewN | apply Kd.R_drew)); exact HO178.out))) (Kd.R_lt (by (with_reducible repeat (first | apply Kd.R_alloc | apply Kd.R_drewN | apply Kd.R_drew)); exact HO181.out))) (below_size (by repeat (first | (with_reducible first | exact HB.out | apply below_alloc | apply pw_below_drewN | apply below_drew1 | refine below_set ?_ GE163.out | refine below_set ?_ GE173.out) | exact HB.out))))
                        have n6_ := Aside0.mk (blk_below (g := gb163) (o := .cells #[.int .i64 x164000_1, .slice Ao24 x164001_1.length co24] 44 (0, 0)) (by (with_reducible repeat (first | refine blk_drewN ?_ _ | refine blk_drew ?_ | refine blk_alloc ?_ _)); exact BK163.out) hb)
                        have n7_ := Aside0.mk (blk_below (g := gb173) (o := .cells #[.int .i64 t167, .slice Ao29 t168.length co29] 44 (0, 0)) (by (with_reducible repeat (first | refine blk_drewN ?_ _ | refine blk_drew ?_ | refine blk_alloc ?_ _)); exact BK173.out) hb)
                        have n8_ := Aside0.mk (below_step (by repeat (first | (with_reducible first | exact HB.out | apply below_alloc | apply pw_below_drewN | apply below_drew1 | refine below_set ?_ GE163.out | refine below_set ?_ GE173.out) | exact HB.out)) hb)
                        clear HO_10
                        clear HO_164001
                        clear HO_174001
                        clear HO178
                        clear HO181
                        clear BK163
                        clear BK173
                        clear HB
                        have HO_10 := n0_
                        have HO_164001 := n1_
                        have HO_174001 := n2_
                        have HO178 := n3_
                        have HO181 := n4_
                        have HO184 := n5_
                        have BK163 := n6_
                        have BK173 := n7_
                        have HB := n8_
                        clear n0_ n1_ n2_ n3_ n4_ n5_ n6_ n7_ n8_
                        clear hb ho48
                        refine hK.out _ _ ⟨(blk_cell BK173.out 0).trans rfl, (blk_cell BK173.out 1).trans rfl⟩ (fun hHeld => ?_)
                        clear hK K
                        refine norm_ (a' := ?_) ?_ ?_
                        rotate_left
                        · show Act.put _ (some 100) _ = _
                          simp only [Act.put, List.setIfInBounds_toArray, List.set_cons_zero, List.set_cons_succ, i64_w, i32_w]
                          rfl
                        exact norm_ (by simp only [putAll, Act.put, List.setIfInBounds_toArray, List.set_cons_zero, List.set_cons_succ]) (hCont (.slice Ao46 y176.length co46, v180, v183) _ ⟨hHeld, (by (with_reducible repeat (first | apply Kd.R_alloc | apply Kd.R_drewN | apply Kd.R_drew)); exact Kd.R_mono HO178.out (fun _ hk => ⟨hk.1.2, ⟨hk.2, hk.1.1⟩⟩)), (by (with_reducible repeat (first | apply Kd.R_alloc | apply Kd.R_drewN | apply Kd.R_drew)); exact Kd.R_mono HO181.out (fun _ hk => ⟨hk.1.2, ⟨hk.2, hk.1.1⟩⟩)), (by (with_reducible repeat (first | apply Kd.R_alloc | apply Kd.R_drewN | apply Kd.R_drew)); exact Kd.R_mono HO184.out (fun _ hk => ⟨hk.1.2, ⟨hk.2, hk.1.1.2⟩⟩)), (by (with_reducible repeat (first | apply Kd.R_alloc | apply Kd.R_drewN | apply Kd.R_drew)); exact Kd.R_mono HO_10.out (fun _ hk => ⟨hk.1.1, ⟨hk.1.2, hk.2⟩⟩)), (by (with_reducible repeat (first | apply Kd.R_alloc | apply Kd.R_drewN | apply Kd.R_drew)); exact HO_164001.out), (by (with_reducible repeat (first | apply Kd.R_alloc | apply Kd.R_drewN | apply Kd.R_drew)); exact HO_174001.out), (by (with_reducible repeat (first | refine blk_drewN ?_ _ | refine blk_drew ?_ | refine blk_alloc ?_ _)); exact BK163.out), (by (with_reducible repeat (first | refine blk_drewN ?_ _ | refine blk_drew ?_ | refine blk_alloc ?_ _)); exact BK173.out), (by repeat (first | (with_reducible first | exact HB.out | apply below_alloc | apply pw_below_drewN | apply below_drew1 | refine below_set ?_ GE163.out | refine below_set ?_ GE173.out) | exact HB.out))⟩)
                      · skip
                        refine Kd.R_lit_step (Kd.int .i64) _ 3 ?hg (N := 100) ?hd (xs := ([t165] : List Int)) (inner := [.int .i64 t165]) (ok := fun _ => True) (okp := fun _ => True) ?hr ?hp (fun _ hk => hk) trivial (Below.refl _ _) (Nat.le_refl _) (by simp) ?_; (case hd => rfl); (case hg => rfl); (case hr => first | (go_simp; done) | (go_simp; rfl)); (case hp => exact (Reps.one (show Kd.M (Kd.int .i64) _ _ _ t165 [.int .i64 t165] from rfl) (Reps.none _ _)))
                        intro v183 w45 ho46 hb hg_ hnew_
                        clear hg_ hnew_
                        (first | rw [← Ny182.out] at ho46 | (simp only [Int.reduceToNat] at ho46; rw [← Ny182.out] at ho46))
                        have n0_ := Aside0.mk (Kd.R_elder' (by (with_reducible repeat (first | apply Kd.R_alloc | apply Kd.R_drewN | apply Kd.R_drew)); exact HO_9.out) (Kd.R_base ho46) hb)
                        have n1_ := Aside0.mk (Kd.R_elder' (by (with_reducible repeat (first | apply Kd.R_alloc | apply Kd.R_drewN | apply Kd.R_drew)); exact HO_10.out) (Kd.R_base ho46) hb)
                        have n2_ := Aside0.mk (Kd.R_below (by (with_reducible repeat (first | apply Kd.R_alloc | apply Kd.R_drewN | apply Kd.R_drew)); exact HO_164001.out) hb)
                        have n3_ := Aside0.mk (Kd.R_below (by (with_reducible repeat (first | apply Kd.R_alloc | apply Kd.R_drewN | apply Kd.R_drew)); exact HO_174001.out) hb)
                        have n4_ := Aside0.mk (Kd.R_elder' (by (with_reducible repeat (first | apply Kd.R_alloc | apply Kd.R_drewN | apply Kd.R_drew)); exact HO178.out) (Kd.R_base ho46) hb)
                        have n5_ := Aside0.mk (Kd.R_lower (Kd.R_new' (Kd.R_new' (Kd.R_new' ho46 (Kd.R_lt (by (with_reducible repeat (first | apply Kd.R_alloc | apply Kd.R_drewN | apply Kd.R_drew)); exact HO_9.out))) (Kd.R_lt (by (with_reducible repeat (first | apply Kd.R_alloc | apply Kd.R_drewN | apply Kd.R_drew)); exact HO_10.out))) (Kd.R_lt (by (with_reducible repeat (first | apply Kd.R_alloc | apply Kd.R_drewN | apply Kd.R_drew)); exact HO178.out))) (below_size (by repeat (first | (with_reducible first | exact HB.out | apply below_alloc | apply pw_below_drewN | apply below_drew1 | refine below_set ?_ GE163.out | refine below_set ?_ GE173.out) | exact HB.out))))
                        have n6_ := Aside0.mk (blk_below (g := gb163) (o := .cells #[.int .i64 x164000_1, .slice Ao24 x164001_1.length co24] 44 (0, 0)) (by (with_reducible repeat (first | refine blk_drewN ?_ _ | refine blk_drew ?_ | refine blk_alloc ?_ _)); exact BK163.out) hb)
                        have n7_ := Aside0.mk (blk_below (g := gb173) (o := .cells #[.int .i64 t167, .slice Ao29 t168.length co29] 44 (0, 0)) (by (with_reducible repeat (first | refine blk_drewN ?_ _ | refine blk_drew ?_ | refine blk_alloc ?_ _)); exact BK173.out) hb)
                        have n8_ := Aside0.mk (below_step (by repeat (first | (with_reducible first | exact HB.out | apply below_alloc | apply pw_below_drewN | apply below_drew1 | refine below_set ?_ GE163.out | refine below_set ?_ GE173.out) | exact HB.out)) hb)
                        clear HO_9
                        clear HO_10
                        clear HO_164001
                        clear HO_174001
                        clear HO178
                        clear BK163
                        clear BK173
                        clear HB
                        have HO_9 := n0_
                        have HO_10 := n1_
                        have HO_164001 := n2_
                        have HO_174001 := n3_
                        have HO178 := n4_
                        have HO184 := n5_
                        have BK163 := n6_
                        have BK173 := n7_
                        have HB := n8_
                        clear n0_ n1_ n2_ n3_ n4_ n5_ n6_ n7_ n8_
                        clear hb ho46
                        obtain ⟨Ao48, co48, eo48⟩ := Kd.R_slice HO178.out
                        (first | subst eo48 | (injection eo48 with f1_ f2_ f3_; have f4_ := f1_.symm; have f5_ := f3_.symm; clear f1_ f2_ f3_; subst f4_; subst f5_))
                        refine hK.out _ _ ⟨(blk_cell BK173.out 0).trans rfl, (blk_cell BK173.out 1).trans rfl⟩ (fun hHeld => ?_)
                        clear hK K
                        refine norm_ (a' := ?_) ?_ ?_
                        rotate_left
                        · show Act.put _ (some 100) _ = _
                          simp only [Act.put, List.setIfInBounds_toArray, List.set_cons_zero, List.set_cons_succ, i64_w, i32_w]
                          rfl
                        refine one_ (i := 4) (N := some 97) #[true, true, true, true, true, true, true, true, false, true, true, true, false, false, false, false] rfl rfl (one_of HT_.out (by kernel_rfl)) (by decide) (fun K hK => ?_)
                        refine Kd.R_append_rows_step (Kd.int .i64) (w0 := w) w.heap.size (by rfl) (.tmp 94) (.tmp 96) 56 3 (.int .i64 0) 8 rfl Tryd.underlying56 info3 rfl (by decide) (by omega) (.slice Ao30 x9_1.length co30) x9_1 y176 _ _ _ (fun k_ => some k_ ≠ (.slice Ao41 x10_1.length co41 : Value).ownBlock ∧ some k_ ≠ (.slice Ao48 y176.length co48 : Value).ownBlock ∧ some k_ ≠ (v183 : Value).ownBlock) (fun _ => False) rfl rfl ?aO ?aR (fun _ _ h => h) (fun _ h => h.elim) ?aF ?aB ?aS ?aL ?_
                        (case aR => repeat (first | exact (Kd.R_reads' HO178.out).2.2 | (with_reducible refine Kd.C_alloc ?_ _) | (with_reducible refine Kd.C_drewN ?_ _) | (with_reducible refine Kd.C_drew ?_)))
                        (case aB => exact (by repeat (first | (with_reducible first | exact HB.out | apply below_alloc | apply pw_below_drewN | apply below_drew1 | refine below_set ?_ GE163.out | refine below_set ?_ GE173.out) | exact HB.out)))
                        (case aF => exact (fun k_ hk => ⟨Kd.fresh' (Kd.R_lt (by (with_reducible repeat (first | apply Kd.R_alloc | apply Kd.R_drewN | apply Kd.R_drew)); exact HO_10.out)) k_ hk, Kd.fresh' (Kd.R_lt (by (with_reducible repeat (first | apply Kd.R_alloc | apply Kd.R_drewN | apply Kd.R_drew)); exact HO178.out)) k_ hk, Kd.fresh' (Kd.R_lt (by (with_reducible repeat (first | apply Kd.R_alloc | apply Kd.R_drewN | apply Kd.R_drew)); exact HO184.out)) k_ hk⟩))
                        (case aO => exact (by (with_reducible repeat (first | apply Kd.R_alloc | apply Kd.R_drewN | apply Kd.R_drew)); exact Kd.R_mono HO_9.out (fun _ hk => ⟨hk.1.1, ⟨hk.1.2, hk.2⟩⟩)))
                        (case aS => exact (below_size (by repeat (first | (with_reducible first | exact HB.out | apply below_alloc | apply pw_below_drewN | apply below_drew1 | refine below_set ?_ GE163.out | refine below_set ?_ GE173.out) | exact HB.out))))
                        (case aL => have := LMc39.out; omega)
                        intro v180 w47 ho hb hg hat
                        rw [← Ny179.out] at ho
                        have n0_ := Aside0.mk (Kd.R_after (ok := (fun k_ => some k_ ≠ (.slice Ao48 y176.length co48 : Value).ownBlock ∧ some k_ ≠ (v183 : Value).ownBlock)) (by (with_reducible repeat (first | apply Kd.R_alloc | apply Kd.R_drewN | apply Kd.R_drew)); exact Kd.R_mono HO_10.out (fun _ hk => ⟨⟨hk.1.2, hk.2⟩, hk.1.1⟩)) hg hat)
                        have n1_ := Aside0.mk (Kd.R_over' (by (with_reducible repeat (first | apply Kd.R_alloc | apply Kd.R_drewN | apply Kd.R_drew)); exact HO_164001.out) (Kd.R_typed (by (with_reducible repeat (first | apply Kd.R_alloc | apply Kd.R_drewN | apply Kd.R_drew)); exact HO_9.out)) (by decide) hg)
                        have n2_ := Aside0.mk (Kd.R_over' (by (with_reducible repeat (first | apply Kd.R_alloc | apply Kd.R_drewN | apply Kd.R_drew)); exact HO_174001.out) (Kd.R_typed (by (with_reducible repeat (first | apply Kd.R_alloc | apply Kd.R_drewN | apply Kd.R_drew)); exact HO_9.out)) (by decide) hg)
                        have n3_ := Aside0.mk (blk_grown (g := gb163) (o := .cells #[.int .i64 x164000_1, .slice Ao24 x164001_1.length co24] 44 (0, 0)) (by (with_reducible repeat (first | refine blk_drewN ?_ _ | refine blk_drew ?_ | refine blk_alloc ?_ _)); exact BK163.out) hg (Kd.R_ne HO_9.out BK163.out (by decide)))
                        have n4_ := Aside0.mk (blk_grown (g := gb173) (o := .cells #[.int .i64 t167, .slice Ao29 t168.length co29] 44 (0, 0)) (by (with_reducible repeat (first | refine blk_drewN ?_ _ | refine blk_drew ?_ | refine blk_alloc ?_ _)); exact BK173.out) hg (Kd.R_ne HO_9.out BK173.out (by decide)))
                        have n5_ := Aside0.mk (Kd.R_after (ok := (fun k_ => some k_ ≠ (.slice Ao41 x10_1.length co41 : Value).ownBlock ∧ some k_ ≠ (v183 : Value).ownBlock)) (by (with_reducible repeat (first | apply Kd.R_alloc | apply Kd.R_drewN | apply Kd.R_drew)); exact Kd.R_mono HO178.out (fun _ hk => ⟨⟨hk.1.2, hk.2⟩, hk.1.1.2⟩)) hg hat)
                        have n6_ := Aside0.mk (Kd.R_after (ok := (fun k_ => some k_ ≠ (.slice Ao41 x10_1.length co41 : Value).ownBlock ∧ some k_ ≠ (.slice Ao48 y176.length co48 : Value).ownBlock)) (by (with_reducible repeat (first | apply Kd.R_alloc | apply Kd.R_drewN | apply Kd.R_drew)); exact Kd.R_mono HO184.out (fun _ hk => ⟨⟨hk.1.2, hk.2⟩, hk.1.1.2⟩)) hg hat)
                        have n7_ := Aside0.mk (hb)
                        have n8_ := Aside0.mk (ho)
                        clear HO_10
                        clear HO_164001
                        clear HO_174001
                        clear BK163
                        clear BK173
                        clear HO178
                        clear HO184
                        clear HB
                        clear HO_9
                        have HO_10 := n0_
                        have HO_164001 := n1_
                        have HO_174001 := n2_
                        have BK163 := n3_
                        have BK173 := n4_
                        have HO178 := n5_
                        have HO184 := n6_
                        have HB := n7_
                        have HO181 := n8_
                        clear n0_ n1_ n2_ n3_ n4_ n5_ n6_ n7_ n8_
                        clear ho hb hg hat
                        refine hK.out _ _ ⟨(blk_cell BK173.out 0).trans rfl, (blk_cell BK173.out 1).trans rfl⟩ (fun hHeld => ?_)
                        clear hK K
                        refine norm_ (a' := ?_) ?_ ?_
                        rotate_left
                        · show Act.put _ (some 97) _ = _
                          simp only [Act.put, List.setIfInBounds_toArray, List.set_cons_zero, List.set_cons_succ, i64_w, i32_w]
                          rfl
                        exact norm_ (by simp only [putAll, Act.put, List.setIfInBounds_toArray, List.set_cons_zero, List.set_cons_succ]) (hCont (.slice Ao48 y176.length co48, v180, v183) _ ⟨hHeld, (by (with_reducible repeat (first | apply Kd.R_alloc | apply Kd.R_drewN | apply Kd.R_drew)); exact Kd.R_mono HO178.out (fun _ hk => ⟨hk.2, ⟨hk.1.2, hk.1.1⟩⟩)), (by (with_reducible repeat (first | apply Kd.R_alloc | apply Kd.R_drewN | apply Kd.R_drew)); exact Kd.R_mono HO181.out (fun _ hk => ⟨hk.2.1, ⟨hk.2.2, hk.1⟩⟩)), (by (with_reducible repeat (first | apply Kd.R_alloc | apply Kd.R_drewN | apply Kd.R_drew)); exact Kd.R_mono HO184.out (fun _ hk => ⟨hk.1.2, ⟨hk.2, hk.1.1⟩⟩)), (by (with_reducible repeat (first | apply Kd.R_alloc | apply Kd.R_drewN | apply Kd.R_drew)); exact Kd.R_mono HO_10.out (fun _ hk => ⟨hk.1.1, ⟨hk.2, hk.1.2⟩⟩)), (by (with_reducible repeat (first | apply Kd.R_alloc | apply Kd.R_drewN | apply Kd.R_drew)); exact HO_164001.out), (by (with_reducible repeat (first | apply Kd.R_alloc | apply Kd.R_drewN | apply Kd.R_drew)); exact HO_174001.out), (by (with_reducible repeat (first | refine blk_drewN ?_ _ | refine blk_drew ?_ | refine blk_alloc ?_ _)); exact BK163.out), (by (with_reducible repeat (first | refine blk_drewN ?_ _ | refine blk_drew ?_ | refine blk_alloc ?_ _)); exact BK173.out), (by repeat (first | (with_reducible first | exact HB.out | apply below_alloc | apply pw_below_drewN | apply below_drew1 | refine below_set ?_ GE163.out | refine below_set ?_ GE173.out) | exact HB.out))⟩)
                    · skip
                      refine Kd.R_lit_step (Kd.int .i64) _ 3 ?hg (N := 100) ?hd (xs := ([t165] : List Int)) (inner := [.int .i64 t165]) (ok := fun _ => True) (okp := fun _ => True) ?hr ?hp (fun _ hk => hk) trivial (Below.refl _ _) (Nat.le_refl _) (by simp) ?_; (case hd => rfl); (case hg => rfl); (case hr => first | (go_simp; done) | (go_simp; rfl)); (case hp => exact (Reps.one (show Kd.M (Kd.int .i64) _ _ _ t165 [.int .i64 t165] from rfl) (Reps.none _ _)))
                      intro v183 w43 ho44 hb hg_ hnew_
                      clear hg_ hnew_
                      (first | rw [← Ny182.out] at ho44 | (simp only [Int.reduceToNat] at ho44; rw [← Ny182.out] at ho44))
                      have n0_ := Aside0.mk (Kd.R_elder' (by (with_reducible repeat (first | apply Kd.R_alloc | apply Kd.R_drewN | apply Kd.R_drew)); exact HO_9.out) (Kd.R_base ho44) hb)
                      have n1_ := Aside0.mk (Kd.R_elder' (by (with_reducible repeat (first | apply Kd.R_alloc | apply Kd.R_drewN | apply Kd.R_drew)); exact HO_10.out) (Kd.R_base ho44) hb)
                      have n2_ := Aside0.mk (Kd.R_below (by (with_reducible repeat (first | apply Kd.R_alloc | apply Kd.R_drewN | apply Kd.R_drew)); exact HO_164001.out) hb)
                      have n3_ := Aside0.mk (Kd.R_below (by (with_reducible repeat (first | apply Kd.R_alloc | apply Kd.R_drewN | apply Kd.R_drew)); exact HO_174001.out) hb)
                      have n4_ := Aside0.mk (Kd.R_lower (Kd.R_new' (Kd.R_new' ho44 (Kd.R_lt (by (with_reducible repeat (first | apply Kd.R_alloc | apply Kd.R_drewN | apply Kd.R_drew)); exact HO_9.out))) (Kd.R_lt (by (with_reducible repeat (first | apply Kd.R_alloc | apply Kd.R_drewN | apply Kd.R_drew)); exact HO_10.out))) (below_size (by repeat (first | (with_reducible first | exact HB.out | apply below_alloc | apply pw_below_drewN | apply below_drew1 | refine below_set ?_ GE163.out | refine below_set ?_ GE173.out) | exact HB.out))))
                      have n5_ := Aside0.mk (blk_below (g := gb163) (o := .cells #[.int .i64 x164000_1, .slice Ao24 x164001_1.length co24] 44 (0, 0)) (by (with_reducible repeat (first | refine blk_drewN ?_ _ | refine blk_drew ?_ | refine blk_alloc ?_ _)); exact BK163.out) hb)
                      have n6_ := Aside0.mk (blk_below (g := gb173) (o := .cells #[.int .i64 t167, .slice Ao29 t168.length co29] 44 (0, 0)) (by (with_reducible repeat (first | refine blk_drewN ?_ _ | refine blk_drew ?_ | refine blk_alloc ?_ _)); exact BK173.out) hb)
                      have n7_ := Aside0.mk (below_step (by repeat (first | (with_reducible first | exact HB.out | apply below_alloc | apply pw_below_drewN | apply below_drew1 | refine below_set ?_ GE163.out | refine below_set ?_ GE173.out) | exact HB.out)) hb)
                      clear HO_9
                      clear HO_10
                      clear HO_164001
                      clear HO_174001
                      clear BK163
                      clear BK173
                      clear HB
                      have HO_9 := n0_
                      have HO_10 := n1_
                      have HO_164001 := n2_
                      have HO_174001 := n3_
                      have HO184 := n4_
                      have BK163 := n5_
                      have BK173 := n6_
                      have HB := n7_
                      clear n0_ n1_ n2_ n3_ n4_ n5_ n6_ n7_
                      clear hb ho44
                      refine hK.out _ _ ⟨(blk_cell BK173.out 0).trans rfl, (blk_cell BK173.out 1).trans rfl⟩ (fun hHeld => ?_)
                      clear hK K
                      refine norm_ (a' := ?_) ?_ ?_
                      rotate_left
                      · show Act.put _ (some 100) _ = _
                        simp only [Act.put, List.setIfInBounds_toArray, List.set_cons_zero, List.set_cons_succ, i64_w, i32_w]
                        rfl
                      refine one_ (i := 3) (N := some 96) #[true, true, true, true, false, true, true, true, false, true, true, true, false, false, false, false] rfl rfl (one_of HT_.out (by kernel_rfl)) (by decide) (fun K hK => ?_)
                      refine Kd.R_lit_step (Kd.int .i64) _ 3 ?hg (N := 96) ?hd (xs := ([t171] : List Int)) (inner := [.int .i64 t171]) (ok := fun _ => True) (okp := fun _ => True) ?hr ?hp (fun _ hk => hk) trivial (Below.refl _ _) (Nat.le_refl _) (by simp) ?_; (case hd => rfl); (case hg => rfl); (case hr => first | (go_simp; done) | (go_simp; rfl)); (case hp => exact (Reps.one (show Kd.M (Kd.int .i64) _ _ _ t171 [.int .i64 t171] from rfl) (Reps.none _ _)))
                      intro v177 w45 ho46 hb hg_ hnew_
                      clear hg_ hnew_
                      (first | rw [← Ny176.out] at ho46 | (simp only [Int.reduceToNat] at ho46; rw [← Ny176.out] at ho46))
                      have n0_ := Aside0.mk (Kd.R_elder' (by (with_reducible repeat (first | apply Kd.R_alloc | apply Kd.R_drewN | apply Kd.R_drew)); exact HO_9.out) (Kd.R_base ho46) hb)
                      have n1_ := Aside0.mk (Kd.R_elder' (by (with_reducible repeat (first | apply Kd.R_alloc | apply Kd.R_drewN | apply Kd.R_drew)); exact HO_10.out) (Kd.R_base ho46) hb)
                      have n2_ := Aside0.mk (Kd.R_below (by (with_reducible repeat (first | apply Kd.R_alloc | apply Kd.R_drewN | apply Kd.R_drew)); exact HO_164001.out) hb)
                      have n3_ := Aside0.mk (Kd.R_below (by (with_reducible repeat (first | apply Kd.R_alloc | apply Kd.R_drewN | apply Kd.R_drew)); exact HO_174001.out) hb)
                      have n4_ := Aside0.mk (Kd.R_elder' (by (with_reducible repeat (first | apply Kd.R_alloc | apply Kd.R_drewN | apply Kd.R_drew)); exact HO184.out) (Kd.R_base ho46) hb)
                      have n5_ := Aside0.mk (Kd.R_lower (Kd.R_new' (Kd.R_new' (Kd.R_new' ho46 (Kd.R_lt (by (with_reducible repeat (first | apply Kd.R_alloc | apply Kd.R_drewN | apply Kd.R_drew)); exact HO_9.out))) (Kd.R_lt (by (with_reducible repeat (first | apply Kd.R_alloc | apply Kd.R_drewN | apply Kd.R_drew)); exact HO_10.out))) (Kd.R_lt (by (with_reducible repeat (first | apply Kd.R_alloc | apply Kd.R_drewN | apply Kd.R_drew)); exact HO184.out))) (below_size (by repeat (first | (with_reducible first | exact HB.out | apply below_alloc | apply pw_below_drewN | apply below_drew1 | refine below_set ?_ GE163.out | refine below_set ?_ GE173.out) | exact HB.out))))
                      have n6_ := Aside0.mk (blk_below (g := gb163) (o := .cells #[.int .i64 x164000_1, .slice Ao24 x164001_1.length co24] 44 (0, 0)) (by (with_reducible repeat (first | refine blk_drewN ?_ _ | refine blk_drew ?_ | refine blk_alloc ?_ _)); exact BK163.out) hb)
                      have n7_ := Aside0.mk (blk_below (g := gb173) (o := .cells #[.int .i64 t167, .slice Ao29 t168.length co29] 44 (0, 0)) (by (with_reducible repeat (first | refine blk_drewN ?_ _ | refine blk_drew ?_ | refine blk_alloc ?_ _)); exact BK173.out) hb)
                      have n8_ := Aside0.mk (below_step (by repeat (first | (with_reducible first | exact HB.out | apply below_alloc | apply pw_below_drewN | apply below_drew1 | refine below_set ?_ GE163.out | refine below_set ?_ GE173.out) | exact HB.out)) hb)
                      clear HO_9
                      clear HO_10
                      clear HO_164001
                      clear HO_174001
                      clear HO184
                      clear BK163
                      clear BK173
                      clear HB
                      have HO_9 := n0_
                      have HO_10 := n1_
                      have HO_164001 := n2_
                      have HO_174001 := n3_
                      have HO184 := n4_
                      have HO178 := n5_
                      have BK163 := n6_
                      have BK173 := n7_
                      have HB := n8_
                      clear n0_ n1_ n2_ n3_ n4_ n5_ n6_ n7_ n8_
                      clear hb ho46
                      obtain ⟨Ao48, co48, eo48⟩ := Kd.R_slice HO178.out
                      (first | subst eo48 | (injection eo48 with f1_ f2_ f3_; have f4_ := f1_.symm; have f5_ := f3_.symm; clear f1_ f2_ f3_; subst f4_; subst f5_))
                      refine hK.out _ _ ⟨(blk_cell BK173.out 0).trans rfl, (blk_cell BK173.out 1).trans rfl⟩ (fun hHeld => ?_)
                      clear hK K
                      refine norm_ (a' := ?_) ?_ ?_
                      rotate_left
                      · show Act.put _ (some 96) _ = _
                        simp only [Act.put, List.setIfInBounds_toArray, List.set_cons_zero, List.set_cons_succ, i64_w, i32_w]
                        rfl
                      refine one_ (i := 4) (N := some 97) #[true, true, true, true, true, true, true, true, false, true, true, true, false, false, false, false] rfl rfl (one_of HT_.out (by kernel_rfl)) (by decide) (fun K hK => ?_)
                      refine Kd.R_append_rows_step (Kd.int .i64) (w0 := w) w.heap.size (by rfl) (.tmp 94) (.tmp 96) 56 3 (.int .i64 0) 8 rfl Tryd.underlying56 info3 rfl (by decide) (by omega) (.slice Ao30 x9_1.length co30) x9_1 y176 _ _ _ (fun k_ => some k_ ≠ (.slice Ao41 x10_1.length co41 : Value).ownBlock ∧ some k_ ≠ (v183 : Value).ownBlock ∧ some k_ ≠ (.slice Ao48 y176.length co48 : Value).ownBlock) (fun _ => False) rfl rfl ?aO ?aR (fun _ _ h => h) (fun _ h => h.elim) ?aF ?aB ?aS ?aL ?_
                      (case aR => repeat (first | exact (Kd.R_reads' HO178.out).2.2 | (with_reducible refine Kd.C_alloc ?_ _) | (with_reducible refine Kd.C_drewN ?_ _) | (with_reducible refine Kd.C_drew ?_)))
                      (case aB => exact (by repeat (first | (with_reducible first | exact HB.out | apply below_alloc | apply pw_below_drewN | apply below_drew1 | refine below_set ?_ GE163.out | refine below_set ?_ GE173.out) | exact HB.out)))
                      (case aF => exact (fun k_ hk => ⟨Kd.fresh' (Kd.R_lt (by (with_reducible repeat (first | apply Kd.R_alloc | apply Kd.R_drewN | apply Kd.R_drew)); exact HO_10.out)) k_ hk, Kd.fresh' (Kd.R_lt (by (with_reducible repeat (first | apply Kd.R_alloc | apply Kd.R_drewN | apply Kd.R_drew)); exact HO184.out)) k_ hk, Kd.fresh' (Kd.R_lt (by (with_reducible repeat (first | apply Kd.R_alloc | apply Kd.R_drewN | apply Kd.R_drew)); exact HO178.out)) k_ hk⟩))
                      (case aO => exact (by (with_reducible repeat (first | apply Kd.R_alloc | apply Kd.R_drewN | apply Kd.R_drew)); exact Kd.R_mono HO_9.out (fun _ hk => ⟨hk.1.1, ⟨hk.1.2, hk.2⟩⟩)))
                      (case aS => exact (below_size (by repeat (first | (with_reducible first | exact HB.out | apply below_alloc | apply pw_below_drewN | apply below_drew1 | refine below_set ?_ GE163.out | refine below_set ?_ GE173.out) | exact HB.out))))
                      (case aL => have := LMc39.out; omega)
                      intro v180 w47 ho hb hg hat
                      rw [← Ny179.out] at ho
                      have n0_ := Aside0.mk (Kd.R_after (ok := (fun k_ => some k_ ≠ (v183 : Value).ownBlock ∧ some k_ ≠ (.slice Ao48 y176.length co48 : Value).ownBlock)) (by (with_reducible repeat (first | apply Kd.R_alloc | apply Kd.R_drewN | apply Kd.R_drew)); exact Kd.R_mono HO_10.out (fun _ hk => ⟨⟨hk.1.2, hk.2⟩, hk.1.1⟩)) hg hat)
                      have n1_ := Aside0.mk (Kd.R_over' (by (with_reducible repeat (first | apply Kd.R_alloc | apply Kd.R_drewN | apply Kd.R_drew)); exact HO_164001.out) (Kd.R_typed (by (with_reducible repeat (first | apply Kd.R_alloc | apply Kd.R_drewN | apply Kd.R_drew)); exact HO_9.out)) (by decide) hg)
                      have n2_ := Aside0.mk (Kd.R_over' (by (with_reducible repeat (first | apply Kd.R_alloc | apply Kd.R_drewN | apply Kd.R_drew)); exact HO_174001.out) (Kd.R_typed (by (with_reducible repeat (first | apply Kd.R_alloc | apply Kd.R_drewN | apply Kd.R_drew)); exact HO_9.out)) (by decide) hg)
                      have n3_ := Aside0.mk (blk_grown (g := gb163) (o := .cells #[.int .i64 x164000_1, .slice Ao24 x164001_1.length co24] 44 (0, 0)) (by (with_reducible repeat (first | refine blk_drewN ?_ _ | refine blk_drew ?_ | refine blk_alloc ?_ _)); exact BK163.out) hg (Kd.R_ne HO_9.out BK163.out (by decide)))
                      have n4_ := Aside0.mk (blk_grown (g := gb173) (o := .cells #[.int .i64 t167, .slice Ao29 t168.length co29] 44 (0, 0)) (by (with_reducible repeat (first | refine blk_drewN ?_ _ | refine blk_drew ?_ | refine blk_alloc ?_ _)); exact BK173.out) hg (Kd.R_ne HO_9.out BK173.out (by decide)))
                      have n5_ := Aside0.mk (Kd.R_after (ok := (fun k_ => some k_ ≠ (.slice Ao41 x10_1.length co41 : Value).ownBlock ∧ some k_ ≠ (.slice Ao48 y176.length co48 : Value).ownBlock)) (by (with_reducible repeat (first | apply Kd.R_alloc | apply Kd.R_drewN | apply Kd.R_drew)); exact Kd.R_mono HO184.out (fun _ hk => ⟨⟨hk.1.2, hk.2⟩, hk.1.1.2⟩)) hg hat)
                      have n6_ := Aside0.mk (Kd.R_after (ok := (fun k_ => some k_ ≠ (.slice Ao41 x10_1.length co41 : Value).ownBlock ∧ some k_ ≠ (v183 : Value).ownBlock)) (by (with_reducible repeat (first | apply Kd.R_alloc | apply Kd.R_drewN | apply Kd.R_drew)); exact Kd.R_mono HO178.out (fun _ hk => ⟨⟨hk.1.2, hk.2⟩, hk.1.1.2⟩)) hg hat)
                      have n7_ := Aside0.mk (hb)
                      have n8_ := Aside0.mk (ho)
                      clear HO_10
                      clear HO_164001
                      clear HO_174001
                      clear BK163
                      clear BK173
                      clear HO184
                      clear HO178
                      clear HB
                      clear HO_9
                      have HO_10 := n0_
                      have HO_164001 := n1_
                      have HO_174001 := n2_
                      have BK163 := n3_
                      have BK173 := n4_
                      have HO184 := n5_
                      have HO178 := n6_
                      have HB := n7_
                      have HO181 := n8_
                      clear n0_ n1_ n2_ n3_ n4_ n5_ n6_ n7_ n8_
                      clear ho hb hg hat
                      refine hK.out _ _ ⟨(blk_cell BK173.out 0).trans rfl, (blk_cell BK173.out 1).trans rfl⟩ (fun hHeld => ?_)
                      clear hK K
                      refine norm_ (a' := ?_) ?_ ?_
                      rotate_left
                      · show Act.put _ (some 97) _ = _
                        simp only [Act.put, List.setIfInBounds_toArray, List.set_cons_zero, List.set_cons_succ, i64_w, i32_w]
                        rfl
                      exact norm_ (by simp only [putAll, Act.put, List.setIfInBounds_toArray, List.set_cons_zero, List.set_cons_succ]) (hCont (.slice Ao48 y176.length co48, v180, v183) _ ⟨hHeld, (by (with_reducible repeat (first | apply Kd.R_alloc | apply Kd.R_drewN | apply Kd.R_drew)); exact Kd.R_mono HO178.out (fun _ hk => ⟨hk.2, ⟨hk.1.2, hk.1.1⟩⟩)), (by (with_reducible repeat (first | apply Kd.R_alloc | apply Kd.R_drewN | apply Kd.R_drew)); exact Kd.R_mono HO181.out (fun _ hk => ⟨hk.2.2, ⟨hk.2.1, hk.1⟩⟩)), (by (with_reducible repeat (first | apply Kd.R_alloc | apply Kd.R_drewN | apply Kd.R_drew)); exact Kd.R_mono HO184.out (fun _ hk => ⟨hk.1.2, ⟨hk.2, hk.1.1⟩⟩)), (by (with_reducible repeat (first | apply Kd.R_alloc | apply Kd.R_drewN | apply Kd.R_drew)); exact Kd.R_mono HO_10.out (fun _ hk => ⟨hk.1.2, ⟨hk.2, hk.1.1⟩⟩)), (by (with_reducible repeat (first | apply Kd.R_alloc | apply Kd.R_drewN | apply Kd.R_drew)); exact HO_164001.out), (by (with_reducible repeat (first | apply Kd.R_alloc | apply Kd.R_drewN | apply Kd.R_drew)); exact HO_174001.out), (by (with_reducible repeat (first | refine blk_drewN ?_ _ | refine blk_drew ?_ | refine blk_alloc ?_ _)); exact BK163.out), (by (with_reducible repeat (first | refine blk_drewN ?_ _ | refine blk_drew ?_ | refine blk_alloc ?_ _)); exact BK173.out), (by repeat (first | (with_reducible first | exact HB.out | apply below_alloc | apply pw_below_drewN | apply below_drew1 | refine below_set ?_ GE163.out | refine below_set ?_ GE173.out) | exact HB.out))⟩)
                  rintro ⟨v177, v180, v183⟩ w49 ⟨hS_, h0_, h1_, h2_, h3_, h4_, h5_, h6_, h7_, h8_⟩
                  have n0_ : Aside0 (Kd.R (Kd.int .i64) 3 w49 w.heap.size (fun k_ => some k_ ≠ (v180 : Value).ownBlock ∧ some k_ ≠ (v183 : Value).ownBlock ∧ some k_ ≠ (.slice Ao41 x10_1.length co41 : Value).ownBlock) v177 y176) := ⟨h0_⟩
                  have n1_ : Aside0 (Kd.R (Kd.int .i64) 3 w49 w.heap.size (fun k_ => some k_ ≠ (v177 : Value).ownBlock ∧ some k_ ≠ (v183 : Value).ownBlock ∧ some k_ ≠ (.slice Ao41 x10_1.length co41 : Value).ownBlock) v180 y179) := ⟨h1_⟩
                  have n2_ : Aside0 (Kd.R (Kd.int .i64) 3 w49 w.heap.size (fun k_ => some k_ ≠ (v177 : Value).ownBlock ∧ some k_ ≠ (v180 : Value).ownBlock ∧ some k_ ≠ (.slice Ao41 x10_1.length co41 : Value).ownBlock) v183 y182) := ⟨h2_⟩
                  have n3_ : Aside0 (Kd.R (Kd.int .i64) 3 w49 w.heap.size (fun k_ => some k_ ≠ (v177 : Value).ownBlock ∧ some k_ ≠ (v180 : Value).ownBlock ∧ some k_ ≠ (v183 : Value).ownBlock) (.slice Ao41 x10_1.length co41) x10_1) := ⟨h3_⟩
                  have n4_ : Aside0 (Kd.R (Kd.int .u64) 42 w49 w.heap.size (fun k_ => some k_ ≠ (.slice Ao29 t168.length co29 : Value).ownBlock) (.slice Ao24 x164001_1.length co24) x164001_1) := ⟨h4_⟩
                  have n5_ : Aside0 (Kd.R (Kd.int .u64) 42 w49 w.heap.size (fun k_ => some k_ ≠ (.slice Ao24 x164001_1.length co24 : Value).ownBlock) (.slice Ao29 t168.length co29) t168) := ⟨h5_⟩
                  have n6_ : Aside0 (w49.heap[gb163]? = some (.cells #[.int .i64 x164000_1, .slice Ao24 x164001_1.length co24] 44 (0, 0))) := ⟨h6_⟩
                  have n7_ : Aside0 (w49.heap[gb173]? = some (.cells #[.int .i64 t167, .slice Ao29 t168.length co29] 44 (0, 0))) := ⟨h7_⟩
                  have n8_ : Aside0 (Below w.heap.size w w49) := ⟨h8_⟩
                  clear HO_9
                  clear HO_10
                  clear HO_164001
                  clear HO_174001
                  clear BK163
                  clear BK173
                  clear HB
                  clear h0_ h1_ h2_ h3_ h4_ h5_ h6_ h7_ h8_
                  have HO178 := n0_
                  have HO181 := n1_
                  have HO184 := n2_
                  have HO_10 := n3_
                  have HO_164001 := n4_
                  have HO_174001 := n5_
                  have BK163 := n6_
                  have BK173 := n7_
                  have HB := n8_
                  clear n0_ n1_ n2_ n3_ n4_ n5_ n6_ n7_ n8_
                  have hHeld : w49.cell? ⟨gb173, 0, none⟩ = some (.int .i64 t167) ∧ w49.cell? ⟨gb173, 1, none⟩ = some (.slice Ao29 t168.length co29) := hS_
                  obtain ⟨Ao51, co51, eo51⟩ := Kd.R_slice HO184.out
                  (first | subst eo51 | (injection eo51 with f1_ f2_ f3_; have f4_ := f1_.symm; have f5_ := f3_.symm; clear f1_ f2_ f3_; subst f4_; subst f5_))
                  refine norm_ (a' := ?_) ?_ ?_
                  rotate_left
                  · simp only [putAll, Act.put, List.setIfInBounds_toArray, List.set_cons_zero, List.set_cons_succ]
                    rfl
                  refine one_ (i := 8) (N := some 101) #[true, true, true, true, true, true, true, true, true, true, true, true, false, false, false, false] rfl rfl (one_of HT_.out (by kernel_rfl)) (by decide) (fun K hK => ?_)
                  refine Kd.R_append_rows_step (Kd.int .i64) (w0 := w) w.heap.size (by rfl) (.tmp 98) (.tmp 100) 56 3 (.int .i64 0) 8 rfl Tryd.underlying56 info3 rfl (by decide) (by omega) (.slice Ao41 x10_1.length co41) x10_1 y182 _ _ _ (fun k_ => some k_ ≠ (v177 : Value).ownBlock ∧ some k_ ≠ (v180 : Value).ownBlock ∧ some k_ ≠ (.slice Ao51 y182.length co51 : Value).ownBlock) (fun _ => False) rfl rfl ?aO ?aR (fun _ _ h => h) (fun _ h => h.elim) ?aF ?aB ?aS ?aL ?_
                  (case aR => repeat (first | exact (Kd.R_reads' HO184.out).2.2 | (with_reducible refine Kd.C_alloc ?_ _) | (with_reducible refine Kd.C_drewN ?_ _) | (with_reducible refine Kd.C_drew ?_)))
                  (case aB => exact (by repeat (first | (with_reducible first | exact HB.out | apply below_alloc | apply pw_below_drewN | apply below_drew1 | refine below_set ?_ GE163.out | refine below_set ?_ GE173.out) | exact HB.out)))
                  (case aF => exact (fun k_ hk => ⟨Kd.fresh' (Kd.R_lt (by (with_reducible repeat (first | apply Kd.R_alloc | apply Kd.R_drewN | apply Kd.R_drew)); exact HO178.out)) k_ hk, Kd.fresh' (Kd.R_lt (by (with_reducible repeat (first | apply Kd.R_alloc | apply Kd.R_drewN | apply Kd.R_drew)); exact HO181.out)) k_ hk, Kd.fresh' (Kd.R_lt (by (with_reducible repeat (first | apply Kd.R_alloc | apply Kd.R_drewN | apply Kd.R_drew)); exact HO184.out)) k_ hk⟩))
                  (case aO => exact (by (with_reducible repeat (first | apply Kd.R_alloc | apply Kd.R_drewN | apply Kd.R_drew)); exact HO_10.out))
                  (case aS => exact (below_size (by repeat (first | (with_reducible first | exact HB.out | apply below_alloc | apply pw_below_drewN | apply below_drew1 | refine below_set ?_ GE163.out | refine below_set ?_ GE173.out) | exact HB.out))))
                  (case aL => have := LMc40.out; omega)
                  intro v186 w50 ho hb hg hat
                  rw [← Ny185.out] at ho
                  have n0_ := Aside0.mk (Kd.R_over' (by (with_reducible repeat (first | apply Kd.R_alloc | apply Kd.R_drewN | apply Kd.R_drew)); exact HO_164001.out) (Kd.R_typed (by (with_reducible repeat (first | apply Kd.R_alloc | apply Kd.R_drewN | apply Kd.R_drew)); exact HO_10.out)) (by decide) hg)
                  have n1_ := Aside0.mk (Kd.R_over' (by (with_reducible repeat (first | apply Kd.R_alloc | apply Kd.R_drewN | apply Kd.R_drew)); exact HO_174001.out) (Kd.R_typed (by (with_reducible repeat (first | apply Kd.R_alloc | apply Kd.R_drewN | apply Kd.R_drew)); exact HO_10.out)) (by decide) hg)
                  have n2_ := Aside0.mk (blk_grown (g := gb163) (o := .cells #[.int .i64 x164000_1, .slice Ao24 x164001_1.length co24] 44 (0, 0)) (by (with_reducible repeat (first | refine blk_drewN ?_ _ | refine blk_drew ?_ | refine blk_alloc ?_ _)); exact BK163.out) hg (Kd.R_ne HO_10.out BK163.out (by decide)))
                  have n3_ := Aside0.mk (blk_grown (g := gb173) (o := .cells #[.int .i64 t167, .slice Ao29 t168.length co29] 44 (0, 0)) (by (with_reducible repeat (first | refine blk_drewN ?_ _ | refine blk_drew ?_ | refine blk_alloc ?_ _)); exact BK173.out) hg (Kd.R_ne HO_10.out BK173.out (by decide)))
                  have n4_ := Aside0.mk (Kd.R_after (ok := (fun k_ => some k_ ≠ (v180 : Value).ownBlock ∧ some k_ ≠ (.slice Ao51 y182.length co51 : Value).ownBlock)) (by (with_reducible repeat (first | apply Kd.R_alloc | apply Kd.R_drewN | apply Kd.R_drew)); exact Kd.R_mono HO178.out (fun _ hk => ⟨⟨hk.1, hk.2.1⟩, hk.2.2⟩)) hg hat)
                  have n5_ := Aside0.mk (Kd.R_after (ok := (fun k_ => some k_ ≠ (v177 : Value).ownBlock ∧ some k_ ≠ (.slice Ao51 y182.length co51 : Value).ownBlock)) (by (with_reducible repeat (first | apply Kd.R_alloc | apply Kd.R_drewN | apply Kd.R_drew)); exact Kd.R_mono HO181.out (fun _ hk => ⟨⟨hk.1, hk.2.1⟩, hk.2.2⟩)) hg hat)
                  have n6_ := Aside0.mk (Kd.R_after (ok := (fun k_ => some k_ ≠ (v177 : Value).ownBlock ∧ some k_ ≠ (v180 : Value).ownBlock)) (by (with_reducible repeat (first | apply Kd.R_alloc | apply Kd.R_drewN | apply Kd.R_drew)); exact Kd.R_mono HO184.out (fun _ hk => ⟨⟨hk.1, hk.2.1⟩, hk.2.2⟩)) hg hat)
                  have n7_ := Aside0.mk (hb)
                  have n8_ := Aside0.mk (ho)
                  clear HO_164001
                  clear HO_174001
                  clear BK163
                  clear BK173
                  clear HO178
                  clear HO181
                  clear HO184
                  clear HB
                  clear HO_10
                  have HO_164001 := n0_
                  have HO_174001 := n1_
                  have BK163 := n2_
                  have BK173 := n3_
                  have HO178 := n4_
                  have HO181 := n5_
                  have HO184 := n6_
                  have HB := n7_
                  have HO187 := n8_
                  clear n0_ n1_ n2_ n3_ n4_ n5_ n6_ n7_ n8_
                  clear ho hb hg hat
                  refine hK.out _ _ ⟨(blk_cell BK173.out 0).trans rfl, (blk_cell BK173.out 1).trans rfl⟩ (fun hHeld => ?_)
                  clear hK K
                  refine norm_ (a' := ?_) ?_ ?_
                  rotate_left
                  · show Act.put _ (some 101) _ = _
                    simp only [Act.put, List.setIfInBounds_toArray, List.set_cons_zero, List.set_cons_succ, i64_w, i32_w]
                    rfl
                  refine one_ (i := 12) (N := none) #[true, true, true, true, true, true, true, true, true, true, true, true, true, false, false, false] rfl rfl (one_of HT_.out (by kernel_rfl)) (by decide) (fun K hK => ?_)
                  have hs52 : w50.cell? ⟨gb163, 0, none⟩ = some (.int .i64 x164000_1) := (blk_cell BK163.out 0).trans rfl
                  have hfs52 := blk_frozen BK163.out 0
                  have hns52_1 := NB173_163.out
                  have hms52_1 := NB163_173.out
                  have hs53 : w50.cell? ⟨gb163, 1, none⟩ = some (.slice Ao24 x164001_1.length co24) := (blk_cell BK163.out 1).trans rfl
                  have hfs53 := blk_frozen BK163.out 1
                  have hns53_1 := NB173_163.out
                  have hms53_1 := NB163_173.out
                  refine skip_ (w1 := ?_) (by rfl) rfl ?_ ?_
                  rotate_left
                  · go_simp
                    rfl
                  refine hK.out _ _ ⟨((cell_far (p := ⟨gb163, _, none⟩) NB173_163.out _).trans (((cell_far (p := ⟨gb163, _, none⟩) NB173_163.out _).trans (hHeld.1)))), ((cell_far (p := ⟨gb163, _, none⟩) NB173_163.out _).trans (((cell_far (p := ⟨gb163, _, none⟩) NB173_163.out _).trans (hHeld.2))))⟩ (fun hHeld => ?_)
                  clear hK K
                  refine pure_ (i := 13) (N := some 9) (v := ?_) (a' := ?_) #[true, true, true, true, true, true, true, true, true, true, true, true, true, true, false, false] rfl rfl (any_of HT_.out (by kernel_rfl)) (fun _ _ _ h => h) (Or.inl ⟨by rfl, ?_⟩) ?_ ?_
                  rotate_left
                  · intro w'
                    go_simp
                    with_reducible rfl
                  rotate_left
                  · simp only [Act.put, List.setIfInBounds_toArray, List.set_cons_zero, List.set_cons_succ, i64_w, i32_w]
                    rfl
                  refine pure_ (i := 14) (N := some 10) (v := ?_) (a' := ?_) #[true, true, true, true, true, true, true, true, true, true, true, true, true, true, true, false] rfl rfl (any_of HT_.out (by kernel_rfl)) (fun _ _ _ h => h) (Or.inl ⟨by rfl, ?_⟩) ?_ ?_
                  rotate_left
                  · intro w'
                    go_simp
                    with_reducible rfl
                  rotate_left
                  · simp only [Act.put, List.setIfInBounds_toArray, List.set_cons_zero, List.set_cons_succ, i64_w, i32_w]
                    rfl
                  refine pure_ (i := 15) (N := some 11) (v := ?_) (a' := ?_) #[true, true, true, true, true, true, true, true, true, true, true, true, true, true, true, true] rfl rfl (any_of HT_.out (by kernel_rfl)) (fun _ _ _ h => h) (Or.inl ⟨by rfl, ?_⟩) ?_ ?_
                  rotate_left
                  · intro w'
                    go_simp
                    with_reducible rfl
                  rotate_left
                  · simp only [Act.put, List.setIfInBounds_toArray, List.set_cons_zero, List.set_cons_succ, i64_w, i32_w]
                    rfl
                  refine done_ (done_of HT_.out (by kernel_rfl)) ?_
                  try go_wp2
                  go_roundg k3
                  case measure => have := HK1.out; have := HJ16.out; have := HK3.out; omega
                  case rel => exact ⟨(y179), (y185), (wrap64 (x11_1 + t165)), (wrap64 (x45_1 + 1)), (t167), (t168), (.slice Ao29 t168.length co29), (by first | rfl | (simp; done) | (simp [*]; done)), (by first | rfl | (simp; done) | (simp [*]; done)), H', ⟨by have := HK1.out; have := HJ16.out; have := HK3.out; omega⟩, ⟨by (with_reducible repeat (first | apply Kd.R_alloc | apply Kd.R_drewN | apply Kd.R_drew)); exact Kd.R_mono (Kd.R_far (p := ⟨gb163, 1, none⟩) (Kd.R_far (p := ⟨gb163, 0, none⟩) (Kd.R_types HO181.out BK163.out (by decide)) (fun _ hk => hk.2) (.int .i64 t167)) (fun _ hk => hk.2) (.slice Ao29 t168.length co29)) (fun _ hk => hk.1.2)⟩, ⟨by (with_reducible repeat (first | apply Kd.R_alloc | apply Kd.R_drewN | apply Kd.R_drew)); exact Kd.R_mono (Kd.R_far (p := ⟨gb163, 1, none⟩) (Kd.R_far (p := ⟨gb163, 0, none⟩) (Kd.R_types HO187.out BK163.out (by decide)) (fun _ hk => hk.2) (.int .i64 t167)) (fun _ hk => hk.2) (.slice Ao29 t168.length co29)) (fun _ hk => hk.1.2.1)⟩, ⟨by (with_reducible repeat (first | apply Kd.R_alloc | apply Kd.R_drewN | apply Kd.R_drew)); exact Kd.R_mono (Kd.R_far (p := ⟨gb163, 1, none⟩) (Kd.R_far (p := ⟨gb163, 0, none⟩) (Kd.R_types HO_174001.out BK163.out (by decide)) (fun _ hk => hk.2) (.int .i64 t167)) (fun _ hk => hk.2) (.slice Ao29 t168.length co29)) (fun _ hk => trivial)⟩, ⟨by (with_reducible repeat (first | refine blk_drewN ?_ _ | refine blk_drew ?_ | refine blk_alloc ?_ _)); refine blk_put (cs := #[.int .i64 t167, .slice Ao24 x164001_1.length co24]) ?_ 1 _ rfl; (with_reducible repeat (first | refine blk_drewN ?_ _ | refine blk_drew ?_ | refine blk_alloc ?_ _)); refine blk_put (cs := #[.int .i64 x164000_1, .slice Ao24 x164001_1.length co24]) ?_ 0 _ rfl; (with_reducible repeat (first | refine blk_drewN ?_ _ | refine blk_drew ?_ | refine blk_alloc ?_ _)); exact BK163.out⟩, ⟨by repeat (first | (with_reducible first | exact HB.out | apply below_alloc | apply pw_below_drewN | apply below_drew1 | refine below_set ?_ GE163.out | refine below_set ?_ GE173.out) | exact HB.out)⟩⟩
                rw [if_pos c31] at H
                have c31b0 : decide (x72_3 < (x9_1.length : Int)) = true := decide_eq_true c31
                clear c31
                by_cases c32 : 0 ≤ x72_3
                rotate_left
                · rw [if_neg c32] at H
                  exact absurd H (by simp)
                rw [if_pos c32] at H
                have c32b0 : decide (0 ≤ x72_3) = true := decide_eq_true c32
                clear c32
                by_cases c33 : x72_3 < (x9_1.length : Int)
                rotate_left
                · rw [if_neg c33] at H
                  exact absurd H (by simp)
                rw [if_pos c33] at H
                have c33b0 : decide (x72_3 < (x9_1.length : Int)) = true := decide_eq_true c33
                clear c33
                by_cases c34 : x72_3 < (x10_1.length : Int)
                rotate_left
                · rw [if_neg c34] at H
                  exact absurd H (by simp)
                rw [if_pos c34] at H
                have c34b0 : decide (x72_3 < (x10_1.length : Int)) = true := decide_eq_true c34
                clear c34
                by_cases c35 : t171 < (wrap64 ((rd x9_1 x72_3) + (rd x10_1 x72_3)))
                rotate_left
                · rw [if_neg c35] at H
                  have c35b0 : decide (t171 < (wrap64 ((rd x9_1 x72_3) + (rd x10_1 x72_3)))) = false := decide_eq_false c35
                  clear c35
                  have H' := Aside0.mk H
                  clear H
                  have p174 : 0 ≤ (x72_3 : Int) := of_decide_eq_true (by first | (with_reducible assumption) | assumption)
                  have q174 : x72_3 < (x9_1.length : Int) := of_decide_eq_true (by first | (with_reducible assumption) | assumption)
                  obtain ⟨ad174, e174, hx174_0⟩ := Kd.at_int (Kd.R_reads' HO_9.out).2.2 x72_3 p174 q174
                  cases e174
                  replace p174 := eq_true p174
                  replace q174 := eq_true q174
                  obtain ⟨Ao38, co38, eo38⟩ := Kd.R_slice HO_10.out
                  subst eo38
                  have p175 : 0 ≤ (x72_3 : Int) := of_decide_eq_true (by first | (with_reducible assumption) | assumption)
                  have q175 : x72_3 < (x10_1.length : Int) := of_decide_eq_true (by first | (with_reducible assumption) | assumption)
                  obtain ⟨ad175, e175, hx175_0⟩ := Kd.at_int (Kd.R_reads' HO_10.out).2.2 x72_3 p175 q175
                  cases e175
                  replace p175 := eq_true p175
                  replace q175 := eq_true q175
                  go_wp2
                  go_roundg k3
                  case measure => have := HK1.out; have := HJ16.out; have := HK3.out; omega
                  case rel => exact ⟨(wrap64 (x72_3 + 1)), (by first | rfl | (simp; done) | (simp [*]; done)), H', ⟨by have := HK1.out; have := HJ16.out; have := HK3.out; omega⟩, ⟨by (with_reducible repeat (first | apply Kd.R_alloc | apply Kd.R_drewN | apply Kd.R_drew)); exact HO_9.out⟩, ⟨by (with_reducible repeat (first | apply Kd.R_alloc | apply Kd.R_drewN | apply Kd.R_drew)); exact HO_10.out⟩, ⟨by (with_reducible repeat (first | apply Kd.R_alloc | apply Kd.R_drewN | apply Kd.R_drew)); exact HO_164001.out⟩, ⟨by (with_reducible repeat (first | apply Kd.R_alloc | apply Kd.R_drewN | apply Kd.R_drew)); exact HO_174001.out⟩, ⟨by (with_reducible repeat (first | refine blk_drewN ?_ _ | refine blk_drew ?_ | refine blk_alloc ?_ _)); exact BK163.out⟩, ⟨by (with_reducible repeat (first | refine blk_drewN ?_ _ | refine blk_drew ?_ | refine blk_alloc ?_ _)); exact BK173.out⟩, ⟨by repeat (first | (with_reducible first | exact HB.out | apply below_alloc | apply pw_below_drewN | apply below_drew1 | refine below_set ?_ GE163.out | refine below_set ?_ GE173.out) | exact HB.out)⟩⟩
                rw [if_pos c35] at H
                have c35b0 : decide (t171 < (wrap64 ((rd x9_1 x72_3) + (rd x10_1 x72_3)))) = true := decide_eq_true c35
                clear c35
                by_cases c36 : (rd x9_1 x72_3) < (wrap64 (t171 + t165))
                rotate_left
                · rw [if_neg c36] at H
                  have c36b0 : decide ((rd x9_1 x72_3) < (wrap64 (t171 + t165))) = false := decide_eq_false c36
                  clear c36
                  have H' := Aside0.mk H
                  clear H
                  have p174 : 0 ≤ (x72_3 : Int) := of_decide_eq_true (by first | (with_reducible assumption) | assumption)
                  have q174 : x72_3 < (x9_1.length : Int) := of_decide_eq_true (by first | (with_reducible assumption) | assumption)
                  obtain ⟨ad174, e174, hx174_0⟩ := Kd.at_int (Kd.R_reads' HO_9.out).2.2 x72_3 p174 q174
                  cases e174
                  replace p174 := eq_true p174
                  replace q174 := eq_true q174
                  obtain ⟨Ao37, co37, eo37⟩ := Kd.R_slice HO_10.out
                  subst eo37
                  have p175 : 0 ≤ (x72_3 : Int) := of_decide_eq_true (by first | (with_reducible assumption) | assumption)
                  have q175 : x72_3 < (x10_1.length : Int) := of_decide_eq_true (by first | (with_reducible assumption) | assumption)
                  obtain ⟨ad175, e175, hx175_0⟩ := Kd.at_int (Kd.R_reads' HO_10.out).2.2 x72_3 p175 q175
                  cases e175
                  replace p175 := eq_true p175
                  replace q175 := eq_true q175
                  go_wp2
                  go_roundg k3
                  case measure => have := HK1.out; have := HJ16.out; have := HK3.out; omega
                  case rel => exact ⟨(wrap64 (x72_3 + 1)), (by first | rfl | (simp; done) | (simp [*]; done)), H', ⟨by have := HK1.out; have := HJ16.out; have := HK3.out; omega⟩, ⟨by (with_reducible repeat (first | apply Kd.R_alloc | apply Kd.R_drewN | apply Kd.R_drew)); exact HO_9.out⟩, ⟨by (with_reducible repeat (first | apply Kd.R_alloc | apply Kd.R_drewN | apply Kd.R_drew)); exact HO_10.out⟩, ⟨by (with_reducible repeat (first | apply Kd.R_alloc | apply Kd.R_drewN | apply Kd.R_drew)); exact HO_164001.out⟩, ⟨by (with_reducible repeat (first | apply Kd.R_alloc | apply Kd.R_drewN | apply Kd.R_drew)); exact HO_174001.out⟩, ⟨by (with_reducible repeat (first | refine blk_drewN ?_ _ | refine blk_drew ?_ | refine blk_alloc ?_ _)); exact BK163.out⟩, ⟨by (with_reducible repeat (first | refine blk_drewN ?_ _ | refine blk_drew ?_ | refine blk_alloc ?_ _)); exact BK173.out⟩, ⟨by repeat (first | (with_reducible first | exact HB.out | apply below_alloc | apply pw_below_drewN | apply below_drew1 | refine below_set ?_ GE163.out | refine below_set ?_ GE173.out) | exact HB.out)⟩⟩
                rw [if_pos c36] at H
                have c36b0 : decide ((rd x9_1 x72_3) < (wrap64 (t171 + t165))) = true := decide_eq_true c36
                clear c36
                exact absurd ((Option.some.inj H).trans HLAW.out) (by decide)
          subst c20
          have H1 : (besomtop_TopHeld.l0 kj16 a0 l1 l2 x9_1 x10_1 x11_1 (l1.length : Int) (wrap64 (x45_1 + 1)) x164000_1 x164001_1) = some r := by rw [if_pos rfl] at H; exact H
          clear H
          have H := H1
          clear H1
          have H' := Aside0.mk H
          clear H
          go_wp2
          go_roundg kj16
          case measure => have := HK1.out; have := HJ16.out; omega
          case rel => exact ⟨(x9_1), (x10_1), (x11_1), (wrap64 (x45_1 + 1)), (x164000_1), (x164001_1), (u164001), (by first | rfl | (simp; done) | (simp [*]; done)), (by first | rfl | (simp; done) | (simp [*]; done)), H', ⟨by have := HK1.out; have := HJ16.out; omega⟩, ⟨by (with_reducible repeat (first | apply Kd.R_alloc | apply Kd.R_drewN | apply Kd.R_drew)); exact HO_9.out⟩, ⟨by (with_reducible repeat (first | apply Kd.R_alloc | apply Kd.R_drewN | apply Kd.R_drew)); exact HO_10.out⟩, ⟨by (with_reducible repeat (first | apply Kd.R_alloc | apply Kd.R_drewN | apply Kd.R_drew)); exact HO_164001.out⟩, ⟨by (with_reducible repeat (first | refine blk_drewN ?_ _ | refine blk_drew ?_ | refine blk_alloc ?_ _)); exact BK163.out⟩, ⟨by repeat (first | (with_reducible first | exact HB.out | apply below_alloc | apply pw_below_drewN | apply below_drew1 | refine below_set ?_ GE163.out) | exact HB.out)⟩⟩
end Go.Proofs.YthphncefbahcaaaDoor.GT
