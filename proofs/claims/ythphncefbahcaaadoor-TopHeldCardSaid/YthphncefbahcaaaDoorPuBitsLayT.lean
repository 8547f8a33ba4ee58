/- What Fill of package bits comes to. (Drawn from PuBitsPutI.) -/
import Derived.Test.YthphncefbahcaaaDoorGTx2
import Derived.Test.YthphncefbahcaaaDoorPuBitsT
namespace Go.Proofs.YthphncefbahcaaaDoor.PuBitsLayT
open Go.RowKit Go.Proofs.YthphncefbahcaaaDoorW.PrintWords Go.Proofs.YthphncefbahcaaaDoorW.PrintLast Go.Proofs.YthphncefbahcaaaDoorW.PrintMore Go.Proofs.YthphncefbahcaaaDoor.GT Go.Proofs.YthphncefbahcaaaDoor.Pu Go.Proofs.YthphncefbahcaaaDoor.PuBitW Go.Proofs.YthphncefbahcaaaDoor.PuBitsT


theorem putW_nat (v : Bool) (a r : Nat) (ha : a < 18446744073709551616) (hr : r < 64) : putW v (a : Int) r = (((if v = true then a ||| 2 ^ r else without a (2 ^ r)) : Nat) : Int) := put_nat v a r ha hr
/-- The list with bit i laid to v. -/
def setAt (v : Bool) (l : List Int) (i : Nat) : List Int := l.set (i / 64) (putW v (rd l ((i / 64 : Nat) : Int)) (i % 64))
theorem setAt_len (v : Bool) (l : List Int) (i : Nat) : (setAt v l i).length = l.length := by simp [setAt]
theorem setAt_words {l : List Int} (hw : Words l) (v : Bool) (i : Nat) : Words (setAt v l i) := by
  obtain ⟨e3, hlt⟩ := hw.rd_nat (i / 64)
  have h := put_lt v _ (i % 64) hlt (by omega)
  refine hw.set _ ?_ ?_ <;> rw [e3, putW_nat v _ _ hlt (by omega)] <;> omega

theorem set_self {l : List Int} {q : Nat} {x : Int} (h : x = rd l (q : Int)) : l.set q x = l := by
  subst h
  apply List.ext_getElem?
  intro j
  rw [List.getElem?_set]
  split
  · rename_i e; subst e
    split
    · rename_i hj; rw [rd_nat, List.getD_eq_getElem?_getD, List.getElem?_eq_getElem hj]; rfl
    · rename_i hj; rw [List.getElem?_eq_none (by omega)]
  · rfl
/-- The list with m bits laid from fr + x on. -/
def fillAt (v : Bool) (fr : Nat) : Nat → Nat → List Int → List Int
  | 0, _, l => l
  | m + 1, x, l => fillAt v fr m (x + 1) (setAt v l (fr + x))
theorem fillAt_len (v : Bool) (fr : Nat) : ∀ (m x : Nat) (l : List Int), (fillAt v fr m x l).length = l.length
  | 0, _, _ => rfl
  | m + 1, x, l => by rw [fillAt, fillAt_len v fr m, setAt_len]
theorem fillL_eq (v : Bool) (fr : Nat) : ∀ (m x : Nat) (l : List Int), fr + x + m ≤ 64 * l.length → fillL v fr m x l = some (fillAt v fr m x l)
  | 0, _, _, _ => rfl
  | m + 1, x, l, h => by
    unfold fillL fillAt
    rw [if_pos (by omega)]
    have := fillL_eq v fr m (x + 1) (setAt v l (fr + x)) (by rw [setAt_len]; omega)
    exact this
noncomputable def fillS (n : Int) (l : List Int) (fr ct : Int) (v : Bool) : Int × List Int × Int :=
  if BFit n l then (if fr < 0 then (n, l, 1) else if ct < 0 then (n, l, 1) else if ct > n then (n, l, 1) else if fr > n - ct then (n, l, 1) else (n, fillAt v fr.toNat ct.toNat 0 l, 0)) else (0, [], 2)
theorem fill_ev {n : Int} {l : List Int} (hw : Words l) (hl : l.length < 17592186044416) (fr ct : Int) (v : Bool) : Ev (fun k => bits_Fill.f k n l fr ct v) (fillS n l fr ct v) := by
  unfold bits_Fill.f
  refine Ev.bind (check_ev hw hl) ?_
  unfold fillS
  by_cases h : BFit n l
  · rw [chk_good h]; simp only [h, if_true]
    rw [own_eq n l hl]; simp only [Option.bind_some]
    by_cases h1 : fr < 0
    · simp only [h1, if_true]; exact ev_const rfl
    simp only [h1, if_false]
    by_cases h2 : ct < 0
    · simp only [h2, if_true]; exact ev_const rfl
    simp only [h2, if_false]
    by_cases h3 : ct > n
    · simp only [h3, if_true]; exact ev_const rfl
    simp only [h3, if_false]
    obtain ⟨g0, g1, g2, _⟩ := h
    rw [w64 (by omega) (by omega)]
    by_cases h4 : fr > n - ct
    · simp only [h4, if_true]; exact ev_const rfl
    simp only [h4, if_false]
    rw [if_pos (by omega), fillL_eq v _ _ _ _ (by omega)]; exact ev_const rfl
  · rw [chk_bad h]; simp only [h, if_false, show ¬ ((2 : Int) = 0) by decide]; exact ev_const rfl
theorem fillS_len {n : Int} {l : List Int} (hl : l.length < 17592186044416) (fr ct : Int) (v : Bool) : (fillS n l fr ct v).2.1.length < 17592186044416 := by
  unfold fillS; repeat' split
  all_goals first | exact hl | (simp only [fillAt_len]; exact hl) | (simp; done)

end Go.Proofs.YthphncefbahcaaaDoor.PuBitsLayT
