/- What laid bits are, and how many then are so. -/
import Derived.Test.YthphncefbahcaaaDoorPuBitsLayT
import Derived.Test.YthphncefbahcaaaDoorPuBitsCountLT
namespace Go.Proofs.YthphncefbahcaaaDoor.PuBitsFillJT
open Go.RowKit Go.Proofs.YthphncefbahcaaaDoorW.PrintWords Go.Proofs.YthphncefbahcaaaDoorW.PrintLast Go.Proofs.YthphncefbahcaaaDoorW.PrintMore Go.Proofs.YthphncefbahcaaaDoor.GT Go.Proofs.YthphncefbahcaaaDoor.Pu Go.Proofs.YthphncefbahcaaaDoor.PuBitW Go.Proofs.YthphncefbahcaaaDoor.PuBitsT Go.Proofs.YthphncefbahcaaaDoor.PuBitsLayT Go.Proofs.YthphncefbahcaaaDoor.PuBitsCountLT

theorem setAt_bit {l : List Int} (hw : Words l) (v : Bool) (i j : Nat) (hi : i < 64 * l.length) : bitAt (setAt v l i) j = if j = i then v else bitAt l j := by
  obtain ⟨e3, hL⟩ := hw.rd_nat (i / 64)
  unfold bitAt setAt
  rw [e3, putW_nat v _ _ hL (by omega)]
  by_cases hq : j / 64 = i / 64
  · rw [hq, List.getD_eq_getElem?_getD, List.getElem?_set_self (by omega), Option.getD_some, Int.toNat_natCast, put_bit]
    by_cases e : j = i
    · rw [if_pos (by rw [e]), if_pos e]
    · rw [if_neg (by omega), if_neg e]
  · rw [List.getD_eq_getElem?_getD, List.getElem?_set_ne (fun h => hq h.symm), ← List.getD_eq_getElem?_getD, if_neg (fun h => hq (by rw [h]))]
theorem fillAt_words (v : Bool) (fr : Nat) : ∀ (m x : Nat) {l : List Int}, Words l → Words (fillAt v fr m x l)
  | 0, _, _, h => h
  | m + 1, x, _, h => fillAt_words v fr m (x + 1) (setAt_words h v _)
theorem fillAt_bit (v : Bool) (fr : Nat) : ∀ (m x : Nat) {l : List Int} (j : Nat), Words l → fr + x + m ≤ 64 * l.length → bitAt (fillAt v fr m x l) j = if fr + x ≤ j ∧ j < fr + x + m then v else bitAt l j
  | 0, x, l, j, _, _ => by rw [if_neg (by omega)]; rfl
  | m + 1, x, l, j, hw, h => by
    rw [fillAt, fillAt_bit v fr m (x + 1) j (setAt_words hw v _) (by rw [setAt_len]; omega), setAt_bit hw v (fr + x) j (by omega)]
    by_cases e : j = fr + x
    · rw [if_neg (by omega), if_pos e, if_pos (by omega)]
    · rw [if_neg e]
      by_cases c : fr + x ≤ j ∧ j < fr + x + (m + 1)
      · rw [if_pos (by omega), if_pos c]
      · rw [if_neg (by omega), if_neg c]
theorem fill_fit {n : Int} {l : List Int} (hw : Words l) (hf : BFit n l) (v : Bool) (fr m : Nat) (h : (fr : Int) + m ≤ n) : BFit n (fillAt v fr m 0 l) := by
  obtain ⟨a0, a1, a2, a3⟩ := hf
  refine ⟨a0, a1, by rw [fillAt_len]; exact a2, fun i i0 i1 => ?_⟩
  rw [fillAt_len] at i1
  rw [fillAt_bit v fr m 0 i hw (by omega), if_neg (by omega)]
  exact a3 i i0 i1
theorem cntI_congr (l m : List Int) : ∀ (d i : Nat), (∀ j, i ≤ j → j < i + d → bitAt l j = bitAt m j) → cntI l i d = cntI m i d
  | 0, _, _ => rfl
  | d + 1, i, h => by rw [cntI, cntI, h i (by omega) (by omega), cntI_congr l m d (i + 1) (fun j j0 j1 => h j (by omega) (by omega))]
theorem cntI_all (l : List Int) : ∀ (d i : Nat), (∀ j, i ≤ j → j < i + d → bitAt l j = true) → cntI l i d = d
  | 0, _, _ => rfl
  | d + 1, i, h => by rw [cntI, h i (by omega) (by omega), cntI_all l d (i + 1) (fun j j0 j1 => h j (by omega) (by omega))]; simp; omega
/-- Where a run is clear in one and set in the other, so many more are so. -/
theorem cntI_run (l m : List Int) (N fr d : Nat) (h : fr + d ≤ N) (h0 : ∀ j, fr ≤ j → j < fr + d → bitAt l j = false) (h1 : ∀ j, fr ≤ j → j < fr + d → bitAt m j = true) (hs : ∀ j, j < N → (j < fr ∨ fr + d ≤ j) → bitAt l j = bitAt m j) : cntI m 0 N = cntI l 0 N + d := by
  have a := cntI_split l fr 0 (d + (N - (fr + d)))
  have b := cntI_split m fr 0 (d + (N - (fr + d)))
  have a2 := cntI_split l d (0 + fr) (N - (fr + d))
  have b2 := cntI_split m d (0 + fr) (N - (fr + d))
  rw [show fr + (d + (N - (fr + d))) = N by omega] at a b
  have z := cntI_zero l d (0 + fr) (fun j j0 j1 => h0 j (by omega) (by omega))
  have o := cntI_all m d (0 + fr) (fun j j0 j1 => h1 j (by omega) (by omega))
  have c1 := cntI_congr l m fr 0 (fun j j0 j1 => hs j (by omega) (by omega))
  have c2 := cntI_congr l m (N - (fr + d)) (0 + fr + d) (fun j j0 j1 => hs j (by omega) (by omega))
  omega

end Go.Proofs.YthphncefbahcaaaDoor.PuBitsFillJT
