/- What the functions of package bits come to. -/
import Derived.Test.YthphncefbahcaaaDoorGTx1
import Derived.Test.YthphncefbahcaaaDoorGTx2
import Derived.Test.YthphncefbahcaaaDoorPuBitW
namespace Go.Proofs.YthphncefbahcaaaDoor.PuBitsT
open Go.RowKit Go.Proofs.YthphncefbahcaaaDoorW.PrintWords Go.Proofs.YthphncefbahcaaaDoorW.PrintLast Go.Proofs.YthphncefbahcaaaDoorW.PrintMore Go.Proofs.YthphncefbahcaaaDoor.GT Go.Proofs.YthphncefbahcaaaDoor.Pu Go.Proofs.YthphncefbahcaaaDoor.PuBitW

/-- A list of n bits as it should be: as many words as needed, and nothing behind the last bit. -/
def BFit (n : Int) (l : List Int) : Prop := 0 ≤ n ∧ n ≤ 4096 ∧ (l.length : Int) = (n + 63) / 64 ∧ ∀ i : Nat, n ≤ i → i < 64 * l.length → bitAt l i = false
noncomputable instance (n : Int) (l : List Int) : Decidable (BFit n l) := Classical.propDecidable _
noncomputable def chk (n : Int) (l : List Int) : Int := if BFit n l then 0 else 2
theorem chk_good {n : Int} {l : List Int} (h : BFit n l) : chk n l = 0 := if_pos h
theorem chk_bad {n : Int} {l : List Int} (h : ¬ BFit n l) : chk n l = 2 := if_neg h
theorem chk_0 {n : Int} {l : List Int} (h : chk n l = 0) : BFit n l := by
  apply Classical.byContradiction; intro hh; rw [chk_bad hh] at h; cases h
theorem words_n {n : Int} (h0 : 0 ≤ n) (h1 : n ≤ 4096) : wrap64 (Int.tdiv (wrap64 ((wrap64 (n + 64)) - 1)) 64) = (n + 63) / 64 := by
  rw [w64 (a := n + 64) (by omega) (by omega), w64 (a := n + 64 - 1) (by omega) (by omega), Int.tdiv_eq_ediv_of_nonneg (by omega)]
  rw [w64 (by omega) (by omega)]; omega

/-- The words behind the last bit, looked at by one shift. -/
theorem tail_eq {n : Int} {l : List Int} (hw : Words l) (h0 : 0 ≤ n) (hl : (l.length : Int) = (n + 63) / 64) (hr : Int.tmod n 64 > 0) :
    (shr .u64 (rd l ((l.length : Int) - 1)) (Int.tmod n 64)) = 0 ↔ ∀ i : Nat, n ≤ i → i < 64 * l.length → bitAt l i = false := by
  obtain ⟨m, rfl⟩ : ∃ m : Nat, n = (m : Int) := ⟨n.toNat, by omega⟩
  have e1 : Int.tmod (m : Int) 64 = ((m % 64 : Nat) : Int) := rfl
  rw [e1] at hr ⊢
  have e2 : ((l.length : Int) - 1) = ((l.length - 1 : Nat) : Int) := by omega
  rw [e2]
  obtain ⟨e3, hlt⟩ := hw.rd_nat (l.length - 1)
  rw [e3, shr_zero _ _ (by omega)]
  constructor
  · intro h i hi hi2
    unfold bitAt
    have : i / 64 = l.length - 1 := by omega
    rw [this]; exact h _ (by omega)
  · intro h j hj
    by_cases hj6 : j < 64
    · have := h (64 * (l.length - 1) + j) (by omega) (by omega)
      unfold bitAt at this
      rw [show (64 * (l.length - 1) + j) / 64 = l.length - 1 by omega, show (64 * (l.length - 1) + j) % 64 = j by omega] at this
      exact this
    · exact high _ _ hlt (by omega)

theorem check_eq {n : Int} {l : List Int} (hw : Words l) (hl : l.length < 17592186044416) (k : Nat) : bits_Check.f (k + 1) n l = some (chk n l) := by
  unfold bits_Check.f
  by_cases h0 : n < 0
  · rw [if_pos h0, chk_bad (fun h => by have := h.1; omega)]; simp [bits_Check.j0]
  rw [if_neg h0]
  by_cases h1 : n > 4096
  · rw [if_pos h1, chk_bad (fun h => by have := h.2.1; omega)]; simp [bits_Check.j0]
  rw [if_neg h1, words_n (by omega) (by omega)]
  by_cases h2 : (l.length : Int) = (n + 63) / 64
  · rw [show ((l.length : Int) != (n + 63) / 64) = false by simp [h2]]
    simp only [bits_Check.j0, Bool.false_eq_true, if_false]
    by_cases h3 : Int.tmod n 64 > 0
    · have hm : Int.tmod n 64 = n % 64 := Int.tmod_eq_emod_of_nonneg (by omega)
      rw [if_pos h3, w64 (by omega) (by omega), if_pos (by omega), if_pos (by omega), if_pos (by omega)]
      by_cases h4 : (shr .u64 (rd l ((l.length : Int) - 1)) (Int.tmod n 64)) = 0
      · rw [if_pos h4, chk_good ⟨by omega, by omega, h2, (tail_eq hw (by omega) h2 h3).1 h4⟩]
      · rw [if_neg h4, chk_bad (fun h => h4 ((tail_eq hw (by omega) h2 h3).2 h.2.2.2))]
    · have hm : Int.tmod n 64 = n % 64 := Int.tmod_eq_emod_of_nonneg (by omega)
      rw [if_neg h3, chk_good ⟨by omega, by omega, h2, fun i hi hi2 => by omega⟩]
  · rw [show ((l.length : Int) != (n + 63) / 64) = true by simp [h2], chk_bad (fun h => h2 h.2.2.1)]; simp [bits_Check.j0]
theorem check_ev {n : Int} {l : List Int} (hw : Words l) (hl : l.length < 17592186044416) : Ev (fun k => bits_Check.f k n l) (chk n l) := by
  refine ev_of (K := 1) fun k hk => ?_
  obtain ⟨k, rfl⟩ : ∃ m, k = m + 1 := ⟨k - 1, by omega⟩
  exact check_eq hw hl k

theorem own_eq (n : Int) (l : List Int) (h : l.length < 17592186044416) : bits_Own.f n l = some (n, l) := by simp [bits_Own.f, slices_Clone_uint64_uint64.f, h]

end Go.Proofs.YthphncefbahcaaaDoor.PuBitsT
