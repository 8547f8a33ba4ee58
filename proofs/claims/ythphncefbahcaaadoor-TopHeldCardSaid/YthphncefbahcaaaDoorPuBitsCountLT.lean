/- How many of a list's bits are so. -/
import Derived.Test.YthphncefbahcaaaDoorPuBitsCountT
namespace Go.Proofs.YthphncefbahcaaaDoor.PuBitsCountLT
open Go.RowKit Go.Proofs.YthphncefbahcaaaDoorW.PrintWords Go.Proofs.YthphncefbahcaaaDoorW.PrintLast Go.Proofs.YthphncefbahcaaaDoorW.PrintMore Go.Proofs.YthphncefbahcaaaDoor.GT Go.Proofs.YthphncefbahcaaaDoor.Pu Go.Proofs.YthphncefbahcaaaDoor.PuBitW Go.Proofs.YthphncefbahcaaaDoor.PuBitsT Go.Proofs.YthphncefbahcaaaDoor.PuBitsCountT

/-- How many of the d places from i on are so. -/
def cntI (l : List Int) : Nat → Nat → Nat
  | _, 0 => 0
  | i, d + 1 => (if bitAt l i = true then 1 else 0) + cntI l (i + 1) d
theorem cntI_le (l : List Int) : ∀ (d i : Nat), cntI l i d ≤ d
  | 0, _ => Nat.le_refl _
  | d + 1, i => by
    have := cntI_le l d (i + 1)
    rw [cntI]; split <;> omega
theorem cntI_split (l : List Int) : ∀ (d i e : Nat), cntI l i (d + e) = cntI l i d + cntI l (i + d) e
  | 0, i, e => by simp [cntI]
  | d + 1, i, e => by
    rw [show d + 1 + e = (d + e) + 1 by omega, cntI, cntI, cntI_split l d (i + 1) e, show i + 1 + d = i + (d + 1) by omega]; omega
theorem cntI_word (l : List Int) (q : Nat) : ∀ (d j : Nat), j + d ≤ 64 → cntI l (64 * q + j) d = cntB (l.getD q 0).toNat j d
  | 0, _, _ => rfl
  | d + 1, j, h => by
    have hb : bitAt l (64 * q + j) = (l.getD q 0).toNat.testBit j := by
      unfold bitAt; rw [show (64 * q + j) / 64 = q by omega, show (64 * q + j) % 64 = j by omega]
    rw [cntI, cntB, hb, show 64 * q + j + 1 = 64 * q + (j + 1) by omega, cntI_word l q d (j + 1) (by omega)]
theorem cntI_zero (l : List Int) : ∀ (d i : Nat), (∀ j, i ≤ j → j < i + d → bitAt l j = false) → cntI l i d = 0
  | 0, _, _ => rfl
  | d + 1, i, h => by
    rw [cntI, h i (by omega) (by omega), cntI_zero l d (i + 1) (fun j j0 j1 => h j (by omega) (by omega))]; rfl
theorem count_l (l : List Int) (hw : Words l) (hl : l.length < 1000) : ∀ (d i : Nat) (x : Int), l.length - i = d → i ≤ l.length → 0 ≤ x → x + 64 * d ≤ 100000 → Ev (fun k => bits_Count.l0 k x l (l.length : Int) (i : Int)) (x + (cntI l (64 * i) (64 * d) : Nat), 0) := by
  intro d
  induction d with
  | zero =>
    intro i x hd hi h0 h1
    refine ev_of (K := 1) fun k hk => ?_
    obtain ⟨k, rfl⟩ : ∃ m, k = m + 1 := ⟨k - 1, by omega⟩
    simp only [bits_Count.l0]; rw [if_neg (by omega)]; simp [cntI]
  | succ d ih =>
    intro i x hd hi h0 h1
    obtain ⟨e3, hL⟩ := hw.rd_nat i
    have hc := cntI_word l i 64 0 (by omega)
    have hle := cntI_le l 64 (64 * i)
    rw [Nat.add_zero] at hc
    have hs := cntI_split l 64 (64 * i) (64 * d)
    rw [show 64 + 64 * d = 64 * (d + 1) by omega, show 64 * i + 64 = 64 * (i + 1) by omega] at hs
    have := ih (i + 1) (x + (cntI l (64 * i) 64 : Nat)) (by omega) (by omega) (by omega) (by omega)
    rw [hs]
    rw [show x + ((cntI l (64 * i) 64 + cntI l (64 * (i + 1)) (64 * d) : Nat) : Int) = x + (cntI l (64 * i) 64 : Nat) + (cntI l (64 * (i + 1)) (64 * d) : Nat) by omega]
    refine ev_succ (f := fun k => bits_Count.l0 k (x + (cntI l (64 * i) 64 : Nat)) l (l.length : Int) ((i + 1 : Nat) : Int)) (fun k => ?_) this
    simp only [bits_Count.l0]
    rw [if_pos (by omega), if_pos (by omega), if_pos (by omega), e3, ones_eq _ hL, Option.bind_some, ← hc, w64 (by omega) (by omega), w64 (by omega) (by omega)]
    rfl
/-- A right list's count. -/
noncomputable def countS (n : Int) (l : List Int) : Int × Int := if BFit n l then ((cntI l 0 n.toNat : Nat), 0) else (0, 2)
theorem count_ev {n : Int} {l : List Int} (hw : Words l) (hl : l.length < 17592186044416) : Ev (fun k => bits_Count.f k n l) (countS n l) := by
  unfold bits_Count.f countS
  refine Ev.bind (check_ev hw hl) ?_
  by_cases h : BFit n l
  · rw [chk_good h]; simp only [h, if_true]
    obtain ⟨g0, g1, g2, g3⟩ := h
    have c := count_l l hw (by omega) l.length 0 0 (by omega) (by omega) (by omega) (by omega)
    have hs := cntI_split l n.toNat 0 (64 * l.length - n.toNat)
    rw [show n.toNat + (64 * l.length - n.toNat) = 64 * l.length by omega, cntI_zero l (64 * l.length - n.toNat) (0 + n.toNat) (fun j j0 j1 => g3 j (by omega) (by omega)), Nat.add_zero] at hs
    rw [Nat.mul_zero, hs, Int.zero_add] at c
    exact c
  · rw [chk_bad h]; simp only [h, if_false, show ¬ ((2 : Int) = 0) by decide]; exact ev_const rfl

end Go.Proofs.YthphncefbahcaaaDoor.PuBitsCountLT
