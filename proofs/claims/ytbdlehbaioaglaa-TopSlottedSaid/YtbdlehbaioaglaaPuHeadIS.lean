/- What head.Pack and head.Unpack come to. (Drawn from PuHead and PureHeadBack.) -/
import Derived.Test.YtbdlehbaioaglaaGSx13
import Derived.Test.YtbdlehbaioaglaaGSx3
import Derived.Test.YtbdlehbaioaglaaPuBitW
namespace Go.Proofs.Ytbdlehbaioaglaa.PuHeadIS
open Go.RowKit Go.Proofs.YtbdlehbaioaglaaW.PrintWords Go.Proofs.YtbdlehbaioaglaaW.PrintLast Go.Proofs.YtbdlehbaioaglaaW.PrintMore Go.Proofs.Ytbdlehbaioaglaa.GS Go.Proofs.Ytbdlehbaioaglaa.Pu Go.Proofs.Ytbdlehbaioaglaa.PuBitW

theorem len_le : ∀ (f x n : Nat), x < 2 ^ f → (Lib.bitLenAux f x ≤ n ↔ x < 2 ^ n)
  | 0, x, n, h => by
    have := Nat.two_pow_pos n
    simp only [Lib.bitLenAux]; constructor <;> intro _ <;> simp at h <;> omega
  | f + 1, x, n, h => by
    unfold Lib.bitLenAux
    by_cases h0 : x = 0
    · subst h0; have := Nat.two_pow_pos n; simp [this]
    rw [if_neg h0]
    cases n with
    | zero => simp only [Nat.pow_zero]; omega
    | succ n =>
      have := len_le f (x / 2) n (by rw [Nat.pow_succ] at h; omega)
      rw [Nat.pow_succ]; omega

/-- A shape as it should be. -/
def HFit (n : Int) (M : Nat) : Prop := 0 ≤ n ∧ n ≤ 48 ∧ M < 2 ^ n.toNat
instance (n : Int) (M : Nat) : Decidable (HFit n M) := by unfold HFit; infer_instance
def hchk (n : Int) (M : Nat) : Int := if HFit n M then 0 else 2
theorem HFit.lt48 {n : Int} {M : Nat} (h : HFit n M) : M < 281474976710656 := by
  have : 2 ^ n.toNat ≤ 2 ^ 48 := Nat.pow_le_pow_right (by decide) (by have := h.2.1; omega)
  have := h.2.2; omega
theorem hcheck_eq (n : Int) (M : Nat) (hM : M < 18446744073709551616) : head_Check.f n (M : Int) = some (hchk n M) := by
  unfold head_Check.f hchk
  by_cases h0 : n < 0
  · rw [if_pos h0, if_neg (fun h => by have := h.1; omega)]
  by_cases h1 : n > 48
  · rw [if_neg h0, if_pos h1, if_neg (fun h => by have := h.2.1; omega)]
  rw [if_neg h0, if_neg h1]
  unfold bits_Len64.f
  rw [if_pos (by omega), if_pos (by omega)]
  simp only [Option.bind_some, Int.toNat_natCast]
  have := len_le 64 M n.toNat (by omega)
  unfold Lib.bitLen
  by_cases h2 : M < 2 ^ n.toNat
  · rw [if_neg (by have := this.2 h2; omega), if_pos ⟨by omega, by omega, h2⟩]
  · rw [if_pos (by have : ¬ Lib.bitLenAux 64 M ≤ n.toNat := fun h => h2 (this.1 h); omega), if_neg (fun h => h2 h.2.2)]
def packS (n : Int) (M : Nat) : Int × Int := if HFit n M then (11889503016258109440 + (M : Int) * 256 + n, 0) else (0, 2)
theorem pack_eq (n : Int) (M : Nat) (hM : M < 18446744073709551616) : head_Pack.f n (M : Int) = some (packS n M) := by
  unfold head_Pack.f packS
  rw [hcheck_eq n M hM]; simp only [Option.bind_some]; unfold hchk
  by_cases h : HFit n M
  · simp only [h, if_true]
    have hl := h.lt48
    obtain ⟨h0, h1, _⟩ := h
    obtain ⟨N, rfl⟩ : ∃ N : Nat, n = (N : Int) := ⟨n.toNat, by omega⟩
    have e1 : IntKind.u64.wrap ((M : Int) * 256) = ((M * 256 : Nat) : Int) := by rw [wu64' (by omega) (by omega)]; omega
    rw [e1, wu64' (a := (N : Int)) (by omega) (by omega), show (11889503016258109440 : Int) = ((11889503016258109440 : Nat) : Int) by omega, bits_or_u64_nat _ _ (by omega) (by omega)]
    have o1 : (11889503016258109440 : Nat) ||| M * 256 = 11889503016258109440 + M * 256 := by
      have := Nat.shiftLeft_add_eq_or_of_lt (i := 56) (b := M * 256) (by omega) 165
      rw [Nat.shiftLeft_eq, show (165 : Nat) * 2 ^ 56 = 11889503016258109440 by omega] at this
      exact this.symm
    rw [o1, bits_or_u64_nat _ _ (by omega) (by omega)]
    have o2 : (11889503016258109440 + M * 256) ||| N = 11889503016258109440 + M * 256 + N := by
      have := Nat.shiftLeft_add_eq_or_of_lt (i := 8) (b := N) (by omega) (46443371157258240 + M)
      rw [Nat.shiftLeft_eq, show (2 : Nat) ^ 8 = 256 by decide] at this
      rw [show 11889503016258109440 + M * 256 = (46443371157258240 + M) * 256 by omega]
      exact this.symm
    rw [o2]; simp
  · simp [h]
def unpackS (a : Nat) : Int × Int × Int := if a / 72057594037927936 = 165 ∧ HFit ((a % 256 : Nat) : Int) (a % 72057594037927936 / 256) then (((a % 256 : Nat) : Int), ((a % 72057594037927936 / 256 : Nat) : Int), 0) else (0, 0, 2)
theorem unpack_eq (a : Nat) (ha : a < 18446744073709551616) : head_Unpack.f (a : Int) = some (unpackS a) := by
  unfold head_Unpack.f unpackS
  by_cases h0 : a / 72057594037927936 = 165
  · rw [if_pos (by omega)]
    have e1 : bits .and .u64 (a : Int) 255 = ((a % 256 : Nat) : Int) := by
      rw [show (255 : Int) = ((255 : Nat) : Int) from rfl, bits_and_u64_nat _ _ ha (by decide)]
      have := Nat.and_two_pow_sub_one_eq_mod a 8
      simp only [show (2 : Nat) ^ 8 = 256 by decide] at this
      rw [this]
    have e2 : (IntKind.u64.wrap ((a : Int) * 256)) / 65536 = ((a % 72057594037927936 / 256 : Nat) : Int) := by rw [wu64]; omega
    rw [e1, e2, w64 (by omega) (by omega), hcheck_eq _ _ (by omega)]
    simp only [Option.bind_some]; unfold hchk
    by_cases h1 : HFit ((a % 256 : Nat) : Int) (a % 72057594037927936 / 256)
    · simp only [h1, h0, if_true, and_self]
    · simp only [h1, if_false, and_false, show ¬ ((2 : Int) = 0) by decide]
  · rw [if_neg (by omega), if_neg (fun h => h0 h.1)]
theorem nat_u64 {m : Int} (h : (Lit.int .u64 m).wf = true) : ∃ M : Nat, m = (M : Int) ∧ M < 18446744073709551616 := by
  have := wf_u64 h
  exact ⟨m.toNat, by omega, by omega⟩

theorem back (n : Int) (M : Nat) (h : HFit n M) : ∃ P : Nat, packS n M = ((P : Int), 0) ∧ P < 18446744073709551616 ∧ unpackS P = (n, (M : Int), 0) := by
  have hl := h.lt48
  have h' := h
  obtain ⟨h0, h1, _⟩ := h'
  obtain ⟨N, rfl⟩ : ∃ N : Nat, n = (N : Int) := ⟨n.toNat, by omega⟩
  refine ⟨11889503016258109440 + M * 256 + N, ?_, by omega, ?_⟩
  · unfold packS; rw [if_pos h]; simp
  · have e1 : (11889503016258109440 + M * 256 + N) / 72057594037927936 = 165 := by omega
    have e2 : (11889503016258109440 + M * 256 + N) % 256 = N := by omega
    have e3 : (11889503016258109440 + M * 256 + N) % 72057594037927936 / 256 = M := by omega
    unfold unpackS
    rw [e1, e2, e3, if_pos ⟨rfl, h⟩]

end Go.Proofs.Ytbdlehbaioaglaa.PuHeadIS
