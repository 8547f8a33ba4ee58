/- A word that is no head unpacks to nothing; one field more is one more. -/
import Derived.Test.YtdadleamaalhiabDoorGHx11
import Derived.Test.YtdadleamaalhiabDoorPuHead
namespace Go.Proofs.YtdadleamaalhiabDoor.Pure
open Go.RowKit Go.Proofs.YtdadleamaalhiabDoorW.PrintWords Go.Proofs.YtdadleamaalhiabDoorW.PrintLast Go.Proofs.YtdadleamaalhiabDoor.GH Go.Proofs.YtdadleamaalhiabDoor.Pu Go.Proofs.YtdadleamaalhiabDoor.PuBitW Go.Proofs.YtdadleamaalhiabDoor.PuHead

theorem HeadPlain : ∀ (n0 m0 : Int) (a1 : Int), (Lit.int .i64 n0).wf = true → (Lit.int .u64 m0).wf = true → (Lit.int .u64 a1).wf = true → ∃ k, besomlaw06_HeadPlain.f k n0 m0 a1 = some true := by
  intro n m a _ hm ha
  obtain ⟨M, rfl, hM⟩ := nat_u64 hm
  obtain ⟨A, rfl, hA⟩ := nat_u64 ha
  refine Ev.rounds (g := fun k => besomlaw06_HeadPlain.f k n (M : Int) (A : Int)) ?_
  unfold besomlaw06_HeadPlain.f
  refine Ev.bind lives_ev ?_
  simp only [if_true, unpack_eq A hA, Option.bind_some]
  have j0 : Ev (fun k => besomlaw06_HeadPlain.j0 k false n (M : Int)) true := by
    refine ev_succ (f := fun k => _) (fun k => by rw [besomlaw06_HeadPlain.j0, if_neg (by decide), pack_eq n M hM, Option.bind_some]) ?_
    refine ev_const ?_
    by_cases h : HFit n M
    · have hl := h.lt48
      have h' := h
      obtain ⟨h0, h1, h2⟩ := h'
      rw [w64 (a := n + 1) (by omega) (by omega), pack_eq (n + 1) M hM, Option.bind_some]
      have e : packS n M = (11889503016258109440 + (M : Int) * 256 + n, 0) := by unfold packS; rw [if_pos h]
      rw [e]
      simp only [if_true]
      by_cases hn : n = 48
      · have : (packS (n + 1) M).2 = 2 := by unfold packS; rw [if_neg (fun hh => by have := hh.2.1; omega)]
        rw [this]; simp [hn]
      · have hf : HFit (n + 1) M := ⟨by omega, by omega, by
          have : 2 ^ n.toNat ≤ 2 ^ (n + 1).toNat := Nat.pow_le_pow_right (by decide) (by omega)
          omega⟩
        have e2 : packS (n + 1) M = (11889503016258109440 + (M : Int) * 256 + (n + 1), 0) := by unfold packS; rw [if_pos hf]
        rw [e2, wu64' (by omega) (by omega)]
        simp only [if_true, Option.some.injEq, beq_iff_eq]; omega
    · have e : packS n M = (0, 2) := by unfold packS; rw [if_neg h]
      rw [e]; rfl
  by_cases h : (unpackS A).2.2 = 0
  · simp only [h, if_true]
    have : A / 72057594037927936 = 165 := by
      unfold unpackS at h
      by_cases c : A / 72057594037927936 = 165 ∧ HFit ((A % 256 : Nat) : Int) (A % 72057594037927936 / 256)
      · exact c.1
      · rw [if_neg c] at h; simp at h
    rw [show (((A : Int) / 72057594037927936) != 165) = false by rw [bne_eq_false_iff_eq]; omega]
    exact j0
  · simp only [h, if_false]; exact j0

end Go.Proofs.YtdadleamaalhiabDoor.Pure
