/- What a head packs to unpacks to it, and two heads have two words. -/
import Derived.Test.YtdadleamaalhiabDoorGHx9
import Derived.Test.YtdadleamaalhiabDoorPuHead
namespace Go.Proofs.YtdadleamaalhiabDoor.Pure
open Go.RowKit Go.Proofs.YtdadleamaalhiabDoorW.PrintWords Go.Proofs.YtdadleamaalhiabDoorW.PrintLast Go.Proofs.YtdadleamaalhiabDoor.GH Go.Proofs.YtdadleamaalhiabDoor.Pu Go.Proofs.YtdadleamaalhiabDoor.PuBitW Go.Proofs.YtdadleamaalhiabDoor.PuHead

theorem back (n : Int) (M : Nat) (h : HFit n M) : ∃ P : Nat, packS n M = ((P : Int), 0) ∧ P < 18446744073709551616 ∧ unpackS P = (n, (M : Int), 0) := by
  have hl := h.lt48
  have h' := h
  obtain ⟨h0, h1, _⟩ := h'
  obtain ⟨N, rfl⟩ : ∃ N : Nat, n = (N : Int) := ⟨n.toNat, by omega⟩
  refine ⟨11889503016258109440 + M * 256 + N, ?_, by omega, ?_⟩
  · unfold packS; rw [if_pos h]; simp
  · have e1 : (11889503016258109440 + M * 256 + N) / 72057594037927936 = 165 := by omega
    have e2 : (11889503016258109440 + M * 256 + N) % 256 = N := by omega
    have e3 : (11889503016258109440 + M * 256 + N) % 72057594037927936 / 256 = M := by omega
    unfold unpackS
    rw [e1, e2, e3, if_pos ⟨rfl, h⟩]
theorem forth (a : Nat) (h : (unpackS a).2.2 = 0) : ∃ (n : Int) (M : Nat), unpackS a = (n, (M : Int), 0) ∧ M < 18446744073709551616 ∧ packS n M = ((a : Int), 0) := by
  unfold unpackS at h ⊢
  by_cases c : a / 72057594037927936 = 165 ∧ HFit ((a % 256 : Nat) : Int) (a % 72057594037927936 / 256)
  · rw [if_pos c]
    refine ⟨_, _, rfl, by omega, ?_⟩
    unfold packS; rw [if_pos c.2]
    have := c.1
    simp only [Prod.mk.injEq, and_true]; omega
  · rw [if_neg c] at h; simp at h
theorem inj (n m : Int) (M L : Nat) (h0 : HFit n M) (h1 : HFit m L) : ((packS n M).1 == (packS m L).1) = (n == m && ((M : Int) == (L : Int))) := by
  have a0 := h0.lt48
  have a1 := h1.lt48
  unfold packS
  rw [if_pos h0, if_pos h1]
  obtain ⟨b0, b1, _⟩ := h0
  obtain ⟨c0, c1, _⟩ := h1
  by_cases e : n = m
  · subst e
    by_cases e2 : M = L
    · subst e2; simp
    · have : ¬ (11889503016258109440 + (M : Int) * 256 + n = 11889503016258109440 + (L : Int) * 256 + n) := by omega
      have e3 : ¬ ((M : Int) = (L : Int)) := by omega
      rw [beq_eq_false_iff_ne.mpr this, beq_eq_false_iff_ne.mpr e3]; simp
  · have : ¬ (11889503016258109440 + (M : Int) * 256 + n = 11889503016258109440 + (L : Int) * 256 + m) := by omega
    rw [beq_eq_false_iff_ne.mpr this, beq_eq_false_iff_ne.mpr e]; simp
theorem HeadBack : ∀ (n0 m0 : Int) (n1 m1 : Int) (a2 : Int), (Lit.int .i64 n0).wf = true → (Lit.int .u64 m0).wf = true → (Lit.int .i64 n1).wf = true → (Lit.int .u64 m1).wf = true → (Lit.int .u64 a2).wf = true → ∃ k, besomlaw06_HeadBack.f k n0 m0 n1 m1 a2 = some true := by
  intro n m n1 m1 a _ hm _ hm1 ha
  obtain ⟨M, rfl, hM⟩ := nat_u64 hm
  obtain ⟨L, rfl, hL⟩ := nat_u64 hm1
  obtain ⟨A, rfl, hA⟩ := nat_u64 ha
  refine Ev.rounds (g := fun k => besomlaw06_HeadBack.f k n (M : Int) n1 (L : Int) (A : Int)) ?_
  unfold besomlaw06_HeadBack.f
  refine Ev.bind lives_ev ?_
  simp only [if_true, pack_eq n M hM, pack_eq n1 L hL, Option.bind_some]
  have last : (if (packS n M).2 = 0 then (if (packS n1 L).2 = 0 then some (((packS n M).1 == (packS n1 L).1) == (n == n1 && ((M : Int) == (L : Int)))) else some true) else some true) = some true := by
    by_cases h0 : HFit n M
    · by_cases h1 : HFit n1 L
      · rw [inj n n1 M L h0 h1]; simp
      · have : (packS n1 L).2 = 2 := by unfold packS; rw [if_neg h1]
        rw [this]; simp
    · have : (packS n M).2 = 2 := by unfold packS; rw [if_neg h0]
      rw [this]; simp
  have j0 : Ev (fun k => besomlaw06_HeadBack.j0 k (A : Int) (packS n M).1 (packS n M).2 (packS n1 L).1 (packS n1 L).2 n (M : Int) n1 (L : Int)) true := by
    refine ev_succ (f := fun k => _) (fun k => by rw [besomlaw06_HeadBack.j0, unpack_eq A hA, Option.bind_some]) ?_
    by_cases h : (unpackS A).2.2 = 0
    · obtain ⟨p, P, e, hP, e2⟩ := forth A h
      rw [e]
      simp only [if_true, pack_eq p P hP, Option.bind_some, e2]
      exact ev_const last
    · simp only [h, if_false]; exact ev_const last
  by_cases h0 : HFit n M
  · obtain ⟨P, e, hP, e2⟩ := back n M h0
    have e3 : (packS n M).2 = 0 := by rw [e]
    have e4 : (packS n M).1 = (P : Int) := by rw [e]
    rw [e3, e4] at j0
    simp only [e3, e4, if_true, unpack_eq P hP, Option.bind_some, e2]
    simpa using j0
  · have e3 : (packS n M).2 = 2 := by unfold packS; rw [if_neg h0]
    rw [e3] at j0
    simp only [e3, show ¬ ((2 : Int) = 0) by decide, if_false]; exact j0

end Go.Proofs.YtdadleamaalhiabDoor.Pure
