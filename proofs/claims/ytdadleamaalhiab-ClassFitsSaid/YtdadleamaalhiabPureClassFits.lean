/- A number of words fits its class and no smaller one. -/
import Derived.Test.YtdadleamaalhiabGCx3
import Derived.Test.YtdadleamaalhiabPuClassI
namespace Go.Proofs.Ytdadleamaalhiab.Pure
open Go.RowKit Go.Proofs.YtdadleamaalhiabW.PrintWords Go.Proofs.YtdadleamaalhiabW.PrintLast Go.Proofs.Ytdadleamaalhiab.GC Go.Proofs.Ytdadleamaalhiab.Pu Go.Proofs.Ytdadleamaalhiab.PuClassI

theorem fits_small : ∀ n : Fin 50, n.1 ≠ 0 → besomlaw04_ClassFits.f 20 (n.1 : Int) = some true := by decide +kernel
theorem ClassFits : ∀ (a0 : Int), (Lit.int .i64 a0).wf = true → ∃ k, besomlaw04_ClassFits.f k a0 = some true := by
  intro a _
  by_cases h : a < 1 ∨ 49 < a
  · refine Ev.rounds (g := fun k => besomlaw04_ClassFits.f k a) ?_
    unfold besomlaw04_ClassFits.f
    refine Ev.bind lives_ev ?_
    simp only [if_true]
    refine Ev.bind (of_ev a) ?_
    rw [ofS_err h]
    have one : ¬ ((1 : Int) = 0) := by decide
    simp only [one, if_false]
    rcases h with h | h
    · simp only [h, if_true]; exact Ev.now _
    · simp only [show ¬ a < 1 by omega, if_false]; exact ev_const (by simp; omega)
  · have := fits_small ⟨a.toNat, by omega⟩ (by show a.toNat ≠ 0; omega)
    simp only [show ((a.toNat : Nat) : Int) = a by omega] at this
    exact ⟨20, this⟩

end Go.Proofs.Ytdadleamaalhiab.Pure
