/- One reference, asked alone, in a list, and twice in a list. -/
import Derived.Test.YtdadleamaalhiabDoorGHx11
import Derived.Test.YtdadleamaalhiabDoorPuHead
namespace Go.Proofs.YtdadleamaalhiabDoor.Pure
open Go.RowKit Go.Proofs.YtdadleamaalhiabDoorW.PrintWords Go.Proofs.YtdadleamaalhiabDoorW.PrintLast Go.Proofs.YtdadleamaalhiabDoor.GH Go.Proofs.YtdadleamaalhiabDoor.Pu Go.Proofs.YtdadleamaalhiabDoor.PuBitW Go.Proofs.YtdadleamaalhiabDoor.PuHead

theorem HeadEach : ∀ (n0 m0 : Int) (a1 : Int), (Lit.int .i64 n0).wf = true → (Lit.int .u64 m0).wf = true → (Lit.int .i64 a1).wf = true → ∃ k, besomlaw06_HeadEach.f k n0 m0 a1 = some true := by
  intro n m a _ hm _
  obtain ⟨M, rfl, hM⟩ := nat_u64 hm
  refine Ev.rounds (g := fun k => besomlaw06_HeadEach.f k n (M : Int) a) ?_
  unfold besomlaw06_HeadEach.f
  refine Ev.bind lives_ev ?_
  simp only [if_true]
  refine Ev.bind (ref_ev n M hM a) (Ev.bind (refs_ev n M hM [a] (by simp)) (Ev.bind (refs_ev n M hM [a, a] (by simp)) ?_))
  refine ev_const ?_
  have w0 : wrap64 (0 + 1) = 1 := w64 (by omega) (by omega)
  have w1 : wrap64 (1 + 1) = 2 := w64 (by omega) (by omega)
  have w2 : wrap64 (2 * 1) = 2 := w64 (by omega) (by omega)
  have w3 : wrap64 (2 * 0) = 0 := w64 (by omega) (by omega)
  unfold refS refsS
  by_cases h : HFit n M
  · simp only [h, if_true, cntS]
    by_cases c : a < 0 ∨ a ≥ n
    · simp [c]
    · have c0 : a ≥ 0 := by omega
      have c1 : a < n := by omega
      by_cases hb : M.testBit a.toNat = true
      · simp only [c, hb, if_true, if_false, w0, w1, w2, c0, c1]; decide
      · have hb' : M.testBit a.toNat = false := by simpa using hb
        simp only [c, hb', if_true, if_false, w3, c0, c1, Bool.false_eq_true]; decide
  · simp [h]

end Go.Proofs.YtdadleamaalhiabDoor.Pure
