/- Whatever a number of words and a class are, what the package tells is what the document tells. -/
import Derived.Test.YtdadleamaalhiaaGCx6
import Derived.Test.YtdadleamaalhiaaPuClass
namespace Go.Proofs.Ytdadleamaalhiaa.Pure
open Go.RowKit Go.Proofs.YtdadleamaalhiaaW.PrintWords Go.Proofs.YtdadleamaalhiaaW.PrintLast Go.Proofs.Ytdadleamaalhiaa.GC Go.Proofs.Ytdadleamaalhiaa.Pu Go.Proofs.Ytdadleamaalhiaa.PuClass

theorem ClassDoes : ∀ (a0 : Int) (a1 : Int) (l2 : List Int), (Lit.int .i64 a0).wf = true → (Lit.int .i64 a1).wf = true → l2.length ≤ maxLen → l2.length * 8 ≤ 140737488351232 → (∀ x ∈ l2, (Lit.int .i64 x).wf = true) → ∃ k, besomlaw04_ClassDoes.f k a0 a1 l2 = some true := by
  intro a0 a1 l2 _ _ _ hs _
  refine Ev.rounds (g := fun k => besomlaw04_ClassDoes.f k a0 a1 l2) ?_
  unfold besomlaw04_ClassDoes.f
  simp only [size_eq, rsize_eq, slots_eq, rslots_eq, Option.bind_some]
  refine Ev.bind (of_ev a0) (Ev.bind (rof_ev a0) (Ev.bind (pages_ev a0) (Ev.bind (rpages_ev a0) (Ev.bind (waste_ev l2 (by omega)) (Ev.bind (rwaste_ev l2 (by omega)) (Ev.bind lives_ev ?_))))))
  simp only [if_true, beq_self_eq_true]
  exact Ev.now _

end Go.Proofs.Ytdadleamaalhiaa.Pure
