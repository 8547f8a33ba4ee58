/- Which fields of a head are references, and where the next one is. -/
import Derived.Test.YtdadleamaalhiabDoorGHx8
import Derived.Test.YtdadleamaalhiabDoorPuHead
namespace Go.Proofs.YtdadleamaalhiabDoor.Pure
open Go.RowKit Go.Proofs.YtdadleamaalhiabDoorW.PrintWords Go.Proofs.YtdadleamaalhiabDoorW.PrintLast Go.Proofs.YtdadleamaalhiabDoor.GH Go.Proofs.YtdadleamaalhiabDoor.Pu Go.Proofs.YtdadleamaalhiabDoor.PuBitW Go.Proofs.YtdadleamaalhiabDoor.PuHead

theorem HeadFields : ∀ (n0 m0 : Int) (a1 : Int) (l2 : List Int), (Lit.int .i64 n0).wf = true → (Lit.int .u64 m0).wf = true → (Lit.int .i64 a1).wf = true → l2.length ≤ maxLen → l2.length * 8 ≤ 140737488351232 → (∀ x ∈ l2, (Lit.int .i64 x).wf = true) → ∃ k, besomlaw06_HeadFields.f k n0 m0 a1 l2 = some true := by
  intro n m a l _ hm _ _ hs _
  obtain ⟨M, rfl, hM⟩ := nat_u64 hm
  refine Ev.rounds (g := fun k => besomlaw06_HeadFields.f k n (M : Int) a l) ?_
  unfold besomlaw06_HeadFields.f
  refine Ev.bind (ref_ev n M hM a) (Ev.bind (rref_ev n M hM a) (Ev.bind (refs_ev n M hM l (by omega)) (Ev.bind (rrefs_ev n M hM l (by omega)) (Ev.bind (next_eq n M hM a) (Ev.bind (rnext_ev n M hM a) (Ev.bind lives_ev ?_))))))
  simp only [if_true, beq_self_eq_true]
  exact Ev.now _

end Go.Proofs.YtdadleamaalhiabDoor.Pure
