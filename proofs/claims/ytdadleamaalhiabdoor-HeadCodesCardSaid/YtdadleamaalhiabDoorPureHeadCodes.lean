/- What a head packs to, and what a word unpacks to, are as the document tells. -/
import Derived.Test.YtdadleamaalhiabDoorGHx6
import Derived.Test.YtdadleamaalhiabDoorPuHead
namespace Go.Proofs.YtdadleamaalhiabDoor.Pure
open Go.RowKit Go.Proofs.YtdadleamaalhiabDoorW.PrintWords Go.Proofs.YtdadleamaalhiabDoorW.PrintLast Go.Proofs.YtdadleamaalhiabDoor.GH Go.Proofs.YtdadleamaalhiabDoor.Pu Go.Proofs.YtdadleamaalhiabDoor.PuBitW Go.Proofs.YtdadleamaalhiabDoor.PuHead

theorem HeadCodes : ∀ (n0 m0 : Int) (a1 : Int), (Lit.int .i64 n0).wf = true → (Lit.int .u64 m0).wf = true → (Lit.int .u64 a1).wf = true → ∃ k, besomlaw06_HeadCodes.f k n0 m0 a1 = some true := by
  intro n m a _ hm ha
  obtain ⟨M, rfl, hM⟩ := nat_u64 hm
  obtain ⟨A, rfl, hA⟩ := nat_u64 ha
  have e1 := pack_eq n M hM
  have e2 := unpack_eq A hA
  have e3 := hcheck_eq n M hM
  have r1 := rpack_ev n M hM
  have r2 := runpack_ev A hA
  have r3 := rhcheck_ev n M hM
  generalize packS n M = p at e1 r1
  generalize unpackS A = u at e2 r2
  generalize hchk n M = c at e3 r3
  refine Ev.rounds (g := fun k => besomlaw06_HeadCodes.f k n (M : Int) (A : Int)) ?_
  unfold besomlaw06_HeadCodes.f
  refine Ev.bind (ev_const e1) (Ev.bind r1 (Ev.bind (ev_const e2) (Ev.bind r2 (Ev.bind lives_ev ?_))))
  simp only [if_true, beq_self_eq_true, Bool.and_self]
  refine Ev.bind (ev_const e3) (Ev.bind r3 ?_)
  exact ev_const (by simp)

end Go.Proofs.YtdadleamaalhiabDoor.Pure
