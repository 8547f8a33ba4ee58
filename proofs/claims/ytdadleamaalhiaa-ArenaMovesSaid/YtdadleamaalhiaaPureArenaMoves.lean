/- Whatever an arena is, words are cleared, and moved, as the document says. -/
import Derived.Test.YtdadleamaalhiaaGAx10
import Derived.Test.YtdadleamaalhiaaPuArena
namespace Go.Proofs.Ytdadleamaalhiaa.Pure
open Go.RowKit Go.Proofs.YtdadleamaalhiaaW.PrintWords Go.Proofs.YtdadleamaalhiaaW.PrintLast Go.Proofs.Ytdadleamaalhiaa.GA Go.Proofs.Ytdadleamaalhiaa.Pu Go.Proofs.Ytdadleamaalhiaa.PuArena

theorem ArenaMoves : ∀ (l0 : List Int) (a1 : Int) (a2 : Int) (a3 : Int), l0.length ≤ maxLen → l0.length * 8 ≤ 140737488351232 → (∀ x ∈ l0, (Lit.int .u64 x).wf = true) → (Lit.int .u64 a1).wf = true → (Lit.int .u64 a2).wf = true → (Lit.int .u64 a3).wf = true → ∃ k, besomlaw02_ArenaMoves.f k l0 a1 a2 a3 = some true := by
  intro l0 a1 a2 a3 _ hs _ h1 h2 h3
  have hl : l0.length < 17592186044416 := by omega
  have b1 := wf_u64 h1
  have b2 := wf_u64 h2
  have b3 := wf_u64 h3
  refine Ev.rounds (g := fun k => besomlaw02_ArenaMoves.f k l0 a1 a2 a3) ?_
  unfold besomlaw02_ArenaMoves.f
  rw [copy_eq l0 hl]
  simp only [Option.bind_some]
  refine Ev.bind (move_ev l0 hl a1 a2 a3 b1.1 b2.1 b3.1) (Ev.bind (rmove_ev l0 hl a1 a2 a3 b1.1 b2.1 b3.1) (Ev.bind (clear_ev l0 hl a2 a3 b2.1 b3.1) (Ev.bind (rclear_ev l0 hl a2 a3 b2.1 b3.1) (Ev.bind moves_ev ?_))))
  simp only [if_true]
  have hm : (moveS l0 a1 a2 a3).1.length < 17592186044416 := by
    unfold moveS; repeat' split
    all_goals first | (simp; done) | (simp only [setsL_length]; omega)
  have hc : (clearS l0 a2 a3).1.length < 17592186044416 := by
    unfold clearS; repeat' split
    all_goals first | (simp; done) | (simp only [setsL_length]; omega)
  refine Ev.bind (same_ev _ hm) ?_
  simp only [if_true]
  refine Ev.bind (same_ev _ hc) ?_
  simp only [if_true]
  exact Ev.bind (same_ev l0 hl) (Ev.now _)

end Go.Proofs.Ytdadleamaalhiaa.Pure
