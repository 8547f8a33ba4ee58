/- Whatever an arena is, words are loaded, and added up, as the document says; any is made as it says. -/
import Derived.Test.YtdadleamaalhiaaGAx14
import Derived.Test.YtdadleamaalhiaaPuArena
namespace Go.Proofs.Ytdadleamaalhiaa.Pure
open Go.RowKit Go.Proofs.YtdadleamaalhiaaW.PrintWords Go.Proofs.YtdadleamaalhiaaW.PrintLast Go.Proofs.Ytdadleamaalhiaa.GA Go.Proofs.Ytdadleamaalhiaa.Pu Go.Proofs.Ytdadleamaalhiaa.PuArena

theorem ArenaLoads : ∀ (l0 : List Int) (a1 : Int) (l2 : List Int) (a3 : Int), l0.length ≤ maxLen → l0.length * 8 ≤ 140737488351232 → (∀ x ∈ l0, (Lit.int .u64 x).wf = true) → (Lit.int .u64 a1).wf = true → l2.length ≤ maxLen → l2.length * 8 ≤ 140737488351232 → (∀ x ∈ l2, (Lit.int .u64 x).wf = true) → (Lit.int .i64 a3).wf = true → ∃ k, besomlaw02_ArenaLoads.f k l0 a1 l2 a3 = some true := by
  intro l0 a1 l2 a3 _ hs hw h1 _ hs2 hw2 _
  have hl : l0.length < 17592186044416 := by omega
  have b1 := wf_u64 h1
  have hp : ∀ p ∈ l2, 0 ≤ p := fun p hp => (wf_u64 (hw2 p hp)).1
  refine Ev.rounds (g := fun k => besomlaw02_ArenaLoads.f k l0 a1 l2 a3) ?_
  unfold besomlaw02_ArenaLoads.f
  rw [rload_eq l0 hl a1 b1.1, make_eq, rmake_eq, check_eq, rcheck_eq]
  simp only [Option.bind_some]
  refine Ev.bind (load_ev l0 hl (fun x hx => wf_u64 (hw x hx)) a1 b1.1) (Ev.bind (sum_ev l0 hl l2 (by omega) hp) (Ev.bind (rsum_ev l0 hl l2 (by omega) hp) (Ev.bind words_ev ?_)))
  simp only [if_true]
  have hm : (makeS a3).1.length < 17592186044416 := by
    unfold makeS; repeat' split
    all_goals first | (simp; done) | (simp only [List.length_replicate]; omega)
  refine Ev.bind (same_ev _ hm) ?_
  simp only [if_true, beq_self_eq_true]
  exact Ev.now _

end Go.Proofs.Ytdadleamaalhiaa.Pure
