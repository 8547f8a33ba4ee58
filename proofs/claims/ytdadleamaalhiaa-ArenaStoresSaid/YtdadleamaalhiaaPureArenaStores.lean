/- Whatever an arena is, a word is stored as the document says. -/
import Derived.Test.YtdadleamaalhiaaGAx7
import Derived.Test.YtdadleamaalhiaaPuArena
namespace Go.Proofs.Ytdadleamaalhiaa.Pure
open Go.RowKit Go.Proofs.YtdadleamaalhiaaW.PrintWords Go.Proofs.YtdadleamaalhiaaW.PrintLast Go.Proofs.Ytdadleamaalhiaa.GA Go.Proofs.Ytdadleamaalhiaa.Pu Go.Proofs.Ytdadleamaalhiaa.PuArena

theorem ArenaStores : ∀ (l0 : List Int) (a1 : Int) (a2 : Int), l0.length ≤ maxLen → l0.length * 8 ≤ 140737488351232 → (∀ x ∈ l0, (Lit.int .u64 x).wf = true) → (Lit.int .u64 a1).wf = true → (Lit.int .u64 a2).wf = true → ∃ k, besomlaw02_ArenaStores.f k l0 a1 a2 = some true := by
  intro l0 a1 a2 _ hs _ h1 _
  have hl : l0.length < 17592186044416 := by omega
  have b1 := wf_u64 h1
  refine Ev.rounds (g := fun k => besomlaw02_ArenaStores.f k l0 a1 a2) ?_
  unfold besomlaw02_ArenaStores.f
  rw [copy_eq l0 hl, rstore_eq l0 hl a1 a2 b1.1]
  simp only [Option.bind_some]
  refine Ev.bind (store_ev l0 hl a1 a2 b1.1) (Ev.bind words_ev ?_)
  simp only [if_true]
  have hlt : (storeS l0 a1 a2).1.length < 17592186044416 := by
    unfold storeS; repeat' split
    all_goals first | (simp; done) | (simp; omega)
  refine Ev.bind (same_ev _ hlt) ?_
  simp only [if_true]
  exact Ev.bind (same_ev l0 hl) (Ev.now _)

end Go.Proofs.Ytdadleamaalhiaa.Pure
