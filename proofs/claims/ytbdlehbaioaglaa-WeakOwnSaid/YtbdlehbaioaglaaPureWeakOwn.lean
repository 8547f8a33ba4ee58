/- A table that is told is its asker's own: changed, the one that was handed in stays. -/
import Derived.Test.YtbdlehbaioaglaaGOx3
import Derived.Test.YtbdlehbaioaglaaPuWeakO
import Derived.Test.YtbdlehbaioaglaaPuWeakSameO
namespace Go.Proofs.Ytbdlehbaioaglaa.Pure
open Go.RowKit Go.Proofs.YtbdlehbaioaglaaW.PrintWords Go.Proofs.YtbdlehbaioaglaaW.PrintLast Go.Proofs.Ytbdlehbaioaglaa.GO Go.Proofs.Ytbdlehbaioaglaa.Pu Go.Proofs.Ytbdlehbaioaglaa.PuWeakO Go.Proofs.Ytbdlehbaioaglaa.PuWeakSameO

theorem WeakOwn : ∀ (l0 : List Int) (a1 : Int), l0.length ≤ maxLen → l0.length * 8 ≤ 140737488351232 → (∀ x ∈ l0, (Lit.int .u64 x).wf = true) → (Lit.int .u64 a1).wf = true → ∃ k, besomlaw09_WeakOwn.f k l0 a1 = some true := by
  intro l a _ hs _ _
  have hl : l.length < 17592186044416 := by omega
  refine Ev.rounds (g := fun k => besomlaw09_WeakOwn.f k l a) ?_
  unfold besomlaw09_WeakOwn.f
  refine Ev.bind lives_ev ?_
  simp only [if_true]
  have hc : besomref09_Copy.f l = some l := by simp [besomref09_Copy.f, hl]
  exact Ev.bind (ev_const hc) (Ev.bind (make_ev l hl a) (Ev.bind (clear_ev l hl [a] (by simp)) (same_ev l hl)))

end Go.Proofs.Ytbdlehbaioaglaa.Pure
