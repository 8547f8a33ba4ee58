/- Whatever pages are, how many are free, in all and one behind the other, is what the document says; any number is made. -/
import Derived.Test.YthphncefbahcaaaDoorGQx7
import Derived.Test.YthphncefbahcaaaDoorPuPagesAskRQ
namespace Go.Proofs.YthphncefbahcaaaDoor.Pure
open Go.RowKit Go.Proofs.YthphncefbahcaaaDoorW.PrintWords Go.Proofs.YthphncefbahcaaaDoorW.PrintLast Go.Proofs.YthphncefbahcaaaDoor.GQ Go.Proofs.YthphncefbahcaaaDoor.Pu Go.Proofs.YthphncefbahcaaaDoor.PuBitW Go.Proofs.YthphncefbahcaaaDoor.PuBitsQ Go.Proofs.YthphncefbahcaaaDoor.PuPagesQ Go.Proofs.YthphncefbahcaaaDoor.PuPagesAskRQ

theorem PagesAsk : ∀ (n0 : Int) (l0 : List Int) (a1 : Int), (Lit.int .i64 n0).wf = true → l0.length ≤ maxLen → l0.length * 8 ≤ 140737488351232 → (∀ x ∈ l0, (Lit.int .u64 x).wf = true) → (Lit.int .i64 a1).wf = true → ∃ k, besomlaw03_PagesAsk.f k n0 l0 a1 = some true := by
  intro n l m _ _ hs hw _
  have hl : l.length < 17592186044416 := by omega
  have hW := words_of hw
  refine Ev.rounds (g := fun k => besomlaw03_PagesAsk.f k n l m) ?_
  unfold besomlaw03_PagesAsk.f
  obtain ⟨p, p0, p1⟩ := both_long n l hW hl
  obtain ⟨q, q0, q1, ql⟩ := make3 m
  refine Ev.bind (free_ev hW hl) (Ev.bind (rfree3_ev hW hl) (Ev.bind p0 (Ev.bind p1 (Ev.bind (ev_const q0) (Ev.bind (ev_const q1) (Ev.bind lives_ev ?_))))))
  simp only [if_true]
  refine Ev.bind (same3_ev q.1 q.2.1 ql) ?_
  simp only [if_true]
  refine Ev.bind (pcheck_ev hW hl) (Ev.bind (rcheck3_ev hW hl) ?_)
  refine ev_const ?_; simp

end Go.Proofs.YthphncefbahcaaaDoor.Pure
