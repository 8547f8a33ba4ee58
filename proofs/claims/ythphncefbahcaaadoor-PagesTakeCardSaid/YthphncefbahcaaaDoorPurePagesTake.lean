/- Whatever pages are, a run is taken, and given back, as the document says. -/
import Derived.Test.YthphncefbahcaaaDoorGRx8
import Derived.Test.YthphncefbahcaaaDoorPuPagesTakeRR
namespace Go.Proofs.YthphncefbahcaaaDoor.Pure
open Go.RowKit Go.Proofs.YthphncefbahcaaaDoorW.PrintWords Go.Proofs.YthphncefbahcaaaDoorW.PrintLast Go.Proofs.YthphncefbahcaaaDoor.GR Go.Proofs.YthphncefbahcaaaDoor.Pu Go.Proofs.YthphncefbahcaaaDoor.PuBitW Go.Proofs.YthphncefbahcaaaDoor.PuPagesR Go.Proofs.YthphncefbahcaaaDoor.PuPagesTakeRR

theorem PagesTake : ∀ (n0 : Int) (l0 : List Int) (a1 : Int) (a2 : Int), (Lit.int .i64 n0).wf = true → l0.length ≤ maxLen → l0.length * 8 ≤ 140737488351232 → (∀ x ∈ l0, (Lit.int .u64 x).wf = true) → (Lit.int .i64 a1).wf = true → (Lit.int .i64 a2).wf = true → ∃ k, besomlaw03_PagesTake.f k n0 l0 a1 a2 = some true := by
  intro n l fr ct _ _ hs hw _ hc
  have hl : l.length < 17592186044416 := by omega
  have hW := words_of hw
  have hct := (wf_i64 hc).2
  refine Ev.rounds (g := fun k => besomlaw03_PagesTake.f k n l fr ct) ?_
  unfold besomlaw03_PagesTake.f
  obtain ⟨p, pl, p0, p1⟩ := both_take n l hW hl ct hct
  obtain ⟨q, ql, q0, q1⟩ := both_give n l hW hl fr ct
  refine Ev.bind (ev_const (rcopy3_eq n l hl)) (Ev.bind p0 (Ev.bind p1 (Ev.bind q0 (Ev.bind q1 (Ev.bind lives_ev ?_)))))
  simp only [if_true]
  refine Ev.bind (same3_ev p.1 p.2.1 pl) ?_
  simp only [if_true]
  refine Ev.bind (same3_ev q.1 q.2.1 ql) ?_
  simp only [if_true]
  exact Ev.bind (same3_ev n l hl) (ev_const rfl)

end Go.Proofs.YthphncefbahcaaaDoor.Pure
