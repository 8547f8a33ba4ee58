/- Bits that are told are their asker's own: changed, those that were handed in stay. -/
import Derived.Test.YthphncefbahcaaaDoorGOx6
import Derived.Test.YthphncefbahcaaaDoorPuBitsPutIO
import Derived.Test.YthphncefbahcaaaDoorPuBitsBothO
import Derived.Test.YthphncefbahcaaaDoorPuBitsSameO
namespace Go.Proofs.YthphncefbahcaaaDoor.Pure
open Go.RowKit Go.Proofs.YthphncefbahcaaaDoorW.PrintWords Go.Proofs.YthphncefbahcaaaDoorW.PrintLast Go.Proofs.YthphncefbahcaaaDoor.GO Go.Proofs.YthphncefbahcaaaDoor.Pu Go.Proofs.YthphncefbahcaaaDoor.PuBitW Go.Proofs.YthphncefbahcaaaDoor.PuBitsO Go.Proofs.YthphncefbahcaaaDoor.PuBitsPutIO Go.Proofs.YthphncefbahcaaaDoor.PuBitsBothO Go.Proofs.YthphncefbahcaaaDoor.PuBitsSameO

theorem BitsOwn : ∀ (n0 : Int) (l0 : List Int) (a1 : Int) (a2 : Int), (Lit.int .i64 n0).wf = true → l0.length ≤ maxLen → l0.length * 8 ≤ 140737488351232 → (∀ x ∈ l0, (Lit.int .u64 x).wf = true) → (Lit.int .i64 a1).wf = true → (Lit.int .i64 a2).wf = true → ∃ k, besomlaw01_BitsOwn.f k n0 l0 a1 a2 = some true := by
  intro n l fr ct _ _ hs hw _ _
  have hl : l.length < 17592186044416 := by omega
  have hW := words_of hw
  refine Ev.rounds (g := fun k => besomlaw01_BitsOwn.f k n l fr ct) ?_
  unfold besomlaw01_BitsOwn.f
  refine Ev.bind puts_ev ?_
  simp only [if_true]
  refine Ev.bind asks_ev ?_
  simp only [if_true]
  have hc : besomref01_Copy.f n l = some (n, l) := by simp [besomref01_Copy.f, hl]
  exact Ev.bind (ev_const hc) (Ev.bind (put_ev hW hl fr true) (Ev.bind (fill_ev hW hl fr ct true) (Ev.bind (both_ev hW hl hW hl) (same_ev n l hl))))

end Go.Proofs.YthphncefbahcaaaDoor.Pure
