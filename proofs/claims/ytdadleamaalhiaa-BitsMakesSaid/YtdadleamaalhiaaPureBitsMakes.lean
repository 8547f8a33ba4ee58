/- Any number makes the list of bits that the document says, and any list is looked at as it says. -/
import Derived.Test.YtdadleamaalhiaaGBx10
import Derived.Test.YtdadleamaalhiaaPuBitsPut
namespace Go.Proofs.Ytdadleamaalhiaa.Pure
open Go.RowKit Go.Proofs.YtdadleamaalhiaaW.PrintWords Go.Proofs.YtdadleamaalhiaaW.PrintLast Go.Proofs.Ytdadleamaalhiaa.GB Go.Proofs.Ytdadleamaalhiaa.Pu Go.Proofs.Ytdadleamaalhiaa.PuBitW Go.Proofs.Ytdadleamaalhiaa.PuBits Go.Proofs.Ytdadleamaalhiaa.PuBitsPut

theorem BitsMakes : ∀ (a0 : Int) (n1 : Int) (l1 : List Int), (Lit.int .i64 a0).wf = true → (Lit.int .i64 n1).wf = true → l1.length ≤ maxLen → l1.length * 8 ≤ 140737488351232 → (∀ x ∈ l1, (Lit.int .u64 x).wf = true) → ∃ k, besomlaw01_BitsMakes.f k a0 n1 l1 = some true := by
  intro a0 n1 l1 _ _ _ hs hw
  have hl : l1.length < 17592186044416 := by omega
  have hW := words_of hw
  refine Ev.rounds (g := fun k => besomlaw01_BitsMakes.f k a0 n1 l1) ?_
  unfold besomlaw01_BitsMakes.f
  obtain ⟨r, hr, hrl⟩ := make_some a0
  rw [← make_eq, hr]
  simp only [Option.bind_some]
  refine Ev.bind puts_ev ?_
  simp only [if_true]
  refine Ev.bind (same_ev _ _ hrl) ?_
  simp only [if_true]
  refine Ev.bind (check_ev hW hl) (Ev.bind (rcheck_ev hW hl) ?_)
  exact ev_const (by simp)

end Go.Proofs.Ytdadleamaalhiaa.Pure
