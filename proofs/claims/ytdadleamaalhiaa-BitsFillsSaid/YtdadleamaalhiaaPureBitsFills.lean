/- Whatever a list of bits is, a run of bits is laid as the document says. -/
import Derived.Test.YtdadleamaalhiaaGBx16
import Derived.Test.YtdadleamaalhiaaPuBitsPut
namespace Go.Proofs.Ytdadleamaalhiaa.Pure
open Go.RowKit Go.Proofs.YtdadleamaalhiaaW.PrintWords Go.Proofs.YtdadleamaalhiaaW.PrintLast Go.Proofs.Ytdadleamaalhiaa.GB Go.Proofs.Ytdadleamaalhiaa.Pu Go.Proofs.Ytdadleamaalhiaa.PuBitW Go.Proofs.Ytdadleamaalhiaa.PuBits Go.Proofs.Ytdadleamaalhiaa.PuBitsPut

theorem BitsFills : ∀ (n0 : Int) (l0 : List Int) (a1 : Int) (a2 : Int) (a3 : Bool), (Lit.int .i64 n0).wf = true → l0.length ≤ maxLen → l0.length * 8 ≤ 140737488351232 → (∀ x ∈ l0, (Lit.int .u64 x).wf = true) → (Lit.int .i64 a1).wf = true → (Lit.int .i64 a2).wf = true → ∃ k, besomlaw01_BitsFills.f k n0 l0 a1 a2 a3 = some true := by
  intro n0 l0 a1 a2 a3 _ _ hs hw _ _
  have hl : l0.length < 17592186044416 := by omega
  have hW := words_of hw
  refine Ev.rounds (g := fun k => besomlaw01_BitsFills.f k n0 l0 a1 a2 a3) ?_
  unfold besomlaw01_BitsFills.f
  rw [rcopy_eq n0 l0 hl]
  simp only [Option.bind_some]
  refine Ev.bind (fill_ev hW hl a1 a2 a3) (Ev.bind (rfill_ev hW hl a1 a2 a3) (Ev.bind puts_ev ?_))
  simp only [if_true]
  refine Ev.bind (same_ev _ _ (fillS_len hl a1 a2 a3)) ?_
  simp only [if_true]
  exact Ev.bind (same_ev _ _ hl) (Ev.now _)

end Go.Proofs.Ytdadleamaalhiaa.Pure
