/- Whatever a list of bits is, one bit is read and laid as the document says. -/
import Derived.Test.YtdadleamaalhiaaGBx14
import Derived.Test.YtdadleamaalhiaaPuBitsPut
namespace Go.Proofs.Ytdadleamaalhiaa.Pure
open Go.RowKit Go.Proofs.YtdadleamaalhiaaW.PrintWords Go.Proofs.YtdadleamaalhiaaW.PrintLast Go.Proofs.Ytdadleamaalhiaa.GB Go.Proofs.Ytdadleamaalhiaa.Pu Go.Proofs.Ytdadleamaalhiaa.PuBitW Go.Proofs.Ytdadleamaalhiaa.PuBits Go.Proofs.Ytdadleamaalhiaa.PuBitsPut

theorem BitsPuts : ∀ (n0 : Int) (l0 : List Int) (a1 : Int) (a2 : Bool), (Lit.int .i64 n0).wf = true → l0.length ≤ maxLen → l0.length * 8 ≤ 140737488351232 → (∀ x ∈ l0, (Lit.int .u64 x).wf = true) → (Lit.int .i64 a1).wf = true → ∃ k, besomlaw01_BitsPuts.f k n0 l0 a1 a2 = some true := by
  intro n0 l0 a1 a2 _ _ hs hw _
  have hl : l0.length < 17592186044416 := by omega
  have hW := words_of hw
  refine Ev.rounds (g := fun k => besomlaw01_BitsPuts.f k n0 l0 a1 a2) ?_
  unfold besomlaw01_BitsPuts.f
  rw [rcopy_eq n0 l0 hl]
  simp only [Option.bind_some]
  refine Ev.bind (get_ev hW hl a1) (Ev.bind (rget_ev hW hl a1) (Ev.bind (put_ev hW hl a1 a2) (Ev.bind (rput_ev hW hl a1 a2) (Ev.bind puts_ev ?_))))
  simp only [if_true, beq_self_eq_true]
  refine Ev.bind (same_ev _ _ (putS_len hl a1 a2)) ?_
  simp only [if_true]
  exact Ev.bind (same_ev _ _ hl) (Ev.now _)

end Go.Proofs.Ytdadleamaalhiaa.Pure
