/- There is no room for a run just when it is longer than the longest one that is free. -/
import Derived.Test.YthphncefbahcaaaDoorGPx5
import Derived.Test.YthphncefbahcaaaDoorPuPagesP
namespace Go.Proofs.YthphncefbahcaaaDoor.Pure
open Go.RowKit Go.Proofs.YthphncefbahcaaaDoorW.PrintWords Go.Proofs.YthphncefbahcaaaDoorW.PrintLast Go.Proofs.YthphncefbahcaaaDoor.GP Go.Proofs.YthphncefbahcaaaDoor.Pu Go.Proofs.YthphncefbahcaaaDoor.PuBitW Go.Proofs.YthphncefbahcaaaDoor.PuBitsP Go.Proofs.YthphncefbahcaaaDoor.PuBitsLayP Go.Proofs.YthphncefbahcaaaDoor.PuBitsCountLP Go.Proofs.YthphncefbahcaaaDoor.PuBitsFirstP Go.Proofs.YthphncefbahcaaaDoor.PuBitsRunIP Go.Proofs.YthphncefbahcaaaDoor.PuBitsFillJP Go.Proofs.YthphncefbahcaaaDoor.PuPagesP

theorem PagesFull : ∀ (n0 : Int) (l0 : List Int) (a1 : Int), (Lit.int .i64 n0).wf = true → l0.length ≤ maxLen → l0.length * 8 ≤ 140737488351232 → (∀ x ∈ l0, (Lit.int .u64 x).wf = true) → (Lit.int .i64 a1).wf = true → ∃ k, besomlaw03_PagesFull.f k n0 l0 a1 = some true := by
  intro n l ct _ _ hs hw hc
  have hl : l.length < 17592186044416 := by omega
  have hW := words_of hw
  have hct := (wf_i64 hc).2
  refine Ev.rounds (g := fun k => besomlaw03_PagesFull.f k n l ct) ?_
  unfold besomlaw03_PagesFull.f
  refine Ev.bind lives_ev ?_
  simp only [if_true]
  have cL := free_ev (n := n) hW hl
  unfold freeS at cL
  rcases long_ev (n := n) hW hl with ⟨hn, hL⟩ | ⟨hf, b, hb, hL⟩
  · rcases Take_ev (n := n) hW hl ct hct with ⟨_, hE⟩ | ⟨hf, _⟩
    · refine Ev.bind hL (Ev.bind cL (Ev.bind hE ?_))
      simp only [show ¬ ((2 : Int) = 0) by decide, if_false]; exact ev_const rfl
    · exact absurd hf hn
  rw [if_pos hf] at cL
  have b0 := hb.ge
  have hle : b ≤ n - ((cntI l 0 n.toNat : Nat) : Int) := by
    by_cases c : 1 ≤ b
    · have := cnt_clear (hb.so c) b0 hf.1
      omega
    · have h0 := hf.1
      have := cntI_le l n.toNat 0
      omega
  rcases Take_ev (n := n) hW hl ct hct with ⟨hn, hE⟩ | ⟨_, ⟨hr, hE⟩ | ⟨hr, ⟨s, hs, hE⟩ | ⟨hn, hE⟩⟩⟩
  · exact absurd hf hn
  · refine Ev.bind hL (Ev.bind cL (Ev.bind hE ?_))
    simp only [if_true, hr]; exact ev_const rfl
  · have hk := (hb.has hr).1 (has_of_is hs)
    refine Ev.bind hL (Ev.bind cL (Ev.bind hE ?_))
    simp only [if_true, show ¬ ct < 1 by omega, if_false, hle, show ¬ ct > b by omega, hk]; exact ev_const rfl
  · have hk : ¬ ct ≤ b := fun h => has_not hr hn ((hb.has hr).2 h)
    refine Ev.bind hL (Ev.bind cL (Ev.bind hE ?_))
    simp only [if_true, show ¬ ct < 1 by omega, if_false, hle, show ct > b by omega, hk]; exact ev_const rfl

end Go.Proofs.YthphncefbahcaaaDoor.Pure
