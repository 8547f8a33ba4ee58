/- With more pages given back no fewer are free, and none that was free is used. -/
import Derived.Test.YthphncefbahcaaaDoorGPx6
import Derived.Test.YthphncefbahcaaaDoorPuPagesP
namespace Go.Proofs.YthphncefbahcaaaDoor.Pure
open Go.RowKit Go.Proofs.YthphncefbahcaaaDoorW.PrintWords Go.Proofs.YthphncefbahcaaaDoorW.PrintLast Go.Proofs.YthphncefbahcaaaDoor.GP Go.Proofs.YthphncefbahcaaaDoor.Pu Go.Proofs.YthphncefbahcaaaDoor.PuBitW Go.Proofs.YthphncefbahcaaaDoor.PuBitsP Go.Proofs.YthphncefbahcaaaDoor.PuBitsLayP Go.Proofs.YthphncefbahcaaaDoor.PuBitsCountLP Go.Proofs.YthphncefbahcaaaDoor.PuBitsFirstP Go.Proofs.YthphncefbahcaaaDoor.PuBitsRunIP Go.Proofs.YthphncefbahcaaaDoor.PuBitsFillJP Go.Proofs.YthphncefbahcaaaDoor.PuPagesP

theorem PagesMore : ∀ (n0 : Int) (l0 : List Int) (a1 : Int) (a2 : Int) (a3 : Int), (Lit.int .i64 n0).wf = true → l0.length ≤ maxLen → l0.length * 8 ≤ 140737488351232 → (∀ x ∈ l0, (Lit.int .u64 x).wf = true) → (Lit.int .i64 a1).wf = true → (Lit.int .i64 a2).wf = true → (Lit.int .i64 a3).wf = true → ∃ k, besomlaw03_PagesMore.f k n0 l0 a1 a2 a3 = some true := by
  intro n l fr ct i _ _ hs hw _ _ hi
  have hl : l.length < 17592186044416 := by omega
  have hW := words_of hw
  have hi2 := wf_i64 hi
  refine Ev.rounds (g := fun k => besomlaw03_PagesMore.f k n l fr ct i) ?_
  unfold besomlaw03_PagesMore.f
  refine Ev.bind lives_ev ?_
  simp only [if_true]
  rcases Give_ev (n := n) hW hl fr ct with ⟨hn, hE⟩ | ⟨hf, ⟨hr, hE⟩ | ⟨hr, ⟨ha, hE⟩ | ⟨hn, hE⟩⟩⟩
  · refine Ev.bind hE ?_
    simp only [show ¬ ((2 : Int) = 0) by decide, if_false]; exact ev_const rfl
  · refine Ev.bind hE ?_
    simp only [show ¬ ((1 : Int) = 0) by decide, if_false]; exact ev_const rfl
  · obtain ⟨h0, h1, h2, h3⟩ := hr
    refine Ev.bind hE ?_
    simp only [if_true]
    have g := hf
    obtain ⟨g0, g1, g2, _⟩ := g
    have hA := fillAt_words false fr.toNat ct.toNat 0 hW
    have lA : (fillAt false fr.toNat ct.toNat 0 l).length = l.length := fillAt_len _ _ _ _ _
    have fA := fill_fit hW hf false fr.toNat ct.toNat (by omega)
    have bA : ∀ j, bitAt (fillAt false fr.toNat ct.toNat 0 l) j = if fr.toNat + 0 ≤ j ∧ j < fr.toNat + 0 + ct.toNat then false else bitAt l j := fun j => fillAt_bit false _ _ 0 j hW (by omega)
    generalize fillAt false fr.toNat ct.toNat 0 l = A at *
    have hclear : ∀ j : Nat, bitAt l j = false → bitAt A j = false := fun j hj => by
      rw [bA]
      split
      · rfl
      · exact hj
    have more : ∀ c, HasRun n l c → HasRun n A c := fun c ⟨s, s0, s1, s2⟩ => ⟨s, s0, s1, fun j j0 j1 => hclear _ (s2 j j0 j1)⟩
    have hct : HasRun n A ct := ⟨fr, h0, by omega, fun j j0 j1 => by rw [bA, if_pos (by omega)]⟩
    rcases long_ev (n := n) hW hl with ⟨hn, _⟩ | ⟨_, a, hla, ea⟩
    · exact absurd hf hn
    rcases long_ev (n := n) hA (by omega) with ⟨hn, _⟩ | ⟨_, b, hlb, eb⟩
    · exact absurd fA hn
    have a0 := hla.ge
    have b0 := hlb.ge
    have hab : b ≥ a := by
      by_cases c : 1 ≤ a
      · exact (hlb.has c).1 (more a (hla.so c))
      · omega
    have hbc : b ≥ ct := (hlb.has h1).1 hct
    refine Ev.bind ea (Ev.bind eb (Ev.bind (get_ev hW hl i) (Ev.bind (get_ev hA (by omega) i) ?_)))
    unfold getS
    rw [if_pos hf, if_pos fA]
    by_cases c0 : i < 0
    · simp only [c0, show ¬ i ≥ fr by omega, if_true, if_false, hab, hbc, show ¬ ((1 : Int) = 0) by decide]; exact ev_const rfl
    by_cases c1 : i ≥ n
    · simp only [c0, c1, if_true, if_false, hab, hbc, show ¬ ((1 : Int) = 0) by decide]
      split <;> exact ev_const rfl
    simp only [c0, c1, if_true, if_false, hab, hbc]
    by_cases c2 : i ≥ fr
    · simp only [c2, if_true]
      rw [w64 (by omega) (by omega)]
      by_cases c3 : i - fr < ct
      · simp only [c3, if_true]
        rw [ha i c2 (by omega), bA i.toNat, if_pos (show fr.toNat + 0 ≤ i.toNat ∧ i.toNat < fr.toNat + 0 + ct.toNat by omega)]
        simp only [if_true, Bool.false_eq_true, if_false]; exact ev_const rfl
      · simp only [c3, if_false]
        rw [bA i.toNat, if_neg (show ¬ (fr.toNat + 0 ≤ i.toNat ∧ i.toNat < fr.toNat + 0 + ct.toNat) by omega)]
        refine ev_const ?_; simp
    · simp only [c2, if_false]
      rw [bA i.toNat, if_neg (show ¬ (fr.toNat + 0 ≤ i.toNat ∧ i.toNat < fr.toNat + 0 + ct.toNat) by omega)]
      refine ev_const ?_; simp
  · refine Ev.bind hE ?_
    simp only [show ¬ ((5 : Int) = 0) by decide, if_false]; exact ev_const rfl

end Go.Proofs.YthphncefbahcaaaDoor.Pure
