/- What was taken, given back, leaves all as it was; meanwhile so many fewer are free. -/
import Derived.Test.YthphncefbahcaaaDoorGPx4
import Derived.Test.YthphncefbahcaaaDoorPuPagesP
import Derived.Test.YthphncefbahcaaaDoorPuBitsSameP
namespace Go.Proofs.YthphncefbahcaaaDoor.Pure
open Go.RowKit Go.Proofs.YthphncefbahcaaaDoorW.PrintWords Go.Proofs.YthphncefbahcaaaDoorW.PrintLast Go.Proofs.YthphncefbahcaaaDoor.GP Go.Proofs.YthphncefbahcaaaDoor.Pu Go.Proofs.YthphncefbahcaaaDoor.PuBitW Go.Proofs.YthphncefbahcaaaDoor.PuBitsP Go.Proofs.YthphncefbahcaaaDoor.PuBitsLayP Go.Proofs.YthphncefbahcaaaDoor.PuBitsCountLP Go.Proofs.YthphncefbahcaaaDoor.PuBitsFirstP Go.Proofs.YthphncefbahcaaaDoor.PuBitsRunIP Go.Proofs.YthphncefbahcaaaDoor.PuBitsFillJP Go.Proofs.YthphncefbahcaaaDoor.PuPagesP Go.Proofs.YthphncefbahcaaaDoor.PuBitsSameP

theorem list_ext {a b : List Int} (h : a.length = b.length) (hr : ∀ j : Int, 0 ≤ j → j < a.length → rd a j = rd b j) : a = b := by
  apply List.ext_getElem h
  intro i h1 h2
  have := hr (i : Int) (by omega) (by omega)
  rw [rd_nat, rd_nat, List.getD_eq_getElem?_getD, List.getD_eq_getElem?_getD, List.getElem?_eq_getElem h1, List.getElem?_eq_getElem h2] at this
  exact this
theorem bits_ext {a b : List Int} (ha : Words a) (hb : Words b) (h : a.length = b.length) (hbit : ∀ i : Nat, i < 64 * a.length → bitAt a i = bitAt b i) : a = b := by
  refine list_ext h fun j j0 j1 => ?_
  obtain ⟨J, rfl⟩ : ∃ J : Nat, j = (J : Int) := ⟨j.toNat, by omega⟩
  obtain ⟨e, l1⟩ := ha.rd_nat J
  obtain ⟨e2, l2⟩ := hb.rd_nat J
  rw [e, e2]
  have : (a.getD J 0).toNat = (b.getD J 0).toNat := by
    apply Nat.eq_of_testBit_eq
    intro r
    by_cases hr : r < 64
    · have := hbit (64 * J + r) (by omega)
      unfold bitAt at this
      rwa [show (64 * J + r) / 64 = J by omega, show (64 * J + r) % 64 = r by omega] at this
    · rw [high _ _ l1 (by omega), high _ _ l2 (by omega)]
  rw [this]
theorem PagesBack : ∀ (n0 : Int) (l0 : List Int) (a1 : Int), (Lit.int .i64 n0).wf = true → l0.length ≤ maxLen → l0.length * 8 ≤ 140737488351232 → (∀ x ∈ l0, (Lit.int .u64 x).wf = true) → (Lit.int .i64 a1).wf = true → ∃ k, besomlaw03_PagesBack.f k n0 l0 a1 = some true := by
  intro n l ct _ _ hs hw hc
  have hl : l.length < 17592186044416 := by omega
  have hW := words_of hw
  have hct := (wf_i64 hc).2
  refine Ev.rounds (g := fun k => besomlaw03_PagesBack.f k n l ct) ?_
  unfold besomlaw03_PagesBack.f
  refine Ev.bind lives_ev ?_
  simp only [if_true]
  rcases Take_ev (n := n) hW hl ct hct with ⟨hn, hE⟩ | ⟨hf, ⟨hr, hE⟩ | ⟨hr, ⟨s, hs, hE⟩ | ⟨hn, hE⟩⟩⟩
  · refine Ev.bind hE ?_
    simp only [show ¬ ((2 : Int) = 0) by decide, if_false]; exact ev_const rfl
  · refine Ev.bind hE ?_
    simp only [show ¬ ((1 : Int) = 0) by decide, if_false]; exact ev_const rfl
  · refine Ev.bind hE ?_
    simp only [if_true]
    have g := hf
    obtain ⟨g0, g1, g2, _⟩ := g
    have s0 := hs.ge
    have s1 := hs.le
    have hA := fillAt_words true s.toNat ct.toNat 0 hW
    have lA : (fillAt true s.toNat ct.toNat 0 l).length = l.length := fillAt_len _ _ _ _ _
    have fA := fill_fit hW hf true s.toNat ct.toNat (by omega)
    have bA : ∀ j, bitAt (fillAt true s.toNat ct.toNat 0 l) j = if s.toNat + 0 ≤ j ∧ j < s.toNat + 0 + ct.toNat then true else bitAt l j := fun j => fillAt_bit true _ _ 0 j hW (by omega)
    generalize fillAt true s.toNat ct.toNat 0 l = A at *
    have cL := free_ev (n := n) hW hl
    have cA := free_ev (n := n) hA (by omega)
    unfold freeS at cL cA
    rw [if_pos hf] at cL
    rw [if_pos fA] at cA
    have cn := cntI_run l A n.toNat s.toNat ct.toNat (by omega) (fun j j0 j1 => by have := hs.so (j : Int) (by omega) (by omega); rwa [Int.toNat_natCast] at this) (fun j j0 j1 => by rw [bA, if_pos (by omega)]) (fun j j0 j1 => by rw [bA, if_neg (by omega)])
    have le := cntI_le l n.toNat 0
    have hd : wrap64 ((n - ((cntI l 0 n.toNat : Nat) : Int)) - (n - ((cntI A 0 n.toNat : Nat) : Int))) = ct := by
      rw [cn, w64 (by omega) (by omega)]; omega
    have hC : fillAt false s.toNat ct.toNat 0 A = l := by
      refine bits_ext (fillAt_words _ _ _ _ hA) hW (by rw [fillAt_len]; omega) fun j hj => ?_
      rw [fillAt_len] at hj
      rw [fillAt_bit false s.toNat ct.toNat 0 j hA (by omega), bA]
      by_cases c : s.toNat + 0 ≤ j ∧ j < s.toNat + 0 + ct.toNat
      · rw [if_pos c]
        have := hs.so (j : Int) (by omega) (by omega)
        rw [Int.toNat_natCast] at this; exact this.symm
      · rw [if_neg c, if_neg c]
    rcases Give_ev (n := n) hA (by omega) s ct with ⟨hn, _⟩ | ⟨_, ⟨hr, _⟩ | ⟨_, ⟨_, hG⟩ | ⟨hn, _⟩⟩⟩
    · exact absurd fA hn
    · omega
    · rw [hC] at hG
      refine Ev.bind cL (Ev.bind cA (Ev.bind hG ?_))
      simp only [if_true, hd]
      unfold besomref03_Same.f
      exact Ev.bind (Ev.bind (same_ev n l hl) (ev_const rfl)) (ev_const rfl)
    · exfalso; apply hn
      intro i i0 i1
      rw [bA, if_pos (by omega)]
  · refine Ev.bind hE ?_
    simp only [show ¬ ((6 : Int) = 0) by decide, if_false]; exact ev_const rfl

end Go.Proofs.YthphncefbahcaaaDoor.Pure
