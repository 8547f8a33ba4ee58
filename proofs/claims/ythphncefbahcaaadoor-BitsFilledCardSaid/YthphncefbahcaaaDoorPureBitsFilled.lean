/- A run laid clear, set, and clear again: so many more meanwhile, and as before behind. -/
import Derived.Test.YthphncefbahcaaaDoorGBx11
import Derived.Test.YthphncefbahcaaaDoorPuBitsFillI
import Derived.Test.YthphncefbahcaaaDoorPuBitsRunI
import Derived.Test.YthphncefbahcaaaDoorPuBitsBoth
import Derived.Test.YthphncefbahcaaaDoorPuBitsSame
namespace Go.Proofs.YthphncefbahcaaaDoor.Pure
open Go.RowKit Go.Proofs.YthphncefbahcaaaDoorW.PrintWords Go.Proofs.YthphncefbahcaaaDoorW.PrintLast Go.Proofs.YthphncefbahcaaaDoor.GB Go.Proofs.YthphncefbahcaaaDoor.Pu Go.Proofs.YthphncefbahcaaaDoor.PuBitW Go.Proofs.YthphncefbahcaaaDoor.PuBits Go.Proofs.YthphncefbahcaaaDoor.PuBitsPutI Go.Proofs.YthphncefbahcaaaDoor.PuBitsCountL Go.Proofs.YthphncefbahcaaaDoor.PuBitsFirst Go.Proofs.YthphncefbahcaaaDoor.PuBitsRunI Go.Proofs.YthphncefbahcaaaDoor.PuBitsFillI Go.Proofs.YthphncefbahcaaaDoor.PuBitsBoth Go.Proofs.YthphncefbahcaaaDoor.PuBitsSame

theorem bits_ext {a b : List Int} (ha : Words a) (hb : Words b) (h : a.length = b.length) (hbit : ∀ i : Nat, i < 64 * a.length → bitAt a i = bitAt b i) : a = b := by
  refine list_ext h fun j j0 j1 => ?_
  obtain ⟨J, rfl⟩ : ∃ J : Nat, j = (J : Int) := ⟨j.toNat, by omega⟩
  obtain ⟨e, l1⟩ := ha.rd_nat J
  obtain ⟨e2, l2⟩ := hb.rd_nat J
  rw [e, e2]
  have : (a.getD J 0).toNat = (b.getD J 0).toNat := by
    apply Nat.eq_of_testBit_eq
    intro r
    by_cases hr : r < 64
    · have := hbit (64 * J + r) (by omega)
      unfold bitAt at this
      rwa [show (64 * J + r) / 64 = J by omega, show (64 * J + r) % 64 = r by omega] at this
    · rw [high _ _ l1 (by omega), high _ _ l2 (by omega)]
  rw [this]
theorem BitsFilled : ∀ (n0 : Int) (l0 : List Int) (a1 : Int) (a2 : Int), (Lit.int .i64 n0).wf = true → l0.length ≤ maxLen → l0.length * 8 ≤ 140737488351232 → (∀ x ∈ l0, (Lit.int .u64 x).wf = true) → (Lit.int .i64 a1).wf = true → (Lit.int .i64 a2).wf = true → ∃ k, besomlaw01_BitsFilled.f k n0 l0 a1 a2 = some true := by
  intro n l fr ct _ _ hs hw _ hc2
  have hl : l.length < 17592186044416 := by omega
  have hW := words_of hw
  have hct := (wf_i64 hc2).2
  refine Ev.rounds (g := fun k => besomlaw01_BitsFilled.f k n l fr ct) ?_
  unfold besomlaw01_BitsFilled.f
  refine Ev.bind puts_ev ?_
  simp only [if_true]
  refine Ev.bind asks_ev ?_
  refine ev_succ (f := fun k => _) (fun k => by rw [besomlaw01_BitsFilled.j0, if_neg (by decide)]) ?_
  refine Ev.bind (fill_ev hW hl fr ct false) ?_
  by_cases hok : BFit n l ∧ 0 ≤ fr ∧ 0 ≤ ct ∧ ct ≤ n ∧ fr ≤ n - ct
  · obtain ⟨hf, o0, o1, o2, o3⟩ := hok
    have fS : ∀ (m : List Int) (v : Bool), BFit n m → fillS n m fr ct v = (n, fillAt v fr.toNat ct.toNat 0 m, 0) := fun m v hm => by
      unfold fillS; rw [if_pos hm, if_neg (by omega), if_neg (by omega), if_neg (by omega), if_neg (by omega)]
    rw [fS l false hf]
    simp only [if_true]
    have g := hf
    obtain ⟨g0, g1, g2, _⟩ := g
    have hin : ((fr.toNat : Nat) : Int) + ct.toNat ≤ n := by omega
    have hA := fillAt_words false fr.toNat ct.toNat 0 hW
    have lA : (fillAt false fr.toNat ct.toNat 0 l).length = l.length := fillAt_len _ _ _ _ _
    have fA := fill_fit hW hf false fr.toNat ct.toNat hin
    have bA : ∀ j, bitAt (fillAt false fr.toNat ct.toNat 0 l) j = if fr.toNat + 0 ≤ j ∧ j < fr.toNat + 0 + ct.toNat then false else bitAt l j := fun j => fillAt_bit false _ _ 0 j hW (by omega)
    generalize fillAt false fr.toNat ct.toNat 0 l = A at *
    have hB := fillAt_words true fr.toNat ct.toNat 0 hA
    have lB : (fillAt true fr.toNat ct.toNat 0 A).length = A.length := fillAt_len _ _ _ _ _
    have fB := fill_fit hA fA true fr.toNat ct.toNat hin
    have bB : ∀ j, bitAt (fillAt true fr.toNat ct.toNat 0 A) j = if fr.toNat + 0 ≤ j ∧ j < fr.toNat + 0 + ct.toNat then true else bitAt A j := fun j => fillAt_bit true _ _ 0 j hA (by omega)
    have eB := fill_ev (n := n) hA (by omega) fr ct true
    rw [fS A true fA] at eB
    generalize fillAt true fr.toNat ct.toNat 0 A = B at *
    have eC := fill_ev (n := n) hB (by omega) fr ct false
    rw [fS B false fB] at eC
    have hC : fillAt false fr.toNat ct.toNat 0 B = A := by
      refine bits_ext (fillAt_words _ _ _ _ hB) hA (by rw [fillAt_len]; omega) fun j hj => ?_
      rw [fillAt_len] at hj
      rw [fillAt_bit false fr.toNat ct.toNat 0 j hB (by omega), bB, bA]
      by_cases c : fr.toNat + 0 ≤ j ∧ j < fr.toNat + 0 + ct.toNat
      · rw [if_pos c, if_pos c]
      · rw [if_neg c, if_neg c, if_neg c]
    rw [hC] at eC
    have cA := count_ev (n := n) hA (by omega)
    have cB := count_ev (n := n) hB (by omega)
    unfold countS at cA cB
    rw [if_pos fA] at cA
    rw [if_pos fB] at cB
    have cn := cntI_run A B n.toNat fr.toNat ct.toNat (by omega) (fun j j0 j1 => by rw [bA, if_pos (by omega)]) (fun j j0 j1 => by rw [bB, if_pos (by omega)]) (fun j j0 j1 => by rw [bB, if_neg (by omega)])
    have le := cntI_le A n.toNat 0
    refine Ev.bind eB (Ev.bind eC (Ev.bind cA (Ev.bind cB ?_)))
    have last : ∀ r : Int × Int, (ct = 0 ∨ (r.2 = 0 ∧ r.1 ≤ fr)) → Ev (fun k => bits_Run.f k n A ct) r → Ev (fun k => (bits_Run.f k n A ct).bind fun bt330 => (if (0 : Int) = 0 then (if (0 : Int) = 0 then ((besomref01_Same.f k n A n A).bind fun t332 => (if t332 = true then (if (0 : Int) = 0 then (if (0 : Int) = 0 then (if (wrap64 (((cntI B 0 n.toNat : Nat) : Int) - ((cntI A 0 n.toNat : Nat) : Int))) = ct then (if ct = 0 then (some true) else (if bt330.2 = 0 then (some (decide (bt330.1 ≤ fr))) else (some false))) else (some false)) else (some false)) else (some false)) else (some false))) else (some false)) else (some false))) true := by
      intro r hr hE
      refine Ev.bind hE ?_
      simp only [if_true]
      refine Ev.bind (same_ev n A (by omega)) ?_
      rw [w64 (by omega) (by omega), cn, show ((cntI A 0 n.toNat + ct.toNat : Nat) : Int) - (cntI A 0 n.toNat : Nat) = ct by omega]
      simp only [if_true]
      rcases hr with h | ⟨h0, h1⟩
      · simp only [h, if_true]; exact Ev.now _
      · by_cases c : ct = 0
        · simp only [c, if_true]; exact Ev.now _
        · simp only [c, if_false, h0, h1, if_true, decide_true]; exact Ev.now _
    rcases Run_ev (n := n) hA (by omega) ct hct with ⟨hn, _⟩ | ⟨_, ⟨hr, hE⟩ | ⟨hr, ⟨s, hsr, hE⟩ | ⟨hn, hE⟩⟩⟩
    · exact absurd fA hn
    · exact last _ (.inl (by omega)) hE
    · refine last _ (.inr ⟨rfl, ?_⟩) hE
      apply Classical.byContradiction; intro hh
      exact hsr.no fr o0 (by omega) (by omega) (fun i i0 i1 => by rw [bA, if_pos (by omega)])
    · exact absurd (fun i i0 i1 => by rw [bA, if_pos (by omega)] : Clear A fr ct) (hn fr o0 (by omega) (by omega))
  · have e : ¬ (fillS n l fr ct false).2.2 = 0 := by
      unfold fillS
      by_cases hf : BFit n l
      · rw [if_pos hf]; repeat' split
        all_goals first | (simp; done) | (exfalso; apply hok; exact ⟨hf, by omega, by omega, by omega, by omega⟩)
      · rw [if_neg hf]; decide
    simp only [e, if_false]; exact ev_const rfl

end Go.Proofs.YthphncefbahcaaaDoor.Pure
