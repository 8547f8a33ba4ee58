/- What was stored is loaded, and no other word is changed. -/
import Derived.Test.YtdadleamaalhiaaGAx15
import Derived.Test.YtdadleamaalhiaaPuArena
namespace Go.Proofs.Ytdadleamaalhiaa.Pure
open Go.RowKit Go.Proofs.YtdadleamaalhiaaW.PrintWords Go.Proofs.YtdadleamaalhiaaW.PrintLast Go.Proofs.Ytdadleamaalhiaa.GA Go.Proofs.Ytdadleamaalhiaa.Pu Go.Proofs.Ytdadleamaalhiaa.PuArena

theorem ArenaOne : ∀ (l0 : List Int) (a1 : Int) (a2 : Int) (a3 : Int), l0.length ≤ maxLen → l0.length * 8 ≤ 140737488351232 → (∀ x ∈ l0, (Lit.int .u64 x).wf = true) → (Lit.int .u64 a1).wf = true → (Lit.int .u64 a2).wf = true → (Lit.int .u64 a3).wf = true → ∃ k, besomlaw02_ArenaOne.f k l0 a1 a2 a3 = some true := by
  intro l0 a1 a2 a3 _ hs hw h1 h2 h3
  have hl : l0.length < 17592186044416 := by omega
  have b1 := wf_u64 h1
  have b2 := wf_u64 h2
  have b3 := wf_u64 h3
  have hw' : ∀ x ∈ l0, 0 ≤ x ∧ x ≤ 18446744073709551615 := fun x hx => wf_u64 (hw x hx)
  refine Ev.rounds (g := fun k => besomlaw02_ArenaOne.f k l0 a1 a2 a3) ?_
  unfold besomlaw02_ArenaOne.f
  refine Ev.bind words_ev ?_
  simp only [if_true]
  refine Ev.bind (store_ev l0 hl a1 a2 b1.1) ?_
  by_cases h : (storeS l0 a1 a2).2 = 0
  · obtain ⟨e1, e2, e3, e4⟩ := storeS_len l0 a1 a2 h
    have e3' := e3
    unfold okAt at e3
    simp only [h, if_true]
    rw [e4]
    have hw2 : ∀ x ∈ l0.set a1.toNat a2, 0 ≤ x ∧ x ≤ 18446744073709551615 := fun x hx => by
      rcases List.mem_or_eq_of_mem_set hx with h | h
      · exact hw' x h
      · subst h; exact b2
    refine Ev.bind (load_ev _ (by simpa using hl) hw2 a1 b1.1) (Ev.bind (load_ev l0 hl hw' a3 b3.1) (Ev.bind (load_ev _ (by simpa using hl) hw2 a3 b3.1) ?_))
    have g1 : loadS (l0.set a1.toNat a2) a1 = (a2, 0) := by
      unfold loadS
      rw [if_neg (by rw [List.length_set]; omega), if_pos (okI (by rw [List.length_set]; omega) (by rw [List.length_set]; omega))]
      simp [rd, List.getD_eq_getElem?_getD, show a1.toNat < l0.length by omega]
    have g2 : a3 ≠ a1 → loadS (l0.set a1.toNat a2) a3 = loadS l0 a3 := by
      intro hne
      unfold loadS
      have hok : okAt (l0.set a1.toNat a2) 1 a3 ↔ okAt l0 1 a3 := by unfold okAt; rw [List.length_set]
      rw [List.length_set]
      simp only [hok]
      have : rd (l0.set a1.toNat a2) a3 = rd l0 a3 := by
        simp only [rd, List.getD_eq_getElem?_getD]
        rw [List.getElem?_set_ne (by omega)]
      rw [this]
    rw [g1]
    simp only [if_true]
    by_cases e : a3 = a1
    · subst e
      rw [g1]
      have g3 : (loadS l0 a3).2 = 0 := by
        unfold loadS; rw [if_neg (by omega), if_pos e3']
      simp only [g3, if_true, List.length_set, beq_self_eq_true]
      exact Ev.now _
    · rw [g2 e]
      simp only [if_true, e, if_false, List.length_set, beq_self_eq_true]
      exact Ev.now _
  · simp only [h, if_false]
    exact Ev.now _

end Go.Proofs.Ytdadleamaalhiaa.Pure
