/- Words that are cleared are 0, others as they were; cleared twice is as once. -/
import Derived.Test.YtdadleamaalhiaaGAx17
import Derived.Test.YtdadleamaalhiaaPuArena
namespace Go.Proofs.Ytdadleamaalhiaa.Pure
open Go.RowKit Go.Proofs.YtdadleamaalhiaaW.PrintWords Go.Proofs.YtdadleamaalhiaaW.PrintLast Go.Proofs.Ytdadleamaalhiaa.GA Go.Proofs.Ytdadleamaalhiaa.Pu Go.Proofs.Ytdadleamaalhiaa.PuArena

theorem rd_replicate (n : Nat) (j : Int) : rd (List.replicate n 0) j = 0 := by
  simp only [rd, List.getD_eq_getElem?_getD, List.getElem?_replicate]; split <;> rfl
theorem load_sum1 (l : List Int) (hw : ∀ x ∈ l, 0 ≤ x ∧ x ≤ 18446744073709551615) (i : Int) (hi : 0 ≤ i) : sumS l [i] = loadS l i := by
  unfold sumS loadS
  rw [there1]
  by_cases h1 : (l.length : Int) > 16384
  · rw [if_pos h1, if_pos h1]
  · rw [if_neg h1, if_neg h1]
    by_cases h2 : okAt l 1 i
    · simp only [h2, if_true]
      unfold okAt at h2
      have := hw _ (rd_mem (l := l) (i := i) hi (by omega))
      simp only [addS]
      rw [Int.zero_add, wu64' this.1 this.2]
    · simp only [h2, if_false, show ¬ ((1 : Int) = 0) by decide]
theorem ArenaClears : ∀ (l0 : List Int) (a1 : Int) (a2 : Int) (a3 : Int), l0.length ≤ maxLen → l0.length * 8 ≤ 140737488351232 → (∀ x ∈ l0, (Lit.int .u64 x).wf = true) → (Lit.int .u64 a1).wf = true → (Lit.int .u64 a2).wf = true → (Lit.int .u64 a3).wf = true → ∃ k, besomlaw02_ArenaClears.f k l0 a1 a2 a3 = some true := by
  intro l0 a1 a2 a3 _ hs hw h1 h2 h3
  have hl : l0.length < 17592186044416 := by omega
  have b1 := wf_u64 h1
  have b2 := wf_u64 h2
  have b3 := wf_u64 h3
  have hw' : ∀ x ∈ l0, 0 ≤ x ∧ x ≤ 18446744073709551615 := fun x hx => wf_u64 (hw x hx)
  refine Ev.rounds (g := fun k => besomlaw02_ArenaClears.f k l0 a1 a2 a3) ?_
  unfold besomlaw02_ArenaClears.f
  refine Ev.bind words_ev ?_
  simp only [if_true]
  refine Ev.bind moves_ev ?_
  simp only [Bool.not_true]
  refine ev_succ (fun k => by simp only [besomlaw02_ArenaClears.j0, Bool.false_eq_true, if_false]; rfl) ?_
  refine Ev.bind (clear_ev l0 hl a1 a2 b1.1 b2.1) ?_
  by_cases h : (clearS l0 a1 a2).2 = 0
  · obtain ⟨e1, e2, e3⟩ := clearS_ok l0 a1 a2 h
    simp only [h, if_true]
    rw [e3]
    unfold okAt at e2
    have hw2 : ∀ x ∈ setsL l0 a1.toNat (List.replicate a2.toNat 0), 0 ≤ x ∧ x ≤ 18446744073709551615 := fun x hx => by
      rcases mem_setsL _ _ _ hx with h | h
      · exact hw' x h
      · have := List.eq_of_mem_replicate h; omega
    have hl2 : (setsL l0 a1.toNat (List.replicate a2.toNat 0)).length < 17592186044416 := by rw [setsL_length]; exact hl
    refine Ev.bind (load_ev l0 hl hw' a3 b3.1) (Ev.bind (load_ev _ hl2 hw2 a3 b3.1) ?_)
    have g : loadS (setsL l0 a1.toNat (List.replicate a2.toNat 0)) a3 = (if (a1 ≤ a3 ∧ a3 < a1 + a2) then (0, (loadS l0 a3).2) else loadS l0 a3) := by
      unfold loadS
      have hok : okAt (setsL l0 a1.toNat (List.replicate a2.toNat 0)) 1 a3 ↔ okAt l0 1 a3 := by unfold okAt; rw [setsL_length]
      rw [setsL_length, if_neg (by omega)]
      simp only [hok]
      by_cases c : okAt l0 1 a3
      · rw [if_pos c, if_pos c]
        unfold okAt at c
        rw [rd_setsL _ _ _ _ b3.1 (by simp only [List.length_replicate]; omega), List.length_replicate]
        by_cases d : a1 ≤ a3 ∧ a3 < a1 + a2
        · rw [if_pos (by omega), if_pos d, rd_replicate, if_neg (by omega)]
        · rw [if_neg (by omega), if_neg d, if_neg (by omega)]
      · rw [if_neg c, if_neg c, if_neg (fun hh => c (okI (by omega) (by omega))), if_neg (by omega)]
    have hsum := sum_ev _ hl2 [a3] (by simp) (by simpa using b3.1)
    rw [load_sum1 _ hw2 a3 b3.1] at hsum
    by_cases c1 : a3 ≥ a1
    · simp only [c1, if_true]
      refine Ev.bind hsum ?_
      rw [wu64' (a := a3 - a1) (by omega) (by omega)]
      by_cases c2 : a3 - a1 < a2
      · rw [if_pos (by omega)] at g
        rw [g]
        simp only [c2, if_true, setsL_length, beq_self_eq_true]
        exact Ev.now _
      · rw [if_neg (by omega)] at g
        rw [g]
        simp only [c2, if_false, if_true, setsL_length, beq_self_eq_true]
        exact Ev.now _
    · simp only [c1, if_false]
      refine Ev.bind hsum ?_
      rw [if_neg (by omega)] at g
      rw [g]
      simp only [if_true, setsL_length, beq_self_eq_true]
      exact Ev.now _
  · simp only [h, if_false]
    exact Ev.now _

end Go.Proofs.Ytdadleamaalhiaa.Pure
