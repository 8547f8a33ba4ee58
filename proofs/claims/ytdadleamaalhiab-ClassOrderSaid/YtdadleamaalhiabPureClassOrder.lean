/- More words never have a smaller class, nor fewer pages. -/
import Derived.Test.YtdadleamaalhiabGCx5
import Derived.Test.YtdadleamaalhiabPuClassI
namespace Go.Proofs.Ytdadleamaalhiab.Pure
open Go.RowKit Go.Proofs.YtdadleamaalhiabW.PrintWords Go.Proofs.YtdadleamaalhiabW.PrintLast Go.Proofs.Ytdadleamaalhiab.GC Go.Proofs.Ytdadleamaalhiab.Pu Go.Proofs.Ytdadleamaalhiab.PuClassI

theorem pages_same (a : Int) : (pagesS a).2 = (ofS a).2 := by
  by_cases h : a < 1 ∨ 49 < a
  · rw [ofS_err h]; unfold pagesS; rcases h with h | h <;> repeat' (first | rfl | split | omega)
  · rw [ofS_ok (by omega) (by omega)]; unfold pagesS; rw [if_neg (by omega), if_neg (by omega)]
theorem order_small : ∀ n m : Fin 50, n.1 ≠ 0 → n.1 ≤ m.1 → (pagesS n.1).1 ≤ (pagesS m.1).1 ∧ ((ofS n.1).1 = -1 → (ofS m.1).1 = -1) ∧ ((ofS n.1).1 ≠ -1 → (ofS n.1).1 ≥ 0 ∧ ((ofS m.1).1 ≠ -1 → (ofS n.1).1 ≤ (ofS m.1).1)) := by decide +kernel
theorem ok_small (a : Int) (h : (ofS a).2 = 0) : 1 ≤ a ∧ a ≤ 49 := by
  constructor
  · unfold ofS at h; repeat' (first | omega | (split at h; simp at h))
  · apply Classical.byContradiction; intro hh
    rw [ofS_err (.inr (by omega))] at h; simp at h
theorem ClassOrder : ∀ (a0 : Int) (a1 : Int), (Lit.int .i64 a0).wf = true → (Lit.int .i64 a1).wf = true → ∃ k, besomlaw04_ClassOrder.f k a0 a1 = some true := by
  intro a b _ _
  refine Ev.rounds (g := fun k => besomlaw04_ClassOrder.f k a b) ?_
  unfold besomlaw04_ClassOrder.f
  refine Ev.bind lives_ev ?_
  simp only [if_true]
  refine Ev.bind (of_ev a) (Ev.bind (of_ev b) (Ev.bind (pages_ev a) (Ev.bind (pages_ev b) ?_)))
  refine ev_const ?_
  rw [pages_same, pages_same]
  by_cases h : a > b
  · simp [h]
  rw [if_neg h]
  by_cases h0 : (ofS a).2 = 0
  · by_cases h1 : (ofS b).2 = 0
    · have b0 := ok_small a h0
      have b1 := ok_small b h1
      have := order_small ⟨a.toNat, by omega⟩ ⟨b.toNat, by omega⟩ (by show a.toNat ≠ 0; omega) (by show a.toNat ≤ b.toNat; omega)
      simp only [show ((a.toNat : Nat) : Int) = a by omega, show ((b.toNat : Nat) : Int) = b by omega] at this
      obtain ⟨p0, p1, p2⟩ := this
      simp only [h0, h1, p0, if_true]
      by_cases q : (ofS a).1 = -1
      · simp only [q, p1 q, if_true]
      · simp only [q, (p2 q).1, if_true, if_false]
        by_cases q1 : (ofS b).1 = -1
        · simp only [q1, if_true]
        · simp only [q1, if_false, (p2 q).2 q1, decide_true]
    · simp [h0, h1]
  · simp [h0]

end Go.Proofs.Ytdadleamaalhiab.Pure
