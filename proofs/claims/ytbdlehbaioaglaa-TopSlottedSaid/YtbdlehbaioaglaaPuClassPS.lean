/- What class.Of and class.Pages come to. (Drawn from PuClassI.) -/
import Derived.Test.YtbdlehbaioaglaaGSx3
import Derived.Test.YtbdlehbaioaglaaPu
namespace Go.Proofs.Ytbdlehbaioaglaa.PuClassPS
open Go.RowKit Go.Proofs.YtbdlehbaioaglaaW.PrintWords Go.Proofs.YtbdlehbaioaglaaW.PrintLast Go.Proofs.YtbdlehbaioaglaaW.PrintMore Go.Proofs.Ytbdlehbaioaglaa.GS Go.Proofs.Ytbdlehbaioaglaa.Pu

def ofS (a : Int) : Int × Int := if a < 1 then (0, 1) else if a > 49 then (0, 1) else if a ≤ 2 then (0, 0) else if a ≤ 4 then (1, 0) else if a ≤ 8 then (2, 0) else if a ≤ 16 then (3, 0) else (-1, 0)
def pagesS (a : Int) : Int × Int := if a < 1 then (0, 1) else if a > 49 then (0, 1) else ((a + 15) / 16, 0)
theorem small (P : Int → Prop) (h : ∀ n : Fin 50, P (n.1 : Int)) (a : Int) (h0 : 1 ≤ a) (h1 : a ≤ 49) : P a := by
  have := h ⟨a.toNat, by omega⟩
  rwa [show ((a.toNat : Nat) : Int) = a by omega] at this

theorem of_small : ∀ n : Fin 50, class_Of.f 6 (n.1 : Int) = some (ofS n.1) := by decide +kernel
theorem of_ev (a : Int) : Ev (fun k => class_Of.f k a) (ofS a) := by
  by_cases h0 : a < 1
  · refine ev_of (K := 1) fun k hk => ?_
    obtain ⟨k, rfl⟩ : ∃ m, k = m + 1 := ⟨k - 1, by omega⟩
    simp [class_Of.f, class_Of.j0, ofS, h0]
  by_cases h1 : a > 49
  · refine ev_of (K := 1) fun k hk => ?_
    obtain ⟨k, rfl⟩ : ∃ m, k = m + 1 := ⟨k - 1, by omega⟩
    simp [class_Of.f, class_Of.j0, ofS, h0, h1]
  · exact Ev.of (class_Of.mono a) (small (fun a => class_Of.f 6 a = some (ofS a)) of_small a (by omega) (by omega))
theorem pages_small : ∀ n : Fin 50, class_Pages.f 6 (n.1 : Int) = some (pagesS n.1) := by decide +kernel
theorem ofS_err {a : Int} (h : a < 1 ∨ 49 < a) : ofS a = (0, 1) := by unfold ofS; rcases h with h | h <;> repeat' (first | rfl | split | omega)
theorem ofS_ok {a : Int} (h0 : 1 ≤ a) (h1 : a ≤ 49) : (ofS a).2 = 0 := by unfold ofS; repeat' (first | rfl | split | omega)
theorem pages_ev (a : Int) : Ev (fun k => class_Pages.f k a) (pagesS a) := by
  by_cases h : a < 1 ∨ 49 < a
  · have e : pagesS a = (0, 1) := by unfold pagesS; rcases h with h | h <;> repeat' (first | rfl | split | omega)
    rw [e]
    refine Ev.bind (g := fun k => class_Of.f k a) (of_ev a) ?_
    rw [ofS_err h]; exact ev_const rfl
  · exact Ev.of (class_Pages.mono a) (small (fun a => class_Pages.f 6 a = some (pagesS a)) pages_small a (by omega) (by omega))

end Go.Proofs.Ytbdlehbaioaglaa.PuClassPS
