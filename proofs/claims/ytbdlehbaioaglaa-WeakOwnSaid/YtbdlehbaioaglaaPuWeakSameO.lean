/- A table is the same as itself. -/
import Derived.Test.YtbdlehbaioaglaaGOx3
import Derived.Test.YtbdlehbaioaglaaPu
namespace Go.Proofs.Ytbdlehbaioaglaa.PuWeakSameO
open Go.RowKit Go.Proofs.YtbdlehbaioaglaaW.PrintWords Go.Proofs.YtbdlehbaioaglaaW.PrintLast Go.Proofs.YtbdlehbaioaglaaW.PrintMore Go.Proofs.Ytbdlehbaioaglaa.GO Go.Proofs.Ytbdlehbaioaglaa.Pu

theorem same_l (l : List Int) (hl : l.length < 17592186044416) : ∀ (d : Nat) (i : Int), 0 ≤ i → (l.length : Int) - i = d → Ev (fun k => besomref09_Same.l0 k l l (l.length : Int) i) true := by
  intro d
  induction d with
  | zero =>
    intro i h0 hd
    refine ev_of (K := 1) fun k hk => ?_
    obtain ⟨k, rfl⟩ : ∃ m, k = m + 1 := ⟨k - 1, by omega⟩
    simp only [besomref09_Same.l0]; rw [if_neg (by omega)]
  | succ d ih =>
    intro i h0 hd
    refine ev_succ (f := fun k => besomref09_Same.l0 k l l (l.length : Int) (i + 1)) (fun k => ?_) (ih (i + 1) (by omega) (by omega))
    simp only [besomref09_Same.l0]
    rw [if_pos (by omega), if_pos h0, if_pos (by omega), if_pos (by omega), if_pos trivial, w64 (by omega) (by omega)]
theorem same_ev (l : List Int) (hl : l.length < 17592186044416) : Ev (fun k => besomref09_Same.f k l l) true := by
  unfold besomref09_Same.f
  simp only [if_true]
  exact same_l l hl l.length 0 (by omega) (by omega)

end Go.Proofs.Ytbdlehbaioaglaa.PuWeakSameO
