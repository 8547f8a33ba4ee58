/- A list of bits is the same as itself. -/
import Derived.Test.YthphncefbahcaaaDoorGOx5
import Derived.Test.YthphncefbahcaaaDoorPu
namespace Go.Proofs.YthphncefbahcaaaDoor.PuBitsSameO
open Go.RowKit Go.Proofs.YthphncefbahcaaaDoorW.PrintWords Go.Proofs.YthphncefbahcaaaDoorW.PrintLast Go.Proofs.YthphncefbahcaaaDoorW.PrintMore Go.Proofs.YthphncefbahcaaaDoor.GO Go.Proofs.YthphncefbahcaaaDoor.Pu

theorem same_l (n m : Int) (l : List Int) (h : l.length < 17592186044416) : ∀ (d : Nat) (i : Int), 0 ≤ i → (l.length : Int) - i = d → Ev (fun k => besomref01_Same.l0 k (l.length : Int) i n l m l) true := by
  intro d
  induction d with
  | zero =>
    intro i h0 hd
    refine ev_of (K := 1) fun k hk => ?_
    obtain ⟨k, rfl⟩ : ∃ m, k = m + 1 := ⟨k - 1, by omega⟩
    simp only [besomref01_Same.l0]; rw [if_neg (by omega)]
  | succ d ih =>
    intro i h0 hd
    refine ev_succ (f := fun k => besomref01_Same.l0 k (l.length : Int) (i + 1) n l m l) (fun k => ?_) (ih (i + 1) (by omega) (by omega))
    simp only [besomref01_Same.l0]
    rw [if_pos (by omega), if_pos h0, if_pos (by omega), if_pos (by omega), if_pos trivial, w64 (by omega) (by omega)]
theorem same_ev (n : Int) (l : List Int) (h : l.length < 17592186044416) : Ev (fun k => besomref01_Same.f k n l n l) true := by
  unfold besomref01_Same.f
  simp only [if_true]
  exact ev_succ (f := fun k => besomref01_Same.l0 k (l.length : Int) 0 n l n l) (fun k => by simp [besomref01_Same.j0]) (same_l n n l h l.length 0 (by omega) (by omega))

end Go.Proofs.YthphncefbahcaaaDoor.PuBitsSameO
