/- The first place from one on that is so is so, and none before it is. -/
import Derived.Test.YtdadleamaalhiacDoorGBx16
import Derived.Test.YtdadleamaalhiacDoorPuBitsFirst
import Derived.Test.YtdadleamaalhiacDoorPuBitsBoth
namespace Go.Proofs.YtdadleamaalhiacDoor.Pure
open Go.RowKit Go.Proofs.YtdadleamaalhiacDoorW.PrintWords Go.Proofs.YtdadleamaalhiacDoorW.PrintLast Go.Proofs.YtdadleamaalhiacDoor.GB Go.Proofs.YtdadleamaalhiacDoor.Pu Go.Proofs.YtdadleamaalhiacDoor.PuBitW Go.Proofs.YtdadleamaalhiacDoor.PuBits Go.Proofs.YtdadleamaalhiacDoor.PuBitsFirst Go.Proofs.YtdadleamaalhiacDoor.PuBitsBoth

theorem BitsFirst : ∀ (n0 : Int) (l0 : List Int) (a1 : Int) (a2 : Bool) (a3 : Int), (Lit.int .i64 n0).wf = true → l0.length ≤ maxLen → l0.length * 8 ≤ 140737488351232 → (∀ x ∈ l0, (Lit.int .u64 x).wf = true) → (Lit.int .i64 a1).wf = true → (Lit.int .i64 a3).wf = true → ∃ k, besomlaw01_BitsFirst.f k n0 l0 a1 a2 a3 = some true := by
  intro n l fr v x _ _ hs hw _ _
  have hl : l.length < 17592186044416 := by omega
  have hW := words_of hw
  refine Ev.rounds (g := fun k => besomlaw01_BitsFirst.f k n l fr v x) ?_
  unfold besomlaw01_BitsFirst.f
  refine Ev.bind puts_ev ?_
  simp only [if_true]
  refine Ev.bind asks_ev ?_
  refine ev_succ (f := fun k => _) (fun k => by rw [besomlaw01_BitsFirst.j0, if_neg (by decide)]) ?_
  have hg := fun i => get_ev (n := n) hW hl i
  rcases First_ev (n := n) hW hl fr v with ⟨hf, hE⟩ | ⟨hf, ⟨hr, hE⟩ | ⟨hr, R, hR, hE⟩⟩
  · refine Ev.bind hE (Ev.bind (hg x) ?_)
    exact ev_const (by simp)
  · refine Ev.bind hE (Ev.bind (hg x) ?_)
    exact ev_const (by simp)
  · refine Ev.bind hE (Ev.bind (hg x) ?_)
    have hx : (getS n l x).2 = 0 → 0 ≤ x ∧ x < n ∧ (getS n l x).1 = bitAt l x.toNat := by
      unfold getS; rw [if_pos hf]
      by_cases c0 : x < 0
      · rw [if_pos c0]; intro h; cases h
      by_cases c1 : x ≥ n
      · rw [if_neg c0, if_pos c1]; intro h; cases h
      rw [if_neg c0, if_neg c1]; intro _; exact ⟨by omega, by omega, rfl⟩
    have g1 := hR.ge
    have g2 := hR.le
    by_cases e : R = n
    · simp only [e, if_true, show ¬ ((3 : Int) = 0) by decide, if_false]
      by_cases c : (getS n l x).2 = 0
      · obtain ⟨x0, x1, x2⟩ := hx c
        simp only [c, if_true]
        by_cases c3 : x < fr
        · simp only [c3, if_true]; exact ev_const rfl
        · simp only [c3, if_false, x2]
          have := hR.no x (by omega) (by omega)
          exact ev_const (by simpa using this)
      · simp only [c, if_false]; exact ev_const rfl
    · simp only [e, if_false, if_true]
      have gr := hg R
      rw [show getS n l R = (v, 0) by unfold getS; rw [if_pos hf, if_neg (by omega), if_neg (by omega), hR.so (by omega)]] at gr
      refine Ev.bind gr ?_
      simp only [if_true, beq_self_eq_true, show R ≥ fr by omega]
      by_cases c : (getS n l x).2 = 0
      · obtain ⟨x0, x1, x2⟩ := hx c
        simp only [c, if_true]
        by_cases c3 : x < fr
        · simp only [c3, if_true]; exact ev_const rfl
        · simp only [c3, if_false, x2]
          by_cases c4 : bitAt l x.toNat = v
          · have : x ≥ R := by
              apply Classical.byContradiction; intro hh
              exact hR.no x (by omega) (by omega) c4
            rw [if_neg (by simp [c4])]; exact ev_const (by simp [this])
          · rw [if_pos (by simp [c4])]; exact ev_const rfl
      · simp only [c, if_false]; exact ev_const rfl

end Go.Proofs.YtdadleamaalhiacDoor.Pure
