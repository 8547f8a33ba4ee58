/- What is so of two lists is so of both, whichever is named first. -/
import Derived.Test.YtdadleamaalhiacDoorGBx18
import Derived.Test.YtdadleamaalhiacDoorGBx11
import Derived.Test.YtdadleamaalhiacDoorPuBitsBoth
import Derived.Test.YtdadleamaalhiacDoorPuBitsSame
namespace Go.Proofs.YtdadleamaalhiacDoor.Pure
open Go.RowKit Go.Proofs.YtdadleamaalhiacDoorW.PrintWords Go.Proofs.YtdadleamaalhiacDoorW.PrintLast Go.Proofs.YtdadleamaalhiacDoor.GB Go.Proofs.YtdadleamaalhiacDoor.Pu Go.Proofs.YtdadleamaalhiacDoor.PuBitW Go.Proofs.YtdadleamaalhiacDoor.PuBits Go.Proofs.YtdadleamaalhiacDoor.PuBitsBoth Go.Proofs.YtdadleamaalhiacDoor.PuBitsSame

theorem BitsCommon : ∀ (n0 : Int) (l0 : List Int) (n1 : Int) (l1 : List Int) (a2 : Int), (Lit.int .i64 n0).wf = true → l0.length ≤ maxLen → l0.length * 8 ≤ 140737488351232 → (∀ x ∈ l0, (Lit.int .u64 x).wf = true) → (Lit.int .i64 n1).wf = true → l1.length ≤ maxLen → l1.length * 8 ≤ 140737488351232 → (∀ x ∈ l1, (Lit.int .u64 x).wf = true) → (Lit.int .i64 a2).wf = true → ∃ k, besomlaw01_BitsCommon.f k n0 l0 n1 l1 a2 = some true := by
  intro n l q m x _ _ hs hw _ _ hs2 hw2 _
  have hl : l.length < 17592186044416 := by omega
  have hm : m.length < 17592186044416 := by omega
  have hW := words_of hw
  have hV := words_of hw2
  refine Ev.rounds (g := fun k => besomlaw01_BitsCommon.f k n l q m x) ?_
  unfold besomlaw01_BitsCommon.f
  refine Ev.bind puts_ev ?_
  simp only [if_true]
  refine Ev.bind asks_ev ?_
  refine ev_succ (f := fun k => _) (fun k => by rw [besomlaw01_BitsCommon.j0, if_neg (by decide)]) ?_
  have b0 := both_ev (n := n) (q := q) hW hl hV hm
  have b1 := both_ev (n := q) (q := n) hV hm hW hl
  have b2 := both_ev (n := n) (q := n) hW hl hW hl
  refine Ev.bind b0 ?_
  by_cases c : BFit n l ∧ BFit q m ∧ n = q
  · obtain ⟨c0, c1, c2⟩ := c
    subst c2
    have he : l.length = m.length := by have := c0.2.2.1; have := c1.2.2.1; omega
    have e0 : bothS n l n m = (n, andF m m.length 0 l, 0) := if_pos ⟨c0, c1, rfl⟩
    have e1 : bothS n m n l = (n, andF m m.length 0 l, 0) := by rw [both_comm hW hV he]; exact if_pos ⟨c1, c0, rfl⟩
    have e2 : bothS n l n l = (n, l, 0) := by
      have : bothS n l n l = (n, andF l l.length 0 l, 0) := if_pos ⟨c0, c0, rfl⟩
      rw [this, both_self hW]
    rw [e0]; rw [e1] at b1; rw [e2] at b2
    have hA := both_words hW hV he
    have hAl : (andF m m.length 0 l).length < 17592186044416 := by rw [andF_len]; exact hl
    have fA := both_fit hW hV c0 c1
    have gb : 0 ≤ x → x < n → bitAt (andF m m.length 0 l) x.toNat = (bitAt l x.toNat && bitAt m x.toNat) := fun x0 x1 => both_bit hW hV he _ (by have := c0.2.2.1; omega)
    generalize andF m m.length 0 l = A at *
    simp only [if_true]
    refine Ev.bind b1 (Ev.bind b2 (Ev.bind (get_ev hA hAl x) (Ev.bind (get_ev hW hl x) (Ev.bind (get_ev hV hm x) ?_))))
    simp only [if_true]
    refine Ev.bind (same_ev n A hAl) ?_
    simp only [if_true]
    refine Ev.bind (same_ev n l hl) ?_
    simp only [if_true]
    refine ev_const ?_
    unfold getS
    rw [if_pos fA, if_pos c0, if_pos c1]
    by_cases x0 : x < 0
    · simp [x0]
    by_cases x1 : x ≥ n
    · simp [x0, x1]
    rw [if_neg x0, if_neg x1, if_neg x0, if_neg x1, if_neg x0, if_neg x1]
    simp only [if_true, gb (by omega) (by omega)]
    cases bitAt l x.toNat <;> cases bitAt m x.toNat <;> rfl
  · have e0 : bothS n l q m = (0, [], 2) := if_neg c
    rw [e0]
    exact ev_const rfl

end Go.Proofs.YtdadleamaalhiacDoor.Pure
