/- Whatever two lists are, what is so of both is told as the document says. -/
import Derived.Test.YtdadleamaalhiacDoorGBx12
import Derived.Test.YtdadleamaalhiacDoorGBx10
import Derived.Test.YtdadleamaalhiacDoorPuBitsBoth
import Derived.Test.YtdadleamaalhiacDoorPuBitsSame
import Derived.Test.YtdadleamaalhiacDoorPuBitsRef
namespace Go.Proofs.YtdadleamaalhiacDoor.Pure
open Go.RowKit Go.Proofs.YtdadleamaalhiacDoorW.PrintWords Go.Proofs.YtdadleamaalhiacDoorW.PrintLast Go.Proofs.YtdadleamaalhiacDoor.GB Go.Proofs.YtdadleamaalhiacDoor.Pu Go.Proofs.YtdadleamaalhiacDoor.PuBitW Go.Proofs.YtdadleamaalhiacDoor.PuBits Go.Proofs.YtdadleamaalhiacDoor.PuBitsBoth Go.Proofs.YtdadleamaalhiacDoor.PuBitsSame Go.Proofs.YtdadleamaalhiacDoor.PuBitsRef

theorem rboth_l (n q : Int) (m : List Int) (hm : m.length < 17592186044416) : ∀ (d : Nat) (i : Int) (o : List Int), 0 ≤ i → (m.length : Int) - i = d → o.length = m.length → Ev (fun k => besomref01_Both.l0 k (m.length : Int) i n o q m) (n, andF m d i o, 0) := by
  intro d
  induction d with
  | zero =>
    intro i o h0 hd ho
    refine ev_of (K := 1) fun k hk => ?_
    obtain ⟨k, rfl⟩ : ∃ m, k = m + 1 := ⟨k - 1, by omega⟩
    simp only [besomref01_Both.l0]; rw [if_neg (by omega)]; rfl
  | succ d ih =>
    intro i o h0 hd ho
    refine ev_succ (f := fun k => besomref01_Both.l0 k (m.length : Int) (i + 1) n (o.set i.toNat (Go.bits .and .u64 (rd o i) (rd m i))) q m) (fun k => ?_) (ih (i + 1) _ (by omega) (by omega) (by simpa using ho))
    simp only [besomref01_Both.l0]
    rw [if_pos (by omega), if_pos h0, if_pos (by omega), if_pos (by omega), w64 (by omega) (by omega)]
theorem rboth_ev {n q : Int} {l m : List Int} (hw : Words l) (hl : l.length < 17592186044416) (hv : Words m) (hm : m.length < 17592186044416) : Ev (fun k => besomref01_Both.f k n l q m) (bothS n l q m) := by
  have bad : Ev (fun k => besomref01_Both.j0 k true n l q m) (0, [], 2) := ev_succ (f := fun _ => some (0, [], 2)) (fun k => by simp [besomref01_Both.j0]) (ev_const rfl)
  have c0 := rcheck_ev (n := n) hw hl
  have c1 := rcheck_ev (n := q) hv hm
  unfold besomref01_Both.f bothS
  refine Ev.bind c0 ?_
  by_cases h0 : BFit n l
  · rw [chk_good h0]; simp only [if_true]
    refine Ev.bind c1 ?_
    by_cases h1 : BFit q m
    · rw [chk_good h1]; simp only [if_true]
      by_cases e : n = q
      · subst e
        rw [if_pos ⟨h0, h1, rfl⟩]
        simp only [bne_self_eq_false]
        have he : l.length = m.length := by have := h0.2.2.1; have := h1.2.2.1; omega
        refine ev_succ (f := fun k => besomref01_Both.l0 k (m.length : Int) 0 n l n m) (fun k => by simp [besomref01_Both.j0, rcopy_eq n l hl, he]) ?_
        exact rboth_l n n m hm m.length 0 l (by omega) (by omega) he
      · rw [if_neg (fun h => e h.2.2), show (n != q) = true from bne_iff_ne.mpr e]; exact bad
    · rw [chk_bad h1, if_neg (fun h => h1 h.2.1)]; simp only [show ¬ ((2 : Int) = 0) by decide, if_false]; exact bad
  · rw [chk_bad h0, if_neg (fun h => h0 h.1)]; simp only [show ¬ ((2 : Int) = 0) by decide, if_false]; exact bad
theorem BitsBoth : ∀ (n0 : Int) (l0 : List Int) (n1 : Int) (l1 : List Int), (Lit.int .i64 n0).wf = true → l0.length ≤ maxLen → l0.length * 8 ≤ 140737488351232 → (∀ x ∈ l0, (Lit.int .u64 x).wf = true) → (Lit.int .i64 n1).wf = true → l1.length ≤ maxLen → l1.length * 8 ≤ 140737488351232 → (∀ x ∈ l1, (Lit.int .u64 x).wf = true) → ∃ k, besomlaw01_BitsBoth.f k n0 l0 n1 l1 = some true := by
  intro n l q m _ _ hs hw _ _ hs2 hw2
  have hl : l.length < 17592186044416 := by omega
  have hm : m.length < 17592186044416 := by omega
  have hW := words_of hw
  have hV := words_of hw2
  refine Ev.rounds (g := fun k => besomlaw01_BitsBoth.f k n l q m) ?_
  unfold besomlaw01_BitsBoth.f
  refine Ev.bind (both_ev hW hl hV hm) (Ev.bind (rboth_ev hW hl hV hm) (Ev.bind asks_ev ?_))
  have hlen : (bothS n l q m).2.1.length < 17592186044416 := by
    unfold bothS; split
    · simp only [andF_len]; exact hl
    · decide
  generalize bothS n l q m = b at hlen
  simp only [if_true]
  refine Ev.bind (same_ev b.1 b.2.1 hlen) ?_
  simp only [if_true, beq_self_eq_true]
  exact Ev.now _

end Go.Proofs.YtdadleamaalhiacDoor.Pure
