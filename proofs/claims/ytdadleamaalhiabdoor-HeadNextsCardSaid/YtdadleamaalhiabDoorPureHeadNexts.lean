/- Asked for the next one again and again, a head tells each reference once. -/
import Derived.Test.YtdadleamaalhiabDoorGHx10
import Derived.Test.YtdadleamaalhiabDoorPuHead
namespace Go.Proofs.YtdadleamaalhiabDoor.Pure
open Go.RowKit Go.Proofs.YtdadleamaalhiabDoorW.PrintWords Go.Proofs.YtdadleamaalhiabDoorW.PrintLast Go.Proofs.YtdadleamaalhiabDoor.GH Go.Proofs.YtdadleamaalhiabDoor.Pu Go.Proofs.YtdadleamaalhiabDoor.PuBitW Go.Proofs.YtdadleamaalhiabDoor.PuHead

/-- The places from i on. -/
def upto : Int → Nat → List Int
  | _, 0 => []
  | i, d + 1 => i :: upto (i + 1) d
theorem upto_snoc : ∀ (d : Nat) (i : Int), upto i d ++ [i + d] = upto i (d + 1)
  | 0, i => by simp [upto]
  | d + 1, i => by
    rw [upto, List.cons_append]
    have := upto_snoc d (i + 1)
    rw [show i + ((d + 1 : Nat) : Int) = i + 1 + (d : Int) by omega, this]
    rfl
theorem upto_len : ∀ (d : Nat) (i : Int), (upto i d).length = d
  | 0, _ => rfl
  | d + 1, i => by rw [upto, List.length_cons, upto_len d]
def cnt (M : Nat) : Nat → Nat → Nat
  | _, 0 => 0
  | i, d + 1 => (if M.testBit i = true then 1 else 0) + cnt M (i + 1) d
theorem cnt_le (M : Nat) : ∀ (d i : Nat), cnt M i d ≤ d
  | 0, _ => Nat.le_refl _
  | d + 1, i => by
    have := cnt_le M d (i + 1)
    unfold cnt; split <;> omega
theorem cntS_upto (n : Int) (M : Nat) : ∀ (d i : Nat) (x : Int), 0 ≤ x → x + d ≤ 1000 → (i : Int) + d ≤ n → cntS n M x (upto (i : Int) d) = (x + (cnt M i d : Nat), 0)
  | 0, i, x, _, _, _ => by simp [upto, cntS, cnt]
  | d + 1, i, x, h0, h1, h2 => by
    unfold upto cntS cnt
    rw [if_neg (by omega), Int.toNat_natCast]
    have e : (i : Int) + 1 = ((i + 1 : Nat) : Int) := by omega
    rw [e]
    by_cases hb : M.testBit i = true
    · rw [if_pos hb, if_pos hb, w64 (by omega) (by omega), cntS_upto n M d (i + 1) (x + 1) (by omega) (by omega) (by omega)]
      simp only [Prod.mk.injEq, and_true]; omega
    · rw [if_neg hb, if_neg hb, cntS_upto n M d (i + 1) x (by omega) (by omega) (by omega)]
      simp only [Prod.mk.injEq, and_true]; omega
theorem cnt_first (M : Nat) : ∀ (d i : Nat), (firstS M d i = (0, 3) ∧ cnt M i d = 0) ∨ (∃ j : Nat, firstS M d i = ((j : Int), 0) ∧ i ≤ j ∧ j < i + d ∧ M.testBit j = true ∧ cnt M i d = 1 + cnt M (j + 1) (i + d - (j + 1)))
  | 0, i => .inl ⟨rfl, rfl⟩
  | d + 1, i => by
    have ec : cnt M i (d + 1) = (if M.testBit i = true then 1 else 0) + cnt M (i + 1) d := rfl
    have ef : firstS M (d + 1) i = if M.testBit i = true then ((i : Int), 0) else firstS M d (i + 1) := rfl
    rw [ec, ef]
    by_cases hb : M.testBit i = true
    · rw [if_pos hb, if_pos hb]
      exact .inr ⟨i, rfl, by omega, by omega, hb, by rw [show i + (d + 1) - (i + 1) = d by omega]⟩
    · rw [if_neg hb, if_neg hb]
      rcases cnt_first M d (i + 1) with ⟨h, e⟩ | ⟨j, h, h0, h1, h2, e⟩
      · exact .inl ⟨h, by rw [e]⟩
      · exact .inr ⟨j, h, by omega, by omega, h2, by rw [e, show i + 1 + d - (j + 1) = i + (d + 1) - (j + 1) by omega]; omega⟩
theorem asks_l (n : Int) (M : Nat) (hM : M < 18446744073709551616) (h : HFit n M) (c : Int) (hc : c ≤ 100) : ∀ (D : Nat) (i : Nat) (x : Int), (i : Int) ≤ n → n - i ≤ D → 0 ≤ x → x + (cnt M i (n - i).toNat : Nat) = c → Ev (fun k => besomlaw06_HeadNexts.l1 k c 0 x (i : Int) n (M : Int)) true := by
  intro D
  induction D with
  | zero =>
    intro i x hi hd h0 hx
    have e : (n - (i : Int)).toNat = 0 := by omega
    rw [e] at hx
    have nx := next_eq n M hM (i : Int)
    unfold nextS at nx
    rw [if_pos h, if_neg (by omega), e] at nx
    refine ev_succ (f := fun k => _) (fun k => by rw [besomlaw06_HeadNexts.l1]) ?_
    refine Ev.bind nx ?_
    simp only [cnt] at hx
    simp only [firstS, show ¬ ((3 : Int) = 0) by decide, if_false, if_true, show x = c by omega]
    exact Ev.now _
  | succ D ih =>
    intro i x hi hd h0 hx
    have nx := next_eq n M hM (i : Int)
    unfold nextS at nx
    rw [if_pos h, if_neg (by omega), Int.toNat_natCast] at nx
    refine ev_succ (f := fun k => _) (fun k => by rw [besomlaw06_HeadNexts.l1]) ?_
    rcases cnt_first M (n - (i : Int)).toNat i with ⟨e, ec⟩ | ⟨j, e, j0, j1, j2, ec⟩
    · rw [e] at nx
      rw [ec] at hx
      refine Ev.bind nx ?_
      simp only [show ¬ ((3 : Int) = 0) by decide, if_false, if_true, show x = c by omega]
      exact Ev.now _
    · rw [e] at nx
      rw [ec] at hx
      have hn := h.2.1
      refine Ev.bind nx ?_
      simp only [if_true]
      have rf := ref_ev n M hM (j : Int)
      unfold refS at rf
      rw [if_pos h, if_neg (by omega), Int.toNat_natCast, j2] at rf
      refine Ev.bind rf ?_
      simp only [if_true, show ¬ ((j : Int) < (i : Int)) by omega, if_false]
      rw [w64 (a := x + 1) (by omega) (by omega), w64 (a := (j : Int) + 1) (by omega) (by omega), show (j : Int) + 1 = ((j + 1 : Nat) : Int) by omega]
      exact ih (j + 1) (x + 1) (by omega) (by omega) (by omega) (by rw [show (n - ((j + 1 : Nat) : Int)).toNat = i + (n - (i : Int)).toNat - (j + 1) by omega]; omega)
theorem list_l (n : Int) (M : Nat) (hM : M < 18446744073709551616) (h : HFit n M) : ∀ (d : Nat) (i : Nat), n - i = d → Ev (fun k => besomlaw06_HeadNexts.l0 k (upto 0 i) (i : Int) n (M : Int)) true := by
  have hn := h.2.1
  intro d
  induction d with
  | zero =>
    intro i hd
    refine ev_succ (f := fun k => _) (fun k => by rw [besomlaw06_HeadNexts.l0, if_neg (by omega)]) ?_
    have rf := refs_ev n M hM (upto 0 i) (by rw [upto_len]; omega)
    unfold refsS at rf
    have e0 : cntS n M 0 (upto 0 i) = (((cnt M 0 i : Nat) : Int), 0) := by
      have := cntS_upto n M i 0 0 (by omega) (by omega) (by omega)
      simpa using this
    rw [if_pos h, e0] at rf
    refine Ev.bind rf ?_
    have le := cnt_le M i 0
    exact asks_l n M hM h ((cnt M 0 i : Nat) : Int) (by omega) i 0 0 (by omega) (by omega) (by omega) (by rw [show (n - ((0 : Nat) : Int)).toNat = i by omega]; omega)
  | succ d ih =>
    intro i hd
    refine ev_succ (f := fun k => besomlaw06_HeadNexts.l0 k (upto 0 (i + 1)) ((i + 1 : Nat) : Int) n (M : Int)) (fun k => ?_) (ih (i + 1) (by omega))
    rw [besomlaw06_HeadNexts.l0, if_pos (by omega), if_pos (by rw [upto_len]; omega), w64 (by omega) (by omega), ← upto_snoc i 0, show (0 : Int) + (i : Int) = (i : Int) by omega, show (i : Int) + 1 = ((i + 1 : Nat) : Int) by omega]
theorem HeadNexts : ∀ (n0 m0 : Int), (Lit.int .i64 n0).wf = true → (Lit.int .u64 m0).wf = true → ∃ k, besomlaw06_HeadNexts.f k n0 m0 = some true := by
  intro n m _ hm
  obtain ⟨M, rfl, hM⟩ := nat_u64 hm
  refine Ev.rounds (g := fun k => besomlaw06_HeadNexts.f k n (M : Int)) ?_
  unfold besomlaw06_HeadNexts.f
  refine Ev.bind lives_ev ?_
  simp only [if_true, hcheck_eq n M hM, Option.bind_some]
  unfold hchk
  by_cases h : HFit n M
  · simp only [h, if_true]
    have := list_l n M hM h n.toNat 0 (by have := h.1; omega)
    exact this
  · simp only [h, if_false, show ¬ ((2 : Int) = 0) by decide]; exact ev_const rfl

end Go.Proofs.YtdadleamaalhiabDoor.Pure
