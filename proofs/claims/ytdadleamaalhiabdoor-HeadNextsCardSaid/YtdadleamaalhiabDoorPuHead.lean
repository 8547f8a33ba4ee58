/- What the functions of package head, and the reference's, come to. -/
import Derived.Test.YtdadleamaalhiabDoorGHx5
import Derived.Test.YtdadleamaalhiabDoorGHx3
import Derived.Test.YtdadleamaalhiabDoorGHx4
import Derived.Test.YtdadleamaalhiabDoorGHx5
import Derived.Test.YtdadleamaalhiabDoorGHx3
import Derived.Test.YtdadleamaalhiabDoorGHx7
import Derived.Test.YtdadleamaalhiabDoorGHx7
import Derived.Test.YtdadleamaalhiabDoorGHx8
import Derived.Test.YtdadleamaalhiabDoorPuBitW
namespace Go.Proofs.YtdadleamaalhiabDoor.PuHead
open Go.RowKit Go.Proofs.YtdadleamaalhiabDoorW.PrintWords Go.Proofs.YtdadleamaalhiabDoorW.PrintLast Go.Proofs.YtdadleamaalhiabDoorW.PrintMore Go.Proofs.YtdadleamaalhiabDoor.GH Go.Proofs.YtdadleamaalhiabDoor.Pu Go.Proofs.YtdadleamaalhiabDoor.PuBitW

theorem len_le : ∀ (f x n : Nat), x < 2 ^ f → (Lib.bitLenAux f x ≤ n ↔ x < 2 ^ n)
  | 0, x, n, h => by
    have := Nat.two_pow_pos n
    simp only [Lib.bitLenAux]; constructor <;> intro _ <;> simp at h <;> omega
  | f + 1, x, n, h => by
    unfold Lib.bitLenAux
    by_cases h0 : x = 0
    · subst h0; have := Nat.two_pow_pos n; simp [this]
    rw [if_neg h0]
    cases n with
    | zero => simp only [Nat.pow_zero]; omega
    | succ n =>
      have := len_le f (x / 2) n (by rw [Nat.pow_succ] at h; omega)
      rw [Nat.pow_succ]; omega

/-- A shape as it should be. -/
def HFit (n : Int) (M : Nat) : Prop := 0 ≤ n ∧ n ≤ 48 ∧ M < 2 ^ n.toNat
instance (n : Int) (M : Nat) : Decidable (HFit n M) := by unfold HFit; infer_instance
def hchk (n : Int) (M : Nat) : Int := if HFit n M then 0 else 2
theorem HFit.lt48 {n : Int} {M : Nat} (h : HFit n M) : M < 281474976710656 := by
  have : 2 ^ n.toNat ≤ 2 ^ 48 := Nat.pow_le_pow_right (by decide) (by have := h.2.1; omega)
  have := h.2.2; omega
theorem hcheck_eq (n : Int) (M : Nat) (hM : M < 18446744073709551616) : head_Check.f n (M : Int) = some (hchk n M) := by
  unfold head_Check.f hchk
  by_cases h0 : n < 0
  · rw [if_pos h0, if_neg (fun h => by have := h.1; omega)]
  by_cases h1 : n > 48
  · rw [if_neg h0, if_pos h1, if_neg (fun h => by have := h.2.1; omega)]
  rw [if_neg h0, if_neg h1]
  unfold bits_Len64.f
  rw [if_pos (by omega), if_pos (by omega)]
  simp only [Option.bind_some, Int.toNat_natCast]
  have := len_le 64 M n.toNat (by omega)
  unfold Lib.bitLen
  by_cases h2 : M < 2 ^ n.toNat
  · rw [if_neg (by have := this.2 h2; omega), if_pos ⟨by omega, by omega, h2⟩]
  · rw [if_pos (by have : ¬ Lib.bitLenAux 64 M ≤ n.toNat := fun h => h2 (this.1 h); omega), if_neg (fun h => h2 h.2.2)]
theorem ris_eq (n : Int) (M : Nat) (i : Int) (h0 : 0 ≤ i) (h1 : i < 64) : besomref06_Is.f n (M : Int) i = some (M.testBit i.toNat) := by
  obtain ⟨j, rfl⟩ : ∃ j : Nat, i = (j : Int) := ⟨i.toNat, by omega⟩
  unfold besomref06_Is.f
  rw [wu64' (a := (j : Int)) (by omega) (by omega), if_pos (by omega), is_mod _ _ (by omega), Int.toNat_natCast]
theorem his_eq (n : Int) (M : Nat) (hM : M < 18446744073709551616) (i : Int) (h0 : 0 ≤ i) (h1 : i < 64) : head_Is.f n (M : Int) i = some (M.testBit i.toNat) := by
  obtain ⟨j, rfl⟩ : ∃ j : Nat, i = (j : Int) := ⟨i.toNat, by omega⟩
  unfold head_Is.f
  rw [if_pos (by omega), is_and _ _ hM (by omega), Int.toNat_natCast]
theorem rhcheck_l (n : Int) (M : Nat) : ∀ (d : Nat) (i : Int), 0 ≤ i → 64 - i = d → Ev (fun k => besomref06_Check.l0 k i n (M : Int)) (if ∀ j : Nat, j < d → M.testBit (i.toNat + j) = false then 0 else 2) := by
  intro d
  induction d with
  | zero =>
    intro i h0 hd
    rw [if_pos (fun j hj => by omega)]
    refine ev_of (K := 1) fun k hk => ?_
    obtain ⟨k, rfl⟩ : ∃ m, k = m + 1 := ⟨k - 1, by omega⟩
    simp only [besomref06_Check.l0]; rw [if_neg (by omega)]
  | succ d ih =>
    intro i h0 hd
    have is := ris_eq n M i h0 (by omega)
    by_cases hb : M.testBit i.toNat = true
    · rw [if_neg (fun h => by have := h 0 (by omega); rw [Nat.add_zero, hb] at this; cases this)]
      refine ev_of (K := 1) fun k hk => ?_
      obtain ⟨k, rfl⟩ : ∃ m, k = m + 1 := ⟨k - 1, by omega⟩
      simp only [besomref06_Check.l0]; rw [if_pos (by omega), is]; simp only [Option.bind_some]; rw [if_pos hb]
    · have := ih (i + 1) (by omega) (by omega)
      have e : (∀ j : Nat, j < d + 1 → M.testBit (i.toNat + j) = false) ↔ (∀ j : Nat, j < d → M.testBit ((i + 1).toNat + j) = false) := by
        constructor
        · intro h j hj; rw [show (i + 1).toNat + j = i.toNat + (j + 1) by omega]; exact h _ (by omega)
        · intro h j hj
          cases j with
          | zero => rw [Nat.add_zero]; simpa using hb
          | succ j => rw [show i.toNat + (j + 1) = (i + 1).toNat + j by omega]; exact h _ (by omega)
      simp only [e]
      refine ev_succ (f := fun k => besomref06_Check.l0 k (i + 1) n (M : Int)) (fun k => ?_) this
      simp only [besomref06_Check.l0]; rw [if_pos (by omega), is]; simp only [Option.bind_some]; rw [if_neg hb, w64 (by omega) (by omega)]
theorem rhcheck_ev (n : Int) (M : Nat) (hM : M < 18446744073709551616) : Ev (fun k => besomref06_Check.f k n (M : Int)) (hchk n M) := by
  unfold besomref06_Check.f hchk
  have bad : Ev (fun k => besomref06_Check.j0 k true n (M : Int)) 2 := ev_succ (f := fun _ => some 2) (fun k => by simp [besomref06_Check.j0]) (ev_const rfl)
  by_cases h0 : n < 0
  · simp only [h0, if_true]; rw [if_neg (fun h => by have := h.1; omega)]; exact bad
  simp only [h0, if_false]
  by_cases h1 : n > 48
  · simp only [h1, decide_true]; rw [if_neg (fun h => by have := h.2.1; omega)]; exact bad
  simp only [h1, decide_false]
  refine ev_succ (f := fun k => besomref06_Check.l0 k n n (M : Int)) (fun k => by simp [besomref06_Check.j0]) ?_
  have := rhcheck_l n M (64 - n).toNat n (by omega) (by omega)
  have e : (∀ j : Nat, j < (64 - n).toNat → M.testBit (n.toNat + j) = false) ↔ HFit n M := by
    constructor
    · intro h
      refine ⟨by omega, by omega, Nat.lt_pow_two_of_testBit _ fun i hi => ?_⟩
      by_cases h6 : i < 64
      · rw [show i = n.toNat + (i - n.toNat) by omega]; exact h _ (by omega)
      · exact high _ _ hM (by omega)
    · intro h j hj
      exact Nat.testBit_lt_two_pow (Nat.lt_of_lt_of_le h.2.2 (Nat.pow_le_pow_right (by decide) (by omega)))
  simp only [e] at this
  exact this

def packS (n : Int) (M : Nat) : Int × Int := if HFit n M then (11889503016258109440 + (M : Int) * 256 + n, 0) else (0, 2)
theorem pack_eq (n : Int) (M : Nat) (hM : M < 18446744073709551616) : head_Pack.f n (M : Int) = some (packS n M) := by
  unfold head_Pack.f packS
  rw [hcheck_eq n M hM]; simp only [Option.bind_some]; unfold hchk
  by_cases h : HFit n M
  · simp only [h, if_true]
    have hl := h.lt48
    obtain ⟨h0, h1, _⟩ := h
    obtain ⟨N, rfl⟩ : ∃ N : Nat, n = (N : Int) := ⟨n.toNat, by omega⟩
    have e1 : IntKind.u64.wrap ((M : Int) * 256) = ((M * 256 : Nat) : Int) := by rw [wu64' (by omega) (by omega)]; omega
    rw [e1, wu64' (a := (N : Int)) (by omega) (by omega), show (11889503016258109440 : Int) = ((11889503016258109440 : Nat) : Int) by omega, bits_or_u64_nat _ _ (by omega) (by omega)]
    have o1 : (11889503016258109440 : Nat) ||| M * 256 = 11889503016258109440 + M * 256 := by
      have := Nat.shiftLeft_add_eq_or_of_lt (i := 56) (b := M * 256) (by omega) 165
      rw [Nat.shiftLeft_eq, show (165 : Nat) * 2 ^ 56 = 11889503016258109440 by omega] at this
      exact this.symm
    rw [o1, bits_or_u64_nat _ _ (by omega) (by omega)]
    have o2 : (11889503016258109440 + M * 256) ||| N = 11889503016258109440 + M * 256 + N := by
      have := Nat.shiftLeft_add_eq_or_of_lt (i := 8) (b := N) (by omega) (46443371157258240 + M)
      rw [Nat.shiftLeft_eq, show (2 : Nat) ^ 8 = 256 by decide] at this
      rw [show 11889503016258109440 + M * 256 = (46443371157258240 + M) * 256 by omega]
      exact this.symm
    rw [o2]; simp
  · simp [h]
theorem rpack_ev (n : Int) (M : Nat) (hM : M < 18446744073709551616) : Ev (fun k => besomref06_Pack.f k n (M : Int)) (packS n M) := by
  unfold besomref06_Pack.f
  refine Ev.bind (rhcheck_ev n M hM) ?_
  unfold packS hchk
  by_cases h : HFit n M
  · simp only [h, if_true]
    have hl := h.lt48
    obtain ⟨h0, h1, _⟩ := h
    rw [wu64' (a := (M : Int) * 256) (by omega) (by omega), wu64' (a := 11889503016258109440 + (M : Int) * 256) (by omega) (by omega), wu64' (a := n) (by omega) (by omega), wu64' (by omega) (by omega)]
    exact ev_const rfl
  · simp only [h, if_false, show ¬ ((2 : Int) = 0) by decide]; exact ev_const rfl

def unpackS (a : Nat) : Int × Int × Int := if a / 72057594037927936 = 165 ∧ HFit ((a % 256 : Nat) : Int) (a % 72057594037927936 / 256) then (((a % 256 : Nat) : Int), ((a % 72057594037927936 / 256 : Nat) : Int), 0) else (0, 0, 2)
theorem unpack_eq (a : Nat) (ha : a < 18446744073709551616) : head_Unpack.f (a : Int) = some (unpackS a) := by
  unfold head_Unpack.f unpackS
  by_cases h0 : a / 72057594037927936 = 165
  · rw [if_pos (by omega)]
    have e1 : bits .and .u64 (a : Int) 255 = ((a % 256 : Nat) : Int) := by
      rw [show (255 : Int) = ((255 : Nat) : Int) from rfl, bits_and_u64_nat _ _ ha (by decide)]
      have := Nat.and_two_pow_sub_one_eq_mod a 8
      simp only [show (2 : Nat) ^ 8 = 256 by decide] at this
      rw [this]
    have e2 : (IntKind.u64.wrap ((a : Int) * 256)) / 65536 = ((a % 72057594037927936 / 256 : Nat) : Int) := by rw [wu64]; omega
    rw [e1, e2, w64 (by omega) (by omega), hcheck_eq _ _ (by omega)]
    simp only [Option.bind_some]; unfold hchk
    by_cases h1 : HFit ((a % 256 : Nat) : Int) (a % 72057594037927936 / 256)
    · simp only [h1, h0, if_true, and_self]
    · simp only [h1, if_false, and_false, show ¬ ((2 : Int) = 0) by decide]
  · rw [if_neg (by omega), if_neg (fun h => h0 h.1)]
theorem runpack_ev (a : Nat) (ha : a < 18446744073709551616) : Ev (fun k => besomref06_Unpack.f k (a : Int)) (unpackS a) := by
  unfold besomref06_Unpack.f
  have e1 : Int.tmod (a : Int) 256 = ((a % 256 : Nat) : Int) := rfl
  have e2 : IntKind.u64.wrap (Int.tdiv (a : Int) 256) = ((a / 256 : Nat) : Int) := by rw [show Int.tdiv (a : Int) 256 = ((a / 256 : Nat) : Int) from rfl, wu64' (by omega) (by omega)]
  have e3 : Int.tmod ((a / 256 : Nat) : Int) 281474976710656 = ((a % 72057594037927936 / 256 : Nat) : Int) := by rw [Int.tmod_eq_emod_of_nonneg (by omega)]; omega
  rw [e1, e2, e3, w64 (by omega) (by omega)]
  refine Ev.bind (rpack_ev _ _ (by omega)) ?_
  unfold packS unpackS
  by_cases h1 : HFit ((a % 256 : Nat) : Int) (a % 72057594037927936 / 256)
  · simp only [h1, if_true, and_true]
    by_cases h0 : a / 72057594037927936 = 165
    · rw [if_pos h0]
      simp only [show (11889503016258109440 : Int) + ((a % 72057594037927936 / 256 : Nat) : Int) * 256 + ((a % 256 : Nat) : Int) = (a : Int) by omega, if_true]
      exact ev_const rfl
    · rw [if_neg h0]
      simp only [show ¬ ((11889503016258109440 : Int) + ((a % 72057594037927936 / 256 : Nat) : Int) * 256 + ((a % 256 : Nat) : Int) = (a : Int)) by omega, if_false]
      exact ev_const rfl
  · simp only [h1, if_false, and_false, show ¬ ((2 : Int) = 0) by decide]
    exact ev_const rfl

/-- How many of the places are so, or that one is not there. -/
def cntS (n : Int) (M : Nat) : Int → List Int → Int × Int
  | x, [] => (x, 0)
  | x, a :: l => if a < 0 ∨ a ≥ n then (0, 9) else if M.testBit a.toNat = true then cntS n M (wrap64 (x + 1)) l else cntS n M x l
def refsS (n : Int) (M : Nat) (l : List Int) : Int × Int := if HFit n M then cntS n M 0 l else (0, 2)
def refS (n : Int) (M : Nat) (a : Int) : Bool × Int := if HFit n M then (if a < 0 ∨ a ≥ n then (false, 9) else (M.testBit a.toNat, 0)) else (false, 2)
theorem refs_l (n : Int) (M : Nat) (hM : M < 18446744073709551616) (hn : n ≤ 48) (l : List Int) (hl : l.length ≤ 140737488351232) : ∀ (d : Nat) (i x : Int), 0 ≤ i → (l.length : Int) - i = d → Ev (fun k => head_Refs.l0 k x l (l.length : Int) i n (M : Int)) (cntS n M x (l.drop i.toNat)) := by
  intro d
  induction d with
  | zero =>
    intro i x h0 hd
    refine ev_of (K := 1) fun k hk => ?_
    obtain ⟨k, rfl⟩ : ∃ m, k = m + 1 := ⟨k - 1, by omega⟩
    simp only [head_Refs.l0]; rw [if_neg (by omega), drop_end (by omega)]; rfl
  | succ d ih =>
    intro i x h0 hd
    have hlt : i < (l.length : Int) := by omega
    have nx := fun y => ih (i + 1) y (by omega) (by omega)
    rw [drop_rd h0 hlt]
    unfold cntS
    have bad : Ev (fun k => head_Refs.j1 k x (rd l i) l (l.length : Int) i true n (M : Int)) (0, 9) := ev_succ (f := fun _ => some (0, 9)) (fun k => by simp [head_Refs.j1]) (ev_const rfl)
    refine ev_succ (f := fun k => _) (fun k => by simp only [head_Refs.l0]; rw [if_pos hlt, if_pos h0, if_pos hlt]) ?_
    generalize rd l i = a at bad
    by_cases c0 : a < 0
    · simp only [c0, if_true, true_or]; exact bad
    by_cases c1 : a ≥ n
    · simp only [c0, c1, if_true, if_false, or_true, decide_true]; exact bad
    simp only [c0, c1, if_false, or_self, decide_false]
    refine ev_succ (f := fun k => _) (fun k => by rw [head_Refs.j1, if_neg (by decide), his_eq n M hM a (by omega) (by omega), w64 (a := i + 1) (by omega) (by omega)]) ?_
    by_cases hb : M.testBit a.toNat = true
    · simp only [hb, if_true]; exact nx _
    · simp only [hb]; exact nx _
theorem refs_ev (n : Int) (M : Nat) (hM : M < 18446744073709551616) (l : List Int) (hl : l.length ≤ 140737488351232) : Ev (fun k => head_Refs.f k n (M : Int) l) (refsS n M l) := by
  unfold head_Refs.f refsS
  rw [hcheck_eq n M hM]; simp only [Option.bind_some]; unfold hchk
  by_cases h : HFit n M
  · simp only [h, if_true]
    exact refs_l n M hM h.2.1 l hl l.length 0 0 (by omega) (by omega)
  · simp only [h, if_false, show ¬ ((2 : Int) = 0) by decide]; exact ev_const rfl
theorem ref_ev (n : Int) (M : Nat) (hM : M < 18446744073709551616) (a : Int) : Ev (fun k => head_Ref.f k n (M : Int) a) (refS n M a) := by
  refine Ev.bind (refs_ev n M hM [a] (by simp)) (ev_const ?_)
  unfold refsS refS
  by_cases h : HFit n M
  · simp only [h, if_true, cntS]
    by_cases c : a < 0 ∨ a ≥ n
    · simp [c]
    · by_cases hb : M.testBit a.toNat = true
      · simp only [c, hb, if_true, if_false]; rw [w64 (by omega) (by omega)]; rfl
      · simp only [c, hb, if_false]; simp
  · simp [h]
theorem rref_ev (n : Int) (M : Nat) (hM : M < 18446744073709551616) (a : Int) : Ev (fun k => besomref06_Ref.f k n (M : Int) a) (refS n M a) := by
  unfold besomref06_Ref.f
  refine Ev.bind (rhcheck_ev n M hM) ?_
  unfold hchk refS
  by_cases h : HFit n M
  · simp only [h, if_true]
    by_cases c0 : a < 0
    · simp only [c0, if_true, true_or]; exact ev_const rfl
    by_cases c1 : a ≥ n
    · simp only [c0, c1, if_true, if_false, or_true]; exact ev_const rfl
    simp only [c0, c1, if_false, or_self]
    have := h.2.1
    rw [ris_eq n M a (by omega) (by omega)]; exact ev_const rfl
  · simp only [h, if_false, show ¬ ((2 : Int) = 0) by decide]; exact ev_const rfl
theorem rrefs_l (n : Int) (M : Nat) (hM : M < 18446744073709551616) (h : HFit n M) (l : List Int) (hl : l.length ≤ 140737488351232) : ∀ (d : Nat) (i x : Int), 0 ≤ i → (l.length : Int) - i = d → Ev (fun k => besomref06_Refs.l0 k x l (l.length : Int) i n (M : Int)) (cntS n M x (l.drop i.toNat)) := by
  intro d
  induction d with
  | zero =>
    intro i x h0 hd
    refine ev_of (K := 1) fun k hk => ?_
    obtain ⟨k, rfl⟩ : ∃ m, k = m + 1 := ⟨k - 1, by omega⟩
    simp only [besomref06_Refs.l0]; rw [if_neg (by omega), drop_end (by omega)]; rfl
  | succ d ih =>
    intro i x h0 hd
    have hlt : i < (l.length : Int) := by omega
    have nx := fun y => ih (i + 1) y (by omega) (by omega)
    rw [drop_rd h0 hlt]
    unfold cntS
    refine ev_succ (f := fun k => _) (fun k => by simp only [besomref06_Refs.l0]; rw [if_pos hlt, if_pos h0, if_pos hlt, w64 (a := i + 1) (by omega) (by omega)]) ?_
    generalize rd l i = a
    refine Ev.bind (rref_ev n M hM a) ?_
    unfold refS
    simp only [h, if_true]
    by_cases c : a < 0 ∨ a ≥ n
    · simp only [c, if_true, show ¬ ((9 : Int) = 0) by decide, if_false]; exact ev_const rfl
    · simp only [c, if_false, if_true]
      by_cases hb : M.testBit a.toNat = true
      · simp only [hb, if_true]; exact nx _
      · simp only [hb]; exact nx _
theorem rrefs_ev (n : Int) (M : Nat) (hM : M < 18446744073709551616) (l : List Int) (hl : l.length ≤ 140737488351232) : Ev (fun k => besomref06_Refs.f k n (M : Int) l) (refsS n M l) := by
  unfold besomref06_Refs.f
  refine Ev.bind (rhcheck_ev n M hM) ?_
  unfold refsS hchk
  by_cases h : HFit n M
  · simp only [h, if_true]
    exact rrefs_l n M hM h l hl l.length 0 0 (by omega) (by omega)
  · simp only [h, if_false, show ¬ ((2 : Int) = 0) by decide]; exact ev_const rfl

/-- The first of d places from i on that is so. -/
def firstS (M : Nat) : Nat → Nat → Int × Int
  | 0, _ => (0, 3)
  | d + 1, i => if M.testBit i = true then ((i : Int), 0) else firstS M d (i + 1)
theorem firstS_cases (M : Nat) : ∀ (d i : Nat), (firstS M d i = (0, 3) ∧ ∀ j, i ≤ j → j < i + d → M.testBit j = false) ∨ (∃ j : Nat, firstS M d i = ((j : Int), 0) ∧ i ≤ j ∧ j < i + d ∧ M.testBit j = true ∧ ∀ x, i ≤ x → x < j → M.testBit x = false)
  | 0, i => .inl ⟨rfl, fun j h0 h1 => by omega⟩
  | d + 1, i => by
    unfold firstS
    by_cases hb : M.testBit i = true
    · rw [if_pos hb]; exact .inr ⟨i, rfl, by omega, by omega, hb, fun x h0 h1 => by omega⟩
    · rw [if_neg hb]
      have hb' : M.testBit i = false := by simpa using hb
      rcases firstS_cases M d (i + 1) with ⟨h, ha⟩ | ⟨j, h, h0, h1, h2, h3⟩
      · exact .inl ⟨h, fun j hj hj2 => by by_cases e : j = i; · rw [e]; exact hb'
                                          · exact ha j (by omega) (by omega)⟩
      · exact .inr ⟨j, h, by omega, by omega, h2, fun x hx hx2 => by by_cases e : x = i; · rw [e]; exact hb'
                                                                     · exact h3 x (by omega) hx2⟩
def nextS (n : Int) (M : Nat) (a : Int) : Int × Int := if HFit n M then (if a < 0 ∨ a > n then (0, 1) else firstS M (n - a).toNat a.toNat) else (0, 2)
theorem rnext_l (n : Int) (M : Nat) (hn : n ≤ 48) : ∀ (d : Nat) (i : Int), 0 ≤ i → n - i = d → Ev (fun k => besomref06_Next.l0 k i n (M : Int)) (firstS M d i.toNat) := by
  intro d
  induction d with
  | zero =>
    intro i h0 hd
    refine ev_of (K := 1) fun k hk => ?_
    obtain ⟨k, rfl⟩ : ∃ m, k = m + 1 := ⟨k - 1, by omega⟩
    simp only [besomref06_Next.l0]; rw [if_neg (by omega)]; rfl
  | succ d ih =>
    intro i h0 hd
    unfold firstS
    by_cases hb : M.testBit i.toNat = true
    · refine ev_of (K := 1) fun k hk => ?_
      obtain ⟨k, rfl⟩ : ∃ m, k = m + 1 := ⟨k - 1, by omega⟩
      simp only [besomref06_Next.l0]; rw [if_pos (by omega), ris_eq n M i h0 (by omega)]; simp only [Option.bind_some]; rw [if_pos hb, if_pos hb, show ((i.toNat : Nat) : Int) = i by omega]
    · rw [if_neg hb, show i.toNat + 1 = (i + 1).toNat by omega]
      refine ev_succ (f := fun k => besomref06_Next.l0 k (i + 1) n (M : Int)) (fun k => ?_) (ih (i + 1) (by omega) (by omega))
      simp only [besomref06_Next.l0]; rw [if_pos (by omega), ris_eq n M i h0 (by omega)]; simp only [Option.bind_some]; rw [if_neg hb, w64 (by omega) (by omega)]
theorem rnext_ev (n : Int) (M : Nat) (hM : M < 18446744073709551616) (a : Int) : Ev (fun k => besomref06_Next.f k n (M : Int) a) (nextS n M a) := by
  unfold besomref06_Next.f
  refine Ev.bind (rhcheck_ev n M hM) ?_
  unfold nextS hchk
  have bad : Ev (fun k => besomref06_Next.j0 k a true n (M : Int)) (0, 1) := ev_succ (f := fun _ => some (0, 1)) (fun k => by simp [besomref06_Next.j0]) (ev_const rfl)
  by_cases h : HFit n M
  · simp only [h, if_true]
    by_cases c0 : a < 0
    · simp only [c0, if_true, true_or]; exact bad
    by_cases c1 : a > n
    · simp only [c0, c1, if_true, if_false, or_true, decide_true]; exact bad
    simp only [c0, c1, if_false, or_self, decide_false]
    refine ev_succ (f := fun k => besomref06_Next.l0 k a n (M : Int)) (fun k => by simp [besomref06_Next.j0]) ?_
    exact rnext_l n M h.2.1 (n - a).toNat a (by omega) (by omega)
  · simp only [h, if_false, show ¬ ((2 : Int) = 0) by decide]; exact ev_const rfl
/-- The bits from a on. -/
theorem shl_nat (X a : Nat) (h : X <<< a < 18446744073709551616) (ha : a ≤ 64) : shl .u64 (X : Int) (a : Int) = ((X <<< a : Nat) : Int) := by
  unfold shl
  rw [Int.toNat_natCast, Nat.min_eq_left (by simpa [IntKind.bits] using ha)]
  rw [Nat.shiftLeft_eq] at h ⊢
  have := wrapn (X * 2 ^ a) h
  simpa using this
theorem from_bit (M a j : Nat) : ((M >>> a) <<< a).testBit j = (decide (a ≤ j) && M.testBit j) := by
  rw [Nat.testBit_shiftLeft, Nat.testBit_shiftRight]
  by_cases h : a ≤ j
  · simp [h, show a + (j - a) = j by omega]
  · simp [h]
theorem from_le (M a : Nat) : (M >>> a) <<< a ≤ M := by
  rw [Nat.shiftLeft_eq, Nat.shiftRight_eq_div_pow]; exact Nat.div_mul_le_self M _
theorem ctz_bits (w : Nat) (h0 : w ≠ 0) (hw : w < 18446744073709551616) : w.testBit (Lib.ctz 64 w) = true ∧ ∀ j, j < Lib.ctz 64 w → w.testBit j = false := by
  unfold Lib.ctz
  rw [if_neg h0]
  obtain ⟨m, hm, _⟩ := Lib.ctzFrom_spec 64 w (by omega) (by omega)
  generalize Lib.ctzFrom 64 w = c at hm
  subst hm
  constructor
  · rw [Nat.testBit_two_pow_mul]; simp [Nat.testBit_zero]
  · intro j hj
    rw [Nat.testBit_two_pow_mul]; simp; omega
theorem next_eq (n : Int) (M : Nat) (hM : M < 18446744073709551616) (a : Int) : Ev (fun k => head_Next.f k n (M : Int) a) (nextS n M a) := by
  unfold head_Next.f nextS
  rw [hcheck_eq n M hM]; simp only [Option.bind_some]; unfold hchk
  have bad : Ev (fun k => head_Next.j0 k a true n (M : Int)) (0, 1) := ev_succ (f := fun _ => some (0, 1)) (fun k => by simp [head_Next.j0]) (ev_const rfl)
  by_cases h : HFit n M
  · simp only [h, if_true]
    by_cases c0 : a < 0
    · simp only [c0, if_true, true_or]; exact bad
    by_cases c1 : a > n
    · simp only [c0, c1, if_true, if_false, or_true, decide_true]; exact bad
    simp only [c0, c1, if_false, or_self, decide_false]
    obtain ⟨hn0, hn1, hn2⟩ := h
    obtain ⟨A, rfl⟩ : ∃ A : Nat, a = (A : Int) := ⟨a.toNat, by omega⟩
    have hle := from_le M A
    have eW : shl .u64 (shr .u64 (M : Int) (A : Int)) (A : Int) = (((M >>> A) <<< A : Nat) : Int) := by rw [shr_nat _ _ (by omega), shl_nat _ _ (by omega) (by omega)]
    refine ev_succ (f := fun k => _) (fun k => by rw [head_Next.j0, if_neg (by decide), if_pos (by omega), eW]) ?_
    refine ev_const ?_
    have hbit := fun j => from_bit M A j
    generalize hw : (M >>> A) <<< A = w at hle hbit
    have hiM : ∀ j, n.toNat ≤ j → M.testBit j = false := fun j hj => Nat.testBit_lt_two_pow (Nat.lt_of_lt_of_le hn2 (Nat.pow_le_pow_right (by decide) hj))
    rw [Int.toNat_natCast]
    rcases firstS_cases M (n - (A : Int)).toNat A with ⟨e, hz⟩ | ⟨j, e, j0, j1, j2, j3⟩
    · have w0 : w = 0 := by
        apply Nat.eq_of_testBit_eq
        intro j
        rw [hbit, Nat.zero_testBit]
        by_cases hj : A ≤ j
        · by_cases hj2 : j < n.toNat
          · rw [hz j hj (by omega)]; simp
          · rw [hiM j (by omega)]; simp
        · simp [hj]
      rw [w0, e]; rfl
    · have wj : w.testBit j = true := by rw [hbit, j2]; simp [j0]
      have w0 : w ≠ 0 := by intro hh; rw [hh, Nat.zero_testBit] at wj; cases wj
      rw [if_neg (by omega), e]
      unfold bits_TrailingZeros64.f
      rw [if_pos (by omega), if_pos (by omega), Int.toNat_natCast]
      obtain ⟨t0, t1⟩ := ctz_bits w w0 (by omega)
      generalize Lib.ctz 64 w = c at t0 t1
      have ec : c = j := by
        rcases Nat.lt_trichotomy c j with hh | hh | hh
        · rw [hbit] at t0
          simp only [Bool.and_eq_true, decide_eq_true_eq] at t0
          rw [j3 c t0.1 hh] at t0; exact absurd t0.2 (by decide)
        · exact hh
        · rw [t1 j hh] at wj; cases wj
      subst ec; rfl
  · simp only [h, if_false, show ¬ ((2 : Int) = 0) by decide]; exact ev_const rfl
theorem lives_ev : Ev (fun k => besomlaw06_lives.f k) true := ev_of (K := 60) fun _ hk => at_rounds (g := fun k => besomlaw06_lives.f k) besomlaw06_lives.mono hk besomlaw06_lives.run_
theorem nat_u64 {m : Int} (h : (Lit.int .u64 m).wf = true) : ∃ M : Nat, m = (M : Int) ∧ M < 18446744073709551616 := by
  have := wf_u64 h
  exact ⟨m.toNat, by omega, by omega⟩

end Go.Proofs.YtdadleamaalhiabDoor.PuHead
