/- What first of package bits comes to: the first place from one on that is so. -/
import Derived.Test.YthphncefbahcaaaDoorGTx1
import Derived.Test.YthphncefbahcaaaDoorGTx2
import Derived.Test.YthphncefbahcaaaDoorPuBitsT
namespace Go.Proofs.YthphncefbahcaaaDoor.PuBitsFirstT
open Go.RowKit Go.Proofs.YthphncefbahcaaaDoorW.PrintWords Go.Proofs.YthphncefbahcaaaDoorW.PrintLast Go.Proofs.YthphncefbahcaaaDoorW.PrintMore Go.Proofs.YthphncefbahcaaaDoor.GT Go.Proofs.YthphncefbahcaaaDoor.Pu Go.Proofs.YthphncefbahcaaaDoor.PuBitW Go.Proofs.YthphncefbahcaaaDoor.PuBitsT

theorem ctz_bits (w : Nat) (h0 : w ≠ 0) (hw : w < 18446744073709551616) : w.testBit (Lib.ctz 64 w) = true ∧ (∀ j, j < Lib.ctz 64 w → w.testBit j = false) ∧ Lib.ctz 64 w < 64 := by
  unfold Lib.ctz
  rw [if_neg h0]
  obtain ⟨m, hm, hc⟩ := Lib.ctzFrom_spec 64 w (by omega) (by omega)
  generalize Lib.ctzFrom 64 w = c at hm hc
  subst hm
  refine ⟨?_, fun j hj => ?_, hc⟩
  · rw [Nat.testBit_two_pow_mul]; simp [Nat.testBit_zero]
  · rw [Nat.testBit_two_pow_mul]; simp; omega
/-- The word as it is, or turned over. -/
def turned (v : Bool) (a : Nat) : Nat := if v = true then a else 18446744073709551615 ^^^ a
theorem ones_bit (j : Nat) : (18446744073709551615 : Nat).testBit j = decide (j < 64) := by
  have := Nat.testBit_two_pow_sub_one (n := 64) (i := j)
  simpa using this
theorem turned_lt (v : Bool) (a : Nat) (ha : a < 18446744073709551616) : turned v a < 18446744073709551616 := by
  unfold turned; split
  · exact ha
  · have := Nat.xor_lt_two_pow (x := 18446744073709551615) (y := a) (n := 64) (by omega) (by omega); omega
theorem turned_bit (v : Bool) (a j : Nat) (hj : j < 64) : (turned v a).testBit j = true ↔ a.testBit j = v := by
  unfold turned
  cases v
  · simp only [Bool.false_eq_true, if_false]; rw [Nat.testBit_xor, ones_bit]; simp [hj]
  · simp
/-- The bits from r on. -/
def fromR (r : Nat) : Nat := (18446744073709551615 * 2 ^ r) % 18446744073709551616
theorem fromR_bit (r j : Nat) (hj : j < 64) : (fromR r).testBit j = decide (r ≤ j) := by
  unfold fromR
  have := Nat.testBit_mod_two_pow (18446744073709551615 * 2 ^ r) 64 j
  rw [two64] at this
  rw [this, Nat.mul_comm, Nat.testBit_two_pow_mul, ones_bit]
  by_cases h : r ≤ j <;> simp [h, hj]; omega
theorem fromR_eq (r : Nat) (hr : r < 64) : shl .u64 18446744073709551615 (r : Int) = ((fromR r : Nat) : Int) := by
  unfold shl fromR
  rw [Int.toNat_natCast, Nat.min_eq_left (by simp [IntKind.bits]; omega), wu64]
  simp

/-- R is the first place from fr on that is v; n: none is. -/
structure IsFirst (n : Int) (l : List Int) (v : Bool) (fr R : Int) : Prop where
  ge : fr ≤ R
  le : R ≤ n
  so : R < n → bitAt l R.toNat = v
  no : ∀ i : Int, fr ≤ i → i < R → bitAt l i.toNat ≠ v
theorem IsFirst.eq {n : Int} {l : List Int} {v : Bool} {fr R Q : Int} (h : IsFirst n l v fr R) (g : IsFirst n l v fr Q) : R = Q := by
  have := h.le; have := g.le
  rcases Int.lt_trichotomy R Q with c | c | c
  · exact absurd (h.so (by omega)) (g.no R h.ge c)
  · exact c
  · exact absurd (g.so (by omega)) (h.no Q g.ge c)
theorem mn_eq (x y : Int) : mn x y = if y < x then y else x := by unfold mn; rfl

theorem first_l {n : Int} {l : List Int} (hw : Words l) (hf : BFit n l) (v : Bool) (fr : Int) (h0 : 0 ≤ fr) (hn : fr ≤ n) : ∀ (d : Nat) (q : Int), fr / 64 ≤ q → (l.length : Int) - q = d ∨ d = 0 ∧ (l.length : Int) ≤ q → (∀ i : Int, fr ≤ i → i < 64 * q → i < n → bitAt l i.toNat ≠ v) → ∃ R, IsFirst n l v fr R ∧ Ev (fun k => bits_list_first.l0 k fr v q n l) (R, n) := by
  obtain ⟨g0, g1, g2, _⟩ := hf
  intro d
  induction d with
  | zero =>
    intro q hq hd hno
    refine ⟨n, ⟨by omega, by omega, fun h => by omega, fun i i0 i1 => hno i i0 (by omega) i1⟩, ev_of (K := 1) fun k hk => ?_⟩
    obtain ⟨k, rfl⟩ : ∃ m, k = m + 1 := ⟨k - 1, by omega⟩
    simp only [bits_list_first.l0]; rw [if_neg (by omega)]
  | succ d ih =>
    intro q hq hd hno
    have hlt : q < (l.length : Int) := by omega
    obtain ⟨Q, rfl⟩ : ∃ Q : Nat, q = (Q : Int) := ⟨q.toNat, by omega⟩
    obtain ⟨e3, hL⟩ := hw.rd_nat Q
    obtain ⟨a, ha⟩ : ∃ a, a = (l.getD Q 0).toNat := ⟨_, rfl⟩
    rw [← ha] at e3 hL
    have hbit : ∀ j : Nat, j < 64 → bitAt l (64 * Q + j) = a.testBit j := by
      intro j hj; unfold bitAt; rw [show (64 * Q + j) / 64 = Q by omega, show (64 * Q + j) % 64 = j by omega, ha]
    have hT := turned_lt v a hL
    -- the word that is looked at, masked or not
    have key : ∀ w : Nat, w < 18446744073709551616 → (∀ j, j < 64 → (w.testBit j = true ↔ (bitAt l (64 * Q + j) = v ∧ fr ≤ ((64 * Q + j : Nat) : Int)))) → ∃ R, IsFirst n l v fr R ∧ Ev (fun k => if (w : Int) = 0 then bits_list_first.l0 k fr v (wrap64 ((Q : Int) + 1)) n l else (bits_TrailingZeros64.f (w : Int)).bind fun t => some (mn n (wrap64 (wrap64 ((Q : Int) * 64) + t)), n)) (R, n) := by
      intro w hw64 hb
      by_cases w0 : w = 0
      · have nx := ih ((Q : Int) + 1) (by omega) (by omega) (fun i i0 i1 i2 => by
          by_cases c : i < 64 * (Q : Int)
          · exact hno i i0 c i2
          · have := (hb (i.toNat - 64 * Q) (by omega))
            rw [w0, Nat.zero_testBit, show 64 * Q + (i.toNat - 64 * Q) = i.toNat by omega] at this
            intro hh
            have := this.2 ⟨hh, by omega⟩
            cases this)
        obtain ⟨R, hR, hE⟩ := nx
        refine ⟨R, hR, ?_⟩
        subst w0
        rw [w64 (a := (Q : Int) + 1) (by omega) (by omega)]
        simpa using hE
      · obtain ⟨t0, t1, t2⟩ := ctz_bits w w0 hw64
        have hz : bits_TrailingZeros64.f (w : Int) = some ((Lib.ctz 64 w : Nat) : Int) := by
          unfold bits_TrailingZeros64.f; rw [if_pos (by omega), if_pos (by omega), Int.toNat_natCast]
        generalize Lib.ctz 64 w = c at t0 t1 t2 hz
        have hc := (hb c t2).1 t0
        have hbefore : ∀ i : Int, fr ≤ i → i < 64 * (Q : Int) + c → i < n → bitAt l i.toNat ≠ v := by
          intro i i0 i1 i2
          by_cases cc : i < 64 * (Q : Int)
          · exact hno i i0 cc i2
          · intro hh
            have := (hb (i.toNat - 64 * Q) (by omega)).2 ⟨by rw [show 64 * Q + (i.toNat - 64 * Q) = i.toNat by omega]; exact hh, by omega⟩
            rw [t1 _ (by omega)] at this; cases this
        have e1 : wrap64 (wrap64 ((Q : Int) * 64) + (c : Int)) = 64 * (Q : Int) + c := by rw [w64 (a := (Q : Int) * 64) (by omega) (by omega), w64 (by omega) (by omega)]; omega
        have hw0 : ¬ (w : Int) = 0 := by omega
        refine ⟨mn n (64 * (Q : Int) + c), ?_, ?_⟩
        · clear e1 hz
          rw [mn_eq]
          by_cases cn : 64 * (Q : Int) + c < n
          · rw [if_pos cn]
            exact ⟨by omega, by omega, fun _ => by rw [show (64 * (Q : Int) + c).toNat = 64 * Q + c by omega]; exact hc.1, fun i i0 i1 => hbefore i i0 i1 (by omega)⟩
          · rw [if_neg cn]
            exact ⟨by omega, by omega, fun h => by omega, fun i i0 i1 => hbefore i i0 (by omega) i1⟩
        · simp only [hw0, if_false, hz, Option.bind_some, e1]; exact ev_const rfl
    -- the round
    have hj : ∃ R, IsFirst n l v fr R ∧ Ev (fun k => bits_list_first.j1 k fr v (Q : Int) ((turned v a : Nat) : Int) n l) (R, n) := by
      have ed : wrap64 (Int.tdiv fr 64) = fr / 64 := by rw [Int.tdiv_eq_ediv_of_nonneg h0, w64 (by omega) (by omega)]
      have em : Int.tmod fr 64 = ((fr.toNat % 64 : Nat) : Int) := by rw [Int.tmod_eq_emod_of_nonneg h0]; omega
      by_cases c : (Q : Int) = fr / 64
      · have hm : turned v a &&& fromR (fr.toNat % 64) < 18446744073709551616 := Nat.lt_of_le_of_lt Nat.and_le_left hT
        obtain ⟨R, hR, hE⟩ := key (turned v a &&& fromR (fr.toNat % 64)) hm (fun j hj => by
          rw [Nat.testBit_and, fromR_bit _ _ hj, Bool.and_eq_true, turned_bit v a j hj, hbit j hj, decide_eq_true_eq]
          constructor
          · rintro ⟨x, y⟩; exact ⟨x, by omega⟩
          · rintro ⟨x, y⟩; exact ⟨x, by omega⟩)
        refine ⟨R, hR, ev_succ (f := fun k => _) (fun k => ?_) hE⟩
        have hfr : fromR (fr.toNat % 64) < 18446744073709551616 := Nat.mod_lt _ (by omega)
        rw [bits_list_first.j1, if_pos (by rw [ed]; exact c), em, if_pos (by omega), fromR_eq _ (by omega), bits_and_u64_nat _ _ hT hfr]
      · obtain ⟨R, hR, hE⟩ := key (turned v a) hT (fun j hj => by
          rw [turned_bit v a j hj, hbit j hj]
          constructor
          · intro x; exact ⟨x, by omega⟩
          · rintro ⟨x, _⟩; exact x)
        refine ⟨R, hR, ev_succ (f := fun k => _) (fun k => ?_) hE⟩
        rw [bits_list_first.j1, if_neg (by rw [ed]; exact c)]
    obtain ⟨R, hR, hE⟩ := hj
    refine ⟨R, hR, ev_succ (f := fun k => _) (fun k => ?_) hE⟩
    have ex : Go.bits .xor .u64 18446744073709551615 (a : Int) = ((turned false a : Nat) : Int) := by
      unfold turned
      rw [if_neg (by decide)]
      rw [show (18446744073709551615 : Int) = ((18446744073709551615 : Nat) : Int) from rfl]
      exact xor_nat 18446744073709551615 a (by omega) hL
    have et : turned true a = a := by unfold turned; rw [if_pos rfl]
    rw [bits_list_first.l0, if_pos hlt, if_pos (by omega), e3]
    by_cases hv : v = true
    · rw [if_pos hv, hv, et]
    · have hv2 : v = false := by simpa using hv
      rw [if_neg hv, hv2, ex]
theorem first_ev {n : Int} {l : List Int} (hw : Words l) (hf : BFit n l) (v : Bool) (fr : Int) (h0 : 0 ≤ fr) (hn : fr ≤ n) : ∃ R, IsFirst n l v fr R ∧ Ev (fun k => bits_list_first.f k n l fr v) (R, n) := by
  have g := hf
  obtain ⟨g0, g1, g2, _⟩ := g
  unfold bits_list_first.f
  rw [Int.tdiv_eq_ediv_of_nonneg h0, w64 (by omega) (by omega)]
  exact first_l hw hf v fr h0 hn ((l.length : Int) - fr / 64).toNat (fr / 64) (by omega) (by omega) (fun i i0 i1 _ => by omega)
/-- The package's First. -/
theorem First_ev {n : Int} {l : List Int} (hw : Words l) (hl : l.length < 17592186044416) (fr : Int) (v : Bool) :
    (¬ BFit n l ∧ Ev (fun k => bits_First.f k n l fr v) (0, 2)) ∨ (BFit n l ∧ ((fr < 0 ∨ fr > n) ∧ Ev (fun k => bits_First.f k n l fr v) (0, 1) ∨ (0 ≤ fr ∧ fr ≤ n) ∧ ∃ R, IsFirst n l v fr R ∧ Ev (fun k => bits_First.f k n l fr v) (if R = n then (0, 3) else (R, 0)))) := by
  have hc := check_ev (n := n) hw hl
  by_cases hf : BFit n l
  · refine .inr ⟨hf, ?_⟩
    rw [chk_good hf] at hc
    by_cases c0 : fr < 0
    · refine .inl ⟨.inl c0, Ev.bind hc ?_⟩
      simp only [if_true, c0]; exact ev_const rfl
    by_cases c1 : fr > n
    · refine .inl ⟨.inr c1, Ev.bind hc ?_⟩
      simp only [if_true, c0, c1, if_false]; exact ev_const rfl
    obtain ⟨R, hR, hE⟩ := first_ev hw hf v fr (by omega) (by omega)
    refine .inr ⟨by omega, R, hR, Ev.bind hc ?_⟩
    simp only [if_true, c0, c1, if_false]
    refine Ev.bind hE ?_
    by_cases e : R = n
    · simp only [e, if_true]; exact ev_const rfl
    · simp only [e, if_false]; exact ev_const rfl
  · rw [chk_bad hf] at hc
    refine .inl ⟨hf, Ev.bind hc ?_⟩
    simp only [show ¬ ((2 : Int) = 0) by decide, if_false]; exact ev_const rfl

end Go.Proofs.YthphncefbahcaaaDoor.PuBitsFirstT
