/- What Both of package bits comes to. -/
import Derived.Test.YthphncefbahcaaaDoorGOx4
import Derived.Test.YthphncefbahcaaaDoorGOx5
import Derived.Test.YthphncefbahcaaaDoorGOx2
import Derived.Test.YthphncefbahcaaaDoorPuBitsO
namespace Go.Proofs.YthphncefbahcaaaDoor.PuBitsBothO
open Go.RowKit Go.Proofs.YthphncefbahcaaaDoorW.PrintWords Go.Proofs.YthphncefbahcaaaDoorW.PrintLast Go.Proofs.YthphncefbahcaaaDoorW.PrintMore Go.Proofs.YthphncefbahcaaaDoor.GO Go.Proofs.YthphncefbahcaaaDoor.Pu Go.Proofs.YthphncefbahcaaaDoor.PuBitW Go.Proofs.YthphncefbahcaaaDoor.PuBitsO

def andF (m : List Int) : Nat → Int → List Int → List Int
  | 0, _, o => o
  | d + 1, i, o => andF m d (i + 1) (o.set i.toNat (Go.bits .and .u64 (rd o i) (rd m i)))
theorem andF_len (m : List Int) : ∀ (d : Nat) (i : Int) (o : List Int), (andF m d i o).length = o.length
  | 0, _, _ => rfl
  | d + 1, i, o => by rw [andF, andF_len m d]; simp
theorem rd_set (o : List Int) (i j : Int) (x : Int) (h0 : 0 ≤ i) (h1 : i < (o.length : Int)) (hj : 0 ≤ j) : rd (o.set i.toNat x) j = if j = i then x else rd o j := by
  simp only [rd, List.getD_eq_getElem?_getD]
  by_cases e : j = i
  · subst e; rw [if_pos rfl, List.getElem?_set_self (by omega)]; rfl
  · rw [if_neg e, List.getElem?_set_ne (by omega)]
theorem andF_rd (m : List Int) : ∀ (d : Nat) (i : Int) (o : List Int) (j : Int), 0 ≤ i → i + d ≤ o.length → 0 ≤ j → rd (andF m d i o) j = if i ≤ j ∧ j < i + d then Go.bits .and .u64 (rd o j) (rd m j) else rd o j
  | 0, i, o, j, _, _, _ => by rw [if_neg (by omega)]; rfl
  | d + 1, i, o, j, h0, h1, hj => by
    rw [andF, andF_rd m d (i + 1) _ j (by omega) (by simp; omega) hj, rd_set o i j _ h0 (by omega) hj]
    by_cases e : j = i
    · subst e; rw [if_neg (by omega), if_pos rfl, if_pos (by omega)]
    · rw [if_neg e]
      by_cases c : i ≤ j ∧ j < i + ((d + 1 : Nat) : Int)
      · rw [if_pos (by omega), if_pos c]
      · rw [if_neg (by omega), if_neg c]
theorem list_ext {a b : List Int} (h : a.length = b.length) (hr : ∀ j : Int, 0 ≤ j → j < a.length → rd a j = rd b j) : a = b := by
  apply List.ext_getElem h
  intro n h0 h1
  have := hr (n : Int) (by omega) (by omega)
  simpa [rd, List.getD_eq_getElem?_getD, h0, h1] using this
noncomputable def bothS (n : Int) (l : List Int) (q : Int) (m : List Int) : Int × List Int × Int := if BFit n l ∧ BFit q m ∧ n = q then (n, andF m m.length 0 l, 0) else (0, [], 2)
theorem both_l (n : Int) (m : List Int) (hm : m.length < 17592186044416) : ∀ (d : Nat) (i : Int) (o : List Int), 0 ≤ i → (m.length : Int) - i = d → o.length = m.length → Ev (fun k => bits_Both.l0 k m (m.length : Int) i n o) (n, andF m d i o, 0) := by
  intro d
  induction d with
  | zero =>
    intro i o h0 hd ho
    refine ev_of (K := 1) fun k hk => ?_
    obtain ⟨k, rfl⟩ : ∃ m, k = m + 1 := ⟨k - 1, by omega⟩
    simp only [bits_Both.l0]; rw [if_neg (by omega)]; rfl
  | succ d ih =>
    intro i o h0 hd ho
    refine ev_succ (f := fun k => bits_Both.l0 k m (m.length : Int) (i + 1) n (o.set i.toNat (Go.bits .and .u64 (rd o i) (rd m i)))) (fun k => ?_) (ih (i + 1) _ (by omega) (by omega) (by simpa using ho))
    simp only [bits_Both.l0]
    rw [if_pos (by omega), if_pos h0, if_pos (by omega), if_pos (by omega), w64 (by omega) (by omega)]
theorem both_ev {n q : Int} {l m : List Int} (hw : Words l) (hl : l.length < 17592186044416) (hv : Words m) (hm : m.length < 17592186044416) : Ev (fun k => bits_Both.f k n l q m) (bothS n l q m) := by
  have bad : Ev (fun k => bits_Both.j0 k true n l q m) (0, [], 2) := ev_succ (f := fun _ => some (0, [], 2)) (fun k => by simp [bits_Both.j0]) (ev_const rfl)
  have c0 := check_ev (n := n) hw hl
  have c1 := check_ev (n := q) hv hm
  unfold bits_Both.f bothS
  refine Ev.bind c0 ?_
  by_cases h0 : BFit n l
  · rw [chk_good h0]; simp only [if_true]
    refine Ev.bind c1 ?_
    by_cases h1 : BFit q m
    · rw [chk_good h1]; simp only [if_true]
      by_cases e : n = q
      · subst e
        rw [if_pos ⟨h0, h1, rfl⟩]
        simp only [bne_self_eq_false]
        refine ev_succ (f := fun k => bits_Both.l0 k m (m.length : Int) 0 n l) (fun k => by simp [bits_Both.j0, own_eq n l hl]) ?_
        have := h0.2.2.1; have := h1.2.2.1
        exact both_l n m hm m.length 0 l (by omega) (by omega) (by omega)
      · rw [if_neg (fun h => e h.2.2), show (n != q) = true from bne_iff_ne.mpr e]; exact bad
    · rw [chk_bad h1, if_neg (fun h => h1 h.2.1)]; simp only [show ¬ ((2 : Int) = 0) by decide, if_false]; exact bad
  · rw [chk_bad h0, if_neg (fun h => h0 h.1)]; simp only [show ¬ ((2 : Int) = 0) by decide, if_false]; exact bad
/-- The words of both. -/
theorem both_rd {l m : List Int} (hw : Words l) (hv : Words m) (he : l.length = m.length) (j : Int) (h0 : 0 ≤ j) (h1 : j < (l.length : Int)) : rd (andF m m.length 0 l) j = (((rd l j).toNat &&& (rd m j).toNat : Nat) : Int) := by
  rw [andF_rd m m.length 0 l j (by omega) (by omega) h0, if_pos (by omega)]
  have a := hw _ (rd_mem h0 h1)
  have b := hv _ (rd_mem h0 (show j < (m.length : Int) by omega))
  have := bits_and_u64_nat (rd l j).toNat (rd m j).toNat (by omega) (by omega)
  rw [show (((rd l j).toNat : Nat) : Int) = rd l j by omega, show (((rd m j).toNat : Nat) : Int) = rd m j by omega] at this
  exact this
theorem both_words {l m : List Int} (hw : Words l) (hv : Words m) (he : l.length = m.length) : Words (andF m m.length 0 l) := by
  intro x hx
  obtain ⟨i, hi, e⟩ := List.mem_iff_getElem.1 hx
  rw [andF_len] at hi
  have h1 : i < (andF m m.length 0 l).length := by rw [andF_len]; exact hi
  have h := both_rd hw hv he (i : Int) (by omega) (by omega)
  have e2 : rd (andF m m.length 0 l) (i : Int) = x := by rw [rd_nat, List.getD_eq_getElem?_getD, List.getElem?_eq_getElem h1, ← e]; rfl
  rw [e2] at h
  have a := hw _ (rd_mem (l := l) (i := (i : Int)) (by omega) (by omega))
  have : (rd l (i : Int)).toNat &&& (rd m (i : Int)).toNat ≤ (rd l (i : Int)).toNat := Nat.and_le_left
  omega
theorem both_bit {l m : List Int} (hw : Words l) (hv : Words m) (he : l.length = m.length) (i : Nat) (hi : i < 64 * l.length) : bitAt (andF m m.length 0 l) i = (bitAt l i && bitAt m i) := by
  have h := both_rd hw hv he ((i / 64 : Nat) : Int) (by omega) (by omega)
  unfold bitAt
  rw [rd_nat, rd_nat, rd_nat] at h
  rw [h, Int.toNat_natCast, Nat.testBit_and]
theorem both_fit {n : Int} {l m : List Int} (hw : Words l) (hv : Words m) (h0 : BFit n l) (h1 : BFit n m) : BFit n (andF m m.length 0 l) := by
  obtain ⟨a0, a1, a2, a3⟩ := h0
  obtain ⟨_, _, b2, _⟩ := h1
  have he : l.length = m.length := by omega
  refine ⟨a0, a1, by rw [andF_len]; exact a2, fun i i0 i1 => ?_⟩
  rw [andF_len] at i1
  rw [both_bit hw hv he i i1, a3 i i0 i1]; rfl
theorem both_comm {l m : List Int} (hw : Words l) (hv : Words m) (he : l.length = m.length) : andF m m.length 0 l = andF l l.length 0 m := by
  refine list_ext (by rw [andF_len, andF_len, he]) fun j j0 j1 => ?_
  rw [andF_len] at j1
  rw [both_rd hw hv he j j0 j1, both_rd hv hw he.symm j j0 (by omega), Nat.and_comm]
theorem both_self {l : List Int} (hw : Words l) : andF l l.length 0 l = l := by
  refine list_ext (andF_len _ _ _ _) fun j j0 j1 => ?_
  rw [andF_len] at j1
  rw [both_rd hw hw rfl j j0 j1, Nat.and_self]
  have := hw _ (rd_mem j0 j1); omega
theorem asks_ev : Ev (fun k => besomlaw01_asks.f k) true := ev_of (K := 60) fun _ hk => at_rounds (g := fun k => besomlaw01_asks.f k) besomlaw01_asks.mono hk besomlaw01_asks.run_
theorem puts_ev : Ev (fun k => besomlaw01_puts.f k) true := ev_of (K := 60) fun _ hk => at_rounds (g := fun k => besomlaw01_puts.f k) besomlaw01_puts.mono hk besomlaw01_puts.run_

end Go.Proofs.YthphncefbahcaaaDoor.PuBitsBothO
