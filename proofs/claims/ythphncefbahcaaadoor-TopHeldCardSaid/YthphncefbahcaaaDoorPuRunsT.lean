/- Runs that share no place: what is so in a list of bits is what one of them covers. -/
import Derived.Test.YthphncefbahcaaaDoorPuPagesT
namespace Go.Proofs.YthphncefbahcaaaDoor.PuRunsT
open Go.RowKit Go.Proofs.YthphncefbahcaaaDoorW.PrintWords Go.Proofs.YthphncefbahcaaaDoorW.PrintLast Go.Proofs.YthphncefbahcaaaDoorW.PrintMore Go.Proofs.YthphncefbahcaaaDoor.GT Go.Proofs.YthphncefbahcaaaDoor.Pu Go.Proofs.YthphncefbahcaaaDoor.PuBitW Go.Proofs.YthphncefbahcaaaDoor.PuBitsT Go.Proofs.YthphncefbahcaaaDoor.PuBitsLayT Go.Proofs.YthphncefbahcaaaDoor.PuBitsCountLT Go.Proofs.YthphncefbahcaaaDoor.PuBitsFirstT Go.Proofs.YthphncefbahcaaaDoor.PuBitsRunIT Go.Proofs.YthphncefbahcaaaDoor.PuBitsFillJT Go.Proofs.YthphncefbahcaaaDoor.PuPagesT

def Within (r : Int × Int) (j : Int) : Prop := r.1 ≤ j ∧ j < r.1 + r.2
def Far (r s : Int × Int) : Prop := ∀ j, Within r j → ¬ Within s j
theorem Far.symm {r s : Int × Int} (h : Far r s) : Far s r := fun j hj hr => h j hr hj
def total : List (Int × Int) → Int
  | [] => 0
  | r :: l => r.2 + total l
theorem total_app : ∀ a b : List (Int × Int), total (a ++ b) = total a + total b
  | [], b => by simp [total]
  | r :: l, b => by rw [List.cons_append, total, total, total_app l b]; omega
/-- R are the runs that are taken in l. -/
structure Inv (n : Int) (l : List Int) (R : List (Int × Int)) : Prop where
  words : Words l
  fit : BFit n l
  inn : ∀ r ∈ R, 0 ≤ r.1 ∧ 1 ≤ r.2 ∧ r.1 + r.2 ≤ n
  far : R.Pairwise Far
  so : ∀ j : Int, 0 ≤ j → j < n → (bitAt l j.toNat = true ↔ ∃ r ∈ R, Within r j)
  cnt : ((cntI l 0 n.toNat : Nat) : Int) = total R
theorem Inv.take {n : Int} {l : List Int} {R : List (Int × Int)} (h : Inv n l R) {s ct : Int} (hct : 1 ≤ ct) (hs : IsRun n l ct 0 s) : Inv n (fillAt true s.toNat ct.toNat 0 l) (R ++ [(s, ct)]) ∧ ∀ r ∈ R, Far r (s, ct) := by
  have s0 := hs.ge
  have s1 := hs.le
  have g := h.fit
  obtain ⟨g0, g1, g2, _⟩ := g
  have hfar : ∀ r ∈ R, Far r (s, ct) := fun r hr j hj hw => by
    obtain ⟨a, b, c⟩ := h.inn r hr
    have hj1 : r.1 ≤ j := hj.1
    have hj2 : j < r.1 + r.2 := hj.2
    have hw1 : s ≤ j := hw.1
    have hw2 : j < s + ct := hw.2
    have := (h.so j (by omega) (by omega)).2 ⟨r, hr, hj⟩
    rw [hs.so j hw1 hw2] at this; cases this
  have hb : ∀ j : Nat, bitAt (fillAt true s.toNat ct.toNat 0 l) j = if s.toNat + 0 ≤ j ∧ j < s.toNat + 0 + ct.toNat then true else bitAt l j := fun j => fillAt_bit true _ _ 0 j h.words (by omega)
  refine ⟨⟨fillAt_words _ _ _ _ h.words, fill_fit h.words h.fit true s.toNat ct.toNat (by omega), ?_, ?_, ?_, ?_⟩, hfar⟩
  · intro r hr
    rcases List.mem_append.1 hr with hr | hr
    · exact h.inn r hr
    · rw [List.mem_singleton.1 hr]; exact ⟨s0, hct, s1⟩
  · refine List.pairwise_append.2 ⟨h.far, List.pairwise_singleton _ _, fun r hr t ht => ?_⟩
    rw [List.mem_singleton.1 ht]; exact hfar r hr
  · intro j j0 j1
    rw [hb]
    by_cases c : s ≤ j ∧ j < s + ct
    · rw [if_pos (by omega)]
      exact ⟨fun _ => ⟨(s, ct), by simp, c⟩, fun _ => rfl⟩
    · rw [if_neg (by omega), h.so j j0 j1]
      constructor
      · rintro ⟨r, hr, hw⟩; exact ⟨r, by simp [hr], hw⟩
      · rintro ⟨r, hr, hw⟩
        rcases List.mem_append.1 hr with hr | hr
        · exact ⟨r, hr, hw⟩
        · rw [List.mem_singleton.1 hr] at hw; exact absurd hw c
  · have cn := cntI_run l (fillAt true s.toNat ct.toNat 0 l) n.toNat s.toNat ct.toNat (by omega) (fun j j0 j1 => by have := hs.so (j : Int) (by omega) (by omega); rwa [Int.toNat_natCast] at this) (fun j j0 j1 => by rw [hb, if_pos (by omega)]) (fun j j0 j1 => by rw [hb, if_neg (by omega)])
    have := h.cnt
    rw [cn, total_app, show total [(s, ct)] = ct by simp [total]]
    omega
/-- One of them given back. -/
theorem Inv.give {n : Int} {l : List Int} {A B : List (Int × Int)} {r : Int × Int} (h : Inv n l (A ++ r :: B)) : AllSet l r.1 r.2 ∧ (0 ≤ r.1 ∧ 1 ≤ r.2 ∧ r.2 ≤ n ∧ r.1 ≤ n - r.2) ∧ Inv n (fillAt false r.1.toNat r.2.toNat 0 l) (A ++ B) := by
  obtain ⟨f, ct⟩ := r
  obtain ⟨r0, r1, r2⟩ := h.inn (f, ct) (by simp)
  simp only at r0 r1 r2
  have g := h.fit
  obtain ⟨g0, g1, g2, _⟩ := g
  have hset : AllSet l f ct := fun j j0 j1 => (h.so j (by omega) (by omega)).2 ⟨(f, ct), by simp, j0, j1⟩
  have hb : ∀ j : Nat, bitAt (fillAt false f.toNat ct.toNat 0 l) j = if f.toNat + 0 ≤ j ∧ j < f.toNat + 0 + ct.toNat then false else bitAt l j := fun j => fillAt_bit false _ _ 0 j h.words (by omega)
  have hp := List.pairwise_append.1 h.far
  have hp2 := List.pairwise_cons.1 hp.2.1
  have hfar : ∀ t ∈ A ++ B, Far t (f, ct) := fun t ht => by
    rcases List.mem_append.1 ht with ht | ht
    · exact hp.2.2 t ht (f, ct) (by simp)
    · exact (hp2.1 t ht).symm
  refine ⟨hset, ⟨r0, r1, by omega, by omega⟩, ⟨fillAt_words _ _ _ _ h.words, fill_fit h.words h.fit false f.toNat ct.toNat (by omega), ?_, ?_, ?_, ?_⟩⟩
  · intro t ht
    refine h.inn t ?_
    rcases List.mem_append.1 ht with ht | ht <;> simp [ht]
  · exact List.pairwise_append.2 ⟨hp.1, hp2.2, fun t ht u hu => hp.2.2 t ht u (by simp [hu])⟩
  · intro j j0 j1
    show bitAt (fillAt false f.toNat ct.toNat 0 l) j.toNat = true ↔ _
    rw [hb]
    by_cases c : f ≤ j ∧ j < f + ct
    · rw [if_pos (by omega)]
      constructor
      · intro h; cases h
      · rintro ⟨t, ht, hw⟩; exact absurd c (hfar t ht j hw)
    · rw [if_neg (by omega), h.so j j0 j1]
      constructor
      · rintro ⟨t, ht, hw⟩
        rcases List.mem_append.1 ht with ht | ht
        · exact ⟨t, by simp [ht], hw⟩
        · rcases List.mem_cons.1 ht with e | ht
          · rw [e] at hw; exact absurd hw c
          · exact ⟨t, by simp [ht], hw⟩
      · rintro ⟨t, ht, hw⟩
        rcases List.mem_append.1 ht with ht | ht
        · exact ⟨t, by simp [ht], hw⟩
        · exact ⟨t, by simp [ht], hw⟩
  · have cn := cntI_run (fillAt false f.toNat ct.toNat 0 l) l n.toNat f.toNat ct.toNat (by omega) (fun j j0 j1 => by rw [hb, if_pos (by omega)]) (fun j j0 j1 => by have := hset (j : Int) (by omega) (by omega); rwa [Int.toNat_natCast] at this) (fun j j0 j1 => by rw [hb, if_neg (by omega)])
    have := h.cnt
    show ((cntI (fillAt false f.toNat ct.toNat 0 l) 0 n.toNat : Nat) : Int) = _
    rw [total_app, total] at this
    rw [total_app]
    simp only at this
    omega
/-- Where none is taken the longest run is all. -/
theorem Inv.none {n : Int} {l : List Int} (h : Inv n l []) : IsLong n l n := by
  have g0 := h.fit.1
  refine ⟨g0, Int.le_refl _, fun _ => ⟨0, by omega, by omega, fun j j0 j1 => ?_⟩, fun ⟨s, s0, s1, _⟩ => by omega⟩
  cases hb : bitAt l j.toNat with
  | false => rfl
  | true =>
    obtain ⟨r, hr, _⟩ := (h.so j j0 (by omega)).1 hb
    cases hr
theorem total_nonneg {n : Int} {l : List Int} {R : List (Int × Int)} (h : Inv n l R) : 0 ≤ total R ∧ total R ≤ n := by
  have := h.cnt
  have l1 := cntI_le l n.toNat 0
  have := h.fit.1
  omega
/-- No more runs than places. -/
theorem len_total : ∀ R : List (Int × Int), (∀ r ∈ R, 1 ≤ r.2) → (R.length : Int) ≤ total R
  | [], _ => by simp [total]
  | r :: l, h => by
    have := len_total l (fun x hx => h x (by simp [hx]))
    have := h r (by simp)
    rw [total, List.length_cons]; omega
theorem len_le {n : Int} {l : List Int} {R : List (Int × Int)} (h : Inv n l R) : (R.length : Int) ≤ n := by
  have := len_total R (fun r hr => (h.inn r hr).2.1)
  have := total_nonneg h
  omega

end Go.Proofs.YthphncefbahcaaaDoor.PuRunsT
