/- The reference's Check and Count of layer 1. (Drawn from PuBitsRef, PuBitsAskR.) -/
import Derived.Test.YthphncefbahcaaaDoorGQx5
import Derived.Test.YthphncefbahcaaaDoorGQx5
import Derived.Test.YthphncefbahcaaaDoorPuBitsQ
import Derived.Test.YthphncefbahcaaaDoorPuBitsCountLQ
namespace Go.Proofs.YthphncefbahcaaaDoor.PuBitsRefCQ
open Go.RowKit Go.Proofs.YthphncefbahcaaaDoorW.PrintWords Go.Proofs.YthphncefbahcaaaDoorW.PrintLast Go.Proofs.YthphncefbahcaaaDoorW.PrintMore Go.Proofs.YthphncefbahcaaaDoor.GQ Go.Proofs.YthphncefbahcaaaDoor.Pu Go.Proofs.YthphncefbahcaaaDoor.PuBitW Go.Proofs.YthphncefbahcaaaDoor.PuBitsQ Go.Proofs.YthphncefbahcaaaDoor.PuBitsCountLQ

theorem ris_eq {l : List Int} (hw : Words l) (n i : Int) (h0 : 0 ≤ i) (h1 : i < 64 * (l.length : Int)) (hl : l.length < 17592186044416) : besomref01_Is.f n l i = some (bitAt l i.toNat) := by
  obtain ⟨m, rfl⟩ : ∃ m : Nat, i = (m : Int) := ⟨i.toNat, by omega⟩
  unfold besomref01_Is.f
  have e1 : Int.tdiv (m : Int) 64 = ((m / 64 : Nat) : Int) := rfl
  have e2 : Int.tmod (m : Int) 64 = ((m % 64 : Nat) : Int) := rfl
  rw [e1, e2, w64 (by omega) (by omega), wu64' (a := ((m % 64 : Nat) : Int)) (by omega) (by omega), if_pos (by omega), if_pos (by omega), if_pos (by omega)]
  obtain ⟨e3, hlt⟩ := hw.rd_nat (m / 64)
  rw [e3, is_mod _ _ (by omega), Int.toNat_natCast]; rfl
theorem rwords_n {n : Int} (h0 : 0 ≤ n) (h1 : n ≤ 4096) : wrap64 (Int.tdiv (wrap64 (n + 63)) 64) = (n + 63) / 64 := by
  rw [w64 (a := n + 63) (by omega) (by omega), Int.tdiv_eq_ediv_of_nonneg (by omega), w64 (by omega) (by omega)]
theorem rcheck_l {l : List Int} (hw : Words l) (n : Int) (hl : l.length < 1000) : ∀ (d : Nat) (i : Int), 0 ≤ i → 64 * (l.length : Int) - i = d → (∀ j : Nat, i ≤ j → j < 64 * l.length → bitAt l j = false) → Ev (fun k => besomref01_Check.l0 k i n l) 0 := by
  intro d
  induction d with
  | zero =>
    intro i h0 hd _
    refine ev_of (K := 1) fun k hk => ?_
    obtain ⟨k, rfl⟩ : ∃ m, k = m + 1 := ⟨k - 1, by omega⟩
    simp only [besomref01_Check.l0]; rw [w64 (by omega) (by omega), if_neg (by omega)]
  | succ d ih =>
    intro i h0 hd hz
    refine ev_succ (f := fun k => besomref01_Check.l0 k (i + 1) n l) (fun k => ?_) (ih (i + 1) (by omega) (by omega) (fun j hj => hz j (by omega)))
    simp only [besomref01_Check.l0]
    rw [w64 (a := 64 * (l.length : Int)) (by omega) (by omega), if_pos (by omega), ris_eq hw n i h0 (by omega) (by omega), w64 (a := i + 1) (by omega) (by omega)]
    simp only [Option.bind_some]
    rw [hz i.toNat (by omega) (by omega), if_neg (by decide)]
theorem rcheck_b {l : List Int} (hw : Words l) (n : Int) (hl : l.length < 1000) : ∀ (d : Nat) (i : Int), 0 ≤ i → 64 * (l.length : Int) - i = d → (¬ ∀ j : Nat, i ≤ j → j < 64 * l.length → bitAt l j = false) → Ev (fun k => besomref01_Check.l0 k i n l) 2 := by
  intro d
  induction d with
  | zero =>
    intro i h0 hd hh
    exact absurd (fun j hj hj2 => by omega) hh
  | succ d ih =>
    intro i h0 hd hz
    by_cases hb : bitAt l i.toNat = true
    · refine ev_of (K := 1) fun k hk => ?_
      obtain ⟨k, rfl⟩ : ∃ m, k = m + 1 := ⟨k - 1, by omega⟩
      simp only [besomref01_Check.l0]
      rw [w64 (a := 64 * (l.length : Int)) (by omega) (by omega), if_pos (by omega), ris_eq hw n i h0 (by omega) (by omega)]
      simp only [Option.bind_some]
      rw [hb, if_pos rfl]
    · refine ev_succ (f := fun k => besomref01_Check.l0 k (i + 1) n l) (fun k => ?_) (ih (i + 1) (by omega) (by omega) (fun hh => hz fun j hj hj2 => ?_))
      · simp only [besomref01_Check.l0]
        rw [w64 (a := 64 * (l.length : Int)) (by omega) (by omega), if_pos (by omega), ris_eq hw n i h0 (by omega) (by omega), w64 (a := i + 1) (by omega) (by omega)]
        simp only [Option.bind_some]
        rw [if_neg hb]
      · by_cases e : (j : Int) = i
        · rw [show j = i.toNat by omega]; simpa using hb
        · exact hh j (by omega) hj2
theorem rcheck_ev {n : Int} {l : List Int} (hw : Words l) (hl : l.length < 17592186044416) : Ev (fun k => besomref01_Check.f k n l) (chk n l) := by
  unfold besomref01_Check.f
  by_cases h0 : n < 0
  · simp only [h0, if_true]; rw [chk_bad (fun h => by have := h.1; omega)]
    exact ev_succ (f := fun _ => some 2) (fun k => by simp [besomref01_Check.j0]) (ev_const rfl)
  simp only [h0, if_false]
  by_cases h1 : n > 4096
  · simp only [h1, if_true]; rw [chk_bad (fun h => by have := h.2.1; omega)]
    exact ev_succ (f := fun _ => some 2) (fun k => by simp [besomref01_Check.j0]) (ev_const rfl)
  simp only [h1, if_false]
  rw [rwords_n (by omega) (by omega)]
  by_cases h2 : (l.length : Int) = (n + 63) / 64
  · refine ev_succ (f := fun k => besomref01_Check.l0 k n n l) (fun k => by simp [besomref01_Check.j0, h2]) ?_
    by_cases h3 : ∀ j : Nat, n ≤ j → j < 64 * l.length → bitAt l j = false
    · rw [chk_good ⟨by omega, by omega, h2, h3⟩]
      exact rcheck_l hw n (by omega) (64 * (l.length : Int) - n).toNat n (by omega) (by omega) h3
    · rw [chk_bad (fun h => h3 h.2.2.2)]
      exact rcheck_b hw n (by omega) (64 * (l.length : Int) - n).toNat n (by omega) (by omega) h3
  · rw [chk_bad (fun h => h2 h.2.2.1)]
    exact ev_succ (f := fun _ => some 2) (fun k => by simp [besomref01_Check.j0, h2]) (ev_const rfl)
theorem rcount_l {n : Int} {l : List Int} (hw : Words l) (hn : n ≤ 4096) (hl : n ≤ 64 * (l.length : Int)) (hl2 : l.length < 1000) : ∀ (d : Nat) (i x : Int), 0 ≤ i → n - i = d → 0 ≤ x → x + d ≤ 10000 → Ev (fun k => besomref01_Count.l0 k x i n l) (x + (cntI l i.toNat d : Nat), 0) := by
  intro d
  induction d with
  | zero =>
    intro i x h0 hd _ _
    refine ev_of (K := 1) fun k hk => ?_
    obtain ⟨k, rfl⟩ : ∃ m, k = m + 1 := ⟨k - 1, by omega⟩
    simp only [besomref01_Count.l0]; rw [if_neg (by omega)]; simp [cntI]
  | succ d ih =>
    intro i x h0 hd hx hx2
    rw [cntI, show i.toNat + 1 = (i + 1).toNat by omega]
    refine ev_succ (f := fun k => _) (fun k => by simp only [besomref01_Count.l0]; rw [if_pos (by omega), ris_eq hw n i h0 (by omega) (by omega), Option.bind_some, w64 (a := i + 1) (by omega) (by omega), w64 (a := x + 1) (by omega) (by omega)]) ?_
    by_cases hb : bitAt l i.toNat = true
    · simp only [hb, if_true]
      have := ih (i + 1) (x + 1) (by omega) (by omega) (by omega) (by omega)
      rwa [show x + 1 + (cntI l (i + 1).toNat d : Nat) = x + ((1 + cntI l (i + 1).toNat d : Nat) : Int) by omega] at this
    · simp only [hb]
      have := ih (i + 1) x (by omega) (by omega) (by omega) (by omega)
      simpa using this

end Go.Proofs.YthphncefbahcaaaDoor.PuBitsRefCQ
