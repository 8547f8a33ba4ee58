/- The reference's Fill and Count of layer 1. (Drawn from PuBitsPut, PuBitsAskR.) -/
import Derived.Test.YthphncefbahcaaaDoorGRx4
import Derived.Test.YthphncefbahcaaaDoorPuBitsRefR
import Derived.Test.YthphncefbahcaaaDoorPuBitsLayR
import Derived.Test.YthphncefbahcaaaDoorPuBitsCountLR
namespace Go.Proofs.YthphncefbahcaaaDoor.PuBitsRefFR
open Go.RowKit Go.Proofs.YthphncefbahcaaaDoorW.PrintWords Go.Proofs.YthphncefbahcaaaDoorW.PrintLast Go.Proofs.YthphncefbahcaaaDoorW.PrintMore Go.Proofs.YthphncefbahcaaaDoor.GR Go.Proofs.YthphncefbahcaaaDoor.Pu Go.Proofs.YthphncefbahcaaaDoor.PuBitW Go.Proofs.YthphncefbahcaaaDoor.PuBitsR Go.Proofs.YthphncefbahcaaaDoor.PuBitsRefR Go.Proofs.YthphncefbahcaaaDoor.PuBitsLayR Go.Proofs.YthphncefbahcaaaDoor.PuBitsCountLR

theorem rwith_eq {l : List Int} (hw : Words l) (n i : Int) (v : Bool) (h0 : 0 ≤ i) (h1 : i < 64 * (l.length : Int)) (hl : l.length < 17592186044416) : besomref01_with.f n l i v = some (n, setAt v l i.toNat) := by
  unfold besomref01_with.f
  rw [ris_eq hw n i h0 h1 hl]
  simp only [Option.bind_some]
  obtain ⟨m, rfl⟩ : ∃ m : Nat, i = (m : Int) := ⟨i.toNat, by omega⟩
  rw [Int.toNat_natCast]
  obtain ⟨e3, hlt⟩ := hw.rd_nat (m / 64)
  have e1 : Int.tdiv (m : Int) 64 = ((m / 64 : Nat) : Int) := rfl
  have e2 : Int.tmod (m : Int) 64 = ((m % 64 : Nat) : Int) := rfl
  by_cases hb : bitAt l m = v
  · rw [if_neg (by simp [hb])]
    unfold setAt
    rw [set_self (by rw [e3, putW_nat v _ _ hlt (by omega), put_same v _ _ hb])]
  · rw [if_pos (by simp [hb]), e1, e2, w64 (by omega) (by omega), wu64' (a := ((m % 64 : Nat) : Int)) (by omega) (by omega), if_pos (by omega), if_pos (by omega), if_pos (by omega), Int.toNat_natCast]
    unfold setAt
    rw [e3, putW_nat v _ _ hlt (by omega), shl_one _ (by omega), xor_nat _ _ hlt (pow_lt _ (by omega)), put_xor v _ _ hb]

theorem rfill_l (n fr ct : Int) (v : Bool) (hf : 0 ≤ fr) (hb : fr + ct ≤ 1000000) : ∀ (d : Nat) (x : Int) (l : List Int), Words l → l.length < 17592186044416 → fr + ct ≤ 64 * (l.length : Int) → 0 ≤ x → ct - x = d → Ev (fun k => besomref01_Fill.l0 k fr ct v x n l) (n, fillAt v fr.toNat d x.toNat l, 0) := by
  intro d
  induction d with
  | zero =>
    intro x l hw hl hh h0 hd
    refine ev_of (K := 1) fun k hk => ?_
    obtain ⟨k, rfl⟩ : ∃ m, k = m + 1 := ⟨k - 1, by omega⟩
    simp only [besomref01_Fill.l0]; rw [if_neg (by omega)]; rfl
  | succ d ih =>
    intro x l hw hl hh h0 hd
    have := ih (x + 1) (setAt v l (fr.toNat + x.toNat)) (setAt_words hw v _) (by rw [setAt_len]; omega) (by rw [setAt_len]; omega) (by omega) (by omega)
    rw [fillAt, show x.toNat + 1 = (x + 1).toNat by omega]
    refine ev_succ (f := fun k => besomref01_Fill.l0 k fr ct v (x + 1) n (setAt v l (fr.toNat + x.toNat))) (fun k => ?_) this
    simp only [besomref01_Fill.l0]
    rw [if_pos (by omega), w64 (a := fr + x) (by omega) (by omega), rwith_eq hw n (fr + x) v (by omega) (by omega) hl, w64 (a := x + 1) (by omega) (by omega)]
    simp only [Option.bind_some]
    rw [show (fr + x).toNat = fr.toNat + x.toNat by omega]
theorem rfill_ev {n : Int} {l : List Int} (hw : Words l) (hl : l.length < 17592186044416) (fr ct : Int) (v : Bool) : Ev (fun k => besomref01_Fill.f k n l fr ct v) (fillS n l fr ct v) := by
  unfold besomref01_Fill.f
  refine Ev.bind (rcheck_ev hw hl) ?_
  unfold fillS
  by_cases h : BFit n l
  · rw [chk_good h]; simp only [h, if_true]
    rw [rcopy_eq n l hl]; simp only [Option.bind_some]
    have no : Ev (fun k => besomref01_Fill.j0 k fr ct v true n l) (n, l, 1) := ev_succ (f := fun _ => some (n, l, 1)) (fun k => by simp [besomref01_Fill.j0]) (ev_const rfl)
    by_cases h1 : fr < 0
    · simp only [h1, if_true]; exact no
    simp only [h1, if_false]
    by_cases h2 : ct < 0
    · simp only [h2, if_true]; exact no
    simp only [h2, if_false]
    by_cases h3 : ct > n
    · simp only [h3, if_true]; exact no
    simp only [h3, if_false]
    obtain ⟨g0, g1, g2, _⟩ := h
    rw [w64 (by omega) (by omega)]
    by_cases h4 : fr > n - ct
    · simp only [h4, if_true, decide_true]; exact no
    simp only [h4, if_false, decide_false]
    refine ev_succ (f := fun k => besomref01_Fill.l0 k fr ct v 0 n l) (fun k => by simp [besomref01_Fill.j0]) ?_
    have := rfill_l n fr ct v (by omega) (by omega) ct.toNat 0 l hw hl (by omega) (by omega) (by omega)
    exact this
  · rw [chk_bad h]; simp only [h, if_false, show ¬ ((2 : Int) = 0) by decide]; exact ev_const rfl


end Go.Proofs.YthphncefbahcaaaDoor.PuBitsRefFR
