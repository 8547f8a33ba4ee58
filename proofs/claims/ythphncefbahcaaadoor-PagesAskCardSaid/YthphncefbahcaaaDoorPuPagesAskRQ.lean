/- The reference's Free, Longest and Make of layer 3 tell what the package's do. -/
import Derived.Test.YthphncefbahcaaaDoorGQx5
import Derived.Test.YthphncefbahcaaaDoorGQx5
import Derived.Test.YthphncefbahcaaaDoorGQx6
import Derived.Test.YthphncefbahcaaaDoorGQx5
import Derived.Test.YthphncefbahcaaaDoorGQx4
import Derived.Test.YthphncefbahcaaaDoorGQx3
import Derived.Test.YthphncefbahcaaaDoorPuBitsRefCQ
import Derived.Test.YthphncefbahcaaaDoorPuPagesQ
import Derived.Test.YthphncefbahcaaaDoorPuBitsSameQ
namespace Go.Proofs.YthphncefbahcaaaDoor.PuPagesAskRQ
open Go.RowKit Go.Proofs.YthphncefbahcaaaDoorW.PrintWords Go.Proofs.YthphncefbahcaaaDoorW.PrintLast Go.Proofs.YthphncefbahcaaaDoorW.PrintMore Go.Proofs.YthphncefbahcaaaDoor.GQ Go.Proofs.YthphncefbahcaaaDoor.Pu Go.Proofs.YthphncefbahcaaaDoor.PuBitW Go.Proofs.YthphncefbahcaaaDoor.PuBitsQ Go.Proofs.YthphncefbahcaaaDoor.PuBitsLayQ Go.Proofs.YthphncefbahcaaaDoor.PuBitsCountLQ Go.Proofs.YthphncefbahcaaaDoor.PuBitsFirstQ Go.Proofs.YthphncefbahcaaaDoor.PuBitsRunIQ Go.Proofs.YthphncefbahcaaaDoor.PuBitsFillJQ Go.Proofs.YthphncefbahcaaaDoor.PuBitsRefCQ Go.Proofs.YthphncefbahcaaaDoor.PuPagesQ Go.Proofs.YthphncefbahcaaaDoor.PuBitsSameQ

theorem rcheck3_ev {n : Int} {l : List Int} (hw : Words l) (hl : l.length < 17592186044416) : Ev (fun k => besomref03_Check.f k n l) (chk n l) := by
  unfold besomref03_Check.f
  exact Ev.bind (rcheck_ev hw hl) (ev_const rfl)
theorem same3_ev (n : Int) (l : List Int) (h : l.length < 17592186044416) : Ev (fun k => besomref03_Same.f k n l n l) true := by
  unfold besomref03_Same.f
  exact Ev.bind (same_ev n l h) (ev_const rfl)
theorem rfree3_ev {n : Int} {l : List Int} (hw : Words l) (hl : l.length < 17592186044416) : Ev (fun k => besomref03_Free.f k n l) (freeS n l) := by
  unfold besomref03_Free.f besomref01_Count.f
  have hc := rcheck_ev (n := n) hw hl
  unfold freeS
  by_cases hf : BFit n l
  · rw [chk_good hf] at hc
    have g := hf
    obtain ⟨g0, g1, g2, _⟩ := g
    have e := rcount_l hw g1 (by omega) (by omega) n.toNat 0 0 (by omega) (by omega) (by omega) (by omega)
    have le := cntI_le l n.toNat 0
    rw [if_pos hf]
    refine Ev.bind (Ev.bind hc (by simp only [if_true]; exact e)) ?_
    simp only [if_true]
    rw [show (0 : Int).toNat = 0 from rfl, Int.zero_add, w64 (by omega) (by omega)]; exact ev_const rfl
  · rw [chk_bad hf] at hc
    rw [if_neg hf]
    refine Ev.bind (Ev.bind hc (by simp only [show ¬ ((2 : Int) = 0) by decide, if_false]; exact ev_const rfl)) ?_
    simp only [show ¬ ((2 : Int) = 0) by decide, if_false]; exact ev_const rfl
theorem has_zero (n : Int) (l : List Int) (c : Int) (hc : c ≤ 0) (hn : 0 ≤ n) : HasRun n l c := ⟨0, by omega, by omega, fun i i0 i1 => by omega⟩
/-- One bit more that is set: the longest run stays. -/
theorem long_set {i : Int} {l : List Int} {b : Int} (_ : 0 ≤ i) (h : IsLong i l b) (hb : bitAt l i.toNat = true) : IsLong (i + 1) l b := by
  have b0 := h.ge
  refine ⟨b0, by have := h.le; omega, fun h1 => ?_, ?_⟩
  · obtain ⟨s, s0, s1, s2⟩ := h.so h1
    exact ⟨s, s0, by omega, s2⟩
  · rintro ⟨s, s0, s1, s2⟩
    by_cases c : s + (b + 1) ≤ i
    · exact h.no ⟨s, s0, c, s2⟩
    · have := s2 i (by omega) (by omega)
      rw [hb] at this; cases this
/-- One bit more that is clear, behind g clear ones: the longest run is the greater one. -/
theorem long_clear {i g : Int} {l : List Int} {b : Int} (_ : 0 ≤ i) (h : IsLong i l b) (g0 : 0 ≤ g) (g1 : g ≤ i) (hg : Clear l (i - g) g) (hm : g = i ∨ bitAt l (i - g - 1).toNat = true) (hb : bitAt l i.toNat = false) : Clear l (i - g) (g + 1) ∧ IsLong (i + 1) l (if g + 1 > b then g + 1 else b) := by
  have b0 := h.ge
  have b1 := h.le
  have hc : Clear l (i - g) (g + 1) := fun j j0 j1 => by
    by_cases e : j = i
    · rw [e]; exact hb
    · exact hg j j0 (by omega)
  refine ⟨hc, ?_⟩
  by_cases c : g + 1 > b
  · rw [if_pos c]
    have hgb : g ≤ b := by
      by_cases c1 : 1 ≤ g
      · exact (h.has c1).1 ⟨i - g, by omega, by omega, hg⟩
      · omega
    refine ⟨by omega, by omega, fun _ => ⟨i - g, by omega, by omega, hc⟩, ?_⟩
    rintro ⟨s, s0, s1, s2⟩
    exact h.no ⟨s, s0, by omega, fun j j0 j1 => s2 j j0 (by omega)⟩
  · rw [if_neg c]
    refine ⟨b0, by omega, fun h1 => ?_, ?_⟩
    · obtain ⟨s, s0, s1, s2⟩ := h.so h1
      exact ⟨s, s0, by omega, s2⟩
    · rintro ⟨s, s0, s1, s2⟩
      by_cases c2 : s + (b + 1) ≤ i
      · exact h.no ⟨s, s0, c2, s2⟩
      · rcases hm with e | e
        · omega
        · have := s2 (i - g - 1) (by omega) (by omega)
          rw [e] at this; cases this
theorem rlong_l {n : Int} {l : List Int} (hw : Words l) (hf : BFit n l) : ∀ (d : Nat) (i b g : Int), 0 ≤ i → n - i = d → 0 ≤ g → g ≤ i → IsLong i l b → Clear l (i - g) g → (g = i ∨ bitAt l (i - g - 1).toNat = true) → ∃ c, IsLong n l c ∧ Ev (fun k => besomref03_Longest.l0 k b g i n l) (c, 0) := by
  have f := hf
  obtain ⟨f0, f1, f2, _⟩ := f
  intro d
  induction d with
  | zero =>
    intro i b g i0 hd _ _ hb _ _
    have e : i = n := by omega
    subst e
    refine ⟨b, hb, ev_of (K := 1) fun k hk => ?_⟩
    obtain ⟨k, rfl⟩ : ∃ m, k = m + 1 := ⟨k - 1, by omega⟩
    rw [besomref03_Longest.l0, if_neg (by omega)]
  | succ d ih =>
    intro i b g i0 hd g0 g1 hb hg hm
    have is := ris_eq hw n i (by omega) (by omega) (by omega)
    have b0 := hb.ge
    cases hbit : bitAt l i.toNat with
    | true =>
      obtain ⟨c, hc, he⟩ := ih (i + 1) b 0 (by omega) (by omega) (by omega) (by omega) (long_set i0 hb hbit) (fun j j0 j1 => by omega) (.inr (by rw [show i + 1 - 0 - 1 = i by omega]; exact hbit))
      refine ⟨c, hc, ev_succ (f := fun k => besomref03_Longest.l0 k b 0 (i + 1) n l) (fun k => ?_) he⟩
      rw [besomref03_Longest.l0, if_pos (by omega), is, Option.bind_some, if_pos hbit, if_neg (by omega), w64 (by omega) (by omega)]
    | false =>
      obtain ⟨h1, h2⟩ := long_clear i0 hb g0 g1 hg hm hbit
      obtain ⟨c, hc, he⟩ := ih (i + 1) (if g + 1 > b then g + 1 else b) (g + 1) (by omega) (by omega) (by omega) (by omega) h2 (by rw [show i + 1 - (g + 1) = i - g by omega]; exact h1) (by
        rcases hm with e | e
        · exact .inl (by omega)
        · exact .inr (by rw [show i + 1 - (g + 1) - 1 = i - g - 1 by omega]; exact e))
      refine ⟨c, hc, ev_succ (f := fun k => besomref03_Longest.l0 k (if g + 1 > b then g + 1 else b) (g + 1) (i + 1) n l) (fun k => ?_) he⟩
      rw [besomref03_Longest.l0, if_pos (by omega), is, Option.bind_some, hbit, if_neg (by decide), w64 (a := g + 1) (by omega) (by omega), w64 (a := i + 1) (by omega) (by omega)]
      by_cases c1 : g + 1 > b
      · rw [if_pos c1, if_pos c1]
      · rw [if_neg c1, if_neg c1]
theorem both_long (n : Int) (l : List Int) (hw : Words l) (hl : l.length < 17592186044416) : ∃ r : Int × Int, Ev (fun k => pages_Longest.f k n l) r ∧ Ev (fun k => besomref03_Longest.f k n l) r := by
  have hc := rcheck3_ev (n := n) hw hl
  rcases long_ev (n := n) hw hl with ⟨hn, hE⟩ | ⟨hf, b, hb, hE⟩
  · refine ⟨_, hE, ?_⟩
    rw [chk_bad hn] at hc
    unfold besomref03_Longest.f
    refine Ev.bind hc ?_
    simp only [show ¬ ((2 : Int) = 0) by decide, if_false]; exact ev_const rfl
  · refine ⟨_, hE, ?_⟩
    rw [chk_good hf] at hc
    obtain ⟨c, hc2, he⟩ := rlong_l hw hf n.toNat 0 0 0 (by omega) (by have := hf.1; omega) (by omega) (by omega) ⟨by omega, by omega, fun h => by omega, fun ⟨s, s0, s1, _⟩ => by omega⟩ (fun j j0 j1 => by omega) (.inl rfl)
    rw [hb.eq hc2]
    unfold besomref03_Longest.f
    refine Ev.bind hc ?_
    simp only [if_true]; exact he
theorem make3 (n : Int) : ∃ r : Int × List Int × Int, pages_Make.f n = some r ∧ besomref03_Make.f n = some r ∧ r.2.1.length < 17592186044416 := by
  unfold pages_Make.f besomref03_Make.f bits_Make.f besomref01_Make.f
  by_cases h0 : n < 0
  · rw [if_pos h0, if_pos h0]; exact ⟨_, rfl, rfl, by decide⟩
  by_cases h1 : n > 4096
  · rw [if_neg h0, if_neg h0, if_pos h1, if_pos h1]; exact ⟨_, rfl, rfl, by decide⟩
  rw [words_n (by omega) (by omega), rwords_n (by omega) (by omega), if_neg h0, if_neg h1, if_pos (by omega), if_pos (by omega)]
  exact ⟨_, rfl, rfl, by simp; omega⟩

end Go.Proofs.YthphncefbahcaaaDoor.PuPagesAskRQ
