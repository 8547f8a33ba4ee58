/- What a run is told are bits that are 0, one behind the other; filled, they are it no more; the bit ahead is 1. -/
import Derived.Test.YthphncefbahcaaaDoorGBx9
import Derived.Test.YthphncefbahcaaaDoorPuBitsFillI
import Derived.Test.YthphncefbahcaaaDoorPuBitsRunI
import Derived.Test.YthphncefbahcaaaDoorPuBitsBoth
namespace Go.Proofs.YthphncefbahcaaaDoor.Pure
open Go.RowKit Go.Proofs.YthphncefbahcaaaDoorW.PrintWords Go.Proofs.YthphncefbahcaaaDoorW.PrintLast Go.Proofs.YthphncefbahcaaaDoor.GB Go.Proofs.YthphncefbahcaaaDoor.Pu Go.Proofs.YthphncefbahcaaaDoor.PuBitW Go.Proofs.YthphncefbahcaaaDoor.PuBits Go.Proofs.YthphncefbahcaaaDoor.PuBitsPutI Go.Proofs.YthphncefbahcaaaDoor.PuBitsCountL Go.Proofs.YthphncefbahcaaaDoor.PuBitsFirst Go.Proofs.YthphncefbahcaaaDoor.PuBitsRunI Go.Proofs.YthphncefbahcaaaDoor.PuBitsFillI Go.Proofs.YthphncefbahcaaaDoor.PuBitsBoth

/-- The last part: filled, counted, and searched again. -/
theorem j2_true {n : Int} {l : List Int} (hW : Words l) (hf : BFit n l) (ct s : Int) (h0 : 0 ≤ s) (h1 : 1 ≤ ct) (h2 : s + ct ≤ n) (hs : IsRun n l ct 0 s) : Ev (fun k => besomlaw01_BitsRun.j2 k ct s n l) true := by
  have g := hf
  obtain ⟨g0, g1, g2, _⟩ := g
  have hl : l.length < 17592186044416 := by omega
  have eF := fill_ev (n := n) hW hl s ct true
  have e : fillS n l s ct true = (n, fillAt true s.toNat ct.toNat 0 l, 0) := by
    unfold fillS; rw [if_pos hf, if_neg (by omega), if_neg (by omega), if_neg (by omega), if_neg (by omega)]
  rw [e] at eF
  have hA := fillAt_words true s.toNat ct.toNat 0 hW
  have lA : (fillAt true s.toNat ct.toNat 0 l).length = l.length := fillAt_len _ _ _ _ _
  have fA := fill_fit hW hf true s.toNat ct.toNat (by omega)
  have bA : ∀ j, bitAt (fillAt true s.toNat ct.toNat 0 l) j = if s.toNat + 0 ≤ j ∧ j < s.toNat + 0 + ct.toNat then true else bitAt l j := fun j => fillAt_bit true _ _ 0 j hW (by omega)
  generalize fillAt true s.toNat ct.toNat 0 l = A at *
  have cA := count_ev (n := n) hA (by omega)
  have cL := count_ev (n := n) hW hl
  unfold countS at cA cL
  rw [if_pos fA] at cA
  rw [if_pos hf] at cL
  have cn := cntI_run l A n.toNat s.toNat ct.toNat (by omega) (fun j j0 j1 => by have := hs.so (j : Int) (by omega) (by omega); rwa [Int.toNat_natCast] at this) (fun j j0 j1 => by rw [bA, if_pos (by omega)]) (fun j j0 j1 => by rw [bA, if_neg (by omega)])
  have le := cntI_le l n.toNat 0
  have hd : wrap64 (((cntI A 0 n.toNat : Nat) : Int) - ((cntI l 0 n.toNat : Nat) : Int)) = ct := by
    rw [w64 (by omega) (by omega), cn]; omega
  have hw2 : wrap64 (s + ct) = s + ct := w64 (by omega) (by omega)
  have last : ∀ r : Int × Int, (r.2 = 3 ∨ (r.2 = 0 ∧ r.1 ≥ s + ct)) → Ev (fun k => bits_Run.f k n A ct) r → Ev (fun k => besomlaw01_BitsRun.j2 k ct s n l) true := by
    intro r hr hE
    refine ev_succ (f := fun k => _) (fun k => by rw [besomlaw01_BitsRun.j2]) (Ev.bind eF (Ev.bind hE (Ev.bind cL (Ev.bind cA ?_))))
    rcases hr with c | ⟨c, c2⟩
    · simp only [c, if_true, hd]; refine ev_const ?_; simp
    · simp only [c, show ¬ ((0 : Int) = 3) by decide, if_true, if_false, hw2, c2, hd]; refine ev_const ?_; simp
  rcases Run_ev (n := n) hA (by omega) ct (by omega) with ⟨hn, _⟩ | ⟨_, ⟨hr, hE⟩ | ⟨hr, ⟨u, hsr, hE⟩ | ⟨hn, hE⟩⟩⟩
  · exact absurd fA hn
  · omega
  · refine last _ (.inr ⟨rfl, ?_⟩) hE
    apply Classical.byContradiction; intro hh
    have u0 := hsr.ge
    have u1 := hsr.le
    have hh2 : u < s + ct := by omega
    by_cases c : u + ct ≤ s
    · refine hs.no u u0 (by omega) (by omega) (fun i i0 i1 => ?_)
      have := hsr.so i i0 i1
      rwa [bA, if_neg (by omega)] at this
    · by_cases c2 : s ≤ u
      · have := hsr.so u (by omega) (by omega)
        rw [bA, if_pos (by omega)] at this; cases this
      · have := hsr.so s (by omega) (by omega)
        rw [bA, if_pos (by omega)] at this; cases this
  · exact last _ (.inl rfl) hE
theorem l0_true {n : Int} {l : List Int} (hW : Words l) (hf : BFit n l) (ct s : Int) (h0 : 0 ≤ s) (h1 : 1 ≤ ct) (h2 : s + ct ≤ n) (hs : IsRun n l ct 0 s) : ∀ (d : Nat) (x : Int), 0 ≤ x → ct - x = d → Ev (fun k => besomlaw01_BitsRun.l0 k ct s x n l) true := by
  have g := hf
  obtain ⟨g0, g1, g2, _⟩ := g
  have hl : l.length < 17592186044416 := by omega
  have gS : ∀ i : Int, 0 ≤ i → i < n → getS n l i = (bitAt l i.toNat, 0) := fun i i0 i1 => by unfold getS; rw [if_pos hf, if_neg (by omega), if_neg (by omega)]
  intro d
  induction d with
  | zero =>
    intro x x0 xd
    have fin := j2_true hW hf ct s h0 h1 h2 hs
    by_cases c : s > 0
    · refine ev_succ (f := fun k => (bits_Get.f k n l (wrap64 (s - 1))).bind fun bt215 => (if bt215.2 = 0 then (if bt215.1 = true then (besomlaw01_BitsRun.j2 k ct s n l) else (some false)) else (some false))) (fun k => by rw [besomlaw01_BitsRun.l0, if_neg (by omega), if_pos c]) ?_
      have e1 := get_ev (n := n) hW hl (s - 1)
      rw [gS (s - 1) (by omega) (by omega)] at e1
      have hb : bitAt l (s - 1).toNat = true := by
        cases hh : bitAt l (s - 1).toNat with
        | true => rfl
        | false =>
          exfalso
          refine hs.no (s - 1) (by omega) (by omega) (by omega) (fun i i0 i1 => ?_)
          by_cases e : i = s - 1
          · rw [e]; exact hh
          · exact hs.so i (by omega) (by omega)
      rw [w64 (by omega) (by omega)]
      refine Ev.bind e1 ?_
      simp only [hb, if_true]
      exact fin
    · exact ev_succ (f := fun k => besomlaw01_BitsRun.j2 k ct s n l) (fun k => by rw [besomlaw01_BitsRun.l0, if_neg (by omega), if_neg c]) fin
  | succ d ih =>
    intro x x0 xd
    refine ev_succ (f := fun k => (bits_Get.f k n l (wrap64 (s + x))).bind fun bt213 => (if bt213.2 = 0 then (if bt213.1 = true then (some false) else (besomlaw01_BitsRun.l0 k ct s (wrap64 (x + 1)) n l)) else (some false))) (fun k => by rw [besomlaw01_BitsRun.l0, if_pos (by omega)]) ?_
    have e1 := get_ev (n := n) hW hl (s + x)
    rw [gS (s + x) (by omega) (by omega), hs.so (s + x) (by omega) (by omega)] at e1
    rw [w64 (by omega) (by omega), w64 (a := x + 1) (by omega) (by omega)]
    refine Ev.bind e1 ?_
    simp only [if_true, Bool.false_eq_true, if_false]
    exact ih (x + 1) (by omega) (by omega)
theorem BitsRun : ∀ (n0 : Int) (l0 : List Int) (a1 : Int), (Lit.int .i64 n0).wf = true → l0.length ≤ maxLen → l0.length * 8 ≤ 140737488351232 → (∀ x ∈ l0, (Lit.int .u64 x).wf = true) → (Lit.int .i64 a1).wf = true → ∃ k, besomlaw01_BitsRun.f k n0 l0 a1 = some true := by
  intro n l ct _ _ hs hw hc
  have hl : l.length < 17592186044416 := by omega
  have hW := words_of hw
  have hct := (wf_i64 hc).2
  refine Ev.rounds (g := fun k => besomlaw01_BitsRun.f k n l ct) ?_
  unfold besomlaw01_BitsRun.f
  refine Ev.bind puts_ev ?_
  simp only [if_true]
  refine Ev.bind asks_ev ?_
  refine ev_succ (f := fun k => _) (fun k => by rw [besomlaw01_BitsRun.j0, if_neg (by decide)]) ?_
  rcases Run_ev (n := n) hW hl ct hct with ⟨hn, hE⟩ | ⟨hf, ⟨hr, hE⟩ | ⟨hr, ⟨s, hsr, hE⟩ | ⟨hn, hE⟩⟩⟩
  · refine Ev.bind hE ?_
    simp only [show ¬ ((2 : Int) = 0) by decide, if_false]; exact ev_const rfl
  · refine Ev.bind hE ?_
    simp only [show ¬ ((1 : Int) = 0) by decide, if_false]; exact ev_const rfl
  · refine Ev.bind hE ?_
    simp only [if_true]
    exact l0_true hW hf ct s hsr.ge hr hsr.le hsr ct.toNat 0 (by omega) (by omega)
  · refine Ev.bind hE ?_
    simp only [show ¬ ((3 : Int) = 0) by decide, if_false]; exact ev_const rfl

end Go.Proofs.YthphncefbahcaaaDoor.Pure
