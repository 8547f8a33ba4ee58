/- A run is taken where the first one fits: no earlier page begins one. -/
import Derived.Test.YthphncefbahcaaaDoorGPx5
import Derived.Test.YthphncefbahcaaaDoorPuPagesP
namespace Go.Proofs.YthphncefbahcaaaDoor.Pure
open Go.RowKit Go.Proofs.YthphncefbahcaaaDoorW.PrintWords Go.Proofs.YthphncefbahcaaaDoorW.PrintLast Go.Proofs.YthphncefbahcaaaDoor.GP Go.Proofs.YthphncefbahcaaaDoor.Pu Go.Proofs.YthphncefbahcaaaDoor.PuBitW Go.Proofs.YthphncefbahcaaaDoor.PuBitsP Go.Proofs.YthphncefbahcaaaDoor.PuBitsLayP Go.Proofs.YthphncefbahcaaaDoor.PuBitsCountLP Go.Proofs.YthphncefbahcaaaDoor.PuBitsFirstP Go.Proofs.YthphncefbahcaaaDoor.PuBitsRunIP Go.Proofs.YthphncefbahcaaaDoor.PuBitsFillJP Go.Proofs.YthphncefbahcaaaDoor.PuPagesP

theorem l0_true {n : Int} {l : List Int} (hW : Words l) (hl : l.length < 17592186044416) (hf : BFit n l) (ct i : Int) (h0 : 0 ≤ i) (h2 : i + ct ≤ n) (hs : ¬ Clear l i ct) : ∀ (d : Nat) (x : Int), 0 ≤ x → ct - x = d → (∀ j : Int, i ≤ j → j < i + x → bitAt l j.toNat = false) → Ev (fun k => besomlaw03_PagesFirst.l0 k ct i x n l) true := by
  have g := hf
  obtain ⟨g0, g1, g2, _⟩ := g
  intro d
  induction d with
  | zero =>
    intro x x0 xd hx
    exfalso; apply hs
    intro j j0 j1
    exact hx j j0 (by omega)
  | succ d ih =>
    intro x x0 xd hx
    refine ev_succ (f := fun k => (bits_Get.f k n l (wrap64 (i + x))).bind fun bt388 => (if bt388.2 = 0 then (if bt388.1 = true then (some true) else (besomlaw03_PagesFirst.l0 k ct i (wrap64 (x + 1)) n l)) else (some true))) (fun k => by rw [besomlaw03_PagesFirst.l0, if_pos (by omega)]) ?_
    have e1 := get_ev (n := n) hW hl (i + x)
    have e2 : getS n l (i + x) = (bitAt l (i + x).toNat, 0) := by unfold getS; rw [if_pos hf, if_neg (by omega), if_neg (by omega)]
    rw [e2] at e1
    rw [w64 (by omega) (by omega), w64 (a := x + 1) (by omega) (by omega)]
    refine Ev.bind e1 ?_
    cases hb : bitAt l (i + x).toNat with
    | true => simp only [if_true]; exact ev_const rfl
    | false =>
      simp only [if_true, Bool.false_eq_true, if_false]
      refine ih (x + 1) (by omega) (by omega) (fun j j0 j1 => ?_)
      by_cases e : j = i + x
      · rw [e]; exact hb
      · exact hx j j0 (by omega)
theorem PagesFirst : ∀ (n0 : Int) (l0 : List Int) (a1 : Int) (a2 : Int), (Lit.int .i64 n0).wf = true → l0.length ≤ maxLen → l0.length * 8 ≤ 140737488351232 → (∀ x ∈ l0, (Lit.int .u64 x).wf = true) → (Lit.int .i64 a1).wf = true → (Lit.int .i64 a2).wf = true → ∃ k, besomlaw03_PagesFirst.f k n0 l0 a1 a2 = some true := by
  intro n l ct i _ _ hs hw hc _
  have hl : l.length < 17592186044416 := by omega
  have hW := words_of hw
  have hct := (wf_i64 hc).2
  refine Ev.rounds (g := fun k => besomlaw03_PagesFirst.f k n l ct i) ?_
  unfold besomlaw03_PagesFirst.f
  refine Ev.bind lives_ev ?_
  simp only [if_true]
  have no : Ev (fun k => besomlaw03_PagesFirst.j0 k ct i true n l) true := ev_succ (f := fun _ => some true) (fun k => by simp [besomlaw03_PagesFirst.j0]) (ev_const rfl)
  rcases Take_ev (n := n) hW hl ct hct with ⟨hn, hE⟩ | ⟨hf, ⟨hr, hE⟩ | ⟨hr, ⟨s, hs, hE⟩ | ⟨hn, hE⟩⟩⟩
  · refine Ev.bind hE ?_
    simp only [show ¬ ((2 : Int) = 0) by decide, if_false]; exact no
  · refine Ev.bind hE ?_
    simp only [show ¬ ((1 : Int) = 0) by decide, if_false]; exact no
  · refine Ev.bind hE ?_
    simp only [if_true]
    by_cases c0 : i < 0
    · simp only [c0, if_true]; exact no
    simp only [c0, if_false]
    by_cases c1 : i ≥ s
    · simp only [c1, decide_true]; exact no
    simp only [c1, decide_false]
    refine ev_succ (f := fun k => besomlaw03_PagesFirst.l0 k ct i 0 n l) (fun k => by simp [besomlaw03_PagesFirst.j0]) ?_
    have s1 := hs.le
    exact l0_true hW hl hf ct i (by omega) (by omega) (hs.no i (by omega) (by omega) (by omega)) ct.toNat 0 (by omega) (by omega) (fun j j0 j1 => by omega)
  · refine Ev.bind hE ?_
    simp only [show ¬ ((6 : Int) = 0) by decide, if_false]; exact no

end Go.Proofs.YthphncefbahcaaaDoor.Pure
