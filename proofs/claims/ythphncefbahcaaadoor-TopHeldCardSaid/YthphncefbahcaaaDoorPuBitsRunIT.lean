/- What Run of package bits comes to: the first place where so many zeros begin. -/
import Derived.Test.YthphncefbahcaaaDoorGTx2
import Derived.Test.YthphncefbahcaaaDoorPuBitsFirstT
namespace Go.Proofs.YthphncefbahcaaaDoor.PuBitsRunIT
open Go.RowKit Go.Proofs.YthphncefbahcaaaDoorW.PrintWords Go.Proofs.YthphncefbahcaaaDoorW.PrintLast Go.Proofs.YthphncefbahcaaaDoorW.PrintMore Go.Proofs.YthphncefbahcaaaDoor.GT Go.Proofs.YthphncefbahcaaaDoor.Pu Go.Proofs.YthphncefbahcaaaDoor.PuBitW Go.Proofs.YthphncefbahcaaaDoor.PuBitsT Go.Proofs.YthphncefbahcaaaDoor.PuBitsFirstT

/-- From s on ct places are clear. -/
def Clear (l : List Int) (s ct : Int) : Prop := ∀ i : Int, s ≤ i → i < s + ct → bitAt l i.toNat = false
/-- The first such place, from at on; or none. -/
def NoRun (n : Int) (l : List Int) (ct at' b : Int) : Prop := ∀ s : Int, at' ≤ s → s < b → s + ct ≤ n → ¬ Clear l s ct
structure IsRun (n : Int) (l : List Int) (ct at' s : Int) : Prop where
  ge : at' ≤ s
  le : s + ct ≤ n
  so : Clear l s ct
  no : NoRun n l ct at' s
theorem IsRun.eq {n : Int} {l : List Int} {ct a s u : Int} (h : IsRun n l ct a s) (g : IsRun n l ct a u) : s = u := by
  rcases Int.lt_trichotomy s u with c | c | c
  · exact absurd h.so (g.no s h.ge c h.le)
  · exact c
  · exact absurd g.so (h.no u g.ge c g.le)
theorem run_l {n : Int} {l : List Int} (hw : Words l) (hf : BFit n l) (ct : Int) (hct : 1 ≤ ct) (hct2 : ct ≤ 9223372036854775807) : ∀ (d : Nat) (x : Int), 0 ≤ x → x ≤ n → n - x ≤ d → NoRun n l ct 0 x → (x < n → bitAt l x.toNat = false) →
    (∃ s, IsRun n l ct 0 s ∧ Ev (fun k => bits_Run.l0 n l ct k x) (s, 0)) ∨ (NoRun n l ct 0 n ∧ Ev (fun k => bits_Run.l0 n l ct k x) (0, 3)) := by
  have g := hf
  obtain ⟨g0, g1, g2, _⟩ := g
  intro d
  induction d with
  | zero =>
    intro x h0 h1 h2 hno hx
    refine .inr ⟨fun s s0 s1 s2 => hno s s0 (by omega) s2, ev_of (K := 1) fun k hk => ?_⟩
    obtain ⟨k, rfl⟩ : ∃ m, k = m + 1 := ⟨k - 1, by omega⟩
    simp only [bits_Run.l0]; rw [if_neg (by omega)]
  | succ d ih =>
    intro x h0 h1 h2 hno hx
    by_cases hn : x < n
    · obtain ⟨R, hR, hE⟩ := first_ev hw hf true x h0 h1
      have r0 := hR.ge
      have r1 := hR.le
      have hxR : x < R := by
        apply Classical.byContradiction; intro hh
        have : R = x := by omega
        have := hR.so (by omega)
        rw [show R = x by omega, hx hn] at this; cases this
      have hz : ∀ i : Int, x ≤ i → i < R → bitAt l i.toNat = false := fun i i0 i1 => by simpa using hR.no i i0 i1
      by_cases hc : R - x ≥ ct
      · refine .inl ⟨x, ⟨h0, by omega, fun i i0 i1 => hz i i0 (by omega), hno⟩, ev_succ (f := fun k => _) (fun k => by rw [bits_Run.l0, if_pos hn]) (Ev.bind hE ?_)⟩
        rw [w64 (by omega) (by omega)]
        simp only [hc, if_true]; exact ev_const rfl
      · obtain ⟨Q, hQ, hF⟩ := first_ev hw hf false R (by omega) r1
        have q0 := hQ.ge
        have q1 := hQ.le
        have hno2 : NoRun n l ct 0 Q := by
          intro s s0 s1 s2 hcl
          by_cases c1 : s < x
          · exact hno s s0 c1 s2 hcl
          · by_cases c2 : R < n
            · by_cases c3 : s ≤ R
              · have := hcl R c3 (by omega)
                rw [hR.so c2] at this; cases this
              · have := hcl s (by omega) (by omega)
                exact hQ.no s (by omega) s1 this
            · omega
        have nx := ih Q (by omega) q1 (by omega) hno2 (fun h => hQ.so h)
        have step : ∀ r, Ev (fun k => bits_Run.l0 n l ct k Q) r → Ev (fun k => bits_Run.l0 n l ct k x) r := by
          intro r hr
          refine ev_succ (f := fun k => _) (fun k => by rw [bits_Run.l0, if_pos hn]) (Ev.bind hE ?_)
          rw [w64 (by omega) (by omega)]
          simp only [hc, if_false]
          exact Ev.bind hF hr
        rcases nx with ⟨s, hs, he⟩ | ⟨hs, he⟩
        · exact .inl ⟨s, hs, step _ he⟩
        · exact .inr ⟨hs, step _ he⟩
    · refine .inr ⟨fun s s0 s1 s2 => hno s s0 (by omega) s2, ev_of (K := 1) fun k hk => ?_⟩
      obtain ⟨k, rfl⟩ : ∃ m, k = m + 1 := ⟨k - 1, by omega⟩
      simp only [bits_Run.l0]; rw [if_neg hn]
/-- The package's Run. -/
theorem Run_ev {n : Int} {l : List Int} (hw : Words l) (hl : l.length < 17592186044416) (ct : Int) (hct2 : ct ≤ 9223372036854775807) :
    (¬ BFit n l ∧ Ev (fun k => bits_Run.f k n l ct) (0, 2)) ∨ (BFit n l ∧ (ct < 1 ∧ Ev (fun k => bits_Run.f k n l ct) (0, 1) ∨ 1 ≤ ct ∧ ((∃ s, IsRun n l ct 0 s ∧ Ev (fun k => bits_Run.f k n l ct) (s, 0)) ∨ (NoRun n l ct 0 n ∧ Ev (fun k => bits_Run.f k n l ct) (0, 3))))) := by
  have hc := check_ev (n := n) hw hl
  by_cases hf : BFit n l
  · refine .inr ⟨hf, ?_⟩
    rw [chk_good hf] at hc
    by_cases c0 : ct < 1
    · refine .inl ⟨c0, Ev.bind hc ?_⟩
      simp only [if_true, c0]; exact ev_const rfl
    refine .inr ⟨by omega, ?_⟩
    obtain ⟨Q, hQ, hF⟩ := first_ev hw hf false 0 (by omega) hf.1
    have hno2 : NoRun n l ct 0 Q := by
      intro s s0 s1 s2 hcl
      exact hQ.no s s0 s1 (hcl s (by omega) (by omega))
    have nx := run_l hw hf ct (by omega) hct2 (n - Q).toNat Q hQ.ge hQ.le (by omega) hno2 (fun h => hQ.so h)
    have step : ∀ r, Ev (fun k => bits_Run.l0 n l ct k Q) r → Ev (fun k => bits_Run.f k n l ct) r := by
      intro r hr
      refine Ev.bind hc ?_
      simp only [if_true, c0, if_false]
      exact Ev.bind hF hr
    rcases nx with ⟨s, hs, he⟩ | ⟨hs, he⟩
    · exact .inl ⟨s, hs, step _ he⟩
    · exact .inr ⟨hs, step _ he⟩
  · rw [chk_bad hf] at hc
    refine .inl ⟨hf, Ev.bind hc ?_⟩
    simp only [show ¬ ((2 : Int) = 0) by decide, if_false]; exact ev_const rfl

end Go.Proofs.YthphncefbahcaaaDoor.PuBitsRunIT
