/- What the functions of package pages come to. -/
import Derived.Test.YthphncefbahcaaaDoorGTx2
import Derived.Test.YthphncefbahcaaaDoorGTx3
import Derived.Test.YthphncefbahcaaaDoorGTx3
import Derived.Test.YthphncefbahcaaaDoorGTx3
import Derived.Test.YthphncefbahcaaaDoorPuBitsFillJT
import Derived.Test.YthphncefbahcaaaDoorPuBitsRunIT
namespace Go.Proofs.YthphncefbahcaaaDoor.PuPagesT
open Go.RowKit Go.Proofs.YthphncefbahcaaaDoorW.PrintWords Go.Proofs.YthphncefbahcaaaDoorW.PrintLast Go.Proofs.YthphncefbahcaaaDoorW.PrintMore Go.Proofs.YthphncefbahcaaaDoor.GT Go.Proofs.YthphncefbahcaaaDoor.Pu Go.Proofs.YthphncefbahcaaaDoor.PuBitW Go.Proofs.YthphncefbahcaaaDoor.PuBitsT Go.Proofs.YthphncefbahcaaaDoor.PuBitsLayT Go.Proofs.YthphncefbahcaaaDoor.PuBitsCountLT Go.Proofs.YthphncefbahcaaaDoor.PuBitsFirstT Go.Proofs.YthphncefbahcaaaDoor.PuBitsRunIT Go.Proofs.YthphncefbahcaaaDoor.PuBitsFillJT

/-- Somewhere ct places are clear. -/
def HasRun (n : Int) (l : List Int) (ct : Int) : Prop := ∃ s : Int, 0 ≤ s ∧ s + ct ≤ n ∧ Clear l s ct
theorem has_of_is {n : Int} {l : List Int} {ct s : Int} (h : IsRun n l ct 0 s) : HasRun n l ct := ⟨s, h.ge, h.le, h.so⟩
theorem has_not {n : Int} {l : List Int} {ct : Int} (hct : 1 ≤ ct) (h : NoRun n l ct 0 n) : ¬ HasRun n l ct := fun ⟨s, h0, h1, h2⟩ => h s h0 (by omega) h1 h2
theorem has_less {n : Int} {l : List Int} {c d : Int} (h : HasRun n l c) (hd : d ≤ c) : HasRun n l d := by
  obtain ⟨s, h0, h1, h2⟩ := h
  exact ⟨s, h0, by omega, fun i i0 i1 => h2 i i0 (by omega)⟩
/-- b is the longest run's length. -/
structure IsLong (n : Int) (l : List Int) (b : Int) : Prop where
  ge : 0 ≤ b
  le : b ≤ n
  so : 1 ≤ b → HasRun n l b
  no : ¬ HasRun n l (b + 1)
theorem IsLong.eq {n : Int} {l : List Int} {b c : Int} (h : IsLong n l b) (g : IsLong n l c) : b = c := by
  have := h.ge
  have := g.ge
  rcases Int.lt_trichotomy b c with x | x | x
  · exact absurd (has_less (g.so (by omega)) (by omega)) h.no
  · exact x
  · exact absurd (has_less (h.so (by omega)) (by omega)) g.no
theorem IsLong.has {n : Int} {l : List Int} {b c : Int} (h : IsLong n l b) (h1 : 1 ≤ c) : HasRun n l c ↔ c ≤ b := by
  constructor
  · intro hh
    apply Classical.byContradiction; intro x
    exact h.no (has_less hh (by omega))
  · intro hh; exact has_less (h.so (by omega)) hh
/-- So many bits clear one behind the other leave no more than the rest. -/
theorem cnt_clear {n : Int} {l : List Int} {c : Int} (h : HasRun n l c) (hc : 0 ≤ c) (hn : 0 ≤ n) : ((cntI l 0 n.toNat : Nat) : Int) + c ≤ n := by
  obtain ⟨s, h0, h1, h2⟩ := h
  have a := cntI_split l s.toNat 0 (c.toNat + (n.toNat - (s.toNat + c.toNat)))
  have a2 := cntI_split l c.toNat (0 + s.toNat) (n.toNat - (s.toNat + c.toNat))
  rw [show s.toNat + (c.toNat + (n.toNat - (s.toNat + c.toNat))) = n.toNat by omega] at a
  have z := cntI_zero l c.toNat (0 + s.toNat) (fun j j0 j1 => by have := h2 (j : Int) (by omega) (by omega); rwa [Int.toNat_natCast] at this)
  have l1 := cntI_le l s.toNat 0
  have l2 := cntI_le l (n.toNat - (s.toNat + c.toNat)) (0 + s.toNat + c.toNat)
  omega

theorem pcheck_ev {n : Int} {l : List Int} (hw : Words l) (hl : l.length < 17592186044416) : Ev (fun k => pages_Check.f k n l) (chk n l) := by
  unfold pages_Check.f
  exact Ev.bind (check_ev hw hl) (ev_const rfl)
theorem pown_eq (n : Int) (l : List Int) (h : l.length < 17592186044416) : pages_Own.f n l = some (n, l) := by
  unfold pages_Own.f
  rw [own_eq n l h]; rfl
theorem fillS_ok {n : Int} {l : List Int} (hf : BFit n l) (fr ct : Int) (v : Bool) (h0 : 0 ≤ fr) (h1 : 0 ≤ ct) (h2 : fr + ct ≤ n) : fillS n l fr ct v = (n, fillAt v fr.toNat ct.toNat 0 l, 0) := by
  unfold fillS; rw [if_pos hf, if_neg (by omega), if_neg (by omega), if_neg (by omega), if_neg (by omega)]
/-- The package's Take. -/
theorem Take_ev {n : Int} {l : List Int} (hw : Words l) (hl : l.length < 17592186044416) (ct : Int) (hct2 : ct ≤ 9223372036854775807) :
    (¬ BFit n l ∧ Ev (fun k => pages_Take.f k n l ct) (0, [], 0, 2)) ∨ (BFit n l ∧ (ct < 1 ∧ Ev (fun k => pages_Take.f k n l ct) (n, l, 0, 1) ∨ 1 ≤ ct ∧ ((∃ s, IsRun n l ct 0 s ∧ Ev (fun k => pages_Take.f k n l ct) (n, fillAt true s.toNat ct.toNat 0 l, s, 0)) ∨ (NoRun n l ct 0 n ∧ Ev (fun k => pages_Take.f k n l ct) (n, l, 0, 6))))) := by
  have hc := pcheck_ev (n := n) hw hl
  have start : ∀ r, chk n l = 0 → Ev (fun k => (bits_Run.f k n l ct).bind fun r => if r.2 = 3 then some (n, l, 0, 6) else if r.2 = 0 then ((bits_Fill.f k n l r.1 ct true).bind fun q => if q.2.2 = 0 then some (q.1, q.2.1, r.1, 0) else none) else some (n, l, r.1, r.2)) r → Ev (fun k => pages_Take.f k n l ct) r := by
    intro r h0 hr
    unfold pages_Take.f
    rw [h0] at hc
    refine Ev.bind hc ?_
    simp only [if_true]
    exact Ev.bind (ev_const (pown_eq n l hl)) hr
  rcases Run_ev (n := n) hw hl ct hct2 with ⟨hf, hE⟩ | ⟨hf, ⟨hr, hE⟩ | ⟨hr, ⟨s, hs, hE⟩ | ⟨hs, hE⟩⟩⟩
  · refine .inl ⟨hf, ?_⟩
    rw [chk_bad hf] at hc
    unfold pages_Take.f
    refine Ev.bind hc ?_
    simp only [show ¬ ((2 : Int) = 0) by decide, if_false]; exact ev_const rfl
  · refine .inr ⟨hf, .inl ⟨hr, start _ (chk_good hf) (Ev.bind hE ?_)⟩⟩
    simp only [show ¬ ((1 : Int) = 3) by decide, show ¬ ((1 : Int) = 0) by decide, if_false]; exact ev_const rfl
  · refine .inr ⟨hf, .inr ⟨hr, .inl ⟨s, hs, start _ (chk_good hf) (Ev.bind hE ?_)⟩⟩⟩
    simp only [show ¬ ((0 : Int) = 3) by decide, if_false, if_true]
    have e := fill_ev (n := n) hw hl s ct true
    rw [fillS_ok hf s ct true hs.ge (by omega) hs.le] at e
    refine Ev.bind e ?_
    simp only [if_true]; exact ev_const rfl
  · refine .inr ⟨hf, .inr ⟨hr, .inr ⟨hs, start _ (chk_good hf) (Ev.bind hE ?_)⟩⟩⟩
    simp only [if_true]; exact ev_const rfl
/-- From s on ct places are set. -/
def AllSet (l : List Int) (s ct : Int) : Prop := ∀ i : Int, s ≤ i → i < s + ct → bitAt l i.toNat = true
/-- The package's Give. -/
theorem Give_ev {n : Int} {l : List Int} (hw : Words l) (hl : l.length < 17592186044416) (fr ct : Int) :
    (¬ BFit n l ∧ Ev (fun k => pages_Give.f k n l fr ct) (0, [], 2)) ∨ (BFit n l ∧ (¬ (0 ≤ fr ∧ 1 ≤ ct ∧ ct ≤ n ∧ fr ≤ n - ct) ∧ Ev (fun k => pages_Give.f k n l fr ct) (n, l, 1) ∨ (0 ≤ fr ∧ 1 ≤ ct ∧ ct ≤ n ∧ fr ≤ n - ct) ∧ (AllSet l fr ct ∧ Ev (fun k => pages_Give.f k n l fr ct) (n, fillAt false fr.toNat ct.toNat 0 l, 0) ∨ ¬ AllSet l fr ct ∧ Ev (fun k => pages_Give.f k n l fr ct) (n, l, 5)))) := by
  have hc := pcheck_ev (n := n) hw hl
  by_cases hf : BFit n l
  · refine .inr ⟨hf, ?_⟩
    rw [chk_good hf] at hc
    have g := hf
    obtain ⟨g0, g1, g2, _⟩ := g
    have start : ∀ r, Ev (fun k => if fr < 0 then some (n, l, 1) else if ct < 1 then some (n, l, 1) else if ct > n then some (n, l, 1) else if fr > wrap64 (n - ct) then some (n, l, 1) else (bits_First.f k n l fr false).bind fun r => if r.2 = 0 ∧ r.1 < wrap64 (fr + ct) then some (n, l, 5) else ((bits_Fill.f k n l fr ct false).bind fun q => if q.2.2 = 0 then some (q.1, q.2.1, 0) else none)) r → Ev (fun k => pages_Give.f k n l fr ct) r := by
      intro r hr
      unfold pages_Give.f
      refine Ev.bind hc ?_
      simp only [if_true]
      exact Ev.bind (ev_const (pown_eq n l hl)) hr
    by_cases c0 : fr < 0
    · refine .inl ⟨by omega, start _ ?_⟩
      simp only [c0, if_true]; exact ev_const rfl
    by_cases c1 : ct < 1
    · refine .inl ⟨by omega, start _ ?_⟩
      simp only [c0, c1, if_true, if_false]; exact ev_const rfl
    by_cases c2 : ct > n
    · refine .inl ⟨by omega, start _ ?_⟩
      simp only [c0, c1, c2, if_true, if_false]; exact ev_const rfl
    have ew : wrap64 (n - ct) = n - ct := w64 (by omega) (by omega)
    by_cases c3 : fr > n - ct
    · refine .inl ⟨by omega, start _ ?_⟩
      simp only [c0, c1, c2, ew, c3, if_true, if_false]; exact ev_const rfl
    refine .inr ⟨by omega, ?_⟩
    have ew2 : wrap64 (fr + ct) = fr + ct := w64 (by omega) (by omega)
    rcases First_ev (n := n) hw hl fr false with ⟨hn, _⟩ | ⟨_, ⟨hr, _⟩ | ⟨hr, R, hR, hE⟩⟩
    · exact absurd hf hn
    · omega
    have e := fill_ev (n := n) hw hl fr ct false
    rw [fillS_ok hf fr ct false (by omega) (by omega) (by omega)] at e
    have rge := hR.ge
    have rle := hR.le
    by_cases c4 : R < fr + ct
    · refine .inr ⟨fun ha => ?_, start _ ?_⟩
      · have := ha R rge c4
        rw [hR.so (by omega)] at this; cases this
      · simp only [c0, c1, c2, ew, c3, if_false]
        refine Ev.bind hE ?_
        rw [if_neg (by omega)]
        simp only [ew2, c4, and_self, if_true]; exact ev_const rfl
    · refine .inl ⟨fun i i0 i1 => by have := hR.no i i0 (by omega); simpa using this, start _ ?_⟩
      simp only [c0, c1, c2, ew, c3, if_false]
      refine Ev.bind hE ?_
      have no : ¬ ((if R = n then ((0 : Int), (3 : Int)) else (R, 0)).2 = 0 ∧ (if R = n then ((0 : Int), (3 : Int)) else (R, 0)).1 < fr + ct) := by
        by_cases c5 : R = n
        · rw [if_pos c5]; rintro ⟨h, _⟩; exact absurd h (by decide)
        · rw [if_neg c5]; rintro ⟨_, h⟩; exact c4 h
      simp only [ew2, no, if_false]
      refine Ev.bind e ?_
      simp only [if_true]; exact ev_const rfl
  · rw [chk_bad hf] at hc
    refine .inl ⟨hf, ?_⟩
    unfold pages_Give.f
    refine Ev.bind hc ?_
    simp only [show ¬ ((2 : Int) = 0) by decide, if_false]; exact ev_const rfl
/-- The package's Free. -/
noncomputable def freeS (n : Int) (l : List Int) : Int × Int := if BFit n l then (n - (cntI l 0 n.toNat : Nat), 0) else (0, 2)
theorem free_ev {n : Int} {l : List Int} (hw : Words l) (hl : l.length < 17592186044416) : Ev (fun k => pages_Free.f k n l) (freeS n l) := by
  unfold pages_Free.f
  refine Ev.bind (count_ev hw hl) ?_
  unfold countS freeS
  by_cases hf : BFit n l
  · have g := hf
    obtain ⟨g0, g1, g2, _⟩ := g
    have := cntI_le l n.toNat 0
    rw [if_pos hf, if_pos hf]
    simp only [if_true]
    rw [w64 (by omega) (by omega)]; exact ev_const rfl
  · rw [if_neg hf, if_neg hf]; exact ev_const rfl
theorem long_l {n : Int} {l : List Int} (hw : Words l) (hf : BFit n l) : ∀ (d : Nat) (b : Int), 0 ≤ b → b ≤ n → n - b = d → (1 ≤ b → HasRun n l b) → ∃ c, IsLong n l c ∧ Ev (fun k => pages_Longest.l0 k b n l) (c, 0) := by
  have g := hf
  obtain ⟨g0, g1, g2, _⟩ := g
  have hl : l.length < 17592186044416 := by omega
  intro d
  induction d with
  | zero =>
    intro b h0 h1 hd hh
    have no : ¬ HasRun n l (b + 1) := fun ⟨s, s0, s1, _⟩ => by omega
    refine ⟨b, ⟨h0, h1, hh, no⟩, ?_⟩
    refine ev_succ (f := fun k => _) (fun k => by rw [pages_Longest.l0, w64 (a := b + 1) (by omega) (by omega)]) ?_
    rcases Run_ev (n := n) hw hl (b + 1) (by omega) with ⟨hn, _⟩ | ⟨_, ⟨hr, _⟩ | ⟨hr, ⟨s, hs, _⟩ | ⟨hs, hE⟩⟩⟩
    · exact absurd hf hn
    · omega
    · exact absurd (has_of_is hs) no
    · refine Ev.bind hE ?_
      simp only [show ¬ ((3 : Int) = 0) by decide, if_false]; exact ev_const rfl
  | succ d ih =>
    intro b h0 h1 hd hh
    rcases Run_ev (n := n) hw hl (b + 1) (by omega) with ⟨hn, _⟩ | ⟨_, ⟨hr, _⟩ | ⟨hr, ⟨s, hs, hE⟩ | ⟨hs, hE⟩⟩⟩
    · exact absurd hf hn
    · omega
    · obtain ⟨c, hc, he⟩ := ih (b + 1) (by omega) (by omega) (by omega) (fun _ => has_of_is hs)
      refine ⟨c, hc, ev_succ (f := fun k => _) (fun k => by rw [pages_Longest.l0, w64 (a := b + 1) (by omega) (by omega)]) (Ev.bind hE ?_)⟩
      simp only [if_true]; exact he
    · refine ⟨b, ⟨h0, h1, hh, has_not (by omega) hs⟩, ev_succ (f := fun k => _) (fun k => by rw [pages_Longest.l0, w64 (a := b + 1) (by omega) (by omega)]) (Ev.bind hE ?_)⟩
      simp only [show ¬ ((3 : Int) = 0) by decide, if_false]; exact ev_const rfl
/-- The package's Longest. -/
theorem long_ev {n : Int} {l : List Int} (hw : Words l) (hl : l.length < 17592186044416) :
    (¬ BFit n l ∧ Ev (fun k => pages_Longest.f k n l) (0, 2)) ∨ (BFit n l ∧ ∃ b, IsLong n l b ∧ Ev (fun k => pages_Longest.f k n l) (b, 0)) := by
  have hc := pcheck_ev (n := n) hw hl
  by_cases hf : BFit n l
  · refine .inr ⟨hf, ?_⟩
    rw [chk_good hf] at hc
    obtain ⟨b, hb, he⟩ := long_l hw hf n.toNat 0 (by omega) hf.1 (by have := hf.1; omega) (fun h => by omega)
    refine ⟨b, hb, ?_⟩
    unfold pages_Longest.f
    refine Ev.bind hc ?_
    simp only [if_true]; exact he
  · rw [chk_bad hf] at hc
    refine .inl ⟨hf, ?_⟩
    unfold pages_Longest.f
    refine Ev.bind hc ?_
    simp only [show ¬ ((2 : Int) = 0) by decide, if_false]; exact ev_const rfl

end Go.Proofs.YthphncefbahcaaaDoor.PuPagesT
