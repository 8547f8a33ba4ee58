/- The reference's Take and Give of layer 3 tell what the package's do. -/
import Derived.Test.YthphncefbahcaaaDoorGRx5
import Derived.Test.YthphncefbahcaaaDoorGRx6
import Derived.Test.YthphncefbahcaaaDoorGRx8
import Derived.Test.YthphncefbahcaaaDoorPuBitsRefFR
import Derived.Test.YthphncefbahcaaaDoorPuPagesR
import Derived.Test.YthphncefbahcaaaDoorPuBitsSameR
namespace Go.Proofs.YthphncefbahcaaaDoor.PuPagesTakeRR
open Go.RowKit Go.Proofs.YthphncefbahcaaaDoorW.PrintWords Go.Proofs.YthphncefbahcaaaDoorW.PrintLast Go.Proofs.YthphncefbahcaaaDoorW.PrintMore Go.Proofs.YthphncefbahcaaaDoor.GR Go.Proofs.YthphncefbahcaaaDoor.Pu Go.Proofs.YthphncefbahcaaaDoor.PuBitW Go.Proofs.YthphncefbahcaaaDoor.PuBitsR Go.Proofs.YthphncefbahcaaaDoor.PuBitsRefR Go.Proofs.YthphncefbahcaaaDoor.PuBitsLayR Go.Proofs.YthphncefbahcaaaDoor.PuBitsCountLR Go.Proofs.YthphncefbahcaaaDoor.PuBitsFirstR Go.Proofs.YthphncefbahcaaaDoor.PuBitsRunIR Go.Proofs.YthphncefbahcaaaDoor.PuBitsFillJR Go.Proofs.YthphncefbahcaaaDoor.PuBitsRefFR Go.Proofs.YthphncefbahcaaaDoor.PuPagesR Go.Proofs.YthphncefbahcaaaDoor.PuBitsSameR

theorem rcheck3_ev {n : Int} {l : List Int} (hw : Words l) (hl : l.length < 17592186044416) : Ev (fun k => besomref03_Check.f k n l) (chk n l) := by
  unfold besomref03_Check.f
  exact Ev.bind (rcheck_ev hw hl) (ev_const rfl)
theorem rcopy3_eq (n : Int) (l : List Int) (h : l.length < 17592186044416) : besomref03_Copy.f n l = some (n, l) := by
  unfold besomref03_Copy.f
  rw [rcopy_eq n l h]; rfl
theorem same3_ev (n : Int) (l : List Int) (h : l.length < 17592186044416) : Ev (fun k => besomref03_Same.f k n l n l) true := by
  unfold besomref03_Same.f
  exact Ev.bind (same_ev n l h) (ev_const rfl)
theorem rfree_l {l : List Int} (hw : Words l) (n s ct : Int) (h0 : 0 ≤ s) (h1 : s + ct ≤ 64 * (l.length : Int)) (hl : l.length < 1000) : ∀ (d : Nat) (x : Int), s ≤ x → s + ct - x = d → ∃ b : Bool, Ev (fun k => besomref03_free.l0 k s ct x n l) b ∧ (b = true ↔ ∀ i : Int, x ≤ i → i < s + ct → bitAt l i.toNat = false) := by
  intro d
  induction d with
  | zero =>
    intro x x0 xd
    refine ⟨true, ?_, by simp only [true_iff]; intro i i0 i1; omega⟩
    refine ev_of (K := 1) fun k hk => ?_
    obtain ⟨k, rfl⟩ : ∃ m, k = m + 1 := ⟨k - 1, by omega⟩
    simp only [besomref03_free.l0]; rw [w64 (by omega) (by omega), if_neg (by omega)]
  | succ d ih =>
    intro x x0 xd
    have is := ris_eq hw n x (by omega) (by omega) (by omega)
    cases hb : bitAt l x.toNat with
    | true =>
      refine ⟨false, ?_, by simp only [Bool.false_eq_true, false_iff]; intro h; have := h x (by omega) (by omega); rw [hb] at this; cases this⟩
      refine ev_of (K := 1) fun k hk => ?_
      obtain ⟨k, rfl⟩ : ∃ m, k = m + 1 := ⟨k - 1, by omega⟩
      simp only [besomref03_free.l0]; rw [w64 (by omega) (by omega), if_pos (by omega), is, Option.bind_some, if_pos hb]
    | false =>
      obtain ⟨b, he, hiff⟩ := ih (x + 1) (by omega) (by omega)
      refine ⟨b, ?_, ?_⟩
      · refine ev_succ (f := fun k => besomref03_free.l0 k s ct (x + 1) n l) (fun k => ?_) he
        simp only [besomref03_free.l0]; rw [w64 (a := s + ct) (by omega) (by omega), if_pos (by omega), is, Option.bind_some, hb, if_neg (by decide), w64 (by omega) (by omega)]
      · rw [hiff]
        constructor
        · intro h i i0 i1
          by_cases e : i = x
          · rw [e]; exact hb
          · exact h i (by omega) i1
        · intro h i i0 i1; exact h i (by omega) i1
theorem rfree_ev {l : List Int} (hw : Words l) (n s ct : Int) (h0 : 0 ≤ s) (h2 : 0 ≤ ct) (h1 : s + ct ≤ 64 * (l.length : Int)) (hl : l.length < 1000) : ∃ b : Bool, Ev (fun k => besomref03_free.f k n l s ct) b ∧ (b = true ↔ Clear l s ct) := by
  unfold besomref03_free.f
  exact rfree_l hw n s ct h0 h1 hl ct.toNat s (by omega) (by omega)
theorem rtake_run {n : Int} {l : List Int} (hw : Words l) (hf : BFit n l) (ct s : Int) (hct : 1 ≤ ct) (hs : IsRun n l ct 0 s) : ∀ (d : Nat) (x : Int), 0 ≤ x → s - x = d → Ev (fun k => besomref03_Take.l0 k ct x n l) (n, fillAt true s.toNat ct.toNat 0 l, s, 0) := by
  have g := hf
  obtain ⟨g0, g1, g2, _⟩ := g
  have s1 := hs.le
  have s0 := hs.ge
  intro d
  induction d with
  | zero =>
    intro x x0 xd
    obtain ⟨b, he, hb⟩ := rfree_ev hw n x ct x0 (by omega) (by omega) (by omega)
    have ex : x = s := by omega
    subst ex
    rw [hb.2 hs.so] at he
    refine ev_succ (f := fun k => _) (fun k => by rw [besomref03_Take.l0, w64 (a := n - ct) (by omega) (by omega), if_pos (by omega)]) (Ev.bind he ?_)
    simp only [if_true]
    have e := rfill_ev (n := n) hw (by omega) x ct true
    rw [fillS_ok hf x ct true (by omega) (by omega) (by omega)] at e
    exact Ev.bind e (ev_const rfl)
  | succ d ih =>
    intro x x0 xd
    obtain ⟨b, he, hb⟩ := rfree_ev hw n x ct x0 (by omega) (by omega) (by omega)
    have hn : b = false := by
      cases b with
      | false => rfl
      | true => exact absurd (hb.1 rfl) (hs.no x x0 (by omega) (by omega))
    rw [hn] at he
    refine ev_succ (f := fun k => _) (fun k => by rw [besomref03_Take.l0, w64 (a := n - ct) (by omega) (by omega), if_pos (by omega), w64 (a := x + 1) (by omega) (by omega)]) (Ev.bind he ?_)
    simp only [Bool.false_eq_true, if_false]
    exact ih (x + 1) (by omega) (by omega)
theorem rtake_none {n : Int} {l : List Int} (hw : Words l) (hf : BFit n l) (ct : Int) (hct : 1 ≤ ct) (hc2 : ct ≤ n) (hs : NoRun n l ct 0 n) : ∀ (d : Nat) (x : Int), 0 ≤ x → n - ct + 1 - x = d → Ev (fun k => besomref03_Take.l0 k ct x n l) (n, l, 0, 6) := by
  have g := hf
  obtain ⟨g0, g1, g2, _⟩ := g
  intro d
  induction d with
  | zero =>
    intro x x0 xd
    refine ev_of (K := 1) fun k hk => ?_
    obtain ⟨k, rfl⟩ : ∃ m, k = m + 1 := ⟨k - 1, by omega⟩
    rw [besomref03_Take.l0, w64 (a := n - ct) (by omega) (by omega), if_neg (by omega)]
  | succ d ih =>
    intro x x0 xd
    obtain ⟨b, he, hb⟩ := rfree_ev hw n x ct x0 (by omega) (by omega) (by omega)
    have hn : b = false := by
      cases b with
      | false => rfl
      | true => exact absurd (hb.1 rfl) (hs x x0 (by omega) (by omega))
    rw [hn] at he
    refine ev_succ (f := fun k => _) (fun k => by rw [besomref03_Take.l0, w64 (a := n - ct) (by omega) (by omega), if_pos (by omega), w64 (a := x + 1) (by omega) (by omega)]) (Ev.bind he ?_)
    simp only [Bool.false_eq_true, if_false]
    exact ih (x + 1) (by omega) (by omega)
theorem both_take (n : Int) (l : List Int) (hw : Words l) (hl : l.length < 17592186044416) (ct : Int) (hct : ct ≤ 9223372036854775807) : ∃ r : Int × List Int × Int × Int, r.2.1.length < 17592186044416 ∧ Ev (fun k => pages_Take.f k n l ct) r ∧ Ev (fun k => besomref03_Take.f k n l ct) r := by
  have hc := rcheck3_ev (n := n) hw hl
  have start : ∀ r, chk n l = 0 → Ev (fun k => if ct < 1 then some (n, l, 0, 1) else if ct > n then some (n, l, 0, 6) else besomref03_Take.l0 k ct 0 n l) r → Ev (fun k => besomref03_Take.f k n l ct) r := by
    intro r h0 hr
    unfold besomref03_Take.f
    rw [h0] at hc
    refine Ev.bind hc ?_
    simp only [if_true]
    exact Ev.bind (ev_const (rcopy3_eq n l hl)) hr
  rcases Take_ev (n := n) hw hl ct hct with ⟨hf, hE⟩ | ⟨hf, ⟨hr, hE⟩ | ⟨hr, ⟨s, hs, hE⟩ | ⟨hn, hE⟩⟩⟩
  · refine ⟨_, by decide, hE, ?_⟩
    rw [chk_bad hf] at hc
    unfold besomref03_Take.f
    refine Ev.bind hc ?_
    simp only [show ¬ ((2 : Int) = 0) by decide, if_false]; exact ev_const rfl
  · refine ⟨_, hl, hE, start _ (chk_good hf) ?_⟩
    simp only [hr, if_true]; exact ev_const rfl
  · refine ⟨_, by rw [fillAt_len]; exact hl, hE, start _ (chk_good hf) ?_⟩
    have s0 := hs.ge
    have s1 := hs.le
    simp only [show ¬ ct < 1 by omega, show ¬ ct > n by omega, if_false]
    exact rtake_run hw hf ct s hr hs s.toNat 0 (by omega) (by omega)
  · refine ⟨_, hl, hE, start _ (chk_good hf) ?_⟩
    by_cases c : ct > n
    · simp only [show ¬ ct < 1 by omega, c, if_false, if_true]; exact ev_const rfl
    · simp only [show ¬ ct < 1 by omega, c, if_false]
      exact rtake_none hw hf ct hr (by omega) hn (n - ct + 1).toNat 0 (by omega) (by omega)
theorem rgive_l {n : Int} {l : List Int} (hw : Words l) (hf : BFit n l) (fr ct : Int) (h0 : 0 ≤ fr) (h1 : 1 ≤ ct) (h2 : fr + ct ≤ n) (r : Int × List Int × Int) (hr : (AllSet l fr ct ∧ r = (n, fillAt false fr.toNat ct.toNat 0 l, 0)) ∨ (¬ AllSet l fr ct ∧ r = (n, l, 5))) : ∀ (d : Nat) (x : Int), 0 ≤ x → ct - x = d → (∀ i : Int, fr ≤ i → i < fr + x → bitAt l i.toNat = true) → Ev (fun k => besomref03_Give.l0 k fr ct x n l) r := by
  have g := hf
  obtain ⟨g0, g1, g2, _⟩ := g
  intro d
  induction d with
  | zero =>
    intro x x0 xd hx
    have ha : AllSet l fr ct := fun i i0 i1 => hx i i0 (by omega)
    rcases hr with ⟨_, e⟩ | ⟨h, _⟩
    · subst e
      refine ev_succ (f := fun k => _) (fun k => by rw [besomref03_Give.l0, if_neg (by omega)]) ?_
      have e := rfill_ev (n := n) hw (by omega) fr ct false
      rw [fillS_ok hf fr ct false (by omega) (by omega) (by omega)] at e
      exact Ev.bind e (ev_const rfl)
    · exact absurd ha h
  | succ d ih =>
    intro x x0 xd hx
    have is := ris_eq hw n (fr + x) (by omega) (by omega) (by omega)
    cases hb : bitAt l (fr + x).toNat with
    | true =>
      refine ev_succ (f := fun k => besomref03_Give.l0 k fr ct (x + 1) n l) (fun k => ?_) (ih (x + 1) (by omega) (by omega) (fun i i0 i1 => ?_))
      · rw [besomref03_Give.l0, if_pos (by omega), w64 (a := fr + x) (by omega) (by omega), is, Option.bind_some, if_pos hb, w64 (by omega) (by omega)]
      · by_cases e : i = fr + x
        · rw [e]; exact hb
        · exact hx i i0 (by omega)
    | false =>
      rcases hr with ⟨h, _⟩ | ⟨_, e⟩
      · have := h (fr + x) (by omega) (by omega)
        rw [hb] at this; cases this
      · subst e
        refine ev_of (K := 1) fun k hk => ?_
        obtain ⟨k, rfl⟩ : ∃ m, k = m + 1 := ⟨k - 1, by omega⟩
        rw [besomref03_Give.l0, if_pos (by omega), w64 (a := fr + x) (by omega) (by omega), is, Option.bind_some, hb, if_neg (by decide)]
theorem both_give (n : Int) (l : List Int) (hw : Words l) (hl : l.length < 17592186044416) (fr ct : Int) : ∃ r : Int × List Int × Int, r.2.1.length < 17592186044416 ∧ Ev (fun k => pages_Give.f k n l fr ct) r ∧ Ev (fun k => besomref03_Give.f k n l fr ct) r := by
  have hc := rcheck3_ev (n := n) hw hl
  have bad : Ev (fun k => besomref03_Give.j0 k fr ct true n l) (n, l, 1) := ev_succ (f := fun _ => some (n, l, 1)) (fun k => by simp [besomref03_Give.j0]) (ev_const rfl)
  have start : ∀ r, chk n l = 0 → Ev (fun k => if fr < 0 then besomref03_Give.j0 k fr ct true n l else if ct < 1 then besomref03_Give.j0 k fr ct true n l else if ct > n then besomref03_Give.j0 k fr ct true n l else besomref03_Give.j0 k fr ct (decide (fr > wrap64 (n - ct))) n l) r → Ev (fun k => besomref03_Give.f k n l fr ct) r := by
    intro r h0 hr
    unfold besomref03_Give.f
    rw [h0] at hc
    refine Ev.bind hc ?_
    simp only [if_true]
    exact Ev.bind (ev_const (rcopy3_eq n l hl)) hr
  rcases Give_ev (n := n) hw hl fr ct with ⟨hf, hE⟩ | ⟨hf, ⟨hr, hE⟩ | ⟨⟨h0, h1, h2, h3⟩, h⟩⟩
  · refine ⟨_, by decide, hE, ?_⟩
    rw [chk_bad hf] at hc
    unfold besomref03_Give.f
    refine Ev.bind hc ?_
    simp only [show ¬ ((2 : Int) = 0) by decide, if_false]; exact ev_const rfl
  · refine ⟨_, hl, hE, start _ (chk_good hf) ?_⟩
    have g := hf
    obtain ⟨g0, g1, g2, _⟩ := g
    by_cases c0 : fr < 0
    · simp only [c0, if_true]; exact bad
    by_cases c1 : ct < 1
    · simp only [c0, c1, if_false, if_true]; exact bad
    by_cases c2 : ct > n
    · simp only [c0, c1, c2, if_false, if_true]; exact bad
    rw [w64 (by omega) (by omega)]
    simp only [c0, c1, c2, if_false, show fr > n - ct by omega, decide_true]; exact bad
  · have g := hf
    obtain ⟨g0, g1, g2, _⟩ := g
    have go : ∀ r, Ev (fun k => besomref03_Give.l0 k fr ct 0 n l) r → Ev (fun k => besomref03_Give.f k n l fr ct) r := fun r hr => by
      refine start _ (chk_good hf) ?_
      rw [w64 (by omega) (by omega)]
      simp only [show ¬ fr < 0 by omega, show ¬ ct < 1 by omega, show ¬ ct > n by omega, show ¬ fr > n - ct by omega, if_false, decide_false]
      exact ev_succ (f := fun k => besomref03_Give.l0 k fr ct 0 n l) (fun k => by simp [besomref03_Give.j0]) hr
    rcases h with ⟨ha, hE⟩ | ⟨ha, hE⟩
    · exact ⟨_, by rw [fillAt_len]; exact hl, hE, go _ (rgive_l hw hf fr ct h0 h1 (by omega) _ (.inl ⟨ha, rfl⟩) ct.toNat 0 (by omega) (by omega) (fun i i0 i1 => by omega))⟩
    · exact ⟨_, hl, hE, go _ (rgive_l hw hf fr ct h0 h1 (by omega) _ (.inr ⟨ha, rfl⟩) ct.toNat 0 (by omega) (by omega) (fun i i0 i1 => by omega))⟩

end Go.Proofs.YthphncefbahcaaaDoor.PuPagesTakeRR
