/- Runs that are taken one after the other share no page, and none that was used: a page is somebody's just where it is used. -/
import Derived.Test.YthphncefbahcaaaDoorGKx5
import Derived.Test.YthphncefbahcaaaDoorPuPagesK
namespace Go.Proofs.YthphncefbahcaaaDoor.Pure
open Go.RowKit Go.Proofs.YthphncefbahcaaaDoorW.PrintWords Go.Proofs.YthphncefbahcaaaDoorW.PrintLast Go.Proofs.YthphncefbahcaaaDoorW.PrintMore Go.Proofs.YthphncefbahcaaaDoor.GK Go.Proofs.YthphncefbahcaaaDoor.Pu Go.Proofs.YthphncefbahcaaaDoor.PuBitW Go.Proofs.YthphncefbahcaaaDoor.PuBitsK Go.Proofs.YthphncefbahcaaaDoor.PuBitsLayK Go.Proofs.YthphncefbahcaaaDoor.PuBitsCountLK Go.Proofs.YthphncefbahcaaaDoor.PuBitsFirstK Go.Proofs.YthphncefbahcaaaDoor.PuBitsRunIK Go.Proofs.YthphncefbahcaaaDoor.PuBitsFillJK Go.Proofs.YthphncefbahcaaaDoor.PuPagesK

theorem rd_set (o : List Int) (i j : Int) (x : Int) (h0 : 0 ≤ i) (h1 : i < (o.length : Int)) (hj : 0 ≤ j) : rd (o.set i.toNat x) j = if j = i then x else rd o j := by
  obtain ⟨I, rfl⟩ : ∃ I : Nat, i = (I : Int) := ⟨i.toNat, by omega⟩
  obtain ⟨J, rfl⟩ : ∃ J : Nat, j = (J : Int) := ⟨j.toNat, by omega⟩
  rw [Int.toNat_natCast, rd_nat, rd_nat, List.getD_eq_getElem?_getD, List.getD_eq_getElem?_getD, List.getElem?_set]
  by_cases e : I = J
  · subst e; rw [if_pos rfl, if_pos (by omega), if_pos rfl]; rfl
  · rw [if_neg e, if_neg (by omega)]
theorem rd_zero (N : Nat) (j : Int) : rd (List.replicate N (0 : Int)) j = 0 := by
  simp only [rd, List.getD_eq_getElem?_getD, List.getElem?_replicate]
  split <;> rfl
/-- A page is nobody's just where it is clear. -/
structure Inv (n : Int) (l o : List Int) : Prop where
  words : Words l
  fit : BFit n l
  len : (o.length : Int) = n
  zero : ∀ j : Int, 0 ≤ j → j < n → (rd o j = 0 ↔ bitAt l j.toNat = false)
theorem l2_true (n : Int) (l : List Int) (at' ct idx : Int) (sizes : List Int) (len : Int) (A : List Int) (h0 : 0 ≤ at') (h1 : 1 ≤ ct) (h2 : at' + ct ≤ n) (hn : n ≤ 4096) (hi : 0 ≤ idx) (hi2 : idx ≤ 1000000000000000000) (hc : Clear l at' ct)
    (next : ∀ o : List Int, (o.length : Int) = n → (∀ j : Int, 0 ≤ j → j < n → (rd o j = 0 ↔ (bitAt l j.toNat = false ∧ ¬ (at' ≤ j ∧ j < at' + ct)))) → Ev (fun k => besomlaw03_PagesApart.l1 k o sizes len (wrap64 (idx + 1)) n A) true) :
    ∀ (d : Nat) (x : Int) (o : List Int), at' ≤ x → at' + ct - x = d → (o.length : Int) = n → (∀ j : Int, 0 ≤ j → j < n → (rd o j = 0 ↔ (bitAt l j.toNat = false ∧ ¬ (at' ≤ j ∧ j < x)))) → Ev (fun k => besomlaw03_PagesApart.l2 k o idx ct at' x sizes len idx n A) true := by
  intro d
  induction d with
  | zero =>
    intro x o x0 xd ol ho
    have ex : x = at' + ct := by omega
    subst ex
    exact ev_succ (f := fun k => _) (fun k => by rw [besomlaw03_PagesApart.l2, w64 (a := at' + ct) (by omega) (by omega), if_neg (by omega)]) (next o ol ho)
  | succ d ih =>
    intro x o x0 xd ol ho
    have hz : rd o x = 0 := (ho x (by omega) (by omega)).2 ⟨hc x x0 (by omega), by omega⟩
    have hw : wrap64 (idx + 1) = idx + 1 := w64 (by omega) (by omega)
    refine ev_succ (f := fun k => besomlaw03_PagesApart.l2 k (o.set x.toNat (idx + 1)) idx ct at' (x + 1) sizes len idx n A) (fun k => ?_) (ih (x + 1) _ (by omega) (by omega) (by rw [List.length_set]; exact ol) (fun j j0 j1 => ?_))
    · rw [besomlaw03_PagesApart.l2, w64 (a := at' + ct) (by omega) (by omega), if_pos (by omega), if_neg (by omega), if_pos (by omega), if_pos (by omega), if_pos hz, hw, w64 (a := x + 1) (by omega) (by omega)]
    · rw [rd_set o x j _ (by omega) (by omega) j0]
      by_cases e : j = x
      · rw [if_pos e]
        constructor
        · intro h; omega
        · rintro ⟨_, h⟩; omega
      · rw [if_neg e, ho j j0 j1]
        constructor
        · rintro ⟨a, b⟩; exact ⟨a, by omega⟩
        · rintro ⟨a, b⟩; exact ⟨a, by omega⟩
theorem l1_true (n : Int) (sizes : List Int) (hs : ∀ x ∈ sizes, (Lit.int .i64 x).wf = true) (hsl : (sizes.length : Int) ≤ 100000000000000000) : ∀ (d : Nat) (i : Int) (o l : List Int), 0 ≤ i → (sizes.length : Int) - i = d → Inv n l o → Ev (fun k => besomlaw03_PagesApart.l1 k o sizes (sizes.length : Int) i n l) true := by
  intro d
  induction d with
  | zero =>
    intro i o l i0 hd hI
    refine ev_of (K := 1) fun k hk => ?_
    obtain ⟨k, rfl⟩ : ∃ m, k = m + 1 := ⟨k - 1, by omega⟩
    rw [besomlaw03_PagesApart.l1, if_neg (by omega)]
  | succ d ih =>
    intro i o l i0 hd hI
    have hW := hI.words
    have hf := hI.fit
    have g := hf
    obtain ⟨g0, g1, g2, _⟩ := g
    by_cases c30 : i = 30
    · refine ev_of (K := 1) fun k hk => ?_
      obtain ⟨k, rfl⟩ : ∃ m, k = m + 1 := ⟨k - 1, by omega⟩
      rw [besomlaw03_PagesApart.l1, if_pos (by omega), if_pos i0, if_pos (by omega), if_pos c30]
    have hw1 : wrap64 (i + 1) = i + 1 := w64 (by omega) (by omega)
    have hct := (wf_i64 (hs _ (rd_mem (l := sizes) i0 (by omega)))).2
    refine ev_succ (f := fun k => (pages_Take.f k n l (rd sizes i)).bind fun bt190 => (if bt190.2.2.2 = 0 then (besomlaw03_PagesApart.l2 k o i (rd sizes i) bt190.2.2.1 bt190.2.2.1 sizes (sizes.length : Int) i bt190.1 bt190.2.1) else (besomlaw03_PagesApart.l1 k o sizes (sizes.length : Int) (wrap64 (i + 1)) n l))) (fun k => by rw [besomlaw03_PagesApart.l1, if_pos (by omega), if_pos i0, if_pos (by omega), if_neg c30]) ?_
    have on : Ev (fun k => besomlaw03_PagesApart.l1 k o sizes (sizes.length : Int) (wrap64 (i + 1)) n l) true := by
      rw [hw1]
      exact ih (i + 1) o l (by omega) (by omega) hI
    rcases Take_ev (n := n) hW (by omega) (rd sizes i) hct with ⟨hn, hE⟩ | ⟨_, ⟨hr, hE⟩ | ⟨hr, ⟨s, hsr, hE⟩ | ⟨hn, hE⟩⟩⟩
    · exact absurd hf hn
    · refine Ev.bind hE ?_
      simp only [show ¬ ((1 : Int) = 0) by decide, if_false]; exact on
    · refine Ev.bind hE ?_
      simp only [if_true]
      generalize rd sizes i = ct at *
      have s0 := hsr.ge
      have s1 := hsr.le
      refine l2_true n l s ct i sizes _ _ s0 hr s1 g1 i0 (by omega) hsr.so (fun o2 ol ho => ?_) ct.toNat s o (by omega) (by omega) hI.len (fun j j0 j1 => ?_)
      · rw [hw1]
        refine ih (i + 1) o2 _ (by omega) (by omega) ⟨fillAt_words _ _ _ _ hW, fill_fit hW hf true s.toNat ct.toNat (by omega), ol, fun j j0 j1 => ?_⟩
        rw [ho j j0 j1, fillAt_bit true s.toNat ct.toNat 0 j.toNat hW (by omega)]
        by_cases c : s ≤ j ∧ j < s + ct
        · rw [if_pos (by omega)]
          constructor
          · rintro ⟨_, h⟩; exact absurd c h
          · intro h; cases h
        · rw [if_neg (by omega)]
          constructor
          · rintro ⟨h, _⟩; exact h
          · intro h; exact ⟨h, c⟩
      · rw [hI.zero j j0 j1]
        constructor
        · intro h; exact ⟨h, by omega⟩
        · rintro ⟨h, _⟩; exact h
    · refine Ev.bind hE ?_
      simp only [show ¬ ((6 : Int) = 0) by decide, if_false]; exact on
theorem l0_true (n : Int) (l : List Int) (hW : Words l) (hf : BFit n l) (sizes : List Int) (hs : ∀ x ∈ sizes, (Lit.int .i64 x).wf = true) (hsl : (sizes.length : Int) ≤ 100000000000000000) : ∀ (d : Nat) (x : Int) (o : List Int), 0 ≤ x → n - x = d → (o.length : Int) = n → (∀ j : Int, 0 ≤ j → j < n → (rd o j = 0 ↔ ¬ (j < x ∧ bitAt l j.toNat = true))) → Ev (fun k => besomlaw03_PagesApart.l0 k sizes o n x n l) true := by
  have g := hf
  obtain ⟨g0, g1, g2, _⟩ := g
  intro d
  induction d with
  | zero =>
    intro x o x0 xd ol ho
    refine ev_succ (f := fun k => _) (fun k => by rw [besomlaw03_PagesApart.l0, if_neg (by omega)]) (l1_true n sizes hs hsl sizes.length 0 o l (by omega) (by omega) ⟨hW, hf, ol, fun j j0 j1 => ?_⟩)
    rw [ho j j0 j1]
    constructor
    · intro h
      cases hb : bitAt l j.toNat with
      | false => rfl
      | true => exact absurd ⟨by omega, hb⟩ h
    · rintro h ⟨_, h2⟩; rw [h] at h2; cases h2
  | succ d ih =>
    intro x o x0 xd ol ho
    obtain ⟨m, rfl⟩ : ∃ m : Nat, x = (m : Int) := ⟨x.toNat, by omega⟩
    have e1 : Int.tdiv (m : Int) 64 = ((m / 64 : Nat) : Int) := rfl
    have e2 : Int.tmod (m : Int) 64 = ((m % 64 : Nat) : Int) := rfl
    obtain ⟨e3, hlt⟩ := hW.rd_nat (m / 64)
    have hb := is_and _ (m % 64) hlt (by omega)
    have hbit : bitAt l m = (l.getD (m / 64) 0).toNat.testBit (m % 64) := rfl
    rw [← hbit] at hb
    have step : ∀ k, besomlaw03_PagesApart.l0 (k + 1) sizes o n (m : Int) n l = if bitAt l m = true then besomlaw03_PagesApart.l0 k sizes (o.set m (-1)) n ((m : Int) + 1) n l else besomlaw03_PagesApart.l0 k sizes o n ((m : Int) + 1) n l := fun k => by
      rw [besomlaw03_PagesApart.l0, if_pos (by omega), e1, e2, w64 (by omega) (by omega), wu64' (a := ((m % 64 : Nat) : Int)) (by omega) (by omega), if_pos (by omega), if_pos (by omega), if_pos (by omega), e3, w64 (a := (m : Int) + 1) (by omega) (by omega), if_pos (show (0 : Int) ≤ (m : Int) by omega), if_pos (show (m : Int) < (o.length : Int) by omega), Int.toNat_natCast]
      cases h : bitAt l m with
      | true => rw [h] at hb; rw [if_pos (eq_of_beq hb), if_pos rfl]
      | false => rw [h] at hb; rw [if_neg (ne_of_beq_false hb), if_neg (by decide)]
    have st := rd_set o (m : Int)
    rw [Int.toNat_natCast] at st
    cases h : bitAt l m with
    | true =>
      refine ev_succ (f := fun k => _) (fun k => by rw [step k, if_pos h]) (ih ((m : Int) + 1) _ (by omega) (by omega) (by rw [List.length_set]; exact ol) (fun j j0 j1 => ?_))
      rw [st j (-1) (by omega) (by omega) j0]
      by_cases e : j = (m : Int)
      · rw [if_pos e]
        constructor
        · intro h; omega
        · intro h2; exfalso; apply h2; exact ⟨by omega, by rw [e, Int.toNat_natCast]; exact h⟩
      · rw [if_neg e, ho j j0 j1]
        constructor
        · rintro h2 ⟨a, b⟩; exact h2 ⟨by omega, b⟩
        · rintro h2 ⟨a, b⟩; exact h2 ⟨by omega, b⟩
    | false =>
      refine ev_succ (f := fun k => _) (fun k => by rw [step k, if_neg (by rw [h]; decide)]) (ih ((m : Int) + 1) _ (by omega) (by omega) ol (fun j j0 j1 => ?_))
      rw [ho j j0 j1]
      constructor
      · rintro h2 ⟨a, b⟩
        by_cases e : j = (m : Int)
        · rw [e, Int.toNat_natCast, h] at b; cases b
        · exact h2 ⟨by omega, b⟩
      · rintro h2 ⟨a, b⟩; exact h2 ⟨by omega, b⟩
theorem PagesApart : ∀ (n0 : Int) (l0 : List Int) (l1 : List Int), (Lit.int .i64 n0).wf = true → l0.length ≤ maxLen → l0.length * 8 ≤ 140737488351232 → (∀ x ∈ l0, (Lit.int .u64 x).wf = true) → l1.length ≤ maxLen → l1.length * 8 ≤ 140737488351232 → (∀ x ∈ l1, (Lit.int .i64 x).wf = true) → ∃ k, besomlaw03_PagesApart.f k n0 l0 l1 = some true := by
  intro n l sizes _ _ hs hw _ hss hsw
  have hl : l.length < 17592186044416 := by omega
  have hW := words_of hw
  refine Ev.rounds (g := fun k => besomlaw03_PagesApart.f k n l sizes) ?_
  unfold besomlaw03_PagesApart.f
  refine Ev.bind lives_ev ?_
  simp only [if_true]
  refine Ev.bind (pcheck_ev hW hl) ?_
  by_cases hf : BFit n l
  · rw [chk_good hf]
    have g := hf
    obtain ⟨g0, g1, g2, _⟩ := g
    simp only [if_true, g0, show n.toNat ≤ 35184372088832 by omega, Option.bind_some]
    have e : ((List.replicate n.toNat (0 : Int)).length : Int) = n := by rw [List.length_replicate]; omega
    rw [e]
    exact l0_true n l hW hf sizes hsw (by omega) n.toNat 0 _ (by omega) (by omega) e (fun j j0 j1 => by
      rw [rd_zero]
      constructor
      · rintro _ ⟨a, _⟩; omega
      · intro _; rfl)
  · rw [chk_bad hf]
    simp only [show ¬ ((2 : Int) = 0) by decide, if_false]; exact ev_const rfl

end Go.Proofs.YthphncefbahcaaaDoor.Pure
