/- An address has one handle, whoever asks for it; it leads to it. -/
import Derived.Test.YtdadleamaalhiacGWx5
import Derived.Test.YtdadleamaalhiacPuWeak
import Derived.Test.YtdadleamaalhiacPuWeakSame
namespace Go.Proofs.Ytdadleamaalhiac.Pure
open Go.RowKit Go.Proofs.YtdadleamaalhiacW.PrintWords Go.Proofs.YtdadleamaalhiacW.PrintLast Go.Proofs.Ytdadleamaalhiac.GW Go.Proofs.Ytdadleamaalhiac.Pu Go.Proofs.Ytdadleamaalhiac.PuWeak Go.Proofs.Ytdadleamaalhiac.PuWeakSame

theorem findS_snoc (l : List Int) (a : Int) (ha : a ≠ 0) (h : ¬ findS l a > 0) : findS (l ++ [a]) a = (l.length : Int) + 1 := by
  have hn : a ∉ l := fun hm => h ((findS_pos l a).2 ⟨ha, hm⟩)
  have hi := (idxS_no a l 0 (by omega)).2 hn
  unfold findS
  rw [if_neg ha, idxS_app a l [a] 0 (by omega), if_pos hi]
  simp [idxS]
theorem wchk_snoc (l : List Int) (a : Int) (h : wchk l = 0) (h6 : ¬ (l.length : Int) = 64) (hf : ¬ findS l a > 0) : wchk (l ++ [a]) = 0 := by
  obtain ⟨h0, h1⟩ := (wchk_iff l).1 h
  refine (wchk_iff _).2 ⟨by simp; omega, fun j j0 j1 => ?_⟩
  simp only [List.length_append, List.length_singleton] at j1
  by_cases e : j = l.length
  · subst e
    rw [Int.toNat_natCast, List.take_left]
    simpa [rd] using hf
  · rw [List.take_append_of_le_length (by omega)]
    have : rd (l ++ [a]) j = rd l j := by simp only [rd, List.getD_eq_getElem?_getD]; rw [List.getElem?_append_left (by omega)]
    rw [this]; exact h1 j j0 (by omega)
theorem rd_snoc (l : List Int) (a : Int) : rd (l ++ [a]) (l.length : Int) = a := by simp [rd]
theorem WeakOne : ∀ (l0 : List Int) (a1 : Int), l0.length ≤ maxLen → l0.length * 8 ≤ 140737488351232 → (∀ x ∈ l0, (Lit.int .u64 x).wf = true) → (Lit.int .u64 a1).wf = true → ∃ k, besomlaw09_WeakOne.f k l0 a1 = some true := by
  intro l a _ hs _ _
  have hl : l.length < 17592186044416 := by omega
  refine Ev.rounds (g := fun k => besomlaw09_WeakOne.f k l a) ?_
  unfold besomlaw09_WeakOne.f
  refine Ev.bind lives_ev ?_
  simp only [if_true]
  refine Ev.bind (make_ev l hl a) ?_
  have good : ∀ (m : List Int) (n : Int), m.length < 17592186044416 → wchk m = 0 → a ≠ 0 → findS m a > 0 → n = findS m a → Ev (fun k => (weak_Make.f k m a).bind fun bt185 => ((weak_Get.f k bt185.1 bt185.2.1).bind fun bt190 => ((weak_Handle.f k bt185.1 a).bind fun bt192 => (if bt185.2.2 = 0 then (if n = bt185.2.1 then ((besomref09_Same.f k m bt185.1).bind fun t194 => (if t194 = true then (if bt190.1 = a then (if bt190.2 = 0 then (if bt192.1 = n then (if bt192.2 = 0 then ((weak_Check.f k m).bind fun t195 => (some (t195 == 0))) else (some false)) else (some false)) else (some false)) else (some false)) else (some false))) else (some false)) else (some false))))) true := by
    intro m n hm hc ha hf hn
    subst hn
    have mk := make_ev m hm a
    have e : makeS m a = (m, findS m a, 0) := by unfold makeS; rw [if_pos hc, if_neg ha, if_pos hf]
    rw [e] at mk
    refine Ev.bind mk ?_
    have gt := get_ev m (findS m a)
    have hg := findS_ge m a
    have e2 : getS m (findS m a) = (a, 0) := by unfold getS; rw [if_pos hc, if_neg (by omega), if_neg (by omega), findS_at m a hf]
    rw [e2] at gt
    refine Ev.bind gt ?_
    have hd := handle_ev m a
    have e3 : handleS m a = (findS m a, 0) := by unfold handleS; rw [if_pos hc, if_neg ha, if_pos hf]
    rw [e3] at hd
    refine Ev.bind hd ?_
    simp only [if_true]
    refine Ev.bind (same_ev m hm) ?_
    simp only [if_true]
    refine Ev.bind (check_ev m) ?_
    rw [hc]; exact Ev.now _
  unfold makeS
  rcases wchk_02 l with h | h
  · simp only [h, if_true]
    have h6 := len64 h
    by_cases ha : a = 0
    · simp only [ha, if_true, show ¬ ((7 : Int) = 0) by decide, if_false]; exact ev_const rfl
    · simp only [ha, if_false]
      by_cases hf : findS l a > 0
      · simp only [hf, if_true]
        exact good l _ hl h ha hf rfl
      · simp only [hf, if_false]
        by_cases h7 : (l.length : Int) = 64
        · simp only [h7, if_true, show ¬ ((6 : Int) = 0) by decide, if_false]; exact ev_const rfl
        · simp only [h7, if_false, if_true]
          have e := findS_snoc l a ha hf
          exact good (l ++ [a]) _ (by simp; omega) (wchk_snoc l a h h7 hf) ha (by rw [e]; omega) e.symm
  · simp only [h, show ¬ ((2 : Int) = 0) by decide, if_false]; exact ev_const rfl

end Go.Proofs.Ytdadleamaalhiac.Pure
