/- A handle that leads to nothing leads to nothing, whatever happens; one that leads to something leads to it till that is cleared. -/
import Derived.Test.YtbdlehbaioaglaaGWx3
import Derived.Test.YtbdlehbaioaglaaRsW
import Derived.Test.YtbdlehbaioaglaaPuWeak
namespace Go.Proofs.Ytbdlehbaioaglaa.Pure
open Go.RowKit Go.Proofs.YtbdlehbaioaglaaW.PrintWords Go.Proofs.YtbdlehbaioaglaaW.PrintLast Go.Proofs.Ytbdlehbaioaglaa.GW Go.Proofs.Ytbdlehbaioaglaa.Pu Go.Proofs.Ytbdlehbaioaglaa.PuWeak

/-- What an entry is behind the clearing. -/
def gone (ps : List Int) (x : Int) : Int := if findS ps x > 0 then 0 else x
def many (ps : List Int) : List Int → Nat
  | [] => 0
  | x :: r => (if findS ps x > 0 then 1 else 0) + many ps r
theorem clrL_eq (ps : List Int) : ∀ (b a o : List Int) (i : Int), i = a.length → (clrL ps b.length i (a ++ b) o).1 = a ++ b.map (gone ps) ∧ (clrL ps b.length i (a ++ b) o).2.length = o.length + many ps b
  | [], a, o, i, h => by simp [clrL, many]
  | x :: r, a, o, i, h => by
    have hr : rd (a ++ x :: r) i = x := by subst h; simp [rd]
    have hs : (a ++ x :: r).set i.toNat 0 = (a ++ [0]) ++ r := by subst h; rw [Int.toNat_natCast, List.set_append_right _ _ (Nat.le_refl _)]; simp
    rw [List.length_cons, clrL, hr]
    by_cases c : findS ps x > 0
    · have := clrL_eq ps r (a ++ [0]) (o ++ [i + 1]) (i + 1) (by simp; omega)
      rw [if_pos c, hs, this.1, this.2]
      simp [gone, many, c]; omega
    · have := clrL_eq ps r (a ++ [x]) o (i + 1) (by simp; omega)
      rw [if_neg c, show a ++ x :: r = (a ++ [x]) ++ r by simp, this.1, this.2]
      simp [gone, many, c]
theorem gone_ne (ps : List Int) (x y : Int) (h : gone ps x = y) (hy : y ≠ 0) : x = y ∧ ¬ findS ps y > 0 := by
  unfold gone at h
  by_cases c : findS ps x > 0
  · rw [if_pos c] at h; exact absurd h.symm hy
  · rw [if_neg c] at h; subst h; exact ⟨rfl, c⟩
theorem wchk_gone (ps l : List Int) (h : wchk l = 0) : wchk (l.map (gone ps)) = 0 := by
  obtain ⟨h0, h1⟩ := (wchk_iff l).1 h
  refine (wchk_iff _).2 ⟨by simpa using h0, fun j j0 j1 hc => ?_⟩
  simp only [List.length_map] at j1
  have hn : j.toNat < l.length := by omega
  have er : rd (l.map (gone ps)) j = gone ps (rd l j) := by
    simp [rd, List.getD_eq_getElem?_getD, List.getElem?_eq_getElem hn]
  obtain ⟨c0, c1⟩ := (findS_pos _ _).1 hc
  rw [er] at c0 c1
  rw [← List.map_take] at c1
  obtain ⟨z, hz, e⟩ := List.mem_map.1 c1
  obtain ⟨e1, _⟩ := gone_ne ps z _ e c0
  have e2 : gone ps (rd l j) = rd l j := (gone_ne ps (rd l j) _ rfl c0).1.symm
  refine h1 j j0 j1 ((findS_pos _ _).2 ⟨by rw [← e2]; exact c0, ?_⟩)
  rw [← e2, ← e1]; exact hz
theorem wchk_snoc (l : List Int) (a : Int) (h : wchk l = 0) (h6 : ¬ (l.length : Int) = 64) (hf : ¬ findS l a > 0) : wchk (l ++ [a]) = 0 := by
  obtain ⟨h0, h1⟩ := (wchk_iff l).1 h
  refine (wchk_iff _).2 ⟨by simp; omega, fun j j0 j1 => ?_⟩
  simp only [List.length_append, List.length_singleton] at j1
  by_cases e : j = l.length
  · subst e
    rw [Int.toNat_natCast, List.take_left]
    simpa [rd] using hf
  · rw [List.take_append_of_le_length (by omega)]
    have : rd (l ++ [a]) j = rd l j := by simp only [rd, List.getD_eq_getElem?_getD]; rw [List.getElem?_append_left (by omega)]
    rw [this]; exact h1 j j0 (by omega)
theorem rd_gone (ps l : List Int) (j : Int) (h1 : j.toNat < l.length) : rd (l.map (gone ps)) j = gone ps (rd l j) := by
  simp [rd, List.getD_eq_getElem?_getD, List.getElem?_eq_getElem h1]
theorem rd_app (l m : List Int) (j : Int) (h1 : j.toNat < l.length) : rd (l ++ m) j = rd l j := by
  simp [rd, List.getD_eq_getElem?_getD, List.getElem?_append_left h1]
/-- One step's clearing. -/
theorem clear1 (l : List Int) (a : Int) (h : wchk l = 0) : clearS l [a] = (l.map (gone [a]), (clearS l [a]).2.1, 0) := by
  unfold clearS
  rw [if_pos h]
  have hc := clrL_eq [a] l [] [] 0 rfl
  simp only [List.nil_append] at hc
  rw [hc.1]
theorem gone1 (a x : Int) : gone [a] x = if a = x then 0 else x := by
  unfold gone
  by_cases e : a = x
  · rw [if_pos e]
    by_cases z : x = 0
    · split
      · rfl
      · exact z
    · rw [if_pos ((findS_pos _ _).2 ⟨z, by rw [e]; simp⟩)]
  · rw [if_neg e, if_neg (fun hc => by
      have := ((findS_pos _ _).1 hc).2
      simp at this; exact e this.symm)]
theorem make1 (l : List Int) (a : Int) (h : wchk l = 0) : (makeS l a).1 = l ∨ ((makeS l a).1 = l ++ [a] ∧ wchk (l ++ [a]) = 0) := by
  unfold makeS
  rw [if_pos h]
  by_cases c0 : a = 0
  · rw [if_pos c0]; exact .inl rfl
  rw [if_neg c0]
  by_cases c1 : findS l a > 0
  · rw [if_pos c1]; exact .inl rfl
  rw [if_neg c1]
  by_cases c2 : (l.length : Int) = 64
  · rw [if_pos c2]; exact .inl rfl
  · rw [if_neg c2]; exact .inr ⟨rfl, wchk_snoc l a h c2 c1⟩
theorem steps_l (hd : Int) (L : List S30) (h1 : 1 ≤ hd) : ∀ (d : Nat) (i : Int) (t : List Int) (was : Int), 0 ≤ i → i ≤ 40 → (L.length : Int) - i = d → wchk t = 0 → hd ≤ (t.length : Int) → rd t (hd - 1) = was → Ev (fun k => besomlaw09_WeakForever.l0 k t hd was L (L.length : Int) i) true := by
  intro d
  induction d with
  | zero =>
    intro i t was i0 _ id _ _ _
    refine ev_of (K := 1) fun k hk => ?_
    obtain ⟨k, rfl⟩ : ∃ m, k = m + 1 := ⟨k - 1, by omega⟩
    rw [besomlaw09_WeakForever.l0, if_neg (by omega)]
  | succ d ih =>
    intro i t was i0 i40 id ht hl hr
    have hlen := len64 ht
    by_cases c40 : i = 40
    · refine ev_of (K := 1) fun k hk => ?_
      obtain ⟨k, rfl⟩ : ∃ m, k = m + 1 := ⟨k - 1, by omega⟩
      rw [besomlaw09_WeakForever.l0, if_pos (by omega), if_pos i0, if_pos (by omega), if_pos c40]
    have back : ∀ (u : List Int) (now : Int), wchk u = 0 → hd ≤ (u.length : Int) → rd u (hd - 1) = now → Ev (fun k => besomlaw09_WeakForever.j1 k u hd now L (L.length : Int) i) true := by
      intro u now hu hul hur
      refine ev_succ (f := fun k => _) (fun k => by rw [besomlaw09_WeakForever.j1]) (Ev.bind (get_ev u hd) ?_)
      unfold getS
      rw [if_pos hu, if_neg (by omega), if_neg (by omega)]
      simp only [if_true, hur]
      refine Ev.bind (check_ev u) ?_
      rw [hu]
      simp only [if_true]
      rw [w64 (by omega) (by omega)]
      exact ih (i + 1) u now (by omega) (by omega) (by omega) hu hul hur
    generalize hs : rd_T30 L i = s
    cases hc : s.f0 with
    | true =>
      refine ev_succ (f := fun k => (weak_Clear.f k t ([s.f1] : List Int)).bind fun bt182 => (if s.f1 = was then (besomlaw09_WeakForever.j1 k bt182.1 hd 0 L (L.length : Int) i) else (besomlaw09_WeakForever.j1 k bt182.1 hd was L (L.length : Int) i))) (fun k => by rw [besomlaw09_WeakForever.l0, if_pos (by omega), if_pos i0, if_pos (by omega), if_neg c40, hs, hc, if_pos rfl]) ?_
      have e := clear_ev t (by omega) [s.f1] (by simp)
      rw [clear1 t s.f1 ht] at e
      refine Ev.bind e ?_
      have hrd : rd (t.map (gone [s.f1])) (hd - 1) = if s.f1 = was then 0 else was := by
        rw [rd_gone _ _ _ (by omega), hr, gone1]
      by_cases c : s.f1 = was
      · simp only [c, if_true]
        rw [c, if_pos rfl] at hrd
        exact back _ 0 (wchk_gone _ _ ht) (by simpa using hl) hrd
      · simp only [c, if_false]
        rw [if_neg c] at hrd
        exact back _ was (wchk_gone _ _ ht) (by simpa using hl) hrd
    | false =>
      refine ev_succ (f := fun k => (weak_Make.f k t s.f1).bind fun bt189 => (besomlaw09_WeakForever.j1 k bt189.1 hd was L (L.length : Int) i)) (fun k => by rw [besomlaw09_WeakForever.l0, if_pos (by omega), if_pos i0, if_pos (by omega), if_neg c40, hs, hc, if_neg (by decide)]) ?_
      refine Ev.bind (make_ev t (by omega) s.f1) ?_
      rcases make1 t s.f1 ht with e | ⟨e, e2⟩
      · rw [e]; exact back t was ht hl hr
      · rw [e]; exact back _ was e2 (by rw [List.length_append]; simp; omega) (by rw [rd_app _ _ _ (by omega)]; exact hr)
theorem WeakForever : ∀ (l0 : List Int) (a1 : Int) (l2 : List S30), l0.length ≤ maxLen → l0.length * 8 ≤ 140737488351232 → (∀ x ∈ l0, (Lit.int .u64 x).wf = true) → (Lit.int .i64 a1).wf = true → (∀ x ∈ l2, RsW.WfStep x) → ∃ k, besomlaw09_WeakForever.f k l0 a1 l2 = some true := by
  intro t hd L _ _ _ _ _
  refine Ev.rounds (g := fun k => besomlaw09_WeakForever.f k t hd L) ?_
  unfold besomlaw09_WeakForever.f
  refine Ev.bind lives_ev ?_
  simp only [if_true]
  refine Ev.bind (get_ev t hd) ?_
  by_cases hok : wchk t = 0 ∧ 1 ≤ hd ∧ hd ≤ (t.length : Int)
  · obtain ⟨h0, h1, h2⟩ := hok
    have e : getS t hd = (rd t (hd - 1), 0) := by unfold getS; rw [if_pos h0, if_neg (by omega), if_neg (by omega)]
    rw [e]
    simp only [if_true]
    exact steps_l hd L h1 L.length 0 t _ (by omega) (by omega) (by omega) h0 h2 rfl
  · have e : ¬ (getS t hd).2 = 0 := by
      unfold getS
      split
      · split
        · simp
        · split
          · simp
          · exfalso; apply hok; exact ⟨by assumption, by omega, by omega⟩
      · simp
    simp only [e, if_false]; exact ev_const rfl

end Go.Proofs.Ytbdlehbaioaglaa.Pure
