/- What is nobody's of two lists is what is nobody's of each, and little of it. -/
import Derived.Test.YtdadleamaalhiabGCx4
import Derived.Test.YtdadleamaalhiabPuClassI
namespace Go.Proofs.Ytdadleamaalhiab.Pure
open Go.RowKit Go.Proofs.YtdadleamaalhiabW.PrintWords Go.Proofs.YtdadleamaalhiabW.PrintLast Go.Proofs.Ytdadleamaalhiab.GC Go.Proofs.Ytdadleamaalhiab.Pu Go.Proofs.Ytdadleamaalhiab.PuClassI

def total : List Int → Int
  | [] => 0
  | a :: l => (roomS a - a) + total l
def allOk : List Int → Bool
  | [] => true
  | a :: l => decide ((ofS a).2 = 0) && allOk l
theorem allOk_app : ∀ l m : List Int, allOk (l ++ m) = (allOk l && allOk m)
  | [], m => by simp [allOk]
  | a :: l, m => by simp only [List.cons_append, allOk, allOk_app l m, Bool.and_assoc]
theorem total_app : ∀ l m : List Int, total (l ++ m) = total l + total m
  | [], m => by simp [total]
  | a :: l, m => by simp only [List.cons_append, total, total_app l m]; omega
theorem w64w (a b : Int) : wrap64 (wrap64 (a + wrap64 b)) = wrap64 (a + b) := by unfold wrap64; omega
theorem wasteS_eq : ∀ (l : List Int) (x : Int), wrap64 x = x → wasteS x l = if allOk l = true then (wrap64 (x + total l), 0) else (0, 1)
  | [], x, h => by simp [wasteS, allOk, total, h]
  | a :: l, x, h => by
    unfold wasteS allOk total
    by_cases h0 : (ofS a).2 = 0
    · rw [if_pos h0, wasteS_eq l _ (by unfold wrap64; omega)]
      have e : wrap64 (wrap64 (x + wrap64 (roomS a - a)) + total l) = wrap64 (x + ((roomS a - a) + total l)) := by unfold wrap64; omega
      rw [e]; simp [h0]
    · rw [if_neg h0]; simp [h0]
theorem little : ∀ n : Fin 50, n.1 ≠ 0 → 0 ≤ roomS n.1 - n.1 ∧ roomS n.1 - n.1 ≤ 15 ∧ ((ofS n.1).1 > 0 → (sizeS (ofS n.1).1).2 = 0 ∧ 2 * (roomS n.1 - n.1) < (sizeS (ofS n.1).1).1) := by decide +kernel
theorem ok_small (a : Int) (h : (ofS a).2 = 0) : 1 ≤ a ∧ a ≤ 49 := by
  constructor
  · unfold ofS at h; repeat' (first | omega | (split at h; simp at h))
  · apply Classical.byContradiction; intro hh
    rw [ofS_err (.inr (by omega))] at h; simp at h
theorem each_l (l : List Int) (hl : l.length ≤ 1000) (hok : ∀ a ∈ l, (ofS a).2 = 0) : ∀ (d : Nat) (i : Int), 0 ≤ i → (l.length : Int) - i = d → Ev (fun k => besomlaw04_ClassWaste.l0 k l (l.length : Int) i) true := by
  intro d
  induction d with
  | zero =>
    intro i h0 hd
    refine ev_of (K := 1) fun k hk => ?_
    obtain ⟨k, rfl⟩ : ∃ m, k = m + 1 := ⟨k - 1, by omega⟩
    simp only [besomlaw04_ClassWaste.l0]; rw [if_neg (by omega)]
  | succ d ih =>
    intro i h0 hd
    have ha := hok _ (rd_mem h0 (show i < (l.length : Int) by omega))
    have hn := ih (i + 1) (by omega) (by omega)
    refine ev_succ (f := fun k => _) (fun k => by simp only [besomlaw04_ClassWaste.l0]; rw [if_pos (by omega), if_pos h0, if_pos (by omega), w64 (a := i + 1) (by omega) (by omega)]) ?_
    generalize rd l i = a at ha
    have hb := ok_small a ha
    have hw := waste_ev [a] (by simp)
    rw [wasteS_eq _ _ (w64 (by omega) (by omega))] at hw
    simp only [allOk, ha, decide_true, Bool.and_self, if_true, total] at hw
    have lt := little ⟨a.toNat, by omega⟩ (by show a.toNat ≠ 0; omega)
    simp only [show ((a.toNat : Nat) : Int) = a by omega] at lt
    obtain ⟨l0, l1, l2⟩ := lt
    rw [w64 (by omega) (by omega)] at hw
    refine Ev.bind hw (Ev.bind (of_ev a) ?_)
    simp only [size_eq, Option.bind_some]
    rw [show (0 : Int) + (roomS a - a + 0) = roomS a - a by omega, w64 (a := 2 * (roomS a - a)) (by omega) (by omega)]
    simp only [show ¬ roomS a - a < 0 by omega, if_false]
    by_cases hp : (ofS a).1 > 0
    · have := l2 hp
      simp only [hp, if_true, this.1, show ¬ (2 * (roomS a - a) ≥ (sizeS (ofS a).1).1) by omega, show ¬ (ofS a).1 < 0 by omega, if_false]
      exact hn
    · simp only [hp, if_false]
      by_cases hq : (ofS a).1 < 0
      · simp only [hq, if_true, show ¬ (roomS a - a > 15) by omega, if_false]; exact hn
      · simp only [hq, if_false]; exact hn
theorem allOk_mem : ∀ l : List Int, allOk l = true → ∀ a ∈ l, (ofS a).2 = 0
  | [], _, _, h => by cases h
  | b :: l, h, a, ha => by
    unfold allOk at h
    simp only [Bool.and_eq_true, decide_eq_true_eq] at h
    rcases List.mem_cons.1 ha with rfl | ha
    · exact h.1
    · exact allOk_mem l h.2 a ha
theorem ClassWaste : ∀ (l0 : List Int) (l1 : List Int), l0.length ≤ maxLen → l0.length * 8 ≤ 140737488351232 → (∀ x ∈ l0, (Lit.int .i64 x).wf = true) → l1.length ≤ maxLen → l1.length * 8 ≤ 140737488351232 → (∀ x ∈ l1, (Lit.int .i64 x).wf = true) → ∃ k, besomlaw04_ClassWaste.f k l0 l1 = some true := by
  intro l m _ _ _ _ _ _
  refine Ev.rounds (g := fun k => besomlaw04_ClassWaste.f k l m) ?_
  unfold besomlaw04_ClassWaste.f
  refine Ev.bind lives_ev ?_
  simp only [if_true]
  have yes : Ev (fun k => besomlaw04_ClassWaste.j0 k l m true) true := ev_succ (f := fun _ => some true) (fun k => by simp [besomlaw04_ClassWaste.j0]) (ev_const rfl)
  by_cases h0 : (l.length : Int) > 1000
  · simp only [h0, if_true]; exact yes
  simp only [h0, if_false]
  by_cases h1 : (m.length : Int) > 1000
  · simp only [h1, decide_true]; exact yes
  simp only [h1, decide_false]
  have h2 : m.length < 17592186044416 := by omega
  have h3 : l.length < 17592186044416 := by omega
  have h4 : l.length + m.length < 17592186044416 := by omega
  refine ev_succ (f := fun k => _) (fun k => by rw [besomlaw04_ClassWaste.j0, if_neg (by decide)]) ?_
  refine Ev.bind (waste_ev l (by omega)) (Ev.bind (waste_ev m (by omega)) ?_)
  simp only [Option.bind_some, List.length_nil, Nat.zero_add, List.nil_append, h3, h4, if_true]
  refine Ev.bind (waste_ev (l ++ m) (by simp; omega)) ?_
  rw [wasteS_eq l 0 (w64 (by omega) (by omega)), wasteS_eq m 0 (w64 (by omega) (by omega)), wasteS_eq (l ++ m) 0 (w64 (by omega) (by omega)), allOk_app]
  have one : ¬ ((1 : Int) = 0) := by decide
  have j1 : ∀ x y z : Int, Ev (fun k => besomlaw04_ClassWaste.j1 k l x y z 1 true) true := fun x y z => ev_succ (f := fun _ => some true) (fun k => by simp [besomlaw04_ClassWaste.j1]) (ev_const rfl)
  by_cases a0 : allOk l = true
  · by_cases a1 : allOk m = true
    · simp only [a0, a1, Bool.and_self, if_true, bne_self_eq_false]
      refine ev_succ (f := fun k => besomlaw04_ClassWaste.j2 k l (wrap64 (wrap64 (0 + total l) + wrap64 (0 + total m)) != wrap64 (0 + total (l ++ m)))) (fun k => by simp [besomlaw04_ClassWaste.j1]) ?_
      have e : wrap64 (wrap64 (0 + total l) + wrap64 (0 + total m)) = wrap64 (0 + total (l ++ m)) := by rw [total_app]; unfold wrap64; omega
      rw [e]
      refine ev_succ (f := fun k => besomlaw04_ClassWaste.l0 k l (l.length : Int) 0) (fun k => by simp [besomlaw04_ClassWaste.j2]) ?_
      exact each_l l (by omega) (allOk_mem l a0) l.length 0 (by omega) (by omega)
    · simp only [a0, a1, Bool.and_false, if_true, if_false, Bool.false_eq_true, show ((1 : Int) != 0) = true by decide]
      exact j1 _ _ _
  · simp only [a0, Bool.false_and, if_false, Bool.false_eq_true, one]
    exact j1 _ _ _

end Go.Proofs.Ytdadleamaalhiab.Pure
