/- Words that are added up in two parts come to what they come to at once. -/
import Derived.Test.YtdadleamaalhiaaGAx16
import Derived.Test.YtdadleamaalhiaaPuArena
namespace Go.Proofs.Ytdadleamaalhiaa.Pure
open Go.RowKit Go.Proofs.YtdadleamaalhiaaW.PrintWords Go.Proofs.YtdadleamaalhiaaW.PrintLast Go.Proofs.Ytdadleamaalhiaa.GA Go.Proofs.Ytdadleamaalhiaa.Pu Go.Proofs.Ytdadleamaalhiaa.PuArena

theorem there_app (n : Int) : ∀ (l m : List Int), thereS n 1 (l ++ m) = if thereS n 1 l = 0 then thereS n 1 m else 1
  | [], m => by simp [thereS]
  | p :: r, m => by
    simp only [List.cons_append, thereS]
    by_cases h1 : (1 : Int) > n
    · simp [h1]
    · by_cases h2 : p > n - 1
      · simp [h1, h2]
      · simp only [h1, h2, if_false]; exact there_app n r m
theorem add_app (a : List Int) : ∀ (l m : List Int) (x : Int), addS a x (l ++ m) = addS a (addS a x l) m
  | [], _, _ => rfl
  | p :: r, m, x => by simp only [List.cons_append, addS]; exact add_app a r m _
theorem add_mod (a : List Int) : ∀ (m : List Int) (x : Int), 0 ≤ x → x ≤ 18446744073709551615 → addS a x m = IntKind.u64.wrap (x + addS a 0 m) ∧ 0 ≤ addS a x m ∧ addS a x m ≤ 18446744073709551615
  | [], x, h0, h1 => by simp only [addS]; rw [Int.add_zero, wu64' h0 h1]; exact ⟨rfl, h0, h1⟩
  | p :: r, x, h0, h1 => by
    simp only [addS]
    have b1 : 0 ≤ IntKind.u64.wrap (x + rd a p) ∧ IntKind.u64.wrap (x + rd a p) ≤ 18446744073709551615 := by rw [wu64]; omega
    have b2 : 0 ≤ IntKind.u64.wrap (0 + rd a p) ∧ IntKind.u64.wrap (0 + rd a p) ≤ 18446744073709551615 := by rw [wu64]; omega
    have e1 := add_mod a r _ b1.1 b1.2
    have e2 := add_mod a r _ b2.1 b2.2
    refine ⟨?_, e1.2⟩
    rw [e1.1, e2.1]
    simp only [wu64]
    omega
theorem sums_j (l0 l1 l2 : List Int) (hl : l0.length < 17592186044416) (h1 : l1.length ≤ 1000) (h2 : l2.length ≤ 1000) (p1 : ∀ p ∈ l1, 0 ≤ p) (p2 : ∀ p ∈ l2, 0 ≤ p) : Ev (fun k => besomlaw02_ArenaSums.j0 k l1 l2 false l0) true := by
  refine ev_succ (f := fun k => (arena_Sum.f k l0 l1).bind fun bt327 => (arena_Sum.f k l0 l2).bind fun bt329 => (arena_Sum.f k l0 (l1 ++ l2)).bind fun bt340 => if bt327.2 = 0 then (if bt329.2 = 0 then (if bt340.2 = 0 then some ((IntKind.u64.wrap (bt327.1 + bt329.1)) == bt340.1) else some false) else some (bt340.2 != 0)) else some (bt340.2 != 0)) (fun k => ?_) ?_
  · simp only [besomlaw02_ArenaSums.j0, Option.bind_some, List.nil_append, List.length_nil, Nat.zero_add, Bool.false_eq_true, if_false]
    simp only [show l1.length < 17592186044416 from by omega, show l1.length + l2.length < 17592186044416 from by omega, if_true]
  · refine Ev.bind (sum_ev l0 hl l1 (by omega) p1) (Ev.bind (sum_ev l0 hl l2 (by omega) p2) (Ev.bind (sum_ev l0 hl (l1 ++ l2) (by simp; omega) (fun p hp => (List.mem_append.1 hp).elim (p1 p) (p2 p))) ?_))
    unfold sumS
    by_cases c : (l0.length : Int) > 16384
    · simp only [c, if_true, show ¬ ((2 : Int) = 0) by decide, if_false]; exact Ev.now _
    · simp only [c, if_false]
      rw [there_app]
      rcases thereS_01 l0.length 1 l1 with e1 | e1
      · rcases thereS_01 l0.length 1 l2 with e2 | e2
        · simp only [e1, e2, if_true]
          have b := add_mod l0 l1 0 (by omega) (by omega)
          rw [add_app, (add_mod l0 l2 (addS l0 0 l1) b.2.1 b.2.2).1, beq_self_eq_true]
          exact Ev.now _
        · simp only [e1, e2, if_true, show ¬ ((1 : Int) = 0) by decide, if_false]
          exact Ev.now _
      · simp only [e1, show ¬ ((1 : Int) = 0) by decide, if_false]
        exact Ev.now _
theorem sums_t (l0 l1 l2 : List Int) : Ev (fun k => besomlaw02_ArenaSums.j0 k l1 l2 true l0) true := by
  refine ev_of (K := 1) fun k hk => ?_
  obtain ⟨k, rfl⟩ : ∃ m, k = m + 1 := ⟨k - 1, by omega⟩
  simp [besomlaw02_ArenaSums.j0]
theorem ArenaSums : ∀ (l0 : List Int) (l1 : List Int) (l2 : List Int), l0.length ≤ maxLen → l0.length * 8 ≤ 140737488351232 → (∀ x ∈ l0, (Lit.int .u64 x).wf = true) → l1.length ≤ maxLen → l1.length * 8 ≤ 140737488351232 → (∀ x ∈ l1, (Lit.int .u64 x).wf = true) → l2.length ≤ maxLen → l2.length * 8 ≤ 140737488351232 → (∀ x ∈ l2, (Lit.int .u64 x).wf = true) → ∃ k, besomlaw02_ArenaSums.f k l0 l1 l2 = some true := by
  intro l0 l1 l2 _ hs hw _ hs1 hw1 _ hs2 hw2
  have hl : l0.length < 17592186044416 := by omega
  refine Ev.rounds (g := fun k => besomlaw02_ArenaSums.f k l0 l1 l2) ?_
  unfold besomlaw02_ArenaSums.f
  refine Ev.bind words_ev ?_
  simp only [if_true]
  by_cases c1 : (l1.length : Int) > 1000
  · simp only [c1, if_true]; exact sums_t l0 l1 l2
  · simp only [c1, if_false]
    by_cases c2 : (l2.length : Int) > 1000
    · simp only [c2, decide_true]; exact sums_t l0 l1 l2
    · simp only [c2, decide_false]
      exact sums_j l0 l1 l2 hl (by omega) (by omega) (fun p hp => (wf_u64 (hw1 p hp)).1) (fun p hp => (wf_u64 (hw2 p hp)).1)

end Go.Proofs.Ytdadleamaalhiaa.Pure
