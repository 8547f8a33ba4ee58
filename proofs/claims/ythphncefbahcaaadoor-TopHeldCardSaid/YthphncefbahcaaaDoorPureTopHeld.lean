/- Words for which the pages that they take are taken, one after the other, are apart; given back in any order all pages are free again. -/
import Derived.Test.YthphncefbahcaaaDoorGTx5
import Derived.Test.YthphncefbahcaaaDoorPuRunsT
import Derived.Test.YthphncefbahcaaaDoorPuClassPT
namespace Go.Proofs.YthphncefbahcaaaDoor.Pure
open Go.RowKit Go.Proofs.YthphncefbahcaaaDoorW.PrintWords Go.Proofs.YthphncefbahcaaaDoorW.PrintLast Go.Proofs.YthphncefbahcaaaDoorW.PrintMore Go.Proofs.YthphncefbahcaaaDoor.GT Go.Proofs.YthphncefbahcaaaDoor.Pu Go.Proofs.YthphncefbahcaaaDoor.PuBitW Go.Proofs.YthphncefbahcaaaDoor.PuBitsT Go.Proofs.YthphncefbahcaaaDoor.PuBitsLayT Go.Proofs.YthphncefbahcaaaDoor.PuBitsCountLT Go.Proofs.YthphncefbahcaaaDoor.PuBitsFirstT Go.Proofs.YthphncefbahcaaaDoor.PuBitsRunIT Go.Proofs.YthphncefbahcaaaDoor.PuBitsFillJT Go.Proofs.YthphncefbahcaaaDoor.PuPagesT Go.Proofs.YthphncefbahcaaaDoor.PuRunsT Go.Proofs.YthphncefbahcaaaDoor.PuClassPT

def fs (R : List (Int × Int)) : List Int := R.map Prod.fst
def ss (R : List (Int × Int)) : List Int := R.map Prod.snd
theorem fs_len (R : List (Int × Int)) : (fs R).length = R.length := by simp [fs]
theorem ss_len (R : List (Int × Int)) : (ss R).length = R.length := by simp [ss]
theorem fs_rd (R : List (Int × Int)) (j : Nat) (h : j < R.length) : rd (fs R) (j : Int) = (R[j]).1 := by
  rw [rd_nat, List.getD_eq_getElem?_getD, List.getElem?_eq_getElem (by rw [fs_len]; exact h)]; simp [fs]
theorem ss_rd (R : List (Int × Int)) (j : Nat) (h : j < R.length) : rd (ss R) (j : Int) = (R[j]).2 := by
  rw [rd_nat, List.getD_eq_getElem?_getD, List.getElem?_eq_getElem (by rw [ss_len]; exact h)]; simp [ss]
theorem fs_cut (R : List (Int × Int)) (j : Nat) : cutAt (fs R) [(j : Int)] = fs (R.take j ++ R.drop (j + 1)) := by
  simp [cutAt, fs, List.map_append, List.map_take, List.map_drop]
theorem ss_cut (R : List (Int × Int)) (j : Nat) : cutAt (ss R) [(j : Int)] = ss (R.take j ++ R.drop (j + 1)) := by
  simp [cutAt, ss, List.map_append, List.map_take, List.map_drop]
theorem split_at (R : List (Int × Int)) (j : Nat) (h : j < R.length) : R = R.take j ++ R[j] :: R.drop (j + 1) := by
  rw [← List.drop_eq_getElem_cons h, List.take_append_drop]
theorem far_test {f s a k : Int} (h : Far (f, s) (a, k)) (hs : 1 ≤ s) (hk : 1 ≤ k) (h1 : a < f + s) : ¬ f < a + k := fun h2 => by
  by_cases c : f ≤ a
  · exact h a ⟨c, h1⟩ ⟨Int.le_refl _, by simp only; omega⟩
  · exact h f ⟨Int.le_refl _, by simp only; omega⟩ ⟨by simp only; omega, h2⟩
theorem begins_ev : Ev (fun k => besomtop_begins.f k) true := ev_of (K := 60) fun _ hk => at_rounds (g := fun k => besomtop_begins.f k) besomtop_begins.mono hk besomtop_begins.run_
/-- The second loop: each given back, and at last all are free. -/
theorem l2_true (n : Int) (order : List Int) (ho : ∀ x ∈ order, (Lit.int .u8 x).wf = true) (hol : (order.length : Int) ≤ 100000000000000000) : ∀ (d : Nat) (R : List (Int × Int)) (l : List Int) (i : Int), R.length = d → Inv n l R → 0 ≤ i → i + d ≤ 100000 → Ev (fun k => besomtop_TopHeld.l2 k n order (fs R) (ss R) i n l) true := by
  intro d
  induction d with
  | zero =>
    intro R l i hd hI i0 i1
    have e : R = [] := List.eq_nil_of_length_eq_zero hd
    subst e
    refine ev_succ (f := fun k => (pages_Longest.f k n l).bind fun bt190 => (if bt190.2 = 0 then (some (bt190.1 == n)) else (some false))) (fun k => by rw [besomtop_TopHeld.l2, if_neg (by rw [fs_len]; simp)]) ?_
    have g := hI.fit
    obtain ⟨g0, g1, g2, _⟩ := g
    rcases long_ev (n := n) hI.words (by omega) with ⟨hn, _⟩ | ⟨_, b, hb, he⟩
    · exact absurd hI.fit hn
    · refine Ev.bind he ?_
      rw [hb.eq hI.none]
      simp only [if_true]
      refine ev_const ?_; simp
  | succ d ih =>
    intro R l i hd hI i0 i1
    have g := hI.fit
    obtain ⟨g0, g1, g2, _⟩ := g
    have hlen := len_le hI
    -- the round, from the place on that is given back
    have round : ∀ j : Nat, j < R.length → Ev (fun k => (pages_Give.f k n l (rd (fs R) (j : Int)) (rd (ss R) (j : Int))).bind fun bt195 => (if bt195.2.2 = 0 then ((some (([(j : Int)] : List Int) : List Int)).bind fun y201 => (if (fs R).length + y201.length < 17592186044416 then ((some (([(j : Int)] : List Int) : List Int)).bind fun y207 => (if (ss R).length + y207.length < 17592186044416 then (besomtop_TopHeld.l2 k n order (cutAt (fs R) y201) (cutAt (ss R) y207) (wrap64 (i + 1)) bt195.1 bt195.2.1) else (none))) else (none))) else (some false))) true := by
      intro j hj
      rw [fs_rd R j hj, ss_rd R j hj]
      have hI2 : Inv n l (R.take j ++ R[j] :: R.drop (j + 1)) := by rw [← split_at R j hj]; exact hI
      obtain ⟨hset, hrange, hnext⟩ := hI2.give
      rcases Give_ev (n := n) hI.words (by omega) (R[j]).1 (R[j]).2 with ⟨hn, _⟩ | ⟨_, ⟨hr, _⟩ | ⟨_, ⟨_, hE⟩ | ⟨hn, _⟩⟩⟩
      · exact absurd hI.fit hn
      · exact absurd hrange hr
      · refine Ev.bind hE ?_
        simp only [if_true, Option.bind_some, fs_len, ss_len, List.length_singleton, show R.length + 1 < 17592186044416 by omega, fs_cut, ss_cut]
        rw [w64 (by omega) (by omega)]
        exact ih _ _ (i + 1) (by rw [List.length_append, List.length_take, List.length_drop]; omega) hnext (by omega) (by omega)
      · exact absurd hset hn
    by_cases ho0 : (order.length : Int) > 0
    · have hm : Int.tmod i (order.length : Int) = i % (order.length : Int) := Int.tmod_eq_emod_of_nonneg i0
      have m0 : 0 ≤ i % (order.length : Int) := Int.emod_nonneg _ (by omega)
      have m1 : i % (order.length : Int) < (order.length : Int) := Int.emod_lt_of_pos _ ho0
      have hv := wf_u8 (ho _ (rd_mem (l := order) m0 m1))
      have hw : wrap64 (rd order (i % (order.length : Int))) = rd order (i % (order.length : Int)) := w64 (by omega) (by omega)
      obtain ⟨j, hj⟩ : ∃ j : Nat, Int.tmod (rd order (i % (order.length : Int))) ((fs R).length : Int) = (j : Int) := by
        rw [Int.tmod_eq_emod_of_nonneg hv.1]
        exact ⟨_, (Int.toNat_of_nonneg (Int.emod_nonneg _ (by rw [fs_len]; omega))).symm⟩
      have hj2 : j < R.length := by
        have h1 : Int.tmod (rd order (i % (order.length : Int))) ((fs R).length : Int) < ((fs R).length : Int) := by
          rw [Int.tmod_eq_emod_of_nonneg hv.1]; exact Int.emod_lt_of_pos _ (by rw [fs_len]; omega)
        rw [hj, fs_len] at h1; omega
      refine ev_succ (f := fun k => _) (fun k => by
        rw [besomtop_TopHeld.l2, if_pos (by rw [fs_len]; omega), if_pos ho0, if_neg (by omega), hm, if_pos m0, if_pos m1, if_neg (by rw [fs_len]; omega), hw, hj, if_pos (by omega), if_pos (by rw [fs_len]; omega), if_pos (by rw [ss_len]; omega)]) (round j hj2)
    · refine ev_succ (f := fun k => _) (fun k => by
        rw [besomtop_TopHeld.l2, if_pos (by rw [fs_len]; omega), if_neg ho0, if_pos (by rw [fs_len]; omega), if_pos (by rw [ss_len]; omega)]; rfl) (round 0 (by omega))
/-- The first loop's inner one: the run that was taken is apart from all. -/
theorem l1_true (n : Int) (words order : List Int) (R : List (Int × Int)) (sum kk at' len i : Int) (L : List Int) (hn : n ≤ 4096) (hR : ∀ r ∈ R, 0 ≤ r.1 ∧ 1 ≤ r.2 ∧ r.1 + r.2 ≤ n) (hRl : (R.length : Int) ≤ n) (hat : 0 ≤ at') (hk : 1 ≤ kk) (hat2 : at' + kk ≤ n) (hfar : ∀ r ∈ R, Far r (at', kk))
    (next : Ev (fun k => besomtop_TopHeld.l0 k n words order (fs (R ++ [(at', kk)])) (ss (R ++ [(at', kk)])) (wrap64 (sum + kk)) len (wrap64 (i + 1)) n L) true) : ∀ (d : Nat) (j : Nat), R.length - j = d → j ≤ R.length → Ev (fun k => besomtop_TopHeld.l1 k n words order (fs R) (ss R) sum kk at' len i ((fs R).length : Int) (j : Int) n L) true := by
  intro d
  induction d with
  | zero =>
    intro j hd hj
    refine ev_succ (f := fun k => _) (fun k => by rw [besomtop_TopHeld.l1, if_neg (by rw [fs_len]; omega)]) ?_
    simp only [Option.bind_some, fs_len, ss_len, List.length_singleton, show R.length + 1 < 17592186044416 by omega, if_true]
    have e1 : fs R ++ [at'] = fs (R ++ [(at', kk)]) := by simp [fs]
    have e2 : ss R ++ [kk] = ss (R ++ [(at', kk)]) := by simp [ss]
    rw [e1, e2]; exact next
  | succ d ih =>
    intro j hd hj
    have hj2 : j < R.length := by omega
    have hm := List.getElem_mem hj2
    obtain ⟨r0, r1, r2⟩ := hR _ hm
    have hf := hfar _ hm
    have p1 : (j : Int) < ((fs R).length : Int) := by rw [fs_len]; omega
    have p2 : (j : Int) < ((ss R).length : Int) := by rw [ss_len]; omega
    have p0 : (0 : Int) ≤ (j : Int) := by omega
    have q1 : -9223372036854775808 ≤ (j : Int) + 1 ∧ (j : Int) + 1 ≤ 9223372036854775807 := by omega
    have q2 : -9223372036854775808 ≤ at' + kk ∧ at' + kk ≤ 9223372036854775807 := by omega
    have q3 : -9223372036854775808 ≤ (R[j]).1 + (R[j]).2 ∧ (R[j]).1 + (R[j]).2 ≤ 9223372036854775807 := by omega
    have nx := ih (j + 1) (by omega) (by omega)
    have e1 : wrap64 (rd (fs R) (j : Int) + rd (ss R) (j : Int)) = (R[j]).1 + (R[j]).2 := by rw [fs_rd R j hj2, ss_rd R j hj2]; exact w64 q3.1 q3.2
    have e2 : wrap64 (at' + kk) = at' + kk := w64 q2.1 q2.2
    have e3 : wrap64 ((j : Int) + 1) = ((j + 1 : Nat) : Int) := (w64 q1.1 q1.2).trans (Int.natCast_succ j).symm
    refine ev_succ (fun k => ?_) nx
    rw [besomtop_TopHeld.l1, if_pos p1, if_pos p0, if_pos p1, if_pos p2, e1, e2, e3]
    by_cases c : at' < (R[j]).1 + (R[j]).2
    · rw [if_pos c, if_neg (by rw [fs_rd R j hj2]; exact far_test hf r1 hk c)]
    · rw [if_neg c]
theorem l0_true (n : Int) (words order : List Int) (_ : ∀ x ∈ words, (Lit.int .i64 x).wf = true) (hwl : (words.length : Int) ≤ 100000000000000000) (ho : ∀ x ∈ order, (Lit.int .u8 x).wf = true) (hol : (order.length : Int) ≤ 100000000000000000) : ∀ (d : Nat) (i : Int) (R : List (Int × Int)) (l : List Int), 0 ≤ i → (words.length : Int) - i = d → Inv n l R → Ev (fun k => besomtop_TopHeld.l0 k n words order (fs R) (ss R) (total R) (words.length : Int) i n l) true := by
  intro d
  induction d with
  | zero =>
    intro i R l i0 hd hI
    have g := hI.fit
    obtain ⟨g0, g1, g2, _⟩ := g
    have ht := total_nonneg hI
    have hlen := len_le hI
    refine ev_succ (f := fun k => _) (fun k => by rw [besomtop_TopHeld.l0, if_neg (by omega)]) (Ev.bind (free_ev hI.words (by omega)) ?_)
    unfold freeS
    rw [if_pos hI.fit]
    simp only [if_true]
    rw [hI.cnt, w64 (by omega) (by omega), show (n - total R + total R != n) = false by rw [show n - total R + total R = n by omega]; simp]
    refine ev_succ (f := fun k => besomtop_TopHeld.l2 k n order (fs R) (ss R) 0 n l) (fun k => by rw [besomtop_TopHeld.j3, if_neg (by decide)]) ?_
    exact l2_true n order ho hol R.length R l 0 rfl hI (by omega) (by omega)
  | succ d ih =>
    intro i R l i0 hd hI
    have g := hI.fit
    obtain ⟨g0, g1, g2, _⟩ := g
    have ht := total_nonneg hI
    have hlen := len_le hI
    have hi1 : wrap64 (i + 1) = i + 1 := w64 (by omega) (by omega)
    have on : Ev (fun k => besomtop_TopHeld.l0 k n words order (fs R) (ss R) (total R) (words.length : Int) (wrap64 (i + 1)) n l) true := by
      rw [hi1]; exact ih (i + 1) R l (by omega) (by omega) hI
    have skip : ∀ kk, Ev (fun k => besomtop_TopHeld.j1 k n words order (fs R) (ss R) (total R) kk (words.length : Int) i true n l) true := fun kk =>
      ev_succ (f := fun k => _) (fun k => by rw [besomtop_TopHeld.j1, if_pos rfl]) on
    refine ev_succ (f := fun k => _) (fun k => by rw [besomtop_TopHeld.l0, if_pos (by omega), if_pos i0, if_pos (by omega)]) (Ev.bind (pages_ev (rd words i)) ?_)
    by_cases c20 : i = 20
    · simp only [c20, if_true]
      have := skip (pagesS (rd words i)).1
      rw [c20] at this; exact this
    simp only [c20, if_false]
    by_cases cw : rd words i < 1 ∨ 49 < rd words i
    · have e : pagesS (rd words i) = (0, 1) := by unfold pagesS; rcases cw with h | h <;> repeat' (first | rfl | split | omega)
      rw [e]; exact skip 0
    have e : pagesS (rd words i) = ((rd words i + 15) / 16, 0) := by unfold pagesS; rw [if_neg (by omega), if_neg (by omega)]
    rw [e]
    generalize hkk : (rd words i + 15) / 16 = kk
    have hk1 : 1 ≤ kk := by omega
    have hk2 : kk ≤ 9223372036854775807 := by omega
    refine ev_succ (f := fun k => _) (fun k => by rw [besomtop_TopHeld.j1, if_neg (by simp)]) ?_
    rcases Take_ev (n := n) hI.words (by omega) kk hk2 with ⟨hn, _⟩ | ⟨_, ⟨hr, _⟩ | ⟨hr, ⟨s, hs, hE⟩ | ⟨hn, hE⟩⟩⟩
    · exact absurd hI.fit hn
    · omega
    · refine Ev.bind hE ?_
      simp only [if_true]
      obtain ⟨hI2, hfar⟩ := hI.take hr hs
      have s0 := hs.ge
      have s1 := hs.le
      refine l1_true n words order R (total R) kk s (words.length : Int) i _ g1 hI.inn hlen s0 hk1 s1 hfar ?_ R.length 0 (by omega) (by omega)
      rw [hi1, w64 (by omega) (by omega)]
      have := ih (i + 1) (R ++ [(s, kk)]) _ (by omega) (by omega) hI2
      rw [total_app, show total [(s, kk)] = kk by simp [total]] at this
      exact this
    · refine Ev.bind hE ?_
      simp only [show ¬ ((6 : Int) = 0) by decide, if_false]; exact on
theorem zeros_inv (n : Int) (h0 : 0 ≤ n) (h1 : n ≤ 4096) : Inv n (List.replicate ((n + 63) / 64).toNat 0) [] := by
  have hb : ∀ j, bitAt (List.replicate ((n + 63) / 64).toNat (0 : Int)) j = false := fun j => by
    unfold bitAt
    rw [List.getD_eq_getElem?_getD, List.getElem?_replicate]
    split <;> simp
  refine ⟨Words.replicate _, ⟨h0, h1, by rw [List.length_replicate]; omega, fun i _ _ => hb i⟩, (fun r hr => by cases hr), List.Pairwise.nil, fun j _ _ => ?_, ?_⟩
  · rw [hb]
    constructor
    · intro h; cases h
    · rintro ⟨r, hr, _⟩; cases hr
  · rw [cntI_zero _ _ _ (fun j _ _ => hb j)]; simp [total]
theorem make_ok (n : Int) (h0 : 0 ≤ n) (h1 : n ≤ 4096) : pages_Make.f n = some (n, List.replicate ((n + 63) / 64).toNat 0, 0) := by
  unfold pages_Make.f bits_Make.f
  rw [if_neg (by omega), if_neg (by omega), words_n h0 h1, if_pos (by omega), if_pos (by omega)]
  rfl
theorem make_no (n : Int) (h : n < 0 ∨ n > 4096) : pages_Make.f n = some (0, [], 1) := by
  unfold pages_Make.f bits_Make.f
  by_cases c : n < 0
  · rw [if_pos c]; rfl
  · rw [if_neg c, if_pos (by omega)]; rfl
theorem TopHeld : ∀ (a0 : Int) (l1 : List Int) (l2 : List Int), (Lit.int .i64 a0).wf = true → l1.length ≤ maxLen → l1.length * 8 ≤ 140737488351232 → (∀ x ∈ l1, (Lit.int .i64 x).wf = true) → l2.length ≤ maxLen → l2.length * 1 ≤ 140737488351232 → (∀ x ∈ l2, (Lit.int .u8 x).wf = true) → ∃ k, besomtop_TopHeld.f k a0 l1 l2 = some true := by
  intro n words order _ _ hs hw _ hso ho
  refine Ev.rounds (g := fun k => besomtop_TopHeld.f k n words order) ?_
  unfold besomtop_TopHeld.f
  refine Ev.bind begins_ev ?_
  simp only [if_true]
  by_cases h : 0 ≤ n ∧ n ≤ 4096
  · refine Ev.bind (ev_const (make_ok n h.1 h.2)) ?_
    simp only [if_true]
    exact l0_true n words order hw (by omega) ho (by omega) words.length 0 [] _ (by omega) (by omega) (zeros_inv n h.1 h.2)
  · refine Ev.bind (ev_const (make_no n (by omega))) ?_
    simp only [show ¬ ((1 : Int) = 0) by decide, if_false]
    by_cases c : n < 0
    · simp only [c, if_true]; exact ev_const rfl
    · simp only [c, if_false, show n > 4096 by omega, decide_true]; exact ev_const rfl

end Go.Proofs.YthphncefbahcaaaDoor.Pure
