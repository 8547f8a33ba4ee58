/- What Put and Fill of package bits come to, and the reference's Is, Check, Get, Put, Fill, Same beside them. -/
import Derived.Test.YtdadleamaalhiaaGBx15
import Derived.Test.YtdadleamaalhiaaGBx13
import Derived.Test.YtdadleamaalhiaaGBx12
import Derived.Test.YtdadleamaalhiaaGBx7
import Derived.Test.YtdadleamaalhiaaGBx1
import Derived.Test.YtdadleamaalhiaaGBx4
import Derived.Test.YtdadleamaalhiaaGBx5
import Derived.Test.YtdadleamaalhiaaGBx6
import Derived.Test.YtdadleamaalhiaaPuBits
namespace Go.Proofs.Ytdadleamaalhiaa.PuBitsPut
open Go.RowKit Go.Proofs.YtdadleamaalhiaaW.PrintWords Go.Proofs.YtdadleamaalhiaaW.PrintLast Go.Proofs.YtdadleamaalhiaaW.PrintMore Go.Proofs.Ytdadleamaalhiaa.GB Go.Proofs.Ytdadleamaalhiaa.Pu Go.Proofs.Ytdadleamaalhiaa.PuBitW Go.Proofs.Ytdadleamaalhiaa.PuBits

theorem putW_nat (v : Bool) (a r : Nat) (ha : a < 18446744073709551616) (hr : r < 64) : putW v (a : Int) r = (((if v = true then a ||| 2 ^ r else without a (2 ^ r)) : Nat) : Int) := put_nat v a r ha hr
/-- The list with bit i laid to v. -/
def setAt (v : Bool) (l : List Int) (i : Nat) : List Int := l.set (i / 64) (putW v (rd l ((i / 64 : Nat) : Int)) (i % 64))
theorem setAt_len (v : Bool) (l : List Int) (i : Nat) : (setAt v l i).length = l.length := by simp [setAt]
theorem setAt_words {l : List Int} (hw : Words l) (v : Bool) (i : Nat) : Words (setAt v l i) := by
  obtain ⟨e3, hlt⟩ := hw.rd_nat (i / 64)
  have h := put_lt v _ (i % 64) hlt (by omega)
  refine hw.set _ ?_ ?_ <;> rw [e3, putW_nat v _ _ hlt (by omega)] <;> omega

theorem ris_eq {l : List Int} (hw : Words l) (n i : Int) (h0 : 0 ≤ i) (h1 : i < 64 * (l.length : Int)) (hl : l.length < 17592186044416) : besomref01_Is.f n l i = some (bitAt l i.toNat) := by
  obtain ⟨m, rfl⟩ : ∃ m : Nat, i = (m : Int) := ⟨i.toNat, by omega⟩
  unfold besomref01_Is.f
  have e1 : Int.tdiv (m : Int) 64 = ((m / 64 : Nat) : Int) := rfl
  have e2 : Int.tmod (m : Int) 64 = ((m % 64 : Nat) : Int) := rfl
  rw [e1, e2, w64 (by omega) (by omega), wu64' (a := ((m % 64 : Nat) : Int)) (by omega) (by omega), if_pos (by omega), if_pos (by omega), if_pos (by omega)]
  obtain ⟨e3, hlt⟩ := hw.rd_nat (m / 64)
  rw [e3, is_mod _ _ (by omega), Int.toNat_natCast]; rfl
theorem rwords_n {n : Int} (h0 : 0 ≤ n) (h1 : n ≤ 4096) : wrap64 (Int.tdiv (wrap64 (n + 63)) 64) = (n + 63) / 64 := by
  rw [w64 (a := n + 63) (by omega) (by omega), Int.tdiv_eq_ediv_of_nonneg (by omega), w64 (by omega) (by omega)]
theorem rcheck_l {l : List Int} (hw : Words l) (n : Int) (hl : l.length < 1000) : ∀ (d : Nat) (i : Int), 0 ≤ i → 64 * (l.length : Int) - i = d → (∀ j : Nat, i ≤ j → j < 64 * l.length → bitAt l j = false) → Ev (fun k => besomref01_Check.l0 k i n l) 0 := by
  intro d
  induction d with
  | zero =>
    intro i h0 hd _
    refine ev_of (K := 1) fun k hk => ?_
    obtain ⟨k, rfl⟩ : ∃ m, k = m + 1 := ⟨k - 1, by omega⟩
    simp only [besomref01_Check.l0]; rw [w64 (by omega) (by omega), if_neg (by omega)]
  | succ d ih =>
    intro i h0 hd hz
    refine ev_succ (f := fun k => besomref01_Check.l0 k (i + 1) n l) (fun k => ?_) (ih (i + 1) (by omega) (by omega) (fun j hj => hz j (by omega)))
    simp only [besomref01_Check.l0]
    rw [w64 (a := 64 * (l.length : Int)) (by omega) (by omega), if_pos (by omega), ris_eq hw n i h0 (by omega) (by omega), w64 (a := i + 1) (by omega) (by omega)]
    simp only [Option.bind_some]
    rw [hz i.toNat (by omega) (by omega), if_neg (by decide)]
theorem rcheck_b {l : List Int} (hw : Words l) (n : Int) (hl : l.length < 1000) : ∀ (d : Nat) (i : Int), 0 ≤ i → 64 * (l.length : Int) - i = d → (¬ ∀ j : Nat, i ≤ j → j < 64 * l.length → bitAt l j = false) → Ev (fun k => besomref01_Check.l0 k i n l) 2 := by
  intro d
  induction d with
  | zero =>
    intro i h0 hd hh
    exact absurd (fun j hj hj2 => by omega) hh
  | succ d ih =>
    intro i h0 hd hz
    by_cases hb : bitAt l i.toNat = true
    · refine ev_of (K := 1) fun k hk => ?_
      obtain ⟨k, rfl⟩ : ∃ m, k = m + 1 := ⟨k - 1, by omega⟩
      simp only [besomref01_Check.l0]
      rw [w64 (a := 64 * (l.length : Int)) (by omega) (by omega), if_pos (by omega), ris_eq hw n i h0 (by omega) (by omega)]
      simp only [Option.bind_some]
      rw [hb, if_pos rfl]
    · refine ev_succ (f := fun k => besomref01_Check.l0 k (i + 1) n l) (fun k => ?_) (ih (i + 1) (by omega) (by omega) (fun hh => hz fun j hj hj2 => ?_))
      · simp only [besomref01_Check.l0]
        rw [w64 (a := 64 * (l.length : Int)) (by omega) (by omega), if_pos (by omega), ris_eq hw n i h0 (by omega) (by omega), w64 (a := i + 1) (by omega) (by omega)]
        simp only [Option.bind_some]
        rw [if_neg hb]
      · by_cases e : (j : Int) = i
        · rw [show j = i.toNat by omega]; simpa using hb
        · exact hh j (by omega) hj2
theorem rcheck_ev {n : Int} {l : List Int} (hw : Words l) (hl : l.length < 17592186044416) : Ev (fun k => besomref01_Check.f k n l) (chk n l) := by
  unfold besomref01_Check.f
  by_cases h0 : n < 0
  · simp only [h0, if_true]; rw [chk_bad (fun h => by have := h.1; omega)]
    exact ev_succ (f := fun _ => some 2) (fun k => by simp [besomref01_Check.j0]) (ev_const rfl)
  simp only [h0, if_false]
  by_cases h1 : n > 4096
  · simp only [h1, if_true]; rw [chk_bad (fun h => by have := h.2.1; omega)]
    exact ev_succ (f := fun _ => some 2) (fun k => by simp [besomref01_Check.j0]) (ev_const rfl)
  simp only [h1, if_false]
  rw [rwords_n (by omega) (by omega)]
  by_cases h2 : (l.length : Int) = (n + 63) / 64
  · refine ev_succ (f := fun k => besomref01_Check.l0 k n n l) (fun k => by simp [besomref01_Check.j0, h2]) ?_
    by_cases h3 : ∀ j : Nat, n ≤ j → j < 64 * l.length → bitAt l j = false
    · rw [chk_good ⟨by omega, by omega, h2, h3⟩]
      exact rcheck_l hw n (by omega) (64 * (l.length : Int) - n).toNat n (by omega) (by omega) h3
    · rw [chk_bad (fun h => h3 h.2.2.2)]
      exact rcheck_b hw n (by omega) (64 * (l.length : Int) - n).toNat n (by omega) (by omega) h3
  · rw [chk_bad (fun h => h2 h.2.2.1)]
    exact ev_succ (f := fun _ => some 2) (fun k => by simp [besomref01_Check.j0, h2]) (ev_const rfl)
theorem rcopy_eq (n : Int) (l : List Int) (h : l.length < 17592186044416) : besomref01_Copy.f n l = some (n, l) := by simp [besomref01_Copy.f, h]
theorem rget_ev {n : Int} {l : List Int} (hw : Words l) (hl : l.length < 17592186044416) (i : Int) : Ev (fun k => besomref01_Get.f k n l i) (getS n l i) := by
  unfold besomref01_Get.f
  refine Ev.bind (rcheck_ev hw hl) ?_
  unfold getS
  by_cases h : BFit n l
  · rw [chk_good h]; simp only [h, if_true]
    by_cases h1 : i < 0
    · simp only [h1, if_true]; exact ev_const rfl
    · simp only [h1, if_false]
      by_cases h2 : i ≥ n
      · simp only [h2, if_true]; exact ev_const rfl
      · simp only [h2, if_false]
        obtain ⟨g0, g1, g2, _⟩ := h
        rw [ris_eq hw n i (by omega) (by omega) hl]; exact ev_const rfl
  · rw [chk_bad h]; simp only [h, if_false, show ¬ ((2 : Int) = 0) by decide]; exact ev_const rfl

theorem set_self {l : List Int} {q : Nat} {x : Int} (h : x = rd l (q : Int)) : l.set q x = l := by
  subst h
  apply List.ext_getElem?
  intro j
  rw [List.getElem?_set]
  split
  · rename_i e; subst e
    split
    · rename_i hj; rw [rd_nat, List.getD_eq_getElem?_getD, List.getElem?_eq_getElem hj]; rfl
    · rename_i hj; rw [List.getElem?_eq_none (by omega)]
  · rfl
theorem rwith_eq {l : List Int} (hw : Words l) (n i : Int) (v : Bool) (h0 : 0 ≤ i) (h1 : i < 64 * (l.length : Int)) (hl : l.length < 17592186044416) : besomref01_with.f n l i v = some (n, setAt v l i.toNat) := by
  unfold besomref01_with.f
  rw [ris_eq hw n i h0 h1 hl]
  simp only [Option.bind_some]
  obtain ⟨m, rfl⟩ : ∃ m : Nat, i = (m : Int) := ⟨i.toNat, by omega⟩
  rw [Int.toNat_natCast]
  obtain ⟨e3, hlt⟩ := hw.rd_nat (m / 64)
  have e1 : Int.tdiv (m : Int) 64 = ((m / 64 : Nat) : Int) := rfl
  have e2 : Int.tmod (m : Int) 64 = ((m % 64 : Nat) : Int) := rfl
  by_cases hb : bitAt l m = v
  · rw [if_neg (by simp [hb])]
    unfold setAt
    rw [set_self (by rw [e3, putW_nat v _ _ hlt (by omega), put_same v _ _ hb])]
  · rw [if_pos (by simp [hb]), e1, e2, w64 (by omega) (by omega), wu64' (a := ((m % 64 : Nat) : Int)) (by omega) (by omega), if_pos (by omega), if_pos (by omega), if_pos (by omega), Int.toNat_natCast]
    unfold setAt
    rw [e3, putW_nat v _ _ hlt (by omega), shl_one _ (by omega), xor_nat _ _ hlt (pow_lt _ (by omega)), put_xor v _ _ hb]

/-- One bit laid, or why not. -/
noncomputable def putS (n : Int) (l : List Int) (i : Int) (v : Bool) : Int × List Int × Int := if BFit n l then (if i < 0 then (n, l, 1) else if i ≥ n then (n, l, 1) else (n, setAt v l i.toNat, 0)) else (0, [], 2)
theorem put_ev {n : Int} {l : List Int} (hw : Words l) (hl : l.length < 17592186044416) (i : Int) (v : Bool) : Ev (fun k => bits_Put.f k n l i v) (putS n l i v) := by
  unfold bits_Put.f
  refine Ev.bind (check_ev hw hl) ?_
  unfold putS
  by_cases h : BFit n l
  · rw [chk_good h]; simp only [h, if_true]
    rw [own_eq n l hl]; simp only [Option.bind_some]
    by_cases h1 : i < 0
    · simp only [h1, if_true]; exact ev_const rfl
    · simp only [h1, if_false]
      by_cases h2 : i ≥ n
      · simp only [h2, if_true]; exact ev_const rfl
      · simp only [h2, if_false]
        obtain ⟨g0, g1, g2, _⟩ := h
        rw [if_pos (by omega), if_pos (by omega)]; exact ev_const rfl
  · rw [chk_bad h]; simp only [h, if_false, show ¬ ((2 : Int) = 0) by decide]; exact ev_const rfl
theorem rput_ev {n : Int} {l : List Int} (hw : Words l) (hl : l.length < 17592186044416) (i : Int) (v : Bool) : Ev (fun k => besomref01_Put.f k n l i v) (putS n l i v) := by
  unfold besomref01_Put.f
  refine Ev.bind (rcheck_ev hw hl) ?_
  unfold putS
  by_cases h : BFit n l
  · rw [chk_good h]; simp only [h, if_true]
    rw [rcopy_eq n l hl]; simp only [Option.bind_some]
    by_cases h1 : i < 0
    · simp only [h1, if_true]; exact ev_const rfl
    · simp only [h1, if_false]
      by_cases h2 : i ≥ n
      · simp only [h2, if_true]; exact ev_const rfl
      · simp only [h2, if_false]
        obtain ⟨g0, g1, g2, _⟩ := h
        rw [rwith_eq hw n i v (by omega) (by omega) hl]; exact ev_const rfl
  · rw [chk_bad h]; simp only [h, if_false, show ¬ ((2 : Int) = 0) by decide]; exact ev_const rfl

/-- The list with m bits laid from fr + x on. -/
def fillAt (v : Bool) (fr : Nat) : Nat → Nat → List Int → List Int
  | 0, _, l => l
  | m + 1, x, l => fillAt v fr m (x + 1) (setAt v l (fr + x))
theorem fillAt_len (v : Bool) (fr : Nat) : ∀ (m x : Nat) (l : List Int), (fillAt v fr m x l).length = l.length
  | 0, _, _ => rfl
  | m + 1, x, l => by rw [fillAt, fillAt_len v fr m, setAt_len]
theorem fillL_eq (v : Bool) (fr : Nat) : ∀ (m x : Nat) (l : List Int), fr + x + m ≤ 64 * l.length → fillL v fr m x l = some (fillAt v fr m x l)
  | 0, _, _, _ => rfl
  | m + 1, x, l, h => by
    unfold fillL fillAt
    rw [if_pos (by omega)]
    have := fillL_eq v fr m (x + 1) (setAt v l (fr + x)) (by rw [setAt_len]; omega)
    exact this
noncomputable def fillS (n : Int) (l : List Int) (fr ct : Int) (v : Bool) : Int × List Int × Int :=
  if BFit n l then (if fr < 0 then (n, l, 1) else if ct < 0 then (n, l, 1) else if ct > n then (n, l, 1) else if fr > n - ct then (n, l, 1) else (n, fillAt v fr.toNat ct.toNat 0 l, 0)) else (0, [], 2)
theorem fill_ev {n : Int} {l : List Int} (hw : Words l) (hl : l.length < 17592186044416) (fr ct : Int) (v : Bool) : Ev (fun k => bits_Fill.f k n l fr ct v) (fillS n l fr ct v) := by
  unfold bits_Fill.f
  refine Ev.bind (check_ev hw hl) ?_
  unfold fillS
  by_cases h : BFit n l
  · rw [chk_good h]; simp only [h, if_true]
    rw [own_eq n l hl]; simp only [Option.bind_some]
    by_cases h1 : fr < 0
    · simp only [h1, if_true]; exact ev_const rfl
    simp only [h1, if_false]
    by_cases h2 : ct < 0
    · simp only [h2, if_true]; exact ev_const rfl
    simp only [h2, if_false]
    by_cases h3 : ct > n
    · simp only [h3, if_true]; exact ev_const rfl
    simp only [h3, if_false]
    obtain ⟨g0, g1, g2, _⟩ := h
    rw [w64 (by omega) (by omega)]
    by_cases h4 : fr > n - ct
    · simp only [h4, if_true]; exact ev_const rfl
    simp only [h4, if_false]
    rw [if_pos (by omega), fillL_eq v _ _ _ _ (by omega)]; exact ev_const rfl
  · rw [chk_bad h]; simp only [h, if_false, show ¬ ((2 : Int) = 0) by decide]; exact ev_const rfl
theorem rfill_l (n fr ct : Int) (v : Bool) (hf : 0 ≤ fr) (hb : fr + ct ≤ 1000000) : ∀ (d : Nat) (x : Int) (l : List Int), Words l → l.length < 17592186044416 → fr + ct ≤ 64 * (l.length : Int) → 0 ≤ x → ct - x = d → Ev (fun k => besomref01_Fill.l0 k fr ct v x n l) (n, fillAt v fr.toNat d x.toNat l, 0) := by
  intro d
  induction d with
  | zero =>
    intro x l hw hl hh h0 hd
    refine ev_of (K := 1) fun k hk => ?_
    obtain ⟨k, rfl⟩ : ∃ m, k = m + 1 := ⟨k - 1, by omega⟩
    simp only [besomref01_Fill.l0]; rw [if_neg (by omega)]; rfl
  | succ d ih =>
    intro x l hw hl hh h0 hd
    have := ih (x + 1) (setAt v l (fr.toNat + x.toNat)) (setAt_words hw v _) (by rw [setAt_len]; omega) (by rw [setAt_len]; omega) (by omega) (by omega)
    rw [fillAt, show x.toNat + 1 = (x + 1).toNat by omega]
    refine ev_succ (f := fun k => besomref01_Fill.l0 k fr ct v (x + 1) n (setAt v l (fr.toNat + x.toNat))) (fun k => ?_) this
    simp only [besomref01_Fill.l0]
    rw [if_pos (by omega), w64 (a := fr + x) (by omega) (by omega), rwith_eq hw n (fr + x) v (by omega) (by omega) hl, w64 (a := x + 1) (by omega) (by omega)]
    simp only [Option.bind_some]
    rw [show (fr + x).toNat = fr.toNat + x.toNat by omega]
theorem rfill_ev {n : Int} {l : List Int} (hw : Words l) (hl : l.length < 17592186044416) (fr ct : Int) (v : Bool) : Ev (fun k => besomref01_Fill.f k n l fr ct v) (fillS n l fr ct v) := by
  unfold besomref01_Fill.f
  refine Ev.bind (rcheck_ev hw hl) ?_
  unfold fillS
  by_cases h : BFit n l
  · rw [chk_good h]; simp only [h, if_true]
    rw [rcopy_eq n l hl]; simp only [Option.bind_some]
    have no : Ev (fun k => besomref01_Fill.j0 k fr ct v true n l) (n, l, 1) := ev_succ (f := fun _ => some (n, l, 1)) (fun k => by simp [besomref01_Fill.j0]) (ev_const rfl)
    by_cases h1 : fr < 0
    · simp only [h1, if_true]; exact no
    simp only [h1, if_false]
    by_cases h2 : ct < 0
    · simp only [h2, if_true]; exact no
    simp only [h2, if_false]
    by_cases h3 : ct > n
    · simp only [h3, if_true]; exact no
    simp only [h3, if_false]
    obtain ⟨g0, g1, g2, _⟩ := h
    rw [w64 (by omega) (by omega)]
    by_cases h4 : fr > n - ct
    · simp only [h4, if_true, decide_true]; exact no
    simp only [h4, if_false, decide_false]
    refine ev_succ (f := fun k => besomref01_Fill.l0 k fr ct v 0 n l) (fun k => by simp [besomref01_Fill.j0]) ?_
    have := rfill_l n fr ct v (by omega) (by omega) ct.toNat 0 l hw hl (by omega) (by omega) (by omega)
    exact this
  · rw [chk_bad h]; simp only [h, if_false, show ¬ ((2 : Int) = 0) by decide]; exact ev_const rfl

theorem same_l (n m : Int) (l : List Int) (h : l.length < 17592186044416) : ∀ (d : Nat) (i : Int), 0 ≤ i → (l.length : Int) - i = d → Ev (fun k => besomref01_Same.l0 k (l.length : Int) i n l m l) true := by
  intro d
  induction d with
  | zero =>
    intro i h0 hd
    refine ev_of (K := 1) fun k hk => ?_
    obtain ⟨k, rfl⟩ : ∃ m, k = m + 1 := ⟨k - 1, by omega⟩
    simp only [besomref01_Same.l0]; rw [if_neg (by omega)]
  | succ d ih =>
    intro i h0 hd
    refine ev_succ (f := fun k => besomref01_Same.l0 k (l.length : Int) (i + 1) n l m l) (fun k => ?_) (ih (i + 1) (by omega) (by omega))
    simp only [besomref01_Same.l0]
    rw [if_pos (by omega), if_pos h0, if_pos (by omega), if_pos (by omega), if_pos trivial, w64 (by omega) (by omega)]
theorem same_ev (n : Int) (l : List Int) (h : l.length < 17592186044416) : Ev (fun k => besomref01_Same.f k n l n l) true := by
  unfold besomref01_Same.f
  simp only [if_true]
  exact ev_succ (f := fun k => besomref01_Same.l0 k (l.length : Int) 0 n l n l) (fun k => by simp [besomref01_Same.j0]) (same_l n n l h l.length 0 (by omega) (by omega))

theorem make_eq (n : Int) : bits_Make.f n = besomref01_Make.f n := by
  unfold bits_Make.f besomref01_Make.f
  by_cases h0 : n < 0
  · rw [if_pos h0, if_pos h0]
  by_cases h1 : n > 4096
  · rw [if_neg h0, if_neg h0, if_pos h1, if_pos h1]
  rw [words_n (by omega) (by omega), rwords_n (by omega) (by omega)]
theorem make_some (n : Int) : ∃ r, bits_Make.f n = some r ∧ r.2.1.length < 17592186044416 := by
  unfold bits_Make.f
  by_cases h0 : n < 0
  · rw [if_pos h0]; exact ⟨_, rfl, by decide⟩
  by_cases h1 : n > 4096
  · rw [if_neg h0, if_pos h1]; exact ⟨_, rfl, by decide⟩
  rw [if_neg h0, if_neg h1, words_n (by omega) (by omega), if_pos (by omega), if_pos (by omega)]
  exact ⟨_, rfl, by simp; omega⟩
theorem puts_ev : Ev (fun k => besomlaw01_puts.f k) true := ev_of (K := 60) fun _ hk => at_rounds (g := fun k => besomlaw01_puts.f k) besomlaw01_puts.mono hk besomlaw01_puts.run_
theorem putS_len {n : Int} {l : List Int} (hl : l.length < 17592186044416) (i : Int) (v : Bool) : (putS n l i v).2.1.length < 17592186044416 := by
  unfold putS; repeat' split
  all_goals first | (simp only [setAt_len]; exact hl) | (simp; done)
theorem fillS_len {n : Int} {l : List Int} (hl : l.length < 17592186044416) (fr ct : Int) (v : Bool) : (fillS n l fr ct v).2.1.length < 17592186044416 := by
  unfold fillS; repeat' split
  all_goals first | exact hl | (simp only [fillAt_len]; exact hl) | (simp; done)

end Go.Proofs.Ytdadleamaalhiaa.PuBitsPut
