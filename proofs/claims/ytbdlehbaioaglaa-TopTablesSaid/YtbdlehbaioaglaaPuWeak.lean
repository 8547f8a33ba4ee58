/- What the functions of package weak come to. -/
import Derived.Test.YtbdlehbaioaglaaGTx4
import Derived.Test.YtbdlehbaioaglaaGTx4
import Derived.Test.YtbdlehbaioaglaaGTx3
import Derived.Test.YtbdlehbaioaglaaPuBitW
namespace Go.Proofs.Ytbdlehbaioaglaa.PuWeak
open Go.RowKit Go.Proofs.YtbdlehbaioaglaaW.PrintWords Go.Proofs.YtbdlehbaioaglaaW.PrintLast Go.Proofs.YtbdlehbaioaglaaW.PrintMore Go.Proofs.Ytbdlehbaioaglaa.GT Go.Proofs.Ytbdlehbaioaglaa.Pu Go.Proofs.Ytbdlehbaioaglaa.PuBitW

/-- Where the first one is, from i on; -1: nowhere. -/
def idxS (a : Int) : List Int → Int → Int
  | [], _ => -1
  | x :: r, i => if a = x then i else idxS a r (i + 1)
theorem idxS_ge (a : Int) : ∀ (l : List Int) (i : Int), 0 ≤ i → -1 ≤ idxS a l i ∧ idxS a l i < i + l.length ∧ (idxS a l i = -1 ∨ i ≤ idxS a l i)
  | [], i, h => by simp [idxS]; omega
  | x :: r, i, h => by
    unfold idxS
    by_cases e : a = x
    · rw [if_pos e]; simp only [List.length_cons]; omega
    · rw [if_neg e]
      have := idxS_ge a r (i + 1) (by omega)
      simp only [List.length_cons]; omega
theorem idxS_no (a : Int) : ∀ (l : List Int) (i : Int), 0 ≤ i → (idxS a l i = -1 ↔ a ∉ l)
  | [], i, h => by simp [idxS]
  | x :: r, i, h => by
    unfold idxS
    by_cases e : a = x
    · rw [if_pos e]; simp [e]; omega
    · rw [if_neg e, idxS_no a r (i + 1) (by omega)]; simp [e]
theorem idxS_at (a : Int) : ∀ (l : List Int) (i : Int), 0 ≤ i → a ∈ l → rd l (idxS a l i - i) = a
  | [], i, h, hm => by cases hm
  | x :: r, i, h, hm => by
    unfold idxS
    by_cases e : a = x
    · rw [if_pos e]; simp [rd, e]
    · rw [if_neg e]
      have hr : a ∈ r := by simpa [e] using hm
      have h2 := idxS_at a r (i + 1) (by omega) hr
      have h3 := idxS_ge a r (i + 1) (by omega)
      have h4 : ¬ idxS a r (i + 1) = -1 := fun hh => (idxS_no a r (i + 1) (by omega)).1 hh hr
      have e2 : (idxS a r (i + 1) - i).toNat = (idxS a r (i + 1) - (i + 1)).toNat + 1 := by omega
      have e3 : rd (x :: r) (idxS a r (i + 1) - i) = rd r (idxS a r (i + 1) - (i + 1)) := by simp [rd, e2]
      exact e3.trans h2
theorem idxS_app (a : Int) : ∀ (l m : List Int) (i : Int), 0 ≤ i → idxS a (l ++ m) i = if idxS a l i = -1 then idxS a m (i + l.length) else idxS a l i
  | [], m, i, h => by simp [idxS]
  | x :: r, m, i, h => by
    rw [List.cons_append, idxS, idxS]
    by_cases e : a = x
    · simp only [e, if_true]; rw [if_neg (by omega)]
    · simp only [e, if_false]; rw [idxS_app a r m (i + 1) (by omega)]
      simp only [List.length_cons]
      rw [show i + 1 + (r.length : Int) = i + ((r.length + 1 : Nat) : Int) by omega]
def findS (l : List Int) (a : Int) : Int := if a = 0 then 0 else idxS a l 0 + 1
theorem findS_ge (l : List Int) (a : Int) : 0 ≤ findS l a ∧ findS l a ≤ l.length := by
  unfold findS; have := idxS_ge a l 0 (by omega); split <;> omega
theorem findS_pos (l : List Int) (a : Int) : findS l a > 0 ↔ a ≠ 0 ∧ a ∈ l := by
  unfold findS
  by_cases h : a = 0
  · simp [h]
  · rw [if_neg h]
    have h0 := idxS_ge a l 0 (by omega)
    have h1 := idxS_no a l 0 (by omega)
    constructor
    · intro hp; exact ⟨h, Classical.byContradiction fun hh => by have := h1.2 hh; omega⟩
    · rintro ⟨_, hm⟩; have : ¬ idxS a l 0 = -1 := fun hh => h1.1 hh hm; omega
theorem findS_at (l : List Int) (a : Int) (h : findS l a > 0) : rd l (findS l a - 1) = a := by
  have hp := (findS_pos l a).1 h
  have := idxS_at a l 0 (by omega) hp.2
  unfold findS; rw [if_neg hp.1, show idxS a l 0 + 1 - 1 = idxS a l 0 - 0 by omega]; exact this
theorem index_l (l : List Int) (hl : l.length ≤ 17592186044416) (a : Int) : ∀ (d : Nat) (i : Int), 0 ≤ i → (l.length : Int) - i = d → Ev (fun k => weak_table_uint64.l0 k l a (l.length : Int) i) (idxS a (l.drop i.toNat) i) := by
  intro d
  induction d with
  | zero =>
    intro i h0 hd
    refine ev_of (K := 1) fun k hk => ?_
    obtain ⟨k, rfl⟩ : ∃ m, k = m + 1 := ⟨k - 1, by omega⟩
    simp only [weak_table_uint64.l0]; rw [if_neg (by omega), drop_end (by omega)]; rfl
  | succ d ih =>
    intro i h0 hd
    have hlt : i < (l.length : Int) := by omega
    rw [drop_rd h0 hlt]; unfold idxS
    by_cases e : a = rd l i
    · refine ev_of (K := 1) fun k hk => ?_
      obtain ⟨k, rfl⟩ : ∃ m, k = m + 1 := ⟨k - 1, by omega⟩
      simp only [weak_table_uint64.l0]; rw [if_pos hlt, if_pos h0, if_pos hlt, if_pos e, if_pos e]
    · rw [if_neg e]
      refine ev_succ (f := fun k => weak_table_uint64.l0 k l a (l.length : Int) (i + 1)) (fun k => ?_) (ih (i + 1) (by omega) (by omega))
      simp only [weak_table_uint64.l0]; rw [if_pos hlt, if_pos h0, if_pos hlt, if_neg e, w64 (by omega) (by omega)]
theorem find_ev (l : List Int) (hl : l.length ≤ 17592186044416) (a : Int) : Ev (fun k => weak_table_find.f k l a) (findS l a) := by
  unfold weak_table_find.f findS
  by_cases h : a = 0
  · simp only [h, if_true]; exact ev_const rfl
  · simp only [h, if_false]
    have := index_l l hl a l.length 0 (by omega) (by omega)
    refine Ev.bind (g := fun k => weak_table_uint64.f k l a) this ?_
    have hg := idxS_ge a l 0 (by omega)
    have : wrap64 (idxS a (l.drop (0 : Int).toNat) 0 + 1) = idxS a l 0 + 1 := by
      rw [show (0 : Int).toNat = 0 from rfl, List.drop_zero]; exact w64 (by omega) (by omega)
    rw [this]; exact ev_const rfl
theorem cindex_l (l : List Int) (hl : l.length ≤ 17592186044416) (a : Int) : ∀ (d : Nat) (i : Int), 0 ≤ i → (l.length : Int) - i = d → Ev (fun k => slices_Index_uint64_uint64.l0 k l a (l.length : Int) i) (idxS a (l.drop i.toNat) i) := by
  intro d
  induction d with
  | zero =>
    intro i h0 hd
    refine ev_of (K := 1) fun k hk => ?_
    obtain ⟨k, rfl⟩ : ∃ m, k = m + 1 := ⟨k - 1, by omega⟩
    simp only [slices_Index_uint64_uint64.l0]; rw [if_neg (by omega), drop_end (by omega)]; rfl
  | succ d ih =>
    intro i h0 hd
    have hlt : i < (l.length : Int) := by omega
    rw [drop_rd h0 hlt]; unfold idxS
    by_cases e : a = rd l i
    · refine ev_of (K := 1) fun k hk => ?_
      obtain ⟨k, rfl⟩ : ∃ m, k = m + 1 := ⟨k - 1, by omega⟩
      simp only [slices_Index_uint64_uint64.l0]; rw [if_pos hlt, if_pos h0, if_pos hlt, if_pos e, if_pos e]
    · rw [if_neg e]
      refine ev_succ (f := fun k => slices_Index_uint64_uint64.l0 k l a (l.length : Int) (i + 1)) (fun k => ?_) (ih (i + 1) (by omega) (by omega))
      simp only [slices_Index_uint64_uint64.l0]; rw [if_pos hlt, if_pos h0, if_pos hlt, if_neg e, w64 (by omega) (by omega)]
theorem contains_ev (l : List Int) (hl : l.length ≤ 17592186044416) (a : Int) : Ev (fun k => slices_Contains_uint64_uint64.f k l a) (decide (idxS a l 0 ≥ 0)) := by
  refine Ev.bind (g := fun k => slices_Index_uint64_uint64.f k l a) (cindex_l l hl a l.length 0 (by omega) (by omega)) (ev_const rfl)

/-- Is no one there twice? -/
def chkL (l : List Int) : Nat → Int → Int
  | 0, _ => 0
  | d + 1, i => if findS (l.take i.toNat) (rd l i) > 0 then 2 else chkL l d (i + 1)
def wchk (l : List Int) : Int := if (l.length : Int) > 64 then 2 else chkL l l.length 0
theorem chkL_02 (l : List Int) : ∀ (d : Nat) (i : Int), chkL l d i = 0 ∨ chkL l d i = 2
  | 0, _ => .inl rfl
  | d + 1, i => by unfold chkL; split; · exact .inr rfl
                   exact chkL_02 l d (i + 1)
theorem wchk_02 (l : List Int) : wchk l = 0 ∨ wchk l = 2 := by unfold wchk; split; · exact .inr rfl
                                                               exact chkL_02 l _ _
theorem chkL_iff (l : List Int) : ∀ (d : Nat) (i : Int), chkL l d i = 0 ↔ ∀ j : Int, i ≤ j → j < i + d → ¬ findS (l.take j.toNat) (rd l j) > 0
  | 0, i => by simp only [chkL, true_iff]; intro j h0 h1; omega
  | d + 1, i => by
    unfold chkL
    by_cases h : findS (l.take i.toNat) (rd l i) > 0
    · rw [if_pos h]; constructor
      · intro hh; omega
      · intro hh; exact absurd h (hh i (by omega) (by omega))
    · rw [if_neg h, chkL_iff l d (i + 1)]
      constructor
      · intro hh j h0 h1
        by_cases e : j = i
        · rw [e]; exact h
        · exact hh j (by omega) (by omega)
      · intro hh j h0 h1; exact hh j (by omega) (by omega)
theorem wchk_iff (l : List Int) : wchk l = 0 ↔ l.length ≤ 64 ∧ ∀ j : Int, 0 ≤ j → j < l.length → ¬ findS (l.take j.toNat) (rd l j) > 0 := by
  unfold wchk
  by_cases h : (l.length : Int) > 64
  · rw [if_pos h]; constructor
    · intro hh; omega
    · rintro ⟨hh, _⟩; omega
  · rw [if_neg h, chkL_iff]
    constructor
    · intro hh; exact ⟨by omega, fun j h0 h1 => hh j h0 (by omega)⟩
    · rintro ⟨_, hh⟩ j h0 h1; exact hh j h0 (by omega)
theorem check_l (l : List Int) (hl : l.length ≤ 64) : ∀ (d : Nat) (i : Int), 0 ≤ i → (l.length : Int) - i = d → Ev (fun k => weak_Check.l0 k l l (l.length : Int) i) (chkL l d i) := by
  intro d
  induction d with
  | zero =>
    intro i h0 hd
    refine ev_of (K := 1) fun k hk => ?_
    obtain ⟨k, rfl⟩ : ∃ m, k = m + 1 := ⟨k - 1, by omega⟩
    simp only [weak_Check.l0]; rw [if_neg (by omega)]; rfl
  | succ d ih =>
    intro i h0 hd
    unfold chkL
    refine ev_succ (f := fun k => _) (fun k => by simp only [weak_Check.l0]; rw [if_pos (by omega), if_pos h0, if_pos (by omega), if_pos (by omega), w64 (a := i + 1) (by omega) (by omega)]) ?_
    refine Ev.bind (find_ev _ (by simp; omega) _) ?_
    by_cases h : findS (l.take i.toNat) (rd l i) > 0
    · simp only [h, if_true]; exact ev_const rfl
    · simp only [h, if_false]; exact ih (i + 1) (by omega) (by omega)
theorem check_ev (l : List Int) : Ev (fun k => weak_Check.f k l) (wchk l) := by
  unfold weak_Check.f wchk
  by_cases h : (l.length : Int) > 64
  · simp only [h, if_true]; exact ev_const rfl
  · simp only [h, if_false]; exact check_l l (by omega) l.length 0 (by omega) (by omega)
theorem len64 {l : List Int} (h : wchk l = 0) : l.length ≤ 64 := ((wchk_iff l).1 h).1

def handleS (l : List Int) (a : Int) : Int × Int := if wchk l = 0 then (if a = 0 then (0, 7) else if findS l a > 0 then (findS l a, 0) else (0, 3)) else (0, 2)
theorem handle_ev (l : List Int) (a : Int) : Ev (fun k => weak_Handle.f k l a) (handleS l a) := by
  unfold weak_Handle.f handleS
  refine Ev.bind (check_ev l) ?_
  rcases wchk_02 l with h | h
  · simp only [h, if_true]
    have hl := len64 h
    refine Ev.bind (find_ev l (by omega) a) ?_
    by_cases ha : a = 0
    · simp only [ha, if_true]; exact ev_const rfl
    · simp only [ha, if_false]
      have hg := findS_ge l a
      by_cases hf : findS l a > 0
      · simp only [hf, show ¬ findS l a = 0 by omega, if_true, if_false]; exact ev_const rfl
      · simp only [show findS l a = 0 by omega, if_true]; exact ev_const rfl
  · simp only [h, show ¬ ((2 : Int) = 0) by decide, if_false]; exact ev_const rfl
def makeS (l : List Int) (a : Int) : List Int × Int × Int := if wchk l = 0 then (if a = 0 then (l, 0, 7) else if findS l a > 0 then (l, findS l a, 0) else if (l.length : Int) = 64 then (l, 0, 6) else (l ++ [a], (l.length : Int) + 1, 0)) else ([], 0, 2)
theorem make_ev (l : List Int) (hl : l.length < 17592186044416) (a : Int) : Ev (fun k => weak_Make.f k l a) (makeS l a) := by
  unfold weak_Make.f makeS
  refine Ev.bind (check_ev l) ?_
  rcases wchk_02 l with h | h
  · simp only [h, if_true]
    refine Ev.bind (g := fun _ => slices_Clone_uint64_uint64.f l) (ev_const (by simp [slices_Clone_uint64_uint64.f, hl]; rfl)) ?_
    refine Ev.bind (handle_ev l a) ?_
    unfold handleS
    simp only [h, if_true]
    by_cases ha : a = 0
    · simp only [ha, if_true, show ¬ ((7 : Int) = 3) by decide, if_false]; exact ev_const rfl
    · simp only [ha, if_false]
      by_cases hf : findS l a > 0
      · simp only [hf, if_true, show ¬ ((0 : Int) = 3) by decide, if_false]; exact ev_const rfl
      · simp only [hf, if_true, if_false]
        by_cases h6 : (l.length : Int) = 64
        · simp only [h6, if_true]; exact ev_const rfl
        · simp only [h6, if_false, hl, if_true, Option.bind_some]; exact ev_const (by simp)
  · simp only [h, show ¬ ((2 : Int) = 0) by decide, if_false]; exact ev_const rfl
/-- Those that are asked for lead to nothing; which ones did. -/
def clrL (ps : List Int) : Nat → Int → List Int → List Int → List Int × List Int
  | 0, _, t, o => (t, o)
  | d + 1, i, t, o => if findS ps (rd t i) > 0 then clrL ps d (i + 1) (t.set i.toNat 0) (o ++ [i + 1]) else clrL ps d (i + 1) t o
def clearS (l ps : List Int) : List Int × List Int × Int := if wchk l = 0 then ((clrL ps l.length 0 l []).1, (clrL ps l.length 0 l []).2, 0) else ([], [], 2)
theorem clear_l (ps : List Int) (hps : ps.length ≤ 17592186044416) (L : Int) (hL : L ≤ 64) : ∀ (d : Nat) (i : Int) (t o : List Int), (t.length : Int) = L → (o.length : Int) ≤ i → 0 ≤ i → L - i = d → Ev (fun k => weak_Clear.l0 k t ps o L i) ((clrL ps d i t o).1, (clrL ps d i t o).2, 0) := by
  intro d
  induction d with
  | zero =>
    intro i t o ht ho h0 hd
    refine ev_of (K := 1) fun k hk => ?_
    obtain ⟨k, rfl⟩ : ∃ m, k = m + 1 := ⟨k - 1, by omega⟩
    simp only [weak_Clear.l0]; rw [if_neg (by omega)]; rfl
  | succ d ih =>
    intro i t o ht ho h0 hd
    unfold clrL
    refine ev_succ (f := fun k => _) (fun k => by simp only [weak_Clear.l0]; rw [if_pos (by omega), if_pos h0, if_pos (by omega), w64 (a := i + 1) (by omega) (by omega)]) ?_
    have e : findS ps (rd t i) > 0 ↔ ¬ rd t i = 0 ∧ idxS (rd t i) ps 0 ≥ 0 := by unfold findS; split <;> rename_i hz <;> simp [hz]; omega
    by_cases hz : rd t i = 0
    · simp only [hz, if_true]
      rw [if_neg (by rw [findS_pos]; simp)]
      exact ih (i + 1) t o ht (by omega) (by omega) (by omega)
    · simp only [hz, if_false]
      refine Ev.bind (contains_ev ps hps (rd t i)) ?_
      by_cases hc : idxS (rd t i) ps 0 ≥ 0
      · simp only [hc, decide_true, if_true]
        rw [if_pos (e.2 ⟨hz, hc⟩)]
        simp only [show o.length < 17592186044416 by omega, if_true]
        exact ih (i + 1) _ _ (by simpa using ht) (by simp; omega) (by omega) (by omega)
      · simp only [hc, decide_false, Bool.false_eq_true, if_false]
        rw [if_neg (fun h => hc (e.1 h).2)]
        exact ih (i + 1) t o ht (by omega) (by omega) (by omega)
theorem clear_ev (l : List Int) (hl : l.length < 17592186044416) (ps : List Int) (hps : ps.length ≤ 17592186044416) : Ev (fun k => weak_Clear.f k l ps) (clearS l ps) := by
  unfold weak_Clear.f clearS
  refine Ev.bind (check_ev l) ?_
  rcases wchk_02 l with h | h
  · simp only [h, if_true]
    have h6 := len64 h
    refine Ev.bind (g := fun _ => slices_Clone_uint64_uint64.f l) (ev_const (by simp [slices_Clone_uint64_uint64.f, hl]; rfl)) ?_
    exact clear_l ps hps (l.length : Int) (by omega) l.length 0 l [] rfl (by simp) (by omega) (by omega)
  · simp only [h, show ¬ ((2 : Int) = 0) by decide, if_false]; exact ev_const rfl

end Go.Proofs.Ytbdlehbaioaglaa.PuWeak
