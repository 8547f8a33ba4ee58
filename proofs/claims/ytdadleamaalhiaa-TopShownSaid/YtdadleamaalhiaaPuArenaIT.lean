/- What the functions of package arena come to. (Drawn from PuArena by leaving the reference out.) -/
import Derived.Test.YtdadleamaalhiaaGTx5
import Derived.Test.YtdadleamaalhiaaGTx5
import Derived.Test.YtdadleamaalhiaaGTx5
import Derived.Test.YtdadleamaalhiaaGTx4
import Derived.Test.YtdadleamaalhiaaPu
namespace Go.Proofs.Ytdadleamaalhiaa.PuArenaIT
open Go.RowKit Go.Proofs.YtdadleamaalhiaaW.PrintWords Go.Proofs.YtdadleamaalhiaaW.PrintLast Go.Proofs.YtdadleamaalhiaaW.PrintMore Go.Proofs.Ytdadleamaalhiaa.GT Go.Proofs.Ytdadleamaalhiaa.Pu

theorem check_eq (l : List Int) : arena_Check.f l = some (if (l.length : Int) > 16384 then 2 else 0) := by unfold arena_Check.f; split <;> rfl
theorem own_eq (l : List Int) (h : l.length < 17592186044416) : arena_Own.f l = some l := by simp [arena_Own.f, slices_Clone_uint64_uint64.f, h]
theorem sizeu (l : List Int) (h : l.length < 17592186044416) : IntKind.u64.wrap (l.length : Int) = (l.length : Int) := wu64' (by omega) (by omega)

/-- Are there n words from each place on? 0: yes. -/
def thereS (size n : Int) : List Int → Int
  | [] => 0
  | p :: r => if n > size then 1 else if p > size - n then 1 else thereS size n r
theorem thereS_01 (size n : Int) : ∀ l, thereS size n l = 0 ∨ thereS size n l = 1
  | [] => .inl rfl
  | p :: r => by unfold thereS; split; · exact .inr rfl
                 split; · exact .inr rfl
                 exact thereS_01 size n r
theorem there_l (size n : Int) (hs : 0 ≤ size) (hs1 : size ≤ 17592186044416) (hn : 0 ≤ n) (l : List Int) (hl : l.length ≤ 17592186044416) : ∀ (d : Nat) (i : Int), 0 ≤ i → (l.length : Int) - i = d → Ev (fun k => arena_there.l0 k n size l (l.length : Int) i) (thereS size n (l.drop i.toNat)) := by
  intro d
  induction d with
  | zero =>
    intro i h0 hd
    refine ev_of (K := 1) fun k hk => ?_
    obtain ⟨k, rfl⟩ : ∃ m, k = m + 1 := ⟨k - 1, by omega⟩
    simp only [arena_there.l0]; rw [if_neg (by omega), drop_end (by omega)]; rfl
  | succ d ih =>
    intro i h0 hd
    have hlt : i < (l.length : Int) := by omega
    rw [drop_rd h0 hlt]
    unfold thereS
    by_cases h1 : n > size
    · refine ev_of (K := 1) fun k hk => ?_
      obtain ⟨k, rfl⟩ : ∃ m, k = m + 1 := ⟨k - 1, by omega⟩
      simp only [arena_there.l0]; rw [if_pos hlt, if_pos h0, if_pos hlt, if_pos h1, if_pos h1]
    · by_cases h2 : rd l i > size - n
      · refine ev_of (K := 1) fun k hk => ?_
        obtain ⟨k, rfl⟩ : ∃ m, k = m + 1 := ⟨k - 1, by omega⟩
        simp only [arena_there.l0]; rw [if_pos hlt, if_pos h0, if_pos hlt, if_neg h1, if_neg h1, wu64' (by omega) (by omega), if_pos h2, if_pos h2]
      · refine ev_succ (f := fun k => arena_there.l0 k n size l (l.length : Int) (i + 1)) (fun k => ?_) ?_
        · simp only [arena_there.l0]; rw [if_pos hlt, if_pos h0, if_pos hlt, if_neg h1, wu64' (a := size - n) (by omega) (by omega), if_neg h2, w64 (by omega) (by omega)]
        · rw [if_neg h1, if_neg h2]
          exact ih (i + 1) (by omega) (by omega)
theorem there_ev (l : List Int) (h : l.length < 17592186044416) (n : Int) (hn : 0 ≤ n) (ps : List Int) (hp : ps.length ≤ 17592186044416) : Ev (fun k => arena_there.f k l n ps) (thereS l.length n ps) := by
  have := there_l (l.length : Int) n (by omega) (by omega) hn ps hp ps.length 0 (by omega) (by omega)
  refine ev_eq (f := fun k => arena_there.l0 k n (l.length : Int) ps (ps.length : Int) 0) (fun k => ?_) this
  unfold arena_there.f; rw [sizeu l h]

/-- What is changed, or why not. -/
def changeS (F : List Int → Option (List Int)) (l : List Int) (n : Int) (ps : List Int) : List Int × Int :=
  if (l.length : Int) > 16384 then ([], 2) else if thereS l.length n ps = 0 then ((F l).getD [], 0) else (l, 1)
theorem change_ev (F : List Int → Option (List Int)) (l : List Int) (h : l.length < 17592186044416) (n : Int) (hn : 0 ≤ n) (ps : List Int) (hp : ps.length ≤ 17592186044416) (hF : thereS l.length n ps = 0 → (F l).isSome = true) :
    Ev (fun k => arena_change.f k F l n ps) (changeS F l n ps) := by
  unfold arena_change.f changeS
  rw [check_eq]
  simp only [Option.bind_some]
  by_cases h1 : (l.length : Int) > 16384
  · simp only [h1, if_true, show ¬ ((2 : Int) = 0) by decide, if_false]; exact ev_const rfl
  · simp only [h1, if_false, if_true]
    rw [own_eq l h]
    simp only [Option.bind_some]
    refine Ev.bind (there_ev l h n hn ps hp) ?_
    rcases thereS_01 l.length n ps with h2 | h2
    · simp only [h2, if_true]
      obtain ⟨x, hx⟩ := Option.isSome_iff_exists.1 (hF h2)
      rw [hx]; exact ev_const rfl
    · simp only [h2, show ¬ ((1 : Int) = 0) by decide, if_false]; exact ev_const rfl

theorem setsL_nil (l : List Int) (o : Nat) : setsL l o [] = l := rfl
theorem rd_setsL : ∀ (vs : List Int) (l : List Int) (o : Nat) (j : Int), 0 ≤ j → o + vs.length ≤ l.length → rd (setsL l o vs) j = if (o : Int) ≤ j ∧ j < (o : Int) + vs.length then rd vs (j - o) else rd l j
  | [], l, o, j, h0, _ => by rw [if_neg (by simp only [List.length_nil]; omega)]; rfl
  | x :: r, l, o, j, h0, h => by
    simp only [List.length_cons] at h
    rw [setsL, rd_setsL r (l.set o x) (o + 1) j h0 (by simp; omega)]
    by_cases e : j = o
    · subst e
      rw [if_neg (by omega), if_pos (by simp only [List.length_cons]; omega)]
      simp [rd, List.getD_eq_getElem?_getD, show o < l.length by omega]
    · by_cases c : (o : Int) ≤ j ∧ j < (o : Int) + (x :: r).length
      · simp only [List.length_cons] at c
        rw [if_pos (by omega), if_pos (by simp only [List.length_cons]; omega)]
        have e1 : (j - (o : Int)).toNat = (j - ((o + 1 : Nat) : Int)).toNat + 1 := by omega
        simp [rd, e1]
      · rw [if_neg (by simp only [List.length_cons] at c; omega), if_neg c]
        have : j.toNat ≠ o := by omega
        simp only [rd, List.getD_eq_getElem?_getD]
        rw [List.getElem?_set_ne (by omega)]

def okAt (l : List Int) (n i : Int) : Prop := n ≤ (l.length : Int) ∧ i ≤ (l.length : Int) - n
instance (l : List Int) (n i : Int) : Decidable (okAt l n i) := by unfold okAt; infer_instance
theorem okI {l : List Int} {n i : Int} (h0 : n ≤ (l.length : Int)) (h1 : i ≤ (l.length : Int) - n) : okAt l n i := ⟨h0, h1⟩
theorem okN {l : List Int} {n i : Int} (h : ¬ (n ≤ (l.length : Int) ∧ i ≤ (l.length : Int) - n)) : ¬ okAt l n i := h
theorem there1 (l : List Int) (n i : Int) : thereS l.length n [i] = if okAt l n i then 0 else 1 := by
  unfold thereS thereS okAt; repeat' split
  all_goals first | rfl | omega
theorem there2 (l : List Int) (n i j : Int) : thereS l.length n [i, j] = if okAt l n i ∧ okAt l n j then 0 else 1 := by
  unfold thereS thereS thereS okAt; repeat' split
  all_goals first | rfl | omega

def storeS (l : List Int) (i w : Int) : List Int × Int := if (l.length : Int) > 16384 then ([], 2) else if okAt l 1 i then (l.set i.toNat w, 0) else (l, 1)
def clearS (l : List Int) (i n : Int) : List Int × Int := if (l.length : Int) > 16384 then ([], 2) else if okAt l n i then (setsL l i.toNat (List.replicate n.toNat 0), 0) else (l, 1)
def moveS (l : List Int) (t i n : Int) : List Int × Int := if (l.length : Int) > 16384 then ([], 2) else if okAt l n t ∧ okAt l n i then (setsL l t.toNat ((l.drop i.toNat).take n.toNat), 0) else (l, 1)
theorem store_ev (l : List Int) (h : l.length < 17592186044416) (i w : Int) (hi : 0 ≤ i) : Ev (fun k => arena_Store.f k l i w) (storeS l i w) := by
  have := change_ev (storeF i w) l h 1 (by omega) [i] (by simp) (fun ht => by
    rw [there1] at ht
    have : okAt l 1 i := by apply Classical.byContradiction; intro hh; rw [if_neg hh] at ht; cases ht
    unfold okAt at this
    unfold storeF; rw [if_pos hi, if_pos (by omega)]; rfl)
  have e : changeS (storeF i w) l 1 [i] = storeS l i w := by
    unfold changeS storeS
    rw [there1]
    by_cases h1 : (l.length : Int) > 16384
    · rw [if_pos h1, if_pos h1]
    · rw [if_neg h1, if_neg h1]
      by_cases h2 : okAt l 1 i
      · simp only [h2, if_true]
        unfold okAt at h2
        unfold storeF; rw [if_pos hi, if_pos (by omega)]; rfl
      · simp only [h2, if_false, show ¬ ((1 : Int) = 0) by decide]
  rw [e] at this; exact this
theorem clear_ev (l : List Int) (h : l.length < 17592186044416) (i n : Int) (hi : 0 ≤ i) (hn : 0 ≤ n) : Ev (fun k => arena_Clear.f k l i n) (clearS l i n) := by
  have key : okAt l n i → clearF i n l = some (setsL l i.toNat (List.replicate n.toNat 0)) := by
    intro this; unfold okAt at this
    unfold clearF; rw [if_pos hi, if_pos hn, if_pos (by omega)]
  have := change_ev (clearF i n) l h n hn [i] (by simp) (fun ht => by
    rw [there1] at ht
    have : okAt l n i := by apply Classical.byContradiction; intro hh; rw [if_neg hh] at ht; cases ht
    rw [key this]; rfl)
  have e : changeS (clearF i n) l n [i] = clearS l i n := by
    unfold changeS clearS
    rw [there1]
    by_cases h1 : (l.length : Int) > 16384
    · rw [if_pos h1, if_pos h1]
    · rw [if_neg h1, if_neg h1]
      by_cases h2 : okAt l n i
      · simp only [h2, if_true]; rw [key h2]; rfl
      · simp only [h2, if_false, show ¬ ((1 : Int) = 0) by decide]
  rw [e] at this; exact this
/-- The sum of words, or why not. -/
def addS (l : List Int) : Int → List Int → Int
  | x, [] => x
  | x, p :: r => addS l (IntKind.u64.wrap (x + rd l p)) r
def sumS (l : List Int) (ps : List Int) : Int × Int := if (l.length : Int) > 16384 then (0, 2) else if thereS l.length 1 ps = 0 then (addS l 0 ps, 0) else (0, 1)
theorem there_all (l : List Int) : ∀ ps : List Int, thereS l.length 1 ps = 0 → ∀ p ∈ ps, p < (l.length : Int)
  | [], _, _, h => by cases h
  | q :: r, h, p, hp => by
    unfold thereS at h
    split at h
    · cases h
    · split at h
      · cases h
      · rcases List.mem_cons.1 hp with rfl | hp
        · omega
        · exact there_all l r h p hp
theorem sum_l (a : List Int) (ps : List Int) (hp : ps.length ≤ 17592186044416) (hall : ∀ p ∈ ps, 0 ≤ p ∧ p < (a.length : Int)) : ∀ (d : Nat) (i x : Int), 0 ≤ i → (ps.length : Int) - i = d → Ev (fun k => arena_Sum.l0 k x ps (ps.length : Int) i a) (addS a x (ps.drop i.toNat), 0) := by
  intro d
  induction d with
  | zero =>
    intro i x h0 hd
    refine ev_of (K := 1) fun k hk => ?_
    obtain ⟨k, rfl⟩ : ∃ m, k = m + 1 := ⟨k - 1, by omega⟩
    simp only [arena_Sum.l0]; rw [if_neg (by omega), drop_end (by omega)]; rfl
  | succ d ih =>
    intro i x h0 hd
    have hlt : i < (ps.length : Int) := by omega
    have hm := hall _ (rd_mem h0 hlt)
    rw [drop_rd h0 hlt, addS]
    refine ev_succ (f := fun k => arena_Sum.l0 k (IntKind.u64.wrap (x + rd a (rd ps i))) ps (ps.length : Int) (i + 1) a) (fun k => ?_) (ih (i + 1) _ (by omega) (by omega))
    simp only [arena_Sum.l0]
    rw [if_pos hlt, if_pos h0, if_pos hlt, if_pos hm.1, if_pos hm.2, w64 (by omega) (by omega)]
theorem sum_ev (l : List Int) (h : l.length < 17592186044416) (ps : List Int) (hp : ps.length ≤ 17592186044416) (h0 : ∀ p ∈ ps, 0 ≤ p) : Ev (fun k => arena_Sum.f k l ps) (sumS l ps) := by
  unfold arena_Sum.f sumS
  rw [check_eq]; simp only [Option.bind_some]
  by_cases h1 : (l.length : Int) > 16384
  · simp only [h1, if_true, show ¬ ((2 : Int) = 0) by decide, if_false]; exact ev_const rfl
  · simp only [h1, if_false, if_true]
    refine Ev.bind (there_ev l h 1 (by omega) ps hp) ?_
    rcases thereS_01 l.length 1 ps with h2 | h2
    · simp only [h2, if_true]
      exact sum_l l ps hp (fun p hm => ⟨h0 p hm, there_all l ps h2 p hm⟩) ps.length 0 0 (by omega) (by omega)
    · simp only [h2, show ¬ ((1 : Int) = 0) by decide, if_false]; exact ev_const rfl
def loadS (l : List Int) (i : Int) : Int × Int := if (l.length : Int) > 16384 then (0, 2) else if okAt l 1 i then (rd l i, 0) else (0, 1)
theorem load_ev (l : List Int) (h : l.length < 17592186044416) (hw : ∀ x ∈ l, 0 ≤ x ∧ x ≤ 18446744073709551615) (i : Int) (hi : 0 ≤ i) : Ev (fun k => arena_Load.f k l i) (loadS l i) := by
  have hs := sum_ev l h [i] (by simp) (by simpa using hi)
  have e : sumS l [i] = loadS l i := by
    unfold sumS loadS
    rw [there1]
    by_cases h1 : (l.length : Int) > 16384
    · rw [if_pos h1, if_pos h1]
    · rw [if_neg h1, if_neg h1]
      by_cases h2 : okAt l 1 i
      · simp only [h2, if_true]
        unfold okAt at h2
        have := hw _ (rd_mem (l := l) (i := i) hi (by omega))
        simp only [addS]
        rw [Int.zero_add, wu64' this.1 this.2]
      · simp only [h2, if_false, show ¬ ((1 : Int) = 0) by decide]
  rw [e] at hs
  exact Ev.bind hs (ev_const rfl)
def makeS (n : Int) : List Int × Int := if n < 0 then ([], 1) else if n > 16384 then ([], 1) else (List.replicate n.toNat 0, 0)
theorem make_eq (n : Int) : arena_Make.f n = some (makeS n) := by
  unfold arena_Make.f makeS
  by_cases h0 : n < 0
  · rw [if_pos h0, if_pos h0]
  · by_cases h1 : n > 16384
    · rw [if_neg h0, if_pos h1, if_neg h0, if_pos h1]
    · rw [if_neg h0, if_neg h1, if_neg h0, if_neg h1, if_pos (by omega), if_pos (by omega)]
theorem storeS_len (l : List Int) (i w : Int) (h : (storeS l i w).2 = 0) : (storeS l i w).1.length = l.length ∧ (l.length : Int) ≤ 16384 ∧ okAt l 1 i ∧ (storeS l i w).1 = l.set i.toNat w := by
  unfold storeS at h ⊢
  by_cases h1 : (l.length : Int) > 16384
  · rw [if_pos h1] at h; simp at h
  · rw [if_neg h1] at h ⊢
    by_cases h2 : okAt l 1 i
    · rw [if_pos h2]; exact ⟨by simp, by omega, h2, rfl⟩
    · rw [if_neg h2] at h; simp at h
theorem clearS_ok (l : List Int) (i n : Int) (h : (clearS l i n).2 = 0) : (l.length : Int) ≤ 16384 ∧ okAt l n i ∧ (clearS l i n).1 = setsL l i.toNat (List.replicate n.toNat 0) := by
  unfold clearS at h ⊢
  by_cases h1 : (l.length : Int) > 16384
  · rw [if_pos h1] at h; simp at h
  · rw [if_neg h1] at h ⊢
    by_cases h2 : okAt l n i
    · rw [if_pos h2]; exact ⟨by omega, h2, rfl⟩
    · rw [if_neg h2] at h; simp at h
theorem moveS_ok (l : List Int) (t i n : Int) (h : (moveS l t i n).2 = 0) : (l.length : Int) ≤ 16384 ∧ okAt l n t ∧ okAt l n i ∧ (moveS l t i n).1 = setsL l t.toNat ((l.drop i.toNat).take n.toNat) := by
  unfold moveS at h ⊢
  by_cases h1 : (l.length : Int) > 16384
  · rw [if_pos h1] at h; simp at h
  · rw [if_neg h1] at h ⊢
    by_cases h2 : okAt l n t ∧ okAt l n i
    · rw [if_pos h2]; exact ⟨by omega, h2.1, h2.2, rfl⟩
    · rw [if_neg h2] at h; simp at h
theorem mem_setsL {x : Int} : ∀ (vs l : List Int) (o : Nat), x ∈ setsL l o vs → x ∈ l ∨ x ∈ vs
  | [], _, _, h => .inl h
  | v :: r, l, o, h => by
    rcases mem_setsL r (l.set o v) (o + 1) h with h1 | h1
    · rcases List.mem_or_eq_of_mem_set h1 with h2 | h2
      · exact .inl h2
      · subst h2; exact .inr (by simp)
    · exact .inr (by simp [h1])
end Go.Proofs.Ytdadleamaalhiaa.PuArenaIT
