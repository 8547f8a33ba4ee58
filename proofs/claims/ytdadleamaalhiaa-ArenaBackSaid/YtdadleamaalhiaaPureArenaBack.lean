/- Words that were moved where none of them stood, and moved back, are what they were. -/
import Derived.Test.YtdadleamaalhiaaGAx11
import Derived.Test.YtdadleamaalhiaaPuArena
namespace Go.Proofs.Ytdadleamaalhiaa.Pure
open Go.RowKit Go.Proofs.YtdadleamaalhiaaW.PrintWords Go.Proofs.YtdadleamaalhiaaW.PrintLast Go.Proofs.Ytdadleamaalhiaa.GA Go.Proofs.Ytdadleamaalhiaa.Pu Go.Proofs.Ytdadleamaalhiaa.PuArena

theorem back_t (l m : List Int) (a b c : Int) : Ev (fun k => besomlaw02_ArenaBack.j0 k a b c true l m) true := by
  refine ev_of (K := 1) fun k hk => ?_
  obtain ⟨k, rfl⟩ : ∃ m, k = m + 1 := ⟨k - 1, by omega⟩
  simp [besomlaw02_ArenaBack.j0]
theorem loadS_in (l : List Int) (i : Int) (hl : (l.length : Int) ≤ 16384) (hi : i < (l.length : Int)) (h0 : 0 ≤ i) : loadS l i = (rd l i, 0) := by
  unfold loadS; rw [if_neg (by omega), if_pos (okI (by omega) (by omega))]
theorem rd_take_drop (l : List Int) (i n j : Int) (hi : 0 ≤ i) (hj : 0 ≤ j) (hn : j < n) : rd ((l.drop i.toNat).take n.toNat) j = rd l (i + j) := by
  simp only [rd, List.getD_eq_getElem?_getD, List.getElem?_take, List.getElem?_drop]
  rw [if_pos (by omega), show i.toNat + j.toNat = (i + j).toNat by omega]
theorem back_l (t i n : Int) (l d : List Int) (hl : (l.length : Int) ≤ 16384) (hd : d.length = l.length) (hw : ∀ x ∈ l, 0 ≤ x ∧ x ≤ 18446744073709551615) (hwd : ∀ x ∈ d, 0 ≤ x ∧ x ≤ 18446744073709551615) (ht : 0 ≤ t) (hi : 0 ≤ i) (htn : t + n ≤ (l.length : Int)) (hin : i + n ≤ (l.length : Int))
    (hsame : ∀ j, 0 ≤ j → j < n → rd d (i + j) = rd l (i + j) ∧ rd d (t + j) = rd l (i + j)) : ∀ (m : Nat) (x : Int), 0 ≤ x → n - x = m → Ev (fun k => besomlaw02_ArenaBack.l0 k t i n x l d) true := by
  intro m
  induction m with
  | zero =>
    intro x h0 hx
    refine ev_of (K := 1) fun k hk => ?_
    obtain ⟨k, rfl⟩ : ∃ m, k = m + 1 := ⟨k - 1, by omega⟩
    simp only [besomlaw02_ArenaBack.l0]; rw [if_neg (by omega)]
  | succ m ih =>
    intro x h0 hx
    refine ev_succ (f := fun k => (arena_Load.f k l (i + x)).bind fun bt270 => (arena_Load.f k d (i + x)).bind fun bt272 => (arena_Load.f k d (t + x)).bind fun bt274 => if bt270.2 = 0 then (if bt272.2 = 0 then (if bt274.2 = 0 then (if bt270.1 = bt272.1 then (if bt272.1 = bt274.1 then besomlaw02_ArenaBack.l0 k t i n (x + 1) l d else some false) else some false) else some false) else some false) else some false) (fun k => ?_) ?_
    · simp only [besomlaw02_ArenaBack.l0]
      rw [if_pos (by omega), wu64' (a := i + x) (by omega) (by omega), wu64' (a := t + x) (by omega) (by omega), wu64' (a := x + 1) (by omega) (by omega)]
    · refine Ev.bind (load_ev l (by omega) hw (i + x) (by omega)) (Ev.bind (load_ev d (by omega) hwd (i + x) (by omega)) (Ev.bind (load_ev d (by omega) hwd (t + x) (by omega)) ?_))
      rw [loadS_in l (i + x) hl (by omega) (by omega), loadS_in d (i + x) (by omega) (by omega) (by omega), loadS_in d (t + x) (by omega) (by omega) (by omega)]
      obtain ⟨e1, e2⟩ := hsame x h0 (by omega)
      simp only [e1, e2, if_true]
      exact ih (x + 1) (by omega) (by omega)
theorem rd_zeros (n : Nat) (j : Int) : rd (List.replicate n 0) j = 0 := by
  simp only [rd, List.getD_eq_getElem?_getD, List.getElem?_replicate]; split <;> rfl
theorem back_j (l0 : List Int) (t i n : Int) (hl : l0.length < 17592186044416) (hw : ∀ x ∈ l0, 0 ≤ x ∧ x ≤ 18446744073709551615) (ht : 0 ≤ t) (hi : 0 ≤ i) (hn : 0 ≤ n) (hlen : (l0.length : Int) ≤ 16384) (ot : okAt l0 n t) (oi : okAt l0 n i) (apart : t + n ≤ i ∨ i + n ≤ t) :
    Ev (fun k => besomlaw02_ArenaBack.j0 k t i n false l0 (setsL l0 t.toNat ((l0.drop i.toNat).take n.toNat))) true := by
  unfold okAt at ot oi
  have hb : (setsL l0 t.toNat ((l0.drop i.toNat).take n.toNat)).length = l0.length := setsL_length _ _ _
  have hseg : ((l0.drop i.toNat).take n.toNat).length = n.toNat := by simp; omega
  refine ev_succ (fun k => by simp only [besomlaw02_ArenaBack.j0, Bool.false_eq_true, if_false]; rfl) ?_
  refine Ev.bind (clear_ev _ (by omega) i n hi hn) ?_
  have ec : clearS (setsL l0 t.toNat ((l0.drop i.toNat).take n.toNat)) i n = (setsL (setsL l0 t.toNat ((l0.drop i.toNat).take n.toNat)) i.toNat (List.replicate n.toNat 0), 0) := by
    unfold clearS; rw [if_neg (by omega), if_pos (okI (by omega) (by omega))]
  rw [ec]
  have hc : (setsL (setsL l0 t.toNat ((l0.drop i.toNat).take n.toNat)) i.toNat (List.replicate n.toNat 0)).length = l0.length := by rw [setsL_length, hb]
  have hcl : (setsL (setsL l0 t.toNat ((l0.drop i.toNat).take n.toNat)) i.toNat (List.replicate n.toNat 0)).length < 17592186044416 := by omega
  refine Ev.bind (move_ev _ hcl i t n hi ht hn) ?_
  have em : moveS (setsL (setsL l0 t.toNat ((l0.drop i.toNat).take n.toNat)) i.toNat (List.replicate n.toNat 0)) i t n = (setsL (setsL (setsL l0 t.toNat ((l0.drop i.toNat).take n.toNat)) i.toNat (List.replicate n.toNat 0)) i.toNat (((setsL (setsL l0 t.toNat ((l0.drop i.toNat).take n.toNat)) i.toNat (List.replicate n.toNat 0)).drop t.toNat).take n.toNat), 0) := by
    unfold moveS; rw [if_neg (by omega), if_pos ⟨okI (by omega) (by omega), okI (by omega) (by omega)⟩]
  rw [em]
  generalize hB : setsL l0 t.toNat ((l0.drop i.toNat).take n.toNat) = B at *
  generalize hC : setsL B i.toNat (List.replicate n.toNat 0) = C at *
  generalize hD : setsL C i.toNat ((C.drop t.toNat).take n.toNat) = D at *
  have hDl : D.length = l0.length := by rw [← hD, setsL_length, hc]
  have hsegC : ((C.drop t.toNat).take n.toNat).length = n.toNat := by simp; omega
  have wB : ∀ x ∈ B, 0 ≤ x ∧ x ≤ 18446744073709551615 := fun x hx => by
    rw [← hB] at hx
    rcases mem_setsL _ _ _ hx with h | h
    · exact hw x h
    · exact hw x (List.mem_of_mem_drop (List.mem_of_mem_take h))
  have wC : ∀ x ∈ C, 0 ≤ x ∧ x ≤ 18446744073709551615 := fun x hx => by
    rw [← hC] at hx
    rcases mem_setsL _ _ _ hx with h | h
    · exact wB x h
    · have := List.eq_of_mem_replicate h; omega
  have wD : ∀ x ∈ D, 0 ≤ x ∧ x ≤ 18446744073709551615 := fun x hx => by
    rw [← hD] at hx
    rcases mem_setsL _ _ _ hx with h | h
    · exact wC x h
    · exact wC x (List.mem_of_mem_drop (List.mem_of_mem_take h))
  have rB : ∀ j, 0 ≤ j → rd B j = if t ≤ j ∧ j < t + n then rd l0 (i + (j - t)) else rd l0 j := fun j hj => by
    rw [← hB, rd_setsL _ _ _ _ hj (by rw [hseg]; omega), hseg]
    by_cases c : t ≤ j ∧ j < t + n
    · rw [if_pos (by omega), if_pos c, show j - ((t.toNat : Nat) : Int) = j - t by omega, rd_take_drop l0 i n (j - t) hi (by omega) (by omega)]
    · rw [if_neg (by omega), if_neg c]
  have rC : ∀ j, 0 ≤ j → rd C j = if i ≤ j ∧ j < i + n then 0 else rd B j := fun j hj => by
    rw [← hC, rd_setsL _ _ _ _ hj (by simp only [List.length_replicate]; omega), List.length_replicate]
    by_cases c : i ≤ j ∧ j < i + n
    · rw [if_pos (by omega), if_pos c, rd_zeros]
    · rw [if_neg (by omega), if_neg c]
  have rD : ∀ j, 0 ≤ j → rd D j = if i ≤ j ∧ j < i + n then rd C (t + (j - i)) else rd C j := fun j hj => by
    rw [← hD, rd_setsL _ _ _ _ hj (by rw [hsegC]; omega), hsegC]
    by_cases c : i ≤ j ∧ j < i + n
    · rw [if_pos (by omega), if_pos c, show j - ((i.toNat : Nat) : Int) = j - i by omega, rd_take_drop C t n (j - i) ht (by omega) (by omega)]
    · rw [if_neg (by omega), if_neg c]
  simp only [if_true, bne_self_eq_false]
  refine ev_succ (f := fun k => besomlaw02_ArenaBack.l0 k t i n 0 l0 D) (fun k => by simp [besomlaw02_ArenaBack.j1]) ?_
  refine back_l t i n l0 D hlen hDl hw wD ht hi (by omega) (by omega) (fun j h0 h1 => ?_) n.toNat 0 (by omega) (by omega)
  constructor
  · rw [rD _ (by omega), if_pos (by omega), rC _ (by omega), if_neg (by omega), rB _ (by omega), if_pos (by omega)]
    congr 1; omega
  · rw [rD _ (by omega)]
    by_cases c : i ≤ t + j ∧ t + j < i + n
    · omega
    · rw [if_neg c, rC _ (by omega), if_neg c, rB _ (by omega), if_pos (by omega)]
      congr 1; omega
theorem ArenaBack : ∀ (l0 : List Int) (a1 : Int) (a2 : Int) (a3 : Int), l0.length ≤ maxLen → l0.length * 8 ≤ 140737488351232 → (∀ x ∈ l0, (Lit.int .u64 x).wf = true) → (Lit.int .u64 a1).wf = true → (Lit.int .u64 a2).wf = true → (Lit.int .u64 a3).wf = true → ∃ k, besomlaw02_ArenaBack.f k l0 a1 a2 a3 = some true := by
  intro l0 a1 a2 a3 _ hs hw h1 h2 h3
  have hl : l0.length < 17592186044416 := by omega
  have b1 := wf_u64 h1
  have b2 := wf_u64 h2
  have b3 := wf_u64 h3
  have hw' : ∀ x ∈ l0, 0 ≤ x ∧ x ≤ 18446744073709551615 := fun x hx => wf_u64 (hw x hx)
  refine Ev.rounds (g := fun k => besomlaw02_ArenaBack.f k l0 a1 a2 a3) ?_
  unfold besomlaw02_ArenaBack.f
  refine Ev.bind moves_ev ?_
  simp only [if_true]
  refine Ev.bind (move_ev l0 hl a1 a2 a3 b1.1 b2.1 b3.1) ?_
  by_cases h : (moveS l0 a1 a2 a3).2 = 0
  · obtain ⟨e1, e2, e3, e4⟩ := moveS_ok l0 a1 a2 a3 h
    simp only [h, if_true]
    rw [e4]
    by_cases c1 : a1 < a2
    · have c2 : ¬ a2 ≤ a1 := by omega
      rw [wu64' (a := a2 - a1) (by omega) (by omega)]
      simp only [c1, c2, if_true, if_false]
      by_cases c3 : a2 - a1 < a3
      · simp only [c3, if_true]; exact back_t _ _ _ _ _
      · simp only [c3, if_false]
        exact back_j l0 a1 a2 a3 hl hw' b1.1 b2.1 b3.1 e1 e2 e3 (.inl (by omega))
    · have c2 : a2 ≤ a1 := by omega
      rw [wu64' (a := a1 - a2) (by omega) (by omega)]
      simp only [c1, c2, if_true, if_false]
      by_cases c3 : a1 - a2 < a3
      · simp only [c3, decide_true]; exact back_t _ _ _ _ _
      · simp only [c3, decide_false]
        exact back_j l0 a1 a2 a3 hl hw' b1.1 b2.1 b3.1 e1 e2 e3 (.inr (by omega))
  · simp only [h, if_false]
    exact back_t _ _ _ _ _

end Go.Proofs.Ytdadleamaalhiaa.Pure
