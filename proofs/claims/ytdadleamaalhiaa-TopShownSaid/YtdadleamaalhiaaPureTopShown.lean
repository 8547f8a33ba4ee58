/- A set of bits, kept in an arena and read back word by word, says the same. -/
import Derived.Test.YtdadleamaalhiaaGTx11
import Derived.Test.YtdadleamaalhiaaPuArenaIT
import Derived.Test.YtdadleamaalhiaaPuBitsT
namespace Go.Proofs.Ytdadleamaalhiaa.Pure
open Go.RowKit Go.Proofs.YtdadleamaalhiaaW.PrintWords Go.Proofs.YtdadleamaalhiaaW.PrintLast Go.Proofs.Ytdadleamaalhiaa.GT Go.Proofs.Ytdadleamaalhiaa.Pu Go.Proofs.Ytdadleamaalhiaa.PuBitW Go.Proofs.Ytdadleamaalhiaa.PuBitsT

theorem count_l (l : List Int) (hl : l.length < 17592186044416) : ∀ (d : Nat) (i x : Int), 0 ≤ i → (l.length : Int) - i = d → ∃ c, Ev (fun k => bits_Count.l0 k x l (l.length : Int) i) (c, 0) := by
  intro d
  induction d with
  | zero =>
    intro i x h0 hd
    refine ⟨x, ev_of (K := 1) fun k hk => ?_⟩
    obtain ⟨k, rfl⟩ : ∃ m, k = m + 1 := ⟨k - 1, by omega⟩
    simp only [bits_Count.l0]; rw [if_neg (by omega)]
  | succ d ih =>
    intro i x h0 hd
    obtain ⟨t, ht⟩ : ∃ t, bits_OnesCount64.f (rd l i) = some t := ⟨_, rfl⟩
    obtain ⟨c, hc⟩ := ih (i + 1) (wrap64 (x + t)) (by omega) (by omega)
    refine ⟨c, ev_succ (f := fun k => bits_Count.l0 k (wrap64 (x + t)) l (l.length : Int) (i + 1)) (fun k => ?_) hc⟩
    simp only [bits_Count.l0]
    rw [if_pos (by omega), if_pos h0, if_pos (by omega), ht, w64 (a := i + 1) (by omega) (by omega)]
    rfl
theorem count_ev {n : Int} {l : List Int} (hw : Words l) (hl : l.length < 17592186044416) (h : BFit n l) : ∃ c, Ev (fun k => bits_Count.f k n l) (c, 0) := by
  obtain ⟨c, hc⟩ := count_l l hl l.length 0 0 (by omega) (by omega)
  refine ⟨c, ?_⟩
  unfold bits_Count.f
  refine Ev.bind (check_ev hw hl) ?_
  rw [chk_good h]
  simp only [if_true]
  exact hc
theorem begins_ev : Ev (fun k => besomtop_begins.f k) true := ev_of (K := 60) fun _ hk => at_rounds (g := fun k => besomtop_begins.f k) besomtop_begins.mono hk besomtop_begins.run_

open Go.Proofs.Ytdadleamaalhiaa.PuArenaIT

theorem setsL_len : ∀ (n o : Nat) (b : List Int), (setsL b o (List.replicate n 0)).length = b.length
  | 0, _, _ => rfl
  | n + 1, o, b => by rw [List.replicate_succ, setsL, setsL_len n]; simp
/-- The arena cleared, its first word. -/
theorem last_sum (a : List Int) (x1 : Int) (h : (a.length : Int) = x1) (h1 : x1 ≤ 16384) : ∃ b : List Int, clearS a 0 (a.length : Int) = (b, 0) ∧ b.length = a.length ∧ sumS b [0] = (0, if x1 > 0 then 0 else 1) := by
  have e : clearS a 0 (a.length : Int) = (setsL a 0 (List.replicate a.length 0), 0) := by
    unfold clearS; rw [if_neg (by omega), if_pos (by unfold okAt; omega)]; simp
  refine ⟨_, e, setsL_len _ _ _, ?_⟩
  have hb := setsL_len a.length 0 a
  have hr : x1 > 0 → rd (setsL a 0 (List.replicate a.length 0)) 0 = 0 := by
    intro hp
    rw [rd_setsL _ _ _ _ (by omega) (by simp), if_pos (by simp only [List.length_replicate]; omega)]
    have : 0 < a.length := by omega
    simp [rd, List.getD_eq_getElem?_getD, this]
  generalize setsL a 0 (List.replicate a.length 0) = b at hb hr
  unfold sumS
  rw [there1, if_neg (by omega)]
  by_cases hp : x1 > 0
  · have ho : okAt b 1 0 := by unfold okAt; omega
    simp only [ho, if_true, hp, addS]
    rw [hr hp]; decide
  · have ho : ¬ okAt b 1 0 := by unfold okAt; omega
    simp [ho, hp]

/-- Read back word by word, then asked. -/
theorem back_l (n x1 x2 : Int) (l a : List Int) (hw : Words l) (hl : l.length < 17592186044416) (hf : BFit n l) (ha : (a.length : Int) = x1) (hx : x1 ≤ 16384) (hla : l.length ≤ a.length) (hwa : Words a)
    (hsame : ∀ i : Int, 0 ≤ i → i < (l.length : Int) → rd a i = rd l i) : ∀ (d : Nat) (i : Int), 0 ≤ i → (l.length : Int) - i = d → Ev (fun k => besomtop_TopShown.l1 k x1 x2 (l.length : Int) i n l a n (l.take i.toNat)) true := by
  intro d
  induction d with
  | zero =>
    intro i h0 hd
    rw [List.take_of_length_le (by omega)]
    obtain ⟨c, hc⟩ := count_ev hw hl hf
    obtain ⟨b, hb, hbl, hbs⟩ := last_sum a x1 ha hx
    have hcl := clear_ev a (by omega) 0 (a.length : Int) (by omega) (by omega)
    rw [hb] at hcl
    have hsm := sum_ev b (by omega) [0] (by simp) (by simp)
    rw [hbs] at hsm
    refine ev_succ (f := fun k => _) (fun k => by simp only [besomtop_TopShown.l1]; rw [if_neg (by omega)]) ?_
    refine Ev.bind (get_ev hw hl x2) (Ev.bind (get_ev hw hl x2) (Ev.bind hc (Ev.bind hc ?_)))
    rw [PuArenaIT.sizeu a (by omega)]
    refine Ev.bind hcl (Ev.bind hsm ?_)
    by_cases hp : x1 > 0 <;> exact ev_const (by simp [hp])
  | succ d ih =>
    intro i h0 hd
    have := ih (i + 1) (by omega) (by omega)
    have hrd := hsame i h0 (by omega)
    have hld := load_ev a (by omega) hwa i h0
    rw [show loadS a i = (rd l i, 0) by unfold loadS; rw [if_neg (by omega), if_pos (by unfold okAt; omega), hrd]] at hld
    refine ev_succ (f := fun k => _) (fun k => by simp only [besomtop_TopShown.l1]; rw [if_pos (by omega)]) ?_
    rw [wu64' (a := i) (by omega) (by omega)]
    refine Ev.bind hld ?_
    simp only [if_true]
    rw [w64 (a := i + 1) (by omega) (by omega)]
    have hln : (l.take i.toNat).length < 17592186044416 := by simp; omega
    simp only [hln, if_true]
    have et : l.take i.toNat ++ [rd l i] = l.take (i + 1).toNat := by
      have hn : i.toNat < l.length := by omega
      rw [show (i + 1).toNat = i.toNat + 1 by omega, List.take_add_one, List.getElem?_eq_getElem hn]
      simp [rd, List.getD_eq_getElem?_getD, List.getElem?_eq_getElem hn]
    rw [et]; exact this

/-- Laid word by word, then read back. -/
theorem lay_l (n x1 x2 : Int) (l : List Int) (hw : Words l) (hl : l.length < 17592186044416) (hf : BFit n l) (hx : x1 ≤ 16384) (hla : (l.length : Int) ≤ x1) : ∀ (d : Nat) (i : Int) (a : List Int), 0 ≤ i → (l.length : Int) - i = d → (a.length : Int) = x1 → Words a →
    (∀ j : Int, 0 ≤ j → j < i → rd a j = rd l j) → Ev (fun k => besomtop_TopShown.l0 k x1 x2 l (l.length : Int) i n l a) true := by
  intro d
  induction d with
  | zero =>
    intro i a h0 hd ha hwa hsame
    refine ev_succ (f := fun k => besomtop_TopShown.l1 k x1 x2 (l.length : Int) 0 n l a n []) (fun k => by simp only [besomtop_TopShown.l0]; rw [if_neg (by omega)]) ?_
    exact back_l n x1 x2 l a hw hl hf ha hx (by omega) hwa (fun j h1 h2 => hsame j h1 (by omega)) l.length 0 (by omega) (by omega)
  | succ d ih =>
    intro i a h0 hd ha hwa hsame
    have hst := store_ev a (by omega) i (rd l i) h0
    rw [show storeS a i (rd l i) = (a.set i.toNat (rd l i), 0) by unfold storeS; rw [if_neg (by omega), if_pos (by unfold okAt; omega)]] at hst
    have hm := hw _ (rd_mem h0 (show i < (l.length : Int) by omega))
    have := ih (i + 1) (a.set i.toNat (rd l i)) (by omega) (by omega) (by simpa using ha) (hwa.set _ hm.1 hm.2) (fun j h1 h2 => by
      by_cases e : j = i
      · subst e
        have hn : j.toNat < a.length := by omega
        simp only [rd, List.getD_eq_getElem?_getD]
        rw [List.getElem?_set_self hn]; rfl
      · have hn : i.toNat ≠ j.toNat := by omega
        rw [← hsame j h1 (by omega)]
        simp only [rd, List.getD_eq_getElem?_getD]
        rw [List.getElem?_set_ne hn])
    refine ev_succ (f := fun k => _) (fun k => by simp only [besomtop_TopShown.l0]; rw [if_pos (by omega), if_pos (by omega), if_pos (by omega)]) ?_
    rw [wu64' (a := i) (by omega) (by omega)]
    refine Ev.bind hst ?_
    simp only [if_true]
    rw [w64 (a := i + 1) (by omega) (by omega)]
    exact this

theorem TopShown : ∀ (n0 : Int) (l0 : List Int) (a1 : Int) (a2 : Int), (Lit.int .i64 n0).wf = true → l0.length ≤ maxLen → l0.length * 8 ≤ 140737488351232 → (∀ x ∈ l0, (Lit.int .u64 x).wf = true) → (Lit.int .i64 a1).wf = true → (Lit.int .i64 a2).wf = true → ∃ k, besomtop_TopShown.f k n0 l0 a1 a2 = some true := by
  intro n0 l0 a1 a2 _ _ hs hw _ _
  have hl : l0.length < 17592186044416 := by omega
  have hW := words_of hw
  refine Ev.rounds (g := fun k => besomtop_TopShown.f k n0 l0 a1 a2) ?_
  unfold besomtop_TopShown.f
  refine Ev.bind begins_ev ?_
  simp only [if_true]
  rw [make_eq]
  simp only [Option.bind_some]
  refine Ev.bind (check_ev hW hl) ?_
  have yes : ∀ a : List Int, Ev (fun k => besomtop_TopShown.j0 k a1 a2 true n0 l0 a) true := fun a => ev_succ (f := fun _ => some true) (fun k => by simp [besomtop_TopShown.j0]) (ev_const rfl)
  by_cases hf : BFit n0 l0
  · rw [chk_good hf]
    simp only [if_true]
    unfold makeS
    by_cases h0 : a1 < 0
    · simp only [h0, if_true, show ¬ ((1 : Int) = 0) by decide, if_false]; exact yes _
    simp only [h0, if_false]
    by_cases h1 : a1 > 16384
    · simp only [h1, if_true, show ¬ ((1 : Int) = 0) by decide, if_false]; exact yes _
    simp only [h1, if_false, if_true]
    by_cases h2 : ((List.replicate a1.toNat (0 : Int)).length : Int) < (l0.length : Int)
    · simp only [h2, decide_true]; exact yes _
    · simp only [h2, decide_false]
      simp only [List.length_replicate] at h2
      refine ev_succ (f := fun k => besomtop_TopShown.l0 k a1 a2 l0 (l0.length : Int) 0 n0 l0 (List.replicate a1.toNat 0)) (fun k => by simp [besomtop_TopShown.j0]) ?_
      exact lay_l n0 a1 a2 l0 hW hl hf (by omega) (by omega) l0.length 0 _ (by omega) (by omega) (by simp; omega) (Words.replicate _) (fun j h1 h2 => by omega)
  · rw [chk_bad hf]
    simp only [show ¬ ((2 : Int) = 0) by decide, if_false]; exact yes _

end Go.Proofs.Ytdadleamaalhiaa.Pure
