/- What was put is got, no other bit is changed, and it counts one more, one less, or the same. -/
import Derived.Test.YthphncefbahcaaaDoorGBx8
import Derived.Test.YthphncefbahcaaaDoorPuBitsFillI
import Derived.Test.YthphncefbahcaaaDoorPuBitsBoth
namespace Go.Proofs.YthphncefbahcaaaDoor.Pure
open Go.RowKit Go.Proofs.YthphncefbahcaaaDoorW.PrintWords Go.Proofs.YthphncefbahcaaaDoorW.PrintLast Go.Proofs.YthphncefbahcaaaDoor.GB Go.Proofs.YthphncefbahcaaaDoor.Pu Go.Proofs.YthphncefbahcaaaDoor.PuBitW Go.Proofs.YthphncefbahcaaaDoor.PuBits Go.Proofs.YthphncefbahcaaaDoor.PuBitsPutI Go.Proofs.YthphncefbahcaaaDoor.PuBitsCountL Go.Proofs.YthphncefbahcaaaDoor.PuBitsFillI Go.Proofs.YthphncefbahcaaaDoor.PuBitsBoth

theorem set_fit {n : Int} {l : List Int} (hw : Words l) (hf : BFit n l) (v : Bool) (i : Nat) (h : (i : Int) < n) : BFit n (setAt v l i) := by
  obtain ⟨a0, a1, a2, a3⟩ := hf
  refine ⟨a0, a1, by rw [setAt_len]; exact a2, fun j j0 j1 => ?_⟩
  rw [setAt_len] at j1
  rw [setAt_bit hw v i j (by omega), if_neg (by omega)]
  exact a3 j j0 j1
theorem cntI_one (l m : List Int) (N i : Nat) (h : i < N) (hs : ∀ j, j < N → j ≠ i → bitAt l j = bitAt m j) : cntI m 0 N + (if bitAt l i = true then 1 else 0) = cntI l 0 N + (if bitAt m i = true then 1 else 0) := by
  have a := cntI_split l i 0 (1 + (N - (i + 1)))
  have b := cntI_split m i 0 (1 + (N - (i + 1)))
  have a2 := cntI_split l 1 (0 + i) (N - (i + 1))
  have b2 := cntI_split m 1 (0 + i) (N - (i + 1))
  rw [show i + (1 + (N - (i + 1))) = N by omega] at a b
  have a3 : cntI l (0 + i) 1 = if bitAt l i = true then 1 else 0 := by simp [cntI]
  have b3 : cntI m (0 + i) 1 = if bitAt m i = true then 1 else 0 := by simp [cntI]
  have c1 := cntI_congr l m i 0 (fun j j0 j1 => hs j (by omega) (by omega))
  have c2 := cntI_congr l m (N - (i + 1)) (0 + i + 1) (fun j j0 j1 => hs j (by omega) (by omega))
  generalize (if bitAt l i = true then 1 else 0) = p at *
  generalize (if bitAt m i = true then 1 else 0) = q at *
  omega
/-- The law's last part: what it asks of the answers. -/
theorem j1_true (i : Int) (v : Bool) (o : Int) (was b1 b2 : Bool) (e : Int) (x y : Int) (hb : o = i ∨ b1 = b2) (hx : wrap64 (y - x) = if (v && !was) = true then 1 else if (was && !v) = true then -1 else 0) : Ev (fun k => besomlaw01_BitsOne.j1 k i v o was v 0 b1 e b2 e x 0 y 0 0 (if v = true then !was else false)) true := by
  refine ev_of (K := 1) fun k hk => ?_
  obtain ⟨k, rfl⟩ : ∃ m, k = m + 1 := ⟨k - 1, by omega⟩
  simp only [besomlaw01_BitsOne.j1]
  rcases hb with h | h
  · subst h; cases v <;> cases was <;> simp_all
  · subst h; cases v <;> cases was <;> simp_all
theorem BitsOne : ∀ (n0 : Int) (l0 : List Int) (a1 : Int) (a2 : Bool) (a3 : Int), (Lit.int .i64 n0).wf = true → l0.length ≤ maxLen → l0.length * 8 ≤ 140737488351232 → (∀ x ∈ l0, (Lit.int .u64 x).wf = true) → (Lit.int .i64 a1).wf = true → (Lit.int .i64 a3).wf = true → ∃ k, besomlaw01_BitsOne.f k n0 l0 a1 a2 a3 = some true := by
  intro n l i v o _ _ hs hw _ _
  have hl : l.length < 17592186044416 := by omega
  have hW := words_of hw
  refine Ev.rounds (g := fun k => besomlaw01_BitsOne.f k n l i v o) ?_
  unfold besomlaw01_BitsOne.f
  refine Ev.bind puts_ev ?_
  simp only [if_true]
  refine Ev.bind asks_ev ?_
  refine ev_succ (f := fun k => _) (fun k => by rw [besomlaw01_BitsOne.j0, if_neg (by decide)]) ?_
  refine Ev.bind (get_ev hW hl i) (Ev.bind (put_ev hW hl i v) ?_)
  by_cases hok : BFit n l ∧ 0 ≤ i ∧ i < n
  · obtain ⟨hf, o0, o1⟩ := hok
    have g := hf
    obtain ⟨g0, g1, g2, _⟩ := g
    have eG : getS n l i = (bitAt l i.toNat, 0) := by unfold getS; rw [if_pos hf, if_neg (by omega), if_neg (by omega)]
    have eP : putS n l i v = (n, setAt v l i.toNat, 0) := by unfold putS; rw [if_pos hf, if_neg (by omega), if_neg (by omega)]
    rw [eG, eP]
    simp only [if_true]
    have hA := setAt_words hW v i.toNat
    have lA : (setAt v l i.toNat).length = l.length := setAt_len _ _ _
    have fA := set_fit hW hf v i.toNat (by omega)
    have bA : ∀ j, bitAt (setAt v l i.toNat) j = if j = i.toNat then v else bitAt l j := fun j => setAt_bit hW v _ j (by omega)
    generalize setAt v l i.toNat = A at *
    have e1 : getS n A i = (v, 0) := by unfold getS; rw [if_pos fA, if_neg (by omega), if_neg (by omega), bA, if_pos rfl]
    have g1' := get_ev (n := n) hA (by omega) i
    rw [e1] at g1'
    have cA := count_ev (n := n) hA (by omega)
    have cL := count_ev (n := n) hW hl
    unfold countS at cA cL
    rw [if_pos fA] at cA
    rw [if_pos hf] at cL
    have cn := cntI_one l A n.toNat i.toNat (by omega) (fun j j0 j1 => by rw [bA, if_neg j1])
    rw [bA i.toNat, if_pos rfl] at cn
    have le := cntI_le A n.toNat 0
    have le2 := cntI_le l n.toNat 0
    refine Ev.bind g1' (Ev.bind (get_ev hW hl o) (Ev.bind (get_ev hA (by omega) o) (Ev.bind cL (Ev.bind cA ?_))))
    have hgo : o = i ∨ (getS n l o).1 = (getS n A o).1 := by
      by_cases c : o = i
      · exact .inl c
      · right
        unfold getS
        rw [if_pos hf, if_pos fA]
        by_cases c1 : o < 0
        · rw [if_pos c1, if_pos c1]
        · by_cases c2 : o ≥ n
          · rw [if_neg c1, if_pos c2, if_neg c1, if_pos c2]
          · rw [if_neg c1, if_neg c2, if_neg c1, if_neg c2, bA, if_neg (by omega)]
    have hge : (getS n l o).2 = (getS n A o).2 := by
      unfold getS
      rw [if_pos hf, if_pos fA]
      by_cases c1 : o < 0
      · rw [if_pos c1, if_pos c1]
      · by_cases c2 : o ≥ n
        · rw [if_neg c1, if_pos c2, if_neg c1, if_pos c2]
        · rw [if_neg c1, if_neg c2, if_neg c1, if_neg c2]
    have hx : wrap64 (((cntI A 0 n.toNat : Nat) : Int) - ((cntI l 0 n.toNat : Nat) : Int)) = if (v && !(bitAt l i.toNat)) = true then 1 else if (bitAt l i.toNat && !v) = true then -1 else 0 := by
      rw [w64 (by omega) (by omega)]
      generalize cntI A 0 n.toNat = p at *
      generalize cntI l 0 n.toNat = q at *
      clear le le2 cA cL g1' e1 bA hgo hge eG eP
      generalize bitAt l i.toNat = z at cn ⊢
      cases v <;> cases z <;> simp at cn ⊢ <;> omega
    have last := j1_true i v o (bitAt l i.toNat) (getS n l o).1 (getS n A o).1 (getS n A o).2 _ _ hgo hx
    rw [hge]
    cases v
    · exact last
    · exact last
  · have e : ¬ (putS n l i v).2.2 = 0 ∧ (putS n l i v).2.2 = (getS n l i).2 := by
      unfold putS getS
      by_cases hf : BFit n l
      · rw [if_pos hf, if_pos hf]
        by_cases c1 : i < 0
        · rw [if_pos c1, if_pos c1]; exact ⟨by simp, rfl⟩
        · have c2 : i ≥ n := by
            apply Classical.byContradiction; intro hh
            exact hok ⟨hf, by omega, by omega⟩
          rw [if_neg c1, if_neg c1, if_pos c2, if_pos c2]; exact ⟨by simp, rfl⟩
      · rw [if_neg hf, if_neg hf]; exact ⟨by decide, rfl⟩
    simp only [e.1, if_false]
    refine ev_const ?_
    rw [e.2]
    simp

end Go.Proofs.YthphncefbahcaaaDoor.Pure
