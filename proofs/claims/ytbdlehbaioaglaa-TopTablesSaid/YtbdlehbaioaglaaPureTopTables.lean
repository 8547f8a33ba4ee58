/- Addresses that are keys and have weak handles: what is deleted of the one and cleared of the other is in none; all others are in both. -/
import Derived.Test.YtbdlehbaioaglaaGTx13
import Derived.Test.YtbdlehbaioaglaaPuTab
import Derived.Test.YtbdlehbaioaglaaPuWeakGone
namespace Go.Proofs.Ytbdlehbaioaglaa.Pure
open Go.RowKit Go.Proofs.YtbdlehbaioaglaaW.PrintWords Go.Proofs.YtbdlehbaioaglaaW.PrintLast Go.Proofs.Ytbdlehbaioaglaa.GT Go.Proofs.Ytbdlehbaioaglaa.Pu Go.Proofs.Ytbdlehbaioaglaa.PuWeak Go.Proofs.Ytbdlehbaioaglaa.PuWeakGone
open Go.Proofs.Ytbdlehbaioaglaa.PuTab (Sl U TGood get_ev put_ev put_zero del_ev)

theorem begins_ev : Ev (fun k => besomtop_begins.f k) true := ev_of (K := 60) fun _ hk => at_rounds (g := fun k => besomtop_begins.f k) besomtop_begins.mono hk besomtop_begins.run_
theorem has_l (a : Int) (ps : List Int) (hps : ps.length ≤ 17592186044416) : ∀ (d : Nat) (i : Int), 0 ≤ i → (ps.length : Int) - i = d → Ev (fun k => besomtop_has.l0 k a ps (ps.length : Int) i) (decide (a ∈ ps.drop i.toNat)) := by
  intro d
  induction d with
  | zero =>
    intro i h0 hd
    refine ev_succ (f := fun _ => some (decide (a ∈ ps.drop i.toNat))) (fun k => ?_) (Ev.now _)
    simp only [besomtop_has.l0]; rw [if_neg (by omega), drop_end (by omega)]; simp
  | succ d ih =>
    intro i h0 hd
    have hlt : i < (ps.length : Int) := by omega
    rw [drop_rd h0 hlt]
    by_cases e : rd ps i = a
    · refine ev_succ (f := fun _ => some true) (fun k => ?_) ?_
      · simp only [besomtop_has.l0]; rw [if_pos hlt, if_pos h0, if_pos hlt, if_pos e]
      · rw [show decide (a ∈ rd ps i :: ps.drop (i + 1).toNat) = true from decide_eq_true (by rw [e]; simp)]; exact Ev.now _
    · refine ev_succ (f := fun k => besomtop_has.l0 k a ps (ps.length : Int) (i + 1)) (fun k => ?_) ?_
      · simp only [besomtop_has.l0]; rw [if_pos hlt, if_pos h0, if_pos hlt, if_neg e, w64 (by omega) (by omega)]
      · have := ih (i + 1) (by omega) (by omega)
        have e2 : decide (a ∈ rd ps i :: ps.drop (i + 1).toNat) = decide (a ∈ ps.drop (i + 1).toNat) := by
          apply decide_eq_decide.2; simp [Ne.symm e]
        rw [e2]; exact this
theorem has_ev (a : Int) (ps : List Int) (hps : ps.length ≤ 17592186044416) : Ev (fun k => besomtop_has.f k ps a) (decide (a ∈ ps)) := by
  have := has_l a ps hps ps.length 0 (by omega) (by omega)
  rw [show (0 : Int).toNat = 0 from rfl, List.drop_zero] at this
  exact this

/-- The last look: whatever was taken away is in none, all others are in both. -/
theorem ask_l {l ps : List Int} (hps : ps.length ≤ 17592186044416) {T : List Sl} {w : List Int} (h : TGood T) (hw : wchk w = 0) (hU : ∀ x, x ∈ U T ↔ x ∈ w ∧ x ∉ ps) (hall : ∀ j : Int, 0 ≤ j → j < (l.length : Int) → j < 25 → rd l j ≠ 0 → rd l j ∈ w) :
    ∀ (d : Nat) (i : Int), 0 ≤ i → (l.length : Int) - i = d → i ≤ 25 → Ev (fun k => besomtop_TopTables.l1 k ps (w.map (gone ps)) l (l.length : Int) i T) true := by
  intro d
  induction d with
  | zero =>
    intro i h0 hd h25
    refine ev_succ (f := fun _ => some true) (fun k => ?_) (Ev.now _)
    simp only [besomtop_TopTables.l1]; rw [if_neg (by omega)]
  | succ d ih =>
    intro i h0 hd h25
    have hlt : i < (l.length : Int) := by omega
    by_cases c25 : i = 25
    · refine ev_succ (f := fun _ => some true) (fun k => ?_) (Ev.now _)
      simp only [besomtop_TopTables.l1]; rw [if_pos hlt, if_pos h0, if_pos hlt, if_pos c25]
    have nx := ih (i + 1) (by omega) (by omega) (by omega)
    obtain ⟨v, hv⟩ := get_ev h (rd l i)
    refine ev_succ (f := fun k => (ephem_Get.f k T (rd l i)).bind fun b => (weak_Handle.f k (w.map (gone ps)) (rd l i)).bind fun c => if b.2 = c.2 then (if rd l i = 0 then besomtop_TopTables.l1 k ps (w.map (gone ps)) l (l.length : Int) (i + 1) T else (besomtop_has.f k ps (rd l i)).bind fun t => if (t == (b.2 == 0)) = true then some false else besomtop_TopTables.l1 k ps (w.map (gone ps)) l (l.length : Int) (i + 1) T) else some false) (fun k => ?_) ?_
    · simp only [besomtop_TopTables.l1]; rw [if_pos hlt, if_pos h0, if_pos hlt, if_neg c25, w64 (by omega) (by omega)]
    refine Ev.bind hv (Ev.bind (handle_ev (w.map (gone ps)) (rd l i)) ?_)
    have hs : (handleS (w.map (gone ps)) (rd l i)).2 = if rd l i = 0 then 7 else if rd l i ∈ U T then 0 else 3 := by
      rw [handle_err _ (wchk_gone ps w hw)]
      by_cases z : rd l i = 0
      · rw [if_pos z, if_pos z]
      · rw [if_neg z, if_neg z]
        by_cases m : rd l i ∈ U T
        · rw [if_pos m, if_pos ((mem_gone ps w _ z).2 ((hU _).1 m))]
        · rw [if_neg m, if_neg (fun hc => m ((hU _).2 ((mem_gone ps w _ z).1 hc)))]
    simp only [hs, if_true]
    by_cases z : rd l i = 0
    · simp only [if_pos z]; exact nx
    · simp only [if_neg z]
      refine Ev.bind (has_ev _ ps hps) ?_
      have hin := hall i h0 hlt (by omega) z
      have hb : (decide (rd l i ∈ ps) == ((if rd l i ∈ U T then (0 : Int) else 3) == 0)) = false := by
        by_cases m : rd l i ∈ ps
        · rw [if_neg (fun hc => ((hU _).1 hc).2 m), decide_eq_true m]; rfl
        · rw [if_pos ((hU _).2 ⟨hin, m⟩), decide_eq_false m]; rfl
      rw [hb]
      simp only [Bool.false_eq_true, if_false]
      exact nx
theorem end_ev {l ps : List Int} (hps : ps.length ≤ 17592186044416) {T : List Sl} {w : List Int} (h : TGood T) (hp : (U T).Perm w) (hw : w.Nodup) (h0 : (0 : Int) ∉ w) (hlen : w.length ≤ 25) (hall : ∀ j : Int, 0 ≤ j → j < (l.length : Int) → j < 25 → rd l j ≠ 0 → rd l j ∈ w) : Ev (fun k => besomtop_TopTables.j2 k l ps w T) true := by
  have hc0 := wchk_nodup w hw (by omega)
  obtain ⟨T', a1, a2, a3, a4⟩ := del_ev h ((hp.nodup_iff).2 hw) ps hps
  have hc := clrL_eq ps w [] [] 0 rfl
  simp only [List.nil_append, List.length_nil, Nat.zero_add] at hc
  have hU : ∀ x, x ∈ U T' ↔ x ∈ w ∧ x ∉ ps := fun x => by rw [a3, hp.mem_iff]
  have hn := many_left ps w (U T') hw h0 a2 hU
  refine ev_succ (f := fun k => (ephem_Del.f k T ps).bind fun b => (weak_Clear.f k w ps).bind fun c => if b.2.2 = 0 then (if c.2.2 = 0 then besomtop_TopTables.j3 k l ps c.1 (b.2.1 != (c.2.1.length : Int)) b.1 else besomtop_TopTables.j3 k l ps c.1 true b.1) else besomtop_TopTables.j3 k l ps c.1 true b.1) (fun k => by simp only [besomtop_TopTables.j2]) ?_
  refine Ev.bind a4 (Ev.bind (clear_ev w (by omega) ps hps) ?_)
  unfold clearS
  rw [if_pos hc0]
  simp only [if_true, hc.1, hc.2]
  have hb : ((((U T).length : Int) - ((U T').length : Int)) != ((many ps w : Nat) : Int)) = false := bne_eq_false_iff_eq.mpr (by rw [hp.length_eq]; omega)
  rw [hb]
  refine ev_succ (f := fun k => besomtop_TopTables.l1 k ps (w.map (gone ps)) l (l.length : Int) 0 T') (fun k => by simp only [besomtop_TopTables.j3, Bool.false_eq_true, if_false]) ?_
  exact ask_l hps a1 hc0 hU hall l.length 0 (by omega) (by omega) (by omega)
theorem put_l {l ps : List Int} (hps : ps.length ≤ 17592186044416) : ∀ (d : Nat) (i : Int) (T : List Sl) (w : List Int), 0 ≤ i → (l.length : Int) - i = d → i ≤ 25 → TGood T → (U T).Perm w → w.Nodup → (0 : Int) ∉ w → (w.length : Int) ≤ i → (∀ j : Int, 0 ≤ j → j < i → rd l j ≠ 0 → rd l j ∈ w) → Ev (fun k => besomtop_TopTables.l0 k l ps w l (l.length : Int) i T) true := by
  intro d
  induction d with
  | zero =>
    intro i T w h0 hd h25 hg hp hw hz hlen hall
    refine ev_succ (f := fun k => besomtop_TopTables.j2 k l ps w T) (fun k => by simp only [besomtop_TopTables.l0]; rw [if_neg (by omega)]) ?_
    exact end_ev hps hg hp hw hz (by omega) (fun j j0 j1 _ => hall j j0 (by omega))
  | succ d ih =>
    intro i T w h0 hd h25 hg hp hw hz hlen hall
    have hlt : i < (l.length : Int) := by omega
    by_cases c25 : i = 25
    · refine ev_succ (f := fun k => besomtop_TopTables.j2 k l ps w T) (fun k => by simp only [besomtop_TopTables.l0]; rw [if_pos hlt, if_pos h0, if_pos hlt, if_pos c25]) ?_
      exact end_ev hps hg hp hw hz (by omega) (fun j j0 j1 j2 => hall j j0 (by omega))
    have hc0 := wchk_nodup w hw (by omega)
    have hwi : wrap64 (i + 1) = i + 1 := w64 (by omega) (by omega)
    have nextall : ∀ w' : List Int, (∀ x ∈ w, x ∈ w') → (rd l i ≠ 0 → rd l i ∈ w') → ∀ j : Int, 0 ≤ j → j < i + 1 → rd l j ≠ 0 → rd l j ∈ w' := by
      intro w' hsub hi j j0 j1 hne
      by_cases e : j = i
      · rw [e] at hne ⊢; exact hi hne
      · exact hsub _ (hall j j0 (by omega) hne)
    have hnd := (hp.nodup_iff).2 hw
    have hlenU : (U T).length ≤ 31 := by rw [hp.length_eq]; omega
    refine ev_succ (f := fun k => (ephem_Put.f k T (rd l i) (IntKind.u64.wrap i)).bind fun b => (weak_Make.f k w (rd l i)).bind fun c => if rd l i = 0 then (if b.2 = 7 then besomtop_TopTables.j1 k l ps w l (l.length : Int) i (c.2.2 != 7) T else besomtop_TopTables.j1 k l ps w l (l.length : Int) i true T) else if b.2 = 0 then (if c.2.2 = 0 then (if c.2.1 < 1 then some false else besomtop_TopTables.l0 k l ps c.1 l (l.length : Int) (i + 1) b.1) else some false) else some false) (fun k => ?_) ?_
    · simp only [besomtop_TopTables.l0]; rw [if_pos hlt, if_pos h0, if_pos hlt, if_neg c25, hwi]
    by_cases z : rd l i = 0
    · have hput := put_zero hg (IntKind.u64.wrap i)
      rw [← z] at hput
      refine Ev.bind hput (Ev.bind (make_ev w (by omega) (rd l i)) ?_)
      unfold makeS
      simp only [if_pos hc0, if_pos z, if_true]
      refine ev_succ (f := fun k => besomtop_TopTables.l0 k l ps w l (l.length : Int) (i + 1) T) (fun k => ?_) ?_
      · simp only [besomtop_TopTables.j1]; rw [if_neg (by decide), hwi]
      · exact ih (i + 1) T w (by omega) (by omega) (by omega) hg hp hw hz (by omega) (nextall w (fun _ h => h) (fun h => absurd z h))
    · obtain ⟨T', a1, a2, a3⟩ := put_ev hg hnd hlenU z (IntKind.u64.wrap i)
      refine Ev.bind a1 (Ev.bind (make_ev w (by omega) (rd l i)) ?_)
      unfold makeS
      simp only [if_pos hc0, if_neg z, if_true]
      by_cases m : rd l i ∈ w
      · have hf := (findS_pos w (rd l i)).2 ⟨z, m⟩
        simp only [if_pos hf, if_true, if_neg (show ¬ findS w (rd l i) < 1 by omega)]
        rcases a3 with ⟨_, b2⟩ | ⟨b1, _⟩
        · exact ih (i + 1) T' w (by omega) (by omega) (by omega) a2 (b2.trans hp) hw hz (by omega) (nextall w (fun _ h => h) (fun _ => m))
        · exact absurd (hp.mem_iff.2 m) b1
      · have hf : ¬ findS w (rd l i) > 0 := fun hc => m ((findS_pos w (rd l i)).1 hc).2
        simp only [if_neg hf, if_neg (show ¬ (w.length : Int) = 64 by omega), if_true, if_neg (show ¬ (w.length : Int) + 1 < 1 by omega)]
        rcases a3 with ⟨b1, _⟩ | ⟨_, b2⟩
        · exact absurd (hp.mem_iff.1 b1) m
        · have hp2 : (rd l i :: w).Perm (w ++ [rd l i]) := by
            have := (List.perm_middle (a := rd l i) (l₁ := w) (l₂ := [])).symm
            simpa using this
          have hnd2 : (rd l i :: w).Nodup := List.nodup_cons.2 ⟨m, hw⟩
          refine ih (i + 1) T' (w ++ [rd l i]) (by omega) (by omega) (by omega) a2 (b2.trans ((hp.cons _).trans hp2)) ((hp2.nodup_iff).1 hnd2) ?_ (by simp; omega) (nextall _ (fun _ h => List.mem_append_left _ h) (fun _ => by simp))
          intro hm
          rcases List.mem_append.1 hm with e | e
          · exact hz e
          · exact z (List.mem_singleton.1 e).symm
theorem TopTables : ∀ (l0 : List Int) (l1 : List Int), l0.length ≤ maxLen → l0.length * 8 ≤ 140737488351232 → (∀ x ∈ l0, (Lit.int .u64 x).wf = true) → l1.length ≤ maxLen → l1.length * 8 ≤ 140737488351232 → (∀ x ∈ l1, (Lit.int .u64 x).wf = true) → ∃ k, besomtop_TopTables.f k l0 l1 = some true := by
  intro l ps _ h0 _ _ h1 _
  refine Ev.rounds (g := fun k => besomtop_TopTables.f k l ps) ?_
  unfold besomtop_TopTables.f
  refine Ev.bind begins_ev ?_
  simp only [if_true]
  exact put_l (by omega) l.length 0 [] [] (by omega) (by omega) (by omega) (.inl rfl) (List.Perm.refl _) List.nodup_nil (by simp) (by simp) (fun j j0 j1 => by omega)

end Go.Proofs.Ytbdlehbaioaglaa.Pure
