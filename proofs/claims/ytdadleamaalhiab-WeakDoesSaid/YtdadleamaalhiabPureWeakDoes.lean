/- Whatever a table is, handles are made, asked for, and cleared, as the document says. -/
import Derived.Test.YtdadleamaalhiabGWx8
import Derived.Test.YtdadleamaalhiabPuWeakRef
import Derived.Test.YtdadleamaalhiabPuWeakSame
namespace Go.Proofs.Ytdadleamaalhiab.Pure
open Go.RowKit Go.Proofs.YtdadleamaalhiabW.PrintWords Go.Proofs.YtdadleamaalhiabW.PrintLast Go.Proofs.Ytdadleamaalhiab.GW Go.Proofs.Ytdadleamaalhiab.Pu Go.Proofs.Ytdadleamaalhiab.PuWeak Go.Proofs.Ytdadleamaalhiab.PuWeakRef Go.Proofs.Ytdadleamaalhiab.PuWeakSame

theorem makeS_len (l : List Int) (hl : l.length < 17592186044416) (a : Int) : (makeS l a).1.length < 17592186044416 := by
  unfold makeS
  by_cases h : wchk l = 0
  · have := len64 h
    simp only [h, if_true]; repeat' split
    all_goals first | omega | (simp; omega)
  · simp [h]
theorem clrL_len (ps : List Int) : ∀ (d : Nat) (i : Int) (t o : List Int), (clrL ps d i t o).1.length = t.length ∧ (clrL ps d i t o).2.length ≤ o.length + d
  | 0, _, _, _ => ⟨rfl, by simp [clrL]⟩
  | d + 1, i, t, o => by
    unfold clrL
    split
    · have := clrL_len ps d (i + 1) (t.set i.toNat 0) (o ++ [i + 1])
      simp only [List.length_set, List.length_append, List.length_singleton] at this
      omega
    · have := clrL_len ps d (i + 1) t o
      omega
theorem clearS_len (l ps : List Int) (hl : l.length < 17592186044416) : (clearS l ps).1.length < 17592186044416 ∧ (clearS l ps).2.1.length < 17592186044416 := by
  unfold clearS
  have := clrL_len ps l.length 0 l []
  by_cases h : wchk l = 0
  · have h6 := len64 h
    simp only [h, if_true]
    simp only [List.length_nil] at this; omega
  · simp [h]
theorem last_l (t c o : List Int) (he : c = t) (hl : t.length < 17592186044416) (ho : o.length < 17592186044416) : ∀ (d : Nat) (i : Int), 0 ≤ i → (o.length : Int) - i = d → Ev (fun k => besomlaw09_WeakDoes.l0 k t c o o (o.length : Int) i) true := by
  subst he
  intro d
  induction d with
  | zero =>
    intro i h0 hd
    refine ev_succ (f := fun k => _) (fun k => by simp only [besomlaw09_WeakDoes.l0]; rw [if_neg (by omega)]) ?_
    refine Ev.bind (check_ev c) (Ev.bind (rcheck_ev c) ?_)
    simp only [if_true]
    exact Ev.bind (same_ev c hl) (Ev.now _)
  | succ d ih =>
    intro i h0 hd
    refine ev_succ (f := fun k => besomlaw09_WeakDoes.l0 k c c o o (o.length : Int) (i + 1)) (fun k => ?_) (ih (i + 1) (by omega) (by omega))
    simp only [besomlaw09_WeakDoes.l0]
    rw [if_pos (by omega), if_pos h0, if_pos (by omega), if_pos (by omega), if_pos trivial, w64 (by omega) (by omega)]
theorem WeakDoes : ∀ (l0 : List Int) (a1 : Int) (a2 : Int) (l3 : List Int), l0.length ≤ maxLen → l0.length * 8 ≤ 140737488351232 → (∀ x ∈ l0, (Lit.int .u64 x).wf = true) → (Lit.int .u64 a1).wf = true → (Lit.int .i64 a2).wf = true → l3.length ≤ maxLen → l3.length * 8 ≤ 140737488351232 → (∀ x ∈ l3, (Lit.int .u64 x).wf = true) → ∃ k, besomlaw09_WeakDoes.f k l0 a1 a2 l3 = some true := by
  intro l a n ps _ hs _ _ _ _ hp _
  have hl : l.length < 17592186044416 := by omega
  have hps : ps.length ≤ 17592186044416 := by omega
  refine Ev.rounds (g := fun k => besomlaw09_WeakDoes.f k l a n ps) ?_
  unfold besomlaw09_WeakDoes.f
  rw [rcopy_eq l hl]
  refine Ev.bind (g := fun _ => some l) (ev_const rfl) ?_
  refine Ev.bind (make_ev l hl a) (Ev.bind (rmake_ev l hl a) (Ev.bind (get_ev l n) (Ev.bind (rget_ev l n) (Ev.bind (clear_ev l hl ps hps) (Ev.bind (rclear_ev l hl ps hps) (Ev.bind (handle_ev l a) (Ev.bind (rhandle_ev l a) (Ev.bind lives_ev ?_))))))))
  have hm := makeS_len l hl a
  have hc := clearS_len l ps hl
  generalize makeS l a = m at hm
  generalize clearS l ps = c at hc
  generalize getS l n = g
  generalize handleS l a = q
  simp only [if_true]
  refine Ev.bind (same_ev m.1 hm) ?_
  simp only [if_true]
  refine Ev.bind (same_ev c.1 hc.1) ?_
  simp only [if_true, bne_self_eq_false]
  refine ev_succ (f := fun k => besomlaw09_WeakDoes.l0 k l l c.2.1 c.2.1 (c.2.1.length : Int) 0) (fun k => by simp [besomlaw09_WeakDoes.j0]) ?_
  exact last_l l l c.2.1 rfl hl hc.2 c.2.1.length 0 (by omega) (by omega)

end Go.Proofs.Ytdadleamaalhiab.Pure
