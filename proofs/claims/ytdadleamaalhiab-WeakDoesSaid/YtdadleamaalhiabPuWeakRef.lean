/- What the reference's functions of layer 9 come to: the same. -/
import Derived.Test.YtdadleamaalhiabGWx3
import Derived.Test.YtdadleamaalhiabGWx4
import Derived.Test.YtdadleamaalhiabGWx6
import Derived.Test.YtdadleamaalhiabGWx5
import Derived.Test.YtdadleamaalhiabPuWeak
namespace Go.Proofs.Ytdadleamaalhiab.PuWeakRef
open Go.RowKit Go.Proofs.YtdadleamaalhiabW.PrintWords Go.Proofs.YtdadleamaalhiabW.PrintLast Go.Proofs.YtdadleamaalhiabW.PrintMore Go.Proofs.Ytdadleamaalhiab.GW Go.Proofs.Ytdadleamaalhiab.Pu Go.Proofs.Ytdadleamaalhiab.PuWeak

theorem rfind_l (l : List Int) (hl : l.length ≤ 17592186044416) (a : Int) : ∀ (d : Nat) (i : Int), 0 ≤ i → (l.length : Int) - i = d → Ev (fun k => besomref09_find.l0 k a l (l.length : Int) i) (if a = 0 then 0 else idxS a (l.drop i.toNat) i + 1) := by
  intro d
  induction d with
  | zero =>
    intro i h0 hd
    refine ev_of (K := 1) fun k hk => ?_
    obtain ⟨k, rfl⟩ : ∃ m, k = m + 1 := ⟨k - 1, by omega⟩
    simp only [besomref09_find.l0]; rw [if_neg (by omega), drop_end (by omega)]
    by_cases h : a = 0 <;> simp [h, idxS]
  | succ d ih =>
    intro i h0 hd
    have hlt : i < (l.length : Int) := by omega
    have := ih (i + 1) (by omega) (by omega)
    rw [drop_rd h0 hlt]; unfold idxS
    by_cases e : rd l i = a
    · by_cases h : a = 0
      · simp only [h, if_true] at this ⊢
        refine ev_succ (f := fun k => besomref09_find.l0 k 0 l (l.length : Int) (i + 1)) (fun k => ?_) this
        simp only [besomref09_find.l0]; rw [if_pos hlt, if_pos h0, if_pos hlt, if_pos (by rw [e, h]), w64 (by omega) (by omega)]; simp
      · refine ev_of (K := 1) fun k hk => ?_
        obtain ⟨k, rfl⟩ : ∃ m, k = m + 1 := ⟨k - 1, by omega⟩
        simp only [besomref09_find.l0]; rw [if_pos hlt, if_pos h0, if_pos hlt, if_pos e, if_neg h, if_neg h, if_pos e.symm, w64 (by omega) (by omega)]
    · simp only [show ¬ a = rd l i from fun hh => e hh.symm, if_false]
      refine ev_succ (f := fun k => besomref09_find.l0 k a l (l.length : Int) (i + 1)) (fun k => ?_) this
      simp only [besomref09_find.l0]; rw [if_pos hlt, if_pos h0, if_pos hlt, if_neg e, w64 (by omega) (by omega)]
theorem rfind_ev (l : List Int) (hl : l.length ≤ 17592186044416) (a : Int) : Ev (fun k => besomref09_find.f k l a) (findS l a) := rfind_l l hl a l.length 0 (by omega) (by omega)
theorem rcheck_l (l : List Int) (hl : l.length ≤ 64) : ∀ (d : Nat) (i : Int), 0 ≤ i → (l.length : Int) - i = d → Ev (fun k => besomref09_Check.l0 k l l (l.length : Int) i) (chkL l d i) := by
  intro d
  induction d with
  | zero =>
    intro i h0 hd
    refine ev_of (K := 1) fun k hk => ?_
    obtain ⟨k, rfl⟩ : ∃ m, k = m + 1 := ⟨k - 1, by omega⟩
    simp only [besomref09_Check.l0]; rw [if_neg (by omega)]; rfl
  | succ d ih =>
    intro i h0 hd
    unfold chkL
    refine ev_succ (f := fun k => _) (fun k => by simp only [besomref09_Check.l0]; rw [if_pos (by omega), if_pos h0, if_pos (by omega), if_pos (by omega), w64 (a := i + 1) (by omega) (by omega)]) ?_
    refine Ev.bind (rfind_ev _ (by simp; omega) _) ?_
    by_cases h : findS (l.take i.toNat) (rd l i) > 0
    · simp only [h, if_true]; exact ev_const rfl
    · simp only [h, if_false]; exact ih (i + 1) (by omega) (by omega)
theorem rcheck_ev (l : List Int) : Ev (fun k => besomref09_Check.f k l) (wchk l) := by
  unfold besomref09_Check.f wchk
  by_cases h : (l.length : Int) > 64
  · simp only [h, if_true]; exact ev_const rfl
  · simp only [h, if_false]; exact rcheck_l l (by omega) l.length 0 (by omega) (by omega)
theorem rcopy_eq (l : List Int) (h : l.length < 17592186044416) : besomref09_Copy.f l = some l := by simp [besomref09_Copy.f, h]
theorem rhandle_ev (l : List Int) (a : Int) : Ev (fun k => besomref09_Handle.f k l a) (handleS l a) := by
  unfold besomref09_Handle.f handleS
  refine Ev.bind (rcheck_ev l) ?_
  rcases wchk_02 l with h | h
  · simp only [h, if_true]
    have hl := len64 h
    by_cases ha : a = 0
    · simp only [ha, if_true]; exact ev_const rfl
    · simp only [ha, if_false]
      refine Ev.bind (rfind_ev l (by omega) a) ?_
      have hg := findS_ge l a
      by_cases hf : findS l a > 0
      · simp only [hf, show ¬ findS l a = 0 by omega, if_true, if_false]; exact ev_const rfl
      · simp only [show findS l a = 0 by omega, if_true]; exact ev_const rfl
  · simp only [h, show ¬ ((2 : Int) = 0) by decide, if_false]; exact ev_const rfl
theorem rmake_ev (l : List Int) (hl : l.length < 17592186044416) (a : Int) : Ev (fun k => besomref09_Make.f k l a) (makeS l a) := by
  unfold besomref09_Make.f makeS
  refine Ev.bind (rcheck_ev l) ?_
  rcases wchk_02 l with h | h
  · simp only [h, if_true, rcopy_eq l hl, Option.bind_some]
    by_cases ha : a = 0
    · simp only [ha, if_true]; exact ev_const rfl
    · simp only [ha, if_false]
      refine Ev.bind (rfind_ev l (by omega) a) ?_
      by_cases hf : findS l a > 0
      · simp only [hf, if_true]; exact ev_const rfl
      · simp only [hf, if_false]
        by_cases h6 : (l.length : Int) = 64
        · simp only [h6, if_true]; exact ev_const rfl
        · simp only [h6, if_false, hl, if_true]
          rw [w64 (by omega) (by omega)]; exact ev_const rfl
  · simp only [h, show ¬ ((2 : Int) = 0) by decide, if_false]; exact ev_const rfl
theorem rget_ev (l : List Int) (n : Int) : Ev (fun k => besomref09_Get.f k l n) (getS l n) := by
  unfold besomref09_Get.f getS
  refine Ev.bind (rcheck_ev l) ?_
  rcases wchk_02 l with h | h
  · simp only [h, if_true]
    have hl := len64 h
    by_cases h0 : n < 1
    · simp only [h0, if_true]; exact ev_const rfl
    simp only [h0, if_false]
    by_cases h1 : n > (l.length : Int)
    · simp only [h1, if_true]; exact ev_const rfl
    simp only [h1, if_false]
    rw [w64 (a := n - 1) (by omega) (by omega), if_pos (by omega), if_pos (by omega)]; exact ev_const rfl
  · simp only [h, show ¬ ((2 : Int) = 0) by decide, if_false]; exact ev_const rfl
theorem rclear_l (ps : List Int) (hps : ps.length ≤ 17592186044416) (L : Int) (hL : L ≤ 64) : ∀ (d : Nat) (i : Int) (t o : List Int), (t.length : Int) = L → (o.length : Int) ≤ i → 0 ≤ i → L - i = d → Ev (fun k => besomref09_Clear.l0 k t ps o L i) ((clrL ps d i t o).1, (clrL ps d i t o).2, 0) := by
  intro d
  induction d with
  | zero =>
    intro i t o ht ho h0 hd
    refine ev_of (K := 1) fun k hk => ?_
    obtain ⟨k, rfl⟩ : ∃ m, k = m + 1 := ⟨k - 1, by omega⟩
    simp only [besomref09_Clear.l0]; rw [if_neg (by omega)]; rfl
  | succ d ih =>
    intro i t o ht ho h0 hd
    unfold clrL
    refine ev_succ (f := fun k => _) (fun k => by simp only [besomref09_Clear.l0]; rw [if_pos (by omega), if_pos h0, if_pos (by omega), w64 (a := i + 1) (by omega) (by omega)]) ?_
    refine Ev.bind (rfind_ev ps hps (rd t i)) ?_
    by_cases hc : findS ps (rd t i) > 0
    · simp only [hc, if_true, show o.length < 17592186044416 by omega]
      exact ih (i + 1) _ _ (by simpa using ht) (by simp; omega) (by omega) (by omega)
    · simp only [hc, if_false]
      exact ih (i + 1) t o ht (by omega) (by omega) (by omega)
theorem rclear_ev (l : List Int) (hl : l.length < 17592186044416) (ps : List Int) (hps : ps.length ≤ 17592186044416) : Ev (fun k => besomref09_Clear.f k l ps) (clearS l ps) := by
  unfold besomref09_Clear.f clearS
  refine Ev.bind (rcheck_ev l) ?_
  rcases wchk_02 l with h | h
  · simp only [h, if_true, rcopy_eq l hl, Option.bind_some]
    have h6 := len64 h
    exact rclear_l ps hps (l.length : Int) (by omega) l.length 0 l [] rfl (by simp) (by omega) (by omega)
  · simp only [h, show ¬ ((2 : Int) = 0) by decide, if_false]; exact ev_const rfl

end Go.Proofs.Ytdadleamaalhiab.PuWeakRef
