/- Drawn from PuClass: the program's own functions alone. -/
import Derived.Test.YtdadleamaalhiabGCx2
import Derived.Test.YtdadleamaalhiabPu
namespace Go.Proofs.Ytdadleamaalhiab.PuClassI
open Go.RowKit Go.Proofs.YtdadleamaalhiabW.PrintWords Go.Proofs.YtdadleamaalhiabW.PrintLast Go.Proofs.YtdadleamaalhiabW.PrintMore Go.Proofs.Ytdadleamaalhiab.GC Go.Proofs.Ytdadleamaalhiab.Pu

def ofS (a : Int) : Int × Int := if a < 1 then (0, 1) else if a > 49 then (0, 1) else if a ≤ 2 then (0, 0) else if a ≤ 4 then (1, 0) else if a ≤ 8 then (2, 0) else if a ≤ 16 then (3, 0) else (-1, 0)
def pagesS (a : Int) : Int × Int := if a < 1 then (0, 1) else if a > 49 then (0, 1) else ((a + 15) / 16, 0)
def roomS (a : Int) : Int := if a ≤ 2 then 2 else if a ≤ 4 then 4 else if a ≤ 8 then 8 else if a ≤ 16 then 16 else 16 * ((a + 15) / 16)
def sizeS (c : Int) : Int × Int := if c = 0 then (2, 0) else if c = 1 then (4, 0) else if c = 2 then (8, 0) else if c = 3 then (16, 0) else (0, 1)
def slotsS (c : Int) : Int × Int := if c = 0 then (8, 0) else if c = 1 then (4, 0) else if c = 2 then (2, 0) else if c = 3 then (1, 0) else (0, 1)

theorem small (P : Int → Prop) (h : ∀ n : Fin 50, P (n.1 : Int)) (a : Int) (h0 : 1 ≤ a) (h1 : a ≤ 49) : P a := by
  have := h ⟨a.toNat, by omega⟩
  rwa [show ((a.toNat : Nat) : Int) = a by omega] at this

theorem of_small : ∀ n : Fin 50, class_Of.f 6 (n.1 : Int) = some (ofS n.1) := by decide +kernel
theorem of_ev (a : Int) : Ev (fun k => class_Of.f k a) (ofS a) := by
  by_cases h0 : a < 1
  · refine ev_of (K := 1) fun k hk => ?_
    obtain ⟨k, rfl⟩ : ∃ m, k = m + 1 := ⟨k - 1, by omega⟩
    simp [class_Of.f, class_Of.j0, ofS, h0]
  by_cases h1 : a > 49
  · refine ev_of (K := 1) fun k hk => ?_
    obtain ⟨k, rfl⟩ : ∃ m, k = m + 1 := ⟨k - 1, by omega⟩
    simp [class_Of.f, class_Of.j0, ofS, h0, h1]
  · exact Ev.of (class_Of.mono a) (small (fun a => class_Of.f 6 a = some (ofS a)) of_small a (by omega) (by omega))
theorem size_eq (c : Int) : class_Size.f c = some (sizeS c) := by
  unfold class_Size.f sizeS
  by_cases c0 : c = 0
  · simp [c0]
  by_cases c1 : c = 1
  · simp [c1]
  by_cases c2 : c = 2
  · simp [c2]
  by_cases c3 : c = 3
  · simp [c3]
  simp [c0, c1, c2, c3]
theorem slots_eq (c : Int) : class_Slots.f c = some (slotsS c) := by
  unfold class_Slots.f; rw [size_eq]; unfold sizeS slotsS; simp only [Option.bind_some]
  by_cases c0 : c = 0
  · subst c0; decide +kernel
  by_cases c1 : c = 1
  · subst c1; decide +kernel
  by_cases c2 : c = 2
  · subst c2; decide +kernel
  by_cases c3 : c = 3
  · subst c3; decide +kernel
  simp [c0, c1, c2, c3]
theorem pages_small : ∀ n : Fin 50, class_Pages.f 6 (n.1 : Int) = some (pagesS n.1) := by decide +kernel
theorem ofS_err {a : Int} (h : a < 1 ∨ 49 < a) : ofS a = (0, 1) := by unfold ofS; rcases h with h | h <;> repeat' (first | rfl | split | omega)
theorem ofS_ok {a : Int} (h0 : 1 ≤ a) (h1 : a ≤ 49) : (ofS a).2 = 0 := by unfold ofS; repeat' (first | rfl | split | omega)
theorem pages_ev (a : Int) : Ev (fun k => class_Pages.f k a) (pagesS a) := by
  by_cases h : a < 1 ∨ 49 < a
  · have e : pagesS a = (0, 1) := by unfold pagesS; rcases h with h | h <;> repeat' (first | rfl | split | omega)
    rw [e]
    refine Ev.bind (g := fun k => class_Of.f k a) (of_ev a) ?_
    rw [ofS_err h]; exact ev_const rfl
  · exact Ev.of (class_Pages.mono a) (small (fun a => class_Pages.f 6 a = some (pagesS a)) pages_small a (by omega) (by omega))
theorem room_small : ∀ n : Fin 50, n.1 ≠ 0 → class_room.f 6 (n.1 : Int) = some (roomS n.1, 0) := by decide +kernel
theorem room_ev (a : Int) : Ev (fun k => class_room.f k a) (if (ofS a).2 = 0 then (roomS a, 0) else (0, 1)) := by
  by_cases h : a < 1 ∨ 49 < a
  · rw [ofS_err h]
    refine Ev.bind (g := fun k => class_Of.f k a) (of_ev a) ?_
    rw [ofS_err h]; exact ev_const rfl
  · rw [ofS_ok (by omega) (by omega), if_pos rfl]
    have := room_small ⟨a.toNat, by omega⟩ (by show a.toNat ≠ 0; omega)
    simp only [show ((a.toNat : Nat) : Int) = a by omega] at this
    exact Ev.of (class_room.mono a) this

/-- The sum of what is nobody's, as both reckon it. -/
def wasteS : Int → List Int → Int × Int
  | x, [] => (x, 0)
  | x, a :: l => if (ofS a).2 = 0 then wasteS (wrap64 (x + wrap64 (roomS a - a))) l else (0, 1)
theorem waste_l (l : List Int) (hl : l.length ≤ 140737488351232) : ∀ (d : Nat) (i x : Int), 0 ≤ i → (l.length : Int) - i = d → Ev (fun k => class_Waste.l0 k x l (l.length : Int) i) (wasteS x (l.drop i.toNat)) := by
  intro d
  induction d with
  | zero =>
    intro i x h0 hd
    refine ev_of (K := 1) fun k hk => ?_
    obtain ⟨k, rfl⟩ : ∃ m, k = m + 1 := ⟨k - 1, by omega⟩
    simp only [class_Waste.l0]; rw [if_neg (by omega), drop_end (by omega)]; rfl
  | succ d ih =>
    intro i x h0 hd
    have hlt : i < (l.length : Int) := by omega
    refine ev_succ (f := fun k => (class_room.f k (rd l i)).bind fun b => if b.2 = 0 then class_Waste.l0 k (wrap64 (x + wrap64 (b.1 - rd l i))) l (l.length : Int) (wrap64 (i + 1)) else some (0, b.2)) (fun k => by simp only [class_Waste.l0]; rw [if_pos hlt, if_pos h0, if_pos hlt]) ?_
    refine Ev.bind (g := fun k => class_room.f k (rd l i)) (room_ev (rd l i)) ?_
    rw [drop_rd h0 hlt]
    unfold wasteS
    by_cases h : (ofS (rd l i)).2 = 0
    · simp only [h, if_true]
      rw [w64 (a := i + 1) (by omega) (by omega)]
      exact ih (i + 1) _ (by omega) (by omega)
    · simp only [h, if_false]
      exact ev_const rfl
theorem waste_ev (l : List Int) (hl : l.length ≤ 140737488351232) : Ev (fun k => class_Waste.f k l) (wasteS 0 l) := by
  have := waste_l l hl l.length 0 0 (by omega) (by omega)
  exact this
theorem size_of_ofS (a : Int) (h : (ofS a).2 = 0) : (ofS a).1 = -1 ∧ sizeS (ofS a).1 = (0, 1) ∧ roomS a = 16 * (pagesS a).1 ∨ sizeS (ofS a).1 = (roomS a, 0) := by
  have h0 : 1 ≤ a := by unfold ofS at h; repeat' (first | omega | (split at h; simp at h))
  have h1 : a ≤ 49 := by
    apply Classical.byContradiction; intro hh
    rw [ofS_err (.inr (by omega))] at h; simp at h
  clear h
  revert h0 h1
  have key : ∀ n : Fin 50, n.1 ≠ 0 → ((ofS n.1).1 = -1 ∧ sizeS (ofS n.1).1 = (0, 1) ∧ roomS n.1 = 16 * (pagesS n.1).1 ∨ sizeS (ofS n.1).1 = (roomS n.1, 0)) := by decide +kernel
  intro h0 h1
  have := key ⟨a.toNat, by omega⟩ (by show a.toNat ≠ 0; omega)
  simpa only [show ((a.toNat : Nat) : Int) = a by omega] using this
theorem lives_ev : Ev (fun k => besomlaw04_lives.f k) true := Ev.of besomlaw04_lives.mono (k := 20) (by decide +kernel)
end Go.Proofs.Ytdadleamaalhiab.PuClassI
