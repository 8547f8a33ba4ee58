/- What is left of handles behind a clearing. (Drawn from PureWeakClears.) -/
import Derived.Test.YtbdlehbaioaglaaPuWeak
namespace Go.Proofs.Ytbdlehbaioaglaa.PuWeakGone
open Go.RowKit Go.Proofs.YtbdlehbaioaglaaW.PrintWords Go.Proofs.YtbdlehbaioaglaaW.PrintLast Go.Proofs.Ytbdlehbaioaglaa.GT Go.Proofs.Ytbdlehbaioaglaa.Pu Go.Proofs.Ytbdlehbaioaglaa.PuWeak

/-- What an entry is behind the clearing. -/
def gone (ps : List Int) (x : Int) : Int := if findS ps x > 0 then 0 else x
def many (ps : List Int) : List Int → Nat
  | [] => 0
  | x :: r => (if findS ps x > 0 then 1 else 0) + many ps r
theorem clrL_eq (ps : List Int) : ∀ (b a o : List Int) (i : Int), i = a.length → (clrL ps b.length i (a ++ b) o).1 = a ++ b.map (gone ps) ∧ (clrL ps b.length i (a ++ b) o).2.length = o.length + many ps b
  | [], a, o, i, h => by simp [clrL, many]
  | x :: r, a, o, i, h => by
    have hr : rd (a ++ x :: r) i = x := by subst h; simp [rd]
    have hs : (a ++ x :: r).set i.toNat 0 = (a ++ [0]) ++ r := by subst h; rw [Int.toNat_natCast, List.set_append_right _ _ (Nat.le_refl _)]; simp
    rw [List.length_cons, clrL, hr]
    by_cases c : findS ps x > 0
    · have := clrL_eq ps r (a ++ [0]) (o ++ [i + 1]) (i + 1) (by simp; omega)
      rw [if_pos c, hs, this.1, this.2]
      simp [gone, many, c]; omega
    · have := clrL_eq ps r (a ++ [x]) o (i + 1) (by simp; omega)
      rw [if_neg c, show a ++ x :: r = (a ++ [x]) ++ r by simp, this.1, this.2]
      simp [gone, many, c]
theorem gone_ne (ps : List Int) (x y : Int) (h : gone ps x = y) (hy : y ≠ 0) : x = y ∧ ¬ findS ps y > 0 := by
  unfold gone at h
  by_cases c : findS ps x > 0
  · rw [if_pos c] at h; exact absurd h.symm hy
  · rw [if_neg c] at h; subst h; exact ⟨rfl, c⟩
theorem wchk_gone (ps l : List Int) (h : wchk l = 0) : wchk (l.map (gone ps)) = 0 := by
  obtain ⟨h0, h1⟩ := (wchk_iff l).1 h
  refine (wchk_iff _).2 ⟨by simpa using h0, fun j j0 j1 hc => ?_⟩
  simp only [List.length_map] at j1
  have hn : j.toNat < l.length := by omega
  have er : rd (l.map (gone ps)) j = gone ps (rd l j) := by
    simp [rd, List.getD_eq_getElem?_getD, List.getElem?_eq_getElem hn]
  obtain ⟨c0, c1⟩ := (findS_pos _ _).1 hc
  rw [er] at c0 c1
  rw [← List.map_take] at c1
  obtain ⟨z, hz, e⟩ := List.mem_map.1 c1
  obtain ⟨e1, _⟩ := gone_ne ps z _ e c0
  have e2 : gone ps (rd l j) = rd l j := (gone_ne ps (rd l j) _ rfl c0).1.symm
  refine h1 j j0 j1 ((findS_pos _ _).2 ⟨by rw [← e2]; exact c0, ?_⟩)
  rw [← e2, ← e1]; exact hz
theorem mem_gone (ps l : List Int) (a : Int) (h0 : a ≠ 0) : a ∈ l.map (gone ps) ↔ a ∈ l ∧ a ∉ ps := by
  constructor
  · intro h
    obtain ⟨z, hz, e⟩ := List.mem_map.1 h
    obtain ⟨e1, e2⟩ := gone_ne ps z a e h0
    subst e1
    exact ⟨hz, fun hm => e2 ((findS_pos ps z).2 ⟨h0, hm⟩)⟩
  · rintro ⟨h1, h2⟩
    refine List.mem_map.2 ⟨a, h1, ?_⟩
    unfold gone; rw [if_neg (fun hc => h2 ((findS_pos ps a).1 hc).2)]
theorem handle_err (l : List Int) (h : wchk l = 0) (a : Int) : (handleS l a).2 = if a = 0 then 7 else if a ∈ l then 0 else 3 := by
  unfold handleS
  rw [if_pos h]
  by_cases h0 : a = 0
  · rw [if_pos h0, if_pos h0]
  · rw [if_neg h0, if_neg h0]
    by_cases h1 : a ∈ l
    · rw [if_pos h1, if_pos ((findS_pos l a).2 ⟨h0, h1⟩)]
    · rw [if_neg h1, if_neg (fun hc => h1 ((findS_pos l a).1 hc).2)]
theorem wchk_nodup (l : List Int) (h : l.Nodup) (hl : l.length ≤ 64) : wchk l = 0 := by
  refine (wchk_iff l).2 ⟨hl, fun j h0 h1 hc => ?_⟩
  obtain ⟨_, hm⟩ := (findS_pos _ _).1 hc
  have e := List.take_append_drop j.toNat l
  rw [drop_rd h0 h1] at e
  rw [← e] at h
  have := (List.pairwise_append.1 h).2.2 _ hm (rd l j) (by simp)
  exact this rfl
theorem many_left (ps : List Int) : ∀ (w v : List Int), w.Nodup → (0 : Int) ∉ w → v.Nodup → (∀ x, x ∈ v ↔ x ∈ w ∧ x ∉ ps) → v.length + many ps w = w.length
  | [], v, _, _, _, h => by
    cases v with
    | nil => rfl
    | cons y r => exact absurd ((h y).1 (by simp)).1 (by simp)
  | x :: r, v, hw, h0, hv, h => by
    obtain ⟨n1, n2⟩ := List.nodup_cons.1 hw
    have hx0 : x ≠ 0 := fun e => h0 (by rw [e]; simp)
    have h0r : (0 : Int) ∉ r := fun hm => h0 (List.mem_cons_of_mem _ hm)
    unfold many
    by_cases c : x ∈ ps
    · have := many_left ps r v n2 h0r hv (fun y => by
        rw [h y]
        constructor
        · rintro ⟨b1, b2⟩
          rcases List.mem_cons.1 b1 with e | e
          · rw [e] at b2; exact absurd c b2
          · exact ⟨e, b2⟩
        · rintro ⟨b1, b2⟩; exact ⟨List.mem_cons_of_mem _ b1, b2⟩)
      rw [if_pos ((findS_pos ps x).2 ⟨hx0, c⟩), List.length_cons]; omega
    · have hxv : x ∈ v := (h x).2 ⟨by simp, c⟩
      have := many_left ps r (v.erase x) n2 h0r (hv.erase x) (fun y => by
        rw [hv.mem_erase_iff, h y]
        constructor
        · rintro ⟨b0, b1, b2⟩
          rcases List.mem_cons.1 b1 with e | e
          · exact absurd e b0
          · exact ⟨e, b2⟩
        · rintro ⟨b1, b2⟩; exact ⟨fun e => n1 (e ▸ b1), List.mem_cons_of_mem _ b1, b2⟩)
      rw [List.length_erase_of_mem hxv] at this
      have hp : 0 < v.length := List.length_pos_of_mem hxv
      rw [if_neg (fun hc => c ((findS_pos ps x).1 hc).2), List.length_cons]; omega

end Go.Proofs.Ytbdlehbaioaglaa.PuWeakGone
