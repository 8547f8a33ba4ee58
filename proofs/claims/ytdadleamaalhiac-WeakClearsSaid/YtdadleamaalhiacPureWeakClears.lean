/- Of addresses that are cleared no handle is left; others' are as they were; as many are told as led to them. -/
import Derived.Test.YtdadleamaalhiacGWx6
import Derived.Test.YtdadleamaalhiacPuWeak
namespace Go.Proofs.Ytdadleamaalhiac.Pure
open Go.RowKit Go.Proofs.YtdadleamaalhiacW.PrintWords Go.Proofs.YtdadleamaalhiacW.PrintLast Go.Proofs.Ytdadleamaalhiac.GW Go.Proofs.Ytdadleamaalhiac.Pu Go.Proofs.Ytdadleamaalhiac.PuWeak

/-- What an entry is behind the clearing. -/
def gone (ps : List Int) (x : Int) : Int := if findS ps x > 0 then 0 else x
def many (ps : List Int) : List Int → Nat
  | [] => 0
  | x :: r => (if findS ps x > 0 then 1 else 0) + many ps r
theorem clrL_eq (ps : List Int) : ∀ (b a o : List Int) (i : Int), i = a.length → (clrL ps b.length i (a ++ b) o).1 = a ++ b.map (gone ps) ∧ (clrL ps b.length i (a ++ b) o).2.length = o.length + many ps b
  | [], a, o, i, h => by simp [clrL, many]
  | x :: r, a, o, i, h => by
    have hr : rd (a ++ x :: r) i = x := by subst h; simp [rd]
    have hs : (a ++ x :: r).set i.toNat 0 = (a ++ [0]) ++ r := by subst h; rw [Int.toNat_natCast, List.set_append_right _ _ (Nat.le_refl _)]; simp
    rw [List.length_cons, clrL, hr]
    by_cases c : findS ps x > 0
    · have := clrL_eq ps r (a ++ [0]) (o ++ [i + 1]) (i + 1) (by simp; omega)
      rw [if_pos c, hs, this.1, this.2]
      simp [gone, many, c]; omega
    · have := clrL_eq ps r (a ++ [x]) o (i + 1) (by simp; omega)
      rw [if_neg c, show a ++ x :: r = (a ++ [x]) ++ r by simp, this.1, this.2]
      simp [gone, many, c]
theorem take_mem {l : List Int} {n : Nat} {x : Int} (h : x ∈ l.take n) : x ∈ l := List.mem_of_mem_take h
theorem not_twice {x : Int} {r a : List Int} (h : wchk (a ++ x :: r) = 0) (hx : x ≠ 0) : x ∉ a := by
  intro hm
  have := ((wchk_iff _).1 h).2 (a.length : Int) (by omega) (by simp; omega)
  rw [Int.toNat_natCast, List.take_left] at this
  apply this
  refine (findS_pos _ _).2 ⟨?_, ?_⟩
  · simpa [rd] using hx
  · simpa [rd] using hm
theorem many_le : ∀ (b a ps qs : List Int), wchk (a ++ b) = 0 → (∀ x ∈ b, findS ps x > 0 → x ∈ qs) → many ps b ≤ qs.length
  | [], _, _, _, _, _ => Nat.zero_le _
  | x :: r, a, ps, qs, h, hq => by
    unfold many
    have h2 : wchk ((a ++ [x]) ++ r) = 0 := by simpa using h
    by_cases c : findS ps x > 0
    · rw [if_pos c]
      have hx := ((findS_pos ps x).1 c).1
      have hm := hq x (by simp) c
      have key : ∀ y ∈ r, findS ps y > 0 → y ∈ qs.erase x := by
        intro y hy hc
        have hy0 := ((findS_pos ps y).1 hc).1
        have hne : y ≠ x := by
          intro e; subst e
          obtain ⟨s, t, e2⟩ := List.append_of_mem hy
          subst e2
          have := not_twice (x := y) (r := t) (a := a ++ y :: s) (by simpa using h) hy0
          exact this (by simp)
        exact (List.mem_erase_of_ne hne).2 (hq y (by simp [hy]) hc)
      have := many_le r (a ++ [x]) ps (qs.erase x) h2 key
      rw [List.length_erase_of_mem hm] at this
      have : 0 < qs.length := List.length_pos_of_mem hm
      omega
    · rw [if_neg c]
      have := many_le r (a ++ [x]) ps qs h2 (fun y hy => hq y (by simp [hy]))
      omega
theorem gone_ne (ps : List Int) (x y : Int) (h : gone ps x = y) (hy : y ≠ 0) : x = y ∧ ¬ findS ps y > 0 := by
  unfold gone at h
  by_cases c : findS ps x > 0
  · rw [if_pos c] at h; exact absurd h.symm hy
  · rw [if_neg c] at h; subst h; exact ⟨rfl, c⟩
theorem wchk_gone (ps l : List Int) (h : wchk l = 0) : wchk (l.map (gone ps)) = 0 := by
  obtain ⟨h0, h1⟩ := (wchk_iff l).1 h
  refine (wchk_iff _).2 ⟨by simpa using h0, fun j j0 j1 hc => ?_⟩
  simp only [List.length_map] at j1
  have hn : j.toNat < l.length := by omega
  have er : rd (l.map (gone ps)) j = gone ps (rd l j) := by
    simp [rd, List.getD_eq_getElem?_getD, List.getElem?_eq_getElem hn]
  obtain ⟨c0, c1⟩ := (findS_pos _ _).1 hc
  rw [er] at c0 c1
  rw [← List.map_take] at c1
  obtain ⟨z, hz, e⟩ := List.mem_map.1 c1
  obtain ⟨e1, _⟩ := gone_ne ps z _ e c0
  have e2 : gone ps (rd l j) = rd l j := (gone_ne ps (rd l j) _ rfl c0).1.symm
  refine h1 j j0 j1 ((findS_pos _ _).2 ⟨by rw [← e2]; exact c0, ?_⟩)
  rw [← e2, ← e1]; exact hz
theorem idx_gone (ps : List Int) (y : Int) (hy : y ≠ 0) (hp : ¬ findS ps y > 0) : ∀ (l : List Int) (i : Int), idxS y (l.map (gone ps)) i = idxS y l i
  | [], _ => rfl
  | x :: r, i => by
    rw [List.map_cons, idxS, idxS, idx_gone ps y hy hp r]
    have : (y = gone ps x) ↔ (y = x) := by
      constructor
      · intro e; exact (gone_ne ps x y e.symm hy).1.symm
      · intro e; subst e; unfold gone; rw [if_neg hp]
    by_cases e : y = x
    · rw [if_pos (this.2 e), if_pos e]
    · rw [if_neg (fun h => e (this.1 h)), if_neg e]
theorem handle_gone_in (ps l : List Int) (h : wchk l = 0) (a : Int) (ha : a ∈ ps) : ¬ (handleS (l.map (gone ps)) a).2 = 0 := by
  unfold handleS
  rw [if_pos (wchk_gone ps l h)]
  by_cases h0 : a = 0
  · rw [if_pos h0]; decide
  · rw [if_neg h0]
    by_cases hf : findS (l.map (gone ps)) a > 0
    · obtain ⟨_, hm⟩ := (findS_pos _ _).1 hf
      obtain ⟨z, hz, e⟩ := List.mem_map.1 hm
      exact absurd ((findS_pos ps a).2 ⟨h0, ha⟩) (gone_ne ps z a e h0).2
    · rw [if_neg hf]; decide
theorem handle_gone_out (ps l : List Int) (h : wchk l = 0) (a : Int) (ha : a ∉ ps) : handleS (l.map (gone ps)) a = handleS l a := by
  unfold handleS
  rw [if_pos (wchk_gone ps l h), if_pos h]
  by_cases h0 : a = 0
  · rw [if_pos h0, if_pos h0]
  · have : findS (l.map (gone ps)) a = findS l a := by
      unfold findS
      rw [if_neg h0, if_neg h0, idx_gone ps a h0 (fun hc => ha ((findS_pos ps a).1 hc).2)]
    rw [this]
theorem asks_l (ps l o : List Int) (a : Int) (hps : ps.length ≤ 17592186044416) (h : wchk l = 0) (ho : o.length ≤ ps.length) : ∀ (d : Nat) (i : Int), 0 ≤ i → (ps.length : Int) - i = d → (∀ j : Int, 0 ≤ j → j < i → rd ps j ≠ a) → Ev (fun k => besomlaw09_WeakClears.l0 k l ps a (l.map (gone ps)) o ps (ps.length : Int) i) true := by
  intro d
  induction d with
  | zero =>
    intro i h0 hd hn
    refine ev_succ (f := fun k => _) (fun k => by simp only [besomlaw09_WeakClears.l0]; rw [if_neg (by omega)]) ?_
    have ha : a ∉ ps := by
      intro hm
      obtain ⟨n, hn2, e⟩ := List.mem_iff_getElem.1 hm
      exact hn (n : Int) (by omega) (by omega) (by simp [rd, hn2, e])
    refine Ev.bind (handle_ev l a) (Ev.bind (handle_ev (l.map (gone ps)) a) ?_)
    rw [handle_gone_out ps l h a ha]
    simp only [if_true, List.length_map]
    exact ev_const (by simp; omega)
  | succ d ih =>
    intro i h0 hd hn
    refine ev_succ (f := fun k => _) (fun k => by simp only [besomlaw09_WeakClears.l0]; rw [if_pos (by omega), if_pos h0, if_pos (by omega), w64 (a := i + 1) (by omega) (by omega)]) ?_
    refine Ev.bind (handle_ev (l.map (gone ps)) (rd ps i)) ?_
    simp only [handle_gone_in ps l h (rd ps i) (rd_mem h0 (by omega)), if_false]
    by_cases e : rd ps i = a
    · simp only [e, if_true]; exact Ev.now _
    · simp only [e, if_false]
      exact ih (i + 1) (by omega) (by omega) (fun j j0 j1 => by
        by_cases ej : j = i
        · rw [ej]; exact e
        · exact hn j j0 (by omega))
theorem WeakClears : ∀ (l0 : List Int) (l1 : List Int) (a2 : Int), l0.length ≤ maxLen → l0.length * 8 ≤ 140737488351232 → (∀ x ∈ l0, (Lit.int .u64 x).wf = true) → l1.length ≤ maxLen → l1.length * 8 ≤ 140737488351232 → (∀ x ∈ l1, (Lit.int .u64 x).wf = true) → (Lit.int .u64 a2).wf = true → ∃ k, besomlaw09_WeakClears.f k l0 l1 a2 = some true := by
  intro l ps a _ hs _ _ hp _ _
  have hl : l.length < 17592186044416 := by omega
  have hps : ps.length ≤ 17592186044416 := by omega
  refine Ev.rounds (g := fun k => besomlaw09_WeakClears.f k l ps a) ?_
  unfold besomlaw09_WeakClears.f
  refine Ev.bind lives_ev ?_
  simp only [if_true]
  refine Ev.bind (clear_ev l hl ps hps) ?_
  unfold clearS
  rcases wchk_02 l with h | h
  · have hc := clrL_eq ps l [] [] 0 rfl
    simp only [List.nil_append, List.length_nil, Nat.zero_add] at hc
    simp only [h, if_true, hc.1]
    have hm := many_le l [] ps ps (by simpa using h) (fun x _ hx => ((findS_pos ps x).1 hx).2)
    exact asks_l ps l _ a hps h (by rw [hc.2]; exact hm) ps.length 0 (by omega) (by omega) (fun j h0 h1 => by omega)
  · simp only [h, show ¬ ((2 : Int) = 0) by decide, if_false]; exact ev_const rfl

end Go.Proofs.Ytdadleamaalhiac.Pure
