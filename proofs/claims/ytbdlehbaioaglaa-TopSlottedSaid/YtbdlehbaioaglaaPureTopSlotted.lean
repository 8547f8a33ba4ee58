/- An object's words fit the slot of its class: each slot of a span of that size begins where the one ahead ends, and is found by its address, once it is in Alloc; its shape is read from its word. -/
import Derived.Test.YtbdlehbaioaglaaGSx13
import Derived.Test.YtbdlehbaioaglaaPuHeadIS
import Derived.Test.YtbdlehbaioaglaaPuClassPS
namespace Go.Proofs.Ytbdlehbaioaglaa.Pure
open Go.RowKit Go.Proofs.YtbdlehbaioaglaaW.PrintWords Go.Proofs.YtbdlehbaioaglaaW.PrintLast Go.Proofs.YtbdlehbaioaglaaW.PrintMore Go.Proofs.Ytbdlehbaioaglaa.GS Go.Proofs.Ytbdlehbaioaglaa.Pu Go.Proofs.Ytbdlehbaioaglaa.PuBitW Go.Proofs.Ytbdlehbaioaglaa.PuHeadIS Go.Proofs.Ytbdlehbaioaglaa.PuClassPS

theorem begins_ev : Ev (fun k => besomtop_begins.f k) true := ev_of (K := 60) fun _ hk => at_rounds (g := fun k => besomtop_begins.f k) besomtop_begins.mono hk besomtop_begins.run_
/-- Pages, size and slots that go together. -/
def cfgs : List (Int × Int × Int) := [(1, 2, 8), (1, 4, 4), (1, 8, 2), (1, 16, 1), (2, 0, 1), (3, 0, 1), (4, 0, 1)]
def cf (a : Int) : Int × Int × Int := if a ≤ 2 then (1, 2, 8) else if a ≤ 4 then (1, 4, 4) else if a ≤ 8 then (1, 8, 2) else if a ≤ 16 then (1, 16, 1) else if a ≤ 32 then (2, 0, 1) else if a ≤ 48 then (3, 0, 1) else (4, 0, 1)
def er (a : Int) : Int := if a ≤ 16 then 0 else 1
theorem cls : ∀ n : Fin 50, n.1 ≠ 0 → (ofS n.1).2 = 0 ∧ class_Size.f (ofS n.1).1 = some ((cf n.1).2.1, er n.1) ∧ (er n.1 = 0 ∨ (cf n.1).2.1 = 0) ∧ pagesS n.1 = ((cf n.1).1, 0) ∧ cf n.1 ∈ cfgs ∧ ((cf n.1).2.1 = 0 → (n.1 : Int) ≤ 16 * (cf n.1).1) ∧ ((cf n.1).2.1 ≠ 0 → (n.1 : Int) ≤ (cf n.1).2.1) := by decide +kernel
/-- No bit, or one. -/
def val (i : Nat) : Int := if i = 0 then 0 else ((2 ^ (i - 1) : Nat) : Int)
theorem cf_parts : ∀ c ∈ cfgs, span_shaped.f c.1 c.2.1 = some true ∧ span_slots.f c.2.1 = some c.2.2 ∧ bits_Make.f c.2.2 = some (c.2.2, [val 0], 0) ∧ bits_Own.f c.2.2 [val 0] = some (c.2.2, [val 0]) ∧ 1 ≤ c.1 ∧ c.1 ≤ 4 ∧ 1 ≤ c.2.2 ∧ c.2.2 ≤ 8 ∧ 0 ≤ c.2.1 ∧ c.2.1 ≤ 16 ∧ c.2.1 * c.2.2 ≤ 16 ∧ (c.2.1 = 0 → c.2.2 = 1) ∧ (c.2.1 ≠ 0 → c.2.1 * c.2.2 = 16 * c.1) := by decide +kernel
theorem j0_fix : ∀ c ∈ cfgs, ∀ i : Fin 9, (i.1 : Int) ≤ c.2.2 → span_right.j0 20 false 0 c.1 c.2.1 c.2.2 [val i.1] c.2.2 [val 0] true = some true := by decide +kernel
theorem is_fix : ∀ c ∈ cfgs, ∀ i : Fin 9, ∀ s : Fin 8, (s.1 : Int) < c.2.2 → bits_Is.f c.2.2 [val i.1] (s.1 : Int) = some (i.1 == s.1 + 1) := by decide +kernel
theorem put_fix : ∀ c ∈ cfgs, ∀ s : Fin 8, (s.1 : Int) < c.2.2 → bits_Put.f 20 c.2.2 [val 0] (s.1 : Int) true = some (c.2.2, [val (s.1 + 1)], 0) := by decide +kernel
theorem j0_first (k : Nat) (b : Bool) (f g n z a : Int) (l : List Int) (c : Int) (m : List Int) (s : Bool) : span_right.j0 (k + 1) b f n z a l c m s = span_right.j0 (k + 1) b g n z a l c m s := by simp only [span_right.j0]
section
variable {c : Int × Int × Int} (hc : c ∈ cfgs)
include hc
theorem right_ok {i : Nat} (hi : (i : Int) ≤ c.2.2) {first : Int} (h0 : 0 ≤ first) (h1 : first ≤ 1024 - c.1) : Ev (fun k => span_right.f k first c.1 c.2.1 c.2.2 [val i] c.2.2 [val 0] true) true := by
  obtain ⟨hs, _, _, _, n1, n4, _, m8, _⟩ := cf_parts c hc
  unfold span_right.f
  rw [hs]
  simp only [Option.bind_some, if_true]
  rw [w64 (a := 1024 - c.1) (by omega) (by omega)]
  simp only [show ¬ first < 0 by omega, if_false, show decide (first > 1024 - c.1) = false from decide_eq_false (by omega)]
  refine Ev.of (k := 20) (fun k => span_right.mono_l k _ _ _ _ _ _ _ _ _) ?_
  rw [j0_first 19 false first 0]
  exact j0_fix c hc ⟨i, by omega⟩ hi
theorem right_bad {i : Nat} {first : Int} (h : first < 0 ∨ first > 1024 - c.1) : Ev (fun k => span_right.f k first c.1 c.2.1 c.2.2 [val i] c.2.2 [val 0] true) false := by
  obtain ⟨hs, _, _, _, n1, n4, _⟩ := cf_parts c hc
  unfold span_right.f
  rw [hs]
  simp only [Option.bind_some, if_true]
  rw [w64 (a := 1024 - c.1) (by omega) (by omega)]
  have key : ∀ k, span_right.j0 (k + 1) true first c.1 c.2.1 c.2.2 [val i] c.2.2 [val 0] true = some false := fun k => by simp only [span_right.j0, if_true]
  have hE : Ev (fun k => span_right.j0 k true first c.1 c.2.1 c.2.2 [val i] c.2.2 [val 0] true) false := ev_succ (f := fun _ => some false) key (ev_const rfl)
  by_cases h0 : first < 0
  · simp only [h0, if_true]; exact hE
  · simp only [h0, if_false, show decide (first > 1024 - c.1) = true from decide_eq_true (h.resolve_left h0)]; exact hE
theorem make_ok {first : Int} (h0 : 0 ≤ first) (h1 : first ≤ 1024 - c.1) : Ev (fun k => span_Make.f k first c.1 c.2.1) (first, c.1, c.2.1, c.2.2, [val 0], c.2.2, [val 0], true, 0) := by
  obtain ⟨hs, hl, hm, ho, _, _, p, _⟩ := cf_parts c hc
  unfold span_Make.f
  rw [hs]; simp only [Option.bind_some, if_true]
  rw [hl]; simp only [Option.bind_some]
  rw [hm]; simp only [Option.bind_some]
  rw [ho]; simp only [Option.bind_some]
  refine Ev.bind (right_ok hc (i := 0) (by omega) h0 h1) ?_
  simp only [if_true]; exact ev_const rfl
theorem make_bad {first : Int} (h : first < 0 ∨ first > 1024 - c.1) : Ev (fun k => span_Make.f k first c.1 c.2.1) (0, 0, 0, 0, [], 0, [], false, 2) := by
  obtain ⟨hs, hl, hm, ho, _, _, p, _⟩ := cf_parts c hc
  unfold span_Make.f
  rw [hs]; simp only [Option.bind_some, if_true]
  rw [hl]; simp only [Option.bind_some]
  rw [hm]; simp only [Option.bind_some]
  rw [ho]; simp only [Option.bind_some]
  refine Ev.bind (right_bad hc (i := 0) h) ?_
  simp only [Bool.false_eq_true, if_false]; exact ev_const rfl
/-- A slot's address. -/
def at_ (z first slot : Int) : Int := first * 16 + slot * z
theorem addr_ok {i : Nat} (hi : (i : Int) ≤ c.2.2) {first slot : Int} (h0 : 0 ≤ first) (h1 : first ≤ 1024 - c.1) : Ev (fun k => span_Addr.f k first c.1 c.2.1 c.2.2 [val i] c.2.2 [val 0] true slot) (if slot < 0 ∨ slot ≥ c.2.2 then (0, 1) else (at_ c.2.1 first slot, 0)) := by
  obtain ⟨hs, hl, _, _, n1, n4, m1, m8, z0, z16, hz, _⟩ := cf_parts c hc
  have hS : Ev (fun k => span_Slots.f k first c.1 c.2.1 c.2.2 [val i] c.2.2 [val 0] true) (c.2.2, 0) := by
    unfold span_Slots.f
    refine Ev.bind (right_ok hc hi h0 h1) ?_
    simp only [if_true]; rw [hl]; exact ev_const rfl
  unfold span_Addr.f
  refine Ev.bind hS ?_
  simp only [if_true]
  by_cases s0 : slot < 0
  · simp only [s0, true_or, if_true]; exact ev_const rfl
  by_cases s1 : slot ≥ c.2.2
  · simp only [s0, s1, or_true, if_true, if_false]; exact ev_const rfl
  simp only [s0, s1, or_false, if_false]
  have p1 : 0 ≤ slot * c.2.1 := Int.mul_nonneg (by omega) z0
  have p2 : slot * c.2.1 ≤ 8 * 16 := Int.mul_le_mul (by omega) z16 z0 (by omega)
  unfold span_Base.f at_
  simp only [Option.bind_some]
  rw [w64 (a := first * 16) (by omega) (by omega), w64 (a := slot * c.2.1) (by omega) (by omega), wu64' (a := first * 16) (by omega) (by omega), wu64' (a := slot * c.2.1) (by omega) (by omega), wu64' (by omega) (by omega)]
  exact ev_const rfl
theorem find_ok {i : Nat} (hi : (i : Int) ≤ c.2.2) {first slot : Int} (h0 : 0 ≤ first) (h1 : first ≤ 1024 - c.1) (s0 : 0 ≤ slot) (s1 : slot < c.2.2) : Ev (fun k => span_Find.f k [⟨first, c.1, c.2.1, ⟨c.2.2, [val i]⟩, ⟨c.2.2, [val 0]⟩, true⟩] (at_ c.2.1 first slot)) (if (i : Int) = slot + 1 then (0, slot, 0) else (0, 0, 10)) := by
  obtain ⟨hs, hl, _, _, n1, n4, m1, m8, z0, z16, hz, hz0, hz1⟩ := cf_parts c hc
  obtain ⟨X, hX⟩ : ∃ X : S50, X = ⟨first, c.1, c.2.1, ⟨c.2.2, [val i]⟩, ⟨c.2.2, [val 0]⟩, true⟩ := ⟨_, rfl⟩
  have e0 : rd_T50 [X] 0 = X := rfl
  have w1 : wrap64 (0 + 1) = 1 := by decide +kernel
  have hp : slot * c.2.1 + c.2.1 ≤ 16 * c.1 ∨ slot * c.2.1 = 0 := by
    by_cases h : c.2.1 = 0
    · right; rw [h]; omega
    · left
      have : (slot + 1) * c.2.1 ≤ c.2.2 * c.2.1 := Int.mul_le_mul_of_nonneg_right (by omega) z0
      rw [Int.add_mul, Int.one_mul, Int.mul_comm c.2.2] at this
      have := hz1 h; omega
  have p0 : 0 ≤ slot * c.2.1 := Int.mul_nonneg s0 z0
  have zp : slot * c.2.1 < 16 * c.1 := by
    rcases hp with h | h
    · by_cases hh : c.2.1 = 0
      · rw [hh] at h ⊢; omega
      · omega
    · omega
  rw [← hX]
  have hC : Ev (fun k => span_Check.f k [X]) 0 := by
    unfold span_Check.f
    simp only [List.length_singleton, show ¬ (((1 : Nat) : Int) > 256) by decide, if_false]
    refine ev_succ (f := fun k => (span_right.f k first c.1 c.2.1 c.2.2 [val i] c.2.2 [val 0] true).bind fun t => if t = true then span_Check.l0 k [X] ((1 : Nat) : Int) 1 else none) (fun k => ?_) ?_
    · simp only [span_Check.l0, e0]
      simp only [hX, List.length_singleton, w1, show (0 : Int) < ((1 : Nat) : Int) by decide, Int.le_refl, if_true, gt_iff_lt, Int.lt_irrefl, if_false]
    · refine Ev.bind (right_ok hc hi h0 h1) ?_
      simp only [if_true]
      refine ev_succ (f := fun _ => some 0) (fun k => ?_) (ev_const rfl)
      simp only [span_Check.l0]
      simp
  have hF : span_Find_1.f X.f0 X.f1 X.f2 X.f3.f0 X.f3.f1 X.f4.f0 X.f4.f1 X.f5 (at_ c.2.1 first slot) = some (if slot * c.2.1 > 0 then -1 else 0) := by
    rw [hX]
    unfold span_Find_1.f span_Base.f cmp_Compare_uint64.f cmp_isNaN_uint64.f at_
    simp only [Option.bind_some, bne_self_eq_false, Bool.false_eq_true, if_false]
    rw [w64 (a := first * 16) (by omega) (by omega), wu64' (a := first * 16) (by omega) (by omega)]
    by_cases h : slot * c.2.1 > 0
    · rw [if_pos (by omega), if_pos h]; rfl
    · rw [if_neg (by omega), if_neg (by omega), if_neg h]; rfl
  have hA : Ev (fun k => api_Span_uint64.f k [X] (at_ c.2.1 first slot)) (if slot * c.2.1 > 0 then (1, false) else (0, true)) := by
    unfold api_Span_uint64.f
    have w0 : wrap64 ((IntKind.u64.wrap 1) / 2) = 0 := by decide +kernel
    refine ev_succ (f := fun k => if (if slot * c.2.1 > 0 then (-1 : Int) else 0) < 0 then api_Span_uint64.l0 k [X] (at_ c.2.1 first slot) 1 1 1 else api_Span_uint64.l0 k [X] (at_ c.2.1 first slot) 1 0 0) (fun k => ?_) ?_
    · simp only [List.length_singleton, show ((1 : Nat) : Int) = 1 from rfl]
      rw [api_Span_uint64.l0]
      simp only [w0, e0, List.length_singleton, show ((1 : Nat) : Int) = 1 from rfl, w1, show (0 : Int) < 1 by decide, Int.le_refl, if_true, hF, Option.bind_some]
    · by_cases h : slot * c.2.1 > 0
      · simp only [h, if_true, show (-1 : Int) < 0 by decide]
        refine ev_succ (f := fun _ => some (1, false)) (fun k => ?_) (ev_const rfl)
        rw [api_Span_uint64.l0]; simp
      · simp only [h, if_false, Int.lt_irrefl]
        refine ev_succ (f := fun _ => some (0, true)) (fun k => ?_) (ev_const rfl)
        rw [api_Span_uint64.l0]
        simp only [e0, hF, h, if_false, Option.bind_some, Int.lt_irrefl, List.length_singleton, show ((1 : Nat) : Int) = 1 from rfl, show (0 : Int) < 1 by decide, if_true, Int.le_refl]
        rfl
  have hJ : Ev (fun k => span_Find.j0 k [X] (at_ c.2.1 first slot) 0) (if (i : Int) = slot + 1 then (0, slot, 0) else (0, 0, 10)) := by
    obtain ⟨s, rfl⟩ : ∃ s : Nat, slot = (s : Int) := ⟨slot.toNat, by omega⟩
    have hB := is_fix c hc ⟨i, by omega⟩ ⟨s, by omega⟩ s1
    simp only at hB
    have last : Ev (fun k => span_Find.j1 k 0 0 (s : Int) first c.1 c.2.1 c.2.2 [val i] c.2.2 [val 0] true) (if (i : Int) = (s : Int) + 1 then (0, (s : Int), 0) else (0, 0, 10)) := by
      refine ev_succ (f := fun _ => some (if (i : Int) = (s : Int) + 1 then (0, (s : Int), 0) else (0, 0, 10))) (fun k => ?_) (ev_const rfl)
      simp only [span_Find.j1, if_true, hB, Option.bind_some]
      by_cases h : i = s + 1
      · simp [h]
      · rw [if_neg (by simpa using h), if_neg (by omega)]
    refine ev_succ (f := fun k => span_Find.j1 k 0 0 (s : Int) first c.1 c.2.1 c.2.2 [val i] c.2.2 [val 0] true) (fun k => ?_) last
    rw [span_Find.j0]
    simp only [e0, List.length_singleton, Int.lt_irrefl, if_false, Int.le_refl, if_true, show (0 : Int) < ((1 : Nat) : Int) by decide]
    rw [hX]
    unfold span_end.f span_Base.f
    simp only [Option.bind_some]
    have ea : at_ c.2.1 first (s : Int) = first * 16 + (s : Int) * c.2.1 := rfl
    rw [w64 (a := first + c.1) (by omega) (by omega), w64 (a := (first + c.1) * 16) (by omega) (by omega), wu64' (a := (first + c.1) * 16) (by omega) (by omega), w64 (a := first * 16) (by omega) (by omega), wu64' (a := first * 16) (by omega) (by omega), if_neg (by rw [ea]; omega)]
    have eo : wrap64 (IntKind.u64.wrap (at_ c.2.1 first (s : Int) - first * 16)) = (s : Int) * c.2.1 := by
      rw [ea, wu64' (by omega) (by omega), w64 (by omega) (by omega)]; omega
    rw [eo]
    by_cases h : c.2.1 > 0
    · rw [if_pos h, if_neg (by omega), Int.mul_tmod_left, Int.mul_tdiv_cancel _ (by omega), w64 (by omega) (by omega)]
    · have hz' : c.2.1 = 0 := by omega
      have := hz0 hz'
      have hs0 : (s : Int) = 0 := by omega
      rw [if_neg h, hs0, Int.zero_mul]
  unfold span_Find.f
  refine Ev.bind hC ?_
  simp only [if_true]
  refine Ev.bind hA ?_
  by_cases h : slot * c.2.1 > 0
  · simp only [h, if_true, Bool.false_eq_true, if_false]
    rw [show wrap64 (1 - 1) = 0 by decide +kernel]; exact hJ
  · simp only [h, if_false, if_true]; exact hJ
end
theorem TopSlotted : ∀ (n0 m0 : Int) (a1 : Int) (a2 : Int), (Lit.int .i64 n0).wf = true → (Lit.int .u64 m0).wf = true → (Lit.int .i64 a1).wf = true → (Lit.int .i64 a2).wf = true → ∃ k, besomtop_TopSlotted.f k n0 m0 a1 a2 = some true := by
  intro n m first slot hn hm hf hs
  obtain ⟨M, rfl, hM⟩ := nat_u64 hm
  have hs' := wf_i64 hs
  refine Ev.rounds (g := fun k => besomtop_TopSlotted.f k n (M : Int) first slot) ?_
  unfold besomtop_TopSlotted.f
  refine Ev.bind begins_ev ?_
  simp only [if_true, pack_eq n M hM, Option.bind_some]
  by_cases hF : HFit n M
  case neg =>
    have : (packS n M).2 = 2 := by unfold packS; rw [if_neg hF]
    rw [this]
    simp only [show ¬ ((2 : Int) = 0) by decide, if_false]; exact ev_const rfl
  obtain ⟨P, hP, hP64, hU⟩ := back n M hF
  rw [hP]
  simp only [if_true]
  obtain ⟨b0, b1, _⟩ := hF
  rw [w64 (a := n + 1) (by omega) (by omega)]
  obtain ⟨A, hA⟩ : ∃ A : Nat, n + 1 = (A : Int) := ⟨(n + 1).toNat, by omega⟩
  rw [hA]
  obtain ⟨k1, k2, k3, k4, hc, k5, k6⟩ := cls ⟨A, by omega⟩ (by simp only; omega)
  simp only at k1 k2 k3 k4 hc k5 k6
  refine Ev.bind (of_ev (A : Int)) ?_
  rw [k2]; simp only [Option.bind_some]
  refine Ev.bind (pages_ev (A : Int)) ?_
  rw [k4]
  simp only [k1, k3, true_and, if_true]
  obtain ⟨c, hcE⟩ : ∃ c, c = cf (A : Int) := ⟨_, rfl⟩
  rw [← hcE] at hc k5 k6 ⊢
  obtain ⟨_, _, _, _, n1, n4, m1, m8, z0, z16, hz, hz0, hz1⟩ := cf_parts c hc
  by_cases hfit : first < 0 ∨ first > 1024 - c.1
  · refine Ev.bind (make_bad hc hfit) ?_
    simp only [show ¬ ((2 : Int) = 0) by decide, if_false]
    rw [w64 (a := 1024 - c.1) (by omega) (by omega), if_pos hfit]
    exact ev_const rfl
  have f0 : 0 ≤ first := by omega
  have f1 : first ≤ 1024 - c.1 := by omega
  refine Ev.bind (make_ok hc f0 f1) ?_
  simp only [if_true]
  refine Ev.bind (addr_ok hc (i := 0) (slot := slot) (by omega) f0 f1) ?_
  by_cases hslot : slot < 0 ∨ slot ≥ c.2.2
  · rw [if_pos hslot]
    simp only [show ¬ ((1 : Int) = 0) by decide, if_false, if_true]; exact ev_const rfl
  rw [if_neg hslot]
  simp only [if_true]
  have s0 : 0 ≤ slot := by omega
  have s1 : slot < c.2.2 := by omega
  refine Ev.bind (find_ok hc (i := 0) (by omega) f0 f1 s0 s1) ?_
  rw [if_neg (by omega)]
  obtain ⟨s, rfl⟩ : ∃ s : Nat, slot = (s : Int) := ⟨slot.toNat, by omega⟩
  refine Ev.bind (Ev.of (bits_Put.mono _ _ _ _) (put_fix c hc ⟨s, by omega⟩ s1)) ?_
  simp only
  refine Ev.bind (find_ok hc (i := s + 1) (by omega) f0 f1 s0 s1) ?_
  rw [if_pos (by omega), w64 (a := (s : Int) + 1) (by omega) (by omega)]
  refine Ev.bind (addr_ok hc (i := s + 1) (slot := (s : Int) + 1) (by omega) f0 f1) ?_
  rw [unpack_eq P hP64, hU]
  simp only [Option.bind_some]
  have p0 : 0 ≤ (s : Int) * c.2.1 := Int.mul_nonneg s0 z0
  have p2 : (s : Int) * c.2.1 ≤ 8 * 16 := Int.mul_le_mul (by omega) z16 z0 (by omega)
  have ea : ∀ x, at_ c.2.1 first x = first * 16 + x * c.2.1 := fun _ => rfl
  have e1 : IntKind.u64.wrap (IntKind.u64.wrap (at_ c.2.1 first (s : Int) + IntKind.u64.wrap n) + 1) = first * 16 + (s : Int) * c.2.1 + n + 1 := by
    rw [ea, wu64' (a := n) (by omega) (by omega), wu64' (a := _ + n) (by omega) (by omega), wu64' (by omega) (by omega)]
  have e2 : IntKind.u64.wrap (wrap64 (wrap64 (first + c.1) * 16)) = (first + c.1) * 16 := by
    rw [w64 (a := first + c.1) (by omega) (by omega), w64 (by omega) (by omega), wu64' (by omega) (by omega)]
  rw [e1, e2]
  refine ev_const (if_pos ⟨trivial, trivial, trivial, ?_⟩)
  by_cases hn2 : (s : Int) + 1 < 0 ∨ (s : Int) + 1 ≥ c.2.2
  · rw [if_pos hn2]
    refine .inr ⟨by decide, ?_⟩
    by_cases h : c.2.1 = 0
    · have := k5 h
      rw [h]; omega
    · have e := hz1 h
      have k := k6 h
      have es : c.2.2 = (s : Int) + 1 := by omega
      rw [es, Int.mul_add, Int.mul_one, Int.mul_comm] at e
      omega
  · rw [if_neg hn2]
    refine .inl ⟨rfl, ?_⟩
    simp only [ea]
    by_cases h : c.2.1 = 0
    · have := hz0 h; omega
    · have k := k6 h
      rw [Int.add_mul, Int.one_mul]; omega

end Go.Proofs.Ytbdlehbaioaglaa.Pure
