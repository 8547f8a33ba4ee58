/- Made by gprint.py, this session's program over the kit's print program, out of the translation; the functions that it does not print are proved by hand (wip/given). Lean checks it. -/
import Derived.Test.YtdadleamaalhiabGCx0
import Derived.Test.YtdadleamaalhiabGCx1
import Derived.Test.YtdadleamaalhiabGCx2
namespace Go.Proofs.Ytdadleamaalhiab.GC
open Go.RowKit Go.Proofs.YtdadleamaalhiabW.PrintWords Go.Proofs.YtdadleamaalhiabW.PrintLast Go.Proofs.YtdadleamaalhiabW.PrintMore
attribute [local go_sem] max2_int min2_int max_two min_two max_three min_three max_four min_four   -- for this text's walks alone
set_option linter.unusedVariables false
set_option linter.unusedSimpArgs false

/-! ### besomlaw04_ClassFits: function 3 -/
def besomlaw04_ClassFits.f (k : Nat) (a0 : Int) : Option (Bool) := (besomlaw04_lives.f k).bind fun t132 => (if t132 = true then ((class_Of.f k a0).bind fun bt133 => (if bt133.2 = 0 then ((class_Pages.f k a0).bind fun bt135 => (if bt133.1 < 0 then (if bt135.2 = 0 then (if a0 ≤ (wrap64 (bt135.1 * 16)) then (if a0 > (wrap64 ((wrap64 (bt135.1 - 1)) * 16)) then (some (decide (bt135.1 > 1))) else (some false)) else (some false)) else (some false)) else ((class_Size.f bt133.1).bind fun bt137 => ((class_Slots.f bt133.1).bind fun bt139 => ((class_Size.f (wrap64 (bt133.1 - 1))).bind fun bt141 => (if bt135.2 = 0 then (if bt135.1 = 1 then (if bt137.2 = 0 then (if a0 ≤ bt137.1 then (if bt139.2 = 0 then (if (wrap64 (bt137.1 * bt139.1)) = 16 then (if bt141.2 = 0 then (some (decide (a0 > bt141.1))) else (some true)) else (some false)) else (some false)) else (some false)) else (some false)) else (some false)) else (some false))))))) else (if a0 < 1 then (some true) else (some (decide (a0 > 49)))))) else (some false))
theorem besomlaw04_ClassFits.mono : ∀ a0 k, LeO (besomlaw04_ClassFits.f k a0) (besomlaw04_ClassFits.f (k + 1) a0) := by
  intro a0 k
  unfold besomlaw04_ClassFits.f
  repeat' first
      | (with_reducible exact besomlaw04_lives.mono _)
      | (with_reducible exact class_Of.mono _ _)
      | (with_reducible exact class_Pages.mono _ _)
      | (with_reducible exact LeO.refl _)
      | (with_reducible exact LeO.none _)
      | (with_reducible refine LeO.ite ?_ ?_)
      | (with_reducible refine LeO.bind ?_ (fun _ => ?_))
      | exact besomlaw04_lives.mono _
      | exact class_Of.mono _ _
      | exact class_Pages.mono _ _
      | exact LeO.none _
      | refine LeO.ite ?_ ?_
      | refine LeO.bind ?_ (fun _ => ?_)
set_option maxHeartbeats 8000000 in
set_option maxRecDepth 100000 in
theorem besomlaw04_ClassFits.calls (k : Nat) (a0 : Int) (r : Bool) (w : World) (hlaw : r = true) (h : besomlaw04_ClassFits.f k a0 = some r) :
    Calls Try.prog 3 #[.int .i64 a0] w fun e w' => e = .returned (.bool r) ∧ Below w.heap.size w w' := by
  have HB := Aside0.mk (Below.refl w.heap.size w)
  have H : ((besomlaw04_lives.f k).bind fun t132 => (if t132 = true then ((class_Of.f k a0).bind fun bt133 => (if bt133.2 = 0 then ((class_Pages.f k a0).bind fun bt135 => (if bt133.1 < 0 then (if bt135.2 = 0 then (if a0 ≤ (wrap64 (bt135.1 * 16)) then (if a0 > (wrap64 ((wrap64 (bt135.1 - 1)) * 16)) then (some (decide (bt135.1 > 1))) else (some false)) else (some false)) else (some false)) else ((class_Size.f bt133.1).bind fun bt137 => ((class_Slots.f bt133.1).bind fun bt139 => ((class_Size.f (wrap64 (bt133.1 - 1))).bind fun bt141 => (if bt135.2 = 0 then (if bt135.1 = 1 then (if bt137.2 = 0 then (if a0 ≤ bt137.1 then (if bt139.2 = 0 then (if (wrap64 (bt137.1 * bt139.1)) = 16 then (if bt141.2 = 0 then (some (decide (a0 > bt141.1))) else (some true)) else (some false)) else (some false)) else (some false)) else (some false)) else (some false)) else (some false))))))) else (if a0 < 1 then (some true) else (some (decide (a0 > 49)))))) else (some false))) = some r := h
  clear h
  have HLAW := Aside0.mk hlaw
  clear hlaw
  replace H := Option.bind_eq_some_iff.mp H
  obtain ⟨t132, A20, H⟩ := H
  replace H : (if t132 = true then ((class_Of.f k a0).bind fun bt133 => (if bt133.2 = 0 then ((class_Pages.f k a0).bind fun bt135 => (if bt133.1 < 0 then (if bt135.2 = 0 then (if a0 ≤ (wrap64 (bt135.1 * 16)) then (if a0 > (wrap64 ((wrap64 (bt135.1 - 1)) * 16)) then (some (decide (bt135.1 > 1))) else (some false)) else (some false)) else (some false)) else ((class_Size.f bt133.1).bind fun bt137 => ((class_Slots.f bt133.1).bind fun bt139 => ((class_Size.f (wrap64 (bt133.1 - 1))).bind fun bt141 => (if bt135.2 = 0 then (if bt135.1 = 1 then (if bt137.2 = 0 then (if a0 ≤ bt137.1 then (if bt139.2 = 0 then (if (wrap64 (bt137.1 * bt139.1)) = 16 then (if bt141.2 = 0 then (some (decide (a0 > bt141.1))) else (some true)) else (some false)) else (some false)) else (some false)) else (some false)) else (some false)) else (some false))))))) else (if a0 < 1 then (some true) else (some (decide (a0 > 49)))))) else (some false)) = some r := H
  have A2 := Aside0.mk A20
  clear A20
  by_cases c3 : t132 = true
  · subst c3
    have H1 : ((class_Of.f k a0).bind fun bt133 => (if bt133.2 = 0 then ((class_Pages.f k a0).bind fun bt135 => (if bt133.1 < 0 then (if bt135.2 = 0 then (if a0 ≤ (wrap64 (bt135.1 * 16)) then (if a0 > (wrap64 ((wrap64 (bt135.1 - 1)) * 16)) then (some (decide (bt135.1 > 1))) else (some false)) else (some false)) else (some false)) else ((class_Size.f bt133.1).bind fun bt137 => ((class_Slots.f bt133.1).bind fun bt139 => ((class_Size.f (wrap64 (bt133.1 - 1))).bind fun bt141 => (if bt135.2 = 0 then (if bt135.1 = 1 then (if bt137.2 = 0 then (if a0 ≤ bt137.1 then (if bt139.2 = 0 then (if (wrap64 (bt137.1 * bt139.1)) = 16 then (if bt141.2 = 0 then (some (decide (a0 > bt141.1))) else (some true)) else (some false)) else (some false)) else (some false)) else (some false)) else (some false)) else (some false))))))) else (if a0 < 1 then (some true) else (some (decide (a0 > 49)))))) = some r := by rw [if_pos rfl] at H; exact H
    clear H
    have H := H1
    clear H1
    replace H := Option.bind_eq_some_iff.mp H
    obtain ⟨⟨t133, t134⟩, A40, H⟩ := H
    replace H : (if t134 = 0 then ((class_Pages.f k a0).bind fun bt135 => (if t133 < 0 then (if bt135.2 = 0 then (if a0 ≤ (wrap64 (bt135.1 * 16)) then (if a0 > (wrap64 ((wrap64 (bt135.1 - 1)) * 16)) then (some (decide (bt135.1 > 1))) else (some false)) else (some false)) else (some false)) else ((class_Size.f t133).bind fun bt137 => ((class_Slots.f t133).bind fun bt139 => ((class_Size.f (wrap64 (t133 - 1))).bind fun bt141 => (if bt135.2 = 0 then (if bt135.1 = 1 then (if bt137.2 = 0 then (if a0 ≤ bt137.1 then (if bt139.2 = 0 then (if (wrap64 (bt137.1 * bt139.1)) = 16 then (if bt141.2 = 0 then (some (decide (a0 > bt141.1))) else (some true)) else (some false)) else (some false)) else (some false)) else (some false)) else (some false)) else (some false))))))) else (if a0 < 1 then (some true) else (some (decide (a0 > 49))))) = some r := H
    have A4 := Aside0.mk A40
    clear A40
    by_cases c5 : t134 = 0
    · rw [if_pos c5] at H
      have c5b0 : (t134 == 0) = true := beq_iff_eq.mpr c5
      have c5b1 : (t134 != 0) = false := bne_eq_false_iff_eq.mpr c5
      clear c5
      replace H := Option.bind_eq_some_iff.mp H
      obtain ⟨⟨t135, t136⟩, A60, H⟩ := H
      replace H : (if t133 < 0 then (if t136 = 0 then (if a0 ≤ (wrap64 (t135 * 16)) then (if a0 > (wrap64 ((wrap64 (t135 - 1)) * 16)) then (some (decide (t135 > 1))) else (some false)) else (some false)) else (some false)) else ((class_Size.f t133).bind fun bt137 => ((class_Slots.f t133).bind fun bt139 => ((class_Size.f (wrap64 (t133 - 1))).bind fun bt141 => (if t136 = 0 then (if t135 = 1 then (if bt137.2 = 0 then (if a0 ≤ bt137.1 then (if bt139.2 = 0 then (if (wrap64 (bt137.1 * bt139.1)) = 16 then (if bt141.2 = 0 then (some (decide (a0 > bt141.1))) else (some true)) else (some false)) else (some false)) else (some false)) else (some false)) else (some false)) else (some false)))))) = some r := H
      have A6 := Aside0.mk A60
      clear A60
      by_cases c7 : t133 < 0
      · rw [if_pos c7] at H
        have c7b0 : decide (t133 < 0) = true := decide_eq_true c7
        clear c7
        by_cases c8 : t136 = 0
        · rw [if_pos c8] at H
          have c8b0 : (t136 == 0) = true := beq_iff_eq.mpr c8
          have c8b1 : (t136 != 0) = false := bne_eq_false_iff_eq.mpr c8
          clear c8
          by_cases c9 : a0 ≤ (wrap64 (t135 * 16))
          · rw [if_pos c9] at H
            have c9b0 : decide (a0 ≤ (wrap64 (t135 * 16))) = true := decide_eq_true c9
            clear c9
            by_cases c10 : a0 > (wrap64 ((wrap64 (t135 - 1)) * 16))
            · rw [if_pos c10] at H
              have c10b0 : decide ((wrap64 ((wrap64 (t135 - 1)) * 16)) < a0) = true := decide_eq_true c10
              clear c10
              obtain rfl := Option.some.inj H
              go_enter Try.func3, Try.ntmps3
              go_wp2_with (first | ((with_reducible refine gate_callee (f := 8) rfl ?_); refine goesL_ (some 13) rfl rfl Try.func8 (by kernel_rfl) rfl #[] rfl (by (try simp only [List.map_toArray, List.map_cons, List.map_nil]); first | done | rfl | (simp only [List.length_drop, List.length_take]; rfl)) ?_; (with_reducible refine (besomlaw04_lives.calls k  true _ A2.out).mono ?_); rintro e w11 ⟨rfl, hb⟩; refine ⟨_, rfl, ?_⟩; have n0_ := Aside0.mk (below_step (by repeat (first | (with_reducible first | exact HB.out | apply below_alloc | apply pw_below_drewN | apply below_drew1) | exact HB.out)) hb); clear HB; have HB := n0_; clear n0_; (try clear hb); (try clear hb2); (try clear hk); (try clear hi)) | ((with_reducible refine gate_callee (f := 9) rfl ?_); refine goesL_ (some 17) rfl rfl Try.func9 (by kernel_rfl) rfl #[.int .i64 a0] rfl (by (try simp only [List.map_toArray, List.map_cons, List.map_nil]); first | done | rfl | (simp only [List.length_drop, List.length_take]; rfl)) ?_; (with_reducible refine (class_Of.calls k a0 t133 t134 _ A4.out).mono ?_); rintro e w12 ⟨rfl, hb⟩; refine ⟨_, rfl, ?_⟩; have n0_ := Aside0.mk (below_step (by repeat (first | (with_reducible first | exact HB.out | apply below_alloc | apply pw_below_drewN | apply below_drew1) | exact HB.out)) hb); clear HB; have HB := n0_; clear n0_; (try clear hb); (try clear hb2); (try clear hk); (try clear hi)) | ((with_reducible refine gate_callee (f := 10) rfl ?_); refine goesL_ (some 30) rfl rfl Try.func10 (by kernel_rfl) rfl #[.int .i64 a0] rfl (by (try simp only [List.map_toArray, List.map_cons, List.map_nil]); first | done | rfl | (simp only [List.length_drop, List.length_take]; rfl)) ?_; (with_reducible refine (class_Pages.calls k a0 t135 t136 _ A6.out).mono ?_); rintro e w13 ⟨rfl, hb⟩; refine ⟨_, rfl, ?_⟩; have n0_ := Aside0.mk (below_step (by repeat (first | (with_reducible first | exact HB.out | apply below_alloc | apply pw_below_drewN | apply below_drew1) | exact HB.out)) hb); clear HB; have HB := n0_; clear n0_; (try clear hb); (try clear hb2); (try clear hk); (try clear hi)))
              go_ret
              exact ⟨by first | rfl | (simp [errW_none, errW_some] <;> rfl) | (simp [*, errW_none, errW_some] <;> rfl), by repeat (first | (with_reducible first | exact HB.out | apply below_alloc | apply pw_below_drewN | apply below_drew1) | exact HB.out)⟩
            · rw [if_neg c10] at H
              have c10b0 : decide ((wrap64 ((wrap64 (t135 - 1)) * 16)) < a0) = false := decide_eq_false c10
              clear c10
              exact absurd ((Option.some.inj H).trans HLAW.out) (by decide)
          · rw [if_neg c9] at H
            have c9b0 : decide (a0 ≤ (wrap64 (t135 * 16))) = false := decide_eq_false c9
            clear c9
            exact absurd ((Option.some.inj H).trans HLAW.out) (by decide)
        · rw [if_neg c8] at H
          have c8b0 : (t136 == 0) = false := beq_eq_false_iff_ne.mpr c8
          have c8b1 : (t136 != 0) = true := bne_iff_ne.mpr c8
          exact absurd ((Option.some.inj H).trans HLAW.out) (by decide)
      · rw [if_neg c7] at H
        have c7b0 : decide (t133 < 0) = false := decide_eq_false c7
        clear c7
        replace H := Option.bind_eq_some_iff.mp H
        obtain ⟨⟨t137, t138⟩, A140, H⟩ := H
        replace H : ((class_Slots.f t133).bind fun bt139 => ((class_Size.f (wrap64 (t133 - 1))).bind fun bt141 => (if t136 = 0 then (if t135 = 1 then (if t138 = 0 then (if a0 ≤ t137 then (if bt139.2 = 0 then (if (wrap64 (t137 * bt139.1)) = 16 then (if bt141.2 = 0 then (some (decide (a0 > bt141.1))) else (some true)) else (some false)) else (some false)) else (some false)) else (some false)) else (some false)) else (some false)))) = some r := H
        have A14 := Aside0.mk A140
        clear A140
        replace H := Option.bind_eq_some_iff.mp H
        obtain ⟨⟨t139, t140⟩, A150, H⟩ := H
        replace H : ((class_Size.f (wrap64 (t133 - 1))).bind fun bt141 => (if t136 = 0 then (if t135 = 1 then (if t138 = 0 then (if a0 ≤ t137 then (if t140 = 0 then (if (wrap64 (t137 * t139)) = 16 then (if bt141.2 = 0 then (some (decide (a0 > bt141.1))) else (some true)) else (some false)) else (some false)) else (some false)) else (some false)) else (some false)) else (some false))) = some r := H
        have A15 := Aside0.mk A150
        clear A150
        replace H := Option.bind_eq_some_iff.mp H
        obtain ⟨⟨t141, t142⟩, A160, H⟩ := H
        replace H : (if t136 = 0 then (if t135 = 1 then (if t138 = 0 then (if a0 ≤ t137 then (if t140 = 0 then (if (wrap64 (t137 * t139)) = 16 then (if t142 = 0 then (some (decide (a0 > t141))) else (some true)) else (some false)) else (some false)) else (some false)) else (some false)) else (some false)) else (some false)) = some r := H
        have A16 := Aside0.mk A160
        clear A160
        by_cases c17 : t136 = 0
        · rw [if_pos c17] at H
          have c17b0 : (t136 == 0) = true := beq_iff_eq.mpr c17
          have c17b1 : (t136 != 0) = false := bne_eq_false_iff_eq.mpr c17
          clear c17
          by_cases c18 : t135 = 1
          · rw [if_pos c18] at H
            have c18b0 : (t135 == 1) = true := beq_iff_eq.mpr c18
            have c18b1 : (t135 != 1) = false := bne_eq_false_iff_eq.mpr c18
            clear c18
            by_cases c19 : t138 = 0
            · rw [if_pos c19] at H
              have c19b0 : (t138 == 0) = true := beq_iff_eq.mpr c19
              have c19b1 : (t138 != 0) = false := bne_eq_false_iff_eq.mpr c19
              clear c19
              by_cases c20 : a0 ≤ t137
              · rw [if_pos c20] at H
                have c20b0 : decide (a0 ≤ t137) = true := decide_eq_true c20
                clear c20
                by_cases c21 : t140 = 0
                · rw [if_pos c21] at H
                  have c21b0 : (t140 == 0) = true := beq_iff_eq.mpr c21
                  have c21b1 : (t140 != 0) = false := bne_eq_false_iff_eq.mpr c21
                  clear c21
                  by_cases c22 : (wrap64 (t137 * t139)) = 16
                  · rw [if_pos c22] at H
                    have c22b0 : ((wrap64 (t137 * t139)) == 16) = true := beq_iff_eq.mpr c22
                    have c22b1 : ((wrap64 (t137 * t139)) != 16) = false := bne_eq_false_iff_eq.mpr c22
                    clear c22
                    by_cases c23 : t142 = 0
                    · rw [if_pos c23] at H
                      have c23b0 : (t142 == 0) = true := beq_iff_eq.mpr c23
                      have c23b1 : (t142 != 0) = false := bne_eq_false_iff_eq.mpr c23
                      clear c23
                      obtain rfl := Option.some.inj H
                      go_enter Try.func3, Try.ntmps3
                      go_wp2_with (first | ((with_reducible refine gate_callee (f := 8) rfl ?_); refine goesL_ (some 13) rfl rfl Try.func8 (by kernel_rfl) rfl #[] rfl (by (try simp only [List.map_toArray, List.map_cons, List.map_nil]); first | done | rfl | (simp only [List.length_drop, List.length_take]; rfl)) ?_; (with_reducible refine (besomlaw04_lives.calls k  true _ A2.out).mono ?_); rintro e w24 ⟨rfl, hb⟩; refine ⟨_, rfl, ?_⟩; have n0_ := Aside0.mk (below_step (by repeat (first | (with_reducible first | exact HB.out | apply below_alloc | apply pw_below_drewN | apply below_drew1) | exact HB.out)) hb); clear HB; have HB := n0_; clear n0_; (try clear hb); (try clear hb2); (try clear hk); (try clear hi)) | ((with_reducible refine gate_callee (f := 9) rfl ?_); refine goesL_ (some 17) rfl rfl Try.func9 (by kernel_rfl) rfl #[.int .i64 a0] rfl (by (try simp only [List.map_toArray, List.map_cons, List.map_nil]); first | done | rfl | (simp only [List.length_drop, List.length_take]; rfl)) ?_; (with_reducible refine (class_Of.calls k a0 t133 t134 _ A4.out).mono ?_); rintro e w25 ⟨rfl, hb⟩; refine ⟨_, rfl, ?_⟩; have n0_ := Aside0.mk (below_step (by repeat (first | (with_reducible first | exact HB.out | apply below_alloc | apply pw_below_drewN | apply below_drew1) | exact HB.out)) hb); clear HB; have HB := n0_; clear n0_; (try clear hb); (try clear hb2); (try clear hk); (try clear hi)) | ((with_reducible refine gate_callee (f := 10) rfl ?_); refine goesL_ (some 30) rfl rfl Try.func10 (by kernel_rfl) rfl #[.int .i64 a0] rfl (by (try simp only [List.map_toArray, List.map_cons, List.map_nil]); first | done | rfl | (simp only [List.length_drop, List.length_take]; rfl)) ?_; (with_reducible refine (class_Pages.calls k a0 t135 t136 _ A6.out).mono ?_); rintro e w26 ⟨rfl, hb⟩; refine ⟨_, rfl, ?_⟩; have n0_ := Aside0.mk (below_step (by repeat (first | (with_reducible first | exact HB.out | apply below_alloc | apply pw_below_drewN | apply below_drew1) | exact HB.out)) hb); clear HB; have HB := n0_; clear n0_; (try clear hb); (try clear hb2); (try clear hk); (try clear hi)) | ((with_reducible refine gate_callee (f := 11) rfl ?_); refine goesL_ (some 56) rfl rfl Try.func11 (by kernel_rfl) rfl #[.int .i64 t133] rfl (by (try simp only [List.map_toArray, List.map_cons, List.map_nil]); first | done | rfl | (simp only [List.length_drop, List.length_take]; rfl)) ?_; (with_reducible refine (class_Size.calls t133 t137 t138 _ A14.out).mono ?_); rintro e w27 ⟨rfl, hb⟩; refine ⟨_, rfl, ?_⟩; have n0_ := Aside0.mk (below_step (by repeat (first | (with_reducible first | exact HB.out | apply below_alloc | apply pw_below_drewN | apply below_drew1) | exact HB.out)) hb); clear HB; have HB := n0_; clear n0_; (try clear hb); (try clear hb2); (try clear hk); (try clear hi)) | ((with_reducible refine gate_callee (f := 12) rfl ?_); refine goesL_ (some 61) rfl rfl Try.func12 (by kernel_rfl) rfl #[.int .i64 t133] rfl (by (try simp only [List.map_toArray, List.map_cons, List.map_nil]); first | done | rfl | (simp only [List.length_drop, List.length_take]; rfl)) ?_; (with_reducible refine (class_Slots.calls t133 t139 t140 _ A15.out).mono ?_); rintro e w28 ⟨rfl, hb⟩; refine ⟨_, rfl, ?_⟩; have n0_ := Aside0.mk (below_step (by repeat (first | (with_reducible first | exact HB.out | apply below_alloc | apply pw_below_drewN | apply below_drew1) | exact HB.out)) hb); clear HB; have HB := n0_; clear n0_; (try clear hb); (try clear hb2); (try clear hk); (try clear hi)) | ((with_reducible refine gate_callee (f := 11) rfl ?_); refine goesL_ (some 67) rfl rfl Try.func11 (by kernel_rfl) rfl #[.int .i64 (wrap64 (t133 - 1))] rfl (by (try simp only [List.map_toArray, List.map_cons, List.map_nil]); first | done | rfl | (simp only [List.length_drop, List.length_take]; rfl)) ?_; (with_reducible refine (class_Size.calls (wrap64 (t133 - 1)) t141 t142 _ A16.out).mono ?_); rintro e w29 ⟨rfl, hb⟩; refine ⟨_, rfl, ?_⟩; have n0_ := Aside0.mk (below_step (by repeat (first | (with_reducible first | exact HB.out | apply below_alloc | apply pw_below_drewN | apply below_drew1) | exact HB.out)) hb); clear HB; have HB := n0_; clear n0_; (try clear hb); (try clear hb2); (try clear hk); (try clear hi)))
                      go_ret
                      exact ⟨by first | rfl | (simp [errW_none, errW_some] <;> rfl) | (simp [*, errW_none, errW_some] <;> rfl), by repeat (first | (with_reducible first | exact HB.out | apply below_alloc | apply pw_below_drewN | apply below_drew1) | exact HB.out)⟩
                    · rw [if_neg c23] at H
                      have c23b0 : (t142 == 0) = false := beq_eq_false_iff_ne.mpr c23
                      have c23b1 : (t142 != 0) = true := bne_iff_ne.mpr c23
                      obtain rfl := Option.some.inj H
                      go_enter Try.func3, Try.ntmps3
                      go_wp2_with (first | ((with_reducible refine gate_callee (f := 8) rfl ?_); refine goesL_ (some 13) rfl rfl Try.func8 (by kernel_rfl) rfl #[] rfl (by (try simp only [List.map_toArray, List.map_cons, List.map_nil]); first | done | rfl | (simp only [List.length_drop, List.length_take]; rfl)) ?_; (with_reducible refine (besomlaw04_lives.calls k  true _ A2.out).mono ?_); rintro e w30 ⟨rfl, hb⟩; refine ⟨_, rfl, ?_⟩; have n0_ := Aside0.mk (below_step (by repeat (first | (with_reducible first | exact HB.out | apply below_alloc | apply pw_below_drewN | apply below_drew1) | exact HB.out)) hb); clear HB; have HB := n0_; clear n0_; (try clear hb); (try clear hb2); (try clear hk); (try clear hi)) | ((with_reducible refine gate_callee (f := 9) rfl ?_); refine goesL_ (some 17) rfl rfl Try.func9 (by kernel_rfl) rfl #[.int .i64 a0] rfl (by (try simp only [List.map_toArray, List.map_cons, List.map_nil]); first | done | rfl | (simp only [List.length_drop, List.length_take]; rfl)) ?_; (with_reducible refine (class_Of.calls k a0 t133 t134 _ A4.out).mono ?_); rintro e w31 ⟨rfl, hb⟩; refine ⟨_, rfl, ?_⟩; have n0_ := Aside0.mk (below_step (by repeat (first | (with_reducible first | exact HB.out | apply below_alloc | apply pw_below_drewN | apply below_drew1) | exact HB.out)) hb); clear HB; have HB := n0_; clear n0_; (try clear hb); (try clear hb2); (try clear hk); (try clear hi)) | ((with_reducible refine gate_callee (f := 10) rfl ?_); refine goesL_ (some 30) rfl rfl Try.func10 (by kernel_rfl) rfl #[.int .i64 a0] rfl (by (try simp only [List.map_toArray, List.map_cons, List.map_nil]); first | done | rfl | (simp only [List.length_drop, List.length_take]; rfl)) ?_; (with_reducible refine (class_Pages.calls k a0 t135 t136 _ A6.out).mono ?_); rintro e w32 ⟨rfl, hb⟩; refine ⟨_, rfl, ?_⟩; have n0_ := Aside0.mk (below_step (by repeat (first | (with_reducible first | exact HB.out | apply below_alloc | apply pw_below_drewN | apply below_drew1) | exact HB.out)) hb); clear HB; have HB := n0_; clear n0_; (try clear hb); (try clear hb2); (try clear hk); (try clear hi)) | ((with_reducible refine gate_callee (f := 11) rfl ?_); refine goesL_ (some 56) rfl rfl Try.func11 (by kernel_rfl) rfl #[.int .i64 t133] rfl (by (try simp only [List.map_toArray, List.map_cons, List.map_nil]); first | done | rfl | (simp only [List.length_drop, List.length_take]; rfl)) ?_; (with_reducible refine (class_Size.calls t133 t137 t138 _ A14.out).mono ?_); rintro e w33 ⟨rfl, hb⟩; refine ⟨_, rfl, ?_⟩; have n0_ := Aside0.mk (below_step (by repeat (first | (with_reducible first | exact HB.out | apply below_alloc | apply pw_below_drewN | apply below_drew1) | exact HB.out)) hb); clear HB; have HB := n0_; clear n0_; (try clear hb); (try clear hb2); (try clear hk); (try clear hi)) | ((with_reducible refine gate_callee (f := 12) rfl ?_); refine goesL_ (some 61) rfl rfl Try.func12 (by kernel_rfl) rfl #[.int .i64 t133] rfl (by (try simp only [List.map_toArray, List.map_cons, List.map_nil]); first | done | rfl | (simp only [List.length_drop, List.length_take]; rfl)) ?_; (with_reducible refine (class_Slots.calls t133 t139 t140 _ A15.out).mono ?_); rintro e w34 ⟨rfl, hb⟩; refine ⟨_, rfl, ?_⟩; have n0_ := Aside0.mk (below_step (by repeat (first | (with_reducible first | exact HB.out | apply below_alloc | apply pw_below_drewN | apply below_drew1) | exact HB.out)) hb); clear HB; have HB := n0_; clear n0_; (try clear hb); (try clear hb2); (try clear hk); (try clear hi)) | ((with_reducible refine gate_callee (f := 11) rfl ?_); refine goesL_ (some 67) rfl rfl Try.func11 (by kernel_rfl) rfl #[.int .i64 (wrap64 (t133 - 1))] rfl (by (try simp only [List.map_toArray, List.map_cons, List.map_nil]); first | done | rfl | (simp only [List.length_drop, List.length_take]; rfl)) ?_; (with_reducible refine (class_Size.calls (wrap64 (t133 - 1)) t141 t142 _ A16.out).mono ?_); rintro e w35 ⟨rfl, hb⟩; refine ⟨_, rfl, ?_⟩; have n0_ := Aside0.mk (below_step (by repeat (first | (with_reducible first | exact HB.out | apply below_alloc | apply pw_below_drewN | apply below_drew1) | exact HB.out)) hb); clear HB; have HB := n0_; clear n0_; (try clear hb); (try clear hb2); (try clear hk); (try clear hi)))
                      go_ret
                      exact ⟨by first | rfl | (simp [errW_none, errW_some] <;> rfl) | (simp [*, errW_none, errW_some] <;> rfl), by repeat (first | (with_reducible first | exact HB.out | apply below_alloc | apply pw_below_drewN | apply below_drew1) | exact HB.out)⟩
                  · rw [if_neg c22] at H
                    have c22b0 : ((wrap64 (t137 * t139)) == 16) = false := beq_eq_false_iff_ne.mpr c22
                    have c22b1 : ((wrap64 (t137 * t139)) != 16) = true := bne_iff_ne.mpr c22
                    exact absurd ((Option.some.inj H).trans HLAW.out) (by decide)
                · rw [if_neg c21] at H
                  have c21b0 : (t140 == 0) = false := beq_eq_false_iff_ne.mpr c21
                  have c21b1 : (t140 != 0) = true := bne_iff_ne.mpr c21
                  exact absurd ((Option.some.inj H).trans HLAW.out) (by decide)
              · rw [if_neg c20] at H
                have c20b0 : decide (a0 ≤ t137) = false := decide_eq_false c20
                clear c20
                exact absurd ((Option.some.inj H).trans HLAW.out) (by decide)
            · rw [if_neg c19] at H
              have c19b0 : (t138 == 0) = false := beq_eq_false_iff_ne.mpr c19
              have c19b1 : (t138 != 0) = true := bne_iff_ne.mpr c19
              exact absurd ((Option.some.inj H).trans HLAW.out) (by decide)
          · rw [if_neg c18] at H
            have c18b0 : (t135 == 1) = false := beq_eq_false_iff_ne.mpr c18
            have c18b1 : (t135 != 1) = true := bne_iff_ne.mpr c18
            exact absurd ((Option.some.inj H).trans HLAW.out) (by decide)
        · rw [if_neg c17] at H
          have c17b0 : (t136 == 0) = false := beq_eq_false_iff_ne.mpr c17
          have c17b1 : (t136 != 0) = true := bne_iff_ne.mpr c17
          exact absurd ((Option.some.inj H).trans HLAW.out) (by decide)
    · rw [if_neg c5] at H
      have c5b0 : (t134 == 0) = false := beq_eq_false_iff_ne.mpr c5
      have c5b1 : (t134 != 0) = true := bne_iff_ne.mpr c5
      by_cases c36 : a0 < 1
      · rw [if_pos c36] at H
        have c36b0 : decide (a0 < 1) = true := decide_eq_true c36
        clear c36
        obtain rfl := Option.some.inj H
        go_enter Try.func3, Try.ntmps3
        go_wp2_with (first | ((with_reducible refine gate_callee (f := 8) rfl ?_); refine goesL_ (some 13) rfl rfl Try.func8 (by kernel_rfl) rfl #[] rfl (by (try simp only [List.map_toArray, List.map_cons, List.map_nil]); first | done | rfl | (simp only [List.length_drop, List.length_take]; rfl)) ?_; (with_reducible refine (besomlaw04_lives.calls k  true _ A2.out).mono ?_); rintro e w37 ⟨rfl, hb⟩; refine ⟨_, rfl, ?_⟩; have n0_ := Aside0.mk (below_step (by repeat (first | (with_reducible first | exact HB.out | apply below_alloc | apply pw_below_drewN | apply below_drew1) | exact HB.out)) hb); clear HB; have HB := n0_; clear n0_; (try clear hb); (try clear hb2); (try clear hk); (try clear hi)) | ((with_reducible refine gate_callee (f := 9) rfl ?_); refine goesL_ (some 17) rfl rfl Try.func9 (by kernel_rfl) rfl #[.int .i64 a0] rfl (by (try simp only [List.map_toArray, List.map_cons, List.map_nil]); first | done | rfl | (simp only [List.length_drop, List.length_take]; rfl)) ?_; (with_reducible refine (class_Of.calls k a0 t133 t134 _ A4.out).mono ?_); rintro e w38 ⟨rfl, hb⟩; refine ⟨_, rfl, ?_⟩; have n0_ := Aside0.mk (below_step (by repeat (first | (with_reducible first | exact HB.out | apply below_alloc | apply pw_below_drewN | apply below_drew1) | exact HB.out)) hb); clear HB; have HB := n0_; clear n0_; (try clear hb); (try clear hb2); (try clear hk); (try clear hi)))
        go_ret
        exact ⟨by first | rfl | (simp [errW_none, errW_some] <;> rfl) | (simp [*, errW_none, errW_some] <;> rfl), by repeat (first | (with_reducible first | exact HB.out | apply below_alloc | apply pw_below_drewN | apply below_drew1) | exact HB.out)⟩
      · rw [if_neg c36] at H
        have c36b0 : decide (a0 < 1) = false := decide_eq_false c36
        clear c36
        obtain rfl := Option.some.inj H
        go_enter Try.func3, Try.ntmps3
        go_wp2_with (first | ((with_reducible refine gate_callee (f := 8) rfl ?_); refine goesL_ (some 13) rfl rfl Try.func8 (by kernel_rfl) rfl #[] rfl (by (try simp only [List.map_toArray, List.map_cons, List.map_nil]); first | done | rfl | (simp only [List.length_drop, List.length_take]; rfl)) ?_; (with_reducible refine (besomlaw04_lives.calls k  true _ A2.out).mono ?_); rintro e w39 ⟨rfl, hb⟩; refine ⟨_, rfl, ?_⟩; have n0_ := Aside0.mk (below_step (by repeat (first | (with_reducible first | exact HB.out | apply below_alloc | apply pw_below_drewN | apply below_drew1) | exact HB.out)) hb); clear HB; have HB := n0_; clear n0_; (try clear hb); (try clear hb2); (try clear hk); (try clear hi)) | ((with_reducible refine gate_callee (f := 9) rfl ?_); refine goesL_ (some 17) rfl rfl Try.func9 (by kernel_rfl) rfl #[.int .i64 a0] rfl (by (try simp only [List.map_toArray, List.map_cons, List.map_nil]); first | done | rfl | (simp only [List.length_drop, List.length_take]; rfl)) ?_; (with_reducible refine (class_Of.calls k a0 t133 t134 _ A4.out).mono ?_); rintro e w40 ⟨rfl, hb⟩; refine ⟨_, rfl, ?_⟩; have n0_ := Aside0.mk (below_step (by repeat (first | (with_reducible first | exact HB.out | apply below_alloc | apply pw_below_drewN | apply below_drew1) | exact HB.out)) hb); clear HB; have HB := n0_; clear n0_; (try clear hb); (try clear hb2); (try clear hk); (try clear hi)))
        go_ret
        exact ⟨by first | rfl | (simp [errW_none, errW_some] <;> rfl) | (simp [*, errW_none, errW_some] <;> rfl), by repeat (first | (with_reducible first | exact HB.out | apply below_alloc | apply pw_below_drewN | apply below_drew1) | exact HB.out)⟩
  · replace c3 := Bool.eq_false_iff.mpr c3
    subst c3
    have H1 : (some false) = some r := by rw [if_neg (show ¬ (false = true) by decide)] at H; exact H
    clear H
    have H := H1
    clear H1
    exact absurd ((Option.some.inj H).trans HLAW.out) (by decide)

end Go.Proofs.Ytdadleamaalhiab.GC
