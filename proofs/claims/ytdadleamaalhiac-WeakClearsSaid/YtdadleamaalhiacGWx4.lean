/- Made by gprint.py, this session's program over the kit's print program, out of the translation; the functions that it does not print are proved by hand (wip/given). Lean checks it. -/
import Derived.Test.YtdadleamaalhiacGWx0
import Derived.Test.YtdadleamaalhiacGWx1
import Derived.Test.YtdadleamaalhiacGWx2
import Derived.Test.YtdadleamaalhiacGWx3
namespace Go.Proofs.Ytdadleamaalhiac.GW
open Go.RowKit Go.Proofs.YtdadleamaalhiacW.PrintWords Go.Proofs.YtdadleamaalhiacW.PrintLast Go.Proofs.YtdadleamaalhiacW.PrintMore
attribute [local go_sem] max2_int min2_int max_two min_two max_three min_three max_four min_four   -- for this text's walks alone
set_option linter.unusedVariables false
set_option linter.unusedSimpArgs false

/-! ### besomlaw09_lives: function 7 -/
def besomlaw09_lives.f (k : Nat)  : Option (Bool) := (weak_Make.f k ([] : List Int) 16).bind fun bt131 => ((weak_Make.f k bt131.1 32).bind fun bt136 => ((weak_Make.f k bt136.1 16).bind fun bt141 => ((weak_Clear.f k bt141.1 (([16] : List Int))).bind fun bt149 => ((weak_Make.f k bt149.1 16).bind fun bt156 => ((weak_Get.f k bt156.1 1).bind fun bt161 => ((weak_Handle.f k bt156.1 32).bind fun bt163 => ((weak_Make.f k bt156.1 0).bind fun bt165 => ((weak_Get.f k bt156.1 4).bind fun bt170 => (if bt131.2.1 = 1 then (if bt131.2.2 = 0 then (if bt136.2.1 = 2 then (if bt136.2.2 = 0 then (if bt141.2.1 = 1 then (if bt141.2.2 = 0 then (if (bt149.2.1.length : Int) = 1 then (if 0 < (bt149.2.1.length : Int) then (if (rd bt149.2.1 0) = 1 then (if bt149.2.2 = 0 then (if bt156.2.1 = 3 then (if bt156.2.2 = 0 then (if bt161.1 = 0 then (if bt161.2 = 0 then (if bt163.1 = 2 then (if bt163.2 = 0 then (if bt165.2.2 = 7 then (if bt170.2 = 3 then ((weak_Check.f k bt156.1).bind fun t173 => (some (t173 == 0))) else (some false)) else (some false)) else (some false)) else (some false)) else (some false)) else (some false)) else (some false)) else (some false)) else (some false)) else (some false)) else (none)) else (some false)) else (some false)) else (some false)) else (some false)) else (some false)) else (some false)) else (some false))))))))))
theorem besomlaw09_lives.mono : ∀ k, LeO (besomlaw09_lives.f k ) (besomlaw09_lives.f (k + 1) ) := by
  intro  k
  unfold besomlaw09_lives.f
  repeat' first
      | (with_reducible exact weak_Check.mono _ _)
      | (with_reducible exact weak_Clear.mono _ _ _)
      | (with_reducible exact weak_Get.mono _ _ _)
      | (with_reducible exact weak_Handle.mono _ _ _)
      | (with_reducible exact weak_Make.mono _ _ _)
      | (with_reducible exact LeO.refl _)
      | (with_reducible exact LeO.none _)
      | (with_reducible refine LeO.ite ?_ ?_)
      | (with_reducible refine LeO.bind ?_ (fun _ => ?_))
      | exact weak_Check.mono _ _
      | exact weak_Clear.mono _ _ _
      | exact weak_Get.mono _ _ _
      | exact weak_Handle.mono _ _ _
      | exact weak_Make.mono _ _ _
      | exact LeO.none _
      | refine LeO.ite ?_ ?_
      | refine LeO.bind ?_ (fun _ => ?_)
theorem besomlaw09_lives.run_ : besomlaw09_lives.f 60 = some true := by decide +kernel
theorem besomlaw09_lives.true_ (k : Nat) (r : Bool) (h : besomlaw09_lives.f k = some r) : r = true := by
  have h1 := at_rounds (g := fun k => besomlaw09_lives.f k) besomlaw09_lives.mono (k := k) (k' := k + 60) (by omega) h
  have h2 := at_rounds (g := fun k => besomlaw09_lives.f k) besomlaw09_lives.mono (k := 60) (k' := k + 60) (by omega) besomlaw09_lives.run_
  replace h1 : besomlaw09_lives.f (k + 60) = some r := h1
  replace h2 : besomlaw09_lives.f (k + 60) = some true := h2
  rw [h1] at h2; exact Option.some.inj h2
set_option maxHeartbeats 8000000 in
set_option maxRecDepth 100000 in
theorem besomlaw09_lives.calls (k : Nat)  (r : Bool) (w : World) (h : besomlaw09_lives.f k  = some r) :
    Calls Try.prog 7 #[] w fun e w' => e = .returned (.bool r) ∧ Below w.heap.size w w' := by
  have HB := Aside0.mk (Below.refl w.heap.size w)
  have H : ((weak_Make.f k ([] : List Int) 16).bind fun bt131 => ((weak_Make.f k bt131.1 32).bind fun bt136 => ((weak_Make.f k bt136.1 16).bind fun bt141 => ((weak_Clear.f k bt141.1 (([16] : List Int))).bind fun bt149 => ((weak_Make.f k bt149.1 16).bind fun bt156 => ((weak_Get.f k bt156.1 1).bind fun bt161 => ((weak_Handle.f k bt156.1 32).bind fun bt163 => ((weak_Make.f k bt156.1 0).bind fun bt165 => ((weak_Get.f k bt156.1 4).bind fun bt170 => (if bt131.2.1 = 1 then (if bt131.2.2 = 0 then (if bt136.2.1 = 2 then (if bt136.2.2 = 0 then (if bt141.2.1 = 1 then (if bt141.2.2 = 0 then (if (bt149.2.1.length : Int) = 1 then (if 0 < (bt149.2.1.length : Int) then (if (rd bt149.2.1 0) = 1 then (if bt149.2.2 = 0 then (if bt156.2.1 = 3 then (if bt156.2.2 = 0 then (if bt161.1 = 0 then (if bt161.2 = 0 then (if bt163.1 = 2 then (if bt163.2 = 0 then (if bt165.2.2 = 7 then (if bt170.2 = 3 then ((weak_Check.f k bt156.1).bind fun t173 => (some (t173 == 0))) else (some false)) else (some false)) else (some false)) else (some false)) else (some false)) else (some false)) else (some false)) else (some false)) else (some false)) else (some false)) else (none)) else (some false)) else (some false)) else (some false)) else (some false)) else (some false)) else (some false)) else (some false))))))))))) = some r := h
  clear h
  have HLAW := Aside0.mk (besomlaw09_lives.true_ k r H)
  replace H := Option.bind_eq_some_iff.mp H
  obtain ⟨⟨t131, t132, t133⟩, A10, H⟩ := H
  replace H : ((weak_Make.f k t131 32).bind fun bt136 => ((weak_Make.f k bt136.1 16).bind fun bt141 => ((weak_Clear.f k bt141.1 (([16] : List Int))).bind fun bt149 => ((weak_Make.f k bt149.1 16).bind fun bt156 => ((weak_Get.f k bt156.1 1).bind fun bt161 => ((weak_Handle.f k bt156.1 32).bind fun bt163 => ((weak_Make.f k bt156.1 0).bind fun bt165 => ((weak_Get.f k bt156.1 4).bind fun bt170 => (if t132 = 1 then (if t133 = 0 then (if bt136.2.1 = 2 then (if bt136.2.2 = 0 then (if bt141.2.1 = 1 then (if bt141.2.2 = 0 then (if (bt149.2.1.length : Int) = 1 then (if 0 < (bt149.2.1.length : Int) then (if (rd bt149.2.1 0) = 1 then (if bt149.2.2 = 0 then (if bt156.2.1 = 3 then (if bt156.2.2 = 0 then (if bt161.1 = 0 then (if bt161.2 = 0 then (if bt163.1 = 2 then (if bt163.2 = 0 then (if bt165.2.2 = 7 then (if bt170.2 = 3 then ((weak_Check.f k bt156.1).bind fun t173 => (some (t173 == 0))) else (some false)) else (some false)) else (some false)) else (some false)) else (some false)) else (some false)) else (some false)) else (some false)) else (some false)) else (some false)) else (none)) else (some false)) else (some false)) else (some false)) else (some false)) else (some false)) else (some false)) else (some false)))))))))) = some r := H
  have A1 := Aside0.mk A10
  clear A10
  replace H := Option.bind_eq_some_iff.mp H
  obtain ⟨⟨t136, t137, t138⟩, A20, H⟩ := H
  replace H : ((weak_Make.f k t136 16).bind fun bt141 => ((weak_Clear.f k bt141.1 (([16] : List Int))).bind fun bt149 => ((weak_Make.f k bt149.1 16).bind fun bt156 => ((weak_Get.f k bt156.1 1).bind fun bt161 => ((weak_Handle.f k bt156.1 32).bind fun bt163 => ((weak_Make.f k bt156.1 0).bind fun bt165 => ((weak_Get.f k bt156.1 4).bind fun bt170 => (if t132 = 1 then (if t133 = 0 then (if t137 = 2 then (if t138 = 0 then (if bt141.2.1 = 1 then (if bt141.2.2 = 0 then (if (bt149.2.1.length : Int) = 1 then (if 0 < (bt149.2.1.length : Int) then (if (rd bt149.2.1 0) = 1 then (if bt149.2.2 = 0 then (if bt156.2.1 = 3 then (if bt156.2.2 = 0 then (if bt161.1 = 0 then (if bt161.2 = 0 then (if bt163.1 = 2 then (if bt163.2 = 0 then (if bt165.2.2 = 7 then (if bt170.2 = 3 then ((weak_Check.f k bt156.1).bind fun t173 => (some (t173 == 0))) else (some false)) else (some false)) else (some false)) else (some false)) else (some false)) else (some false)) else (some false)) else (some false)) else (some false)) else (some false)) else (none)) else (some false)) else (some false)) else (some false)) else (some false)) else (some false)) else (some false)) else (some false))))))))) = some r := H
  have A2 := Aside0.mk A20
  clear A20
  replace H := Option.bind_eq_some_iff.mp H
  obtain ⟨⟨t141, t142, t143⟩, A30, H⟩ := H
  replace H : ((weak_Clear.f k t141 (([16] : List Int))).bind fun bt149 => ((weak_Make.f k bt149.1 16).bind fun bt156 => ((weak_Get.f k bt156.1 1).bind fun bt161 => ((weak_Handle.f k bt156.1 32).bind fun bt163 => ((weak_Make.f k bt156.1 0).bind fun bt165 => ((weak_Get.f k bt156.1 4).bind fun bt170 => (if t132 = 1 then (if t133 = 0 then (if t137 = 2 then (if t138 = 0 then (if t142 = 1 then (if t143 = 0 then (if (bt149.2.1.length : Int) = 1 then (if 0 < (bt149.2.1.length : Int) then (if (rd bt149.2.1 0) = 1 then (if bt149.2.2 = 0 then (if bt156.2.1 = 3 then (if bt156.2.2 = 0 then (if bt161.1 = 0 then (if bt161.2 = 0 then (if bt163.1 = 2 then (if bt163.2 = 0 then (if bt165.2.2 = 7 then (if bt170.2 = 3 then ((weak_Check.f k bt156.1).bind fun t173 => (some (t173 == 0))) else (some false)) else (some false)) else (some false)) else (some false)) else (some false)) else (some false)) else (some false)) else (some false)) else (some false)) else (some false)) else (none)) else (some false)) else (some false)) else (some false)) else (some false)) else (some false)) else (some false)) else (some false)))))))) = some r := H
  have A3 := Aside0.mk A30
  clear A30
  obtain ⟨y146, hy146⟩ : ∃ y_ : List Int, y_ = (([16] : List Int)) := ⟨_, rfl⟩
  replace H : ((weak_Clear.f k t141 y146).bind fun bt149 => ((weak_Make.f k bt149.1 16).bind fun bt156 => ((weak_Get.f k bt156.1 1).bind fun bt161 => ((weak_Handle.f k bt156.1 32).bind fun bt163 => ((weak_Make.f k bt156.1 0).bind fun bt165 => ((weak_Get.f k bt156.1 4).bind fun bt170 => (if t132 = 1 then (if t133 = 0 then (if t137 = 2 then (if t138 = 0 then (if t142 = 1 then (if t143 = 0 then (if (bt149.2.1.length : Int) = 1 then (if 0 < (bt149.2.1.length : Int) then (if (rd bt149.2.1 0) = 1 then (if bt149.2.2 = 0 then (if bt156.2.1 = 3 then (if bt156.2.2 = 0 then (if bt161.1 = 0 then (if bt161.2 = 0 then (if bt163.1 = 2 then (if bt163.2 = 0 then (if bt165.2.2 = 7 then (if bt170.2 = 3 then ((weak_Check.f k bt156.1).bind fun t173 => (some (t173 == 0))) else (some false)) else (some false)) else (some false)) else (some false)) else (some false)) else (some false)) else (some false)) else (some false)) else (some false)) else (some false)) else (none)) else (some false)) else (some false)) else (some false)) else (some false)) else (some false)) else (some false)) else (some false)))))))) = some r := by first | (rw [hy146]; with_reducible exact H) | (have H2_ := (Option.bind_some _ _).symm.trans H; rw [hy146]; with_reducible exact H2_) | (have H2_ := (Option.bind_some _ _).symm.trans H; with_reducible exact H2_) | with_reducible exact H | (rw [hy146]; exact H) | exact H
  have Ny146 := Aside0.mk hy146
  clear hy146
  replace H := Option.bind_eq_some_iff.mp H
  obtain ⟨⟨t149, t150, t151⟩, A40, H⟩ := H
  replace H : ((weak_Make.f k t149 16).bind fun bt156 => ((weak_Get.f k bt156.1 1).bind fun bt161 => ((weak_Handle.f k bt156.1 32).bind fun bt163 => ((weak_Make.f k bt156.1 0).bind fun bt165 => ((weak_Get.f k bt156.1 4).bind fun bt170 => (if t132 = 1 then (if t133 = 0 then (if t137 = 2 then (if t138 = 0 then (if t142 = 1 then (if t143 = 0 then (if (t150.length : Int) = 1 then (if 0 < (t150.length : Int) then (if (rd t150 0) = 1 then (if t151 = 0 then (if bt156.2.1 = 3 then (if bt156.2.2 = 0 then (if bt161.1 = 0 then (if bt161.2 = 0 then (if bt163.1 = 2 then (if bt163.2 = 0 then (if bt165.2.2 = 7 then (if bt170.2 = 3 then ((weak_Check.f k bt156.1).bind fun t173 => (some (t173 == 0))) else (some false)) else (some false)) else (some false)) else (some false)) else (some false)) else (some false)) else (some false)) else (some false)) else (some false)) else (some false)) else (none)) else (some false)) else (some false)) else (some false)) else (some false)) else (some false)) else (some false)) else (some false))))))) = some r := H
  have A4 := Aside0.mk A40
  clear A40
  replace H := Option.bind_eq_some_iff.mp H
  obtain ⟨⟨t156, t157, t158⟩, A50, H⟩ := H
  replace H : ((weak_Get.f k t156 1).bind fun bt161 => ((weak_Handle.f k t156 32).bind fun bt163 => ((weak_Make.f k t156 0).bind fun bt165 => ((weak_Get.f k t156 4).bind fun bt170 => (if t132 = 1 then (if t133 = 0 then (if t137 = 2 then (if t138 = 0 then (if t142 = 1 then (if t143 = 0 then (if (t150.length : Int) = 1 then (if 0 < (t150.length : Int) then (if (rd t150 0) = 1 then (if t151 = 0 then (if t157 = 3 then (if t158 = 0 then (if bt161.1 = 0 then (if bt161.2 = 0 then (if bt163.1 = 2 then (if bt163.2 = 0 then (if bt165.2.2 = 7 then (if bt170.2 = 3 then ((weak_Check.f k t156).bind fun t173 => (some (t173 == 0))) else (some false)) else (some false)) else (some false)) else (some false)) else (some false)) else (some false)) else (some false)) else (some false)) else (some false)) else (some false)) else (none)) else (some false)) else (some false)) else (some false)) else (some false)) else (some false)) else (some false)) else (some false)))))) = some r := H
  have A5 := Aside0.mk A50
  clear A50
  replace H := Option.bind_eq_some_iff.mp H
  obtain ⟨⟨t161, t162⟩, A60, H⟩ := H
  replace H : ((weak_Handle.f k t156 32).bind fun bt163 => ((weak_Make.f k t156 0).bind fun bt165 => ((weak_Get.f k t156 4).bind fun bt170 => (if t132 = 1 then (if t133 = 0 then (if t137 = 2 then (if t138 = 0 then (if t142 = 1 then (if t143 = 0 then (if (t150.length : Int) = 1 then (if 0 < (t150.length : Int) then (if (rd t150 0) = 1 then (if t151 = 0 then (if t157 = 3 then (if t158 = 0 then (if t161 = 0 then (if t162 = 0 then (if bt163.1 = 2 then (if bt163.2 = 0 then (if bt165.2.2 = 7 then (if bt170.2 = 3 then ((weak_Check.f k t156).bind fun t173 => (some (t173 == 0))) else (some false)) else (some false)) else (some false)) else (some false)) else (some false)) else (some false)) else (some false)) else (some false)) else (some false)) else (some false)) else (none)) else (some false)) else (some false)) else (some false)) else (some false)) else (some false)) else (some false)) else (some false))))) = some r := H
  have A6 := Aside0.mk A60
  clear A60
  replace H := Option.bind_eq_some_iff.mp H
  obtain ⟨⟨t163, t164⟩, A70, H⟩ := H
  replace H : ((weak_Make.f k t156 0).bind fun bt165 => ((weak_Get.f k t156 4).bind fun bt170 => (if t132 = 1 then (if t133 = 0 then (if t137 = 2 then (if t138 = 0 then (if t142 = 1 then (if t143 = 0 then (if (t150.length : Int) = 1 then (if 0 < (t150.length : Int) then (if (rd t150 0) = 1 then (if t151 = 0 then (if t157 = 3 then (if t158 = 0 then (if t161 = 0 then (if t162 = 0 then (if t163 = 2 then (if t164 = 0 then (if bt165.2.2 = 7 then (if bt170.2 = 3 then ((weak_Check.f k t156).bind fun t173 => (some (t173 == 0))) else (some false)) else (some false)) else (some false)) else (some false)) else (some false)) else (some false)) else (some false)) else (some false)) else (some false)) else (some false)) else (none)) else (some false)) else (some false)) else (some false)) else (some false)) else (some false)) else (some false)) else (some false)))) = some r := H
  have A7 := Aside0.mk A70
  clear A70
  replace H := Option.bind_eq_some_iff.mp H
  obtain ⟨⟨t165, t166, t167⟩, A80, H⟩ := H
  replace H : ((weak_Get.f k t156 4).bind fun bt170 => (if t132 = 1 then (if t133 = 0 then (if t137 = 2 then (if t138 = 0 then (if t142 = 1 then (if t143 = 0 then (if (t150.length : Int) = 1 then (if 0 < (t150.length : Int) then (if (rd t150 0) = 1 then (if t151 = 0 then (if t157 = 3 then (if t158 = 0 then (if t161 = 0 then (if t162 = 0 then (if t163 = 2 then (if t164 = 0 then (if t167 = 7 then (if bt170.2 = 3 then ((weak_Check.f k t156).bind fun t173 => (some (t173 == 0))) else (some false)) else (some false)) else (some false)) else (some false)) else (some false)) else (some false)) else (some false)) else (some false)) else (some false)) else (some false)) else (none)) else (some false)) else (some false)) else (some false)) else (some false)) else (some false)) else (some false)) else (some false))) = some r := H
  have A8 := Aside0.mk A80
  clear A80
  replace H := Option.bind_eq_some_iff.mp H
  obtain ⟨⟨t170, t171⟩, A90, H⟩ := H
  replace H : (if t132 = 1 then (if t133 = 0 then (if t137 = 2 then (if t138 = 0 then (if t142 = 1 then (if t143 = 0 then (if (t150.length : Int) = 1 then (if 0 < (t150.length : Int) then (if (rd t150 0) = 1 then (if t151 = 0 then (if t157 = 3 then (if t158 = 0 then (if t161 = 0 then (if t162 = 0 then (if t163 = 2 then (if t164 = 0 then (if t167 = 7 then (if t171 = 3 then ((weak_Check.f k t156).bind fun t173 => (some (t173 == 0))) else (some false)) else (some false)) else (some false)) else (some false)) else (some false)) else (some false)) else (some false)) else (some false)) else (some false)) else (some false)) else (none)) else (some false)) else (some false)) else (some false)) else (some false)) else (some false)) else (some false)) else (some false)) = some r := H
  have A9 := Aside0.mk A90
  clear A90
  by_cases c10 : t132 = 1
  · rw [if_pos c10] at H
    have c10b0 : (t132 == 1) = true := beq_iff_eq.mpr c10
    have c10b1 : (t132 != 1) = false := bne_eq_false_iff_eq.mpr c10
    clear c10
    by_cases c11 : t133 = 0
    · rw [if_pos c11] at H
      have c11b0 : (t133 == 0) = true := beq_iff_eq.mpr c11
      have c11b1 : (t133 != 0) = false := bne_eq_false_iff_eq.mpr c11
      clear c11
      by_cases c12 : t137 = 2
      · rw [if_pos c12] at H
        have c12b0 : (t137 == 2) = true := beq_iff_eq.mpr c12
        have c12b1 : (t137 != 2) = false := bne_eq_false_iff_eq.mpr c12
        clear c12
        by_cases c13 : t138 = 0
        · rw [if_pos c13] at H
          have c13b0 : (t138 == 0) = true := beq_iff_eq.mpr c13
          have c13b1 : (t138 != 0) = false := bne_eq_false_iff_eq.mpr c13
          clear c13
          by_cases c14 : t142 = 1
          · rw [if_pos c14] at H
            have c14b0 : (t142 == 1) = true := beq_iff_eq.mpr c14
            have c14b1 : (t142 != 1) = false := bne_eq_false_iff_eq.mpr c14
            clear c14
            by_cases c15 : t143 = 0
            · rw [if_pos c15] at H
              have c15b0 : (t143 == 0) = true := beq_iff_eq.mpr c15
              have c15b1 : (t143 != 0) = false := bne_eq_false_iff_eq.mpr c15
              clear c15
              by_cases c16 : (t150.length : Int) = 1
              · rw [if_pos c16] at H
                have c16b0 : ((t150.length : Int) == 1) = true := beq_iff_eq.mpr c16
                have c16b1 : ((t150.length : Int) != 1) = false := bne_eq_false_iff_eq.mpr c16
                clear c16
                by_cases c17 : 0 < (t150.length : Int)
                · rw [if_pos c17] at H
                  have c17b0 : decide (0 < (t150.length : Int)) = true := decide_eq_true c17
                  have c17b1 : decide (0 < t150.length) = true := decide_eq_true (by omega)
                  clear c17
                  by_cases c18 : (rd t150 0) = 1
                  · rw [if_pos c18] at H
                    have c18b0 : ((rd t150 0) == 1) = true := beq_iff_eq.mpr c18
                    have c18b1 : ((rd t150 0) != 1) = false := bne_eq_false_iff_eq.mpr c18
                    clear c18
                    by_cases c19 : t151 = 0
                    · rw [if_pos c19] at H
                      have c19b0 : (t151 == 0) = true := beq_iff_eq.mpr c19
                      have c19b1 : (t151 != 0) = false := bne_eq_false_iff_eq.mpr c19
                      clear c19
                      by_cases c20 : t157 = 3
                      · rw [if_pos c20] at H
                        have c20b0 : (t157 == 3) = true := beq_iff_eq.mpr c20
                        have c20b1 : (t157 != 3) = false := bne_eq_false_iff_eq.mpr c20
                        clear c20
                        by_cases c21 : t158 = 0
                        · rw [if_pos c21] at H
                          have c21b0 : (t158 == 0) = true := beq_iff_eq.mpr c21
                          have c21b1 : (t158 != 0) = false := bne_eq_false_iff_eq.mpr c21
                          clear c21
                          by_cases c22 : t161 = 0
                          · rw [if_pos c22] at H
                            have c22b0 : (t161 == 0) = true := beq_iff_eq.mpr c22
                            have c22b1 : (t161 != 0) = false := bne_eq_false_iff_eq.mpr c22
                            clear c22
                            by_cases c23 : t162 = 0
                            · rw [if_pos c23] at H
                              have c23b0 : (t162 == 0) = true := beq_iff_eq.mpr c23
                              have c23b1 : (t162 != 0) = false := bne_eq_false_iff_eq.mpr c23
                              clear c23
                              by_cases c24 : t163 = 2
                              · rw [if_pos c24] at H
                                have c24b0 : (t163 == 2) = true := beq_iff_eq.mpr c24
                                have c24b1 : (t163 != 2) = false := bne_eq_false_iff_eq.mpr c24
                                clear c24
                                by_cases c25 : t164 = 0
                                · rw [if_pos c25] at H
                                  have c25b0 : (t164 == 0) = true := beq_iff_eq.mpr c25
                                  have c25b1 : (t164 != 0) = false := bne_eq_false_iff_eq.mpr c25
                                  clear c25
                                  by_cases c26 : t167 = 7
                                  · rw [if_pos c26] at H
                                    have c26b0 : (t167 == 7) = true := beq_iff_eq.mpr c26
                                    have c26b1 : (t167 != 7) = false := bne_eq_false_iff_eq.mpr c26
                                    clear c26
                                    by_cases c27 : t171 = 3
                                    · rw [if_pos c27] at H
                                      have c27b0 : (t171 == 3) = true := beq_iff_eq.mpr c27
                                      have c27b1 : (t171 != 3) = false := bne_eq_false_iff_eq.mpr c27
                                      clear c27
                                      replace H := Option.bind_eq_some_iff.mp H
                                      obtain ⟨t173, A280, H⟩ := H
                                      replace H : (some (t173 == 0)) = some r := H
                                      have A28 := Aside0.mk A280
                                      clear A280
                                      obtain rfl := Option.some.inj H
                                      go_enter Try.func7, Try.ntmps7
                                      go_wp2_with (first | ((with_reducible refine gate_callee (f := 10) rfl ?_); refine goesL_ (some 22) rfl rfl Try.func10 (by kernel_rfl) rfl #[.slice none 0 0, .int .u64 16] rfl (by (try simp only [List.map_toArray, List.map_cons, List.map_nil]); first | done | rfl | (simp only [List.length_drop, List.length_take]; rfl)) ?_; (refine (weak_Make.calls k _ _ ([] : List Int) 16 t131 t132 t133 _ ?side1 ?side2 A1.out).mono ?_); (case side1 => exact Kd.C_nil _ _); (case side2 => exact Nat.le_refl _); rintro e w29 ⟨v134, rfl, ho0, hb⟩; refine ⟨_, rfl, ?_⟩; have n0_ := Aside0.mk (Kd.R_lower ho0 (below_size (by repeat (first | (with_reducible first | exact HB.out | apply below_alloc | apply pw_below_drewN | apply below_drew1) | exact HB.out)))); have n1_ := Aside0.mk (below_step (by repeat (first | (with_reducible first | exact HB.out | apply below_alloc | apply pw_below_drewN | apply below_drew1) | exact HB.out)) hb); clear HB; have HO135 := n0_; have HB := n1_; clear n0_ n1_; (try clear hb); (try clear hb2); (try clear hk); (try clear hi); (try clear ho0); obtain ⟨Ao30, co30, eo30⟩ := Kd.R_slice HO135.out; subst eo30) | ((with_reducible refine gate_callee (f := 10) rfl ?_); refine goesL_ (some 28) rfl rfl Try.func10 (by kernel_rfl) rfl #[.slice Ao30 t131.length co30, .int .u64 32] rfl (by (try simp only [List.map_toArray, List.map_cons, List.map_nil]); first | done | rfl | (simp only [List.length_drop, List.length_take]; rfl)) ?_; (with_reducible refine (weak_Make.calls k _ _ t131 32 t136 t137 t138 _ ?side1 ?side2 A2.out).mono ?_); (case side1 => repeat (first | exact (Kd.R_reads' HO135.out).2.2 | (with_reducible refine Kd.C_alloc ?_ _) | (with_reducible refine Kd.C_drewN ?_ _) | (with_reducible refine Kd.C_drew ?_))); (case side2 => exact (Kd.R_reads' HO135.out).2.1); rintro e w31 ⟨v139, rfl, ho0, hb⟩; refine ⟨_, rfl, ?_⟩; have n0_ := Aside0.mk (Kd.R_elder' (by (with_reducible repeat (first | apply Kd.R_alloc | apply Kd.R_drewN | apply Kd.R_drew)); exact HO135.out) (Kd.R_base ho0) hb); have n1_ := Aside0.mk (Kd.R_lower (Kd.R_new' ho0 (Kd.R_lt (by (with_reducible repeat (first | apply Kd.R_alloc | apply Kd.R_drewN | apply Kd.R_drew)); exact HO135.out))) (below_size (by repeat (first | (with_reducible first | exact HB.out | apply below_alloc | apply pw_below_drewN | apply below_drew1) | exact HB.out)))); have n2_ := Aside0.mk (below_step (by repeat (first | (with_reducible first | exact HB.out | apply below_alloc | apply pw_below_drewN | apply below_drew1) | exact HB.out)) hb); clear HO135; clear HB; have HO135 := n0_; have HO140 := n1_; have HB := n2_; clear n0_ n1_ n2_; (try clear hb); (try clear hb2); (try clear hk); (try clear hi); (try clear ho0); obtain ⟨Ao32, co32, eo32⟩ := Kd.R_slice HO140.out; subst eo32) | ((with_reducible refine gate_callee (f := 10) rfl ?_); refine goesL_ (some 34) rfl rfl Try.func10 (by kernel_rfl) rfl #[.slice Ao32 t136.length co32, .int .u64 16] rfl (by (try simp only [List.map_toArray, List.map_cons, List.map_nil]); first | done | rfl | (simp only [List.length_drop, List.length_take]; rfl)) ?_; (with_reducible refine (weak_Make.calls k _ _ t136 16 t141 t142 t143 _ ?side1 ?side2 A3.out).mono ?_); (case side1 => repeat (first | exact (Kd.R_reads' HO140.out).2.2 | (with_reducible refine Kd.C_alloc ?_ _) | (with_reducible refine Kd.C_drewN ?_ _) | (with_reducible refine Kd.C_drew ?_))); (case side2 => exact (Kd.R_reads' HO140.out).2.1); rintro e w33 ⟨v144, rfl, ho0, hb⟩; refine ⟨_, rfl, ?_⟩; have n0_ := Aside0.mk (Kd.R_elder' (by (with_reducible repeat (first | apply Kd.R_alloc | apply Kd.R_drewN | apply Kd.R_drew)); exact HO135.out) (Kd.R_base ho0) hb); have n1_ := Aside0.mk (Kd.R_elder' (by (with_reducible repeat (first | apply Kd.R_alloc | apply Kd.R_drewN | apply Kd.R_drew)); exact HO140.out) (Kd.R_base ho0) hb); have n2_ := Aside0.mk (Kd.R_lower (Kd.R_new' (Kd.R_new' ho0 (Kd.R_lt (by (with_reducible repeat (first | apply Kd.R_alloc | apply Kd.R_drewN | apply Kd.R_drew)); exact HO135.out))) (Kd.R_lt (by (with_reducible repeat (first | apply Kd.R_alloc | apply Kd.R_drewN | apply Kd.R_drew)); exact HO140.out))) (below_size (by repeat (first | (with_reducible first | exact HB.out | apply below_alloc | apply pw_below_drewN | apply below_drew1) | exact HB.out)))); have n3_ := Aside0.mk (below_step (by repeat (first | (with_reducible first | exact HB.out | apply below_alloc | apply pw_below_drewN | apply below_drew1) | exact HB.out)) hb); clear HO135; clear HO140; clear HB; have HO135 := n0_; have HO140 := n1_; have HO145 := n2_; have HB := n3_; clear n0_ n1_ n2_ n3_; (try clear hb); (try clear hb2); (try clear hk); (try clear hi); (try clear ho0)) | ((with_reducible refine gate_dst (N := 40) rfl ?_); (try (refine gate_guard (by rfl) ?_; dsimp only)); refine Kd.R_lit (Kd.int .u64) _ 25 ?hg (N := 40) ?hd (xs := ([16] : List Int)) (inner := [.int .u64 16]) (ok := fun _ => True) (okp := fun _ => True) ?hr ?hp (fun _ hk => hk) trivial (Below.refl _ _) (Nat.le_refl _) (by simp) ?_; (case hd => rfl); (case hg => rfl); (case hr => first | (go_simp; done) | (go_simp; rfl)); (case hp => exact (Reps.one (show Kd.M (Kd.int .u64) _ _ _ 16 [.int .u64 16] from rfl) (Reps.none _ _))); intro v147 w34 ho35 hb hg_ hnew_; clear hg_ hnew_; (first | rw [← Ny146.out] at ho35 | (simp only [Int.reduceToNat] at ho35; rw [← Ny146.out] at ho35)); have n0_ := Aside0.mk (Kd.R_elder' (by (with_reducible repeat (first | apply Kd.R_alloc | apply Kd.R_drewN | apply Kd.R_drew)); exact HO135.out) (Kd.R_base ho35) hb); have n1_ := Aside0.mk (Kd.R_elder' (by (with_reducible repeat (first | apply Kd.R_alloc | apply Kd.R_drewN | apply Kd.R_drew)); exact HO140.out) (Kd.R_base ho35) hb); have n2_ := Aside0.mk (Kd.R_elder' (by (with_reducible repeat (first | apply Kd.R_alloc | apply Kd.R_drewN | apply Kd.R_drew)); exact HO145.out) (Kd.R_base ho35) hb); have n3_ := Aside0.mk (Kd.R_lower (Kd.R_new' (Kd.R_new' (Kd.R_new' ho35 (Kd.R_lt (by (with_reducible repeat (first | apply Kd.R_alloc | apply Kd.R_drewN | apply Kd.R_drew)); exact HO135.out))) (Kd.R_lt (by (with_reducible repeat (first | apply Kd.R_alloc | apply Kd.R_drewN | apply Kd.R_drew)); exact HO140.out))) (Kd.R_lt (by (with_reducible repeat (first | apply Kd.R_alloc | apply Kd.R_drewN | apply Kd.R_drew)); exact HO145.out))) (below_size (by repeat (first | (with_reducible first | exact HB.out | apply below_alloc | apply pw_below_drewN | apply below_drew1) | exact HB.out)))); have n4_ := Aside0.mk (below_step (by repeat (first | (with_reducible first | exact HB.out | apply below_alloc | apply pw_below_drewN | apply below_drew1) | exact HB.out)) hb); clear HO135; clear HO140; clear HO145; clear HB; have HO135 := n0_; have HO140 := n1_; have HO145 := n2_; have HO148 := n3_; have HB := n4_; clear n0_ n1_ n2_ n3_ n4_; clear hb ho35; obtain ⟨Ao36, co36, eo36⟩ := Kd.R_slice HO145.out; subst eo36; obtain ⟨Ao37, co37, eo37⟩ := Kd.R_slice HO148.out; subst eo37) | ((with_reducible refine gate_callee (f := 9) rfl ?_); refine goesL_ (some 41) rfl rfl Try.func9 (by kernel_rfl) rfl #[.slice Ao36 t141.length co36, .slice Ao37 y146.length co37] rfl (by (try simp only [List.map_toArray, List.map_cons, List.map_nil]); first | done | rfl | (simp only [List.length_drop, List.length_take]; rfl)) ?_; (with_reducible refine (weak_Clear.calls k _ _ t141 _ _ y146 t149 t150 t151 _ ?side1 ?side2 ?side3 ?side4 A4.out).mono ?_); (case side1 => repeat (first | exact (Kd.R_reads' HO145.out).2.2 | (with_reducible refine Kd.C_alloc ?_ _) | (with_reducible refine Kd.C_drewN ?_ _) | (with_reducible refine Kd.C_drew ?_))); (case side2 => exact (Kd.R_reads' HO145.out).2.1); (case side3 => repeat (first | exact (Kd.R_reads' HO148.out).2.2 | (with_reducible refine Kd.C_alloc ?_ _) | (with_reducible refine Kd.C_drewN ?_ _) | (with_reducible refine Kd.C_drew ?_))); (case side4 => exact (Kd.R_reads' HO148.out).2.1); rintro e w38 ⟨v152, v154, rfl, ho0, ho1, hb⟩; refine ⟨_, rfl, ?_⟩; have n0_ := Aside0.mk (Kd.R_elder' (by (with_reducible repeat (first | apply Kd.R_alloc | apply Kd.R_drewN | apply Kd.R_drew)); exact HO135.out) (Kd.R_base ho0) hb); have n1_ := Aside0.mk (Kd.R_elder' (by (with_reducible repeat (first | apply Kd.R_alloc | apply Kd.R_drewN | apply Kd.R_drew)); exact HO140.out) (Kd.R_base ho0) hb); have n2_ := Aside0.mk (Kd.R_elder' (by (with_reducible repeat (first | apply Kd.R_alloc | apply Kd.R_drewN | apply Kd.R_drew)); exact HO145.out) (Kd.R_base ho0) hb); have n3_ := Aside0.mk (Kd.R_elder' (by (with_reducible repeat (first | apply Kd.R_alloc | apply Kd.R_drewN | apply Kd.R_drew)); exact HO148.out) (Kd.R_base ho0) hb); have n4_ := Aside0.mk (Kd.R_lower (Kd.R_new' (Kd.R_new' (Kd.R_new' (Kd.R_new' ho0 (Kd.R_lt (by (with_reducible repeat (first | apply Kd.R_alloc | apply Kd.R_drewN | apply Kd.R_drew)); exact HO135.out))) (Kd.R_lt (by (with_reducible repeat (first | apply Kd.R_alloc | apply Kd.R_drewN | apply Kd.R_drew)); exact HO140.out))) (Kd.R_lt (by (with_reducible repeat (first | apply Kd.R_alloc | apply Kd.R_drewN | apply Kd.R_drew)); exact HO145.out))) (Kd.R_lt (by (with_reducible repeat (first | apply Kd.R_alloc | apply Kd.R_drewN | apply Kd.R_drew)); exact HO148.out))) (below_size (by repeat (first | (with_reducible first | exact HB.out | apply below_alloc | apply pw_below_drewN | apply below_drew1) | exact HB.out)))); have n5_ := Aside0.mk (Kd.R_lower ho1 (below_size (by repeat (first | (with_reducible first | exact HB.out | apply below_alloc | apply pw_below_drewN | apply below_drew1) | exact HB.out)))); have n6_ := Aside0.mk (below_step (by repeat (first | (with_reducible first | exact HB.out | apply below_alloc | apply pw_below_drewN | apply below_drew1) | exact HB.out)) hb); clear HO135; clear HO140; clear HO145; clear HO148; clear HB; have HO135 := n0_; have HO140 := n1_; have HO145 := n2_; have HO148 := n3_; have HO153 := n4_; have HO155 := n5_; have HB := n6_; clear n0_ n1_ n2_ n3_ n4_ n5_ n6_; (try clear hb); (try clear hb2); (try clear hk); (try clear hi); (try clear ho0); (try clear ho1); obtain ⟨Ao39, co39, eo39⟩ := Kd.R_slice HO153.out; subst eo39) | ((with_reducible refine gate_callee (f := 10) rfl ?_); refine goesL_ (some 47) rfl rfl Try.func10 (by kernel_rfl) rfl #[.slice Ao39 t149.length co39, .int .u64 16] rfl (by (try simp only [List.map_toArray, List.map_cons, List.map_nil]); first | done | rfl | (simp only [List.length_drop, List.length_take]; rfl)) ?_; (with_reducible refine (weak_Make.calls k _ _ t149 16 t156 t157 t158 _ ?side1 ?side2 A5.out).mono ?_); (case side1 => repeat (first | exact (Kd.R_reads' HO153.out).2.2 | (with_reducible refine Kd.C_alloc ?_ _) | (with_reducible refine Kd.C_drewN ?_ _) | (with_reducible refine Kd.C_drew ?_))); (case side2 => exact (Kd.R_reads' HO153.out).2.1); rintro e w40 ⟨v159, rfl, ho0, hb⟩; refine ⟨_, rfl, ?_⟩; have n0_ := Aside0.mk (Kd.R_elder' (by (with_reducible repeat (first | apply Kd.R_alloc | apply Kd.R_drewN | apply Kd.R_drew)); exact HO135.out) (Kd.R_base ho0) hb); have n1_ := Aside0.mk (Kd.R_elder' (by (with_reducible repeat (first | apply Kd.R_alloc | apply Kd.R_drewN | apply Kd.R_drew)); exact HO140.out) (Kd.R_base ho0) hb); have n2_ := Aside0.mk (Kd.R_elder' (by (with_reducible repeat (first | apply Kd.R_alloc | apply Kd.R_drewN | apply Kd.R_drew)); exact HO145.out) (Kd.R_base ho0) hb); have n3_ := Aside0.mk (Kd.R_elder' (by (with_reducible repeat (first | apply Kd.R_alloc | apply Kd.R_drewN | apply Kd.R_drew)); exact HO148.out) (Kd.R_base ho0) hb); have n4_ := Aside0.mk (Kd.R_elder' (by (with_reducible repeat (first | apply Kd.R_alloc | apply Kd.R_drewN | apply Kd.R_drew)); exact HO153.out) (Kd.R_base ho0) hb); have n5_ := Aside0.mk (Kd.R_below (by (with_reducible repeat (first | apply Kd.R_alloc | apply Kd.R_drewN | apply Kd.R_drew)); exact HO155.out) hb); have n6_ := Aside0.mk (Kd.R_lower (Kd.R_new' (Kd.R_new' (Kd.R_new' (Kd.R_new' (Kd.R_new' ho0 (Kd.R_lt (by (with_reducible repeat (first | apply Kd.R_alloc | apply Kd.R_drewN | apply Kd.R_drew)); exact HO135.out))) (Kd.R_lt (by (with_reducible repeat (first | apply Kd.R_alloc | apply Kd.R_drewN | apply Kd.R_drew)); exact HO140.out))) (Kd.R_lt (by (with_reducible repeat (first | apply Kd.R_alloc | apply Kd.R_drewN | apply Kd.R_drew)); exact HO145.out))) (Kd.R_lt (by (with_reducible repeat (first | apply Kd.R_alloc | apply Kd.R_drewN | apply Kd.R_drew)); exact HO148.out))) (Kd.R_lt (by (with_reducible repeat (first | apply Kd.R_alloc | apply Kd.R_drewN | apply Kd.R_drew)); exact HO153.out))) (below_size (by repeat (first | (with_reducible first | exact HB.out | apply below_alloc | apply pw_below_drewN | apply below_drew1) | exact HB.out)))); have n7_ := Aside0.mk (below_step (by repeat (first | (with_reducible first | exact HB.out | apply below_alloc | apply pw_below_drewN | apply below_drew1) | exact HB.out)) hb); clear HO135; clear HO140; clear HO145; clear HO148; clear HO153; clear HO155; clear HB; have HO135 := n0_; have HO140 := n1_; have HO145 := n2_; have HO148 := n3_; have HO153 := n4_; have HO155 := n5_; have HO160 := n6_; have HB := n7_; clear n0_ n1_ n2_ n3_ n4_ n5_ n6_ n7_; (try clear hb); (try clear hb2); (try clear hk); (try clear hi); (try clear ho0); obtain ⟨Ao41, co41, eo41⟩ := Kd.R_slice HO160.out; subst eo41) | ((with_reducible refine gate_callee (f := 8) rfl ?_); refine goesL_ (some 53) rfl rfl Try.func8 (by kernel_rfl) rfl #[.slice Ao41 t156.length co41, .int .i64 1] rfl (by (try simp only [List.map_toArray, List.map_cons, List.map_nil]); first | done | rfl | (simp only [List.length_drop, List.length_take]; rfl)) ?_; (with_reducible refine (weak_Get.calls k _ _ t156 1 t161 t162 _ ?side1 ?side2 A6.out).mono ?_); (case side1 => repeat (first | exact (Kd.R_reads' HO160.out).2.2 | (with_reducible refine Kd.C_alloc ?_ _) | (with_reducible refine Kd.C_drewN ?_ _) | (with_reducible refine Kd.C_drew ?_))); (case side2 => exact (Kd.R_reads' HO160.out).2.1); rintro e w' ⟨rfl, ⟨nd, rfl⟩⟩; refine ⟨_, rfl, ?_⟩) | ((with_reducible refine gate_callee (f := 12) rfl ?_); refine goesL_ (some 58) rfl rfl Try.func12 (by kernel_rfl) rfl #[.slice Ao41 t156.length co41, .int .u64 32] rfl (by (try simp only [List.map_toArray, List.map_cons, List.map_nil]); first | done | rfl | (simp only [List.length_drop, List.length_take]; rfl)) ?_; (with_reducible refine (weak_Handle.calls k _ _ t156 32 t163 t164 _ ?side1 ?side2 A7.out).mono ?_); (case side1 => repeat (first | exact (Kd.R_reads' HO160.out).2.2 | (with_reducible refine Kd.C_alloc ?_ _) | (with_reducible refine Kd.C_drewN ?_ _) | (with_reducible refine Kd.C_drew ?_))); (case side2 => exact (Kd.R_reads' HO160.out).2.1); rintro e w' ⟨rfl, ⟨nd, rfl⟩⟩; refine ⟨_, rfl, ?_⟩) | ((with_reducible refine gate_callee (f := 10) rfl ?_); refine goesL_ (some 63) rfl rfl Try.func10 (by kernel_rfl) rfl #[.slice Ao41 t156.length co41, .int .u64 0] rfl (by (try simp only [List.map_toArray, List.map_cons, List.map_nil]); first | done | rfl | (simp only [List.length_drop, List.length_take]; rfl)) ?_; (with_reducible refine (weak_Make.calls k _ _ t156 0 t165 t166 t167 _ ?side1 ?side2 A8.out).mono ?_); (case side1 => repeat (first | exact (Kd.R_reads' HO160.out).2.2 | (with_reducible refine Kd.C_alloc ?_ _) | (with_reducible refine Kd.C_drewN ?_ _) | (with_reducible refine Kd.C_drew ?_))); (case side2 => exact (Kd.R_reads' HO160.out).2.1); rintro e w42 ⟨v168, rfl, ho0, hb⟩; refine ⟨_, rfl, ?_⟩; have n0_ := Aside0.mk (Kd.R_elder' (by (with_reducible repeat (first | apply Kd.R_alloc | apply Kd.R_drewN | apply Kd.R_drew)); exact HO135.out) (Kd.R_base ho0) hb); have n1_ := Aside0.mk (Kd.R_elder' (by (with_reducible repeat (first | apply Kd.R_alloc | apply Kd.R_drewN | apply Kd.R_drew)); exact HO140.out) (Kd.R_base ho0) hb); have n2_ := Aside0.mk (Kd.R_elder' (by (with_reducible repeat (first | apply Kd.R_alloc | apply Kd.R_drewN | apply Kd.R_drew)); exact HO145.out) (Kd.R_base ho0) hb); have n3_ := Aside0.mk (Kd.R_elder' (by (with_reducible repeat (first | apply Kd.R_alloc | apply Kd.R_drewN | apply Kd.R_drew)); exact HO148.out) (Kd.R_base ho0) hb); have n4_ := Aside0.mk (Kd.R_elder' (by (with_reducible repeat (first | apply Kd.R_alloc | apply Kd.R_drewN | apply Kd.R_drew)); exact HO153.out) (Kd.R_base ho0) hb); have n5_ := Aside0.mk (Kd.R_below (by (with_reducible repeat (first | apply Kd.R_alloc | apply Kd.R_drewN | apply Kd.R_drew)); exact HO155.out) hb); have n6_ := Aside0.mk (Kd.R_elder' (by (with_reducible repeat (first | apply Kd.R_alloc | apply Kd.R_drewN | apply Kd.R_drew)); exact HO160.out) (Kd.R_base ho0) hb); have n7_ := Aside0.mk (Kd.R_lower (Kd.R_new' (Kd.R_new' (Kd.R_new' (Kd.R_new' (Kd.R_new' (Kd.R_new' ho0 (Kd.R_lt (by (with_reducible repeat (first | apply Kd.R_alloc | apply Kd.R_drewN | apply Kd.R_drew)); exact HO135.out))) (Kd.R_lt (by (with_reducible repeat (first | apply Kd.R_alloc | apply Kd.R_drewN | apply Kd.R_drew)); exact HO140.out))) (Kd.R_lt (by (with_reducible repeat (first | apply Kd.R_alloc | apply Kd.R_drewN | apply Kd.R_drew)); exact HO145.out))) (Kd.R_lt (by (with_reducible repeat (first | apply Kd.R_alloc | apply Kd.R_drewN | apply Kd.R_drew)); exact HO148.out))) (Kd.R_lt (by (with_reducible repeat (first | apply Kd.R_alloc | apply Kd.R_drewN | apply Kd.R_drew)); exact HO153.out))) (Kd.R_lt (by (with_reducible repeat (first | apply Kd.R_alloc | apply Kd.R_drewN | apply Kd.R_drew)); exact HO160.out))) (below_size (by repeat (first | (with_reducible first | exact HB.out | apply below_alloc | apply pw_below_drewN | apply below_drew1) | exact HB.out)))); have n8_ := Aside0.mk (below_step (by repeat (first | (with_reducible first | exact HB.out | apply below_alloc | apply pw_below_drewN | apply below_drew1) | exact HB.out)) hb); clear HO135; clear HO140; clear HO145; clear HO148; clear HO153; clear HO155; clear HO160; clear HB; have HO135 := n0_; have HO140 := n1_; have HO145 := n2_; have HO148 := n3_; have HO153 := n4_; have HO155 := n5_; have HO160 := n6_; have HO169 := n7_; have HB := n8_; clear n0_ n1_ n2_ n3_ n4_ n5_ n6_ n7_ n8_; (try clear hb); (try clear hb2); (try clear hk); (try clear hi); (try clear ho0)) | ((with_reducible refine gate_callee (f := 8) rfl ?_); refine goesL_ (some 69) rfl rfl Try.func8 (by kernel_rfl) rfl #[.slice Ao41 t156.length co41, .int .i64 4] rfl (by (try simp only [List.map_toArray, List.map_cons, List.map_nil]); first | done | rfl | (simp only [List.length_drop, List.length_take]; rfl)) ?_; (with_reducible refine (weak_Get.calls k _ _ t156 4 t170 t171 _ ?side1 ?side2 A9.out).mono ?_); (case side1 => repeat (first | exact (Kd.R_reads' HO160.out).2.2 | (with_reducible refine Kd.C_alloc ?_ _) | (with_reducible refine Kd.C_drewN ?_ _) | (with_reducible refine Kd.C_drew ?_))); (case side2 => exact (Kd.R_reads' HO160.out).2.1); rintro e w' ⟨rfl, ⟨nd, rfl⟩⟩; refine ⟨_, rfl, ?_⟩; obtain ⟨Ao43, co43, eo43⟩ := Kd.R_slice HO155.out; subst eo43; have p172 : 0 ≤ (0 : Int) := (by omega); have q172 : 0 < (t150.length : Int) := of_decide_eq_true (by first | (with_reducible assumption) | assumption); obtain ⟨ad172, e172, hx172_0⟩ := Kd.at_int (Kd.R_reads' HO155.out).2.2 0 p172 q172; cases e172; have qi172 : (0 < t150.length) = True := eq_true (by omega); (try rw [show ((0 : Int)).toNat = 0 from rfl] at hx172_0); (try rw [Addr.add_zero'] at hx172_0); replace p172 := eq_true p172; replace q172 := eq_true q172) | (go_at_call 11; (with_reducible refine (weak_Check.calls k _ _ t156 t173 _ ?side1 ?side2 A28.out).mono ?_); (case side1 => repeat (first | exact (Kd.R_reads' HO160.out).2.2 | (with_reducible refine Kd.C_alloc ?_ _) | (with_reducible refine Kd.C_drewN ?_ _) | (with_reducible refine Kd.C_drew ?_))); (case side2 => exact (Kd.R_reads' HO160.out).2.1); rintro e w' ⟨rfl, ⟨nd, rfl⟩⟩))
                                      go_ret
                                      exact ⟨by first | rfl | (simp [errW_none, errW_some] <;> rfl) | (simp [*, errW_none, errW_some] <;> rfl), by repeat (first | (with_reducible first | exact HB.out | apply below_alloc | apply pw_below_drewN | apply below_drew1) | exact HB.out)⟩
                                    · rw [if_neg c27] at H
                                      have c27b0 : (t171 == 3) = false := beq_eq_false_iff_ne.mpr c27
                                      have c27b1 : (t171 != 3) = true := bne_iff_ne.mpr c27
                                      exact absurd ((Option.some.inj H).trans HLAW.out) (by decide)
                                  · rw [if_neg c26] at H
                                    have c26b0 : (t167 == 7) = false := beq_eq_false_iff_ne.mpr c26
                                    have c26b1 : (t167 != 7) = true := bne_iff_ne.mpr c26
                                    exact absurd ((Option.some.inj H).trans HLAW.out) (by decide)
                                · rw [if_neg c25] at H
                                  have c25b0 : (t164 == 0) = false := beq_eq_false_iff_ne.mpr c25
                                  have c25b1 : (t164 != 0) = true := bne_iff_ne.mpr c25
                                  exact absurd ((Option.some.inj H).trans HLAW.out) (by decide)
                              · rw [if_neg c24] at H
                                have c24b0 : (t163 == 2) = false := beq_eq_false_iff_ne.mpr c24
                                have c24b1 : (t163 != 2) = true := bne_iff_ne.mpr c24
                                exact absurd ((Option.some.inj H).trans HLAW.out) (by decide)
                            · rw [if_neg c23] at H
                              have c23b0 : (t162 == 0) = false := beq_eq_false_iff_ne.mpr c23
                              have c23b1 : (t162 != 0) = true := bne_iff_ne.mpr c23
                              exact absurd ((Option.some.inj H).trans HLAW.out) (by decide)
                          · rw [if_neg c22] at H
                            have c22b0 : (t161 == 0) = false := beq_eq_false_iff_ne.mpr c22
                            have c22b1 : (t161 != 0) = true := bne_iff_ne.mpr c22
                            exact absurd ((Option.some.inj H).trans HLAW.out) (by decide)
                        · rw [if_neg c21] at H
                          have c21b0 : (t158 == 0) = false := beq_eq_false_iff_ne.mpr c21
                          have c21b1 : (t158 != 0) = true := bne_iff_ne.mpr c21
                          exact absurd ((Option.some.inj H).trans HLAW.out) (by decide)
                      · rw [if_neg c20] at H
                        have c20b0 : (t157 == 3) = false := beq_eq_false_iff_ne.mpr c20
                        have c20b1 : (t157 != 3) = true := bne_iff_ne.mpr c20
                        exact absurd ((Option.some.inj H).trans HLAW.out) (by decide)
                    · rw [if_neg c19] at H
                      have c19b0 : (t151 == 0) = false := beq_eq_false_iff_ne.mpr c19
                      have c19b1 : (t151 != 0) = true := bne_iff_ne.mpr c19
                      exact absurd ((Option.some.inj H).trans HLAW.out) (by decide)
                  · rw [if_neg c18] at H
                    have c18b0 : ((rd t150 0) == 1) = false := beq_eq_false_iff_ne.mpr c18
                    have c18b1 : ((rd t150 0) != 1) = true := bne_iff_ne.mpr c18
                    exact absurd ((Option.some.inj H).trans HLAW.out) (by decide)
                · rw [if_neg c17] at H
                  exact absurd H (by simp)
              · rw [if_neg c16] at H
                have c16b0 : ((t150.length : Int) == 1) = false := beq_eq_false_iff_ne.mpr c16
                have c16b1 : ((t150.length : Int) != 1) = true := bne_iff_ne.mpr c16
                exact absurd ((Option.some.inj H).trans HLAW.out) (by decide)
            · rw [if_neg c15] at H
              have c15b0 : (t143 == 0) = false := beq_eq_false_iff_ne.mpr c15
              have c15b1 : (t143 != 0) = true := bne_iff_ne.mpr c15
              exact absurd ((Option.some.inj H).trans HLAW.out) (by decide)
          · rw [if_neg c14] at H
            have c14b0 : (t142 == 1) = false := beq_eq_false_iff_ne.mpr c14
            have c14b1 : (t142 != 1) = true := bne_iff_ne.mpr c14
            exact absurd ((Option.some.inj H).trans HLAW.out) (by decide)
        · rw [if_neg c13] at H
          have c13b0 : (t138 == 0) = false := beq_eq_false_iff_ne.mpr c13
          have c13b1 : (t138 != 0) = true := bne_iff_ne.mpr c13
          exact absurd ((Option.some.inj H).trans HLAW.out) (by decide)
      · rw [if_neg c12] at H
        have c12b0 : (t137 == 2) = false := beq_eq_false_iff_ne.mpr c12
        have c12b1 : (t137 != 2) = true := bne_iff_ne.mpr c12
        exact absurd ((Option.some.inj H).trans HLAW.out) (by decide)
    · rw [if_neg c11] at H
      have c11b0 : (t133 == 0) = false := beq_eq_false_iff_ne.mpr c11
      have c11b1 : (t133 != 0) = true := bne_iff_ne.mpr c11
      exact absurd ((Option.some.inj H).trans HLAW.out) (by decide)
  · rw [if_neg c10] at H
    have c10b0 : (t132 == 1) = false := beq_eq_false_iff_ne.mpr c10
    have c10b1 : (t132 != 1) = true := bne_iff_ne.mpr c10
    exact absurd ((Option.some.inj H).trans HLAW.out) (by decide)

-- NOT PRINTED: function 3 (besomlaw09_WeakForever)

end Go.Proofs.Ytdadleamaalhiac.GW
