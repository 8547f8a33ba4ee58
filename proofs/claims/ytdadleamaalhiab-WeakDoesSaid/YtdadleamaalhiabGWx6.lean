/- Made by gprint.py, this session's program over the kit's print program, out of the translation; the functions that it does not print are proved by hand (wip/given). Lean checks it. -/
import Derived.Test.YtdadleamaalhiabGWx0
import Derived.Test.YtdadleamaalhiabGWx1
import Derived.Test.YtdadleamaalhiabGWx2
import Derived.Test.YtdadleamaalhiabGWx3
import Derived.Test.YtdadleamaalhiabGWx5
namespace Go.Proofs.Ytdadleamaalhiab.GW
open Go.RowKit Go.Proofs.YtdadleamaalhiabW.PrintWords Go.Proofs.YtdadleamaalhiabW.PrintLast Go.Proofs.YtdadleamaalhiabW.PrintMore
attribute [local go_sem] max2_int min2_int max_two min_two max_three min_three max_four min_four   -- for this text's walks alone
set_option linter.unusedVariables false
set_option linter.unusedSimpArgs false

/-! ### besomref09_Handle: function 29 -/
def besomref09_Handle.f (k : Nat) (l0 : List Int) (a1 : Int) : Option (Int × Int) := (besomref09_Check.f k l0).bind fun t161 => (if t161 = 0 then (if a1 = 0 then (some (0, 7)) else ((besomref09_find.f k l0 a1).bind fun t162 => (if t162 = 0 then (some (0, 3)) else (some (t162, 0))))) else (some (0, 2)))
theorem besomref09_Handle.mono : ∀ a0 a1 k, LeO (besomref09_Handle.f k a0 a1) (besomref09_Handle.f (k + 1) a0 a1) := by
  intro a0 a1 k
  unfold besomref09_Handle.f
  repeat' first
      | (with_reducible exact besomref09_Check.mono _ _)
      | (with_reducible exact besomref09_find.mono _ _ _)
      | (with_reducible exact LeO.refl _)
      | (with_reducible exact LeO.none _)
      | (with_reducible refine LeO.ite ?_ ?_)
      | (with_reducible refine LeO.bind ?_ (fun _ => ?_))
      | exact besomref09_Check.mono _ _
      | exact besomref09_find.mono _ _ _
      | exact LeO.none _
      | refine LeO.ite ?_ ?_
      | refine LeO.bind ?_ (fun _ => ?_)
set_option maxHeartbeats 8000000 in
set_option maxRecDepth 100000 in
theorem besomref09_Handle.calls (k : Nat) (A0 : Option Addr) (c0 : Nat) (l0 : List Int) (a1 : Int) (r1 : Int) (r2 : Int) (w : World) (hr0 : Kd.C (Kd.int .u64) w A0 l0.length l0) (hc0 : l0.length ≤ c0) (h : besomref09_Handle.f k l0 a1 = some (r1, r2)) :
    Calls Try.prog 29 #[.slice A0 l0.length c0, .int .u64 a1] w fun e w' => e = .returned (.tuple #[.int .i64 r1, .int .i64 r2]) ∧ Drawn0 w w' := by
  have HR0 := Aside0.mk hr0
  have HC0 := Aside0.mk hc0
  clear hr0 hc0
  have H : ((besomref09_Check.f k l0).bind fun t161 => (if t161 = 0 then (if a1 = 0 then (some (0, 7)) else ((besomref09_find.f k l0 a1).bind fun t162 => (if t162 = 0 then (some (0, 3)) else (some (t162, 0))))) else (some (0, 2)))) = some (r1, r2) := h
  clear h
  replace H := Option.bind_eq_some_iff.mp H
  obtain ⟨t161, A30, H⟩ := H
  replace H : (if t161 = 0 then (if a1 = 0 then (some (0, 7)) else ((besomref09_find.f k l0 a1).bind fun t162 => (if t162 = 0 then (some (0, 3)) else (some (t162, 0))))) else (some (0, 2))) = some (r1, r2) := H
  have A3 := Aside0.mk A30
  clear A30
  by_cases c4 : t161 = 0
  · rw [if_pos c4] at H
    have c4b0 : (t161 == 0) = true := beq_iff_eq.mpr c4
    have c4b1 : (t161 != 0) = false := bne_eq_false_iff_eq.mpr c4
    clear c4
    by_cases c5 : a1 = 0
    · rw [if_pos c5] at H
      have c5b0 : (a1 == 0) = true := beq_iff_eq.mpr c5
      have c5b1 : (a1 != 0) = false := bne_eq_false_iff_eq.mpr c5
      clear c5
      simp only [Option.some.injEq, Prod.mk.injEq] at H
      obtain ⟨rfl, rfl⟩ := H
      go_enter Try.func29, Try.ntmps29
      go_wp2_with (first | ((with_reducible refine gate_callee (f := 33) rfl ?_); refine goesL_ (some 8) rfl rfl Try.func33 (by kernel_rfl) rfl #[.slice A0 l0.length c0] rfl (by (try simp only [List.map_toArray, List.map_cons, List.map_nil]); first | done | rfl | (simp only [List.length_drop, List.length_take]; rfl)) ?_; (with_reducible refine (besomref09_Check.calls k _ _ l0 t161 _ ?side1 ?side2 A3.out).mono ?_); (case side1 => repeat (first | exact HR0.out | (with_reducible refine Kd.C_alloc ?_ _) | (with_reducible refine Kd.C_drewN ?_ _) | (with_reducible refine Kd.C_drew ?_))); (case side2 => exact HC0.out); rintro e w' ⟨rfl, ⟨nd, rfl⟩⟩; refine ⟨_, rfl, ?_⟩))
      go_ret2
      exact ⟨by first | rfl | (simp; done) | (simp [*]; done), by repeat (first | exact Drawn0.refl _ | apply Drawn0.step)⟩
    · rw [if_neg c5] at H
      have c5b0 : (a1 == 0) = false := beq_eq_false_iff_ne.mpr c5
      have c5b1 : (a1 != 0) = true := bne_iff_ne.mpr c5
      replace H := Option.bind_eq_some_iff.mp H
      obtain ⟨t162, A60, H⟩ := H
      replace H : (if t162 = 0 then (some (0, 3)) else (some (t162, 0))) = some (r1, r2) := H
      have A6 := Aside0.mk A60
      clear A60
      by_cases c7 : t162 = 0
      · rw [if_pos c7] at H
        have c7b0 : (t162 == 0) = true := beq_iff_eq.mpr c7
        have c7b1 : (t162 != 0) = false := bne_eq_false_iff_eq.mpr c7
        clear c7
        simp only [Option.some.injEq, Prod.mk.injEq] at H
        obtain ⟨rfl, rfl⟩ := H
        go_enter Try.func29, Try.ntmps29
        go_wp2_with (first | ((with_reducible refine gate_callee (f := 33) rfl ?_); refine goesL_ (some 8) rfl rfl Try.func33 (by kernel_rfl) rfl #[.slice A0 l0.length c0] rfl (by (try simp only [List.map_toArray, List.map_cons, List.map_nil]); first | done | rfl | (simp only [List.length_drop, List.length_take]; rfl)) ?_; (with_reducible refine (besomref09_Check.calls k _ _ l0 t161 _ ?side1 ?side2 A3.out).mono ?_); (case side1 => repeat (first | exact HR0.out | (with_reducible refine Kd.C_alloc ?_ _) | (with_reducible refine Kd.C_drewN ?_ _) | (with_reducible refine Kd.C_drew ?_))); (case side2 => exact HC0.out); rintro e w' ⟨rfl, ⟨nd, rfl⟩⟩; refine ⟨_, rfl, ?_⟩) | ((with_reducible refine gate_callee (f := 54) rfl ?_); refine goesL_ (some 14) rfl rfl Try.func54 (by kernel_rfl) rfl #[.slice A0 l0.length c0, .int .u64 a1] rfl (by (try simp only [List.map_toArray, List.map_cons, List.map_nil]); first | done | rfl | (simp only [List.length_drop, List.length_take]; rfl)) ?_; (with_reducible refine (besomref09_find.calls k _ _ l0 a1 t162 _ ?side1 ?side2 A6.out).mono ?_); (case side1 => repeat (first | exact HR0.out | (with_reducible refine Kd.C_alloc ?_ _) | (with_reducible refine Kd.C_drewN ?_ _) | (with_reducible refine Kd.C_drew ?_))); (case side2 => exact HC0.out); rintro e w' ⟨rfl, ⟨nd, rfl⟩⟩; refine ⟨_, rfl, ?_⟩))
        go_ret2
        exact ⟨by first | rfl | (simp; done) | (simp [*]; done), by repeat (first | exact Drawn0.refl _ | apply Drawn0.step)⟩
      · rw [if_neg c7] at H
        have c7b0 : (t162 == 0) = false := beq_eq_false_iff_ne.mpr c7
        have c7b1 : (t162 != 0) = true := bne_iff_ne.mpr c7
        simp only [Option.some.injEq, Prod.mk.injEq] at H
        obtain ⟨rfl, rfl⟩ := H
        go_enter Try.func29, Try.ntmps29
        go_wp2_with (first | ((with_reducible refine gate_callee (f := 33) rfl ?_); refine goesL_ (some 8) rfl rfl Try.func33 (by kernel_rfl) rfl #[.slice A0 l0.length c0] rfl (by (try simp only [List.map_toArray, List.map_cons, List.map_nil]); first | done | rfl | (simp only [List.length_drop, List.length_take]; rfl)) ?_; (with_reducible refine (besomref09_Check.calls k _ _ l0 t161 _ ?side1 ?side2 A3.out).mono ?_); (case side1 => repeat (first | exact HR0.out | (with_reducible refine Kd.C_alloc ?_ _) | (with_reducible refine Kd.C_drewN ?_ _) | (with_reducible refine Kd.C_drew ?_))); (case side2 => exact HC0.out); rintro e w' ⟨rfl, ⟨nd, rfl⟩⟩; refine ⟨_, rfl, ?_⟩) | ((with_reducible refine gate_callee (f := 54) rfl ?_); refine goesL_ (some 14) rfl rfl Try.func54 (by kernel_rfl) rfl #[.slice A0 l0.length c0, .int .u64 a1] rfl (by (try simp only [List.map_toArray, List.map_cons, List.map_nil]); first | done | rfl | (simp only [List.length_drop, List.length_take]; rfl)) ?_; (with_reducible refine (besomref09_find.calls k _ _ l0 a1 t162 _ ?side1 ?side2 A6.out).mono ?_); (case side1 => repeat (first | exact HR0.out | (with_reducible refine Kd.C_alloc ?_ _) | (with_reducible refine Kd.C_drewN ?_ _) | (with_reducible refine Kd.C_drew ?_))); (case side2 => exact HC0.out); rintro e w' ⟨rfl, ⟨nd, rfl⟩⟩; refine ⟨_, rfl, ?_⟩))
        go_ret2
        exact ⟨by first | rfl | (simp; done) | (simp [*]; done), by repeat (first | exact Drawn0.refl _ | apply Drawn0.step)⟩
  · rw [if_neg c4] at H
    have c4b0 : (t161 == 0) = false := beq_eq_false_iff_ne.mpr c4
    have c4b1 : (t161 != 0) = true := bne_iff_ne.mpr c4
    simp only [Option.some.injEq, Prod.mk.injEq] at H
    obtain ⟨rfl, rfl⟩ := H
    go_enter Try.func29, Try.ntmps29
    go_wp2_with (first | ((with_reducible refine gate_callee (f := 33) rfl ?_); refine goesL_ (some 8) rfl rfl Try.func33 (by kernel_rfl) rfl #[.slice A0 l0.length c0] rfl (by (try simp only [List.map_toArray, List.map_cons, List.map_nil]); first | done | rfl | (simp only [List.length_drop, List.length_take]; rfl)) ?_; (with_reducible refine (besomref09_Check.calls k _ _ l0 t161 _ ?side1 ?side2 A3.out).mono ?_); (case side1 => repeat (first | exact HR0.out | (with_reducible refine Kd.C_alloc ?_ _) | (with_reducible refine Kd.C_drewN ?_ _) | (with_reducible refine Kd.C_drew ?_))); (case side2 => exact HC0.out); rintro e w' ⟨rfl, ⟨nd, rfl⟩⟩; refine ⟨_, rfl, ?_⟩))
    go_ret2
    exact ⟨by first | rfl | (simp; done) | (simp [*]; done), by repeat (first | exact Drawn0.refl _ | apply Drawn0.step)⟩

/-! ### besomlaw09_lives: function 30 -/
def besomlaw09_lives.f (k : Nat)  : Option (Bool) := (weak_Make.f k ([] : List Int) 16).bind fun bt163 => ((weak_Make.f k bt163.1 32).bind fun bt168 => ((weak_Make.f k bt168.1 16).bind fun bt173 => ((weak_Clear.f k bt173.1 (([16] : List Int))).bind fun bt181 => ((weak_Make.f k bt181.1 16).bind fun bt188 => ((weak_Get.f k bt188.1 1).bind fun bt193 => ((weak_Handle.f k bt188.1 32).bind fun bt195 => ((weak_Make.f k bt188.1 0).bind fun bt197 => ((weak_Get.f k bt188.1 4).bind fun bt202 => (if bt163.2.1 = 1 then (if bt163.2.2 = 0 then (if bt168.2.1 = 2 then (if bt168.2.2 = 0 then (if bt173.2.1 = 1 then (if bt173.2.2 = 0 then (if (bt181.2.1.length : Int) = 1 then (if 0 < (bt181.2.1.length : Int) then (if (rd bt181.2.1 0) = 1 then (if bt181.2.2 = 0 then (if bt188.2.1 = 3 then (if bt188.2.2 = 0 then (if bt193.1 = 0 then (if bt193.2 = 0 then (if bt195.1 = 2 then (if bt195.2 = 0 then (if bt197.2.2 = 7 then (if bt202.2 = 3 then ((weak_Check.f k bt188.1).bind fun t205 => (some (t205 == 0))) else (some false)) else (some false)) else (some false)) else (some false)) else (some false)) else (some false)) else (some false)) else (some false)) else (some false)) else (some false)) else (none)) else (some false)) else (some false)) else (some false)) else (some false)) else (some false)) else (some false)) else (some false))))))))))
theorem besomlaw09_lives.mono : ∀ k, LeO (besomlaw09_lives.f k ) (besomlaw09_lives.f (k + 1) ) := by
  intro  k
  unfold besomlaw09_lives.f
  repeat' first
      | (with_reducible exact weak_Check.mono _ _)
      | (with_reducible exact weak_Clear.mono _ _ _)
      | (with_reducible exact weak_Get.mono _ _ _)
      | (with_reducible exact weak_Handle.mono _ _ _)
      | (with_reducible exact weak_Make.mono _ _ _)
      | (with_reducible exact LeO.refl _)
      | (with_reducible exact LeO.none _)
      | (with_reducible refine LeO.ite ?_ ?_)
      | (with_reducible refine LeO.bind ?_ (fun _ => ?_))
      | exact weak_Check.mono _ _
      | exact weak_Clear.mono _ _ _
      | exact weak_Get.mono _ _ _
      | exact weak_Handle.mono _ _ _
      | exact weak_Make.mono _ _ _
      | exact LeO.none _
      | refine LeO.ite ?_ ?_
      | refine LeO.bind ?_ (fun _ => ?_)
theorem besomlaw09_lives.run_ : besomlaw09_lives.f 60 = some true := by decide +kernel
theorem besomlaw09_lives.true_ (k : Nat) (r : Bool) (h : besomlaw09_lives.f k = some r) : r = true := by
  have h1 := at_rounds (g := fun k => besomlaw09_lives.f k) besomlaw09_lives.mono (k := k) (k' := k + 60) (by omega) h
  have h2 := at_rounds (g := fun k => besomlaw09_lives.f k) besomlaw09_lives.mono (k := 60) (k' := k + 60) (by omega) besomlaw09_lives.run_
  replace h1 : besomlaw09_lives.f (k + 60) = some r := h1
  replace h2 : besomlaw09_lives.f (k + 60) = some true := h2
  rw [h1] at h2; exact Option.some.inj h2
set_option maxHeartbeats 8000000 in
set_option maxRecDepth 100000 in
theorem besomlaw09_lives.calls (k : Nat)  (r : Bool) (w : World) (h : besomlaw09_lives.f k  = some r) :
    Calls Try.prog 30 #[] w fun e w' => e = .returned (.bool r) ∧ Below w.heap.size w w' := by
  have HB := Aside0.mk (Below.refl w.heap.size w)
  have H : ((weak_Make.f k ([] : List Int) 16).bind fun bt163 => ((weak_Make.f k bt163.1 32).bind fun bt168 => ((weak_Make.f k bt168.1 16).bind fun bt173 => ((weak_Clear.f k bt173.1 (([16] : List Int))).bind fun bt181 => ((weak_Make.f k bt181.1 16).bind fun bt188 => ((weak_Get.f k bt188.1 1).bind fun bt193 => ((weak_Handle.f k bt188.1 32).bind fun bt195 => ((weak_Make.f k bt188.1 0).bind fun bt197 => ((weak_Get.f k bt188.1 4).bind fun bt202 => (if bt163.2.1 = 1 then (if bt163.2.2 = 0 then (if bt168.2.1 = 2 then (if bt168.2.2 = 0 then (if bt173.2.1 = 1 then (if bt173.2.2 = 0 then (if (bt181.2.1.length : Int) = 1 then (if 0 < (bt181.2.1.length : Int) then (if (rd bt181.2.1 0) = 1 then (if bt181.2.2 = 0 then (if bt188.2.1 = 3 then (if bt188.2.2 = 0 then (if bt193.1 = 0 then (if bt193.2 = 0 then (if bt195.1 = 2 then (if bt195.2 = 0 then (if bt197.2.2 = 7 then (if bt202.2 = 3 then ((weak_Check.f k bt188.1).bind fun t205 => (some (t205 == 0))) else (some false)) else (some false)) else (some false)) else (some false)) else (some false)) else (some false)) else (some false)) else (some false)) else (some false)) else (some false)) else (none)) else (some false)) else (some false)) else (some false)) else (some false)) else (some false)) else (some false)) else (some false))))))))))) = some r := h
  clear h
  have HLAW := Aside0.mk (besomlaw09_lives.true_ k r H)
  replace H := Option.bind_eq_some_iff.mp H
  obtain ⟨⟨t163, t164, t165⟩, A10, H⟩ := H
  replace H : ((weak_Make.f k t163 32).bind fun bt168 => ((weak_Make.f k bt168.1 16).bind fun bt173 => ((weak_Clear.f k bt173.1 (([16] : List Int))).bind fun bt181 => ((weak_Make.f k bt181.1 16).bind fun bt188 => ((weak_Get.f k bt188.1 1).bind fun bt193 => ((weak_Handle.f k bt188.1 32).bind fun bt195 => ((weak_Make.f k bt188.1 0).bind fun bt197 => ((weak_Get.f k bt188.1 4).bind fun bt202 => (if t164 = 1 then (if t165 = 0 then (if bt168.2.1 = 2 then (if bt168.2.2 = 0 then (if bt173.2.1 = 1 then (if bt173.2.2 = 0 then (if (bt181.2.1.length : Int) = 1 then (if 0 < (bt181.2.1.length : Int) then (if (rd bt181.2.1 0) = 1 then (if bt181.2.2 = 0 then (if bt188.2.1 = 3 then (if bt188.2.2 = 0 then (if bt193.1 = 0 then (if bt193.2 = 0 then (if bt195.1 = 2 then (if bt195.2 = 0 then (if bt197.2.2 = 7 then (if bt202.2 = 3 then ((weak_Check.f k bt188.1).bind fun t205 => (some (t205 == 0))) else (some false)) else (some false)) else (some false)) else (some false)) else (some false)) else (some false)) else (some false)) else (some false)) else (some false)) else (some false)) else (none)) else (some false)) else (some false)) else (some false)) else (some false)) else (some false)) else (some false)) else (some false)))))))))) = some r := H
  have A1 := Aside0.mk A10
  clear A10
  replace H := Option.bind_eq_some_iff.mp H
  obtain ⟨⟨t168, t169, t170⟩, A20, H⟩ := H
  replace H : ((weak_Make.f k t168 16).bind fun bt173 => ((weak_Clear.f k bt173.1 (([16] : List Int))).bind fun bt181 => ((weak_Make.f k bt181.1 16).bind fun bt188 => ((weak_Get.f k bt188.1 1).bind fun bt193 => ((weak_Handle.f k bt188.1 32).bind fun bt195 => ((weak_Make.f k bt188.1 0).bind fun bt197 => ((weak_Get.f k bt188.1 4).bind fun bt202 => (if t164 = 1 then (if t165 = 0 then (if t169 = 2 then (if t170 = 0 then (if bt173.2.1 = 1 then (if bt173.2.2 = 0 then (if (bt181.2.1.length : Int) = 1 then (if 0 < (bt181.2.1.length : Int) then (if (rd bt181.2.1 0) = 1 then (if bt181.2.2 = 0 then (if bt188.2.1 = 3 then (if bt188.2.2 = 0 then (if bt193.1 = 0 then (if bt193.2 = 0 then (if bt195.1 = 2 then (if bt195.2 = 0 then (if bt197.2.2 = 7 then (if bt202.2 = 3 then ((weak_Check.f k bt188.1).bind fun t205 => (some (t205 == 0))) else (some false)) else (some false)) else (some false)) else (some false)) else (some false)) else (some false)) else (some false)) else (some false)) else (some false)) else (some false)) else (none)) else (some false)) else (some false)) else (some false)) else (some false)) else (some false)) else (some false)) else (some false))))))))) = some r := H
  have A2 := Aside0.mk A20
  clear A20
  replace H := Option.bind_eq_some_iff.mp H
  obtain ⟨⟨t173, t174, t175⟩, A30, H⟩ := H
  replace H : ((weak_Clear.f k t173 (([16] : List Int))).bind fun bt181 => ((weak_Make.f k bt181.1 16).bind fun bt188 => ((weak_Get.f k bt188.1 1).bind fun bt193 => ((weak_Handle.f k bt188.1 32).bind fun bt195 => ((weak_Make.f k bt188.1 0).bind fun bt197 => ((weak_Get.f k bt188.1 4).bind fun bt202 => (if t164 = 1 then (if t165 = 0 then (if t169 = 2 then (if t170 = 0 then (if t174 = 1 then (if t175 = 0 then (if (bt181.2.1.length : Int) = 1 then (if 0 < (bt181.2.1.length : Int) then (if (rd bt181.2.1 0) = 1 then (if bt181.2.2 = 0 then (if bt188.2.1 = 3 then (if bt188.2.2 = 0 then (if bt193.1 = 0 then (if bt193.2 = 0 then (if bt195.1 = 2 then (if bt195.2 = 0 then (if bt197.2.2 = 7 then (if bt202.2 = 3 then ((weak_Check.f k bt188.1).bind fun t205 => (some (t205 == 0))) else (some false)) else (some false)) else (some false)) else (some false)) else (some false)) else (some false)) else (some false)) else (some false)) else (some false)) else (some false)) else (none)) else (some false)) else (some false)) else (some false)) else (some false)) else (some false)) else (some false)) else (some false)))))))) = some r := H
  have A3 := Aside0.mk A30
  clear A30
  obtain ⟨y178, hy178⟩ : ∃ y_ : List Int, y_ = (([16] : List Int)) := ⟨_, rfl⟩
  replace H : ((weak_Clear.f k t173 y178).bind fun bt181 => ((weak_Make.f k bt181.1 16).bind fun bt188 => ((weak_Get.f k bt188.1 1).bind fun bt193 => ((weak_Handle.f k bt188.1 32).bind fun bt195 => ((weak_Make.f k bt188.1 0).bind fun bt197 => ((weak_Get.f k bt188.1 4).bind fun bt202 => (if t164 = 1 then (if t165 = 0 then (if t169 = 2 then (if t170 = 0 then (if t174 = 1 then (if t175 = 0 then (if (bt181.2.1.length : Int) = 1 then (if 0 < (bt181.2.1.length : Int) then (if (rd bt181.2.1 0) = 1 then (if bt181.2.2 = 0 then (if bt188.2.1 = 3 then (if bt188.2.2 = 0 then (if bt193.1 = 0 then (if bt193.2 = 0 then (if bt195.1 = 2 then (if bt195.2 = 0 then (if bt197.2.2 = 7 then (if bt202.2 = 3 then ((weak_Check.f k bt188.1).bind fun t205 => (some (t205 == 0))) else (some false)) else (some false)) else (some false)) else (some false)) else (some false)) else (some false)) else (some false)) else (some false)) else (some false)) else (some false)) else (none)) else (some false)) else (some false)) else (some false)) else (some false)) else (some false)) else (some false)) else (some false)))))))) = some r := by first | (rw [hy178]; with_reducible exact H) | (have H2_ := (Option.bind_some _ _).symm.trans H; rw [hy178]; with_reducible exact H2_) | (have H2_ := (Option.bind_some _ _).symm.trans H; with_reducible exact H2_) | with_reducible exact H | (rw [hy178]; exact H) | exact H
  have Ny178 := Aside0.mk hy178
  clear hy178
  replace H := Option.bind_eq_some_iff.mp H
  obtain ⟨⟨t181, t182, t183⟩, A40, H⟩ := H
  replace H : ((weak_Make.f k t181 16).bind fun bt188 => ((weak_Get.f k bt188.1 1).bind fun bt193 => ((weak_Handle.f k bt188.1 32).bind fun bt195 => ((weak_Make.f k bt188.1 0).bind fun bt197 => ((weak_Get.f k bt188.1 4).bind fun bt202 => (if t164 = 1 then (if t165 = 0 then (if t169 = 2 then (if t170 = 0 then (if t174 = 1 then (if t175 = 0 then (if (t182.length : Int) = 1 then (if 0 < (t182.length : Int) then (if (rd t182 0) = 1 then (if t183 = 0 then (if bt188.2.1 = 3 then (if bt188.2.2 = 0 then (if bt193.1 = 0 then (if bt193.2 = 0 then (if bt195.1 = 2 then (if bt195.2 = 0 then (if bt197.2.2 = 7 then (if bt202.2 = 3 then ((weak_Check.f k bt188.1).bind fun t205 => (some (t205 == 0))) else (some false)) else (some false)) else (some false)) else (some false)) else (some false)) else (some false)) else (some false)) else (some false)) else (some false)) else (some false)) else (none)) else (some false)) else (some false)) else (some false)) else (some false)) else (some false)) else (some false)) else (some false))))))) = some r := H
  have A4 := Aside0.mk A40
  clear A40
  replace H := Option.bind_eq_some_iff.mp H
  obtain ⟨⟨t188, t189, t190⟩, A50, H⟩ := H
  replace H : ((weak_Get.f k t188 1).bind fun bt193 => ((weak_Handle.f k t188 32).bind fun bt195 => ((weak_Make.f k t188 0).bind fun bt197 => ((weak_Get.f k t188 4).bind fun bt202 => (if t164 = 1 then (if t165 = 0 then (if t169 = 2 then (if t170 = 0 then (if t174 = 1 then (if t175 = 0 then (if (t182.length : Int) = 1 then (if 0 < (t182.length : Int) then (if (rd t182 0) = 1 then (if t183 = 0 then (if t189 = 3 then (if t190 = 0 then (if bt193.1 = 0 then (if bt193.2 = 0 then (if bt195.1 = 2 then (if bt195.2 = 0 then (if bt197.2.2 = 7 then (if bt202.2 = 3 then ((weak_Check.f k t188).bind fun t205 => (some (t205 == 0))) else (some false)) else (some false)) else (some false)) else (some false)) else (some false)) else (some false)) else (some false)) else (some false)) else (some false)) else (some false)) else (none)) else (some false)) else (some false)) else (some false)) else (some false)) else (some false)) else (some false)) else (some false)))))) = some r := H
  have A5 := Aside0.mk A50
  clear A50
  replace H := Option.bind_eq_some_iff.mp H
  obtain ⟨⟨t193, t194⟩, A60, H⟩ := H
  replace H : ((weak_Handle.f k t188 32).bind fun bt195 => ((weak_Make.f k t188 0).bind fun bt197 => ((weak_Get.f k t188 4).bind fun bt202 => (if t164 = 1 then (if t165 = 0 then (if t169 = 2 then (if t170 = 0 then (if t174 = 1 then (if t175 = 0 then (if (t182.length : Int) = 1 then (if 0 < (t182.length : Int) then (if (rd t182 0) = 1 then (if t183 = 0 then (if t189 = 3 then (if t190 = 0 then (if t193 = 0 then (if t194 = 0 then (if bt195.1 = 2 then (if bt195.2 = 0 then (if bt197.2.2 = 7 then (if bt202.2 = 3 then ((weak_Check.f k t188).bind fun t205 => (some (t205 == 0))) else (some false)) else (some false)) else (some false)) else (some false)) else (some false)) else (some false)) else (some false)) else (some false)) else (some false)) else (some false)) else (none)) else (some false)) else (some false)) else (some false)) else (some false)) else (some false)) else (some false)) else (some false))))) = some r := H
  have A6 := Aside0.mk A60
  clear A60
  replace H := Option.bind_eq_some_iff.mp H
  obtain ⟨⟨t195, t196⟩, A70, H⟩ := H
  replace H : ((weak_Make.f k t188 0).bind fun bt197 => ((weak_Get.f k t188 4).bind fun bt202 => (if t164 = 1 then (if t165 = 0 then (if t169 = 2 then (if t170 = 0 then (if t174 = 1 then (if t175 = 0 then (if (t182.length : Int) = 1 then (if 0 < (t182.length : Int) then (if (rd t182 0) = 1 then (if t183 = 0 then (if t189 = 3 then (if t190 = 0 then (if t193 = 0 then (if t194 = 0 then (if t195 = 2 then (if t196 = 0 then (if bt197.2.2 = 7 then (if bt202.2 = 3 then ((weak_Check.f k t188).bind fun t205 => (some (t205 == 0))) else (some false)) else (some false)) else (some false)) else (some false)) else (some false)) else (some false)) else (some false)) else (some false)) else (some false)) else (some false)) else (none)) else (some false)) else (some false)) else (some false)) else (some false)) else (some false)) else (some false)) else (some false)))) = some r := H
  have A7 := Aside0.mk A70
  clear A70
  replace H := Option.bind_eq_some_iff.mp H
  obtain ⟨⟨t197, t198, t199⟩, A80, H⟩ := H
  replace H : ((weak_Get.f k t188 4).bind fun bt202 => (if t164 = 1 then (if t165 = 0 then (if t169 = 2 then (if t170 = 0 then (if t174 = 1 then (if t175 = 0 then (if (t182.length : Int) = 1 then (if 0 < (t182.length : Int) then (if (rd t182 0) = 1 then (if t183 = 0 then (if t189 = 3 then (if t190 = 0 then (if t193 = 0 then (if t194 = 0 then (if t195 = 2 then (if t196 = 0 then (if t199 = 7 then (if bt202.2 = 3 then ((weak_Check.f k t188).bind fun t205 => (some (t205 == 0))) else (some false)) else (some false)) else (some false)) else (some false)) else (some false)) else (some false)) else (some false)) else (some false)) else (some false)) else (some false)) else (none)) else (some false)) else (some false)) else (some false)) else (some false)) else (some false)) else (some false)) else (some false))) = some r := H
  have A8 := Aside0.mk A80
  clear A80
  replace H := Option.bind_eq_some_iff.mp H
  obtain ⟨⟨t202, t203⟩, A90, H⟩ := H
  replace H : (if t164 = 1 then (if t165 = 0 then (if t169 = 2 then (if t170 = 0 then (if t174 = 1 then (if t175 = 0 then (if (t182.length : Int) = 1 then (if 0 < (t182.length : Int) then (if (rd t182 0) = 1 then (if t183 = 0 then (if t189 = 3 then (if t190 = 0 then (if t193 = 0 then (if t194 = 0 then (if t195 = 2 then (if t196 = 0 then (if t199 = 7 then (if t203 = 3 then ((weak_Check.f k t188).bind fun t205 => (some (t205 == 0))) else (some false)) else (some false)) else (some false)) else (some false)) else (some false)) else (some false)) else (some false)) else (some false)) else (some false)) else (some false)) else (none)) else (some false)) else (some false)) else (some false)) else (some false)) else (some false)) else (some false)) else (some false)) = some r := H
  have A9 := Aside0.mk A90
  clear A90
  by_cases c10 : t164 = 1
  · rw [if_pos c10] at H
    have c10b0 : (t164 == 1) = true := beq_iff_eq.mpr c10
    have c10b1 : (t164 != 1) = false := bne_eq_false_iff_eq.mpr c10
    clear c10
    by_cases c11 : t165 = 0
    · rw [if_pos c11] at H
      have c11b0 : (t165 == 0) = true := beq_iff_eq.mpr c11
      have c11b1 : (t165 != 0) = false := bne_eq_false_iff_eq.mpr c11
      clear c11
      by_cases c12 : t169 = 2
      · rw [if_pos c12] at H
        have c12b0 : (t169 == 2) = true := beq_iff_eq.mpr c12
        have c12b1 : (t169 != 2) = false := bne_eq_false_iff_eq.mpr c12
        clear c12
        by_cases c13 : t170 = 0
        · rw [if_pos c13] at H
          have c13b0 : (t170 == 0) = true := beq_iff_eq.mpr c13
          have c13b1 : (t170 != 0) = false := bne_eq_false_iff_eq.mpr c13
          clear c13
          by_cases c14 : t174 = 1
          · rw [if_pos c14] at H
            have c14b0 : (t174 == 1) = true := beq_iff_eq.mpr c14
            have c14b1 : (t174 != 1) = false := bne_eq_false_iff_eq.mpr c14
            clear c14
            by_cases c15 : t175 = 0
            · rw [if_pos c15] at H
              have c15b0 : (t175 == 0) = true := beq_iff_eq.mpr c15
              have c15b1 : (t175 != 0) = false := bne_eq_false_iff_eq.mpr c15
              clear c15
              by_cases c16 : (t182.length : Int) = 1
              · rw [if_pos c16] at H
                have c16b0 : ((t182.length : Int) == 1) = true := beq_iff_eq.mpr c16
                have c16b1 : ((t182.length : Int) != 1) = false := bne_eq_false_iff_eq.mpr c16
                clear c16
                by_cases c17 : 0 < (t182.length : Int)
                · rw [if_pos c17] at H
                  have c17b0 : decide (0 < (t182.length : Int)) = true := decide_eq_true c17
                  have c17b1 : decide (0 < t182.length) = true := decide_eq_true (by omega)
                  clear c17
                  by_cases c18 : (rd t182 0) = 1
                  · rw [if_pos c18] at H
                    have c18b0 : ((rd t182 0) == 1) = true := beq_iff_eq.mpr c18
                    have c18b1 : ((rd t182 0) != 1) = false := bne_eq_false_iff_eq.mpr c18
                    clear c18
                    by_cases c19 : t183 = 0
                    · rw [if_pos c19] at H
                      have c19b0 : (t183 == 0) = true := beq_iff_eq.mpr c19
                      have c19b1 : (t183 != 0) = false := bne_eq_false_iff_eq.mpr c19
                      clear c19
                      by_cases c20 : t189 = 3
                      · rw [if_pos c20] at H
                        have c20b0 : (t189 == 3) = true := beq_iff_eq.mpr c20
                        have c20b1 : (t189 != 3) = false := bne_eq_false_iff_eq.mpr c20
                        clear c20
                        by_cases c21 : t190 = 0
                        · rw [if_pos c21] at H
                          have c21b0 : (t190 == 0) = true := beq_iff_eq.mpr c21
                          have c21b1 : (t190 != 0) = false := bne_eq_false_iff_eq.mpr c21
                          clear c21
                          by_cases c22 : t193 = 0
                          · rw [if_pos c22] at H
                            have c22b0 : (t193 == 0) = true := beq_iff_eq.mpr c22
                            have c22b1 : (t193 != 0) = false := bne_eq_false_iff_eq.mpr c22
                            clear c22
                            by_cases c23 : t194 = 0
                            · rw [if_pos c23] at H
                              have c23b0 : (t194 == 0) = true := beq_iff_eq.mpr c23
                              have c23b1 : (t194 != 0) = false := bne_eq_false_iff_eq.mpr c23
                              clear c23
                              by_cases c24 : t195 = 2
                              · rw [if_pos c24] at H
                                have c24b0 : (t195 == 2) = true := beq_iff_eq.mpr c24
                                have c24b1 : (t195 != 2) = false := bne_eq_false_iff_eq.mpr c24
                                clear c24
                                by_cases c25 : t196 = 0
                                · rw [if_pos c25] at H
                                  have c25b0 : (t196 == 0) = true := beq_iff_eq.mpr c25
                                  have c25b1 : (t196 != 0) = false := bne_eq_false_iff_eq.mpr c25
                                  clear c25
                                  by_cases c26 : t199 = 7
                                  · rw [if_pos c26] at H
                                    have c26b0 : (t199 == 7) = true := beq_iff_eq.mpr c26
                                    have c26b1 : (t199 != 7) = false := bne_eq_false_iff_eq.mpr c26
                                    clear c26
                                    by_cases c27 : t203 = 3
                                    · rw [if_pos c27] at H
                                      have c27b0 : (t203 == 3) = true := beq_iff_eq.mpr c27
                                      have c27b1 : (t203 != 3) = false := bne_eq_false_iff_eq.mpr c27
                                      clear c27
                                      replace H := Option.bind_eq_some_iff.mp H
                                      obtain ⟨t205, A280, H⟩ := H
                                      replace H : (some (t205 == 0)) = some r := H
                                      have A28 := Aside0.mk A280
                                      clear A280
                                      obtain rfl := Option.some.inj H
                                      go_enter Try.func30, Try.ntmps30
                                      go_wp2_with (first | ((with_reducible refine gate_callee (f := 22) rfl ?_); refine goesL_ (some 22) rfl rfl Try.func22 (by kernel_rfl) rfl #[.slice none 0 0, .int .u64 16] rfl (by (try simp only [List.map_toArray, List.map_cons, List.map_nil]); first | done | rfl | (simp only [List.length_drop, List.length_take]; rfl)) ?_; (refine (weak_Make.calls k _ _ ([] : List Int) 16 t163 t164 t165 _ ?side1 ?side2 A1.out).mono ?_); (case side1 => exact Kd.C_nil _ _); (case side2 => exact Nat.le_refl _); rintro e w29 ⟨v166, rfl, ho0, hb⟩; refine ⟨_, rfl, ?_⟩; have n0_ := Aside0.mk (Kd.R_lower ho0 (below_size (by repeat (first | (with_reducible first | exact HB.out | apply below_alloc | apply pw_below_drewN | apply below_drew1) | exact HB.out)))); have n1_ := Aside0.mk (below_step (by repeat (first | (with_reducible first | exact HB.out | apply below_alloc | apply pw_below_drewN | apply below_drew1) | exact HB.out)) hb); clear HB; have HO167 := n0_; have HB := n1_; clear n0_ n1_; (try clear hb); (try clear hb2); (try clear hk); (try clear hi); (try clear ho0); obtain ⟨Ao30, co30, eo30⟩ := Kd.R_slice HO167.out; subst eo30) | ((with_reducible refine gate_callee (f := 22) rfl ?_); refine goesL_ (some 28) rfl rfl Try.func22 (by kernel_rfl) rfl #[.slice Ao30 t163.length co30, .int .u64 32] rfl (by (try simp only [List.map_toArray, List.map_cons, List.map_nil]); first | done | rfl | (simp only [List.length_drop, List.length_take]; rfl)) ?_; (with_reducible refine (weak_Make.calls k _ _ t163 32 t168 t169 t170 _ ?side1 ?side2 A2.out).mono ?_); (case side1 => repeat (first | exact (Kd.R_reads' HO167.out).2.2 | (with_reducible refine Kd.C_alloc ?_ _) | (with_reducible refine Kd.C_drewN ?_ _) | (with_reducible refine Kd.C_drew ?_))); (case side2 => exact (Kd.R_reads' HO167.out).2.1); rintro e w31 ⟨v171, rfl, ho0, hb⟩; refine ⟨_, rfl, ?_⟩; have n0_ := Aside0.mk (Kd.R_elder' (by (with_reducible repeat (first | apply Kd.R_alloc | apply Kd.R_drewN | apply Kd.R_drew)); exact HO167.out) (Kd.R_base ho0) hb); have n1_ := Aside0.mk (Kd.R_lower (Kd.R_new' ho0 (Kd.R_lt (by (with_reducible repeat (first | apply Kd.R_alloc | apply Kd.R_drewN | apply Kd.R_drew)); exact HO167.out))) (below_size (by repeat (first | (with_reducible first | exact HB.out | apply below_alloc | apply pw_below_drewN | apply below_drew1) | exact HB.out)))); have n2_ := Aside0.mk (below_step (by repeat (first | (with_reducible first | exact HB.out | apply below_alloc | apply pw_below_drewN | apply below_drew1) | exact HB.out)) hb); clear HO167; clear HB; have HO167 := n0_; have HO172 := n1_; have HB := n2_; clear n0_ n1_ n2_; (try clear hb); (try clear hb2); (try clear hk); (try clear hi); (try clear ho0); obtain ⟨Ao32, co32, eo32⟩ := Kd.R_slice HO172.out; subst eo32) | ((with_reducible refine gate_callee (f := 22) rfl ?_); refine goesL_ (some 34) rfl rfl Try.func22 (by kernel_rfl) rfl #[.slice Ao32 t168.length co32, .int .u64 16] rfl (by (try simp only [List.map_toArray, List.map_cons, List.map_nil]); first | done | rfl | (simp only [List.length_drop, List.length_take]; rfl)) ?_; (with_reducible refine (weak_Make.calls k _ _ t168 16 t173 t174 t175 _ ?side1 ?side2 A3.out).mono ?_); (case side1 => repeat (first | exact (Kd.R_reads' HO172.out).2.2 | (with_reducible refine Kd.C_alloc ?_ _) | (with_reducible refine Kd.C_drewN ?_ _) | (with_reducible refine Kd.C_drew ?_))); (case side2 => exact (Kd.R_reads' HO172.out).2.1); rintro e w33 ⟨v176, rfl, ho0, hb⟩; refine ⟨_, rfl, ?_⟩; have n0_ := Aside0.mk (Kd.R_elder' (by (with_reducible repeat (first | apply Kd.R_alloc | apply Kd.R_drewN | apply Kd.R_drew)); exact HO167.out) (Kd.R_base ho0) hb); have n1_ := Aside0.mk (Kd.R_elder' (by (with_reducible repeat (first | apply Kd.R_alloc | apply Kd.R_drewN | apply Kd.R_drew)); exact HO172.out) (Kd.R_base ho0) hb); have n2_ := Aside0.mk (Kd.R_lower (Kd.R_new' (Kd.R_new' ho0 (Kd.R_lt (by (with_reducible repeat (first | apply Kd.R_alloc | apply Kd.R_drewN | apply Kd.R_drew)); exact HO167.out))) (Kd.R_lt (by (with_reducible repeat (first | apply Kd.R_alloc | apply Kd.R_drewN | apply Kd.R_drew)); exact HO172.out))) (below_size (by repeat (first | (with_reducible first | exact HB.out | apply below_alloc | apply pw_below_drewN | apply below_drew1) | exact HB.out)))); have n3_ := Aside0.mk (below_step (by repeat (first | (with_reducible first | exact HB.out | apply below_alloc | apply pw_below_drewN | apply below_drew1) | exact HB.out)) hb); clear HO167; clear HO172; clear HB; have HO167 := n0_; have HO172 := n1_; have HO177 := n2_; have HB := n3_; clear n0_ n1_ n2_ n3_; (try clear hb); (try clear hb2); (try clear hk); (try clear hi); (try clear ho0)) | ((with_reducible refine gate_dst (N := 40) rfl ?_); (try (refine gate_guard (by rfl) ?_; dsimp only)); refine Kd.R_lit (Kd.int .u64) _ 31 ?hg (N := 40) ?hd (xs := ([16] : List Int)) (inner := [.int .u64 16]) (ok := fun _ => True) (okp := fun _ => True) ?hr ?hp (fun _ hk => hk) trivial (Below.refl _ _) (Nat.le_refl _) (by simp) ?_; (case hd => rfl); (case hg => rfl); (case hr => first | (go_simp; done) | (go_simp; rfl)); (case hp => exact (Reps.one (show Kd.M (Kd.int .u64) _ _ _ 16 [.int .u64 16] from rfl) (Reps.none _ _))); intro v179 w34 ho35 hb hg_ hnew_; clear hg_ hnew_; (first | rw [← Ny178.out] at ho35 | (simp only [Int.reduceToNat] at ho35; rw [← Ny178.out] at ho35)); have n0_ := Aside0.mk (Kd.R_elder' (by (with_reducible repeat (first | apply Kd.R_alloc | apply Kd.R_drewN | apply Kd.R_drew)); exact HO167.out) (Kd.R_base ho35) hb); have n1_ := Aside0.mk (Kd.R_elder' (by (with_reducible repeat (first | apply Kd.R_alloc | apply Kd.R_drewN | apply Kd.R_drew)); exact HO172.out) (Kd.R_base ho35) hb); have n2_ := Aside0.mk (Kd.R_elder' (by (with_reducible repeat (first | apply Kd.R_alloc | apply Kd.R_drewN | apply Kd.R_drew)); exact HO177.out) (Kd.R_base ho35) hb); have n3_ := Aside0.mk (Kd.R_lower (Kd.R_new' (Kd.R_new' (Kd.R_new' ho35 (Kd.R_lt (by (with_reducible repeat (first | apply Kd.R_alloc | apply Kd.R_drewN | apply Kd.R_drew)); exact HO167.out))) (Kd.R_lt (by (with_reducible repeat (first | apply Kd.R_alloc | apply Kd.R_drewN | apply Kd.R_drew)); exact HO172.out))) (Kd.R_lt (by (with_reducible repeat (first | apply Kd.R_alloc | apply Kd.R_drewN | apply Kd.R_drew)); exact HO177.out))) (below_size (by repeat (first | (with_reducible first | exact HB.out | apply below_alloc | apply pw_below_drewN | apply below_drew1) | exact HB.out)))); have n4_ := Aside0.mk (below_step (by repeat (first | (with_reducible first | exact HB.out | apply below_alloc | apply pw_below_drewN | apply below_drew1) | exact HB.out)) hb); clear HO167; clear HO172; clear HO177; clear HB; have HO167 := n0_; have HO172 := n1_; have HO177 := n2_; have HO180 := n3_; have HB := n4_; clear n0_ n1_ n2_ n3_ n4_; clear hb ho35; obtain ⟨Ao36, co36, eo36⟩ := Kd.R_slice HO177.out; subst eo36; obtain ⟨Ao37, co37, eo37⟩ := Kd.R_slice HO180.out; subst eo37) | ((with_reducible refine gate_callee (f := 26) rfl ?_); refine goesL_ (some 41) rfl rfl Try.func26 (by kernel_rfl) rfl #[.slice Ao36 t173.length co36, .slice Ao37 y178.length co37] rfl (by (try simp only [List.map_toArray, List.map_cons, List.map_nil]); first | done | rfl | (simp only [List.length_drop, List.length_take]; rfl)) ?_; (with_reducible refine (weak_Clear.calls k _ _ t173 _ _ y178 t181 t182 t183 _ ?side1 ?side2 ?side3 ?side4 A4.out).mono ?_); (case side1 => repeat (first | exact (Kd.R_reads' HO177.out).2.2 | (with_reducible refine Kd.C_alloc ?_ _) | (with_reducible refine Kd.C_drewN ?_ _) | (with_reducible refine Kd.C_drew ?_))); (case side2 => exact (Kd.R_reads' HO177.out).2.1); (case side3 => repeat (first | exact (Kd.R_reads' HO180.out).2.2 | (with_reducible refine Kd.C_alloc ?_ _) | (with_reducible refine Kd.C_drewN ?_ _) | (with_reducible refine Kd.C_drew ?_))); (case side4 => exact (Kd.R_reads' HO180.out).2.1); rintro e w38 ⟨v184, v186, rfl, ho0, ho1, hb⟩; refine ⟨_, rfl, ?_⟩; have n0_ := Aside0.mk (Kd.R_elder' (by (with_reducible repeat (first | apply Kd.R_alloc | apply Kd.R_drewN | apply Kd.R_drew)); exact HO167.out) (Kd.R_base ho0) hb); have n1_ := Aside0.mk (Kd.R_elder' (by (with_reducible repeat (first | apply Kd.R_alloc | apply Kd.R_drewN | apply Kd.R_drew)); exact HO172.out) (Kd.R_base ho0) hb); have n2_ := Aside0.mk (Kd.R_elder' (by (with_reducible repeat (first | apply Kd.R_alloc | apply Kd.R_drewN | apply Kd.R_drew)); exact HO177.out) (Kd.R_base ho0) hb); have n3_ := Aside0.mk (Kd.R_elder' (by (with_reducible repeat (first | apply Kd.R_alloc | apply Kd.R_drewN | apply Kd.R_drew)); exact HO180.out) (Kd.R_base ho0) hb); have n4_ := Aside0.mk (Kd.R_lower (Kd.R_new' (Kd.R_new' (Kd.R_new' (Kd.R_new' ho0 (Kd.R_lt (by (with_reducible repeat (first | apply Kd.R_alloc | apply Kd.R_drewN | apply Kd.R_drew)); exact HO167.out))) (Kd.R_lt (by (with_reducible repeat (first | apply Kd.R_alloc | apply Kd.R_drewN | apply Kd.R_drew)); exact HO172.out))) (Kd.R_lt (by (with_reducible repeat (first | apply Kd.R_alloc | apply Kd.R_drewN | apply Kd.R_drew)); exact HO177.out))) (Kd.R_lt (by (with_reducible repeat (first | apply Kd.R_alloc | apply Kd.R_drewN | apply Kd.R_drew)); exact HO180.out))) (below_size (by repeat (first | (with_reducible first | exact HB.out | apply below_alloc | apply pw_below_drewN | apply below_drew1) | exact HB.out)))); have n5_ := Aside0.mk (Kd.R_lower ho1 (below_size (by repeat (first | (with_reducible first | exact HB.out | apply below_alloc | apply pw_below_drewN | apply below_drew1) | exact HB.out)))); have n6_ := Aside0.mk (below_step (by repeat (first | (with_reducible first | exact HB.out | apply below_alloc | apply pw_below_drewN | apply below_drew1) | exact HB.out)) hb); clear HO167; clear HO172; clear HO177; clear HO180; clear HB; have HO167 := n0_; have HO172 := n1_; have HO177 := n2_; have HO180 := n3_; have HO185 := n4_; have HO187 := n5_; have HB := n6_; clear n0_ n1_ n2_ n3_ n4_ n5_ n6_; (try clear hb); (try clear hb2); (try clear hk); (try clear hi); (try clear ho0); (try clear ho1); obtain ⟨Ao39, co39, eo39⟩ := Kd.R_slice HO185.out; subst eo39) | ((with_reducible refine gate_callee (f := 22) rfl ?_); refine goesL_ (some 47) rfl rfl Try.func22 (by kernel_rfl) rfl #[.slice Ao39 t181.length co39, .int .u64 16] rfl (by (try simp only [List.map_toArray, List.map_cons, List.map_nil]); first | done | rfl | (simp only [List.length_drop, List.length_take]; rfl)) ?_; (with_reducible refine (weak_Make.calls k _ _ t181 16 t188 t189 t190 _ ?side1 ?side2 A5.out).mono ?_); (case side1 => repeat (first | exact (Kd.R_reads' HO185.out).2.2 | (with_reducible refine Kd.C_alloc ?_ _) | (with_reducible refine Kd.C_drewN ?_ _) | (with_reducible refine Kd.C_drew ?_))); (case side2 => exact (Kd.R_reads' HO185.out).2.1); rintro e w40 ⟨v191, rfl, ho0, hb⟩; refine ⟨_, rfl, ?_⟩; have n0_ := Aside0.mk (Kd.R_elder' (by (with_reducible repeat (first | apply Kd.R_alloc | apply Kd.R_drewN | apply Kd.R_drew)); exact HO167.out) (Kd.R_base ho0) hb); have n1_ := Aside0.mk (Kd.R_elder' (by (with_reducible repeat (first | apply Kd.R_alloc | apply Kd.R_drewN | apply Kd.R_drew)); exact HO172.out) (Kd.R_base ho0) hb); have n2_ := Aside0.mk (Kd.R_elder' (by (with_reducible repeat (first | apply Kd.R_alloc | apply Kd.R_drewN | apply Kd.R_drew)); exact HO177.out) (Kd.R_base ho0) hb); have n3_ := Aside0.mk (Kd.R_elder' (by (with_reducible repeat (first | apply Kd.R_alloc | apply Kd.R_drewN | apply Kd.R_drew)); exact HO180.out) (Kd.R_base ho0) hb); have n4_ := Aside0.mk (Kd.R_elder' (by (with_reducible repeat (first | apply Kd.R_alloc | apply Kd.R_drewN | apply Kd.R_drew)); exact HO185.out) (Kd.R_base ho0) hb); have n5_ := Aside0.mk (Kd.R_below (by (with_reducible repeat (first | apply Kd.R_alloc | apply Kd.R_drewN | apply Kd.R_drew)); exact HO187.out) hb); have n6_ := Aside0.mk (Kd.R_lower (Kd.R_new' (Kd.R_new' (Kd.R_new' (Kd.R_new' (Kd.R_new' ho0 (Kd.R_lt (by (with_reducible repeat (first | apply Kd.R_alloc | apply Kd.R_drewN | apply Kd.R_drew)); exact HO167.out))) (Kd.R_lt (by (with_reducible repeat (first | apply Kd.R_alloc | apply Kd.R_drewN | apply Kd.R_drew)); exact HO172.out))) (Kd.R_lt (by (with_reducible repeat (first | apply Kd.R_alloc | apply Kd.R_drewN | apply Kd.R_drew)); exact HO177.out))) (Kd.R_lt (by (with_reducible repeat (first | apply Kd.R_alloc | apply Kd.R_drewN | apply Kd.R_drew)); exact HO180.out))) (Kd.R_lt (by (with_reducible repeat (first | apply Kd.R_alloc | apply Kd.R_drewN | apply Kd.R_drew)); exact HO185.out))) (below_size (by repeat (first | (with_reducible first | exact HB.out | apply below_alloc | apply pw_below_drewN | apply below_drew1) | exact HB.out)))); have n7_ := Aside0.mk (below_step (by repeat (first | (with_reducible first | exact HB.out | apply below_alloc | apply pw_below_drewN | apply below_drew1) | exact HB.out)) hb); clear HO167; clear HO172; clear HO177; clear HO180; clear HO185; clear HO187; clear HB; have HO167 := n0_; have HO172 := n1_; have HO177 := n2_; have HO180 := n3_; have HO185 := n4_; have HO187 := n5_; have HO192 := n6_; have HB := n7_; clear n0_ n1_ n2_ n3_ n4_ n5_ n6_ n7_; (try clear hb); (try clear hb2); (try clear hk); (try clear hi); (try clear ho0); obtain ⟨Ao41, co41, eo41⟩ := Kd.R_slice HO192.out; subst eo41) | ((with_reducible refine gate_callee (f := 24) rfl ?_); refine goesL_ (some 53) rfl rfl Try.func24 (by kernel_rfl) rfl #[.slice Ao41 t188.length co41, .int .i64 1] rfl (by (try simp only [List.map_toArray, List.map_cons, List.map_nil]); first | done | rfl | (simp only [List.length_drop, List.length_take]; rfl)) ?_; (with_reducible refine (weak_Get.calls k _ _ t188 1 t193 t194 _ ?side1 ?side2 A6.out).mono ?_); (case side1 => repeat (first | exact (Kd.R_reads' HO192.out).2.2 | (with_reducible refine Kd.C_alloc ?_ _) | (with_reducible refine Kd.C_drewN ?_ _) | (with_reducible refine Kd.C_drew ?_))); (case side2 => exact (Kd.R_reads' HO192.out).2.1); rintro e w' ⟨rfl, ⟨nd, rfl⟩⟩; refine ⟨_, rfl, ?_⟩) | ((with_reducible refine gate_callee (f := 28) rfl ?_); refine goesL_ (some 58) rfl rfl Try.func28 (by kernel_rfl) rfl #[.slice Ao41 t188.length co41, .int .u64 32] rfl (by (try simp only [List.map_toArray, List.map_cons, List.map_nil]); first | done | rfl | (simp only [List.length_drop, List.length_take]; rfl)) ?_; (with_reducible refine (weak_Handle.calls k _ _ t188 32 t195 t196 _ ?side1 ?side2 A7.out).mono ?_); (case side1 => repeat (first | exact (Kd.R_reads' HO192.out).2.2 | (with_reducible refine Kd.C_alloc ?_ _) | (with_reducible refine Kd.C_drewN ?_ _) | (with_reducible refine Kd.C_drew ?_))); (case side2 => exact (Kd.R_reads' HO192.out).2.1); rintro e w' ⟨rfl, ⟨nd, rfl⟩⟩; refine ⟨_, rfl, ?_⟩) | ((with_reducible refine gate_callee (f := 22) rfl ?_); refine goesL_ (some 63) rfl rfl Try.func22 (by kernel_rfl) rfl #[.slice Ao41 t188.length co41, .int .u64 0] rfl (by (try simp only [List.map_toArray, List.map_cons, List.map_nil]); first | done | rfl | (simp only [List.length_drop, List.length_take]; rfl)) ?_; (with_reducible refine (weak_Make.calls k _ _ t188 0 t197 t198 t199 _ ?side1 ?side2 A8.out).mono ?_); (case side1 => repeat (first | exact (Kd.R_reads' HO192.out).2.2 | (with_reducible refine Kd.C_alloc ?_ _) | (with_reducible refine Kd.C_drewN ?_ _) | (with_reducible refine Kd.C_drew ?_))); (case side2 => exact (Kd.R_reads' HO192.out).2.1); rintro e w42 ⟨v200, rfl, ho0, hb⟩; refine ⟨_, rfl, ?_⟩; have n0_ := Aside0.mk (Kd.R_elder' (by (with_reducible repeat (first | apply Kd.R_alloc | apply Kd.R_drewN | apply Kd.R_drew)); exact HO167.out) (Kd.R_base ho0) hb); have n1_ := Aside0.mk (Kd.R_elder' (by (with_reducible repeat (first | apply Kd.R_alloc | apply Kd.R_drewN | apply Kd.R_drew)); exact HO172.out) (Kd.R_base ho0) hb); have n2_ := Aside0.mk (Kd.R_elder' (by (with_reducible repeat (first | apply Kd.R_alloc | apply Kd.R_drewN | apply Kd.R_drew)); exact HO177.out) (Kd.R_base ho0) hb); have n3_ := Aside0.mk (Kd.R_elder' (by (with_reducible repeat (first | apply Kd.R_alloc | apply Kd.R_drewN | apply Kd.R_drew)); exact HO180.out) (Kd.R_base ho0) hb); have n4_ := Aside0.mk (Kd.R_elder' (by (with_reducible repeat (first | apply Kd.R_alloc | apply Kd.R_drewN | apply Kd.R_drew)); exact HO185.out) (Kd.R_base ho0) hb); have n5_ := Aside0.mk (Kd.R_below (by (with_reducible repeat (first | apply Kd.R_alloc | apply Kd.R_drewN | apply Kd.R_drew)); exact HO187.out) hb); have n6_ := Aside0.mk (Kd.R_elder' (by (with_reducible repeat (first | apply Kd.R_alloc | apply Kd.R_drewN | apply Kd.R_drew)); exact HO192.out) (Kd.R_base ho0) hb); have n7_ := Aside0.mk (Kd.R_lower (Kd.R_new' (Kd.R_new' (Kd.R_new' (Kd.R_new' (Kd.R_new' (Kd.R_new' ho0 (Kd.R_lt (by (with_reducible repeat (first | apply Kd.R_alloc | apply Kd.R_drewN | apply Kd.R_drew)); exact HO167.out))) (Kd.R_lt (by (with_reducible repeat (first | apply Kd.R_alloc | apply Kd.R_drewN | apply Kd.R_drew)); exact HO172.out))) (Kd.R_lt (by (with_reducible repeat (first | apply Kd.R_alloc | apply Kd.R_drewN | apply Kd.R_drew)); exact HO177.out))) (Kd.R_lt (by (with_reducible repeat (first | apply Kd.R_alloc | apply Kd.R_drewN | apply Kd.R_drew)); exact HO180.out))) (Kd.R_lt (by (with_reducible repeat (first | apply Kd.R_alloc | apply Kd.R_drewN | apply Kd.R_drew)); exact HO185.out))) (Kd.R_lt (by (with_reducible repeat (first | apply Kd.R_alloc | apply Kd.R_drewN | apply Kd.R_drew)); exact HO192.out))) (below_size (by repeat (first | (with_reducible first | exact HB.out | apply below_alloc | apply pw_below_drewN | apply below_drew1) | exact HB.out)))); have n8_ := Aside0.mk (below_step (by repeat (first | (with_reducible first | exact HB.out | apply below_alloc | apply pw_below_drewN | apply below_drew1) | exact HB.out)) hb); clear HO167; clear HO172; clear HO177; clear HO180; clear HO185; clear HO187; clear HO192; clear HB; have HO167 := n0_; have HO172 := n1_; have HO177 := n2_; have HO180 := n3_; have HO185 := n4_; have HO187 := n5_; have HO192 := n6_; have HO201 := n7_; have HB := n8_; clear n0_ n1_ n2_ n3_ n4_ n5_ n6_ n7_ n8_; (try clear hb); (try clear hb2); (try clear hk); (try clear hi); (try clear ho0)) | ((with_reducible refine gate_callee (f := 24) rfl ?_); refine goesL_ (some 69) rfl rfl Try.func24 (by kernel_rfl) rfl #[.slice Ao41 t188.length co41, .int .i64 4] rfl (by (try simp only [List.map_toArray, List.map_cons, List.map_nil]); first | done | rfl | (simp only [List.length_drop, List.length_take]; rfl)) ?_; (with_reducible refine (weak_Get.calls k _ _ t188 4 t202 t203 _ ?side1 ?side2 A9.out).mono ?_); (case side1 => repeat (first | exact (Kd.R_reads' HO192.out).2.2 | (with_reducible refine Kd.C_alloc ?_ _) | (with_reducible refine Kd.C_drewN ?_ _) | (with_reducible refine Kd.C_drew ?_))); (case side2 => exact (Kd.R_reads' HO192.out).2.1); rintro e w' ⟨rfl, ⟨nd, rfl⟩⟩; refine ⟨_, rfl, ?_⟩; obtain ⟨Ao43, co43, eo43⟩ := Kd.R_slice HO187.out; subst eo43; have p204 : 0 ≤ (0 : Int) := (by omega); have q204 : 0 < (t182.length : Int) := of_decide_eq_true (by first | (with_reducible assumption) | assumption); obtain ⟨ad204, e204, hx204_0⟩ := Kd.at_int (Kd.R_reads' HO187.out).2.2 0 p204 q204; cases e204; have qi204 : (0 < t182.length) = True := eq_true (by omega); (try rw [show ((0 : Int)).toNat = 0 from rfl] at hx204_0); (try rw [Addr.add_zero'] at hx204_0); replace p204 := eq_true p204; replace q204 := eq_true q204) | (go_at_call 32; (with_reducible refine (weak_Check.calls k _ _ t188 t205 _ ?side1 ?side2 A28.out).mono ?_); (case side1 => repeat (first | exact (Kd.R_reads' HO192.out).2.2 | (with_reducible refine Kd.C_alloc ?_ _) | (with_reducible refine Kd.C_drewN ?_ _) | (with_reducible refine Kd.C_drew ?_))); (case side2 => exact (Kd.R_reads' HO192.out).2.1); rintro e w' ⟨rfl, ⟨nd, rfl⟩⟩))
                                      go_ret
                                      exact ⟨by first | rfl | (simp [errW_none, errW_some] <;> rfl) | (simp [*, errW_none, errW_some] <;> rfl), by repeat (first | (with_reducible first | exact HB.out | apply below_alloc | apply pw_below_drewN | apply below_drew1) | exact HB.out)⟩
                                    · rw [if_neg c27] at H
                                      have c27b0 : (t203 == 3) = false := beq_eq_false_iff_ne.mpr c27
                                      have c27b1 : (t203 != 3) = true := bne_iff_ne.mpr c27
                                      exact absurd ((Option.some.inj H).trans HLAW.out) (by decide)
                                  · rw [if_neg c26] at H
                                    have c26b0 : (t199 == 7) = false := beq_eq_false_iff_ne.mpr c26
                                    have c26b1 : (t199 != 7) = true := bne_iff_ne.mpr c26
                                    exact absurd ((Option.some.inj H).trans HLAW.out) (by decide)
                                · rw [if_neg c25] at H
                                  have c25b0 : (t196 == 0) = false := beq_eq_false_iff_ne.mpr c25
                                  have c25b1 : (t196 != 0) = true := bne_iff_ne.mpr c25
                                  exact absurd ((Option.some.inj H).trans HLAW.out) (by decide)
                              · rw [if_neg c24] at H
                                have c24b0 : (t195 == 2) = false := beq_eq_false_iff_ne.mpr c24
                                have c24b1 : (t195 != 2) = true := bne_iff_ne.mpr c24
                                exact absurd ((Option.some.inj H).trans HLAW.out) (by decide)
                            · rw [if_neg c23] at H
                              have c23b0 : (t194 == 0) = false := beq_eq_false_iff_ne.mpr c23
                              have c23b1 : (t194 != 0) = true := bne_iff_ne.mpr c23
                              exact absurd ((Option.some.inj H).trans HLAW.out) (by decide)
                          · rw [if_neg c22] at H
                            have c22b0 : (t193 == 0) = false := beq_eq_false_iff_ne.mpr c22
                            have c22b1 : (t193 != 0) = true := bne_iff_ne.mpr c22
                            exact absurd ((Option.some.inj H).trans HLAW.out) (by decide)
                        · rw [if_neg c21] at H
                          have c21b0 : (t190 == 0) = false := beq_eq_false_iff_ne.mpr c21
                          have c21b1 : (t190 != 0) = true := bne_iff_ne.mpr c21
                          exact absurd ((Option.some.inj H).trans HLAW.out) (by decide)
                      · rw [if_neg c20] at H
                        have c20b0 : (t189 == 3) = false := beq_eq_false_iff_ne.mpr c20
                        have c20b1 : (t189 != 3) = true := bne_iff_ne.mpr c20
                        exact absurd ((Option.some.inj H).trans HLAW.out) (by decide)
                    · rw [if_neg c19] at H
                      have c19b0 : (t183 == 0) = false := beq_eq_false_iff_ne.mpr c19
                      have c19b1 : (t183 != 0) = true := bne_iff_ne.mpr c19
                      exact absurd ((Option.some.inj H).trans HLAW.out) (by decide)
                  · rw [if_neg c18] at H
                    have c18b0 : ((rd t182 0) == 1) = false := beq_eq_false_iff_ne.mpr c18
                    have c18b1 : ((rd t182 0) != 1) = true := bne_iff_ne.mpr c18
                    exact absurd ((Option.some.inj H).trans HLAW.out) (by decide)
                · rw [if_neg c17] at H
                  exact absurd H (by simp)
              · rw [if_neg c16] at H
                have c16b0 : ((t182.length : Int) == 1) = false := beq_eq_false_iff_ne.mpr c16
                have c16b1 : ((t182.length : Int) != 1) = true := bne_iff_ne.mpr c16
                exact absurd ((Option.some.inj H).trans HLAW.out) (by decide)
            · rw [if_neg c15] at H
              have c15b0 : (t175 == 0) = false := beq_eq_false_iff_ne.mpr c15
              have c15b1 : (t175 != 0) = true := bne_iff_ne.mpr c15
              exact absurd ((Option.some.inj H).trans HLAW.out) (by decide)
          · rw [if_neg c14] at H
            have c14b0 : (t174 == 1) = false := beq_eq_false_iff_ne.mpr c14
            have c14b1 : (t174 != 1) = true := bne_iff_ne.mpr c14
            exact absurd ((Option.some.inj H).trans HLAW.out) (by decide)
        · rw [if_neg c13] at H
          have c13b0 : (t170 == 0) = false := beq_eq_false_iff_ne.mpr c13
          have c13b1 : (t170 != 0) = true := bne_iff_ne.mpr c13
          exact absurd ((Option.some.inj H).trans HLAW.out) (by decide)
      · rw [if_neg c12] at H
        have c12b0 : (t169 == 2) = false := beq_eq_false_iff_ne.mpr c12
        have c12b1 : (t169 != 2) = true := bne_iff_ne.mpr c12
        exact absurd ((Option.some.inj H).trans HLAW.out) (by decide)
    · rw [if_neg c11] at H
      have c11b0 : (t165 == 0) = false := beq_eq_false_iff_ne.mpr c11
      have c11b1 : (t165 != 0) = true := bne_iff_ne.mpr c11
      exact absurd ((Option.some.inj H).trans HLAW.out) (by decide)
  · rw [if_neg c10] at H
    have c10b0 : (t164 == 1) = false := beq_eq_false_iff_ne.mpr c10
    have c10b1 : (t164 != 1) = true := bne_iff_ne.mpr c10
    exact absurd ((Option.some.inj H).trans HLAW.out) (by decide)

end Go.Proofs.Ytdadleamaalhiab.GW
