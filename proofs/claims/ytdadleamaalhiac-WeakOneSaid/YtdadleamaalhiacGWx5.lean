/- Made by gprint.py, this session's program over the kit's print program, out of the translation; the functions that it does not print are proved by hand (wip/given). Lean checks it. -/
import Derived.Test.YtdadleamaalhiacGWx0
import Derived.Test.YtdadleamaalhiacGWx1
import Derived.Test.YtdadleamaalhiacGWx2
import Derived.Test.YtdadleamaalhiacGWx3
import Derived.Test.YtdadleamaalhiacGWx4
namespace Go.Proofs.Ytdadleamaalhiac.GW
open Go.RowKit Go.Proofs.YtdadleamaalhiacW.PrintWords Go.Proofs.YtdadleamaalhiacW.PrintLast Go.Proofs.YtdadleamaalhiacW.PrintMore
attribute [local go_sem] max2_int min2_int max_two min_two max_three min_three max_four min_four   -- for this text's walks alone
set_option linter.unusedVariables false
set_option linter.unusedSimpArgs false

/-! ### besomref09_Same: function 13 -/
def besomref09_Same.l0 : Nat → List Int → List Int → Int → Int → Option (Bool)
  | 0, _, _, _, _ => none
  | k + 1, x0, x1, x12, x13 => if x13 < x12 then (if 0 ≤ x13 then (if x13 < (x0.length : Int) then (if x13 < (x1.length : Int) then (if (rd x0 x13) = (rd x1 x13) then (besomref09_Same.l0 k x0 x1 x12 (wrap64 (x13 + 1))) else (some false)) else (none)) else (none)) else (none)) else (some true)
def besomref09_Same.f (k : Nat) (l0 : List Int) (l1 : List Int) : Option (Bool) := if (l0.length : Int) = (l1.length : Int) then (besomref09_Same.l0 k l0 l1 (l0.length : Int) 0) else (some false)
theorem besomref09_Same.mono_l : ∀ k, (∀ y0 y1 y2 y3, LeO (besomref09_Same.l0 k y0 y1 y2 y3) (besomref09_Same.l0 (k + 1) y0 y1 y2 y3))
  | 0 => fun _ _ _ _ r h => by simp [besomref09_Same.l0] at h
  | k + 1 => by
    have ih0 := besomref09_Same.mono_l k
    · intro y0 y1 y2 y3
      unfold besomref09_Same.l0
      repeat' first
      | (with_reducible exact ih0 _ _ _ _)
      | (with_reducible exact LeO.refl _)
      | (with_reducible exact LeO.none _)
      | (with_reducible refine LeO.ite ?_ ?_)
      | (with_reducible refine LeO.bind ?_ (fun _ => ?_))
      | exact ih0 _ _ _ _
      | exact LeO.none _
      | refine LeO.ite ?_ ?_
      | refine LeO.bind ?_ (fun _ => ?_)
theorem besomref09_Same.mono : ∀ a0 a1 k, LeO (besomref09_Same.f k a0 a1) (besomref09_Same.f (k + 1) a0 a1) := by
  intro a0 a1 k
  have ih0 := besomref09_Same.mono_l k
  unfold besomref09_Same.f
  repeat' first
      | (with_reducible exact ih0 _ _ _ _)
      | (with_reducible exact LeO.refl _)
      | (with_reducible exact LeO.none _)
      | (with_reducible refine LeO.ite ?_ ?_)
      | (with_reducible refine LeO.bind ?_ (fun _ => ?_))
      | exact ih0 _ _ _ _
      | exact LeO.none _
      | refine LeO.ite ?_ ?_
      | refine LeO.bind ?_ (fun _ => ?_)
set_option maxHeartbeats 8000000 in
set_option maxRecDepth 100000 in
theorem besomref09_Same.calls (k : Nat) (A0 : Option Addr) (c0 : Nat) (l0 : List Int) (A1 : Option Addr) (c1 : Nat) (l1 : List Int) (r : Bool) (w : World) (hr0 : Kd.C (Kd.int .u64) w A0 l0.length l0) (hc0 : l0.length ≤ c0) (hr1 : Kd.C (Kd.int .u64) w A1 l1.length l1) (hc1 : l1.length ≤ c1) (h : besomref09_Same.f k l0 l1 = some r) :
    Calls Try.prog 13 #[.slice A0 l0.length c0, .slice A1 l1.length c1] w fun e w' => e = .returned (.bool r) ∧ Drawn0 w w' := by
  have HR0 := Aside0.mk hr0
  have HC0 := Aside0.mk hc0
  clear hr0 hc0
  have HR1 := Aside0.mk hr1
  have HC1 := Aside0.mk hc1
  clear hr1 hc1
  have H : (if (l0.length : Int) = (l1.length : Int) then (besomref09_Same.l0 k l0 l1 (l0.length : Int) 0) else (some false)) = some r := h
  clear h
  by_cases c3 : (l0.length : Int) = (l1.length : Int)
  · rw [if_pos c3] at H
    have c3b0 : ((l0.length : Int) == (l1.length : Int)) = true := beq_iff_eq.mpr c3
    have c3b1 : ((l0.length : Int) != (l1.length : Int)) = false := bne_eq_false_iff_eq.mpr c3
    have c3b2 : (l0.length == l1.length) = true := by first | simpa using c3 | (simp at c3 ⊢; omega)
    clear c3
    have H' := Aside0.mk H
    clear H
    go_enter Try.func13, Try.ntmps13
    go_wp2
    repeat (go_quiet (fail); try go_wp2)
    go_loopg [13] k (fun kq v13 w' => ∃ (x13_1 : Int), v13 = .int .i64 x13_1 ∧ Aside0 (besomref09_Same.l0 kq l0 l1 (l0.length : Int) x13_1 = some r) ∧ Aside0 (kq ≤ k) ∧ Drawn0 w w')
    case atStart => exact ⟨(0), (by first | rfl | (simp; done) | (simp [*]; done)), H', ⟨Nat.le_refl _⟩, by repeat (first | exact Drawn0.refl _ | apply Drawn0.step)⟩
    case round =>
      clear H'
      try clear c1
      try clear p2
      try clear c3
      try clear c3b0
      try clear c3b1
      try clear c3b2
      obtain ⟨x13_1, rfl, HA, HK1, ⟨m1, rfl⟩⟩ := hrel
      cases gk with
      | zero => exact absurd HA.out (by simp [besomref09_Same.l0])
      | succ k1 =>
        have H := HA.out
        clear HA
        simp only [besomref09_Same.l0] at H
        by_cases c4 : x13_1 < (l0.length : Int)
        · rw [if_pos c4] at H
          have c4b0 : decide (x13_1 < (l0.length : Int)) = true := decide_eq_true c4
          clear c4
          by_cases c5 : 0 ≤ x13_1
          · rw [if_pos c5] at H
            have c5b0 : decide (0 ≤ x13_1) = true := decide_eq_true c5
            clear c5
            by_cases c6 : x13_1 < (l0.length : Int)
            · rw [if_pos c6] at H
              have c6b0 : decide (x13_1 < (l0.length : Int)) = true := decide_eq_true c6
              clear c6
              by_cases c7 : x13_1 < (l1.length : Int)
              · rw [if_pos c7] at H
                have c7b0 : decide (x13_1 < (l1.length : Int)) = true := decide_eq_true c7
                clear c7
                by_cases c8 : (rd l0 x13_1) = (rd l1 x13_1)
                · rw [if_pos c8] at H
                  have c8b0 : ((rd l0 x13_1) == (rd l1 x13_1)) = true := beq_iff_eq.mpr c8
                  have c8b1 : ((rd l0 x13_1) != (rd l1 x13_1)) = false := bne_eq_false_iff_eq.mpr c8
                  clear c8
                  have H' := Aside0.mk H
                  clear H
                  have p177 : 0 ≤ (x13_1 : Int) := of_decide_eq_true (by first | (with_reducible assumption) | assumption)
                  have q177 : x13_1 < (l0.length : Int) := of_decide_eq_true (by first | (with_reducible assumption) | assumption)
                  obtain ⟨ad177, e177, hx177_0⟩ := Kd.at_int HR0.out x13_1 p177 q177
                  cases e177
                  replace p177 := eq_true p177
                  replace q177 := eq_true q177
                  have p178 : 0 ≤ (x13_1 : Int) := of_decide_eq_true (by first | (with_reducible assumption) | assumption)
                  have q178 : x13_1 < (l1.length : Int) := of_decide_eq_true (by first | (with_reducible assumption) | assumption)
                  obtain ⟨ad178, e178, hx178_0⟩ := Kd.at_int HR1.out x13_1 p178 q178
                  cases e178
                  replace p178 := eq_true p178
                  replace q178 := eq_true q178
                  go_wp2
                  repeat (go_quiet (fail); try go_wp2)
                  go_roundg k1
                  case measure => have := HK1.out; omega
                  case rel => exact ⟨(wrap64 (x13_1 + 1)), (by first | rfl | (simp; done) | (simp [*]; done)), H', ⟨by have := HK1.out; omega⟩, by repeat (first | exact Drawn0.refl _ | apply Drawn0.step)⟩
                · rw [if_neg c8] at H
                  have c8b0 : ((rd l0 x13_1) == (rd l1 x13_1)) = false := beq_eq_false_iff_ne.mpr c8
                  have c8b1 : ((rd l0 x13_1) != (rd l1 x13_1)) = true := bne_iff_ne.mpr c8
                  obtain rfl := Option.some.inj H
                  have p177 : 0 ≤ (x13_1 : Int) := of_decide_eq_true (by first | (with_reducible assumption) | assumption)
                  have q177 : x13_1 < (l0.length : Int) := of_decide_eq_true (by first | (with_reducible assumption) | assumption)
                  obtain ⟨ad177, e177, hx177_0⟩ := Kd.at_int HR0.out x13_1 p177 q177
                  cases e177
                  replace p177 := eq_true p177
                  replace q177 := eq_true q177
                  have p178 : 0 ≤ (x13_1 : Int) := of_decide_eq_true (by first | (with_reducible assumption) | assumption)
                  have q178 : x13_1 < (l1.length : Int) := of_decide_eq_true (by first | (with_reducible assumption) | assumption)
                  obtain ⟨ad178, e178, hx178_0⟩ := Kd.at_int HR1.out x13_1 p178 q178
                  cases e178
                  replace p178 := eq_true p178
                  replace q178 := eq_true q178
                  go_wp2
                  repeat (go_quiet (fail); try go_wp2)
                  go_ret
                  exact ⟨by first | rfl | (simp; done) | (simp [*]; done), by repeat (first | exact Drawn0.refl _ | apply Drawn0.step)⟩
              · rw [if_neg c7] at H
                exact absurd H (by simp)
            · rw [if_neg c6] at H
              exact absurd H (by simp)
          · rw [if_neg c5] at H
            exact absurd H (by simp)
        · rw [if_neg c4] at H
          have c4b0 : decide (x13_1 < (l0.length : Int)) = false := decide_eq_false c4
          clear c4
          obtain rfl := Option.some.inj H
          go_wp2
          repeat (go_quiet (fail); try go_wp2)
          go_ret
          exact ⟨by first | rfl | (simp; done) | (simp [*]; done), by repeat (first | exact Drawn0.refl _ | apply Drawn0.step)⟩
  · rw [if_neg c3] at H
    have c3b0 : ((l0.length : Int) == (l1.length : Int)) = false := beq_eq_false_iff_ne.mpr c3
    have c3b1 : ((l0.length : Int) != (l1.length : Int)) = true := bne_iff_ne.mpr c3
    have c3b2 : (l0.length == l1.length) = false := by first | simpa using c3 | (simp at c3 ⊢; omega)
    obtain rfl := Option.some.inj H
    go_enter Try.func13, Try.ntmps13
    go_wp2
    repeat (go_quiet (fail); try go_wp2)
    go_ret
    exact ⟨by first | rfl | (simp; done) | (simp [*]; done), by repeat (first | exact Drawn0.refl _ | apply Drawn0.step)⟩

/-! ### besomlaw09_WeakOne: function 4 -/
def besomlaw09_WeakOne.f (k : Nat) (l0 : List Int) (a1 : Int) : Option (Bool) := (besomlaw09_lives.f k).bind fun t179 => (if t179 = true then ((weak_Make.f k l0 a1).bind fun bt180 => (if bt180.2.2 = 0 then ((weak_Make.f k bt180.1 a1).bind fun bt185 => ((weak_Get.f k bt185.1 bt185.2.1).bind fun bt190 => ((weak_Handle.f k bt185.1 a1).bind fun bt192 => (if bt185.2.2 = 0 then (if bt180.2.1 = bt185.2.1 then ((besomref09_Same.f k bt180.1 bt185.1).bind fun t194 => (if t194 = true then (if bt190.1 = a1 then (if bt190.2 = 0 then (if bt192.1 = bt180.2.1 then (if bt192.2 = 0 then ((weak_Check.f k bt180.1).bind fun t195 => (some (t195 == 0))) else (some false)) else (some false)) else (some false)) else (some false)) else (some false))) else (some false)) else (some false))))) else (some (bt180.2.1 == 0)))) else (some false))
theorem besomlaw09_WeakOne.mono : ∀ a0 a1 k, LeO (besomlaw09_WeakOne.f k a0 a1) (besomlaw09_WeakOne.f (k + 1) a0 a1) := by
  intro a0 a1 k
  unfold besomlaw09_WeakOne.f
  repeat' first
      | (with_reducible exact besomlaw09_lives.mono _)
      | (with_reducible exact besomref09_Same.mono _ _ _)
      | (with_reducible exact weak_Check.mono _ _)
      | (with_reducible exact weak_Get.mono _ _ _)
      | (with_reducible exact weak_Handle.mono _ _ _)
      | (with_reducible exact weak_Make.mono _ _ _)
      | (with_reducible exact LeO.refl _)
      | (with_reducible exact LeO.none _)
      | (with_reducible refine LeO.ite ?_ ?_)
      | (with_reducible refine LeO.bind ?_ (fun _ => ?_))
      | exact besomlaw09_lives.mono _
      | exact besomref09_Same.mono _ _ _
      | exact weak_Check.mono _ _
      | exact weak_Get.mono _ _ _
      | exact weak_Handle.mono _ _ _
      | exact weak_Make.mono _ _ _
      | exact LeO.none _
      | refine LeO.ite ?_ ?_
      | refine LeO.bind ?_ (fun _ => ?_)
set_option maxHeartbeats 8000000 in
set_option maxRecDepth 100000 in
theorem besomlaw09_WeakOne.calls (k : Nat) (A0 : Option Addr) (c0 : Nat) (l0 : List Int) (a1 : Int) (r : Bool) (w : World) (hr0 : Kd.C (Kd.int .u64) w A0 l0.length l0) (hc0 : l0.length ≤ c0) (hlaw : r = true) (h : besomlaw09_WeakOne.f k l0 a1 = some r) :
    Calls Try.prog 4 #[.slice A0 l0.length c0, .int .u64 a1] w fun e w' => e = .returned (.bool r) ∧ Below w.heap.size w w' := by
  have HR0 := Aside0.mk hr0
  have HC0 := Aside0.mk hc0
  clear hr0 hc0
  have HB := Aside0.mk (Below.refl w.heap.size w)
  have H : ((besomlaw09_lives.f k).bind fun t179 => (if t179 = true then ((weak_Make.f k l0 a1).bind fun bt180 => (if bt180.2.2 = 0 then ((weak_Make.f k bt180.1 a1).bind fun bt185 => ((weak_Get.f k bt185.1 bt185.2.1).bind fun bt190 => ((weak_Handle.f k bt185.1 a1).bind fun bt192 => (if bt185.2.2 = 0 then (if bt180.2.1 = bt185.2.1 then ((besomref09_Same.f k bt180.1 bt185.1).bind fun t194 => (if t194 = true then (if bt190.1 = a1 then (if bt190.2 = 0 then (if bt192.1 = bt180.2.1 then (if bt192.2 = 0 then ((weak_Check.f k bt180.1).bind fun t195 => (some (t195 == 0))) else (some false)) else (some false)) else (some false)) else (some false)) else (some false))) else (some false)) else (some false))))) else (some (bt180.2.1 == 0)))) else (some false))) = some r := h
  clear h
  have HLAW := Aside0.mk hlaw
  clear hlaw
  replace H := Option.bind_eq_some_iff.mp H
  obtain ⟨t179, A30, H⟩ := H
  replace H : (if t179 = true then ((weak_Make.f k l0 a1).bind fun bt180 => (if bt180.2.2 = 0 then ((weak_Make.f k bt180.1 a1).bind fun bt185 => ((weak_Get.f k bt185.1 bt185.2.1).bind fun bt190 => ((weak_Handle.f k bt185.1 a1).bind fun bt192 => (if bt185.2.2 = 0 then (if bt180.2.1 = bt185.2.1 then ((besomref09_Same.f k bt180.1 bt185.1).bind fun t194 => (if t194 = true then (if bt190.1 = a1 then (if bt190.2 = 0 then (if bt192.1 = bt180.2.1 then (if bt192.2 = 0 then ((weak_Check.f k bt180.1).bind fun t195 => (some (t195 == 0))) else (some false)) else (some false)) else (some false)) else (some false)) else (some false))) else (some false)) else (some false))))) else (some (bt180.2.1 == 0)))) else (some false)) = some r := H
  have A3 := Aside0.mk A30
  clear A30
  by_cases c4 : t179 = true
  · subst c4
    have H1 : ((weak_Make.f k l0 a1).bind fun bt180 => (if bt180.2.2 = 0 then ((weak_Make.f k bt180.1 a1).bind fun bt185 => ((weak_Get.f k bt185.1 bt185.2.1).bind fun bt190 => ((weak_Handle.f k bt185.1 a1).bind fun bt192 => (if bt185.2.2 = 0 then (if bt180.2.1 = bt185.2.1 then ((besomref09_Same.f k bt180.1 bt185.1).bind fun t194 => (if t194 = true then (if bt190.1 = a1 then (if bt190.2 = 0 then (if bt192.1 = bt180.2.1 then (if bt192.2 = 0 then ((weak_Check.f k bt180.1).bind fun t195 => (some (t195 == 0))) else (some false)) else (some false)) else (some false)) else (some false)) else (some false))) else (some false)) else (some false))))) else (some (bt180.2.1 == 0)))) = some r := by rw [if_pos rfl] at H; exact H
    clear H
    have H := H1
    clear H1
    replace H := Option.bind_eq_some_iff.mp H
    obtain ⟨⟨t180, t181, t182⟩, A50, H⟩ := H
    replace H : (if t182 = 0 then ((weak_Make.f k t180 a1).bind fun bt185 => ((weak_Get.f k bt185.1 bt185.2.1).bind fun bt190 => ((weak_Handle.f k bt185.1 a1).bind fun bt192 => (if bt185.2.2 = 0 then (if t181 = bt185.2.1 then ((besomref09_Same.f k t180 bt185.1).bind fun t194 => (if t194 = true then (if bt190.1 = a1 then (if bt190.2 = 0 then (if bt192.1 = t181 then (if bt192.2 = 0 then ((weak_Check.f k t180).bind fun t195 => (some (t195 == 0))) else (some false)) else (some false)) else (some false)) else (some false)) else (some false))) else (some false)) else (some false))))) else (some (t181 == 0))) = some r := H
    have A5 := Aside0.mk A50
    clear A50
    by_cases c6 : t182 = 0
    · rw [if_pos c6] at H
      have c6b0 : (t182 == 0) = true := beq_iff_eq.mpr c6
      have c6b1 : (t182 != 0) = false := bne_eq_false_iff_eq.mpr c6
      clear c6
      replace H := Option.bind_eq_some_iff.mp H
      obtain ⟨⟨t185, t186, t187⟩, A70, H⟩ := H
      replace H : ((weak_Get.f k t185 t186).bind fun bt190 => ((weak_Handle.f k t185 a1).bind fun bt192 => (if t187 = 0 then (if t181 = t186 then ((besomref09_Same.f k t180 t185).bind fun t194 => (if t194 = true then (if bt190.1 = a1 then (if bt190.2 = 0 then (if bt192.1 = t181 then (if bt192.2 = 0 then ((weak_Check.f k t180).bind fun t195 => (some (t195 == 0))) else (some false)) else (some false)) else (some false)) else (some false)) else (some false))) else (some false)) else (some false)))) = some r := H
      have A7 := Aside0.mk A70
      clear A70
      replace H := Option.bind_eq_some_iff.mp H
      obtain ⟨⟨t190, t191⟩, A80, H⟩ := H
      replace H : ((weak_Handle.f k t185 a1).bind fun bt192 => (if t187 = 0 then (if t181 = t186 then ((besomref09_Same.f k t180 t185).bind fun t194 => (if t194 = true then (if t190 = a1 then (if t191 = 0 then (if bt192.1 = t181 then (if bt192.2 = 0 then ((weak_Check.f k t180).bind fun t195 => (some (t195 == 0))) else (some false)) else (some false)) else (some false)) else (some false)) else (some false))) else (some false)) else (some false))) = some r := H
      have A8 := Aside0.mk A80
      clear A80
      replace H := Option.bind_eq_some_iff.mp H
      obtain ⟨⟨t192, t193⟩, A90, H⟩ := H
      replace H : (if t187 = 0 then (if t181 = t186 then ((besomref09_Same.f k t180 t185).bind fun t194 => (if t194 = true then (if t190 = a1 then (if t191 = 0 then (if t192 = t181 then (if t193 = 0 then ((weak_Check.f k t180).bind fun t195 => (some (t195 == 0))) else (some false)) else (some false)) else (some false)) else (some false)) else (some false))) else (some false)) else (some false)) = some r := H
      have A9 := Aside0.mk A90
      clear A90
      by_cases c10 : t187 = 0
      · rw [if_pos c10] at H
        have c10b0 : (t187 == 0) = true := beq_iff_eq.mpr c10
        have c10b1 : (t187 != 0) = false := bne_eq_false_iff_eq.mpr c10
        clear c10
        by_cases c11 : t181 = t186
        · rw [if_pos c11] at H
          have c11b0 : (t181 == t186) = true := beq_iff_eq.mpr c11
          have c11b1 : (t181 != t186) = false := bne_eq_false_iff_eq.mpr c11
          clear c11
          replace H := Option.bind_eq_some_iff.mp H
          obtain ⟨t194, A120, H⟩ := H
          replace H : (if t194 = true then (if t190 = a1 then (if t191 = 0 then (if t192 = t181 then (if t193 = 0 then ((weak_Check.f k t180).bind fun t195 => (some (t195 == 0))) else (some false)) else (some false)) else (some false)) else (some false)) else (some false)) = some r := H
          have A12 := Aside0.mk A120
          clear A120
          by_cases c13 : t194 = true
          · subst c13
            have H1 : (if t190 = a1 then (if t191 = 0 then (if t192 = t181 then (if t193 = 0 then ((weak_Check.f k t180).bind fun t195 => (some (t195 == 0))) else (some false)) else (some false)) else (some false)) else (some false)) = some r := by rw [if_pos rfl] at H; exact H
            clear H
            have H := H1
            clear H1
            by_cases c14 : t190 = a1
            · rw [if_pos c14] at H
              have c14b0 : (t190 == a1) = true := beq_iff_eq.mpr c14
              have c14b1 : (t190 != a1) = false := bne_eq_false_iff_eq.mpr c14
              clear c14
              by_cases c15 : t191 = 0
              · rw [if_pos c15] at H
                have c15b0 : (t191 == 0) = true := beq_iff_eq.mpr c15
                have c15b1 : (t191 != 0) = false := bne_eq_false_iff_eq.mpr c15
                clear c15
                by_cases c16 : t192 = t181
                · rw [if_pos c16] at H
                  have c16b0 : (t192 == t181) = true := beq_iff_eq.mpr c16
                  have c16b1 : (t192 != t181) = false := bne_eq_false_iff_eq.mpr c16
                  clear c16
                  by_cases c17 : t193 = 0
                  · rw [if_pos c17] at H
                    have c17b0 : (t193 == 0) = true := beq_iff_eq.mpr c17
                    have c17b1 : (t193 != 0) = false := bne_eq_false_iff_eq.mpr c17
                    clear c17
                    replace H := Option.bind_eq_some_iff.mp H
                    obtain ⟨t195, A180, H⟩ := H
                    replace H : (some (t195 == 0)) = some r := H
                    have A18 := Aside0.mk A180
                    clear A180
                    obtain rfl := Option.some.inj H
                    go_enter Try.func4, Try.ntmps4
                    go_wp2_with (first | ((with_reducible refine gate_callee (f := 7) rfl ?_); refine goesL_ (some 15) rfl rfl Try.func7 (by kernel_rfl) rfl #[] rfl (by (try simp only [List.map_toArray, List.map_cons, List.map_nil]); first | done | rfl | (simp only [List.length_drop, List.length_take]; rfl)) ?_; (with_reducible refine (besomlaw09_lives.calls k  true _ A3.out).mono ?_); rintro e w19 ⟨rfl, hb⟩; refine ⟨_, rfl, ?_⟩; have n0_ := Aside0.mk (below_step (by repeat (first | (with_reducible first | exact HB.out | apply below_alloc | apply pw_below_drewN | apply below_drew1) | exact HB.out)) hb); clear HB; have HB := n0_; clear n0_; (try clear hb); (try clear hb2); (try clear hk); (try clear hi)) | ((with_reducible refine gate_callee (f := 10) rfl ?_); refine goesL_ (some 20) rfl rfl Try.func10 (by kernel_rfl) rfl #[.slice A0 l0.length c0, .int .u64 a1] rfl (by (try simp only [List.map_toArray, List.map_cons, List.map_nil]); first | done | rfl | (simp only [List.length_drop, List.length_take]; rfl)) ?_; (with_reducible refine (weak_Make.calls k _ _ l0 a1 t180 t181 t182 _ ?side1 ?side2 A5.out).mono ?_); (case side1 => repeat (first | exact (Kd.C_below HR0.out HB.out) | (with_reducible refine Kd.C_alloc ?_ _) | (with_reducible refine Kd.C_drewN ?_ _) | (with_reducible refine Kd.C_drew ?_))); (case side2 => exact HC0.out); rintro e w20 ⟨v183, rfl, ho0, hb⟩; refine ⟨_, rfl, ?_⟩; have n0_ := Aside0.mk (Kd.R_lower ho0 (below_size (by repeat (first | (with_reducible first | exact HB.out | apply below_alloc | apply pw_below_drewN | apply below_drew1) | exact HB.out)))); have n1_ := Aside0.mk (below_step (by repeat (first | (with_reducible first | exact HB.out | apply below_alloc | apply pw_below_drewN | apply below_drew1) | exact HB.out)) hb); clear HB; have HO184 := n0_; have HB := n1_; clear n0_ n1_; (try clear hb); (try clear hb2); (try clear hk); (try clear hi); (try clear ho0); obtain ⟨Ao21, co21, eo21⟩ := Kd.R_slice HO184.out; subst eo21) | ((with_reducible refine gate_callee (f := 10) rfl ?_); refine goesL_ (some 31) rfl rfl Try.func10 (by kernel_rfl) rfl #[.slice Ao21 t180.length co21, .int .u64 a1] rfl (by (try simp only [List.map_toArray, List.map_cons, List.map_nil]); first | done | rfl | (simp only [List.length_drop, List.length_take]; rfl)) ?_; (with_reducible refine (weak_Make.calls k _ _ t180 a1 t185 t186 t187 _ ?side1 ?side2 A7.out).mono ?_); (case side1 => repeat (first | exact (Kd.R_reads' HO184.out).2.2 | (with_reducible refine Kd.C_alloc ?_ _) | (with_reducible refine Kd.C_drewN ?_ _) | (with_reducible refine Kd.C_drew ?_))); (case side2 => exact (Kd.R_reads' HO184.out).2.1); rintro e w22 ⟨v188, rfl, ho0, hb⟩; refine ⟨_, rfl, ?_⟩; have n0_ := Aside0.mk (Kd.R_elder' (by (with_reducible repeat (first | apply Kd.R_alloc | apply Kd.R_drewN | apply Kd.R_drew)); exact HO184.out) (Kd.R_base ho0) hb); have n1_ := Aside0.mk (Kd.R_lower (Kd.R_new' ho0 (Kd.R_lt (by (with_reducible repeat (first | apply Kd.R_alloc | apply Kd.R_drewN | apply Kd.R_drew)); exact HO184.out))) (below_size (by repeat (first | (with_reducible first | exact HB.out | apply below_alloc | apply pw_below_drewN | apply below_drew1) | exact HB.out)))); have n2_ := Aside0.mk (below_step (by repeat (first | (with_reducible first | exact HB.out | apply below_alloc | apply pw_below_drewN | apply below_drew1) | exact HB.out)) hb); clear HO184; clear HB; have HO184 := n0_; have HO189 := n1_; have HB := n2_; clear n0_ n1_ n2_; (try clear hb); (try clear hb2); (try clear hk); (try clear hi); (try clear ho0); obtain ⟨Ao23, co23, eo23⟩ := Kd.R_slice HO189.out; subst eo23) | ((with_reducible refine gate_callee (f := 8) rfl ?_); refine goesL_ (some 38) rfl rfl Try.func8 (by kernel_rfl) rfl #[.slice Ao23 t185.length co23, .int .i64 t186] rfl (by (try simp only [List.map_toArray, List.map_cons, List.map_nil]); first | done | rfl | (simp only [List.length_drop, List.length_take]; rfl)) ?_; (with_reducible refine (weak_Get.calls k _ _ t185 t186 t190 t191 _ ?side1 ?side2 A8.out).mono ?_); (case side1 => repeat (first | exact (Kd.R_reads' HO189.out).2.2 | (with_reducible refine Kd.C_alloc ?_ _) | (with_reducible refine Kd.C_drewN ?_ _) | (with_reducible refine Kd.C_drew ?_))); (case side2 => exact (Kd.R_reads' HO189.out).2.1); rintro e w' ⟨rfl, ⟨nd, rfl⟩⟩; refine ⟨_, rfl, ?_⟩) | ((with_reducible refine gate_callee (f := 12) rfl ?_); refine goesL_ (some 44) rfl rfl Try.func12 (by kernel_rfl) rfl #[.slice Ao23 t185.length co23, .int .u64 a1] rfl (by (try simp only [List.map_toArray, List.map_cons, List.map_nil]); first | done | rfl | (simp only [List.length_drop, List.length_take]; rfl)) ?_; (with_reducible refine (weak_Handle.calls k _ _ t185 a1 t192 t193 _ ?side1 ?side2 A9.out).mono ?_); (case side1 => repeat (first | exact (Kd.R_reads' HO189.out).2.2 | (with_reducible refine Kd.C_alloc ?_ _) | (with_reducible refine Kd.C_drewN ?_ _) | (with_reducible refine Kd.C_drew ?_))); (case side2 => exact (Kd.R_reads' HO189.out).2.1); rintro e w' ⟨rfl, ⟨nd, rfl⟩⟩; refine ⟨_, rfl, ?_⟩) | (go_at_call 13; (with_reducible refine (besomref09_Same.calls k _ _ t180 _ _ t185 true _ ?side1 ?side2 ?side3 ?side4 A12.out).mono ?_); (case side1 => repeat (first | exact (Kd.R_reads' HO184.out).2.2 | (with_reducible refine Kd.C_alloc ?_ _) | (with_reducible refine Kd.C_drewN ?_ _) | (with_reducible refine Kd.C_drew ?_))); (case side2 => exact (Kd.R_reads' HO184.out).2.1); (case side3 => repeat (first | exact (Kd.R_reads' HO189.out).2.2 | (with_reducible refine Kd.C_alloc ?_ _) | (with_reducible refine Kd.C_drewN ?_ _) | (with_reducible refine Kd.C_drew ?_))); (case side4 => exact (Kd.R_reads' HO189.out).2.1); rintro e w' ⟨rfl, ⟨nd, rfl⟩⟩) | (go_at_call 11; (with_reducible refine (weak_Check.calls k _ _ t180 t195 _ ?side1 ?side2 A18.out).mono ?_); (case side1 => repeat (first | exact (Kd.R_reads' HO184.out).2.2 | (with_reducible refine Kd.C_alloc ?_ _) | (with_reducible refine Kd.C_drewN ?_ _) | (with_reducible refine Kd.C_drew ?_))); (case side2 => exact (Kd.R_reads' HO184.out).2.1); rintro e w' ⟨rfl, ⟨nd, rfl⟩⟩))
                    go_ret
                    exact ⟨by first | rfl | (simp [errW_none, errW_some] <;> rfl) | (simp [*, errW_none, errW_some] <;> rfl), by repeat (first | (with_reducible first | exact HB.out | apply below_alloc | apply pw_below_drewN | apply below_drew1) | exact HB.out)⟩
                  · rw [if_neg c17] at H
                    have c17b0 : (t193 == 0) = false := beq_eq_false_iff_ne.mpr c17
                    have c17b1 : (t193 != 0) = true := bne_iff_ne.mpr c17
                    exact absurd ((Option.some.inj H).trans HLAW.out) (by decide)
                · rw [if_neg c16] at H
                  have c16b0 : (t192 == t181) = false := beq_eq_false_iff_ne.mpr c16
                  have c16b1 : (t192 != t181) = true := bne_iff_ne.mpr c16
                  exact absurd ((Option.some.inj H).trans HLAW.out) (by decide)
              · rw [if_neg c15] at H
                have c15b0 : (t191 == 0) = false := beq_eq_false_iff_ne.mpr c15
                have c15b1 : (t191 != 0) = true := bne_iff_ne.mpr c15
                exact absurd ((Option.some.inj H).trans HLAW.out) (by decide)
            · rw [if_neg c14] at H
              have c14b0 : (t190 == a1) = false := beq_eq_false_iff_ne.mpr c14
              have c14b1 : (t190 != a1) = true := bne_iff_ne.mpr c14
              exact absurd ((Option.some.inj H).trans HLAW.out) (by decide)
          · replace c13 := Bool.eq_false_iff.mpr c13
            subst c13
            have H1 : (some false) = some r := by rw [if_neg (show ¬ (false = true) by decide)] at H; exact H
            clear H
            have H := H1
            clear H1
            exact absurd ((Option.some.inj H).trans HLAW.out) (by decide)
        · rw [if_neg c11] at H
          have c11b0 : (t181 == t186) = false := beq_eq_false_iff_ne.mpr c11
          have c11b1 : (t181 != t186) = true := bne_iff_ne.mpr c11
          exact absurd ((Option.some.inj H).trans HLAW.out) (by decide)
      · rw [if_neg c10] at H
        have c10b0 : (t187 == 0) = false := beq_eq_false_iff_ne.mpr c10
        have c10b1 : (t187 != 0) = true := bne_iff_ne.mpr c10
        exact absurd ((Option.some.inj H).trans HLAW.out) (by decide)
    · rw [if_neg c6] at H
      have c6b0 : (t182 == 0) = false := beq_eq_false_iff_ne.mpr c6
      have c6b1 : (t182 != 0) = true := bne_iff_ne.mpr c6
      obtain rfl := Option.some.inj H
      go_enter Try.func4, Try.ntmps4
      go_wp2_with (first | ((with_reducible refine gate_callee (f := 7) rfl ?_); refine goesL_ (some 15) rfl rfl Try.func7 (by kernel_rfl) rfl #[] rfl (by (try simp only [List.map_toArray, List.map_cons, List.map_nil]); first | done | rfl | (simp only [List.length_drop, List.length_take]; rfl)) ?_; (with_reducible refine (besomlaw09_lives.calls k  true _ A3.out).mono ?_); rintro e w24 ⟨rfl, hb⟩; refine ⟨_, rfl, ?_⟩; have n0_ := Aside0.mk (below_step (by repeat (first | (with_reducible first | exact HB.out | apply below_alloc | apply pw_below_drewN | apply below_drew1) | exact HB.out)) hb); clear HB; have HB := n0_; clear n0_; (try clear hb); (try clear hb2); (try clear hk); (try clear hi)) | ((with_reducible refine gate_callee (f := 10) rfl ?_); refine goesL_ (some 20) rfl rfl Try.func10 (by kernel_rfl) rfl #[.slice A0 l0.length c0, .int .u64 a1] rfl (by (try simp only [List.map_toArray, List.map_cons, List.map_nil]); first | done | rfl | (simp only [List.length_drop, List.length_take]; rfl)) ?_; (with_reducible refine (weak_Make.calls k _ _ l0 a1 t180 t181 t182 _ ?side1 ?side2 A5.out).mono ?_); (case side1 => repeat (first | exact (Kd.C_below HR0.out HB.out) | (with_reducible refine Kd.C_alloc ?_ _) | (with_reducible refine Kd.C_drewN ?_ _) | (with_reducible refine Kd.C_drew ?_))); (case side2 => exact HC0.out); rintro e w25 ⟨v183, rfl, ho0, hb⟩; refine ⟨_, rfl, ?_⟩; have n0_ := Aside0.mk (Kd.R_lower ho0 (below_size (by repeat (first | (with_reducible first | exact HB.out | apply below_alloc | apply pw_below_drewN | apply below_drew1) | exact HB.out)))); have n1_ := Aside0.mk (below_step (by repeat (first | (with_reducible first | exact HB.out | apply below_alloc | apply pw_below_drewN | apply below_drew1) | exact HB.out)) hb); clear HB; have HO184 := n0_; have HB := n1_; clear n0_ n1_; (try clear hb); (try clear hb2); (try clear hk); (try clear hi); (try clear ho0)))
      go_ret
      exact ⟨by first | rfl | (simp [errW_none, errW_some] <;> rfl) | (simp [*, errW_none, errW_some] <;> rfl), by repeat (first | (with_reducible first | exact HB.out | apply below_alloc | apply pw_below_drewN | apply below_drew1) | exact HB.out)⟩
  · replace c4 := Bool.eq_false_iff.mpr c4
    subst c4
    have H1 : (some false) = some r := by rw [if_neg (show ¬ (false = true) by decide)] at H; exact H
    clear H
    have H := H1
    clear H1
    exact absurd ((Option.some.inj H).trans HLAW.out) (by decide)

end Go.Proofs.Ytdadleamaalhiac.GW
