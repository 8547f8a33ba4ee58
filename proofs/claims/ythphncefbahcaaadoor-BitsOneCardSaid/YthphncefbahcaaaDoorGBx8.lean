/- Made by gprint.py, this session's program over the kit's print program, out of the translation; the functions that it does not print are proved by hand (wip/given). Lean checks it. -/
import Derived.Test.YthphncefbahcaaaDoorGBx0
import Derived.Test.YthphncefbahcaaaDoorGBx1
import Derived.Test.YthphncefbahcaaaDoorGBx2
import Derived.Test.YthphncefbahcaaaDoorGBx3
import Derived.Test.YthphncefbahcaaaDoorGBx7
namespace Go.Proofs.YthphncefbahcaaaDoor.GB
open Go.RowKit Go.Proofs.YthphncefbahcaaaDoorW.PrintWords Go.Proofs.YthphncefbahcaaaDoorW.PrintLast Go.Proofs.YthphncefbahcaaaDoorW.PrintMore
attribute [local go_sem] max2_int min2_int max_two min_two max_three min_three max_four min_four   -- for this text's walks alone
set_option linter.unusedVariables false
set_option linter.unusedSimpArgs false

/-! ### besomlaw01_BitsOne: function 3 -/
mutual
def besomlaw01_BitsOne.j0 : Nat → Int → Bool → Int → Bool → Int → List Int → Option (Bool)
  | 0, _, _, _, _, _, _ => none
  | k + 1, x1, x2, x3, x29, x188000, x188001 => if x29 = true then (some false) else ((bits_Get.f k x188000 x188001 x1).bind fun bt190 => ((bits_Put.f k x188000 x188001 x1 x2).bind fun bt192 => (if bt192.2.2 = 0 then ((bits_Get.f k bt192.1 bt192.2.1 x1).bind fun bt198 => ((bits_Get.f k x188000 x188001 x3).bind fun bt200 => ((bits_Get.f k bt192.1 bt192.2.1 x3).bind fun bt202 => ((bits_Count.f k x188000 x188001).bind fun bt204 => ((bits_Count.f k bt192.1 bt192.2.1).bind fun bt206 => (if x2 = true then (besomlaw01_BitsOne.j1 k x1 x2 x3 bt190.1 bt198.1 bt198.2 bt200.1 bt200.2 bt202.1 bt202.2 bt204.1 bt204.2 bt206.1 bt206.2 0 (!bt190.1)) else (besomlaw01_BitsOne.j1 k x1 x2 x3 bt190.1 bt198.1 bt198.2 bt200.1 bt200.2 bt202.1 bt202.2 bt204.1 bt204.2 bt206.1 bt206.2 0 false))))))) else (some (bt192.2.2 == bt190.2)))))
def besomlaw01_BitsOne.j1 : Nat → Int → Bool → Int → Bool → Bool → Int → Bool → Int → Bool → Int → Int → Int → Int → Int → Int → Bool → Option (Bool)
  | 0, _, _, _, _, _, _, _, _, _, _, _, _, _, _, _, _ => none
  | k + 1, x1, x2, x3, x9, x13, x14, x15, x16, x17, x18, x19, x20, x21, x22, x23, x80 => if x80 = true then (if x9 = true then (if x2 = true then (if x14 = 0 then (if (x13 == x2) = true then (if x16 = x18 then (if x3 = x1 then (if x20 = 0 then (if x22 = 0 then (some ((wrap64 (x21 - x19)) == 1)) else (some false)) else (some false)) else (if (x15 == x17) = true then (if x20 = 0 then (if x22 = 0 then (some ((wrap64 (x21 - x19)) == 1)) else (some false)) else (some false)) else (some false))) else (some false)) else (some false)) else (some false)) else (if x14 = 0 then (if (x13 == x2) = true then (if x16 = x18 then (if x3 = x1 then (if x20 = 0 then (if x22 = 0 then (some ((wrap64 (x21 - x19)) == (-1))) else (some false)) else (some false)) else (if (x15 == x17) = true then (if x20 = 0 then (if x22 = 0 then (some ((wrap64 (x21 - x19)) == (-1))) else (some false)) else (some false)) else (some false))) else (some false)) else (some false)) else (some false))) else (if x14 = 0 then (if (x13 == x2) = true then (if x16 = x18 then (if x3 = x1 then (if x20 = 0 then (if x22 = 0 then (some ((wrap64 (x21 - x19)) == 1)) else (some false)) else (some false)) else (if (x15 == x17) = true then (if x20 = 0 then (if x22 = 0 then (some ((wrap64 (x21 - x19)) == 1)) else (some false)) else (some false)) else (some false))) else (some false)) else (some false)) else (some false))) else (if x9 = true then (if x2 = true then (if x14 = 0 then (if (x13 == x2) = true then (if x16 = x18 then (if x3 = x1 then (if x20 = 0 then (if x22 = 0 then (some ((wrap64 (x21 - x19)) == x23)) else (some false)) else (some false)) else (if (x15 == x17) = true then (if x20 = 0 then (if x22 = 0 then (some ((wrap64 (x21 - x19)) == x23)) else (some false)) else (some false)) else (some false))) else (some false)) else (some false)) else (some false)) else (if x14 = 0 then (if (x13 == x2) = true then (if x16 = x18 then (if x3 = x1 then (if x20 = 0 then (if x22 = 0 then (some ((wrap64 (x21 - x19)) == (-1))) else (some false)) else (some false)) else (if (x15 == x17) = true then (if x20 = 0 then (if x22 = 0 then (some ((wrap64 (x21 - x19)) == (-1))) else (some false)) else (some false)) else (some false))) else (some false)) else (some false)) else (some false))) else (if x14 = 0 then (if (x13 == x2) = true then (if x16 = x18 then (if x3 = x1 then (if x20 = 0 then (if x22 = 0 then (some ((wrap64 (x21 - x19)) == x23)) else (some false)) else (some false)) else (if (x15 == x17) = true then (if x20 = 0 then (if x22 = 0 then (some ((wrap64 (x21 - x19)) == x23)) else (some false)) else (some false)) else (some false))) else (some false)) else (some false)) else (some false)))
end
def besomlaw01_BitsOne.f (k : Nat) (a0_0 : Int) (l0_1 : List Int) (a1 : Int) (a2 : Bool) (a3 : Int) : Option (Bool) := (besomlaw01_puts.f k).bind fun t188 => (if t188 = true then ((besomlaw01_asks.f k).bind fun t189 => (besomlaw01_BitsOne.j0 k a1 a2 a3 (!t189) a0_0 l0_1)) else (besomlaw01_BitsOne.j0 k a1 a2 a3 true a0_0 l0_1))
theorem besomlaw01_BitsOne.mono_l : ∀ k, (∀ y0 y1 y2 y3 y4 y5, LeO (besomlaw01_BitsOne.j0 k y0 y1 y2 y3 y4 y5) (besomlaw01_BitsOne.j0 (k + 1) y0 y1 y2 y3 y4 y5)) ∧ (∀ y0 y1 y2 y3 y4 y5 y6 y7 y8 y9 y10 y11 y12 y13 y14 y15, LeO (besomlaw01_BitsOne.j1 k y0 y1 y2 y3 y4 y5 y6 y7 y8 y9 y10 y11 y12 y13 y14 y15) (besomlaw01_BitsOne.j1 (k + 1) y0 y1 y2 y3 y4 y5 y6 y7 y8 y9 y10 y11 y12 y13 y14 y15))
  | 0 => ⟨fun _ _ _ _ _ _ r h => by simp [besomlaw01_BitsOne.j0] at h, fun _ _ _ _ _ _ _ _ _ _ _ _ _ _ _ _ r h => by simp [besomlaw01_BitsOne.j1] at h⟩
  | k + 1 => by
    obtain ⟨ih0, ih1⟩ := besomlaw01_BitsOne.mono_l k
    refine ⟨?_, ?_⟩
    · intro y0 y1 y2 y3 y4 y5
      unfold besomlaw01_BitsOne.j0
      repeat' first
      | (with_reducible exact ih0 _ _ _ _ _ _)
      | (with_reducible exact ih1 _ _ _ _ _ _ _ _ _ _ _ _ _ _ _ _)
      | (with_reducible exact besomlaw01_asks.mono _)
      | (with_reducible exact besomlaw01_puts.mono _)
      | (with_reducible exact bits_Count.mono _ _ _)
      | (with_reducible exact bits_Get.mono _ _ _ _)
      | (with_reducible exact bits_Put.mono _ _ _ _ _)
      | (with_reducible exact LeO.refl _)
      | (with_reducible exact LeO.none _)
      | (with_reducible refine LeO.ite ?_ ?_)
      | (with_reducible refine LeO.bind ?_ (fun _ => ?_))
      | exact ih0 _ _ _ _ _ _
      | exact ih1 _ _ _ _ _ _ _ _ _ _ _ _ _ _ _ _
      | exact besomlaw01_asks.mono _
      | exact besomlaw01_puts.mono _
      | exact bits_Count.mono _ _ _
      | exact bits_Get.mono _ _ _ _
      | exact bits_Put.mono _ _ _ _ _
      | exact LeO.none _
      | refine LeO.ite ?_ ?_
      | refine LeO.bind ?_ (fun _ => ?_)
    · intro y0 y1 y2 y3 y4 y5 y6 y7 y8 y9 y10 y11 y12 y13 y14 y15
      unfold besomlaw01_BitsOne.j1
      repeat' first
      | (with_reducible exact ih0 _ _ _ _ _ _)
      | (with_reducible exact ih1 _ _ _ _ _ _ _ _ _ _ _ _ _ _ _ _)
      | (with_reducible exact besomlaw01_asks.mono _)
      | (with_reducible exact besomlaw01_puts.mono _)
      | (with_reducible exact bits_Count.mono _ _ _)
      | (with_reducible exact bits_Get.mono _ _ _ _)
      | (with_reducible exact bits_Put.mono _ _ _ _ _)
      | (with_reducible exact LeO.refl _)
      | (with_reducible exact LeO.none _)
      | (with_reducible refine LeO.ite ?_ ?_)
      | (with_reducible refine LeO.bind ?_ (fun _ => ?_))
      | exact ih0 _ _ _ _ _ _
      | exact ih1 _ _ _ _ _ _ _ _ _ _ _ _ _ _ _ _
      | exact besomlaw01_asks.mono _
      | exact besomlaw01_puts.mono _
      | exact bits_Count.mono _ _ _
      | exact bits_Get.mono _ _ _ _
      | exact bits_Put.mono _ _ _ _ _
      | exact LeO.none _
      | refine LeO.ite ?_ ?_
      | refine LeO.bind ?_ (fun _ => ?_)
theorem besomlaw01_BitsOne.mono : ∀ a0 a1 a2 a3 a4 k, LeO (besomlaw01_BitsOne.f k a0 a1 a2 a3 a4) (besomlaw01_BitsOne.f (k + 1) a0 a1 a2 a3 a4) := by
  intro a0 a1 a2 a3 a4 k
  obtain ⟨ih0, ih1⟩ := besomlaw01_BitsOne.mono_l k
  unfold besomlaw01_BitsOne.f
  repeat' first
      | (with_reducible exact ih0 _ _ _ _ _ _)
      | (with_reducible exact ih1 _ _ _ _ _ _ _ _ _ _ _ _ _ _ _ _)
      | (with_reducible exact besomlaw01_asks.mono _)
      | (with_reducible exact besomlaw01_puts.mono _)
      | (with_reducible exact bits_Count.mono _ _ _)
      | (with_reducible exact bits_Get.mono _ _ _ _)
      | (with_reducible exact bits_Put.mono _ _ _ _ _)
      | (with_reducible exact LeO.refl _)
      | (with_reducible exact LeO.none _)
      | (with_reducible refine LeO.ite ?_ ?_)
      | (with_reducible refine LeO.bind ?_ (fun _ => ?_))
      | exact ih0 _ _ _ _ _ _
      | exact ih1 _ _ _ _ _ _ _ _ _ _ _ _ _ _ _ _
      | exact besomlaw01_asks.mono _
      | exact besomlaw01_puts.mono _
      | exact bits_Count.mono _ _ _
      | exact bits_Get.mono _ _ _ _
      | exact bits_Put.mono _ _ _ _ _
      | exact LeO.none _
      | refine LeO.ite ?_ ?_
      | refine LeO.bind ?_ (fun _ => ?_)
set_option maxHeartbeats 8000000 in
set_option maxRecDepth 100000 in
theorem besomlaw01_BitsOne.calls (k : Nat) (a0_0 : Int) (A0_1 : Option Addr) (c0_1 : Nat) (l0_1 : List Int) (a1 : Int) (a2 : Bool) (a3 : Int) (r : Bool) (w : World) (hr0_1 : Kd.C (Kd.int .u64) w A0_1 l0_1.length l0_1) (hc0_1 : l0_1.length ≤ c0_1) (hT : TzOk w) (hlaw : r = true) (h : besomlaw01_BitsOne.f k a0_0 l0_1 a1 a2 a3 = some r) :
    Calls Tryd.prog 3 #[.agg #[.int .i64 a0_0, .slice A0_1 l0_1.length c0_1], .int .i64 a1, .bool a2, .int .i64 a3] w fun e w' => e = .returned (.bool r) ∧ Below w.heap.size w w' := by
  have hu24 := Tryd.underlying24
  have HR0_1 := Aside0.mk hr0_1
  have HC0_1 := Aside0.mk hc0_1
  clear hr0_1 hc0_1
  have HB := Aside0.mk (Below.refl w.heap.size w)
  have H : ((besomlaw01_puts.f k).bind fun t188 => (if t188 = true then ((besomlaw01_asks.f k).bind fun t189 => (besomlaw01_BitsOne.j0 k a1 a2 a3 (!t189) a0_0 l0_1)) else (besomlaw01_BitsOne.j0 k a1 a2 a3 true a0_0 l0_1))) = some r := h
  clear h
  have HT := Aside0.mk hT
  clear hT
  have HLAW := Aside0.mk hlaw
  clear hlaw
  have HC5 := Aside0.mk H
  clear H
  go_enter Tryd.func3, Tryd.ntmps3
  go_upto_region 1 with (first | ((with_reducible refine gate_dst (N := 4) rfl ?_); refine box_event ?hg (N := 4) ?hd (cs := #[.int .i64 a0_0, .slice A0_1 l0_1.length c0_1]) (t := 24) ?hr ?_; (case hd => rfl); (case hg => rfl); (case hr => first | (go_simp; done) | (go_simp; rfl)); intro gb187 hg w6 hbox hb; have n0_ := Aside0.mk (below_step (by repeat (first | (with_reducible first | exact HB.out | apply below_alloc | apply pw_below_drewN | apply below_drew1) | exact HB.out)) hb); have n1_ := Aside0.mk (hbox); have n2_ := Aside0.mk ((by rw [hg]; exact (below_size (by repeat (first | (with_reducible first | exact HB.out | apply below_alloc | apply pw_below_drewN | apply below_drew1) | exact HB.out))) : w.heap.size ≤ gb187)); have n3_ := Aside0.mk ((by rw [hg]; exact (below_size (by repeat (first | (with_reducible first | exact HB.out | apply below_alloc | apply pw_below_drewN | apply below_drew1) | exact HB.out))) : w.heap.size ≤ gb187)); clear HB; have HB := n0_; have BK187 := n1_; have GW187 := n2_; have GE187 := n3_; clear n0_ n1_ n2_ n3_; clear hb hbox hg))
  (try simp only [Act.put, List.setIfInBounds_toArray, List.set_cons_zero, List.set_cons_succ])
  go_cut [29] (fun v29 wc => ∃ (kq : Nat) (x29_4 : Bool), v29 = .bool x29_4 ∧ Aside0 (besomlaw01_BitsOne.j0 kq a1 a2 a3 x29_4 a0_0 l0_1 = some r) ∧ Aside0 (kq ≤ k) ∧ Aside0 (wc.heap[gb187]? = some (.cells #[.int .i64 a0_0, (.slice A0_1 l0_1.length c0_1)] 24 (0, 0))) ∧ Aside0 (Below w.heap.size w wc))
  case first =>
    have H := HC5.out
    clear HC5
    replace H := Option.bind_eq_some_iff.mp H
    obtain ⟨t188, A70, H⟩ := H
    replace H : (if t188 = true then ((besomlaw01_asks.f k).bind fun t189 => (besomlaw01_BitsOne.j0 k a1 a2 a3 (!t189) a0_0 l0_1)) else (besomlaw01_BitsOne.j0 k a1 a2 a3 true a0_0 l0_1)) = some r := H
    have A7 := Aside0.mk A70
    clear A70
    by_cases c8 : t188 = true
    · subst c8
      have H1 : ((besomlaw01_asks.f k).bind fun t189 => (besomlaw01_BitsOne.j0 k a1 a2 a3 (!t189) a0_0 l0_1)) = some r := by rw [if_pos rfl] at H; exact H
      clear H
      have H := H1
      clear H1
      replace H := Option.bind_eq_some_iff.mp H
      obtain ⟨t189, A90, H⟩ := H
      replace H : (besomlaw01_BitsOne.j0 k a1 a2 a3 (!t189) a0_0 l0_1) = some r := H
      have A9 := Aside0.mk A90
      clear A90
      have H' := Aside0.mk H
      clear H
      go_wp2_with (first | ((with_reducible refine gate_callee (f := 15) rfl ?_); refine goesL_ (some 24) rfl rfl Tryd.func15 (by kernel_rfl) rfl #[] rfl (by (try simp only [List.map_toArray, List.map_cons, List.map_nil]); first | done | rfl | (simp only [List.length_drop, List.length_take]; rfl)) ?_; (with_reducible refine (besomlaw01_puts.calls k  true _ A7.out).mono ?_); rintro e w10 ⟨rfl, hb⟩; refine ⟨_, rfl, ?_⟩; have n0_ := Aside0.mk (blk_below (g := gb187) (o := .cells #[.int .i64 a0_0, .slice A0_1 l0_1.length c0_1] 24 (0, 0)) (by (with_reducible repeat (first | refine blk_drewN ?_ _ | refine blk_drew ?_ | refine blk_alloc ?_ _)); exact BK187.out) hb); have n1_ := Aside0.mk (below_step (by repeat (first | (with_reducible first | exact HB.out | apply below_alloc | apply pw_below_drewN | apply below_drew1 | refine below_set ?_ GE187.out) | exact HB.out)) hb); clear BK187; clear HB; have BK187 := n0_; have HB := n1_; clear n0_ n1_; (try clear hb); (try clear hb2); (try clear hk); (try clear hi)) | (go_at_call 16; (with_reducible refine (besomlaw01_asks.calls k  t189 _ ?side1 A9.out).mono ?_); (case side1 => repeat (first | exact HT.out | exact TzOk.below HT.out (by repeat (first | (with_reducible first | exact HB.out | apply below_alloc | apply pw_below_drewN | apply below_drew1 | refine below_set ?_ GE187.out) | exact HB.out)) | (with_reducible refine TzOk.alloc ?_ _) | (with_reducible refine TzOk.drewN ?_ _) | (with_reducible refine TzOk.drew ?_))); rintro e w11 ⟨rfl, hb⟩; have n0_ := Aside0.mk (blk_below (g := gb187) (o := .cells #[.int .i64 a0_0, .slice A0_1 l0_1.length c0_1] 24 (0, 0)) (by (with_reducible repeat (first | refine blk_drewN ?_ _ | refine blk_drew ?_ | refine blk_alloc ?_ _)); exact BK187.out) hb); have n1_ := Aside0.mk (below_step (by repeat (first | (with_reducible first | exact HB.out | apply below_alloc | apply pw_below_drewN | apply below_drew1 | refine below_set ?_ GE187.out) | exact HB.out)) hb); clear BK187; clear HB; have BK187 := n0_; have HB := n1_; clear n0_ n1_; (try clear hb); (try clear hb2); (try clear hk); (try clear hi)))
      go_meet
      case rel => exact ⟨_, (!t189), (by first | rfl | (simp; done) | (simp [*]; done)), H', ⟨by first | omega | exact Nat.le_refl _⟩, ⟨by (with_reducible repeat (first | refine blk_drewN ?_ _ | refine blk_drew ?_ | refine blk_alloc ?_ _)); exact BK187.out⟩, ⟨by repeat (first | (with_reducible first | exact HB.out | apply below_alloc | apply pw_below_drewN | apply below_drew1 | refine below_set ?_ GE187.out) | exact HB.out)⟩⟩
    · replace c8 := Bool.eq_false_iff.mpr c8
      subst c8
      have H1 : (besomlaw01_BitsOne.j0 k a1 a2 a3 true a0_0 l0_1) = some r := by rw [if_neg (show ¬ (false = true) by decide)] at H; exact H
      clear H
      have H := H1
      clear H1
      have H' := Aside0.mk H
      clear H
      go_wp2_with (first | ((with_reducible refine gate_callee (f := 15) rfl ?_); refine goesL_ (some 24) rfl rfl Tryd.func15 (by kernel_rfl) rfl #[] rfl (by (try simp only [List.map_toArray, List.map_cons, List.map_nil]); first | done | rfl | (simp only [List.length_drop, List.length_take]; rfl)) ?_; (with_reducible refine (besomlaw01_puts.calls k  false _ A7.out).mono ?_); rintro e w12 ⟨rfl, hb⟩; refine ⟨_, rfl, ?_⟩; have n0_ := Aside0.mk (blk_below (g := gb187) (o := .cells #[.int .i64 a0_0, .slice A0_1 l0_1.length c0_1] 24 (0, 0)) (by (with_reducible repeat (first | refine blk_drewN ?_ _ | refine blk_drew ?_ | refine blk_alloc ?_ _)); exact BK187.out) hb); have n1_ := Aside0.mk (below_step (by repeat (first | (with_reducible first | exact HB.out | apply below_alloc | apply pw_below_drewN | apply below_drew1 | refine below_set ?_ GE187.out) | exact HB.out)) hb); clear BK187; clear HB; have BK187 := n0_; have HB := n1_; clear n0_ n1_; (try clear hb); (try clear hb2); (try clear hk); (try clear hi)))
      go_meet
      case rel => exact ⟨_, (true), (by first | rfl | (simp; done) | (simp [*]; done)), H', ⟨by first | omega | exact Nat.le_refl _⟩, ⟨by (with_reducible repeat (first | refine blk_drewN ?_ _ | refine blk_drew ?_ | refine blk_alloc ?_ _)); exact BK187.out⟩, ⟨by repeat (first | (with_reducible first | exact HB.out | apply below_alloc | apply pw_below_drewN | apply below_drew1 | refine below_set ?_ GE187.out) | exact HB.out)⟩⟩
  case rest =>
    clear HC5
    try clear c1
    try clear p2
    try clear c3
    try clear c8
    obtain ⟨kq, x29_4, rfl, HA, HJ4, BK187, HB⟩ := hcut
    cases kq with
    | zero => exact absurd HA.out (by simp [besomlaw01_BitsOne.j0])
    | succ kj4 =>
      have H := HA.out
      clear HA
      simp only [besomlaw01_BitsOne.j0] at H
      by_cases c13 : x29_4 = true
      · subst c13
        have H1 : (some false) = some r := by rw [if_pos rfl] at H; exact H
        clear H
        have H := H1
        clear H1
        exact absurd ((Option.some.inj H).trans HLAW.out) (by decide)
      · replace c13 := Bool.eq_false_iff.mpr c13
        subst c13
        have H1 : ((bits_Get.f kj4 a0_0 l0_1 a1).bind fun bt190 => ((bits_Put.f kj4 a0_0 l0_1 a1 a2).bind fun bt192 => (if bt192.2.2 = 0 then ((bits_Get.f kj4 bt192.1 bt192.2.1 a1).bind fun bt198 => ((bits_Get.f kj4 a0_0 l0_1 a3).bind fun bt200 => ((bits_Get.f kj4 bt192.1 bt192.2.1 a3).bind fun bt202 => ((bits_Count.f kj4 a0_0 l0_1).bind fun bt204 => ((bits_Count.f kj4 bt192.1 bt192.2.1).bind fun bt206 => (if a2 = true then (besomlaw01_BitsOne.j1 kj4 a1 a2 a3 bt190.1 bt198.1 bt198.2 bt200.1 bt200.2 bt202.1 bt202.2 bt204.1 bt204.2 bt206.1 bt206.2 0 (!bt190.1)) else (besomlaw01_BitsOne.j1 kj4 a1 a2 a3 bt190.1 bt198.1 bt198.2 bt200.1 bt200.2 bt202.1 bt202.2 bt204.1 bt204.2 bt206.1 bt206.2 0 false))))))) else (some (bt192.2.2 == bt190.2))))) = some r := by rw [if_neg (show ¬ (false = true) by decide)] at H; exact H
        clear H
        have H := H1
        clear H1
        replace H := Option.bind_eq_some_iff.mp H
        obtain ⟨⟨t190, t191⟩, A140, H⟩ := H
        replace H : ((bits_Put.f kj4 a0_0 l0_1 a1 a2).bind fun bt192 => (if bt192.2.2 = 0 then ((bits_Get.f kj4 bt192.1 bt192.2.1 a1).bind fun bt198 => ((bits_Get.f kj4 a0_0 l0_1 a3).bind fun bt200 => ((bits_Get.f kj4 bt192.1 bt192.2.1 a3).bind fun bt202 => ((bits_Count.f kj4 a0_0 l0_1).bind fun bt204 => ((bits_Count.f kj4 bt192.1 bt192.2.1).bind fun bt206 => (if a2 = true then (besomlaw01_BitsOne.j1 kj4 a1 a2 a3 t190 bt198.1 bt198.2 bt200.1 bt200.2 bt202.1 bt202.2 bt204.1 bt204.2 bt206.1 bt206.2 0 (!t190)) else (besomlaw01_BitsOne.j1 kj4 a1 a2 a3 t190 bt198.1 bt198.2 bt200.1 bt200.2 bt202.1 bt202.2 bt204.1 bt204.2 bt206.1 bt206.2 0 false))))))) else (some (bt192.2.2 == t191)))) = some r := H
        have A14 := Aside0.mk A140
        clear A140
        replace H := Option.bind_eq_some_iff.mp H
        obtain ⟨⟨t192, t193, t196⟩, A150, H⟩ := H
        replace H : (if t196 = 0 then ((bits_Get.f kj4 t192 t193 a1).bind fun bt198 => ((bits_Get.f kj4 a0_0 l0_1 a3).bind fun bt200 => ((bits_Get.f kj4 t192 t193 a3).bind fun bt202 => ((bits_Count.f kj4 a0_0 l0_1).bind fun bt204 => ((bits_Count.f kj4 t192 t193).bind fun bt206 => (if a2 = true then (besomlaw01_BitsOne.j1 kj4 a1 a2 a3 t190 bt198.1 bt198.2 bt200.1 bt200.2 bt202.1 bt202.2 bt204.1 bt204.2 bt206.1 bt206.2 0 (!t190)) else (besomlaw01_BitsOne.j1 kj4 a1 a2 a3 t190 bt198.1 bt198.2 bt200.1 bt200.2 bt202.1 bt202.2 bt204.1 bt204.2 bt206.1 bt206.2 0 false))))))) else (some (t196 == t191))) = some r := H
        have A15 := Aside0.mk A150
        clear A150
        by_cases c16 : t196 = 0
        · rw [if_pos c16] at H
          have c16b0 : (t196 == 0) = true := beq_iff_eq.mpr c16
          have c16b1 : (t196 != 0) = false := bne_eq_false_iff_eq.mpr c16
          clear c16
          replace H := Option.bind_eq_some_iff.mp H
          obtain ⟨⟨t198, t199⟩, A170, H⟩ := H
          replace H : ((bits_Get.f kj4 a0_0 l0_1 a3).bind fun bt200 => ((bits_Get.f kj4 t192 t193 a3).bind fun bt202 => ((bits_Count.f kj4 a0_0 l0_1).bind fun bt204 => ((bits_Count.f kj4 t192 t193).bind fun bt206 => (if a2 = true then (besomlaw01_BitsOne.j1 kj4 a1 a2 a3 t190 t198 t199 bt200.1 bt200.2 bt202.1 bt202.2 bt204.1 bt204.2 bt206.1 bt206.2 0 (!t190)) else (besomlaw01_BitsOne.j1 kj4 a1 a2 a3 t190 t198 t199 bt200.1 bt200.2 bt202.1 bt202.2 bt204.1 bt204.2 bt206.1 bt206.2 0 false)))))) = some r := H
          have A17 := Aside0.mk A170
          clear A170
          replace H := Option.bind_eq_some_iff.mp H
          obtain ⟨⟨t200, t201⟩, A180, H⟩ := H
          replace H : ((bits_Get.f kj4 t192 t193 a3).bind fun bt202 => ((bits_Count.f kj4 a0_0 l0_1).bind fun bt204 => ((bits_Count.f kj4 t192 t193).bind fun bt206 => (if a2 = true then (besomlaw01_BitsOne.j1 kj4 a1 a2 a3 t190 t198 t199 t200 t201 bt202.1 bt202.2 bt204.1 bt204.2 bt206.1 bt206.2 0 (!t190)) else (besomlaw01_BitsOne.j1 kj4 a1 a2 a3 t190 t198 t199 t200 t201 bt202.1 bt202.2 bt204.1 bt204.2 bt206.1 bt206.2 0 false))))) = some r := H
          have A18 := Aside0.mk A180
          clear A180
          replace H := Option.bind_eq_some_iff.mp H
          obtain ⟨⟨t202, t203⟩, A190, H⟩ := H
          replace H : ((bits_Count.f kj4 a0_0 l0_1).bind fun bt204 => ((bits_Count.f kj4 t192 t193).bind fun bt206 => (if a2 = true then (besomlaw01_BitsOne.j1 kj4 a1 a2 a3 t190 t198 t199 t200 t201 t202 t203 bt204.1 bt204.2 bt206.1 bt206.2 0 (!t190)) else (besomlaw01_BitsOne.j1 kj4 a1 a2 a3 t190 t198 t199 t200 t201 t202 t203 bt204.1 bt204.2 bt206.1 bt206.2 0 false)))) = some r := H
          have A19 := Aside0.mk A190
          clear A190
          replace H := Option.bind_eq_some_iff.mp H
          obtain ⟨⟨t204, t205⟩, A200, H⟩ := H
          replace H : ((bits_Count.f kj4 t192 t193).bind fun bt206 => (if a2 = true then (besomlaw01_BitsOne.j1 kj4 a1 a2 a3 t190 t198 t199 t200 t201 t202 t203 t204 t205 bt206.1 bt206.2 0 (!t190)) else (besomlaw01_BitsOne.j1 kj4 a1 a2 a3 t190 t198 t199 t200 t201 t202 t203 t204 t205 bt206.1 bt206.2 0 false))) = some r := H
          have A20 := Aside0.mk A200
          clear A200
          replace H := Option.bind_eq_some_iff.mp H
          obtain ⟨⟨t206, t207⟩, A210, H⟩ := H
          replace H : (if a2 = true then (besomlaw01_BitsOne.j1 kj4 a1 a2 a3 t190 t198 t199 t200 t201 t202 t203 t204 t205 t206 t207 0 (!t190)) else (besomlaw01_BitsOne.j1 kj4 a1 a2 a3 t190 t198 t199 t200 t201 t202 t203 t204 t205 t206 t207 0 false)) = some r := H
          have A21 := Aside0.mk A210
          clear A210
          have HC22 := Aside0.mk H
          clear H
          have hcz23_0 : wc.cell? ⟨gb187, 0, none⟩ = some (.int .i64 a0_0) := (blk_cell BK187.out 0).trans rfl
          have hcz23_1 : wc.cell? ⟨gb187, 1, none⟩ = some (.slice A0_1 l0_1.length c0_1) := (blk_cell BK187.out 1).trans rfl
          have hfz23_0 := blk_frozen BK187.out 0
          have hfz23_1 := blk_frozen BK187.out 1
          go_upto_region 13 with (first | ((with_reducible refine gate_callee (f := 17) rfl ?_); refine goesL_ (some 33) rfl rfl Tryd.func17 (by kernel_rfl) rfl #[.agg #[.int .i64 a0_0, .slice A0_1 l0_1.length c0_1], .int .i64 a1] rfl (by (try simp only [List.map_toArray, List.map_cons, List.map_nil]); first | done | rfl | (simp only [List.length_drop, List.length_take]; rfl)) ?_; (with_reducible refine (bits_Get.calls kj4 a0_0 _ _ l0_1 a1 t190 t191 _ ?side1 ?side2 A14.out).mono ?_); (case side1 => repeat (first | exact (Kd.C_below HR0_1.out HB.out) | (with_reducible refine Kd.C_alloc ?_ _) | (with_reducible refine Kd.C_drewN ?_ _) | (with_reducible refine Kd.C_drew ?_))); (case side2 => exact HC0_1.out); rintro e w24 ⟨rfl, hb⟩; refine ⟨_, rfl, ?_⟩; have n0_ := Aside0.mk (blk_below (g := gb187) (o := .cells #[.int .i64 a0_0, .slice A0_1 l0_1.length c0_1] 24 (0, 0)) (by (with_reducible repeat (first | refine blk_drewN ?_ _ | refine blk_drew ?_ | refine blk_alloc ?_ _)); exact BK187.out) hb); have n1_ := Aside0.mk (below_step (by repeat (first | (with_reducible first | exact HB.out | apply below_alloc | apply pw_below_drewN | apply below_drew1 | refine below_set ?_ GE187.out) | exact HB.out)) hb); clear BK187; clear HB; have BK187 := n0_; have HB := n1_; clear n0_ n1_; (try clear hb); (try clear hb2); (try clear hk); (try clear hi); have hcz25_0 : w24.cell? ⟨gb187, 0, none⟩ = some (.int .i64 a0_0) := (blk_cell BK187.out 0).trans rfl; have hcz25_1 : w24.cell? ⟨gb187, 1, none⟩ = some (.slice A0_1 l0_1.length c0_1) := (blk_cell BK187.out 1).trans rfl; have hfz25_0 := blk_frozen BK187.out 0; have hfz25_1 := blk_frozen BK187.out 1) | ((with_reducible refine gate_callee (f := 18) rfl ?_); refine goesL_ (some 40) rfl rfl Tryd.func18 (by kernel_rfl) rfl #[.agg #[.int .i64 a0_0, .slice A0_1 l0_1.length c0_1], .int .i64 a1, .bool a2] rfl (by (try simp only [List.map_toArray, List.map_cons, List.map_nil]); first | done | rfl | (simp only [List.length_drop, List.length_take]; rfl)) ?_; (with_reducible refine (bits_Put.calls kj4 a0_0 _ _ l0_1 a1 a2 t192 t193 t196 _ ?side1 ?side2 A15.out).mono ?_); (case side1 => repeat (first | exact (Kd.C_below HR0_1.out HB.out) | (with_reducible refine Kd.C_alloc ?_ _) | (with_reducible refine Kd.C_drewN ?_ _) | (with_reducible refine Kd.C_drew ?_))); (case side2 => exact HC0_1.out); rintro e w26 ⟨v194, rfl, ho0, hb⟩; refine ⟨_, rfl, ?_⟩; have n0_ := Aside0.mk (Kd.R_lower ho0 (below_size (by repeat (first | (with_reducible first | exact HB.out | apply below_alloc | apply pw_below_drewN | apply below_drew1 | refine below_set ?_ GE187.out) | exact HB.out)))); have n1_ := Aside0.mk (blk_below (g := gb187) (o := .cells #[.int .i64 a0_0, .slice A0_1 l0_1.length c0_1] 24 (0, 0)) (by (with_reducible repeat (first | refine blk_drewN ?_ _ | refine blk_drew ?_ | refine blk_alloc ?_ _)); exact BK187.out) hb); have n2_ := Aside0.mk (below_step (by repeat (first | (with_reducible first | exact HB.out | apply below_alloc | apply pw_below_drewN | apply below_drew1 | refine below_set ?_ GE187.out) | exact HB.out)) hb); clear BK187; clear HB; have HO195 := n0_; have BK187 := n1_; have HB := n2_; clear n0_ n1_ n2_; (try clear hb); (try clear hb2); (try clear hk); (try clear hi); (try clear ho0)) | ((with_reducible refine gate_dst (N := 11) rfl ?_); refine box_event ?hg (N := 11) ?hd (cs := #[.int .i64 0, .slice none 0 0]) (t := 24) ?hr ?_; (case hd => rfl); (case hg => rfl); (case hr => first | (go_simp; done) | (go_simp; rfl)); intro gb197 hg w27 hbox hb; have n0_ := Aside0.mk (Kd.R_below (by (with_reducible repeat (first | apply Kd.R_alloc | apply Kd.R_drewN | apply Kd.R_drew)); exact HO195.out) hb); have n1_ := Aside0.mk (blk_below (g := gb187) (o := .cells #[.int .i64 a0_0, .slice A0_1 l0_1.length c0_1] 24 (0, 0)) (by (with_reducible repeat (first | refine blk_drewN ?_ _ | refine blk_drew ?_ | refine blk_alloc ?_ _)); exact BK187.out) hb); have n2_ := Aside0.mk (below_step (by repeat (first | (with_reducible first | exact HB.out | apply below_alloc | apply pw_below_drewN | apply below_drew1 | refine below_set ?_ GE187.out) | exact HB.out)) hb); have n3_ := Aside0.mk (hbox); have n4_ := Aside0.mk ((by rw [hg]; exact (below_size (by repeat (first | (with_reducible first | exact HB.out | apply below_alloc | apply pw_below_drewN | apply below_drew1 | refine below_set ?_ GE187.out) | exact HB.out))) : w.heap.size ≤ gb197)); have n5_ := Aside0.mk ((by rw [hg]; exact (below_size (by repeat (first | (with_reducible first | exact HB.out | apply below_alloc | apply pw_below_drewN | apply below_drew1 | refine below_set ?_ GE187.out) | exact HB.out))) : w.heap.size ≤ gb197)); have n6_ := Aside0.mk ((by rw [hg]; exact Nat.ne_of_lt (blk_lt (g := gb187) (o := .cells #[.int .i64 a0_0, .slice A0_1 l0_1.length c0_1] 24 (0, 0)) (by (with_reducible repeat (first | refine blk_drewN ?_ _ | refine blk_drew ?_ | refine blk_alloc ?_ _)); exact BK187.out)) : gb187 ≠ gb197)); have n7_ := Aside0.mk ((by rw [hg]; exact Nat.ne_of_gt (blk_lt (g := gb187) (o := .cells #[.int .i64 a0_0, .slice A0_1 l0_1.length c0_1] 24 (0, 0)) (by (with_reducible repeat (first | refine blk_drewN ?_ _ | refine blk_drew ?_ | refine blk_alloc ?_ _)); exact BK187.out)) : gb197 ≠ gb187)); clear HO195; clear BK187; clear HB; have HO195 := n0_; have BK187 := n1_; have HB := n2_; have BK197 := n3_; have GW197 := n4_; have GE197 := n5_; have NB187_197 := n6_; have NB197_187 := n7_; clear n0_ n1_ n2_ n3_ n4_ n5_ n6_ n7_; clear hb hbox hg; have hnb28 := NB197_187.out; have hnc28 := NB187_197.out; have hcz29_0 : w27.cell? ⟨gb197, 0, none⟩ = some (.int .i64 0) := (blk_cell BK197.out 0).trans rfl; have hcz29_1 : w27.cell? ⟨gb197, 1, none⟩ = some (.slice none 0 0) := (blk_cell BK197.out 1).trans rfl; have hfz29_0 := blk_frozen BK197.out 0; have hfz29_1 := blk_frozen BK197.out 1; obtain ⟨Ao30, co30, eo30⟩ := Kd.R_slice HO195.out; subst eo30) | ((with_reducible refine gate_callee (f := 17) rfl ?_); refine goesL_ (some 51) rfl rfl Tryd.func17 (by kernel_rfl) rfl #[.agg #[.int .i64 t192, .slice Ao30 t193.length co30], .int .i64 a1] rfl (by (try simp only [List.map_toArray, List.map_cons, List.map_nil]); first | done | rfl | (simp only [List.length_drop, List.length_take]; rfl)) ?_; (with_reducible refine (bits_Get.calls kj4 t192 _ _ t193 a1 t198 t199 _ ?side1 ?side2 A17.out).mono ?_); (case side1 => refine (Kd.R_reads' (e := 42) (base := w.heap.size) (ok := fun k_ => True) (n := t193.length) (c := co30) ?_).2.2; exact (by (with_reducible repeat (first | apply Kd.R_alloc | apply Kd.R_drewN | apply Kd.R_drew)); exact (Kd.R_mono (Kd.R_far (p := ⟨gb197, 1, none⟩) (Kd.R_far (p := ⟨gb197, 0, none⟩) (Kd.R_types HO195.out BK197.out (by decide)) (fun _ hk => hk.2) (.int .i64 t192)) (fun _ hk => hk.2) (.slice Ao30 t193.length co30)) (fun _ h_ => h_.1)))); (case side2 => exact (Kd.R_reads' HO195.out).2.1); rintro e w31 ⟨rfl, hb⟩; refine ⟨_, rfl, ?_⟩; have n0_ := Aside0.mk (Kd.R_below (by (with_reducible repeat (first | apply Kd.R_alloc | apply Kd.R_drewN | apply Kd.R_drew)); exact (Kd.R_mono (Kd.R_far (p := ⟨gb197, 1, none⟩) (Kd.R_far (p := ⟨gb197, 0, none⟩) (Kd.R_types HO195.out BK197.out (by decide)) (fun _ hk => hk.2) (.int .i64 t192)) (fun _ hk => hk.2) (.slice Ao30 t193.length co30)) (fun _ h_ => h_.1))) hb); have n1_ := Aside0.mk (blk_below (g := gb187) (o := .cells #[.int .i64 a0_0, .slice A0_1 l0_1.length c0_1] 24 (0, 0)) (by (with_reducible repeat (first | refine blk_drewN ?_ _ | refine blk_drew ?_ | refine blk_alloc ?_ _)); refine blk_far ?_ NB187_197.out _; (with_reducible repeat (first | refine blk_drewN ?_ _ | refine blk_drew ?_ | refine blk_alloc ?_ _)); refine blk_far ?_ NB187_197.out _; (with_reducible repeat (first | refine blk_drewN ?_ _ | refine blk_drew ?_ | refine blk_alloc ?_ _)); exact BK187.out) hb); have n2_ := Aside0.mk (blk_below (g := gb197) (o := .cells #[.int .i64 t192, .slice Ao30 t193.length co30] 24 (0, 0)) (by (with_reducible repeat (first | refine blk_drewN ?_ _ | refine blk_drew ?_ | refine blk_alloc ?_ _)); refine blk_put (cs := #[.int .i64 t192, .slice none 0 0]) ?_ 1 _ rfl; (with_reducible repeat (first | refine blk_drewN ?_ _ | refine blk_drew ?_ | refine blk_alloc ?_ _)); refine blk_put (cs := #[.int .i64 0, .slice none 0 0]) ?_ 0 _ rfl; (with_reducible repeat (first | refine blk_drewN ?_ _ | refine blk_drew ?_ | refine blk_alloc ?_ _)); exact BK197.out) hb); have n3_ := Aside0.mk (below_step (by repeat (first | (with_reducible first | exact HB.out | apply below_alloc | apply pw_below_drewN | apply below_drew1 | refine below_set ?_ GE187.out | refine below_set ?_ GE197.out) | exact HB.out)) hb); clear HO195; clear BK187; clear BK197; clear HB; have HO195 := n0_; have BK187 := n1_; have BK197 := n2_; have HB := n3_; clear n0_ n1_ n2_ n3_; (try clear hb); (try clear hb2); (try clear hk); (try clear hi); have hcz32_0 : w31.cell? ⟨gb187, 0, none⟩ = some (.int .i64 a0_0) := (blk_cell BK187.out 0).trans rfl; have hcz32_1 : w31.cell? ⟨gb187, 1, none⟩ = some (.slice A0_1 l0_1.length c0_1) := (blk_cell BK187.out 1).trans rfl; have hfz32_0 := blk_frozen BK187.out 0; have hfz32_1 := blk_frozen BK187.out 1) | ((with_reducible refine gate_callee (f := 17) rfl ?_); refine goesL_ (some 57) rfl rfl Tryd.func17 (by kernel_rfl) rfl #[.agg #[.int .i64 a0_0, .slice A0_1 l0_1.length c0_1], .int .i64 a3] rfl (by (try simp only [List.map_toArray, List.map_cons, List.map_nil]); first | done | rfl | (simp only [List.length_drop, List.length_take]; rfl)) ?_; (with_reducible refine (bits_Get.calls kj4 a0_0 _ _ l0_1 a3 t200 t201 _ ?side1 ?side2 A18.out).mono ?_); (case side1 => repeat (first | exact (Kd.C_below HR0_1.out HB.out) | (with_reducible refine Kd.C_alloc ?_ _) | (with_reducible refine Kd.C_drewN ?_ _) | (with_reducible refine Kd.C_drew ?_))); (case side2 => exact HC0_1.out); rintro e w33 ⟨rfl, hb⟩; refine ⟨_, rfl, ?_⟩; have n0_ := Aside0.mk (Kd.R_below (by (with_reducible repeat (first | apply Kd.R_alloc | apply Kd.R_drewN | apply Kd.R_drew)); exact HO195.out) hb); have n1_ := Aside0.mk (blk_below (g := gb187) (o := .cells #[.int .i64 a0_0, .slice A0_1 l0_1.length c0_1] 24 (0, 0)) (by (with_reducible repeat (first | refine blk_drewN ?_ _ | refine blk_drew ?_ | refine blk_alloc ?_ _)); exact BK187.out) hb); have n2_ := Aside0.mk (blk_below (g := gb197) (o := .cells #[.int .i64 t192, .slice Ao30 t193.length co30] 24 (0, 0)) (by (with_reducible repeat (first | refine blk_drewN ?_ _ | refine blk_drew ?_ | refine blk_alloc ?_ _)); exact BK197.out) hb); have n3_ := Aside0.mk (below_step (by repeat (first | (with_reducible first | exact HB.out | apply below_alloc | apply pw_below_drewN | apply below_drew1 | refine below_set ?_ GE187.out | refine below_set ?_ GE197.out) | exact HB.out)) hb); clear HO195; clear BK187; clear BK197; clear HB; have HO195 := n0_; have BK187 := n1_; have BK197 := n2_; have HB := n3_; clear n0_ n1_ n2_ n3_; (try clear hb); (try clear hb2); (try clear hk); (try clear hi); have hcz34_0 : w33.cell? ⟨gb197, 0, none⟩ = some (.int .i64 t192) := (blk_cell BK197.out 0).trans rfl; have hcz34_1 : w33.cell? ⟨gb197, 1, none⟩ = some (.slice Ao30 t193.length co30) := (blk_cell BK197.out 1).trans rfl; have hfz34_0 := blk_frozen BK197.out 0; have hfz34_1 := blk_frozen BK197.out 1) | ((with_reducible refine gate_callee (f := 17) rfl ?_); refine goesL_ (some 63) rfl rfl Tryd.func17 (by kernel_rfl) rfl #[.agg #[.int .i64 t192, .slice Ao30 t193.length co30], .int .i64 a3] rfl (by (try simp only [List.map_toArray, List.map_cons, List.map_nil]); first | done | rfl | (simp only [List.length_drop, List.length_take]; rfl)) ?_; (with_reducible refine (bits_Get.calls kj4 t192 _ _ t193 a3 t202 t203 _ ?side1 ?side2 A19.out).mono ?_); (case side1 => repeat (first | exact (Kd.R_reads' HO195.out).2.2 | (with_reducible refine Kd.C_alloc ?_ _) | (with_reducible refine Kd.C_drewN ?_ _) | (with_reducible refine Kd.C_drew ?_))); (case side2 => exact (Kd.R_reads' HO195.out).2.1); rintro e w35 ⟨rfl, hb⟩; refine ⟨_, rfl, ?_⟩; have n0_ := Aside0.mk (Kd.R_below (by (with_reducible repeat (first | apply Kd.R_alloc | apply Kd.R_drewN | apply Kd.R_drew)); exact HO195.out) hb); have n1_ := Aside0.mk (blk_below (g := gb187) (o := .cells #[.int .i64 a0_0, .slice A0_1 l0_1.length c0_1] 24 (0, 0)) (by (with_reducible repeat (first | refine blk_drewN ?_ _ | refine blk_drew ?_ | refine blk_alloc ?_ _)); exact BK187.out) hb); have n2_ := Aside0.mk (blk_below (g := gb197) (o := .cells #[.int .i64 t192, .slice Ao30 t193.length co30] 24 (0, 0)) (by (with_reducible repeat (first | refine blk_drewN ?_ _ | refine blk_drew ?_ | refine blk_alloc ?_ _)); exact BK197.out) hb); have n3_ := Aside0.mk (below_step (by repeat (first | (with_reducible first | exact HB.out | apply below_alloc | apply pw_below_drewN | apply below_drew1 | refine below_set ?_ GE187.out | refine below_set ?_ GE197.out) | exact HB.out)) hb); clear HO195; clear BK187; clear BK197; clear HB; have HO195 := n0_; have BK187 := n1_; have BK197 := n2_; have HB := n3_; clear n0_ n1_ n2_ n3_; (try clear hb); (try clear hb2); (try clear hk); (try clear hi); have hcz36_0 : w35.cell? ⟨gb187, 0, none⟩ = some (.int .i64 a0_0) := (blk_cell BK187.out 0).trans rfl; have hcz36_1 : w35.cell? ⟨gb187, 1, none⟩ = some (.slice A0_1 l0_1.length c0_1) := (blk_cell BK187.out 1).trans rfl; have hfz36_0 := blk_frozen BK187.out 0; have hfz36_1 := blk_frozen BK187.out 1) | ((with_reducible refine gate_callee (f := 19) rfl ?_); refine goesL_ (some 68) rfl rfl Tryd.func19 (by kernel_rfl) rfl #[.agg #[.int .i64 a0_0, .slice A0_1 l0_1.length c0_1]] rfl (by (try simp only [List.map_toArray, List.map_cons, List.map_nil]); first | done | rfl | (simp only [List.length_drop, List.length_take]; rfl)) ?_; (with_reducible refine (bits_Count.calls kj4 a0_0 _ _ l0_1 t204 t205 _ ?side1 ?side2 A20.out).mono ?_); (case side1 => repeat (first | exact (Kd.C_below HR0_1.out HB.out) | (with_reducible refine Kd.C_alloc ?_ _) | (with_reducible refine Kd.C_drewN ?_ _) | (with_reducible refine Kd.C_drew ?_))); (case side2 => exact HC0_1.out); rintro e w37 ⟨rfl, hb⟩; refine ⟨_, rfl, ?_⟩; have n0_ := Aside0.mk (Kd.R_below (by (with_reducible repeat (first | apply Kd.R_alloc | apply Kd.R_drewN | apply Kd.R_drew)); exact HO195.out) hb); have n1_ := Aside0.mk (blk_below (g := gb187) (o := .cells #[.int .i64 a0_0, .slice A0_1 l0_1.length c0_1] 24 (0, 0)) (by (with_reducible repeat (first | refine blk_drewN ?_ _ | refine blk_drew ?_ | refine blk_alloc ?_ _)); exact BK187.out) hb); have n2_ := Aside0.mk (blk_below (g := gb197) (o := .cells #[.int .i64 t192, .slice Ao30 t193.length co30] 24 (0, 0)) (by (with_reducible repeat (first | refine blk_drewN ?_ _ | refine blk_drew ?_ | refine blk_alloc ?_ _)); exact BK197.out) hb); have n3_ := Aside0.mk (below_step (by repeat (first | (with_reducible first | exact HB.out | apply below_alloc | apply pw_below_drewN | apply below_drew1 | refine below_set ?_ GE187.out | refine below_set ?_ GE197.out) | exact HB.out)) hb); clear HO195; clear BK187; clear BK197; clear HB; have HO195 := n0_; have BK187 := n1_; have BK197 := n2_; have HB := n3_; clear n0_ n1_ n2_ n3_; (try clear hb); (try clear hb2); (try clear hk); (try clear hi); have hcz38_0 : w37.cell? ⟨gb197, 0, none⟩ = some (.int .i64 t192) := (blk_cell BK197.out 0).trans rfl; have hcz38_1 : w37.cell? ⟨gb197, 1, none⟩ = some (.slice Ao30 t193.length co30) := (blk_cell BK197.out 1).trans rfl; have hfz38_0 := blk_frozen BK197.out 0; have hfz38_1 := blk_frozen BK197.out 1) | ((with_reducible refine gate_callee (f := 19) rfl ?_); refine goesL_ (some 73) rfl rfl Tryd.func19 (by kernel_rfl) rfl #[.agg #[.int .i64 t192, .slice Ao30 t193.length co30]] rfl (by (try simp only [List.map_toArray, List.map_cons, List.map_nil]); first | done | rfl | (simp only [List.length_drop, List.length_take]; rfl)) ?_; (with_reducible refine (bits_Count.calls kj4 t192 _ _ t193 t206 t207 _ ?side1 ?side2 A21.out).mono ?_); (case side1 => repeat (first | exact (Kd.R_reads' HO195.out).2.2 | (with_reducible refine Kd.C_alloc ?_ _) | (with_reducible refine Kd.C_drewN ?_ _) | (with_reducible refine Kd.C_drew ?_))); (case side2 => exact (Kd.R_reads' HO195.out).2.1); rintro e w39 ⟨rfl, hb⟩; refine ⟨_, rfl, ?_⟩; have n0_ := Aside0.mk (Kd.R_below (by (with_reducible repeat (first | apply Kd.R_alloc | apply Kd.R_drewN | apply Kd.R_drew)); exact HO195.out) hb); have n1_ := Aside0.mk (blk_below (g := gb187) (o := .cells #[.int .i64 a0_0, .slice A0_1 l0_1.length c0_1] 24 (0, 0)) (by (with_reducible repeat (first | refine blk_drewN ?_ _ | refine blk_drew ?_ | refine blk_alloc ?_ _)); exact BK187.out) hb); have n2_ := Aside0.mk (blk_below (g := gb197) (o := .cells #[.int .i64 t192, .slice Ao30 t193.length co30] 24 (0, 0)) (by (with_reducible repeat (first | refine blk_drewN ?_ _ | refine blk_drew ?_ | refine blk_alloc ?_ _)); exact BK197.out) hb); have n3_ := Aside0.mk (below_step (by repeat (first | (with_reducible first | exact HB.out | apply below_alloc | apply pw_below_drewN | apply below_drew1 | refine below_set ?_ GE187.out | refine below_set ?_ GE197.out) | exact HB.out)) hb); clear HO195; clear BK187; clear BK197; clear HB; have HO195 := n0_; have BK187 := n1_; have BK197 := n2_; have HB := n3_; clear n0_ n1_ n2_ n3_; (try clear hb); (try clear hb2); (try clear hk); (try clear hi)))
          (try simp only [Act.put, List.setIfInBounds_toArray, List.set_cons_zero, List.set_cons_succ])
          go_cut [80] (fun v80 wc => ∃ (kq : Nat) (x80_21 : Bool), v80 = .bool x80_21 ∧ Aside0 (besomlaw01_BitsOne.j1 kq a1 a2 a3 t190 t198 t199 t200 t201 t202 t203 t204 t205 t206 t207 0 x80_21 = some r) ∧ Aside0 (kq ≤ kj4) ∧ Aside0 (Kd.R (Kd.int .u64) 42 wc w.heap.size (fun _ => True) (.slice Ao30 t193.length co30) t193) ∧ Aside0 (wc.heap[gb187]? = some (.cells #[.int .i64 a0_0, (.slice A0_1 l0_1.length c0_1)] 24 (0, 0))) ∧ Aside0 (wc.heap[gb197]? = some (.cells #[.int .i64 t192, (.slice Ao30 t193.length co30)] 24 (0, 0))) ∧ Aside0 (Below w.heap.size w wc))
          case first =>
            have H := HC22.out
            clear HC22
            by_cases c40 : a2 = true
            · subst c40
              have H1 : (besomlaw01_BitsOne.j1 kj4 a1 true a3 t190 t198 t199 t200 t201 t202 t203 t204 t205 t206 t207 0 (!t190)) = some r := by rw [if_pos rfl] at H; exact H
              clear H
              have H := H1
              clear H1
              have H' := Aside0.mk H
              clear H
              go_wp2
              go_meet
              case rel => exact ⟨_, (!t190), (by first | rfl | (simp; done) | (simp [*]; done)), H', ⟨by have := HJ4.out; first | omega | exact Nat.le_refl _⟩, ⟨by (with_reducible repeat (first | apply Kd.R_alloc | apply Kd.R_drewN | apply Kd.R_drew)); exact HO195.out⟩, ⟨by (with_reducible repeat (first | refine blk_drewN ?_ _ | refine blk_drew ?_ | refine blk_alloc ?_ _)); exact BK187.out⟩, ⟨by (with_reducible repeat (first | refine blk_drewN ?_ _ | refine blk_drew ?_ | refine blk_alloc ?_ _)); exact BK197.out⟩, ⟨by repeat (first | (with_reducible first | exact HB.out | apply below_alloc | apply pw_below_drewN | apply below_drew1 | refine below_set ?_ GE187.out | refine below_set ?_ GE197.out) | exact HB.out)⟩⟩
            · replace c40 := Bool.eq_false_iff.mpr c40
              subst c40
              have H1 : (besomlaw01_BitsOne.j1 kj4 a1 false a3 t190 t198 t199 t200 t201 t202 t203 t204 t205 t206 t207 0 false) = some r := by rw [if_neg (show ¬ (false = true) by decide)] at H; exact H
              clear H
              have H := H1
              clear H1
              have H' := Aside0.mk H
              clear H
              go_wp2
              go_meet
              case rel => exact ⟨_, (false), (by first | rfl | (simp; done) | (simp [*]; done)), H', ⟨by have := HJ4.out; first | omega | exact Nat.le_refl _⟩, ⟨by (with_reducible repeat (first | apply Kd.R_alloc | apply Kd.R_drewN | apply Kd.R_drew)); exact HO195.out⟩, ⟨by (with_reducible repeat (first | refine blk_drewN ?_ _ | refine blk_drew ?_ | refine blk_alloc ?_ _)); exact BK187.out⟩, ⟨by (with_reducible repeat (first | refine blk_drewN ?_ _ | refine blk_drew ?_ | refine blk_alloc ?_ _)); exact BK197.out⟩, ⟨by repeat (first | (with_reducible first | exact HB.out | apply below_alloc | apply pw_below_drewN | apply below_drew1 | refine below_set ?_ GE187.out | refine below_set ?_ GE197.out) | exact HB.out)⟩⟩
          case rest =>
            clear HC22
            try clear c1
            try clear c2
            try clear p2
            try clear c3
            try clear c4
            try clear c8
            try clear c13
            try clear c15
            try clear c16
            try clear c16b0
            try clear c16b1
            try clear c17
            try clear c18
            try clear c19
            try clear c28
            try clear c40
            try clear hcz23_0
            try clear hcz23_1
            try clear hcz25_0
            try clear hcz25_1
            try clear hcz29_0
            try clear hcz29_1
            try clear hcz32_0
            try clear hcz32_1
            try clear hcz34_0
            try clear hcz34_1
            try clear hcz36_0
            try clear hcz36_1
            try clear hcz38_0
            try clear hcz38_1
            try clear hfz23_0
            try clear hfz23_1
            try clear hfz25_0
            try clear hfz25_1
            try clear hfz29_0
            try clear hfz29_1
            try clear hfz32_0
            try clear hfz32_1
            try clear hfz34_0
            try clear hfz34_1
            try clear hfz36_0
            try clear hfz36_1
            try clear hfz38_0
            try clear hfz38_1
            try clear p2
            obtain ⟨kq, x80_21, rfl, HA, HJ21, HO_198001, BK187, BK197, HB⟩ := hcut
            cases kq with
            | zero => exact absurd HA.out (by simp [besomlaw01_BitsOne.j1])
            | succ kj21 =>
              have H := HA.out
              clear HA
              simp only [besomlaw01_BitsOne.j1] at H
              by_cases c41 : x80_21 = true
              · subst c41
                have H1 : (if t190 = true then (if a2 = true then (if t199 = 0 then (if (t198 == a2) = true then (if t201 = t203 then (if a3 = a1 then (if t205 = 0 then (if t207 = 0 then (some ((wrap64 (t206 - t204)) == 1)) else (some false)) else (some false)) else (if (t200 == t202) = true then (if t205 = 0 then (if t207 = 0 then (some ((wrap64 (t206 - t204)) == 1)) else (some false)) else (some false)) else (some false))) else (some false)) else (some false)) else (some false)) else (if t199 = 0 then (if (t198 == a2) = true then (if t201 = t203 then (if a3 = a1 then (if t205 = 0 then (if t207 = 0 then (some ((wrap64 (t206 - t204)) == (-1))) else (some false)) else (some false)) else (if (t200 == t202) = true then (if t205 = 0 then (if t207 = 0 then (some ((wrap64 (t206 - t204)) == (-1))) else (some false)) else (some false)) else (some false))) else (some false)) else (some false)) else (some false))) else (if t199 = 0 then (if (t198 == a2) = true then (if t201 = t203 then (if a3 = a1 then (if t205 = 0 then (if t207 = 0 then (some ((wrap64 (t206 - t204)) == 1)) else (some false)) else (some false)) else (if (t200 == t202) = true then (if t205 = 0 then (if t207 = 0 then (some ((wrap64 (t206 - t204)) == 1)) else (some false)) else (some false)) else (some false))) else (some false)) else (some false)) else (some false))) = some r := by rw [if_pos rfl] at H; exact H
                clear H
                have H := H1
                clear H1
                by_cases c42 : t190 = true
                · subst c42
                  have H1 : (if a2 = true then (if t199 = 0 then (if (t198 == a2) = true then (if t201 = t203 then (if a3 = a1 then (if t205 = 0 then (if t207 = 0 then (some ((wrap64 (t206 - t204)) == 1)) else (some false)) else (some false)) else (if (t200 == t202) = true then (if t205 = 0 then (if t207 = 0 then (some ((wrap64 (t206 - t204)) == 1)) else (some false)) else (some false)) else (some false))) else (some false)) else (some false)) else (some false)) else (if t199 = 0 then (if (t198 == a2) = true then (if t201 = t203 then (if a3 = a1 then (if t205 = 0 then (if t207 = 0 then (some ((wrap64 (t206 - t204)) == (-1))) else (some false)) else (some false)) else (if (t200 == t202) = true then (if t205 = 0 then (if t207 = 0 then (some ((wrap64 (t206 - t204)) == (-1))) else (some false)) else (some false)) else (some false))) else (some false)) else (some false)) else (some false))) = some r := by rw [if_pos rfl] at H; exact H
                  clear H
                  have H := H1
                  clear H1
                  by_cases c43 : a2 = true
                  · subst c43
                    have H1 : (if t199 = 0 then (if (t198 == true) = true then (if t201 = t203 then (if a3 = a1 then (if t205 = 0 then (if t207 = 0 then (some ((wrap64 (t206 - t204)) == 1)) else (some false)) else (some false)) else (if (t200 == t202) = true then (if t205 = 0 then (if t207 = 0 then (some ((wrap64 (t206 - t204)) == 1)) else (some false)) else (some false)) else (some false))) else (some false)) else (some false)) else (some false)) = some r := by rw [if_pos rfl] at H; exact H
                    clear H
                    have H := H1
                    clear H1
                    by_cases c44 : t199 = 0
                    · rw [if_pos c44] at H
                      have c44b0 : (t199 == 0) = true := beq_iff_eq.mpr c44
                      have c44b1 : (t199 != 0) = false := bne_eq_false_iff_eq.mpr c44
                      clear c44
                      by_cases c45 : (t198 == true) = true
                      · rw [if_pos c45] at H
                        have c45b0 : (t198 == true) = true := c45
                        (try (have c45b1 : decide (t198 = true) = true := by simpa using c45))
                        (try (have c45b2 : (t198 == true) = true := by simpa using c45))
                        clear c45
                        by_cases c46 : t201 = t203
                        · rw [if_pos c46] at H
                          have c46b0 : (t201 == t203) = true := beq_iff_eq.mpr c46
                          have c46b1 : (t201 != t203) = false := bne_eq_false_iff_eq.mpr c46
                          clear c46
                          by_cases c47 : a3 = a1
                          · rw [if_pos c47] at H
                            have c47b0 : (a3 == a1) = true := beq_iff_eq.mpr c47
                            have c47b1 : (a3 != a1) = false := bne_eq_false_iff_eq.mpr c47
                            clear c47
                            by_cases c48 : t205 = 0
                            · rw [if_pos c48] at H
                              have c48b0 : (t205 == 0) = true := beq_iff_eq.mpr c48
                              have c48b1 : (t205 != 0) = false := bne_eq_false_iff_eq.mpr c48
                              clear c48
                              by_cases c49 : t207 = 0
                              · rw [if_pos c49] at H
                                have c49b0 : (t207 == 0) = true := beq_iff_eq.mpr c49
                                have c49b1 : (t207 != 0) = false := bne_eq_false_iff_eq.mpr c49
                                clear c49
                                obtain rfl := Option.some.inj H
                                go_wp2
                                go_ret
                                exact ⟨by first | rfl | (simp [errW_none, errW_some] <;> rfl) | (simp [*, errW_none, errW_some] <;> rfl), by repeat (first | (with_reducible first | exact HB.out | apply below_alloc | apply pw_below_drewN | apply below_drew1 | refine below_set ?_ GE187.out | refine below_set ?_ GE197.out) | exact HB.out)⟩
                              · rw [if_neg c49] at H
                                have c49b0 : (t207 == 0) = false := beq_eq_false_iff_ne.mpr c49
                                have c49b1 : (t207 != 0) = true := bne_iff_ne.mpr c49
                                exact absurd ((Option.some.inj H).trans HLAW.out) (by decide)
                            · rw [if_neg c48] at H
                              have c48b0 : (t205 == 0) = false := beq_eq_false_iff_ne.mpr c48
                              have c48b1 : (t205 != 0) = true := bne_iff_ne.mpr c48
                              exact absurd ((Option.some.inj H).trans HLAW.out) (by decide)
                          · rw [if_neg c47] at H
                            have c47b0 : (a3 == a1) = false := beq_eq_false_iff_ne.mpr c47
                            have c47b1 : (a3 != a1) = true := bne_iff_ne.mpr c47
                            by_cases c50 : (t200 == t202) = true
                            · rw [if_pos c50] at H
                              have c50b0 : (t200 == t202) = true := c50
                              (try (have c50b1 : decide (t200 = t202) = true := by simpa using c50))
                              (try (have c50b2 : (t200 == t202) = true := by simpa using c50))
                              clear c50
                              by_cases c51 : t205 = 0
                              · rw [if_pos c51] at H
                                have c51b0 : (t205 == 0) = true := beq_iff_eq.mpr c51
                                have c51b1 : (t205 != 0) = false := bne_eq_false_iff_eq.mpr c51
                                clear c51
                                by_cases c52 : t207 = 0
                                · rw [if_pos c52] at H
                                  have c52b0 : (t207 == 0) = true := beq_iff_eq.mpr c52
                                  have c52b1 : (t207 != 0) = false := bne_eq_false_iff_eq.mpr c52
                                  clear c52
                                  obtain rfl := Option.some.inj H
                                  go_wp2
                                  go_ret
                                  exact ⟨by first | rfl | (simp [errW_none, errW_some] <;> rfl) | (simp [*, errW_none, errW_some] <;> rfl), by repeat (first | (with_reducible first | exact HB.out | apply below_alloc | apply pw_below_drewN | apply below_drew1 | refine below_set ?_ GE187.out | refine below_set ?_ GE197.out) | exact HB.out)⟩
                                · rw [if_neg c52] at H
                                  have c52b0 : (t207 == 0) = false := beq_eq_false_iff_ne.mpr c52
                                  have c52b1 : (t207 != 0) = true := bne_iff_ne.mpr c52
                                  exact absurd ((Option.some.inj H).trans HLAW.out) (by decide)
                              · rw [if_neg c51] at H
                                have c51b0 : (t205 == 0) = false := beq_eq_false_iff_ne.mpr c51
                                have c51b1 : (t205 != 0) = true := bne_iff_ne.mpr c51
                                exact absurd ((Option.some.inj H).trans HLAW.out) (by decide)
                            · rw [if_neg c50] at H
                              have c50b0 : (t200 == t202) = false := by simpa using c50
                              (try (have c50b1 : decide (t200 = t202) = false := by simpa using c50))
                              (try (have c50b2 : (t200 == t202) = false := by simpa using c50))
                              (try (have c50b3 : ¬ (t200 = t202) := by simpa using c50))
                              clear c50
                              exact absurd ((Option.some.inj H).trans HLAW.out) (by decide)
                        · rw [if_neg c46] at H
                          have c46b0 : (t201 == t203) = false := beq_eq_false_iff_ne.mpr c46
                          have c46b1 : (t201 != t203) = true := bne_iff_ne.mpr c46
                          exact absurd ((Option.some.inj H).trans HLAW.out) (by decide)
                      · rw [if_neg c45] at H
                        have c45b0 : (t198 == true) = false := by simpa using c45
                        (try (have c45b1 : decide (t198 = true) = false := by simpa using c45))
                        (try (have c45b2 : (t198 == true) = false := by simpa using c45))
                        (try (have c45b3 : ¬ (t198 = true) := by simpa using c45))
                        clear c45
                        exact absurd ((Option.some.inj H).trans HLAW.out) (by decide)
                    · rw [if_neg c44] at H
                      have c44b0 : (t199 == 0) = false := beq_eq_false_iff_ne.mpr c44
                      have c44b1 : (t199 != 0) = true := bne_iff_ne.mpr c44
                      exact absurd ((Option.some.inj H).trans HLAW.out) (by decide)
                  · replace c43 := Bool.eq_false_iff.mpr c43
                    subst c43
                    have H1 : (if t199 = 0 then (if (t198 == false) = true then (if t201 = t203 then (if a3 = a1 then (if t205 = 0 then (if t207 = 0 then (some ((wrap64 (t206 - t204)) == (-1))) else (some false)) else (some false)) else (if (t200 == t202) = true then (if t205 = 0 then (if t207 = 0 then (some ((wrap64 (t206 - t204)) == (-1))) else (some false)) else (some false)) else (some false))) else (some false)) else (some false)) else (some false)) = some r := by rw [if_neg (show ¬ (false = true) by decide)] at H; exact H
                    clear H
                    have H := H1
                    clear H1
                    by_cases c53 : t199 = 0
                    · rw [if_pos c53] at H
                      have c53b0 : (t199 == 0) = true := beq_iff_eq.mpr c53
                      have c53b1 : (t199 != 0) = false := bne_eq_false_iff_eq.mpr c53
                      clear c53
                      by_cases c54 : (t198 == false) = true
                      · rw [if_pos c54] at H
                        have c54b0 : (t198 == false) = true := c54
                        (try (have c54b1 : decide (t198 = false) = true := by simpa using c54))
                        (try (have c54b2 : (t198 == false) = true := by simpa using c54))
                        clear c54
                        by_cases c55 : t201 = t203
                        · rw [if_pos c55] at H
                          have c55b0 : (t201 == t203) = true := beq_iff_eq.mpr c55
                          have c55b1 : (t201 != t203) = false := bne_eq_false_iff_eq.mpr c55
                          clear c55
                          by_cases c56 : a3 = a1
                          · rw [if_pos c56] at H
                            have c56b0 : (a3 == a1) = true := beq_iff_eq.mpr c56
                            have c56b1 : (a3 != a1) = false := bne_eq_false_iff_eq.mpr c56
                            clear c56
                            by_cases c57 : t205 = 0
                            · rw [if_pos c57] at H
                              have c57b0 : (t205 == 0) = true := beq_iff_eq.mpr c57
                              have c57b1 : (t205 != 0) = false := bne_eq_false_iff_eq.mpr c57
                              clear c57
                              by_cases c58 : t207 = 0
                              · rw [if_pos c58] at H
                                have c58b0 : (t207 == 0) = true := beq_iff_eq.mpr c58
                                have c58b1 : (t207 != 0) = false := bne_eq_false_iff_eq.mpr c58
                                clear c58
                                obtain rfl := Option.some.inj H
                                go_wp2
                                go_ret
                                exact ⟨by first | rfl | (simp [errW_none, errW_some] <;> rfl) | (simp [*, errW_none, errW_some] <;> rfl), by repeat (first | (with_reducible first | exact HB.out | apply below_alloc | apply pw_below_drewN | apply below_drew1 | refine below_set ?_ GE187.out | refine below_set ?_ GE197.out) | exact HB.out)⟩
                              · rw [if_neg c58] at H
                                have c58b0 : (t207 == 0) = false := beq_eq_false_iff_ne.mpr c58
                                have c58b1 : (t207 != 0) = true := bne_iff_ne.mpr c58
                                exact absurd ((Option.some.inj H).trans HLAW.out) (by decide)
                            · rw [if_neg c57] at H
                              have c57b0 : (t205 == 0) = false := beq_eq_false_iff_ne.mpr c57
                              have c57b1 : (t205 != 0) = true := bne_iff_ne.mpr c57
                              exact absurd ((Option.some.inj H).trans HLAW.out) (by decide)
                          · rw [if_neg c56] at H
                            have c56b0 : (a3 == a1) = false := beq_eq_false_iff_ne.mpr c56
                            have c56b1 : (a3 != a1) = true := bne_iff_ne.mpr c56
                            by_cases c59 : (t200 == t202) = true
                            · rw [if_pos c59] at H
                              have c59b0 : (t200 == t202) = true := c59
                              (try (have c59b1 : decide (t200 = t202) = true := by simpa using c59))
                              (try (have c59b2 : (t200 == t202) = true := by simpa using c59))
                              clear c59
                              by_cases c60 : t205 = 0
                              · rw [if_pos c60] at H
                                have c60b0 : (t205 == 0) = true := beq_iff_eq.mpr c60
                                have c60b1 : (t205 != 0) = false := bne_eq_false_iff_eq.mpr c60
                                clear c60
                                by_cases c61 : t207 = 0
                                · rw [if_pos c61] at H
                                  have c61b0 : (t207 == 0) = true := beq_iff_eq.mpr c61
                                  have c61b1 : (t207 != 0) = false := bne_eq_false_iff_eq.mpr c61
                                  clear c61
                                  obtain rfl := Option.some.inj H
                                  go_wp2
                                  go_ret
                                  exact ⟨by first | rfl | (simp [errW_none, errW_some] <;> rfl) | (simp [*, errW_none, errW_some] <;> rfl), by repeat (first | (with_reducible first | exact HB.out | apply below_alloc | apply pw_below_drewN | apply below_drew1 | refine below_set ?_ GE187.out | refine below_set ?_ GE197.out) | exact HB.out)⟩
                                · rw [if_neg c61] at H
                                  have c61b0 : (t207 == 0) = false := beq_eq_false_iff_ne.mpr c61
                                  have c61b1 : (t207 != 0) = true := bne_iff_ne.mpr c61
                                  exact absurd ((Option.some.inj H).trans HLAW.out) (by decide)
                              · rw [if_neg c60] at H
                                have c60b0 : (t205 == 0) = false := beq_eq_false_iff_ne.mpr c60
                                have c60b1 : (t205 != 0) = true := bne_iff_ne.mpr c60
                                exact absurd ((Option.some.inj H).trans HLAW.out) (by decide)
                            · rw [if_neg c59] at H
                              have c59b0 : (t200 == t202) = false := by simpa using c59
                              (try (have c59b1 : decide (t200 = t202) = false := by simpa using c59))
                              (try (have c59b2 : (t200 == t202) = false := by simpa using c59))
                              (try (have c59b3 : ¬ (t200 = t202) := by simpa using c59))
                              clear c59
                              exact absurd ((Option.some.inj H).trans HLAW.out) (by decide)
                        · rw [if_neg c55] at H
                          have c55b0 : (t201 == t203) = false := beq_eq_false_iff_ne.mpr c55
                          have c55b1 : (t201 != t203) = true := bne_iff_ne.mpr c55
                          exact absurd ((Option.some.inj H).trans HLAW.out) (by decide)
                      · rw [if_neg c54] at H
                        have c54b0 : (t198 == false) = false := by simpa using c54
                        (try (have c54b1 : decide (t198 = false) = false := by simpa using c54))
                        (try (have c54b2 : (t198 == false) = false := by simpa using c54))
                        (try (have c54b3 : ¬ (t198 = false) := by simpa using c54))
                        clear c54
                        exact absurd ((Option.some.inj H).trans HLAW.out) (by decide)
                    · rw [if_neg c53] at H
                      have c53b0 : (t199 == 0) = false := beq_eq_false_iff_ne.mpr c53
                      have c53b1 : (t199 != 0) = true := bne_iff_ne.mpr c53
                      exact absurd ((Option.some.inj H).trans HLAW.out) (by decide)
                · replace c42 := Bool.eq_false_iff.mpr c42
                  subst c42
                  have H1 : (if t199 = 0 then (if (t198 == a2) = true then (if t201 = t203 then (if a3 = a1 then (if t205 = 0 then (if t207 = 0 then (some ((wrap64 (t206 - t204)) == 1)) else (some false)) else (some false)) else (if (t200 == t202) = true then (if t205 = 0 then (if t207 = 0 then (some ((wrap64 (t206 - t204)) == 1)) else (some false)) else (some false)) else (some false))) else (some false)) else (some false)) else (some false)) = some r := by rw [if_neg (show ¬ (false = true) by decide)] at H; exact H
                  clear H
                  have H := H1
                  clear H1
                  by_cases c62 : t199 = 0
                  · rw [if_pos c62] at H
                    have c62b0 : (t199 == 0) = true := beq_iff_eq.mpr c62
                    have c62b1 : (t199 != 0) = false := bne_eq_false_iff_eq.mpr c62
                    clear c62
                    by_cases c63 : (t198 == a2) = true
                    · rw [if_pos c63] at H
                      have c63b0 : (t198 == a2) = true := c63
                      (try (have c63b1 : decide (t198 = a2) = true := by simpa using c63))
                      (try (have c63b2 : (t198 == a2) = true := by simpa using c63))
                      clear c63
                      by_cases c64 : t201 = t203
                      · rw [if_pos c64] at H
                        have c64b0 : (t201 == t203) = true := beq_iff_eq.mpr c64
                        have c64b1 : (t201 != t203) = false := bne_eq_false_iff_eq.mpr c64
                        clear c64
                        by_cases c65 : a3 = a1
                        · rw [if_pos c65] at H
                          have c65b0 : (a3 == a1) = true := beq_iff_eq.mpr c65
                          have c65b1 : (a3 != a1) = false := bne_eq_false_iff_eq.mpr c65
                          clear c65
                          by_cases c66 : t205 = 0
                          · rw [if_pos c66] at H
                            have c66b0 : (t205 == 0) = true := beq_iff_eq.mpr c66
                            have c66b1 : (t205 != 0) = false := bne_eq_false_iff_eq.mpr c66
                            clear c66
                            by_cases c67 : t207 = 0
                            · rw [if_pos c67] at H
                              have c67b0 : (t207 == 0) = true := beq_iff_eq.mpr c67
                              have c67b1 : (t207 != 0) = false := bne_eq_false_iff_eq.mpr c67
                              clear c67
                              obtain rfl := Option.some.inj H
                              go_wp2
                              go_ret
                              exact ⟨by first | rfl | (simp [errW_none, errW_some] <;> rfl) | (simp [*, errW_none, errW_some] <;> rfl), by repeat (first | (with_reducible first | exact HB.out | apply below_alloc | apply pw_below_drewN | apply below_drew1 | refine below_set ?_ GE187.out | refine below_set ?_ GE197.out) | exact HB.out)⟩
                            · rw [if_neg c67] at H
                              have c67b0 : (t207 == 0) = false := beq_eq_false_iff_ne.mpr c67
                              have c67b1 : (t207 != 0) = true := bne_iff_ne.mpr c67
                              exact absurd ((Option.some.inj H).trans HLAW.out) (by decide)
                          · rw [if_neg c66] at H
                            have c66b0 : (t205 == 0) = false := beq_eq_false_iff_ne.mpr c66
                            have c66b1 : (t205 != 0) = true := bne_iff_ne.mpr c66
                            exact absurd ((Option.some.inj H).trans HLAW.out) (by decide)
                        · rw [if_neg c65] at H
                          have c65b0 : (a3 == a1) = false := beq_eq_false_iff_ne.mpr c65
                          have c65b1 : (a3 != a1) = true := bne_iff_ne.mpr c65
                          by_cases c68 : (t200 == t202) = true
                          · rw [if_pos c68] at H
                            have c68b0 : (t200 == t202) = true := c68
                            (try (have c68b1 : decide (t200 = t202) = true := by simpa using c68))
                            (try (have c68b2 : (t200 == t202) = true := by simpa using c68))
                            clear c68
                            by_cases c69 : t205 = 0
                            · rw [if_pos c69] at H
                              have c69b0 : (t205 == 0) = true := beq_iff_eq.mpr c69
                              have c69b1 : (t205 != 0) = false := bne_eq_false_iff_eq.mpr c69
                              clear c69
                              by_cases c70 : t207 = 0
                              · rw [if_pos c70] at H
                                have c70b0 : (t207 == 0) = true := beq_iff_eq.mpr c70
                                have c70b1 : (t207 != 0) = false := bne_eq_false_iff_eq.mpr c70
                                clear c70
                                obtain rfl := Option.some.inj H
                                go_wp2
                                go_ret
                                exact ⟨by first | rfl | (simp [errW_none, errW_some] <;> rfl) | (simp [*, errW_none, errW_some] <;> rfl), by repeat (first | (with_reducible first | exact HB.out | apply below_alloc | apply pw_below_drewN | apply below_drew1 | refine below_set ?_ GE187.out | refine below_set ?_ GE197.out) | exact HB.out)⟩
                              · rw [if_neg c70] at H
                                have c70b0 : (t207 == 0) = false := beq_eq_false_iff_ne.mpr c70
                                have c70b1 : (t207 != 0) = true := bne_iff_ne.mpr c70
                                exact absurd ((Option.some.inj H).trans HLAW.out) (by decide)
                            · rw [if_neg c69] at H
                              have c69b0 : (t205 == 0) = false := beq_eq_false_iff_ne.mpr c69
                              have c69b1 : (t205 != 0) = true := bne_iff_ne.mpr c69
                              exact absurd ((Option.some.inj H).trans HLAW.out) (by decide)
                          · rw [if_neg c68] at H
                            have c68b0 : (t200 == t202) = false := by simpa using c68
                            (try (have c68b1 : decide (t200 = t202) = false := by simpa using c68))
                            (try (have c68b2 : (t200 == t202) = false := by simpa using c68))
                            (try (have c68b3 : ¬ (t200 = t202) := by simpa using c68))
                            clear c68
                            exact absurd ((Option.some.inj H).trans HLAW.out) (by decide)
                      · rw [if_neg c64] at H
                        have c64b0 : (t201 == t203) = false := beq_eq_false_iff_ne.mpr c64
                        have c64b1 : (t201 != t203) = true := bne_iff_ne.mpr c64
                        exact absurd ((Option.some.inj H).trans HLAW.out) (by decide)
                    · rw [if_neg c63] at H
                      have c63b0 : (t198 == a2) = false := by simpa using c63
                      (try (have c63b1 : decide (t198 = a2) = false := by simpa using c63))
                      (try (have c63b2 : (t198 == a2) = false := by simpa using c63))
                      (try (have c63b3 : ¬ (t198 = a2) := by simpa using c63))
                      clear c63
                      exact absurd ((Option.some.inj H).trans HLAW.out) (by decide)
                  · rw [if_neg c62] at H
                    have c62b0 : (t199 == 0) = false := beq_eq_false_iff_ne.mpr c62
                    have c62b1 : (t199 != 0) = true := bne_iff_ne.mpr c62
                    exact absurd ((Option.some.inj H).trans HLAW.out) (by decide)
              · replace c41 := Bool.eq_false_iff.mpr c41
                subst c41
                have H1 : (if t190 = true then (if a2 = true then (if t199 = 0 then (if (t198 == a2) = true then (if t201 = t203 then (if a3 = a1 then (if t205 = 0 then (if t207 = 0 then (some ((wrap64 (t206 - t204)) == 0)) else (some false)) else (some false)) else (if (t200 == t202) = true then (if t205 = 0 then (if t207 = 0 then (some ((wrap64 (t206 - t204)) == 0)) else (some false)) else (some false)) else (some false))) else (some false)) else (some false)) else (some false)) else (if t199 = 0 then (if (t198 == a2) = true then (if t201 = t203 then (if a3 = a1 then (if t205 = 0 then (if t207 = 0 then (some ((wrap64 (t206 - t204)) == (-1))) else (some false)) else (some false)) else (if (t200 == t202) = true then (if t205 = 0 then (if t207 = 0 then (some ((wrap64 (t206 - t204)) == (-1))) else (some false)) else (some false)) else (some false))) else (some false)) else (some false)) else (some false))) else (if t199 = 0 then (if (t198 == a2) = true then (if t201 = t203 then (if a3 = a1 then (if t205 = 0 then (if t207 = 0 then (some ((wrap64 (t206 - t204)) == 0)) else (some false)) else (some false)) else (if (t200 == t202) = true then (if t205 = 0 then (if t207 = 0 then (some ((wrap64 (t206 - t204)) == 0)) else (some false)) else (some false)) else (some false))) else (some false)) else (some false)) else (some false))) = some r := by rw [if_neg (show ¬ (false = true) by decide)] at H; exact H
                clear H
                have H := H1
                clear H1
                by_cases c71 : t190 = true
                · subst c71
                  have H1 : (if a2 = true then (if t199 = 0 then (if (t198 == a2) = true then (if t201 = t203 then (if a3 = a1 then (if t205 = 0 then (if t207 = 0 then (some ((wrap64 (t206 - t204)) == 0)) else (some false)) else (some false)) else (if (t200 == t202) = true then (if t205 = 0 then (if t207 = 0 then (some ((wrap64 (t206 - t204)) == 0)) else (some false)) else (some false)) else (some false))) else (some false)) else (some false)) else (some false)) else (if t199 = 0 then (if (t198 == a2) = true then (if t201 = t203 then (if a3 = a1 then (if t205 = 0 then (if t207 = 0 then (some ((wrap64 (t206 - t204)) == (-1))) else (some false)) else (some false)) else (if (t200 == t202) = true then (if t205 = 0 then (if t207 = 0 then (some ((wrap64 (t206 - t204)) == (-1))) else (some false)) else (some false)) else (some false))) else (some false)) else (some false)) else (some false))) = some r := by rw [if_pos rfl] at H; exact H
                  clear H
                  have H := H1
                  clear H1
                  by_cases c72 : a2 = true
                  · subst c72
                    have H1 : (if t199 = 0 then (if (t198 == true) = true then (if t201 = t203 then (if a3 = a1 then (if t205 = 0 then (if t207 = 0 then (some ((wrap64 (t206 - t204)) == 0)) else (some false)) else (some false)) else (if (t200 == t202) = true then (if t205 = 0 then (if t207 = 0 then (some ((wrap64 (t206 - t204)) == 0)) else (some false)) else (some false)) else (some false))) else (some false)) else (some false)) else (some false)) = some r := by rw [if_pos rfl] at H; exact H
                    clear H
                    have H := H1
                    clear H1
                    by_cases c73 : t199 = 0
                    · rw [if_pos c73] at H
                      have c73b0 : (t199 == 0) = true := beq_iff_eq.mpr c73
                      have c73b1 : (t199 != 0) = false := bne_eq_false_iff_eq.mpr c73
                      clear c73
                      by_cases c74 : (t198 == true) = true
                      · rw [if_pos c74] at H
                        have c74b0 : (t198 == true) = true := c74
                        (try (have c74b1 : decide (t198 = true) = true := by simpa using c74))
                        (try (have c74b2 : (t198 == true) = true := by simpa using c74))
                        clear c74
                        by_cases c75 : t201 = t203
                        · rw [if_pos c75] at H
                          have c75b0 : (t201 == t203) = true := beq_iff_eq.mpr c75
                          have c75b1 : (t201 != t203) = false := bne_eq_false_iff_eq.mpr c75
                          clear c75
                          by_cases c76 : a3 = a1
                          · rw [if_pos c76] at H
                            have c76b0 : (a3 == a1) = true := beq_iff_eq.mpr c76
                            have c76b1 : (a3 != a1) = false := bne_eq_false_iff_eq.mpr c76
                            clear c76
                            by_cases c77 : t205 = 0
                            · rw [if_pos c77] at H
                              have c77b0 : (t205 == 0) = true := beq_iff_eq.mpr c77
                              have c77b1 : (t205 != 0) = false := bne_eq_false_iff_eq.mpr c77
                              clear c77
                              by_cases c78 : t207 = 0
                              · rw [if_pos c78] at H
                                have c78b0 : (t207 == 0) = true := beq_iff_eq.mpr c78
                                have c78b1 : (t207 != 0) = false := bne_eq_false_iff_eq.mpr c78
                                clear c78
                                obtain rfl := Option.some.inj H
                                go_wp2
                                go_ret
                                exact ⟨by first | rfl | (simp [errW_none, errW_some] <;> rfl) | (simp [*, errW_none, errW_some] <;> rfl), by repeat (first | (with_reducible first | exact HB.out | apply below_alloc | apply pw_below_drewN | apply below_drew1 | refine below_set ?_ GE187.out | refine below_set ?_ GE197.out) | exact HB.out)⟩
                              · rw [if_neg c78] at H
                                have c78b0 : (t207 == 0) = false := beq_eq_false_iff_ne.mpr c78
                                have c78b1 : (t207 != 0) = true := bne_iff_ne.mpr c78
                                exact absurd ((Option.some.inj H).trans HLAW.out) (by decide)
                            · rw [if_neg c77] at H
                              have c77b0 : (t205 == 0) = false := beq_eq_false_iff_ne.mpr c77
                              have c77b1 : (t205 != 0) = true := bne_iff_ne.mpr c77
                              exact absurd ((Option.some.inj H).trans HLAW.out) (by decide)
                          · rw [if_neg c76] at H
                            have c76b0 : (a3 == a1) = false := beq_eq_false_iff_ne.mpr c76
                            have c76b1 : (a3 != a1) = true := bne_iff_ne.mpr c76
                            by_cases c79 : (t200 == t202) = true
                            · rw [if_pos c79] at H
                              have c79b0 : (t200 == t202) = true := c79
                              (try (have c79b1 : decide (t200 = t202) = true := by simpa using c79))
                              (try (have c79b2 : (t200 == t202) = true := by simpa using c79))
                              clear c79
                              by_cases c80 : t205 = 0
                              · rw [if_pos c80] at H
                                have c80b0 : (t205 == 0) = true := beq_iff_eq.mpr c80
                                have c80b1 : (t205 != 0) = false := bne_eq_false_iff_eq.mpr c80
                                clear c80
                                by_cases c81 : t207 = 0
                                · rw [if_pos c81] at H
                                  have c81b0 : (t207 == 0) = true := beq_iff_eq.mpr c81
                                  have c81b1 : (t207 != 0) = false := bne_eq_false_iff_eq.mpr c81
                                  clear c81
                                  obtain rfl := Option.some.inj H
                                  go_wp2
                                  go_ret
                                  exact ⟨by first | rfl | (simp [errW_none, errW_some] <;> rfl) | (simp [*, errW_none, errW_some] <;> rfl), by repeat (first | (with_reducible first | exact HB.out | apply below_alloc | apply pw_below_drewN | apply below_drew1 | refine below_set ?_ GE187.out | refine below_set ?_ GE197.out) | exact HB.out)⟩
                                · rw [if_neg c81] at H
                                  have c81b0 : (t207 == 0) = false := beq_eq_false_iff_ne.mpr c81
                                  have c81b1 : (t207 != 0) = true := bne_iff_ne.mpr c81
                                  exact absurd ((Option.some.inj H).trans HLAW.out) (by decide)
                              · rw [if_neg c80] at H
                                have c80b0 : (t205 == 0) = false := beq_eq_false_iff_ne.mpr c80
                                have c80b1 : (t205 != 0) = true := bne_iff_ne.mpr c80
                                exact absurd ((Option.some.inj H).trans HLAW.out) (by decide)
                            · rw [if_neg c79] at H
                              have c79b0 : (t200 == t202) = false := by simpa using c79
                              (try (have c79b1 : decide (t200 = t202) = false := by simpa using c79))
                              (try (have c79b2 : (t200 == t202) = false := by simpa using c79))
                              (try (have c79b3 : ¬ (t200 = t202) := by simpa using c79))
                              clear c79
                              exact absurd ((Option.some.inj H).trans HLAW.out) (by decide)
                        · rw [if_neg c75] at H
                          have c75b0 : (t201 == t203) = false := beq_eq_false_iff_ne.mpr c75
                          have c75b1 : (t201 != t203) = true := bne_iff_ne.mpr c75
                          exact absurd ((Option.some.inj H).trans HLAW.out) (by decide)
                      · rw [if_neg c74] at H
                        have c74b0 : (t198 == true) = false := by simpa using c74
                        (try (have c74b1 : decide (t198 = true) = false := by simpa using c74))
                        (try (have c74b2 : (t198 == true) = false := by simpa using c74))
                        (try (have c74b3 : ¬ (t198 = true) := by simpa using c74))
                        clear c74
                        exact absurd ((Option.some.inj H).trans HLAW.out) (by decide)
                    · rw [if_neg c73] at H
                      have c73b0 : (t199 == 0) = false := beq_eq_false_iff_ne.mpr c73
                      have c73b1 : (t199 != 0) = true := bne_iff_ne.mpr c73
                      exact absurd ((Option.some.inj H).trans HLAW.out) (by decide)
                  · replace c72 := Bool.eq_false_iff.mpr c72
                    subst c72
                    have H1 : (if t199 = 0 then (if (t198 == false) = true then (if t201 = t203 then (if a3 = a1 then (if t205 = 0 then (if t207 = 0 then (some ((wrap64 (t206 - t204)) == (-1))) else (some false)) else (some false)) else (if (t200 == t202) = true then (if t205 = 0 then (if t207 = 0 then (some ((wrap64 (t206 - t204)) == (-1))) else (some false)) else (some false)) else (some false))) else (some false)) else (some false)) else (some false)) = some r := by rw [if_neg (show ¬ (false = true) by decide)] at H; exact H
                    clear H
                    have H := H1
                    clear H1
                    by_cases c82 : t199 = 0
                    · rw [if_pos c82] at H
                      have c82b0 : (t199 == 0) = true := beq_iff_eq.mpr c82
                      have c82b1 : (t199 != 0) = false := bne_eq_false_iff_eq.mpr c82
                      clear c82
                      by_cases c83 : (t198 == false) = true
                      · rw [if_pos c83] at H
                        have c83b0 : (t198 == false) = true := c83
                        (try (have c83b1 : decide (t198 = false) = true := by simpa using c83))
                        (try (have c83b2 : (t198 == false) = true := by simpa using c83))
                        clear c83
                        by_cases c84 : t201 = t203
                        · rw [if_pos c84] at H
                          have c84b0 : (t201 == t203) = true := beq_iff_eq.mpr c84
                          have c84b1 : (t201 != t203) = false := bne_eq_false_iff_eq.mpr c84
                          clear c84
                          by_cases c85 : a3 = a1
                          · rw [if_pos c85] at H
                            have c85b0 : (a3 == a1) = true := beq_iff_eq.mpr c85
                            have c85b1 : (a3 != a1) = false := bne_eq_false_iff_eq.mpr c85
                            clear c85
                            by_cases c86 : t205 = 0
                            · rw [if_pos c86] at H
                              have c86b0 : (t205 == 0) = true := beq_iff_eq.mpr c86
                              have c86b1 : (t205 != 0) = false := bne_eq_false_iff_eq.mpr c86
                              clear c86
                              by_cases c87 : t207 = 0
                              · rw [if_pos c87] at H
                                have c87b0 : (t207 == 0) = true := beq_iff_eq.mpr c87
                                have c87b1 : (t207 != 0) = false := bne_eq_false_iff_eq.mpr c87
                                clear c87
                                obtain rfl := Option.some.inj H
                                go_wp2
                                go_ret
                                exact ⟨by first | rfl | (simp [errW_none, errW_some] <;> rfl) | (simp [*, errW_none, errW_some] <;> rfl), by repeat (first | (with_reducible first | exact HB.out | apply below_alloc | apply pw_below_drewN | apply below_drew1 | refine below_set ?_ GE187.out | refine below_set ?_ GE197.out) | exact HB.out)⟩
                              · rw [if_neg c87] at H
                                have c87b0 : (t207 == 0) = false := beq_eq_false_iff_ne.mpr c87
                                have c87b1 : (t207 != 0) = true := bne_iff_ne.mpr c87
                                exact absurd ((Option.some.inj H).trans HLAW.out) (by decide)
                            · rw [if_neg c86] at H
                              have c86b0 : (t205 == 0) = false := beq_eq_false_iff_ne.mpr c86
                              have c86b1 : (t205 != 0) = true := bne_iff_ne.mpr c86
                              exact absurd ((Option.some.inj H).trans HLAW.out) (by decide)
                          · rw [if_neg c85] at H
                            have c85b0 : (a3 == a1) = false := beq_eq_false_iff_ne.mpr c85
                            have c85b1 : (a3 != a1) = true := bne_iff_ne.mpr c85
                            by_cases c88 : (t200 == t202) = true
                            · rw [if_pos c88] at H
                              have c88b0 : (t200 == t202) = true := c88
                              (try (have c88b1 : decide (t200 = t202) = true := by simpa using c88))
                              (try (have c88b2 : (t200 == t202) = true := by simpa using c88))
                              clear c88
                              by_cases c89 : t205 = 0
                              · rw [if_pos c89] at H
                                have c89b0 : (t205 == 0) = true := beq_iff_eq.mpr c89
                                have c89b1 : (t205 != 0) = false := bne_eq_false_iff_eq.mpr c89
                                clear c89
                                by_cases c90 : t207 = 0
                                · rw [if_pos c90] at H
                                  have c90b0 : (t207 == 0) = true := beq_iff_eq.mpr c90
                                  have c90b1 : (t207 != 0) = false := bne_eq_false_iff_eq.mpr c90
                                  clear c90
                                  obtain rfl := Option.some.inj H
                                  go_wp2
                                  go_ret
                                  exact ⟨by first | rfl | (simp [errW_none, errW_some] <;> rfl) | (simp [*, errW_none, errW_some] <;> rfl), by repeat (first | (with_reducible first | exact HB.out | apply below_alloc | apply pw_below_drewN | apply below_drew1 | refine below_set ?_ GE187.out | refine below_set ?_ GE197.out) | exact HB.out)⟩
                                · rw [if_neg c90] at H
                                  have c90b0 : (t207 == 0) = false := beq_eq_false_iff_ne.mpr c90
                                  have c90b1 : (t207 != 0) = true := bne_iff_ne.mpr c90
                                  exact absurd ((Option.some.inj H).trans HLAW.out) (by decide)
                              · rw [if_neg c89] at H
                                have c89b0 : (t205 == 0) = false := beq_eq_false_iff_ne.mpr c89
                                have c89b1 : (t205 != 0) = true := bne_iff_ne.mpr c89
                                exact absurd ((Option.some.inj H).trans HLAW.out) (by decide)
                            · rw [if_neg c88] at H
                              have c88b0 : (t200 == t202) = false := by simpa using c88
                              (try (have c88b1 : decide (t200 = t202) = false := by simpa using c88))
                              (try (have c88b2 : (t200 == t202) = false := by simpa using c88))
                              (try (have c88b3 : ¬ (t200 = t202) := by simpa using c88))
                              clear c88
                              exact absurd ((Option.some.inj H).trans HLAW.out) (by decide)
                        · rw [if_neg c84] at H
                          have c84b0 : (t201 == t203) = false := beq_eq_false_iff_ne.mpr c84
                          have c84b1 : (t201 != t203) = true := bne_iff_ne.mpr c84
                          exact absurd ((Option.some.inj H).trans HLAW.out) (by decide)
                      · rw [if_neg c83] at H
                        have c83b0 : (t198 == false) = false := by simpa using c83
                        (try (have c83b1 : decide (t198 = false) = false := by simpa using c83))
                        (try (have c83b2 : (t198 == false) = false := by simpa using c83))
                        (try (have c83b3 : ¬ (t198 = false) := by simpa using c83))
                        clear c83
                        exact absurd ((Option.some.inj H).trans HLAW.out) (by decide)
                    · rw [if_neg c82] at H
                      have c82b0 : (t199 == 0) = false := beq_eq_false_iff_ne.mpr c82
                      have c82b1 : (t199 != 0) = true := bne_iff_ne.mpr c82
                      exact absurd ((Option.some.inj H).trans HLAW.out) (by decide)
                · replace c71 := Bool.eq_false_iff.mpr c71
                  subst c71
                  have H1 : (if t199 = 0 then (if (t198 == a2) = true then (if t201 = t203 then (if a3 = a1 then (if t205 = 0 then (if t207 = 0 then (some ((wrap64 (t206 - t204)) == 0)) else (some false)) else (some false)) else (if (t200 == t202) = true then (if t205 = 0 then (if t207 = 0 then (some ((wrap64 (t206 - t204)) == 0)) else (some false)) else (some false)) else (some false))) else (some false)) else (some false)) else (some false)) = some r := by rw [if_neg (show ¬ (false = true) by decide)] at H; exact H
                  clear H
                  have H := H1
                  clear H1
                  by_cases c91 : t199 = 0
                  · rw [if_pos c91] at H
                    have c91b0 : (t199 == 0) = true := beq_iff_eq.mpr c91
                    have c91b1 : (t199 != 0) = false := bne_eq_false_iff_eq.mpr c91
                    clear c91
                    by_cases c92 : (t198 == a2) = true
                    · rw [if_pos c92] at H
                      have c92b0 : (t198 == a2) = true := c92
                      (try (have c92b1 : decide (t198 = a2) = true := by simpa using c92))
                      (try (have c92b2 : (t198 == a2) = true := by simpa using c92))
                      clear c92
                      by_cases c93 : t201 = t203
                      · rw [if_pos c93] at H
                        have c93b0 : (t201 == t203) = true := beq_iff_eq.mpr c93
                        have c93b1 : (t201 != t203) = false := bne_eq_false_iff_eq.mpr c93
                        clear c93
                        by_cases c94 : a3 = a1
                        · rw [if_pos c94] at H
                          have c94b0 : (a3 == a1) = true := beq_iff_eq.mpr c94
                          have c94b1 : (a3 != a1) = false := bne_eq_false_iff_eq.mpr c94
                          clear c94
                          by_cases c95 : t205 = 0
                          · rw [if_pos c95] at H
                            have c95b0 : (t205 == 0) = true := beq_iff_eq.mpr c95
                            have c95b1 : (t205 != 0) = false := bne_eq_false_iff_eq.mpr c95
                            clear c95
                            by_cases c96 : t207 = 0
                            · rw [if_pos c96] at H
                              have c96b0 : (t207 == 0) = true := beq_iff_eq.mpr c96
                              have c96b1 : (t207 != 0) = false := bne_eq_false_iff_eq.mpr c96
                              clear c96
                              obtain rfl := Option.some.inj H
                              go_wp2
                              go_ret
                              exact ⟨by first | rfl | (simp [errW_none, errW_some] <;> rfl) | (simp [*, errW_none, errW_some] <;> rfl), by repeat (first | (with_reducible first | exact HB.out | apply below_alloc | apply pw_below_drewN | apply below_drew1 | refine below_set ?_ GE187.out | refine below_set ?_ GE197.out) | exact HB.out)⟩
                            · rw [if_neg c96] at H
                              have c96b0 : (t207 == 0) = false := beq_eq_false_iff_ne.mpr c96
                              have c96b1 : (t207 != 0) = true := bne_iff_ne.mpr c96
                              exact absurd ((Option.some.inj H).trans HLAW.out) (by decide)
                          · rw [if_neg c95] at H
                            have c95b0 : (t205 == 0) = false := beq_eq_false_iff_ne.mpr c95
                            have c95b1 : (t205 != 0) = true := bne_iff_ne.mpr c95
                            exact absurd ((Option.some.inj H).trans HLAW.out) (by decide)
                        · rw [if_neg c94] at H
                          have c94b0 : (a3 == a1) = false := beq_eq_false_iff_ne.mpr c94
                          have c94b1 : (a3 != a1) = true := bne_iff_ne.mpr c94
                          by_cases c97 : (t200 == t202) = true
                          · rw [if_pos c97] at H
                            have c97b0 : (t200 == t202) = true := c97
                            (try (have c97b1 : decide (t200 = t202) = true := by simpa using c97))
                            (try (have c97b2 : (t200 == t202) = true := by simpa using c97))
                            clear c97
                            by_cases c98 : t205 = 0
                            · rw [if_pos c98] at H
                              have c98b0 : (t205 == 0) = true := beq_iff_eq.mpr c98
                              have c98b1 : (t205 != 0) = false := bne_eq_false_iff_eq.mpr c98
                              clear c98
                              by_cases c99 : t207 = 0
                              · rw [if_pos c99] at H
                                have c99b0 : (t207 == 0) = true := beq_iff_eq.mpr c99
                                have c99b1 : (t207 != 0) = false := bne_eq_false_iff_eq.mpr c99
                                clear c99
                                obtain rfl := Option.some.inj H
                                go_wp2
                                go_ret
                                exact ⟨by first | rfl | (simp [errW_none, errW_some] <;> rfl) | (simp [*, errW_none, errW_some] <;> rfl), by repeat (first | (with_reducible first | exact HB.out | apply below_alloc | apply pw_below_drewN | apply below_drew1 | refine below_set ?_ GE187.out | refine below_set ?_ GE197.out) | exact HB.out)⟩
                              · rw [if_neg c99] at H
                                have c99b0 : (t207 == 0) = false := beq_eq_false_iff_ne.mpr c99
                                have c99b1 : (t207 != 0) = true := bne_iff_ne.mpr c99
                                exact absurd ((Option.some.inj H).trans HLAW.out) (by decide)
                            · rw [if_neg c98] at H
                              have c98b0 : (t205 == 0) = false := beq_eq_false_iff_ne.mpr c98
                              have c98b1 : (t205 != 0) = true := bne_iff_ne.mpr c98
                              exact absurd ((Option.some.inj H).trans HLAW.out) (by decide)
                          · rw [if_neg c97] at H
                            have c97b0 : (t200 == t202) = false := by simpa using c97
                            (try (have c97b1 : decide (t200 = t202) = false := by simpa using c97))
                            (try (have c97b2 : (t200 == t202) = false := by simpa using c97))
                            (try (have c97b3 : ¬ (t200 = t202) := by simpa using c97))
                            clear c97
                            exact absurd ((Option.some.inj H).trans HLAW.out) (by decide)
                      · rw [if_neg c93] at H
                        have c93b0 : (t201 == t203) = false := beq_eq_false_iff_ne.mpr c93
                        have c93b1 : (t201 != t203) = true := bne_iff_ne.mpr c93
                        exact absurd ((Option.some.inj H).trans HLAW.out) (by decide)
                    · rw [if_neg c92] at H
                      have c92b0 : (t198 == a2) = false := by simpa using c92
                      (try (have c92b1 : decide (t198 = a2) = false := by simpa using c92))
                      (try (have c92b2 : (t198 == a2) = false := by simpa using c92))
                      (try (have c92b3 : ¬ (t198 = a2) := by simpa using c92))
                      clear c92
                      exact absurd ((Option.some.inj H).trans HLAW.out) (by decide)
                  · rw [if_neg c91] at H
                    have c91b0 : (t199 == 0) = false := beq_eq_false_iff_ne.mpr c91
                    have c91b1 : (t199 != 0) = true := bne_iff_ne.mpr c91
                    exact absurd ((Option.some.inj H).trans HLAW.out) (by decide)
        · rw [if_neg c16] at H
          have c16b0 : (t196 == 0) = false := beq_eq_false_iff_ne.mpr c16
          have c16b1 : (t196 != 0) = true := bne_iff_ne.mpr c16
          obtain rfl := Option.some.inj H
          have hcz100_0 : wc.cell? ⟨gb187, 0, none⟩ = some (.int .i64 a0_0) := (blk_cell BK187.out 0).trans rfl
          have hcz100_1 : wc.cell? ⟨gb187, 1, none⟩ = some (.slice A0_1 l0_1.length c0_1) := (blk_cell BK187.out 1).trans rfl
          have hfz100_0 := blk_frozen BK187.out 0
          have hfz100_1 := blk_frozen BK187.out 1
          go_wp2_with (first | ((with_reducible refine gate_callee (f := 17) rfl ?_); refine goesL_ (some 33) rfl rfl Tryd.func17 (by kernel_rfl) rfl #[.agg #[.int .i64 a0_0, .slice A0_1 l0_1.length c0_1], .int .i64 a1] rfl (by (try simp only [List.map_toArray, List.map_cons, List.map_nil]); first | done | rfl | (simp only [List.length_drop, List.length_take]; rfl)) ?_; (with_reducible refine (bits_Get.calls kj4 a0_0 _ _ l0_1 a1 t190 t191 _ ?side1 ?side2 A14.out).mono ?_); (case side1 => repeat (first | exact (Kd.C_below HR0_1.out HB.out) | (with_reducible refine Kd.C_alloc ?_ _) | (with_reducible refine Kd.C_drewN ?_ _) | (with_reducible refine Kd.C_drew ?_))); (case side2 => exact HC0_1.out); rintro e w101 ⟨rfl, hb⟩; refine ⟨_, rfl, ?_⟩; have n0_ := Aside0.mk (blk_below (g := gb187) (o := .cells #[.int .i64 a0_0, .slice A0_1 l0_1.length c0_1] 24 (0, 0)) (by (with_reducible repeat (first | refine blk_drewN ?_ _ | refine blk_drew ?_ | refine blk_alloc ?_ _)); exact BK187.out) hb); have n1_ := Aside0.mk (below_step (by repeat (first | (with_reducible first | exact HB.out | apply below_alloc | apply pw_below_drewN | apply below_drew1 | refine below_set ?_ GE187.out) | exact HB.out)) hb); clear BK187; clear HB; have BK187 := n0_; have HB := n1_; clear n0_ n1_; (try clear hb); (try clear hb2); (try clear hk); (try clear hi); have hcz102_0 : w101.cell? ⟨gb187, 0, none⟩ = some (.int .i64 a0_0) := (blk_cell BK187.out 0).trans rfl; have hcz102_1 : w101.cell? ⟨gb187, 1, none⟩ = some (.slice A0_1 l0_1.length c0_1) := (blk_cell BK187.out 1).trans rfl; have hfz102_0 := blk_frozen BK187.out 0; have hfz102_1 := blk_frozen BK187.out 1) | ((with_reducible refine gate_callee (f := 18) rfl ?_); refine goesL_ (some 40) rfl rfl Tryd.func18 (by kernel_rfl) rfl #[.agg #[.int .i64 a0_0, .slice A0_1 l0_1.length c0_1], .int .i64 a1, .bool a2] rfl (by (try simp only [List.map_toArray, List.map_cons, List.map_nil]); first | done | rfl | (simp only [List.length_drop, List.length_take]; rfl)) ?_; (with_reducible refine (bits_Put.calls kj4 a0_0 _ _ l0_1 a1 a2 t192 t193 t196 _ ?side1 ?side2 A15.out).mono ?_); (case side1 => repeat (first | exact (Kd.C_below HR0_1.out HB.out) | (with_reducible refine Kd.C_alloc ?_ _) | (with_reducible refine Kd.C_drewN ?_ _) | (with_reducible refine Kd.C_drew ?_))); (case side2 => exact HC0_1.out); rintro e w103 ⟨v194, rfl, ho0, hb⟩; refine ⟨_, rfl, ?_⟩; have n0_ := Aside0.mk (Kd.R_lower ho0 (below_size (by repeat (first | (with_reducible first | exact HB.out | apply below_alloc | apply pw_below_drewN | apply below_drew1 | refine below_set ?_ GE187.out) | exact HB.out)))); have n1_ := Aside0.mk (blk_below (g := gb187) (o := .cells #[.int .i64 a0_0, .slice A0_1 l0_1.length c0_1] 24 (0, 0)) (by (with_reducible repeat (first | refine blk_drewN ?_ _ | refine blk_drew ?_ | refine blk_alloc ?_ _)); exact BK187.out) hb); have n2_ := Aside0.mk (below_step (by repeat (first | (with_reducible first | exact HB.out | apply below_alloc | apply pw_below_drewN | apply below_drew1 | refine below_set ?_ GE187.out) | exact HB.out)) hb); clear BK187; clear HB; have HO195 := n0_; have BK187 := n1_; have HB := n2_; clear n0_ n1_ n2_; (try clear hb); (try clear hb2); (try clear hk); (try clear hi); (try clear ho0)) | ((with_reducible refine gate_dst (N := 11) rfl ?_); refine box_event ?hg (N := 11) ?hd (cs := #[.int .i64 0, .slice none 0 0]) (t := 24) ?hr ?_; (case hd => rfl); (case hg => rfl); (case hr => first | (go_simp; done) | (go_simp; rfl)); intro gb197 hg w104 hbox hb; have n0_ := Aside0.mk (Kd.R_below (by (with_reducible repeat (first | apply Kd.R_alloc | apply Kd.R_drewN | apply Kd.R_drew)); exact HO195.out) hb); have n1_ := Aside0.mk (blk_below (g := gb187) (o := .cells #[.int .i64 a0_0, .slice A0_1 l0_1.length c0_1] 24 (0, 0)) (by (with_reducible repeat (first | refine blk_drewN ?_ _ | refine blk_drew ?_ | refine blk_alloc ?_ _)); exact BK187.out) hb); have n2_ := Aside0.mk (below_step (by repeat (first | (with_reducible first | exact HB.out | apply below_alloc | apply pw_below_drewN | apply below_drew1 | refine below_set ?_ GE187.out) | exact HB.out)) hb); have n3_ := Aside0.mk (hbox); have n4_ := Aside0.mk ((by rw [hg]; exact (below_size (by repeat (first | (with_reducible first | exact HB.out | apply below_alloc | apply pw_below_drewN | apply below_drew1 | refine below_set ?_ GE187.out) | exact HB.out))) : w.heap.size ≤ gb197)); have n5_ := Aside0.mk ((by rw [hg]; exact (below_size (by repeat (first | (with_reducible first | exact HB.out | apply below_alloc | apply pw_below_drewN | apply below_drew1 | refine below_set ?_ GE187.out) | exact HB.out))) : w.heap.size ≤ gb197)); have n6_ := Aside0.mk ((by rw [hg]; exact Nat.ne_of_lt (blk_lt (g := gb187) (o := .cells #[.int .i64 a0_0, .slice A0_1 l0_1.length c0_1] 24 (0, 0)) (by (with_reducible repeat (first | refine blk_drewN ?_ _ | refine blk_drew ?_ | refine blk_alloc ?_ _)); exact BK187.out)) : gb187 ≠ gb197)); have n7_ := Aside0.mk ((by rw [hg]; exact Nat.ne_of_gt (blk_lt (g := gb187) (o := .cells #[.int .i64 a0_0, .slice A0_1 l0_1.length c0_1] 24 (0, 0)) (by (with_reducible repeat (first | refine blk_drewN ?_ _ | refine blk_drew ?_ | refine blk_alloc ?_ _)); exact BK187.out)) : gb197 ≠ gb187)); clear HO195; clear BK187; clear HB; have HO195 := n0_; have BK187 := n1_; have HB := n2_; have BK197 := n3_; have GW197 := n4_; have GE197 := n5_; have NB187_197 := n6_; have NB197_187 := n7_; clear n0_ n1_ n2_ n3_ n4_ n5_ n6_ n7_; clear hb hbox hg; have hnb105 := NB197_187.out; have hnc105 := NB187_197.out; have hcz106_0 : w104.cell? ⟨gb197, 0, none⟩ = some (.int .i64 0) := (blk_cell BK197.out 0).trans rfl; have hcz106_1 : w104.cell? ⟨gb197, 1, none⟩ = some (.slice none 0 0) := (blk_cell BK197.out 1).trans rfl; have hfz106_0 := blk_frozen BK197.out 0; have hfz106_1 := blk_frozen BK197.out 1; obtain ⟨Ao107, co107, eo107⟩ := Kd.R_slice HO195.out; subst eo107))
          go_ret
          exact ⟨by first | rfl | (simp [errW_none, errW_some] <;> rfl) | (simp [*, errW_none, errW_some] <;> rfl), by repeat (first | (with_reducible first | exact HB.out | apply below_alloc | apply pw_below_drewN | apply below_drew1 | refine below_set ?_ GE187.out | refine below_set ?_ GE197.out) | exact HB.out)⟩

end Go.Proofs.YthphncefbahcaaaDoor.GB
