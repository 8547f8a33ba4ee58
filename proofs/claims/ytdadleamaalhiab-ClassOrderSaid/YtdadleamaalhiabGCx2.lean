/- Made by gprint.py, this session's program over the kit's print program, out of the translation; the functions that it does not print are proved by hand (wip/given). Lean checks it. -/
import Derived.Test.YtdadleamaalhiabGCx0
import Derived.Test.YtdadleamaalhiabGCx1
namespace Go.Proofs.Ytdadleamaalhiab.GC
open Go.RowKit Go.Proofs.YtdadleamaalhiabW.PrintWords Go.Proofs.YtdadleamaalhiabW.PrintLast Go.Proofs.YtdadleamaalhiabW.PrintMore
attribute [local go_sem] max2_int min2_int max_two min_two max_three min_three max_four min_four   -- for this text's walks alone
set_option linter.unusedVariables false
set_option linter.unusedSimpArgs false

/-! ### class_Waste: function 13 -/
def class_Waste.l0 : Nat → Int → List Int → Int → Int → Option (Int × Int)
  | 0, _, _, _, _ => none
  | k + 1, x4, x9, x10, x11 => if x11 < x10 then (if 0 ≤ x11 then (if x11 < (x9.length : Int) then ((class_room.f k (rd x9 x11)).bind fun bt113 => (if bt113.2 = 0 then (class_Waste.l0 k (wrap64 (x4 + (wrap64 (bt113.1 - (rd x9 x11))))) x9 x10 (wrap64 (x11 + 1))) else (some (0, bt113.2)))) else (none)) else (none)) else (some (x4, 0))
def class_Waste.f (k : Nat) (l0 : List Int) : Option (Int × Int) := class_Waste.l0 k 0 l0 (l0.length : Int) 0
theorem class_Waste.mono_l : ∀ k, (∀ y0 y1 y2 y3, LeO (class_Waste.l0 k y0 y1 y2 y3) (class_Waste.l0 (k + 1) y0 y1 y2 y3))
  | 0 => fun _ _ _ _ r h => by simp [class_Waste.l0] at h
  | k + 1 => by
    have ih0 := class_Waste.mono_l k
    · intro y0 y1 y2 y3
      unfold class_Waste.l0
      repeat' first
      | (with_reducible exact ih0 _ _ _ _)
      | (with_reducible exact class_room.mono _ _)
      | (with_reducible exact LeO.refl _)
      | (with_reducible exact LeO.none _)
      | (with_reducible refine LeO.ite ?_ ?_)
      | (with_reducible refine LeO.bind ?_ (fun _ => ?_))
      | exact ih0 _ _ _ _
      | exact class_room.mono _ _
      | exact LeO.none _
      | refine LeO.ite ?_ ?_
      | refine LeO.bind ?_ (fun _ => ?_)
theorem class_Waste.mono : ∀ a0 k, LeO (class_Waste.f k a0) (class_Waste.f (k + 1) a0) := by
  intro a0 k
  have ih0 := class_Waste.mono_l k
  unfold class_Waste.f
  repeat' first
      | (with_reducible exact ih0 _ _ _ _)
      | (with_reducible exact class_room.mono _ _)
      | (with_reducible exact LeO.refl _)
      | (with_reducible exact LeO.none _)
      | (with_reducible refine LeO.ite ?_ ?_)
      | (with_reducible refine LeO.bind ?_ (fun _ => ?_))
      | exact ih0 _ _ _ _
      | exact class_room.mono _ _
      | exact LeO.none _
      | refine LeO.ite ?_ ?_
      | refine LeO.bind ?_ (fun _ => ?_)
set_option maxHeartbeats 8000000 in
set_option maxRecDepth 100000 in
theorem class_Waste.calls (k : Nat) (A0 : Option Addr) (c0 : Nat) (l0 : List Int) (r1 : Int) (r2 : Int) (w : World) (hr0 : Kd.C (Kd.int .i64) w A0 l0.length l0) (hc0 : l0.length ≤ c0) (h : class_Waste.f k l0 = some (r1, r2)) :
    Calls Try.prog 13 #[.slice A0 l0.length c0] w fun e w' => e = .returned (.tuple #[.int .i64 r1, .int .i64 r2]) ∧ Below w.heap.size w w' := by
  have HR0 := Aside0.mk hr0
  have HC0 := Aside0.mk hc0
  clear hr0 hc0
  have HB := Aside0.mk (Below.refl w.heap.size w)
  have H : (class_Waste.l0 k 0 l0 (l0.length : Int) 0) = some (r1, r2) := h
  clear h
  have H' := Aside0.mk H
  clear H
  go_enter Try.func13, Try.ntmps13
  go_wp2
  go_loopg [4, 11] k (fun kq v4 v11 w' => ∃ (x4_1 : Int) (x11_1 : Int), v4 = .int .i64 x4_1 ∧ v11 = .int .i64 x11_1 ∧ Aside0 (class_Waste.l0 kq x4_1 l0 (l0.length : Int) x11_1 = some (r1, r2)) ∧ Aside0 (kq ≤ k) ∧ Aside0 (Below w.heap.size w w'))
  case atStart => exact ⟨(0), (0), (by first | rfl | (simp; done) | (simp [*]; done)), (by first | rfl | (simp; done) | (simp [*]; done)), H', ⟨Nat.le_refl _⟩, ⟨by repeat (first | (with_reducible first | exact HB.out | apply below_alloc | apply pw_below_drewN | apply below_drew1) | exact HB.out)⟩⟩
  case round =>
    clear H'
    try clear c1
    obtain ⟨x4_1, x11_1, rfl, rfl, HA, HK1, HB⟩ := hrel
    cases gk with
    | zero => exact absurd HA.out (by simp [class_Waste.l0])
    | succ k1 =>
      have H := HA.out
      clear HA
      simp only [class_Waste.l0] at H
      by_cases c2 : x11_1 < (l0.length : Int)
      · rw [if_pos c2] at H
        have c2b0 : decide (x11_1 < (l0.length : Int)) = true := decide_eq_true c2
        clear c2
        by_cases c3 : 0 ≤ x11_1
        · rw [if_pos c3] at H
          have c3b0 : decide (0 ≤ x11_1) = true := decide_eq_true c3
          clear c3
          by_cases c4 : x11_1 < (l0.length : Int)
          · rw [if_pos c4] at H
            have c4b0 : decide (x11_1 < (l0.length : Int)) = true := decide_eq_true c4
            clear c4
            replace H := Option.bind_eq_some_iff.mp H
            obtain ⟨⟨t113, t114⟩, A50, H⟩ := H
            replace H : (if t114 = 0 then (class_Waste.l0 k1 (wrap64 (x4_1 + (wrap64 (t113 - (rd l0 x11_1))))) l0 (l0.length : Int) (wrap64 (x11_1 + 1))) else (some (0, t114))) = some (r1, r2) := H
            have A5 := Aside0.mk A50
            clear A50
            by_cases c6 : t114 = 0
            · rw [if_pos c6] at H
              have c6b0 : (t114 == 0) = true := beq_iff_eq.mpr c6
              have c6b1 : (t114 != 0) = false := bne_eq_false_iff_eq.mpr c6
              clear c6
              have H' := Aside0.mk H
              clear H
              have p112 : 0 ≤ (x11_1 : Int) := of_decide_eq_true (by first | (with_reducible assumption) | assumption)
              have q112 : x11_1 < (l0.length : Int) := of_decide_eq_true (by first | (with_reducible assumption) | assumption)
              obtain ⟨ad112, e112, hx112_0⟩ := Kd.at_int HR0.out x11_1 p112 q112
              cases e112
              replace hx112_0 := (HB.out.cell (World.block_lt_of_cell? w _ hx112_0)).trans hx112_0
              replace p112 := eq_true p112
              replace q112 := eq_true q112
              go_wp2_with (first | ((with_reducible refine gate_callee (f := 35) rfl ?_); refine goesL_ (some 17) rfl rfl Try.func35 (by kernel_rfl) rfl #[.int .i64 (rd l0 x11_1)] rfl (by (try simp only [List.map_toArray, List.map_cons, List.map_nil]); first | done | rfl | (simp only [List.length_drop, List.length_take]; rfl)) ?_; (with_reducible refine (class_room.calls k1 (rd l0 x11_1) t113 t114 _ A5.out).mono ?_); rintro e w7 ⟨rfl, hb⟩; refine ⟨_, rfl, ?_⟩; have n0_ := Aside0.mk (below_step (by repeat (first | (with_reducible first | exact HB.out | apply below_alloc | apply pw_below_drewN | apply below_drew1) | exact HB.out)) hb); clear HB; have HB := n0_; clear n0_; (try clear hb); (try clear hb2); (try clear hk); (try clear hi)))
              go_roundg k1
              case measure => have := HK1.out; omega
              case rel => exact ⟨(wrap64 (x4_1 + (wrap64 (t113 - (rd l0 x11_1))))), (wrap64 (x11_1 + 1)), (by first | rfl | (simp; done) | (simp [*]; done)), (by first | rfl | (simp; done) | (simp [*]; done)), H', ⟨by have := HK1.out; omega⟩, ⟨by repeat (first | (with_reducible first | exact HB.out | apply below_alloc | apply pw_below_drewN | apply below_drew1) | exact HB.out)⟩⟩
            · rw [if_neg c6] at H
              have c6b0 : (t114 == 0) = false := beq_eq_false_iff_ne.mpr c6
              have c6b1 : (t114 != 0) = true := bne_iff_ne.mpr c6
              simp only [Option.some.injEq, Prod.mk.injEq] at H
              obtain ⟨rfl, rfl⟩ := H
              have p112 : 0 ≤ (x11_1 : Int) := of_decide_eq_true (by first | (with_reducible assumption) | assumption)
              have q112 : x11_1 < (l0.length : Int) := of_decide_eq_true (by first | (with_reducible assumption) | assumption)
              obtain ⟨ad112, e112, hx112_0⟩ := Kd.at_int HR0.out x11_1 p112 q112
              cases e112
              replace hx112_0 := (HB.out.cell (World.block_lt_of_cell? w _ hx112_0)).trans hx112_0
              replace p112 := eq_true p112
              replace q112 := eq_true q112
              go_wp2_with (first | ((with_reducible refine gate_callee (f := 35) rfl ?_); refine goesL_ (some 17) rfl rfl Try.func35 (by kernel_rfl) rfl #[.int .i64 (rd l0 x11_1)] rfl (by (try simp only [List.map_toArray, List.map_cons, List.map_nil]); first | done | rfl | (simp only [List.length_drop, List.length_take]; rfl)) ?_; (with_reducible refine (class_room.calls k1 (rd l0 x11_1) t113 t114 _ A5.out).mono ?_); rintro e w8 ⟨rfl, hb⟩; refine ⟨_, rfl, ?_⟩; have n0_ := Aside0.mk (below_step (by repeat (first | (with_reducible first | exact HB.out | apply below_alloc | apply pw_below_drewN | apply below_drew1) | exact HB.out)) hb); clear HB; have HB := n0_; clear n0_; (try clear hb); (try clear hb2); (try clear hk); (try clear hi)))
              go_ret2
              exact ⟨by first | rfl | (simp [errW_none, errW_some] <;> rfl) | (simp [*, errW_none, errW_some] <;> rfl), by repeat (first | (with_reducible first | exact HB.out | apply below_alloc | apply pw_below_drewN | apply below_drew1) | exact HB.out)⟩
          · rw [if_neg c4] at H
            exact absurd H (by simp)
        · rw [if_neg c3] at H
          exact absurd H (by simp)
      · rw [if_neg c2] at H
        have c2b0 : decide (x11_1 < (l0.length : Int)) = false := decide_eq_false c2
        clear c2
        simp only [Option.some.injEq, Prod.mk.injEq] at H
        obtain ⟨rfl, rfl⟩ := H
        go_wp2
        go_ret2
        exact ⟨by first | rfl | (simp [errW_none, errW_some] <;> rfl) | (simp [*, errW_none, errW_some] <;> rfl), by repeat (first | (with_reducible first | exact HB.out | apply below_alloc | apply pw_below_drewN | apply below_drew1) | exact HB.out)⟩

/-! ### besomlaw04_lives: function 8 -/
def besomlaw04_lives.f (k : Nat)  : Option (Bool) := (class_Of.f k 3).bind fun bt115 => ((class_Of.f k 17).bind fun bt117 => ((class_Size.f 1).bind fun bt119 => ((class_Slots.f 0).bind fun bt121 => ((class_Pages.f k 17).bind fun bt123 => ((class_Waste.f k (([3, 17] : List Int))).bind fun bt128 => ((class_Of.f k 50).bind fun bt130 => (if bt115.1 = 1 then (if bt115.2 = 0 then (if bt117.1 = (-1) then (if bt117.2 = 0 then (if bt119.1 = 4 then (if bt119.2 = 0 then (if bt121.1 = 8 then (if bt121.2 = 0 then (if bt123.1 = 2 then (if bt123.2 = 0 then (if bt128.1 = 16 then (if bt128.2 = 0 then (some (bt130.2 == 1)) else (some false)) else (some false)) else (some false)) else (some false)) else (some false)) else (some false)) else (some false)) else (some false)) else (some false)) else (some false)) else (some false)) else (some false))))))))
theorem besomlaw04_lives.mono : ∀ k, LeO (besomlaw04_lives.f k ) (besomlaw04_lives.f (k + 1) ) := by
  intro  k
  unfold besomlaw04_lives.f
  repeat' first
      | (with_reducible exact class_Of.mono _ _)
      | (with_reducible exact class_Pages.mono _ _)
      | (with_reducible exact class_Waste.mono _ _)
      | (with_reducible exact LeO.refl _)
      | (with_reducible exact LeO.none _)
      | (with_reducible refine LeO.ite ?_ ?_)
      | (with_reducible refine LeO.bind ?_ (fun _ => ?_))
      | exact class_Of.mono _ _
      | exact class_Pages.mono _ _
      | exact class_Waste.mono _ _
      | exact LeO.none _
      | refine LeO.ite ?_ ?_
      | refine LeO.bind ?_ (fun _ => ?_)
theorem besomlaw04_lives.run_ : besomlaw04_lives.f 60 = some true := by decide +kernel
theorem besomlaw04_lives.true_ (k : Nat) (r : Bool) (h : besomlaw04_lives.f k = some r) : r = true := by
  have h1 := at_rounds (g := fun k => besomlaw04_lives.f k) besomlaw04_lives.mono (k := k) (k' := k + 60) (by omega) h
  have h2 := at_rounds (g := fun k => besomlaw04_lives.f k) besomlaw04_lives.mono (k := 60) (k' := k + 60) (by omega) besomlaw04_lives.run_
  replace h1 : besomlaw04_lives.f (k + 60) = some r := h1
  replace h2 : besomlaw04_lives.f (k + 60) = some true := h2
  rw [h1] at h2; exact Option.some.inj h2
set_option maxHeartbeats 8000000 in
set_option maxRecDepth 100000 in
theorem besomlaw04_lives.calls (k : Nat)  (r : Bool) (w : World) (h : besomlaw04_lives.f k  = some r) :
    Calls Try.prog 8 #[] w fun e w' => e = .returned (.bool r) ∧ Below w.heap.size w w' := by
  have HB := Aside0.mk (Below.refl w.heap.size w)
  have H : ((class_Of.f k 3).bind fun bt115 => ((class_Of.f k 17).bind fun bt117 => ((class_Size.f 1).bind fun bt119 => ((class_Slots.f 0).bind fun bt121 => ((class_Pages.f k 17).bind fun bt123 => ((class_Waste.f k (([3, 17] : List Int))).bind fun bt128 => ((class_Of.f k 50).bind fun bt130 => (if bt115.1 = 1 then (if bt115.2 = 0 then (if bt117.1 = (-1) then (if bt117.2 = 0 then (if bt119.1 = 4 then (if bt119.2 = 0 then (if bt121.1 = 8 then (if bt121.2 = 0 then (if bt123.1 = 2 then (if bt123.2 = 0 then (if bt128.1 = 16 then (if bt128.2 = 0 then (some (bt130.2 == 1)) else (some false)) else (some false)) else (some false)) else (some false)) else (some false)) else (some false)) else (some false)) else (some false)) else (some false)) else (some false)) else (some false)) else (some false))))))))) = some r := h
  clear h
  have HLAW := Aside0.mk (besomlaw04_lives.true_ k r H)
  replace H := Option.bind_eq_some_iff.mp H
  obtain ⟨⟨t115, t116⟩, A10, H⟩ := H
  replace H : ((class_Of.f k 17).bind fun bt117 => ((class_Size.f 1).bind fun bt119 => ((class_Slots.f 0).bind fun bt121 => ((class_Pages.f k 17).bind fun bt123 => ((class_Waste.f k (([3, 17] : List Int))).bind fun bt128 => ((class_Of.f k 50).bind fun bt130 => (if t115 = 1 then (if t116 = 0 then (if bt117.1 = (-1) then (if bt117.2 = 0 then (if bt119.1 = 4 then (if bt119.2 = 0 then (if bt121.1 = 8 then (if bt121.2 = 0 then (if bt123.1 = 2 then (if bt123.2 = 0 then (if bt128.1 = 16 then (if bt128.2 = 0 then (some (bt130.2 == 1)) else (some false)) else (some false)) else (some false)) else (some false)) else (some false)) else (some false)) else (some false)) else (some false)) else (some false)) else (some false)) else (some false)) else (some false)))))))) = some r := H
  have A1 := Aside0.mk A10
  clear A10
  replace H := Option.bind_eq_some_iff.mp H
  obtain ⟨⟨t117, t118⟩, A20, H⟩ := H
  replace H : ((class_Size.f 1).bind fun bt119 => ((class_Slots.f 0).bind fun bt121 => ((class_Pages.f k 17).bind fun bt123 => ((class_Waste.f k (([3, 17] : List Int))).bind fun bt128 => ((class_Of.f k 50).bind fun bt130 => (if t115 = 1 then (if t116 = 0 then (if t117 = (-1) then (if t118 = 0 then (if bt119.1 = 4 then (if bt119.2 = 0 then (if bt121.1 = 8 then (if bt121.2 = 0 then (if bt123.1 = 2 then (if bt123.2 = 0 then (if bt128.1 = 16 then (if bt128.2 = 0 then (some (bt130.2 == 1)) else (some false)) else (some false)) else (some false)) else (some false)) else (some false)) else (some false)) else (some false)) else (some false)) else (some false)) else (some false)) else (some false)) else (some false))))))) = some r := H
  have A2 := Aside0.mk A20
  clear A20
  replace H := Option.bind_eq_some_iff.mp H
  obtain ⟨⟨t119, t120⟩, A30, H⟩ := H
  replace H : ((class_Slots.f 0).bind fun bt121 => ((class_Pages.f k 17).bind fun bt123 => ((class_Waste.f k (([3, 17] : List Int))).bind fun bt128 => ((class_Of.f k 50).bind fun bt130 => (if t115 = 1 then (if t116 = 0 then (if t117 = (-1) then (if t118 = 0 then (if t119 = 4 then (if t120 = 0 then (if bt121.1 = 8 then (if bt121.2 = 0 then (if bt123.1 = 2 then (if bt123.2 = 0 then (if bt128.1 = 16 then (if bt128.2 = 0 then (some (bt130.2 == 1)) else (some false)) else (some false)) else (some false)) else (some false)) else (some false)) else (some false)) else (some false)) else (some false)) else (some false)) else (some false)) else (some false)) else (some false)))))) = some r := H
  have A3 := Aside0.mk A30
  clear A30
  replace H := Option.bind_eq_some_iff.mp H
  obtain ⟨⟨t121, t122⟩, A40, H⟩ := H
  replace H : ((class_Pages.f k 17).bind fun bt123 => ((class_Waste.f k (([3, 17] : List Int))).bind fun bt128 => ((class_Of.f k 50).bind fun bt130 => (if t115 = 1 then (if t116 = 0 then (if t117 = (-1) then (if t118 = 0 then (if t119 = 4 then (if t120 = 0 then (if t121 = 8 then (if t122 = 0 then (if bt123.1 = 2 then (if bt123.2 = 0 then (if bt128.1 = 16 then (if bt128.2 = 0 then (some (bt130.2 == 1)) else (some false)) else (some false)) else (some false)) else (some false)) else (some false)) else (some false)) else (some false)) else (some false)) else (some false)) else (some false)) else (some false)) else (some false))))) = some r := H
  have A4 := Aside0.mk A40
  clear A40
  replace H := Option.bind_eq_some_iff.mp H
  obtain ⟨⟨t123, t124⟩, A50, H⟩ := H
  replace H : ((class_Waste.f k (([3, 17] : List Int))).bind fun bt128 => ((class_Of.f k 50).bind fun bt130 => (if t115 = 1 then (if t116 = 0 then (if t117 = (-1) then (if t118 = 0 then (if t119 = 4 then (if t120 = 0 then (if t121 = 8 then (if t122 = 0 then (if t123 = 2 then (if t124 = 0 then (if bt128.1 = 16 then (if bt128.2 = 0 then (some (bt130.2 == 1)) else (some false)) else (some false)) else (some false)) else (some false)) else (some false)) else (some false)) else (some false)) else (some false)) else (some false)) else (some false)) else (some false)) else (some false)))) = some r := H
  have A5 := Aside0.mk A50
  clear A50
  obtain ⟨y125, hy125⟩ : ∃ y_ : List Int, y_ = (([3, 17] : List Int)) := ⟨_, rfl⟩
  replace H : ((class_Waste.f k y125).bind fun bt128 => ((class_Of.f k 50).bind fun bt130 => (if t115 = 1 then (if t116 = 0 then (if t117 = (-1) then (if t118 = 0 then (if t119 = 4 then (if t120 = 0 then (if t121 = 8 then (if t122 = 0 then (if t123 = 2 then (if t124 = 0 then (if bt128.1 = 16 then (if bt128.2 = 0 then (some (bt130.2 == 1)) else (some false)) else (some false)) else (some false)) else (some false)) else (some false)) else (some false)) else (some false)) else (some false)) else (some false)) else (some false)) else (some false)) else (some false)))) = some r := by first | (rw [hy125]; with_reducible exact H) | (have H2_ := (Option.bind_some _ _).symm.trans H; rw [hy125]; with_reducible exact H2_) | (have H2_ := (Option.bind_some _ _).symm.trans H; with_reducible exact H2_) | with_reducible exact H | (rw [hy125]; exact H) | exact H
  have Ny125 := Aside0.mk hy125
  clear hy125
  replace H := Option.bind_eq_some_iff.mp H
  obtain ⟨⟨t128, t129⟩, A60, H⟩ := H
  replace H : ((class_Of.f k 50).bind fun bt130 => (if t115 = 1 then (if t116 = 0 then (if t117 = (-1) then (if t118 = 0 then (if t119 = 4 then (if t120 = 0 then (if t121 = 8 then (if t122 = 0 then (if t123 = 2 then (if t124 = 0 then (if t128 = 16 then (if t129 = 0 then (some (bt130.2 == 1)) else (some false)) else (some false)) else (some false)) else (some false)) else (some false)) else (some false)) else (some false)) else (some false)) else (some false)) else (some false)) else (some false)) else (some false))) = some r := H
  have A6 := Aside0.mk A60
  clear A60
  replace H := Option.bind_eq_some_iff.mp H
  obtain ⟨⟨t130, t131⟩, A70, H⟩ := H
  replace H : (if t115 = 1 then (if t116 = 0 then (if t117 = (-1) then (if t118 = 0 then (if t119 = 4 then (if t120 = 0 then (if t121 = 8 then (if t122 = 0 then (if t123 = 2 then (if t124 = 0 then (if t128 = 16 then (if t129 = 0 then (some (t131 == 1)) else (some false)) else (some false)) else (some false)) else (some false)) else (some false)) else (some false)) else (some false)) else (some false)) else (some false)) else (some false)) else (some false)) else (some false)) = some r := H
  have A7 := Aside0.mk A70
  clear A70
  by_cases c8 : t115 = 1
  · rw [if_pos c8] at H
    have c8b0 : (t115 == 1) = true := beq_iff_eq.mpr c8
    have c8b1 : (t115 != 1) = false := bne_eq_false_iff_eq.mpr c8
    clear c8
    by_cases c9 : t116 = 0
    · rw [if_pos c9] at H
      have c9b0 : (t116 == 0) = true := beq_iff_eq.mpr c9
      have c9b1 : (t116 != 0) = false := bne_eq_false_iff_eq.mpr c9
      clear c9
      by_cases c10 : t117 = (-1)
      · rw [if_pos c10] at H
        have c10b0 : (t117 == (-1)) = true := beq_iff_eq.mpr c10
        have c10b1 : (t117 != (-1)) = false := bne_eq_false_iff_eq.mpr c10
        clear c10
        by_cases c11 : t118 = 0
        · rw [if_pos c11] at H
          have c11b0 : (t118 == 0) = true := beq_iff_eq.mpr c11
          have c11b1 : (t118 != 0) = false := bne_eq_false_iff_eq.mpr c11
          clear c11
          by_cases c12 : t119 = 4
          · rw [if_pos c12] at H
            have c12b0 : (t119 == 4) = true := beq_iff_eq.mpr c12
            have c12b1 : (t119 != 4) = false := bne_eq_false_iff_eq.mpr c12
            clear c12
            by_cases c13 : t120 = 0
            · rw [if_pos c13] at H
              have c13b0 : (t120 == 0) = true := beq_iff_eq.mpr c13
              have c13b1 : (t120 != 0) = false := bne_eq_false_iff_eq.mpr c13
              clear c13
              by_cases c14 : t121 = 8
              · rw [if_pos c14] at H
                have c14b0 : (t121 == 8) = true := beq_iff_eq.mpr c14
                have c14b1 : (t121 != 8) = false := bne_eq_false_iff_eq.mpr c14
                clear c14
                by_cases c15 : t122 = 0
                · rw [if_pos c15] at H
                  have c15b0 : (t122 == 0) = true := beq_iff_eq.mpr c15
                  have c15b1 : (t122 != 0) = false := bne_eq_false_iff_eq.mpr c15
                  clear c15
                  by_cases c16 : t123 = 2
                  · rw [if_pos c16] at H
                    have c16b0 : (t123 == 2) = true := beq_iff_eq.mpr c16
                    have c16b1 : (t123 != 2) = false := bne_eq_false_iff_eq.mpr c16
                    clear c16
                    by_cases c17 : t124 = 0
                    · rw [if_pos c17] at H
                      have c17b0 : (t124 == 0) = true := beq_iff_eq.mpr c17
                      have c17b1 : (t124 != 0) = false := bne_eq_false_iff_eq.mpr c17
                      clear c17
                      by_cases c18 : t128 = 16
                      · rw [if_pos c18] at H
                        have c18b0 : (t128 == 16) = true := beq_iff_eq.mpr c18
                        have c18b1 : (t128 != 16) = false := bne_eq_false_iff_eq.mpr c18
                        clear c18
                        by_cases c19 : t129 = 0
                        · rw [if_pos c19] at H
                          have c19b0 : (t129 == 0) = true := beq_iff_eq.mpr c19
                          have c19b1 : (t129 != 0) = false := bne_eq_false_iff_eq.mpr c19
                          clear c19
                          obtain rfl := Option.some.inj H
                          go_enter Try.func8, Try.ntmps8
                          go_wp2_with (first | ((with_reducible refine gate_callee (f := 9) rfl ?_); refine goesL_ (some 16) rfl rfl Try.func9 (by kernel_rfl) rfl #[.int .i64 3] rfl (by (try simp only [List.map_toArray, List.map_cons, List.map_nil]); first | done | rfl | (simp only [List.length_drop, List.length_take]; rfl)) ?_; (with_reducible refine (class_Of.calls k 3 t115 t116 _ A1.out).mono ?_); rintro e w20 ⟨rfl, hb⟩; refine ⟨_, rfl, ?_⟩; have n0_ := Aside0.mk (below_step (by repeat (first | (with_reducible first | exact HB.out | apply below_alloc | apply pw_below_drewN | apply below_drew1) | exact HB.out)) hb); clear HB; have HB := n0_; clear n0_; (try clear hb); (try clear hb2); (try clear hk); (try clear hi)) | ((with_reducible refine gate_callee (f := 9) rfl ?_); refine goesL_ (some 20) rfl rfl Try.func9 (by kernel_rfl) rfl #[.int .i64 17] rfl (by (try simp only [List.map_toArray, List.map_cons, List.map_nil]); first | done | rfl | (simp only [List.length_drop, List.length_take]; rfl)) ?_; (with_reducible refine (class_Of.calls k 17 t117 t118 _ A2.out).mono ?_); rintro e w21 ⟨rfl, hb⟩; refine ⟨_, rfl, ?_⟩; have n0_ := Aside0.mk (below_step (by repeat (first | (with_reducible first | exact HB.out | apply below_alloc | apply pw_below_drewN | apply below_drew1) | exact HB.out)) hb); clear HB; have HB := n0_; clear n0_; (try clear hb); (try clear hb2); (try clear hk); (try clear hi)) | ((with_reducible refine gate_callee (f := 11) rfl ?_); refine goesL_ (some 24) rfl rfl Try.func11 (by kernel_rfl) rfl #[.int .i64 1] rfl (by (try simp only [List.map_toArray, List.map_cons, List.map_nil]); first | done | rfl | (simp only [List.length_drop, List.length_take]; rfl)) ?_; (with_reducible refine (class_Size.calls 1 t119 t120 _ A3.out).mono ?_); rintro e w22 ⟨rfl, hb⟩; refine ⟨_, rfl, ?_⟩; have n0_ := Aside0.mk (below_step (by repeat (first | (with_reducible first | exact HB.out | apply below_alloc | apply pw_below_drewN | apply below_drew1) | exact HB.out)) hb); clear HB; have HB := n0_; clear n0_; (try clear hb); (try clear hb2); (try clear hk); (try clear hi)) | ((with_reducible refine gate_callee (f := 12) rfl ?_); refine goesL_ (some 28) rfl rfl Try.func12 (by kernel_rfl) rfl #[.int .i64 0] rfl (by (try simp only [List.map_toArray, List.map_cons, List.map_nil]); first | done | rfl | (simp only [List.length_drop, List.length_take]; rfl)) ?_; (with_reducible refine (class_Slots.calls 0 t121 t122 _ A4.out).mono ?_); rintro e w23 ⟨rfl, hb⟩; refine ⟨_, rfl, ?_⟩; have n0_ := Aside0.mk (below_step (by repeat (first | (with_reducible first | exact HB.out | apply below_alloc | apply pw_below_drewN | apply below_drew1) | exact HB.out)) hb); clear HB; have HB := n0_; clear n0_; (try clear hb); (try clear hb2); (try clear hk); (try clear hi)) | ((with_reducible refine gate_callee (f := 10) rfl ?_); refine goesL_ (some 32) rfl rfl Try.func10 (by kernel_rfl) rfl #[.int .i64 17] rfl (by (try simp only [List.map_toArray, List.map_cons, List.map_nil]); first | done | rfl | (simp only [List.length_drop, List.length_take]; rfl)) ?_; (with_reducible refine (class_Pages.calls k 17 t123 t124 _ A5.out).mono ?_); rintro e w24 ⟨rfl, hb⟩; refine ⟨_, rfl, ?_⟩; have n0_ := Aside0.mk (below_step (by repeat (first | (with_reducible first | exact HB.out | apply below_alloc | apply pw_below_drewN | apply below_drew1) | exact HB.out)) hb); clear HB; have HB := n0_; clear n0_; (try clear hb); (try clear hb2); (try clear hk); (try clear hi)) | ((with_reducible refine gate_dst (N := 36) rfl ?_); refine Kd.R_lit (Kd.int .i64) _ 3 ?hg (N := 36) ?hd (xs := ([3, 17] : List Int)) (inner := [.int .i64 3, .int .i64 17]) (ok := fun _ => True) (okp := fun _ => True) ?hr ?hp (fun _ hk => hk) trivial (Below.refl _ _) (Nat.le_refl _) (by simp) ?_; (case hd => rfl); (case hg => rfl); (case hr => first | (go_simp; done) | (go_simp; rfl)); (case hp => exact (Reps.one (show Kd.M (Kd.int .i64) _ _ _ 3 [.int .i64 3] from rfl) (Reps.one (show Kd.M (Kd.int .i64) _ _ _ 17 [.int .i64 17] from rfl) (Reps.none _ _)))); intro v126 w25 ho26 hb hg_ hnew_; clear hg_ hnew_; (first | rw [← Ny125.out] at ho26 | (simp only [Int.reduceToNat] at ho26; rw [← Ny125.out] at ho26)); have n0_ := Aside0.mk (Kd.R_lower ho26 (below_size (by repeat (first | (with_reducible first | exact HB.out | apply below_alloc | apply pw_below_drewN | apply below_drew1) | exact HB.out)))); have n1_ := Aside0.mk (below_step (by repeat (first | (with_reducible first | exact HB.out | apply below_alloc | apply pw_below_drewN | apply below_drew1) | exact HB.out)) hb); clear HB; have HO127 := n0_; have HB := n1_; clear n0_ n1_; clear hb ho26; obtain ⟨Ao27, co27, eo27⟩ := Kd.R_slice HO127.out; subst eo27) | ((with_reducible refine gate_callee (f := 13) rfl ?_); refine goesL_ (some 37) rfl rfl Try.func13 (by kernel_rfl) rfl #[.slice Ao27 y125.length co27] rfl (by (try simp only [List.map_toArray, List.map_cons, List.map_nil]); first | done | rfl | (simp only [List.length_drop, List.length_take]; rfl)) ?_; (with_reducible refine (class_Waste.calls k _ _ y125 t128 t129 _ ?side1 ?side2 A6.out).mono ?_); (case side1 => repeat (first | exact (Kd.R_reads' HO127.out).2.2 | (with_reducible refine Kd.C_alloc ?_ _) | (with_reducible refine Kd.C_drewN ?_ _) | (with_reducible refine Kd.C_drew ?_))); (case side2 => exact (Kd.R_reads' HO127.out).2.1); rintro e w28 ⟨rfl, hb⟩; refine ⟨_, rfl, ?_⟩; have n0_ := Aside0.mk (Kd.R_below (by (with_reducible repeat (first | apply Kd.R_alloc | apply Kd.R_drewN | apply Kd.R_drew)); exact HO127.out) hb); have n1_ := Aside0.mk (below_step (by repeat (first | (with_reducible first | exact HB.out | apply below_alloc | apply pw_below_drewN | apply below_drew1) | exact HB.out)) hb); clear HO127; clear HB; have HO127 := n0_; have HB := n1_; clear n0_ n1_; (try clear hb); (try clear hb2); (try clear hk); (try clear hi)) | ((with_reducible refine gate_callee (f := 9) rfl ?_); refine goesL_ (some 41) rfl rfl Try.func9 (by kernel_rfl) rfl #[.int .i64 50] rfl (by (try simp only [List.map_toArray, List.map_cons, List.map_nil]); first | done | rfl | (simp only [List.length_drop, List.length_take]; rfl)) ?_; (with_reducible refine (class_Of.calls k 50 t130 t131 _ A7.out).mono ?_); rintro e w29 ⟨rfl, hb⟩; refine ⟨_, rfl, ?_⟩; have n0_ := Aside0.mk (Kd.R_below (by (with_reducible repeat (first | apply Kd.R_alloc | apply Kd.R_drewN | apply Kd.R_drew)); exact HO127.out) hb); have n1_ := Aside0.mk (below_step (by repeat (first | (with_reducible first | exact HB.out | apply below_alloc | apply pw_below_drewN | apply below_drew1) | exact HB.out)) hb); clear HO127; clear HB; have HO127 := n0_; have HB := n1_; clear n0_ n1_; (try clear hb); (try clear hb2); (try clear hk); (try clear hi)))
                          go_ret
                          exact ⟨by first | rfl | (simp [errW_none, errW_some] <;> rfl) | (simp [*, errW_none, errW_some] <;> rfl), by repeat (first | (with_reducible first | exact HB.out | apply below_alloc | apply pw_below_drewN | apply below_drew1) | exact HB.out)⟩
                        · rw [if_neg c19] at H
                          have c19b0 : (t129 == 0) = false := beq_eq_false_iff_ne.mpr c19
                          have c19b1 : (t129 != 0) = true := bne_iff_ne.mpr c19
                          exact absurd ((Option.some.inj H).trans HLAW.out) (by decide)
                      · rw [if_neg c18] at H
                        have c18b0 : (t128 == 16) = false := beq_eq_false_iff_ne.mpr c18
                        have c18b1 : (t128 != 16) = true := bne_iff_ne.mpr c18
                        exact absurd ((Option.some.inj H).trans HLAW.out) (by decide)
                    · rw [if_neg c17] at H
                      have c17b0 : (t124 == 0) = false := beq_eq_false_iff_ne.mpr c17
                      have c17b1 : (t124 != 0) = true := bne_iff_ne.mpr c17
                      exact absurd ((Option.some.inj H).trans HLAW.out) (by decide)
                  · rw [if_neg c16] at H
                    have c16b0 : (t123 == 2) = false := beq_eq_false_iff_ne.mpr c16
                    have c16b1 : (t123 != 2) = true := bne_iff_ne.mpr c16
                    exact absurd ((Option.some.inj H).trans HLAW.out) (by decide)
                · rw [if_neg c15] at H
                  have c15b0 : (t122 == 0) = false := beq_eq_false_iff_ne.mpr c15
                  have c15b1 : (t122 != 0) = true := bne_iff_ne.mpr c15
                  exact absurd ((Option.some.inj H).trans HLAW.out) (by decide)
              · rw [if_neg c14] at H
                have c14b0 : (t121 == 8) = false := beq_eq_false_iff_ne.mpr c14
                have c14b1 : (t121 != 8) = true := bne_iff_ne.mpr c14
                exact absurd ((Option.some.inj H).trans HLAW.out) (by decide)
            · rw [if_neg c13] at H
              have c13b0 : (t120 == 0) = false := beq_eq_false_iff_ne.mpr c13
              have c13b1 : (t120 != 0) = true := bne_iff_ne.mpr c13
              exact absurd ((Option.some.inj H).trans HLAW.out) (by decide)
          · rw [if_neg c12] at H
            have c12b0 : (t119 == 4) = false := beq_eq_false_iff_ne.mpr c12
            have c12b1 : (t119 != 4) = true := bne_iff_ne.mpr c12
            exact absurd ((Option.some.inj H).trans HLAW.out) (by decide)
        · rw [if_neg c11] at H
          have c11b0 : (t118 == 0) = false := beq_eq_false_iff_ne.mpr c11
          have c11b1 : (t118 != 0) = true := bne_iff_ne.mpr c11
          exact absurd ((Option.some.inj H).trans HLAW.out) (by decide)
      · rw [if_neg c10] at H
        have c10b0 : (t117 == (-1)) = false := beq_eq_false_iff_ne.mpr c10
        have c10b1 : (t117 != (-1)) = true := bne_iff_ne.mpr c10
        exact absurd ((Option.some.inj H).trans HLAW.out) (by decide)
    · rw [if_neg c9] at H
      have c9b0 : (t116 == 0) = false := beq_eq_false_iff_ne.mpr c9
      have c9b1 : (t116 != 0) = true := bne_iff_ne.mpr c9
      exact absurd ((Option.some.inj H).trans HLAW.out) (by decide)
  · rw [if_neg c8] at H
    have c8b0 : (t115 == 1) = false := beq_eq_false_iff_ne.mpr c8
    have c8b1 : (t115 != 1) = true := bne_iff_ne.mpr c8
    exact absurd ((Option.some.inj H).trans HLAW.out) (by decide)

end Go.Proofs.Ytdadleamaalhiab.GC
