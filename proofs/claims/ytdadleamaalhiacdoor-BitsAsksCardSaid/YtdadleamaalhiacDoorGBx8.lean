/- Made by gprint.py, this session's program over the kit's print program, out of the translation; the functions that it does not print are proved by hand (wip/given). Lean checks it. -/
import Derived.Test.YtdadleamaalhiacDoorGBx0
import Derived.Test.YtdadleamaalhiacDoorGBx1
import Derived.Test.YtdadleamaalhiacDoorGBx3
import Derived.Test.YtdadleamaalhiacDoorGBx5
import Derived.Test.YtdadleamaalhiacDoorGBx6
import Derived.Test.YtdadleamaalhiacDoorGBx7
namespace Go.Proofs.YtdadleamaalhiacDoor.GB
open Go.RowKit Go.Proofs.YtdadleamaalhiacDoorW.PrintWords Go.Proofs.YtdadleamaalhiacDoorW.PrintLast Go.Proofs.YtdadleamaalhiacDoorW.PrintMore
attribute [local go_sem] max2_int min2_int max_two min_two max_three min_three max_four min_four   -- for this text's walks alone
set_option linter.unusedVariables false
set_option linter.unusedSimpArgs false

/-! ### besomlaw01_asks: function 17 -/
def besomlaw01_asks.f (k : Nat)  : Option (Bool) := (some (([6] : List Int) : List Int)).bind fun y141 => ((bits_Count.f k 4 y141).bind fun bt145 => ((bits_First.f k 4 y141 0 true).bind fun bt147 => ((bits_Run.f k 4 y141 1).bind fun bt149 => ((bits_Run.f k 4 y141 2).bind fun bt151 => ((bits_Both.f k 4 y141 4 (([12] : List Int))).bind fun bt156 => (if bt145.1 = 2 then (if bt145.2 = 0 then (if bt147.1 = 1 then (if bt147.2 = 0 then (if bt149.1 = 0 then (if bt149.2 = 0 then (if bt151.2 = 3 then (if bt156.2.2 = 0 then (if bt156.1 = 4 then (if 0 < (bt156.2.1.length : Int) then (some ((rd bt156.2.1 0) == 4)) else (none)) else (some false)) else (some false)) else (some false)) else (some false)) else (some false)) else (some false)) else (some false)) else (some false)) else (some false)))))))
theorem besomlaw01_asks.mono : ∀ k, LeO (besomlaw01_asks.f k ) (besomlaw01_asks.f (k + 1) ) := by
  intro  k
  unfold besomlaw01_asks.f
  repeat' first
      | (with_reducible exact bits_Both.mono _ _ _ _ _)
      | (with_reducible exact bits_Count.mono _ _ _)
      | (with_reducible exact bits_First.mono _ _ _ _ _)
      | (with_reducible exact bits_Run.mono _ _ _ _)
      | (with_reducible exact LeO.refl _)
      | (with_reducible exact LeO.none _)
      | (with_reducible refine LeO.ite ?_ ?_)
      | (with_reducible refine LeO.bind ?_ (fun _ => ?_))
      | exact bits_Both.mono _ _ _ _ _
      | exact bits_Count.mono _ _ _
      | exact bits_First.mono _ _ _ _ _
      | exact bits_Run.mono _ _ _ _
      | exact LeO.none _
      | refine LeO.ite ?_ ?_
      | refine LeO.bind ?_ (fun _ => ?_)
theorem besomlaw01_asks.run_ : besomlaw01_asks.f 60 = some true := by decide +kernel
theorem besomlaw01_asks.true_ (k : Nat) (r : Bool) (h : besomlaw01_asks.f k = some r) : r = true := by
  have h1 := at_rounds (g := fun k => besomlaw01_asks.f k) besomlaw01_asks.mono (k := k) (k' := k + 60) (by omega) h
  have h2 := at_rounds (g := fun k => besomlaw01_asks.f k) besomlaw01_asks.mono (k := 60) (k' := k + 60) (by omega) besomlaw01_asks.run_
  replace h1 : besomlaw01_asks.f (k + 60) = some r := h1
  replace h2 : besomlaw01_asks.f (k + 60) = some true := h2
  rw [h1] at h2; exact Option.some.inj h2
set_option maxHeartbeats 8000000 in
set_option maxRecDepth 100000 in
theorem besomlaw01_asks.calls (k : Nat)  (r : Bool) (w : World) (hT : TzOk w) (h : besomlaw01_asks.f k  = some r) :
    Calls Tryd.prog 17 #[] w fun e w' => e = .returned (.bool r) ∧ Below w.heap.size w w' := by
  have hu24 := Tryd.underlying24
  have HB := Aside0.mk (Below.refl w.heap.size w)
  have H : ((some (([6] : List Int) : List Int)).bind fun y141 => ((bits_Count.f k 4 y141).bind fun bt145 => ((bits_First.f k 4 y141 0 true).bind fun bt147 => ((bits_Run.f k 4 y141 1).bind fun bt149 => ((bits_Run.f k 4 y141 2).bind fun bt151 => ((bits_Both.f k 4 y141 4 (([12] : List Int))).bind fun bt156 => (if bt145.1 = 2 then (if bt145.2 = 0 then (if bt147.1 = 1 then (if bt147.2 = 0 then (if bt149.1 = 0 then (if bt149.2 = 0 then (if bt151.2 = 3 then (if bt156.2.2 = 0 then (if bt156.1 = 4 then (if 0 < (bt156.2.1.length : Int) then (some ((rd bt156.2.1 0) == 4)) else (none)) else (some false)) else (some false)) else (some false)) else (some false)) else (some false)) else (some false)) else (some false)) else (some false)) else (some false)))))))) = some r := h
  clear h
  have HT := Aside0.mk hT
  clear hT
  have HLAW := Aside0.mk (besomlaw01_asks.true_ k r H)
  obtain ⟨y141, hy141⟩ : ∃ y_ : List Int, y_ = (([6] : List Int)) := ⟨_, rfl⟩
  replace H : ((bits_Count.f k 4 y141).bind fun bt145 => ((bits_First.f k 4 y141 0 true).bind fun bt147 => ((bits_Run.f k 4 y141 1).bind fun bt149 => ((bits_Run.f k 4 y141 2).bind fun bt151 => ((bits_Both.f k 4 y141 4 (([12] : List Int))).bind fun bt156 => (if bt145.1 = 2 then (if bt145.2 = 0 then (if bt147.1 = 1 then (if bt147.2 = 0 then (if bt149.1 = 0 then (if bt149.2 = 0 then (if bt151.2 = 3 then (if bt156.2.2 = 0 then (if bt156.1 = 4 then (if 0 < (bt156.2.1.length : Int) then (some ((rd bt156.2.1 0) == 4)) else (none)) else (some false)) else (some false)) else (some false)) else (some false)) else (some false)) else (some false)) else (some false)) else (some false)) else (some false))))))) = some r := by first | (rw [hy141]; with_reducible exact H) | (have H2_ := (Option.bind_some _ _).symm.trans H; rw [hy141]; with_reducible exact H2_) | (have H2_ := (Option.bind_some _ _).symm.trans H; with_reducible exact H2_) | with_reducible exact H | (rw [hy141]; exact H) | exact H
  have Ny141 := Aside0.mk hy141
  clear hy141
  replace H := Option.bind_eq_some_iff.mp H
  obtain ⟨⟨t145, t146⟩, A10, H⟩ := H
  replace H : ((bits_First.f k 4 y141 0 true).bind fun bt147 => ((bits_Run.f k 4 y141 1).bind fun bt149 => ((bits_Run.f k 4 y141 2).bind fun bt151 => ((bits_Both.f k 4 y141 4 (([12] : List Int))).bind fun bt156 => (if t145 = 2 then (if t146 = 0 then (if bt147.1 = 1 then (if bt147.2 = 0 then (if bt149.1 = 0 then (if bt149.2 = 0 then (if bt151.2 = 3 then (if bt156.2.2 = 0 then (if bt156.1 = 4 then (if 0 < (bt156.2.1.length : Int) then (some ((rd bt156.2.1 0) == 4)) else (none)) else (some false)) else (some false)) else (some false)) else (some false)) else (some false)) else (some false)) else (some false)) else (some false)) else (some false)))))) = some r := H
  have A1 := Aside0.mk A10
  clear A10
  replace H := Option.bind_eq_some_iff.mp H
  obtain ⟨⟨t147, t148⟩, A20, H⟩ := H
  replace H : ((bits_Run.f k 4 y141 1).bind fun bt149 => ((bits_Run.f k 4 y141 2).bind fun bt151 => ((bits_Both.f k 4 y141 4 (([12] : List Int))).bind fun bt156 => (if t145 = 2 then (if t146 = 0 then (if t147 = 1 then (if t148 = 0 then (if bt149.1 = 0 then (if bt149.2 = 0 then (if bt151.2 = 3 then (if bt156.2.2 = 0 then (if bt156.1 = 4 then (if 0 < (bt156.2.1.length : Int) then (some ((rd bt156.2.1 0) == 4)) else (none)) else (some false)) else (some false)) else (some false)) else (some false)) else (some false)) else (some false)) else (some false)) else (some false)) else (some false))))) = some r := H
  have A2 := Aside0.mk A20
  clear A20
  replace H := Option.bind_eq_some_iff.mp H
  obtain ⟨⟨t149, t150⟩, A30, H⟩ := H
  replace H : ((bits_Run.f k 4 y141 2).bind fun bt151 => ((bits_Both.f k 4 y141 4 (([12] : List Int))).bind fun bt156 => (if t145 = 2 then (if t146 = 0 then (if t147 = 1 then (if t148 = 0 then (if t149 = 0 then (if t150 = 0 then (if bt151.2 = 3 then (if bt156.2.2 = 0 then (if bt156.1 = 4 then (if 0 < (bt156.2.1.length : Int) then (some ((rd bt156.2.1 0) == 4)) else (none)) else (some false)) else (some false)) else (some false)) else (some false)) else (some false)) else (some false)) else (some false)) else (some false)) else (some false)))) = some r := H
  have A3 := Aside0.mk A30
  clear A30
  replace H := Option.bind_eq_some_iff.mp H
  obtain ⟨⟨t151, t152⟩, A40, H⟩ := H
  replace H : ((bits_Both.f k 4 y141 4 (([12] : List Int))).bind fun bt156 => (if t145 = 2 then (if t146 = 0 then (if t147 = 1 then (if t148 = 0 then (if t149 = 0 then (if t150 = 0 then (if t152 = 3 then (if bt156.2.2 = 0 then (if bt156.1 = 4 then (if 0 < (bt156.2.1.length : Int) then (some ((rd bt156.2.1 0) == 4)) else (none)) else (some false)) else (some false)) else (some false)) else (some false)) else (some false)) else (some false)) else (some false)) else (some false)) else (some false))) = some r := H
  have A4 := Aside0.mk A40
  clear A40
  obtain ⟨y153, hy153⟩ : ∃ y_ : List Int, y_ = (([12] : List Int)) := ⟨_, rfl⟩
  replace H : ((bits_Both.f k 4 y141 4 y153).bind fun bt156 => (if t145 = 2 then (if t146 = 0 then (if t147 = 1 then (if t148 = 0 then (if t149 = 0 then (if t150 = 0 then (if t152 = 3 then (if bt156.2.2 = 0 then (if bt156.1 = 4 then (if 0 < (bt156.2.1.length : Int) then (some ((rd bt156.2.1 0) == 4)) else (none)) else (some false)) else (some false)) else (some false)) else (some false)) else (some false)) else (some false)) else (some false)) else (some false)) else (some false))) = some r := by first | (rw [hy153]; with_reducible exact H) | (have H2_ := (Option.bind_some _ _).symm.trans H; rw [hy153]; with_reducible exact H2_) | (have H2_ := (Option.bind_some _ _).symm.trans H; with_reducible exact H2_) | with_reducible exact H | (rw [hy153]; exact H) | exact H
  have Ny153 := Aside0.mk hy153
  clear hy153
  replace H := Option.bind_eq_some_iff.mp H
  obtain ⟨⟨t156, t157, t160⟩, A50, H⟩ := H
  replace H : (if t145 = 2 then (if t146 = 0 then (if t147 = 1 then (if t148 = 0 then (if t149 = 0 then (if t150 = 0 then (if t152 = 3 then (if t160 = 0 then (if t156 = 4 then (if 0 < (t157.length : Int) then (some ((rd t157 0) == 4)) else (none)) else (some false)) else (some false)) else (some false)) else (some false)) else (some false)) else (some false)) else (some false)) else (some false)) else (some false)) = some r := H
  have A5 := Aside0.mk A50
  clear A50
  by_cases c6 : t145 = 2
  · rw [if_pos c6] at H
    have c6b0 : (t145 == 2) = true := beq_iff_eq.mpr c6
    have c6b1 : (t145 != 2) = false := bne_eq_false_iff_eq.mpr c6
    clear c6
    by_cases c7 : t146 = 0
    · rw [if_pos c7] at H
      have c7b0 : (t146 == 0) = true := beq_iff_eq.mpr c7
      have c7b1 : (t146 != 0) = false := bne_eq_false_iff_eq.mpr c7
      clear c7
      by_cases c8 : t147 = 1
      · rw [if_pos c8] at H
        have c8b0 : (t147 == 1) = true := beq_iff_eq.mpr c8
        have c8b1 : (t147 != 1) = false := bne_eq_false_iff_eq.mpr c8
        clear c8
        by_cases c9 : t148 = 0
        · rw [if_pos c9] at H
          have c9b0 : (t148 == 0) = true := beq_iff_eq.mpr c9
          have c9b1 : (t148 != 0) = false := bne_eq_false_iff_eq.mpr c9
          clear c9
          by_cases c10 : t149 = 0
          · rw [if_pos c10] at H
            have c10b0 : (t149 == 0) = true := beq_iff_eq.mpr c10
            have c10b1 : (t149 != 0) = false := bne_eq_false_iff_eq.mpr c10
            clear c10
            by_cases c11 : t150 = 0
            · rw [if_pos c11] at H
              have c11b0 : (t150 == 0) = true := beq_iff_eq.mpr c11
              have c11b1 : (t150 != 0) = false := bne_eq_false_iff_eq.mpr c11
              clear c11
              by_cases c12 : t152 = 3
              · rw [if_pos c12] at H
                have c12b0 : (t152 == 3) = true := beq_iff_eq.mpr c12
                have c12b1 : (t152 != 3) = false := bne_eq_false_iff_eq.mpr c12
                clear c12
                by_cases c13 : t160 = 0
                · rw [if_pos c13] at H
                  have c13b0 : (t160 == 0) = true := beq_iff_eq.mpr c13
                  have c13b1 : (t160 != 0) = false := bne_eq_false_iff_eq.mpr c13
                  clear c13
                  by_cases c14 : t156 = 4
                  · rw [if_pos c14] at H
                    have c14b0 : (t156 == 4) = true := beq_iff_eq.mpr c14
                    have c14b1 : (t156 != 4) = false := bne_eq_false_iff_eq.mpr c14
                    clear c14
                    by_cases c15 : 0 < (t157.length : Int)
                    · rw [if_pos c15] at H
                      have c15b0 : decide (0 < (t157.length : Int)) = true := decide_eq_true c15
                      have c15b1 : decide (0 < t157.length) = true := decide_eq_true (by omega)
                      clear c15
                      obtain rfl := Option.some.inj H
                      go_enter Tryd.func17, Tryd.ntmps17
                      go_wp2_with (first | ((with_reducible refine gate_dst (N := 12) rfl ?_); refine Kd.R_lit (Kd.int .u64) _ 45 ?hg (N := 12) ?hd (xs := ([6] : List Int)) (inner := [.int .u64 6]) (ok := fun _ => True) (okp := fun _ => True) ?hr ?hp (fun _ hk => hk) trivial (Below.refl _ _) (Nat.le_refl _) (by simp) ?_; (case hd => rfl); (case hg => rfl); (case hr => first | (go_simp; done) | (go_simp; rfl)); (case hp => exact (Reps.one (show Kd.M (Kd.int .u64) _ _ _ 6 [.int .u64 6] from rfl) (Reps.none _ _))); intro v142 w16 ho17 hb hg_ hnew_; clear hg_ hnew_; (first | rw [← Ny141.out] at ho17 | (simp only [Int.reduceToNat] at ho17; rw [← Ny141.out] at ho17)); have n0_ := Aside0.mk (Kd.R_lower ho17 (below_size (by repeat (first | (with_reducible first | exact HB.out | apply below_alloc | apply pw_below_drewN | apply below_drew1) | exact HB.out)))); have n1_ := Aside0.mk (below_step (by repeat (first | (with_reducible first | exact HB.out | apply below_alloc | apply pw_below_drewN | apply below_drew1) | exact HB.out)) hb); clear HB; have HO143 := n0_; have HB := n1_; clear n0_ n1_; clear hb ho17; obtain ⟨Ao18, co18, eo18⟩ := Kd.R_slice HO143.out; subst eo18) | ((with_reducible refine gate_dst (N := 1) rfl ?_); refine box_event ?hg (N := 1) ?hd (cs := #[.int .i64 0, .slice none 0 0]) (t := 24) ?hr ?_; (case hd => rfl); (case hg => rfl); (case hr => first | (go_simp; done) | (go_simp; rfl)); intro gb144 hg w19 hbox hb; have n0_ := Aside0.mk (Kd.R_below (by (with_reducible repeat (first | apply Kd.R_alloc | apply Kd.R_drewN | apply Kd.R_drew)); exact HO143.out) hb); have n1_ := Aside0.mk (below_step (by repeat (first | (with_reducible first | exact HB.out | apply below_alloc | apply pw_below_drewN | apply below_drew1) | exact HB.out)) hb); have n2_ := Aside0.mk (hbox); have n3_ := Aside0.mk ((by rw [hg]; exact (below_size (by repeat (first | (with_reducible first | exact HB.out | apply below_alloc | apply pw_below_drewN | apply below_drew1) | exact HB.out))) : w.heap.size ≤ gb144)); have n4_ := Aside0.mk ((by rw [hg]; exact (below_size (by repeat (first | (with_reducible first | exact HB.out | apply below_alloc | apply pw_below_drewN | apply below_drew1) | exact HB.out))) : w.heap.size ≤ gb144)); clear HO143; clear HB; have HO143 := n0_; have HB := n1_; have BK144 := n2_; have GW144 := n3_; have GE144 := n4_; clear n0_ n1_ n2_ n3_ n4_; clear hb hbox hg; have hcz20_0 : w19.cell? ⟨gb144, 0, none⟩ = some (.int .i64 0) := (blk_cell BK144.out 0).trans rfl; have hcz20_1 : w19.cell? ⟨gb144, 1, none⟩ = some (.slice none 0 0) := (blk_cell BK144.out 1).trans rfl; have hfz20_0 := blk_frozen BK144.out 0; have hfz20_1 := blk_frozen BK144.out 1) | ((with_reducible refine gate_callee (f := 11) rfl ?_); refine goesL_ (some 16) rfl rfl Tryd.func11 (by kernel_rfl) rfl #[.agg #[.int .i64 4, .slice Ao18 y141.length co18]] rfl (by (try simp only [List.map_toArray, List.map_cons, List.map_nil]); first | done | rfl | (simp only [List.length_drop, List.length_take]; rfl)) ?_; (with_reducible refine (bits_Count.calls k 4 _ _ y141 t145 t146 _ ?side1 ?side2 A1.out).mono ?_); (case side1 => refine (Kd.R_reads' (e := 45) (base := w.heap.size) (ok := fun k_ => True) (n := y141.length) (c := co18) ?_).2.2; exact (by (with_reducible repeat (first | apply Kd.R_alloc | apply Kd.R_drewN | apply Kd.R_drew)); exact (Kd.R_mono (Kd.R_far (p := ⟨gb144, 1, none⟩) (Kd.R_far (p := ⟨gb144, 0, none⟩) (Kd.R_types HO143.out BK144.out (by decide)) (fun _ hk => hk.2) (.int .i64 4)) (fun _ hk => hk.2) (.slice Ao18 y141.length co18)) (fun _ h_ => h_.1)))); (case side2 => exact (Kd.R_reads' HO143.out).2.1); rintro e w21 ⟨rfl, hb⟩; refine ⟨_, rfl, ?_⟩; have n0_ := Aside0.mk (Kd.R_below (by (with_reducible repeat (first | apply Kd.R_alloc | apply Kd.R_drewN | apply Kd.R_drew)); exact (Kd.R_mono (Kd.R_far (p := ⟨gb144, 1, none⟩) (Kd.R_far (p := ⟨gb144, 0, none⟩) (Kd.R_types HO143.out BK144.out (by decide)) (fun _ hk => hk.2) (.int .i64 4)) (fun _ hk => hk.2) (.slice Ao18 y141.length co18)) (fun _ h_ => h_.1))) hb); have n1_ := Aside0.mk (blk_below (g := gb144) (o := .cells #[.int .i64 4, .slice Ao18 y141.length co18] 24 (0, 0)) (by (with_reducible repeat (first | refine blk_drewN ?_ _ | refine blk_drew ?_ | refine blk_alloc ?_ _)); refine blk_put (cs := #[.int .i64 4, .slice none 0 0]) ?_ 1 _ rfl; (with_reducible repeat (first | refine blk_drewN ?_ _ | refine blk_drew ?_ | refine blk_alloc ?_ _)); refine blk_put (cs := #[.int .i64 0, .slice none 0 0]) ?_ 0 _ rfl; (with_reducible repeat (first | refine blk_drewN ?_ _ | refine blk_drew ?_ | refine blk_alloc ?_ _)); exact BK144.out) hb); have n2_ := Aside0.mk (below_step (by repeat (first | (with_reducible first | exact HB.out | apply below_alloc | apply pw_below_drewN | apply below_drew1 | refine below_set ?_ GE144.out) | exact HB.out)) hb); clear HO143; clear BK144; clear HB; have HO143 := n0_; have BK144 := n1_; have HB := n2_; clear n0_ n1_ n2_; (try clear hb); (try clear hb2); (try clear hk); (try clear hi); have hcz22_0 : w21.cell? ⟨gb144, 0, none⟩ = some (.int .i64 4) := (blk_cell BK144.out 0).trans rfl; have hcz22_1 : w21.cell? ⟨gb144, 1, none⟩ = some (.slice Ao18 y141.length co18) := (blk_cell BK144.out 1).trans rfl; have hfz22_0 := blk_frozen BK144.out 0; have hfz22_1 := blk_frozen BK144.out 1) | ((with_reducible refine gate_callee (f := 13) rfl ?_); refine goesL_ (some 21) rfl rfl Tryd.func13 (by kernel_rfl) rfl #[.agg #[.int .i64 4, .slice Ao18 y141.length co18], .int .i64 0, .bool true] rfl (by (try simp only [List.map_toArray, List.map_cons, List.map_nil]); first | done | rfl | (simp only [List.length_drop, List.length_take]; rfl)) ?_; (with_reducible refine (bits_First.calls k 4 _ _ y141 0 true t147 t148 _ ?side1 ?side2 ?side3 A2.out).mono ?_); (case side1 => repeat (first | exact (Kd.R_reads' HO143.out).2.2 | (with_reducible refine Kd.C_alloc ?_ _) | (with_reducible refine Kd.C_drewN ?_ _) | (with_reducible refine Kd.C_drew ?_))); (case side2 => exact (Kd.R_reads' HO143.out).2.1); (case side3 => repeat (first | exact HT.out | exact TzOk.below HT.out (by repeat (first | (with_reducible first | exact HB.out | apply below_alloc | apply pw_below_drewN | apply below_drew1 | refine below_set ?_ GE144.out) | exact HB.out)) | (with_reducible refine TzOk.alloc ?_ _) | (with_reducible refine TzOk.drewN ?_ _) | (with_reducible refine TzOk.drew ?_))); rintro e w23 ⟨rfl, hb⟩; refine ⟨_, rfl, ?_⟩; have n0_ := Aside0.mk (Kd.R_below (by (with_reducible repeat (first | apply Kd.R_alloc | apply Kd.R_drewN | apply Kd.R_drew)); exact HO143.out) hb); have n1_ := Aside0.mk (blk_below (g := gb144) (o := .cells #[.int .i64 4, .slice Ao18 y141.length co18] 24 (0, 0)) (by (with_reducible repeat (first | refine blk_drewN ?_ _ | refine blk_drew ?_ | refine blk_alloc ?_ _)); exact BK144.out) hb); have n2_ := Aside0.mk (below_step (by repeat (first | (with_reducible first | exact HB.out | apply below_alloc | apply pw_below_drewN | apply below_drew1 | refine below_set ?_ GE144.out) | exact HB.out)) hb); clear HO143; clear BK144; clear HB; have HO143 := n0_; have BK144 := n1_; have HB := n2_; clear n0_ n1_ n2_; (try clear hb); (try clear hb2); (try clear hk); (try clear hi); have hcz24_0 : w23.cell? ⟨gb144, 0, none⟩ = some (.int .i64 4) := (blk_cell BK144.out 0).trans rfl; have hcz24_1 : w23.cell? ⟨gb144, 1, none⟩ = some (.slice Ao18 y141.length co18) := (blk_cell BK144.out 1).trans rfl; have hfz24_0 := blk_frozen BK144.out 0; have hfz24_1 := blk_frozen BK144.out 1) | ((with_reducible refine gate_callee (f := 15) rfl ?_); refine goesL_ (some 26) rfl rfl Tryd.func15 (by kernel_rfl) rfl #[.agg #[.int .i64 4, .slice Ao18 y141.length co18], .int .i64 1] rfl (by (try simp only [List.map_toArray, List.map_cons, List.map_nil]); first | done | rfl | (simp only [List.length_drop, List.length_take]; rfl)) ?_; (with_reducible refine (bits_Run.calls k 4 _ _ y141 1 t149 t150 _ ?side1 ?side2 ?side3 A3.out).mono ?_); (case side1 => repeat (first | exact (Kd.R_reads' HO143.out).2.2 | (with_reducible refine Kd.C_alloc ?_ _) | (with_reducible refine Kd.C_drewN ?_ _) | (with_reducible refine Kd.C_drew ?_))); (case side2 => exact (Kd.R_reads' HO143.out).2.1); (case side3 => repeat (first | exact HT.out | exact TzOk.below HT.out (by repeat (first | (with_reducible first | exact HB.out | apply below_alloc | apply pw_below_drewN | apply below_drew1 | refine below_set ?_ GE144.out) | exact HB.out)) | (with_reducible refine TzOk.alloc ?_ _) | (with_reducible refine TzOk.drewN ?_ _) | (with_reducible refine TzOk.drew ?_))); rintro e w25 ⟨rfl, hb⟩; refine ⟨_, rfl, ?_⟩; have n0_ := Aside0.mk (Kd.R_below (by (with_reducible repeat (first | apply Kd.R_alloc | apply Kd.R_drewN | apply Kd.R_drew)); exact HO143.out) hb); have n1_ := Aside0.mk (blk_below (g := gb144) (o := .cells #[.int .i64 4, .slice Ao18 y141.length co18] 24 (0, 0)) (by (with_reducible repeat (first | refine blk_drewN ?_ _ | refine blk_drew ?_ | refine blk_alloc ?_ _)); exact BK144.out) hb); have n2_ := Aside0.mk (below_step (by repeat (first | (with_reducible first | exact HB.out | apply below_alloc | apply pw_below_drewN | apply below_drew1 | refine below_set ?_ GE144.out) | exact HB.out)) hb); clear HO143; clear BK144; clear HB; have HO143 := n0_; have BK144 := n1_; have HB := n2_; clear n0_ n1_ n2_; (try clear hb); (try clear hb2); (try clear hk); (try clear hi); have hcz26_0 : w25.cell? ⟨gb144, 0, none⟩ = some (.int .i64 4) := (blk_cell BK144.out 0).trans rfl; have hcz26_1 : w25.cell? ⟨gb144, 1, none⟩ = some (.slice Ao18 y141.length co18) := (blk_cell BK144.out 1).trans rfl; have hfz26_0 := blk_frozen BK144.out 0; have hfz26_1 := blk_frozen BK144.out 1) | ((with_reducible refine gate_callee (f := 15) rfl ?_); refine goesL_ (some 31) rfl rfl Tryd.func15 (by kernel_rfl) rfl #[.agg #[.int .i64 4, .slice Ao18 y141.length co18], .int .i64 2] rfl (by (try simp only [List.map_toArray, List.map_cons, List.map_nil]); first | done | rfl | (simp only [List.length_drop, List.length_take]; rfl)) ?_; (with_reducible refine (bits_Run.calls k 4 _ _ y141 2 t151 t152 _ ?side1 ?side2 ?side3 A4.out).mono ?_); (case side1 => repeat (first | exact (Kd.R_reads' HO143.out).2.2 | (with_reducible refine Kd.C_alloc ?_ _) | (with_reducible refine Kd.C_drewN ?_ _) | (with_reducible refine Kd.C_drew ?_))); (case side2 => exact (Kd.R_reads' HO143.out).2.1); (case side3 => repeat (first | exact HT.out | exact TzOk.below HT.out (by repeat (first | (with_reducible first | exact HB.out | apply below_alloc | apply pw_below_drewN | apply below_drew1 | refine below_set ?_ GE144.out) | exact HB.out)) | (with_reducible refine TzOk.alloc ?_ _) | (with_reducible refine TzOk.drewN ?_ _) | (with_reducible refine TzOk.drew ?_))); rintro e w27 ⟨rfl, hb⟩; refine ⟨_, rfl, ?_⟩; have n0_ := Aside0.mk (Kd.R_below (by (with_reducible repeat (first | apply Kd.R_alloc | apply Kd.R_drewN | apply Kd.R_drew)); exact HO143.out) hb); have n1_ := Aside0.mk (blk_below (g := gb144) (o := .cells #[.int .i64 4, .slice Ao18 y141.length co18] 24 (0, 0)) (by (with_reducible repeat (first | refine blk_drewN ?_ _ | refine blk_drew ?_ | refine blk_alloc ?_ _)); exact BK144.out) hb); have n2_ := Aside0.mk (below_step (by repeat (first | (with_reducible first | exact HB.out | apply below_alloc | apply pw_below_drewN | apply below_drew1 | refine below_set ?_ GE144.out) | exact HB.out)) hb); clear HO143; clear BK144; clear HB; have HO143 := n0_; have BK144 := n1_; have HB := n2_; clear n0_ n1_ n2_; (try clear hb); (try clear hb2); (try clear hk); (try clear hi); have hcz28_0 : w27.cell? ⟨gb144, 0, none⟩ = some (.int .i64 4) := (blk_cell BK144.out 0).trans rfl; have hcz28_1 : w27.cell? ⟨gb144, 1, none⟩ = some (.slice Ao18 y141.length co18) := (blk_cell BK144.out 1).trans rfl; have hfz28_0 := blk_frozen BK144.out 0; have hfz28_1 := blk_frozen BK144.out 1) | ((with_reducible refine gate_dst (N := 36) rfl ?_); refine Kd.R_lit (Kd.int .u64) _ 45 ?hg (N := 36) ?hd (xs := ([12] : List Int)) (inner := [.int .u64 12]) (ok := fun _ => True) (okp := fun _ => True) ?hr ?hp (fun _ hk => hk) trivial (Below.refl _ _) (Nat.le_refl _) (by simp) ?_; (case hd => rfl); (case hg => rfl); (case hr => first | (go_simp; done) | (go_simp; rfl)); (case hp => exact (Reps.one (show Kd.M (Kd.int .u64) _ _ _ 12 [.int .u64 12] from rfl) (Reps.none _ _))); intro v154 w29 ho30 hb hg_ hnew_; clear hg_ hnew_; (first | rw [← Ny153.out] at ho30 | (simp only [Int.reduceToNat] at ho30; rw [← Ny153.out] at ho30)); have n0_ := Aside0.mk (Kd.R_elder' (by (with_reducible repeat (first | apply Kd.R_alloc | apply Kd.R_drewN | apply Kd.R_drew)); exact HO143.out) (Kd.R_base ho30) hb); have n1_ := Aside0.mk (Kd.R_lower (Kd.R_new' ho30 (Kd.R_lt (by (with_reducible repeat (first | apply Kd.R_alloc | apply Kd.R_drewN | apply Kd.R_drew)); exact HO143.out))) (below_size (by repeat (first | (with_reducible first | exact HB.out | apply below_alloc | apply pw_below_drewN | apply below_drew1 | refine below_set ?_ GE144.out) | exact HB.out)))); have n2_ := Aside0.mk (blk_below (g := gb144) (o := .cells #[.int .i64 4, .slice Ao18 y141.length co18] 24 (0, 0)) (by (with_reducible repeat (first | refine blk_drewN ?_ _ | refine blk_drew ?_ | refine blk_alloc ?_ _)); exact BK144.out) hb); have n3_ := Aside0.mk (below_step (by repeat (first | (with_reducible first | exact HB.out | apply below_alloc | apply pw_below_drewN | apply below_drew1 | refine below_set ?_ GE144.out) | exact HB.out)) hb); clear HO143; clear BK144; clear HB; have HO143 := n0_; have HO155 := n1_; have BK144 := n2_; have HB := n3_; clear n0_ n1_ n2_ n3_; clear hb ho30; obtain ⟨Ao31, co31, eo31⟩ := Kd.R_slice HO155.out; subst eo31) | ((with_reducible refine gate_callee (f := 18) rfl ?_); refine goesL_ (some 38) rfl rfl Tryd.func18 (by kernel_rfl) rfl #[.agg #[.int .i64 4, .slice Ao18 y141.length co18], .agg #[.int .i64 4, .slice Ao31 y153.length co31]] rfl (by (try simp only [List.map_toArray, List.map_cons, List.map_nil]); first | done | rfl | (simp only [List.length_drop, List.length_take]; rfl)) ?_; (with_reducible refine (bits_Both.calls k 4 _ _ y141 4 _ _ y153 t156 t157 t160 _ ?side1 ?side2 ?side3 ?side4 A5.out).mono ?_); (case side1 => repeat (first | exact (Kd.R_reads' HO143.out).2.2 | (with_reducible refine Kd.C_alloc ?_ _) | (with_reducible refine Kd.C_drewN ?_ _) | (with_reducible refine Kd.C_drew ?_))); (case side2 => exact (Kd.R_reads' HO143.out).2.1); (case side3 => repeat (first | exact (Kd.R_reads' HO155.out).2.2 | (with_reducible refine Kd.C_alloc ?_ _) | (with_reducible refine Kd.C_drewN ?_ _) | (with_reducible refine Kd.C_drew ?_))); (case side4 => exact (Kd.R_reads' HO155.out).2.1); rintro e w32 ⟨v158, rfl, ho0, hb⟩; refine ⟨_, rfl, ?_⟩; have n0_ := Aside0.mk (Kd.R_elder' (by (with_reducible repeat (first | apply Kd.R_alloc | apply Kd.R_drewN | apply Kd.R_drew)); exact HO143.out) (Kd.R_base ho0) hb); have n1_ := Aside0.mk (Kd.R_elder' (by (with_reducible repeat (first | apply Kd.R_alloc | apply Kd.R_drewN | apply Kd.R_drew)); exact HO155.out) (Kd.R_base ho0) hb); have n2_ := Aside0.mk (Kd.R_lower (Kd.R_new' (Kd.R_new' ho0 (Kd.R_lt (by (with_reducible repeat (first | apply Kd.R_alloc | apply Kd.R_drewN | apply Kd.R_drew)); exact HO143.out))) (Kd.R_lt (by (with_reducible repeat (first | apply Kd.R_alloc | apply Kd.R_drewN | apply Kd.R_drew)); exact HO155.out))) (below_size (by repeat (first | (with_reducible first | exact HB.out | apply below_alloc | apply pw_below_drewN | apply below_drew1 | refine below_set ?_ GE144.out) | exact HB.out)))); have n3_ := Aside0.mk (blk_below (g := gb144) (o := .cells #[.int .i64 4, .slice Ao18 y141.length co18] 24 (0, 0)) (by (with_reducible repeat (first | refine blk_drewN ?_ _ | refine blk_drew ?_ | refine blk_alloc ?_ _)); exact BK144.out) hb); have n4_ := Aside0.mk (below_step (by repeat (first | (with_reducible first | exact HB.out | apply below_alloc | apply pw_below_drewN | apply below_drew1 | refine below_set ?_ GE144.out) | exact HB.out)) hb); clear HO143; clear HO155; clear BK144; clear HB; have HO143 := n0_; have HO155 := n1_; have HO159 := n2_; have BK144 := n3_; have HB := n4_; clear n0_ n1_ n2_ n3_ n4_; (try clear hb); (try clear hb2); (try clear hk); (try clear hi); (try clear ho0)) | ((with_reducible refine gate_dst (N := 10) rfl ?_); refine box_event ?hg (N := 10) ?hd (cs := #[.int .i64 0, .slice none 0 0]) (t := 24) ?hr ?_; (case hd => rfl); (case hg => rfl); (case hr => first | (go_simp; done) | (go_simp; rfl)); intro gb161 hg w33 hbox hb; have n0_ := Aside0.mk (Kd.R_below (by (with_reducible repeat (first | apply Kd.R_alloc | apply Kd.R_drewN | apply Kd.R_drew)); exact HO143.out) hb); have n1_ := Aside0.mk (Kd.R_below (by (with_reducible repeat (first | apply Kd.R_alloc | apply Kd.R_drewN | apply Kd.R_drew)); exact HO155.out) hb); have n2_ := Aside0.mk (Kd.R_below (by (with_reducible repeat (first | apply Kd.R_alloc | apply Kd.R_drewN | apply Kd.R_drew)); exact HO159.out) hb); have n3_ := Aside0.mk (blk_below (g := gb144) (o := .cells #[.int .i64 4, .slice Ao18 y141.length co18] 24 (0, 0)) (by (with_reducible repeat (first | refine blk_drewN ?_ _ | refine blk_drew ?_ | refine blk_alloc ?_ _)); exact BK144.out) hb); have n4_ := Aside0.mk (below_step (by repeat (first | (with_reducible first | exact HB.out | apply below_alloc | apply pw_below_drewN | apply below_drew1 | refine below_set ?_ GE144.out) | exact HB.out)) hb); have n5_ := Aside0.mk (hbox); have n6_ := Aside0.mk ((by rw [hg]; exact (below_size (by repeat (first | (with_reducible first | exact HB.out | apply below_alloc | apply pw_below_drewN | apply below_drew1 | refine below_set ?_ GE144.out) | exact HB.out))) : w.heap.size ≤ gb161)); have n7_ := Aside0.mk ((by rw [hg]; exact (below_size (by repeat (first | (with_reducible first | exact HB.out | apply below_alloc | apply pw_below_drewN | apply below_drew1 | refine below_set ?_ GE144.out) | exact HB.out))) : w.heap.size ≤ gb161)); have n8_ := Aside0.mk ((by rw [hg]; exact Nat.ne_of_lt (blk_lt (g := gb144) (o := .cells #[.int .i64 4, .slice Ao18 y141.length co18] 24 (0, 0)) (by (with_reducible repeat (first | refine blk_drewN ?_ _ | refine blk_drew ?_ | refine blk_alloc ?_ _)); exact BK144.out)) : gb144 ≠ gb161)); have n9_ := Aside0.mk ((by rw [hg]; exact Nat.ne_of_gt (blk_lt (g := gb144) (o := .cells #[.int .i64 4, .slice Ao18 y141.length co18] 24 (0, 0)) (by (with_reducible repeat (first | refine blk_drewN ?_ _ | refine blk_drew ?_ | refine blk_alloc ?_ _)); exact BK144.out)) : gb161 ≠ gb144)); clear HO143; clear HO155; clear HO159; clear BK144; clear HB; have HO143 := n0_; have HO155 := n1_; have HO159 := n2_; have BK144 := n3_; have HB := n4_; have BK161 := n5_; have GW161 := n6_; have GE161 := n7_; have NB144_161 := n8_; have NB161_144 := n9_; clear n0_ n1_ n2_ n3_ n4_ n5_ n6_ n7_ n8_ n9_; clear hb hbox hg; have hnb34 := NB161_144.out; have hnc34 := NB144_161.out; have hcz35_0 : w33.cell? ⟨gb161, 0, none⟩ = some (.int .i64 0) := (blk_cell BK161.out 0).trans rfl; have hcz35_1 : w33.cell? ⟨gb161, 1, none⟩ = some (.slice none 0 0) := (blk_cell BK161.out 1).trans rfl; have hfz35_0 := blk_frozen BK161.out 0; have hfz35_1 := blk_frozen BK161.out 1; obtain ⟨Ao36, co36, eo36⟩ := Kd.R_slice HO159.out; subst eo36; have p162 : 0 ≤ (0 : Int) := (by omega); have q162 : 0 < (t157.length : Int) := of_decide_eq_true (by first | (with_reducible assumption) | assumption); obtain ⟨ad162, e162, hx162_0⟩ := Kd.at_int (Kd.R_reads' HO159.out).2.2 0 p162 q162; cases e162; have qi162 : (0 < t157.length) = True := eq_true (by omega); (try rw [show ((0 : Int)).toNat = 0 from rfl] at hx162_0); (try rw [Addr.add_zero'] at hx162_0); have hn162_0 : ad162.block ≠ gb161 := Kd.own_blk (Kd.R_ne HO159.out BK161.out (by decide)); have hn162_1 : ad162.block ≠ gb161 := Kd.own_blk (Kd.R_ne HO159.out BK161.out (by decide)); replace hx162_0 := (cell_far (p := ⟨gb161, 0, none⟩) (by first | (rw [add_block]; exact hn162_0) | (show (Addr.add _ _).block ≠ _; rw [add_block]; exact hn162_0) | exact hn162_0) (.int .i64 t156)).trans hx162_0; replace hx162_0 := (cell_far (p := ⟨gb161, 1, none⟩) (by first | (rw [add_block]; exact hn162_1) | (show (Addr.add _ _).block ≠ _; rw [add_block]; exact hn162_1) | exact hn162_1) (.slice (some ad162) t157.length co36)).trans hx162_0; clear hn162_0; clear hn162_1; replace p162 := eq_true p162; replace q162 := eq_true q162))
                      go_ret
                      exact ⟨by first | rfl | (simp [errW_none, errW_some] <;> rfl) | (simp [*, errW_none, errW_some] <;> rfl), by repeat (first | (with_reducible first | exact HB.out | apply below_alloc | apply pw_below_drewN | apply below_drew1 | refine below_set ?_ GE144.out | refine below_set ?_ GE161.out) | exact HB.out)⟩
                    · rw [if_neg c15] at H
                      exact absurd H (by simp)
                  · rw [if_neg c14] at H
                    have c14b0 : (t156 == 4) = false := beq_eq_false_iff_ne.mpr c14
                    have c14b1 : (t156 != 4) = true := bne_iff_ne.mpr c14
                    exact absurd ((Option.some.inj H).trans HLAW.out) (by decide)
                · rw [if_neg c13] at H
                  have c13b0 : (t160 == 0) = false := beq_eq_false_iff_ne.mpr c13
                  have c13b1 : (t160 != 0) = true := bne_iff_ne.mpr c13
                  exact absurd ((Option.some.inj H).trans HLAW.out) (by decide)
              · rw [if_neg c12] at H
                have c12b0 : (t152 == 3) = false := beq_eq_false_iff_ne.mpr c12
                have c12b1 : (t152 != 3) = true := bne_iff_ne.mpr c12
                exact absurd ((Option.some.inj H).trans HLAW.out) (by decide)
            · rw [if_neg c11] at H
              have c11b0 : (t150 == 0) = false := beq_eq_false_iff_ne.mpr c11
              have c11b1 : (t150 != 0) = true := bne_iff_ne.mpr c11
              exact absurd ((Option.some.inj H).trans HLAW.out) (by decide)
          · rw [if_neg c10] at H
            have c10b0 : (t149 == 0) = false := beq_eq_false_iff_ne.mpr c10
            have c10b1 : (t149 != 0) = true := bne_iff_ne.mpr c10
            exact absurd ((Option.some.inj H).trans HLAW.out) (by decide)
        · rw [if_neg c9] at H
          have c9b0 : (t148 == 0) = false := beq_eq_false_iff_ne.mpr c9
          have c9b1 : (t148 != 0) = true := bne_iff_ne.mpr c9
          exact absurd ((Option.some.inj H).trans HLAW.out) (by decide)
      · rw [if_neg c8] at H
        have c8b0 : (t147 == 1) = false := beq_eq_false_iff_ne.mpr c8
        have c8b1 : (t147 != 1) = true := bne_iff_ne.mpr c8
        exact absurd ((Option.some.inj H).trans HLAW.out) (by decide)
    · rw [if_neg c7] at H
      have c7b0 : (t146 == 0) = false := beq_eq_false_iff_ne.mpr c7
      have c7b1 : (t146 != 0) = true := bne_iff_ne.mpr c7
      exact absurd ((Option.some.inj H).trans HLAW.out) (by decide)
  · rw [if_neg c6] at H
    have c6b0 : (t145 == 2) = false := beq_eq_false_iff_ne.mpr c6
    have c6b1 : (t145 != 2) = true := bne_iff_ne.mpr c6
    exact absurd ((Option.some.inj H).trans HLAW.out) (by decide)

/-! ### besomlaw01_BitsAsks: function 3 -/
def besomlaw01_BitsAsks.f (k : Nat) (a0_0 : Int) (l0_1 : List Int) (a1 : Int) (a2 : Bool) : Option (Bool) := (bits_Count.f k a0_0 l0_1).bind fun bt164 => ((besomref01_Count.f k a0_0 l0_1).bind fun bt166 => ((bits_First.f k a0_0 l0_1 a1 a2).bind fun bt168 => ((besomref01_First.f k a0_0 l0_1 a1 a2).bind fun bt170 => ((bits_Run.f k a0_0 l0_1 a1).bind fun bt172 => ((besomref01_Run.f k a0_0 l0_1 a1).bind fun bt174 => ((besomlaw01_asks.f k).bind fun t176 => (if t176 = true then (if bt164.1 = bt166.1 then (if bt164.2 = bt166.2 then (if bt168.1 = bt170.1 then (if bt168.2 = bt170.2 then (if bt172.1 = bt174.1 then (some (bt172.2 == bt174.2)) else (some false)) else (some false)) else (some false)) else (some false)) else (some false)) else (some false))))))))
theorem besomlaw01_BitsAsks.mono : ∀ a0 a1 a2 a3 k, LeO (besomlaw01_BitsAsks.f k a0 a1 a2 a3) (besomlaw01_BitsAsks.f (k + 1) a0 a1 a2 a3) := by
  intro a0 a1 a2 a3 k
  unfold besomlaw01_BitsAsks.f
  repeat' first
      | (with_reducible exact besomlaw01_asks.mono _)
      | (with_reducible exact besomref01_Count.mono _ _ _)
      | (with_reducible exact besomref01_First.mono _ _ _ _ _)
      | (with_reducible exact besomref01_Run.mono _ _ _ _)
      | (with_reducible exact bits_Count.mono _ _ _)
      | (with_reducible exact bits_First.mono _ _ _ _ _)
      | (with_reducible exact bits_Run.mono _ _ _ _)
      | (with_reducible exact LeO.refl _)
      | (with_reducible exact LeO.none _)
      | (with_reducible refine LeO.ite ?_ ?_)
      | (with_reducible refine LeO.bind ?_ (fun _ => ?_))
      | exact besomlaw01_asks.mono _
      | exact besomref01_Count.mono _ _ _
      | exact besomref01_First.mono _ _ _ _ _
      | exact besomref01_Run.mono _ _ _ _
      | exact bits_Count.mono _ _ _
      | exact bits_First.mono _ _ _ _ _
      | exact bits_Run.mono _ _ _ _
      | exact LeO.none _
      | refine LeO.ite ?_ ?_
      | refine LeO.bind ?_ (fun _ => ?_)
set_option maxHeartbeats 8000000 in
set_option maxRecDepth 100000 in
theorem besomlaw01_BitsAsks.calls (k : Nat) (a0_0 : Int) (A0_1 : Option Addr) (c0_1 : Nat) (l0_1 : List Int) (a1 : Int) (a2 : Bool) (r : Bool) (w : World) (hr0_1 : Kd.C (Kd.int .u64) w A0_1 l0_1.length l0_1) (hc0_1 : l0_1.length ≤ c0_1) (hT : TzOk w) (hlaw : r = true) (h : besomlaw01_BitsAsks.f k a0_0 l0_1 a1 a2 = some r) :
    Calls Tryd.prog 3 #[.agg #[.int .i64 a0_0, .slice A0_1 l0_1.length c0_1], .int .i64 a1, .bool a2] w fun e w' => e = .returned (.bool r) ∧ Below w.heap.size w w' := by
  have hu24 := Tryd.underlying24
  have HR0_1 := Aside0.mk hr0_1
  have HC0_1 := Aside0.mk hc0_1
  clear hr0_1 hc0_1
  have HB := Aside0.mk (Below.refl w.heap.size w)
  have H : ((bits_Count.f k a0_0 l0_1).bind fun bt164 => ((besomref01_Count.f k a0_0 l0_1).bind fun bt166 => ((bits_First.f k a0_0 l0_1 a1 a2).bind fun bt168 => ((besomref01_First.f k a0_0 l0_1 a1 a2).bind fun bt170 => ((bits_Run.f k a0_0 l0_1 a1).bind fun bt172 => ((besomref01_Run.f k a0_0 l0_1 a1).bind fun bt174 => ((besomlaw01_asks.f k).bind fun t176 => (if t176 = true then (if bt164.1 = bt166.1 then (if bt164.2 = bt166.2 then (if bt168.1 = bt170.1 then (if bt168.2 = bt170.2 then (if bt172.1 = bt174.1 then (some (bt172.2 == bt174.2)) else (some false)) else (some false)) else (some false)) else (some false)) else (some false)) else (some false))))))))) = some r := h
  clear h
  have HT := Aside0.mk hT
  clear hT
  have HLAW := Aside0.mk hlaw
  clear hlaw
  replace H := Option.bind_eq_some_iff.mp H
  obtain ⟨⟨t164, t165⟩, A40, H⟩ := H
  replace H : ((besomref01_Count.f k a0_0 l0_1).bind fun bt166 => ((bits_First.f k a0_0 l0_1 a1 a2).bind fun bt168 => ((besomref01_First.f k a0_0 l0_1 a1 a2).bind fun bt170 => ((bits_Run.f k a0_0 l0_1 a1).bind fun bt172 => ((besomref01_Run.f k a0_0 l0_1 a1).bind fun bt174 => ((besomlaw01_asks.f k).bind fun t176 => (if t176 = true then (if t164 = bt166.1 then (if t165 = bt166.2 then (if bt168.1 = bt170.1 then (if bt168.2 = bt170.2 then (if bt172.1 = bt174.1 then (some (bt172.2 == bt174.2)) else (some false)) else (some false)) else (some false)) else (some false)) else (some false)) else (some false)))))))) = some r := H
  have A4 := Aside0.mk A40
  clear A40
  replace H := Option.bind_eq_some_iff.mp H
  obtain ⟨⟨t166, t167⟩, A50, H⟩ := H
  replace H : ((bits_First.f k a0_0 l0_1 a1 a2).bind fun bt168 => ((besomref01_First.f k a0_0 l0_1 a1 a2).bind fun bt170 => ((bits_Run.f k a0_0 l0_1 a1).bind fun bt172 => ((besomref01_Run.f k a0_0 l0_1 a1).bind fun bt174 => ((besomlaw01_asks.f k).bind fun t176 => (if t176 = true then (if t164 = t166 then (if t165 = t167 then (if bt168.1 = bt170.1 then (if bt168.2 = bt170.2 then (if bt172.1 = bt174.1 then (some (bt172.2 == bt174.2)) else (some false)) else (some false)) else (some false)) else (some false)) else (some false)) else (some false))))))) = some r := H
  have A5 := Aside0.mk A50
  clear A50
  replace H := Option.bind_eq_some_iff.mp H
  obtain ⟨⟨t168, t169⟩, A60, H⟩ := H
  replace H : ((besomref01_First.f k a0_0 l0_1 a1 a2).bind fun bt170 => ((bits_Run.f k a0_0 l0_1 a1).bind fun bt172 => ((besomref01_Run.f k a0_0 l0_1 a1).bind fun bt174 => ((besomlaw01_asks.f k).bind fun t176 => (if t176 = true then (if t164 = t166 then (if t165 = t167 then (if t168 = bt170.1 then (if t169 = bt170.2 then (if bt172.1 = bt174.1 then (some (bt172.2 == bt174.2)) else (some false)) else (some false)) else (some false)) else (some false)) else (some false)) else (some false)))))) = some r := H
  have A6 := Aside0.mk A60
  clear A60
  replace H := Option.bind_eq_some_iff.mp H
  obtain ⟨⟨t170, t171⟩, A70, H⟩ := H
  replace H : ((bits_Run.f k a0_0 l0_1 a1).bind fun bt172 => ((besomref01_Run.f k a0_0 l0_1 a1).bind fun bt174 => ((besomlaw01_asks.f k).bind fun t176 => (if t176 = true then (if t164 = t166 then (if t165 = t167 then (if t168 = t170 then (if t169 = t171 then (if bt172.1 = bt174.1 then (some (bt172.2 == bt174.2)) else (some false)) else (some false)) else (some false)) else (some false)) else (some false)) else (some false))))) = some r := H
  have A7 := Aside0.mk A70
  clear A70
  replace H := Option.bind_eq_some_iff.mp H
  obtain ⟨⟨t172, t173⟩, A80, H⟩ := H
  replace H : ((besomref01_Run.f k a0_0 l0_1 a1).bind fun bt174 => ((besomlaw01_asks.f k).bind fun t176 => (if t176 = true then (if t164 = t166 then (if t165 = t167 then (if t168 = t170 then (if t169 = t171 then (if t172 = bt174.1 then (some (t173 == bt174.2)) else (some false)) else (some false)) else (some false)) else (some false)) else (some false)) else (some false)))) = some r := H
  have A8 := Aside0.mk A80
  clear A80
  replace H := Option.bind_eq_some_iff.mp H
  obtain ⟨⟨t174, t175⟩, A90, H⟩ := H
  replace H : ((besomlaw01_asks.f k).bind fun t176 => (if t176 = true then (if t164 = t166 then (if t165 = t167 then (if t168 = t170 then (if t169 = t171 then (if t172 = t174 then (some (t173 == t175)) else (some false)) else (some false)) else (some false)) else (some false)) else (some false)) else (some false))) = some r := H
  have A9 := Aside0.mk A90
  clear A90
  replace H := Option.bind_eq_some_iff.mp H
  obtain ⟨t176, A100, H⟩ := H
  replace H : (if t176 = true then (if t164 = t166 then (if t165 = t167 then (if t168 = t170 then (if t169 = t171 then (if t172 = t174 then (some (t173 == t175)) else (some false)) else (some false)) else (some false)) else (some false)) else (some false)) else (some false)) = some r := H
  have A10 := Aside0.mk A100
  clear A100
  by_cases c11 : t176 = true
  · subst c11
    have H1 : (if t164 = t166 then (if t165 = t167 then (if t168 = t170 then (if t169 = t171 then (if t172 = t174 then (some (t173 == t175)) else (some false)) else (some false)) else (some false)) else (some false)) else (some false)) = some r := by rw [if_pos rfl] at H; exact H
    clear H
    have H := H1
    clear H1
    by_cases c12 : t164 = t166
    · rw [if_pos c12] at H
      have c12b0 : (t164 == t166) = true := beq_iff_eq.mpr c12
      have c12b1 : (t164 != t166) = false := bne_eq_false_iff_eq.mpr c12
      clear c12
      by_cases c13 : t165 = t167
      · rw [if_pos c13] at H
        have c13b0 : (t165 == t167) = true := beq_iff_eq.mpr c13
        have c13b1 : (t165 != t167) = false := bne_eq_false_iff_eq.mpr c13
        clear c13
        by_cases c14 : t168 = t170
        · rw [if_pos c14] at H
          have c14b0 : (t168 == t170) = true := beq_iff_eq.mpr c14
          have c14b1 : (t168 != t170) = false := bne_eq_false_iff_eq.mpr c14
          clear c14
          by_cases c15 : t169 = t171
          · rw [if_pos c15] at H
            have c15b0 : (t169 == t171) = true := beq_iff_eq.mpr c15
            have c15b1 : (t169 != t171) = false := bne_eq_false_iff_eq.mpr c15
            clear c15
            by_cases c16 : t172 = t174
            · rw [if_pos c16] at H
              have c16b0 : (t172 == t174) = true := beq_iff_eq.mpr c16
              have c16b1 : (t172 != t174) = false := bne_eq_false_iff_eq.mpr c16
              clear c16
              obtain rfl := Option.some.inj H
              go_enter Tryd.func3, Tryd.ntmps3
              go_wp2_with (first | ((with_reducible refine gate_dst (N := 3) rfl ?_); refine box_event ?hg (N := 3) ?hd (cs := #[.int .i64 a0_0, .slice A0_1 l0_1.length c0_1]) (t := 24) ?hr ?_; (case hd => rfl); (case hg => rfl); (case hr => first | (go_simp; done) | (go_simp; rfl)); intro gb163 hg w17 hbox hb; have n0_ := Aside0.mk (below_step (by repeat (first | (with_reducible first | exact HB.out | apply below_alloc | apply pw_below_drewN | apply below_drew1) | exact HB.out)) hb); have n1_ := Aside0.mk (hbox); have n2_ := Aside0.mk ((by rw [hg]; exact (below_size (by repeat (first | (with_reducible first | exact HB.out | apply below_alloc | apply pw_below_drewN | apply below_drew1) | exact HB.out))) : w.heap.size ≤ gb163)); have n3_ := Aside0.mk ((by rw [hg]; exact (below_size (by repeat (first | (with_reducible first | exact HB.out | apply below_alloc | apply pw_below_drewN | apply below_drew1) | exact HB.out))) : w.heap.size ≤ gb163)); clear HB; have HB := n0_; have BK163 := n1_; have GW163 := n2_; have GE163 := n3_; clear n0_ n1_ n2_ n3_; clear hb hbox hg; have hcz18_0 : w17.cell? ⟨gb163, 0, none⟩ = some (.int .i64 a0_0) := (blk_cell BK163.out 0).trans rfl; have hcz18_1 : w17.cell? ⟨gb163, 1, none⟩ = some (.slice A0_1 l0_1.length c0_1) := (blk_cell BK163.out 1).trans rfl; have hfz18_0 := blk_frozen BK163.out 0; have hfz18_1 := blk_frozen BK163.out 1) | ((with_reducible refine gate_callee (f := 11) rfl ?_); refine goesL_ (some 21) rfl rfl Tryd.func11 (by kernel_rfl) rfl #[.agg #[.int .i64 a0_0, .slice A0_1 l0_1.length c0_1]] rfl (by (try simp only [List.map_toArray, List.map_cons, List.map_nil]); first | done | rfl | (simp only [List.length_drop, List.length_take]; rfl)) ?_; (with_reducible refine (bits_Count.calls k a0_0 _ _ l0_1 t164 t165 _ ?side1 ?side2 A4.out).mono ?_); (case side1 => repeat (first | exact (Kd.C_below HR0_1.out HB.out) | (with_reducible refine Kd.C_alloc ?_ _) | (with_reducible refine Kd.C_drewN ?_ _) | (with_reducible refine Kd.C_drew ?_))); (case side2 => exact HC0_1.out); rintro e w19 ⟨rfl, hb⟩; refine ⟨_, rfl, ?_⟩; have n0_ := Aside0.mk (blk_below (g := gb163) (o := .cells #[.int .i64 a0_0, .slice A0_1 l0_1.length c0_1] 24 (0, 0)) (by (with_reducible repeat (first | refine blk_drewN ?_ _ | refine blk_drew ?_ | refine blk_alloc ?_ _)); exact BK163.out) hb); have n1_ := Aside0.mk (below_step (by repeat (first | (with_reducible first | exact HB.out | apply below_alloc | apply pw_below_drewN | apply below_drew1 | refine below_set ?_ GE163.out) | exact HB.out)) hb); clear BK163; clear HB; have BK163 := n0_; have HB := n1_; clear n0_ n1_; (try clear hb); (try clear hb2); (try clear hk); (try clear hi); have hcz20_0 : w19.cell? ⟨gb163, 0, none⟩ = some (.int .i64 a0_0) := (blk_cell BK163.out 0).trans rfl; have hcz20_1 : w19.cell? ⟨gb163, 1, none⟩ = some (.slice A0_1 l0_1.length c0_1) := (blk_cell BK163.out 1).trans rfl; have hfz20_0 := blk_frozen BK163.out 0; have hfz20_1 := blk_frozen BK163.out 1) | ((with_reducible refine gate_callee (f := 12) rfl ?_); refine goesL_ (some 26) rfl rfl Tryd.func12 (by kernel_rfl) rfl #[.agg #[.int .i64 a0_0, .slice A0_1 l0_1.length c0_1]] rfl (by (try simp only [List.map_toArray, List.map_cons, List.map_nil]); first | done | rfl | (simp only [List.length_drop, List.length_take]; rfl)) ?_; (with_reducible refine (besomref01_Count.calls k a0_0 _ _ l0_1 t166 t167 _ ?side1 ?side2 A5.out).mono ?_); (case side1 => repeat (first | exact (Kd.C_below HR0_1.out HB.out) | (with_reducible refine Kd.C_alloc ?_ _) | (with_reducible refine Kd.C_drewN ?_ _) | (with_reducible refine Kd.C_drew ?_))); (case side2 => exact HC0_1.out); rintro e w21 ⟨rfl, hb⟩; refine ⟨_, rfl, ?_⟩; have n0_ := Aside0.mk (blk_below (g := gb163) (o := .cells #[.int .i64 a0_0, .slice A0_1 l0_1.length c0_1] 24 (0, 0)) (by (with_reducible repeat (first | refine blk_drewN ?_ _ | refine blk_drew ?_ | refine blk_alloc ?_ _)); exact BK163.out) hb); have n1_ := Aside0.mk (below_step (by repeat (first | (with_reducible first | exact HB.out | apply below_alloc | apply pw_below_drewN | apply below_drew1 | refine below_set ?_ GE163.out) | exact HB.out)) hb); clear BK163; clear HB; have BK163 := n0_; have HB := n1_; clear n0_ n1_; (try clear hb); (try clear hb2); (try clear hk); (try clear hi); have hcz22_0 : w21.cell? ⟨gb163, 0, none⟩ = some (.int .i64 a0_0) := (blk_cell BK163.out 0).trans rfl; have hcz22_1 : w21.cell? ⟨gb163, 1, none⟩ = some (.slice A0_1 l0_1.length c0_1) := (blk_cell BK163.out 1).trans rfl; have hfz22_0 := blk_frozen BK163.out 0; have hfz22_1 := blk_frozen BK163.out 1) | ((with_reducible refine gate_callee (f := 13) rfl ?_); refine goesL_ (some 33) rfl rfl Tryd.func13 (by kernel_rfl) rfl #[.agg #[.int .i64 a0_0, .slice A0_1 l0_1.length c0_1], .int .i64 a1, .bool a2] rfl (by (try simp only [List.map_toArray, List.map_cons, List.map_nil]); first | done | rfl | (simp only [List.length_drop, List.length_take]; rfl)) ?_; (with_reducible refine (bits_First.calls k a0_0 _ _ l0_1 a1 a2 t168 t169 _ ?side1 ?side2 ?side3 A6.out).mono ?_); (case side1 => repeat (first | exact (Kd.C_below HR0_1.out HB.out) | (with_reducible refine Kd.C_alloc ?_ _) | (with_reducible refine Kd.C_drewN ?_ _) | (with_reducible refine Kd.C_drew ?_))); (case side2 => exact HC0_1.out); (case side3 => repeat (first | exact HT.out | exact TzOk.below HT.out (by repeat (first | (with_reducible first | exact HB.out | apply below_alloc | apply pw_below_drewN | apply below_drew1 | refine below_set ?_ GE163.out) | exact HB.out)) | (with_reducible refine TzOk.alloc ?_ _) | (with_reducible refine TzOk.drewN ?_ _) | (with_reducible refine TzOk.drew ?_))); rintro e w23 ⟨rfl, hb⟩; refine ⟨_, rfl, ?_⟩; have n0_ := Aside0.mk (blk_below (g := gb163) (o := .cells #[.int .i64 a0_0, .slice A0_1 l0_1.length c0_1] 24 (0, 0)) (by (with_reducible repeat (first | refine blk_drewN ?_ _ | refine blk_drew ?_ | refine blk_alloc ?_ _)); exact BK163.out) hb); have n1_ := Aside0.mk (below_step (by repeat (first | (with_reducible first | exact HB.out | apply below_alloc | apply pw_below_drewN | apply below_drew1 | refine below_set ?_ GE163.out) | exact HB.out)) hb); clear BK163; clear HB; have BK163 := n0_; have HB := n1_; clear n0_ n1_; (try clear hb); (try clear hb2); (try clear hk); (try clear hi); have hcz24_0 : w23.cell? ⟨gb163, 0, none⟩ = some (.int .i64 a0_0) := (blk_cell BK163.out 0).trans rfl; have hcz24_1 : w23.cell? ⟨gb163, 1, none⟩ = some (.slice A0_1 l0_1.length c0_1) := (blk_cell BK163.out 1).trans rfl; have hfz24_0 := blk_frozen BK163.out 0; have hfz24_1 := blk_frozen BK163.out 1) | ((with_reducible refine gate_callee (f := 14) rfl ?_); refine goesL_ (some 40) rfl rfl Tryd.func14 (by kernel_rfl) rfl #[.agg #[.int .i64 a0_0, .slice A0_1 l0_1.length c0_1], .int .i64 a1, .bool a2] rfl (by (try simp only [List.map_toArray, List.map_cons, List.map_nil]); first | done | rfl | (simp only [List.length_drop, List.length_take]; rfl)) ?_; (with_reducible refine (besomref01_First.calls k a0_0 _ _ l0_1 a1 a2 t170 t171 _ ?side1 ?side2 A7.out).mono ?_); (case side1 => repeat (first | exact (Kd.C_below HR0_1.out HB.out) | (with_reducible refine Kd.C_alloc ?_ _) | (with_reducible refine Kd.C_drewN ?_ _) | (with_reducible refine Kd.C_drew ?_))); (case side2 => exact HC0_1.out); rintro e w25 ⟨rfl, hb⟩; refine ⟨_, rfl, ?_⟩; have n0_ := Aside0.mk (blk_below (g := gb163) (o := .cells #[.int .i64 a0_0, .slice A0_1 l0_1.length c0_1] 24 (0, 0)) (by (with_reducible repeat (first | refine blk_drewN ?_ _ | refine blk_drew ?_ | refine blk_alloc ?_ _)); exact BK163.out) hb); have n1_ := Aside0.mk (below_step (by repeat (first | (with_reducible first | exact HB.out | apply below_alloc | apply pw_below_drewN | apply below_drew1 | refine below_set ?_ GE163.out) | exact HB.out)) hb); clear BK163; clear HB; have BK163 := n0_; have HB := n1_; clear n0_ n1_; (try clear hb); (try clear hb2); (try clear hk); (try clear hi); have hcz26_0 : w25.cell? ⟨gb163, 0, none⟩ = some (.int .i64 a0_0) := (blk_cell BK163.out 0).trans rfl; have hcz26_1 : w25.cell? ⟨gb163, 1, none⟩ = some (.slice A0_1 l0_1.length c0_1) := (blk_cell BK163.out 1).trans rfl; have hfz26_0 := blk_frozen BK163.out 0; have hfz26_1 := blk_frozen BK163.out 1) | ((with_reducible refine gate_callee (f := 15) rfl ?_); refine goesL_ (some 46) rfl rfl Tryd.func15 (by kernel_rfl) rfl #[.agg #[.int .i64 a0_0, .slice A0_1 l0_1.length c0_1], .int .i64 a1] rfl (by (try simp only [List.map_toArray, List.map_cons, List.map_nil]); first | done | rfl | (simp only [List.length_drop, List.length_take]; rfl)) ?_; (with_reducible refine (bits_Run.calls k a0_0 _ _ l0_1 a1 t172 t173 _ ?side1 ?side2 ?side3 A8.out).mono ?_); (case side1 => repeat (first | exact (Kd.C_below HR0_1.out HB.out) | (with_reducible refine Kd.C_alloc ?_ _) | (with_reducible refine Kd.C_drewN ?_ _) | (with_reducible refine Kd.C_drew ?_))); (case side2 => exact HC0_1.out); (case side3 => repeat (first | exact HT.out | exact TzOk.below HT.out (by repeat (first | (with_reducible first | exact HB.out | apply below_alloc | apply pw_below_drewN | apply below_drew1 | refine below_set ?_ GE163.out) | exact HB.out)) | (with_reducible refine TzOk.alloc ?_ _) | (with_reducible refine TzOk.drewN ?_ _) | (with_reducible refine TzOk.drew ?_))); rintro e w27 ⟨rfl, hb⟩; refine ⟨_, rfl, ?_⟩; have n0_ := Aside0.mk (blk_below (g := gb163) (o := .cells #[.int .i64 a0_0, .slice A0_1 l0_1.length c0_1] 24 (0, 0)) (by (with_reducible repeat (first | refine blk_drewN ?_ _ | refine blk_drew ?_ | refine blk_alloc ?_ _)); exact BK163.out) hb); have n1_ := Aside0.mk (below_step (by repeat (first | (with_reducible first | exact HB.out | apply below_alloc | apply pw_below_drewN | apply below_drew1 | refine below_set ?_ GE163.out) | exact HB.out)) hb); clear BK163; clear HB; have BK163 := n0_; have HB := n1_; clear n0_ n1_; (try clear hb); (try clear hb2); (try clear hk); (try clear hi); have hcz28_0 : w27.cell? ⟨gb163, 0, none⟩ = some (.int .i64 a0_0) := (blk_cell BK163.out 0).trans rfl; have hcz28_1 : w27.cell? ⟨gb163, 1, none⟩ = some (.slice A0_1 l0_1.length c0_1) := (blk_cell BK163.out 1).trans rfl; have hfz28_0 := blk_frozen BK163.out 0; have hfz28_1 := blk_frozen BK163.out 1) | ((with_reducible refine gate_callee (f := 16) rfl ?_); refine goesL_ (some 52) rfl rfl Tryd.func16 (by kernel_rfl) rfl #[.agg #[.int .i64 a0_0, .slice A0_1 l0_1.length c0_1], .int .i64 a1] rfl (by (try simp only [List.map_toArray, List.map_cons, List.map_nil]); first | done | rfl | (simp only [List.length_drop, List.length_take]; rfl)) ?_; (with_reducible refine (besomref01_Run.calls k a0_0 _ _ l0_1 a1 t174 t175 _ ?side1 ?side2 A9.out).mono ?_); (case side1 => repeat (first | exact (Kd.C_below HR0_1.out HB.out) | (with_reducible refine Kd.C_alloc ?_ _) | (with_reducible refine Kd.C_drewN ?_ _) | (with_reducible refine Kd.C_drew ?_))); (case side2 => exact HC0_1.out); rintro e w29 ⟨rfl, hb⟩; refine ⟨_, rfl, ?_⟩; have n0_ := Aside0.mk (blk_below (g := gb163) (o := .cells #[.int .i64 a0_0, .slice A0_1 l0_1.length c0_1] 24 (0, 0)) (by (with_reducible repeat (first | refine blk_drewN ?_ _ | refine blk_drew ?_ | refine blk_alloc ?_ _)); exact BK163.out) hb); have n1_ := Aside0.mk (below_step (by repeat (first | (with_reducible first | exact HB.out | apply below_alloc | apply pw_below_drewN | apply below_drew1 | refine below_set ?_ GE163.out) | exact HB.out)) hb); clear BK163; clear HB; have BK163 := n0_; have HB := n1_; clear n0_ n1_; (try clear hb); (try clear hb2); (try clear hk); (try clear hi)) | ((with_reducible refine gate_callee (f := 17) rfl ?_); refine goesL_ (some 55) rfl rfl Tryd.func17 (by kernel_rfl) rfl #[] rfl (by (try simp only [List.map_toArray, List.map_cons, List.map_nil]); first | done | rfl | (simp only [List.length_drop, List.length_take]; rfl)) ?_; (with_reducible refine (besomlaw01_asks.calls k  true _ ?side1 A10.out).mono ?_); (case side1 => repeat (first | exact HT.out | exact TzOk.below HT.out (by repeat (first | (with_reducible first | exact HB.out | apply below_alloc | apply pw_below_drewN | apply below_drew1 | refine below_set ?_ GE163.out) | exact HB.out)) | (with_reducible refine TzOk.alloc ?_ _) | (with_reducible refine TzOk.drewN ?_ _) | (with_reducible refine TzOk.drew ?_))); rintro e w30 ⟨rfl, hb⟩; refine ⟨_, rfl, ?_⟩; have n0_ := Aside0.mk (blk_below (g := gb163) (o := .cells #[.int .i64 a0_0, .slice A0_1 l0_1.length c0_1] 24 (0, 0)) (by (with_reducible repeat (first | refine blk_drewN ?_ _ | refine blk_drew ?_ | refine blk_alloc ?_ _)); exact BK163.out) hb); have n1_ := Aside0.mk (below_step (by repeat (first | (with_reducible first | exact HB.out | apply below_alloc | apply pw_below_drewN | apply below_drew1 | refine below_set ?_ GE163.out) | exact HB.out)) hb); clear BK163; clear HB; have BK163 := n0_; have HB := n1_; clear n0_ n1_; (try clear hb); (try clear hb2); (try clear hk); (try clear hi)))
              go_ret
              exact ⟨by first | rfl | (simp [errW_none, errW_some] <;> rfl) | (simp [*, errW_none, errW_some] <;> rfl), by repeat (first | (with_reducible first | exact HB.out | apply below_alloc | apply pw_below_drewN | apply below_drew1 | refine below_set ?_ GE163.out) | exact HB.out)⟩
            · rw [if_neg c16] at H
              have c16b0 : (t172 == t174) = false := beq_eq_false_iff_ne.mpr c16
              have c16b1 : (t172 != t174) = true := bne_iff_ne.mpr c16
              exact absurd ((Option.some.inj H).trans HLAW.out) (by decide)
          · rw [if_neg c15] at H
            have c15b0 : (t169 == t171) = false := beq_eq_false_iff_ne.mpr c15
            have c15b1 : (t169 != t171) = true := bne_iff_ne.mpr c15
            exact absurd ((Option.some.inj H).trans HLAW.out) (by decide)
        · rw [if_neg c14] at H
          have c14b0 : (t168 == t170) = false := beq_eq_false_iff_ne.mpr c14
          have c14b1 : (t168 != t170) = true := bne_iff_ne.mpr c14
          exact absurd ((Option.some.inj H).trans HLAW.out) (by decide)
      · rw [if_neg c13] at H
        have c13b0 : (t165 == t167) = false := beq_eq_false_iff_ne.mpr c13
        have c13b1 : (t165 != t167) = true := bne_iff_ne.mpr c13
        exact absurd ((Option.some.inj H).trans HLAW.out) (by decide)
    · rw [if_neg c12] at H
      have c12b0 : (t164 == t166) = false := beq_eq_false_iff_ne.mpr c12
      have c12b1 : (t164 != t166) = true := bne_iff_ne.mpr c12
      exact absurd ((Option.some.inj H).trans HLAW.out) (by decide)
  · replace c11 := Bool.eq_false_iff.mpr c11
    subst c11
    have H1 : (some false) = some r := by rw [if_neg (show ¬ (false = true) by decide)] at H; exact H
    clear H
    have H := H1
    clear H1
    exact absurd ((Option.some.inj H).trans HLAW.out) (by decide)

end Go.Proofs.YtdadleamaalhiacDoor.GB
