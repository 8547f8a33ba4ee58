/- Made by gprint.py, this session's program over the kit's print program, out of the translation; the functions that it does not print are proved by hand (wip/given). Lean checks it. -/
import Derived.Test.YthphncefbahcaaaDoorGBx0
import Derived.Test.YthphncefbahcaaaDoorGBx1
import Derived.Test.YthphncefbahcaaaDoorGBx3
import Derived.Test.YthphncefbahcaaaDoorGBx4
namespace Go.Proofs.YthphncefbahcaaaDoor.GB
open Go.RowKit Go.Proofs.YthphncefbahcaaaDoorW.PrintWords Go.Proofs.YthphncefbahcaaaDoorW.PrintLast Go.Proofs.YthphncefbahcaaaDoorW.PrintMore
attribute [local go_sem] max2_int min2_int max_two min_two max_three min_three max_four min_four   -- for this text's walks alone
set_option linter.unusedVariables false
set_option linter.unusedSimpArgs false

/-! ### bits_Run: function 20 -/
theorem bits_run_state (x1 : Int) (x2 : Bool) (n : Int) (l : List Int) : ∀ k, (∀ x7 r1 r2, bits_list_first.l0 k x1 x2 x7 n l = some (r1, r2) → r2 = n) ∧ (∀ x7 x8 r1 r2, bits_list_first.j1 k x1 x2 x7 x8 n l = some (r1, r2) → r2 = n)
  | 0 => ⟨fun _ _ _ h => by simp [bits_list_first.l0] at h, fun _ _ _ _ h => by simp [bits_list_first.j1] at h⟩
  | k + 1 => by
    obtain ⟨ih0, ih1⟩ := bits_run_state x1 x2 n l k
    refine ⟨fun x7 r1 r2 h => ?_, fun x7 x8 r1 r2 h => ?_⟩
    · simp only [bits_list_first.l0] at h
      repeat' split at h
      all_goals first
        | exact ih1 _ _ _ _ h
        | (simp only [Option.some.injEq, Prod.mk.injEq] at h; exact h.2.symm)
        | cases h
    · simp only [bits_list_first.j1] at h
      repeat' split at h
      all_goals first
        | exact ih0 _ _ _ h
        | (obtain ⟨t, _, h⟩ := Option.bind_eq_some_iff.mp h; simp only [Option.some.injEq, Prod.mk.injEq] at h; exact h.2.symm)
        | cases h
theorem bits_run_first (k g : Nat) (n : Int) (l : List Int) (fr : Int) (v : Bool) (t t' : Int) (w0 w : World) (hI : IsS68 w0 w g n l) (hB : Below w0.heap.size w0 w) (hT : TzOk w0) (h : bits_list_first.f k n l fr v = some (t, t')) :
    Calls Tryd.prog 49 #[.pointer (some ⟨g, 0, none⟩), .int .i64 fr, .bool v] w fun e w' => e = .returned (.int .i64 t) ∧ IsS68 w0 w' g n l ∧ Below w0.heap.size w0 w' ∧ KeepBut w w' g none := by
  have e : t' = n := (bits_run_state fr v n l k).1 _ _ _ h
  subst e
  exact bits_list_first.calls k g _ l fr v t _ w0 w hI hB hT h
def bits_Run.l0 (n : Int) (l : List Int) (ct : Int) : Nat → Int → Option (Int × Int)
  | 0, _ => none
  | k + 1, x8 => if x8 < n then ((bits_list_first.f k n l x8 true).bind fun b => if wrap64 (b.1 - x8) ≥ ct then some (x8, 0) else ((bits_list_first.f k n l b.1 false).bind fun b2 => bits_Run.l0 n l ct k b2.1)) else some (0, 3)
def bits_Run.f (k : Nat) (n : Int) (l : List Int) (ct : Int) : Option (Int × Int) := (bits_Check.f k n l).bind fun t1 => if t1 = 0 then (if ct < 1 then some (0, 1) else (bits_list_first.f k n l 0 false).bind fun b => bits_Run.l0 n l ct k b.1) else some (0, t1)
theorem bits_Run.mono_l (n : Int) (l : List Int) (ct : Int) : ∀ k x, LeO (bits_Run.l0 n l ct k x) (bits_Run.l0 n l ct (k + 1) x)
  | 0, _ => LeO.none _
  | k + 1, x => by
    unfold bits_Run.l0
    exact LeO.ite (LeO.bind (bits_list_first.mono _ _ _ _ _) (fun _ => LeO.ite (LeO.refl _) (LeO.bind (bits_list_first.mono _ _ _ _ _) (fun _ => bits_Run.mono_l n l ct k _)))) (LeO.refl _)
theorem bits_Run.mono : ∀ a0 a1 a2 k, LeO (bits_Run.f k a0 a1 a2) (bits_Run.f (k + 1) a0 a1 a2) := by
  intro a0 a1 a2 k
  unfold bits_Run.f
  exact LeO.bind (bits_Check.mono _ _ _) (fun _ => LeO.ite (LeO.ite (LeO.refl _) (LeO.bind (bits_list_first.mono _ _ _ _ _) (fun _ => bits_Run.mono_l _ _ _ _ _))) (LeO.refl _))
set_option maxHeartbeats 8000000 in
set_option maxRecDepth 100000 in
theorem bits_Run.calls (k : Nat) (n : Int) (A : Option Addr) (c : Nat) (l : List Int) (ct : Int) (r1 : Int) (r2 : Int) (w : World) (hr0 : Kd.C (Kd.int .u64) w A l.length l) (hc0 : l.length ≤ c) (hT : TzOk w) (h : bits_Run.f k n l ct = some (r1, r2)) :
    Calls Tryd.prog 20 #[.agg #[.int .i64 n, .slice A l.length c], .int .i64 ct] w fun e w' => e = .returned (.tuple #[.int .i64 r1, .int .i64 r2]) ∧ Below w.heap.size w w' := by
  have hu := Tryd.underlying24
  have HR0 := Aside0.mk hr0
  have HC0 := Aside0.mk hc0
  have HT := Aside0.mk hT
  clear hr0 hc0 hT
  have HB := Aside0.mk (Below.refl w.heap.size w)
  have H := h
  clear h
  unfold bits_Run.f at H
  replace H := Option.bind_eq_some_iff.mp H
  obtain ⟨t1, A1, H⟩ := H
  replace A1 := Aside0.mk A1
  by_cases c5 : t1 = 0
  · rw [if_pos c5] at H
    subst c5
    by_cases d0 : ct < 1
    · rw [if_pos d0] at H
      have e0 : decide (ct < 1) = true := decide_eq_true d0
      clear d0
      simp only [Option.some.injEq, Prod.mk.injEq] at H
      obtain ⟨rfl, rfl⟩ := H
      go_enter Tryd.func20, Tryd.ntmps20
      go_wp2_with (first | ((with_reducible refine gate_dst (N := 2) rfl ?_); refine box_event ?hg (N := 2) ?hd (cs := #[.int .i64 n, .slice A l.length c]) (t := 24) ?hr ?_; (case hd => rfl); (case hg => rfl); (case hr => first | (go_simp; done) | (go_simp; rfl)); intro gb2 hg w_ hbox hb; have n0_ := Aside0.mk (below_step (by repeat (first | (with_reducible first | exact HB.out | apply below_alloc | apply pw_below_drewN | apply below_drew1) | exact HB.out)) hb); have n1_ := Aside0.mk (hbox); have n2_ := Aside0.mk ((by rw [hg]; exact (below_size (by repeat (first | (with_reducible first | exact HB.out | apply below_alloc | apply pw_below_drewN | apply below_drew1) | exact HB.out)))) : w.heap.size ≤ gb2); clear HB; have HB := n0_; have BK2 := n1_; have GE2 := n2_; clear n0_ n1_ n2_; clear hb hbox hg; have hcz2_0 : w_.cell? ⟨gb2, 0, none⟩ = some (.int .i64 n) := (blk_cell BK2.out 0).trans rfl; have hfz2_0 := blk_frozen BK2.out 0; have hcz2_1 : w_.cell? ⟨gb2, 1, none⟩ = some (.slice A l.length c) := (blk_cell BK2.out 1).trans rfl; have hfz2_1 := blk_frozen BK2.out 1) | ((with_reducible refine gate_callee (f := 43) rfl ?_); refine goesL_ (some 11) rfl rfl Tryd.func43 (by kernel_rfl) rfl #[.agg #[.int .i64 n, .slice A l.length c]] rfl (by (try simp only [List.map_toArray, List.map_cons, List.map_nil]); first | done | rfl | (simp only [List.length_drop, List.length_take]; rfl)) ?_; (with_reducible refine (bits_Check.calls k n _ _ l 0 _ ?side1 ?side2 A1.out).mono ?_); (case side1 => exact (Kd.C_below HR0.out HB.out)); (case side2 => exact HC0.out); rintro e w16 ⟨rfl, hb⟩; refine ⟨_, rfl, ?_⟩; (try clear hcz2_0 hfz2_0 hcz2_1 hfz2_1); have n0_ := Aside0.mk (blk_below (g := gb2) (o := .cells #[.int .i64 n, .slice A l.length c] 24 (0, 0)) (by (with_reducible repeat (first | refine blk_drewN ?_ _ | refine blk_drew ?_ | refine blk_alloc ?_ _)); exact BK2.out) hb); have n1_ := Aside0.mk (below_step (by repeat (first | (with_reducible first | exact HB.out | apply below_alloc | apply pw_below_drewN | apply below_drew1 | refine below_set ?_ GE2.out) | exact HB.out)) hb); clear BK2; clear HB; have BK2 := n0_; have HB := n1_; clear n0_ n1_; clear hb; have hcz2_0 : w16.cell? ⟨gb2, 0, none⟩ = some (.int .i64 n) := (blk_cell BK2.out 0).trans rfl; have hfz2_0 := blk_frozen BK2.out 0; have hcz2_1 : w16.cell? ⟨gb2, 1, none⟩ = some (.slice A l.length c) := (blk_cell BK2.out 1).trans rfl; have hfz2_1 := blk_frozen BK2.out 1))
      go_ret2
      exact ⟨by first | rfl | (simp; done), by repeat (first | (with_reducible first | exact HB.out | apply below_alloc | apply pw_below_drewN | apply below_drew1 | refine below_set ?_ GE2.out) | exact HB.out)⟩
    rw [if_neg d0] at H
    have e0 : decide (ct < 1) = false := decide_eq_false d0
    clear d0
    replace H := Option.bind_eq_some_iff.mp H
    obtain ⟨⟨t2, t3⟩, A2, H⟩ := H
    replace A2 := Aside0.mk A2
    have H' := Aside0.mk (show bits_Run.l0 n l ct k t2 = some (r1, r2) from H)
    clear H
    go_enter Tryd.func20, Tryd.ntmps20
    go_wp2_with (first | ((with_reducible refine gate_dst (N := 2) rfl ?_); refine box_event ?hg (N := 2) ?hd (cs := #[.int .i64 n, .slice A l.length c]) (t := 24) ?hr ?_; (case hd => rfl); (case hg => rfl); (case hr => first | (go_simp; done) | (go_simp; rfl)); intro gb2 hg w_ hbox hb; have n0_ := Aside0.mk (below_step (by repeat (first | (with_reducible first | exact HB.out | apply below_alloc | apply pw_below_drewN | apply below_drew1) | exact HB.out)) hb); have n1_ := Aside0.mk (hbox); have n2_ := Aside0.mk ((by rw [hg]; exact (below_size (by repeat (first | (with_reducible first | exact HB.out | apply below_alloc | apply pw_below_drewN | apply below_drew1) | exact HB.out)))) : w.heap.size ≤ gb2); clear HB; have HB := n0_; have BK2 := n1_; have GE2 := n2_; clear n0_ n1_ n2_; clear hb hbox hg; have hcz2_0 : w_.cell? ⟨gb2, 0, none⟩ = some (.int .i64 n) := (blk_cell BK2.out 0).trans rfl; have hfz2_0 := blk_frozen BK2.out 0; have hcz2_1 : w_.cell? ⟨gb2, 1, none⟩ = some (.slice A l.length c) := (blk_cell BK2.out 1).trans rfl; have hfz2_1 := blk_frozen BK2.out 1) | ((with_reducible refine gate_callee (f := 43) rfl ?_); refine goesL_ (some 11) rfl rfl Tryd.func43 (by kernel_rfl) rfl #[.agg #[.int .i64 n, .slice A l.length c]] rfl (by (try simp only [List.map_toArray, List.map_cons, List.map_nil]); first | done | rfl | (simp only [List.length_drop, List.length_take]; rfl)) ?_; (with_reducible refine (bits_Check.calls k n _ _ l 0 _ ?side1 ?side2 A1.out).mono ?_); (case side1 => exact (Kd.C_below HR0.out HB.out)); (case side2 => exact HC0.out); rintro e w16 ⟨rfl, hb⟩; refine ⟨_, rfl, ?_⟩; (try clear hcz2_0 hfz2_0 hcz2_1 hfz2_1); have n0_ := Aside0.mk (blk_below (g := gb2) (o := .cells #[.int .i64 n, .slice A l.length c] 24 (0, 0)) (by (with_reducible repeat (first | refine blk_drewN ?_ _ | refine blk_drew ?_ | refine blk_alloc ?_ _)); exact BK2.out) hb); have n1_ := Aside0.mk (below_step (by repeat (first | (with_reducible first | exact HB.out | apply below_alloc | apply pw_below_drewN | apply below_drew1 | refine below_set ?_ GE2.out) | exact HB.out)) hb); clear BK2; clear HB; have BK2 := n0_; have HB := n1_; clear n0_ n1_; clear hb; have hcz2_0 : w16.cell? ⟨gb2, 0, none⟩ = some (.int .i64 n) := (blk_cell BK2.out 0).trans rfl; have hfz2_0 := blk_frozen BK2.out 0; have hcz2_1 : w16.cell? ⟨gb2, 1, none⟩ = some (.slice A l.length c) := (blk_cell BK2.out 1).trans rfl; have hfz2_1 := blk_frozen BK2.out 1) | ((with_reducible refine gate_dst (N := 19) rfl ?_); refine box_event ?hg (N := 19) ?hd (cs := #[.int .i64 n, .slice A l.length c]) (t := 68) ?hr ?_; (case hd => rfl); (case hg => rfl); (case hr => first | (go_simp; done) | (go_simp; rfl)); intro gb19 hg w_ hbox hb; clear hcz2_0 hfz2_0 hcz2_1 hfz2_1; have n0_ := Aside0.mk (blk_below (g := gb2) (o := .cells #[.int .i64 n, .slice A l.length c] 24 (0, 0)) (by (with_reducible repeat (first | refine blk_drewN ?_ _ | refine blk_drew ?_ | refine blk_alloc ?_ _)); exact BK2.out) hb); have n1_ := Aside0.mk (below_step (by repeat (first | (with_reducible first | exact HB.out | apply below_alloc | apply pw_below_drewN | apply below_drew1 | refine below_set ?_ GE2.out) | exact HB.out)) hb); have n2_ := Aside0.mk (hbox); have n3_ := Aside0.mk ((by rw [hg]; exact (below_size (by repeat (first | (with_reducible first | exact HB.out | apply below_alloc | apply pw_below_drewN | apply below_drew1 | refine below_set ?_ GE2.out) | exact HB.out)))) : w.heap.size ≤ gb19); have n4_ := Aside0.mk ((by rw [hg]; exact Nat.ne_of_gt (blk_lt (g := gb2) (o := .cells #[.int .i64 n, .slice A l.length c] 24 (0, 0)) (by (with_reducible repeat (first | refine blk_drewN ?_ _ | refine blk_drew ?_ | refine blk_alloc ?_ _)); exact BK2.out))) : gb19 ≠ gb2); clear BK2; clear HB; have BK2 := n0_; have HB := n1_; have BK19 := n2_; have GE19 := n3_; have NB19_2 := n4_; clear n0_ n1_ n2_ n3_ n4_; clear hb hbox hg; have hcz2_0 : w_.cell? ⟨gb2, 0, none⟩ = some (.int .i64 n) := (blk_cell BK2.out 0).trans rfl; have hfz2_0 := blk_frozen BK2.out 0; have hcz2_1 : w_.cell? ⟨gb2, 1, none⟩ = some (.slice A l.length c) := (blk_cell BK2.out 1).trans rfl; have hfz2_1 := blk_frozen BK2.out 1) | ((with_reducible refine gate_callee (f := 49) rfl ?_); refine goesL_ (some 21) rfl rfl Tryd.func49 (by kernel_rfl) rfl #[.pointer (some ⟨gb19, 0, none⟩), .int .i64 0, .bool false] rfl (by (try simp only [List.map_toArray, List.map_cons, List.map_nil]); first | done | rfl | (simp only [List.length_drop, List.length_take]; rfl)) ?_; (with_reducible refine (bits_run_first k gb19 n l 0 false t2 _ w _ ?side1 ?side2 HT.out A2.out).mono ?_); (case side1 => exact ⟨A, c, (by (with_reducible repeat (first | refine blk_drewN ?_ _ | refine blk_drew ?_ | refine blk_alloc ?_ _)); exact BK19.out), GE19.out, HR0.out⟩); (case side2 => exact (by repeat (first | (with_reducible first | exact HB.out | apply below_alloc | apply pw_below_drewN | apply below_drew1 | refine below_set ?_ GE2.out | refine below_set ?_ GE19.out) | exact HB.out))); rintro e w30 ⟨rfl, hi, hb, hk⟩; refine ⟨_, rfl, ?_⟩; (try clear hcz2_0 hfz2_0 hcz2_1 hfz2_1); have n0_ := Aside0.mk ((hk.2 gb2 (blk_lt (g := gb2) (o := .cells #[.int .i64 n, .slice A l.length c] 24 (0, 0)) (by (with_reducible repeat (first | refine blk_drewN ?_ _ | refine blk_drew ?_ | refine blk_alloc ?_ _)); exact BK2.out)) (fun e_ => NB19_2.out e_.symm) (by simp)).trans (by (with_reducible repeat (first | refine blk_drewN ?_ _ | refine blk_drew ?_ | refine blk_alloc ?_ _)); exact BK2.out)); have n1_ := Aside0.mk hb; have n2_ := Aside0.mk hi; clear BK2 HB; (try clear HI); have BK2 := n0_; have HB := n1_; have HI := n2_; clear n0_ n1_ n2_; clear hb hk hi))
    go_loopg [8] k (fun kq v8 wr => ∃ x8 : Int, v8 = .int .i64 x8 ∧ Aside0 (bits_Run.l0 n l ct kq x8 = some (r1, r2)) ∧ Aside0 (kq ≤ k) ∧ Aside0 (IsS68 w wr gb19 n l) ∧ Aside0 (wr.heap[gb2]? = some (.cells #[.int .i64 n, .slice A l.length c] 24 (0, 0))) ∧ Aside0 (Below w.heap.size w wr))
    case atStart => exact ⟨t2, rfl, H', ⟨Nat.le_refl _⟩, ⟨(by repeat (first | (with_reducible first | exact HI.out | apply IsS68.alloc | apply IsS68.drewN | apply IsS68.drew) | exact HI.out))⟩, ⟨by (with_reducible repeat (first | refine blk_drewN ?_ _ | refine blk_drew ?_ | refine blk_alloc ?_ _)); exact BK2.out⟩, ⟨by repeat (first | (with_reducible first | exact HB.out | apply below_alloc | apply pw_below_drewN | apply below_drew1 | refine below_set ?_ GE2.out) | exact HB.out)⟩⟩
    case round =>
      clear H'
      obtain ⟨x8, rfl, HA, HK1, HI, BK2, HB⟩ := hrel
      have hcz2_0 : wr.cell? ⟨gb2, 0, none⟩ = some (.int .i64 n) := (blk_cell BK2.out 0).trans rfl
      cases gk with
      | zero => exact absurd HA.out (by simp [bits_Run.l0])
      | succ k1 =>
        have H := HA.out
        clear HA
        simp only [bits_Run.l0] at H
        by_cases c6 : x8 < n
        · rw [if_pos c6] at H
          have c6b : decide (x8 < n) = true := decide_eq_true c6
          clear c6
          replace H := Option.bind_eq_some_iff.mp H
          obtain ⟨⟨t4, t5⟩, A4, H⟩ := H
          replace A4 := Aside0.mk A4
          simp only at H
          by_cases c7 : wrap64 (t4 - x8) ≥ ct
          · rw [if_pos c7] at H
            have c7b : decide (ct ≤ wrap64 (t4 - x8)) = true := decide_eq_true c7
            clear c7
            simp only [Option.some.injEq, Prod.mk.injEq] at H
            obtain ⟨rfl, rfl⟩ := H
            go_wp2_with (first | ((with_reducible refine gate_callee (f := 49) rfl ?_); refine goesL_ (some 28) rfl rfl Tryd.func49 (by kernel_rfl) rfl #[.pointer (some ⟨gb19, 0, none⟩), .int .i64 x8, .bool true] rfl (by (try simp only [List.map_toArray, List.map_cons, List.map_nil]); first | done | rfl | (simp only [List.length_drop, List.length_take]; rfl)) ?_; (with_reducible refine (bits_run_first k1 gb19 n l x8 true t4 _ w _ ?side1 ?side2 HT.out A4.out).mono ?_); (case side1 => exact by repeat (first | (with_reducible first | exact HI.out | apply IsS68.alloc | apply IsS68.drewN | apply IsS68.drew) | exact HI.out)); (case side2 => exact (by repeat (first | (with_reducible first | exact HB.out | apply below_alloc | apply pw_below_drewN | apply below_drew1 | refine below_set ?_ GE2.out) | exact HB.out))); rintro e w40 ⟨rfl, hi, hb, hk⟩; refine ⟨_, rfl, ?_⟩; (try clear hcz2_0 hfz2_0 hcz2_1 hfz2_1); have n0_ := Aside0.mk ((hk.2 gb2 (blk_lt (g := gb2) (o := .cells #[.int .i64 n, .slice A l.length c] 24 (0, 0)) (by (with_reducible repeat (first | refine blk_drewN ?_ _ | refine blk_drew ?_ | refine blk_alloc ?_ _)); exact BK2.out)) (fun e_ => NB19_2.out e_.symm) (by simp)).trans (by (with_reducible repeat (first | refine blk_drewN ?_ _ | refine blk_drew ?_ | refine blk_alloc ?_ _)); exact BK2.out)); have n1_ := Aside0.mk hb; have n2_ := Aside0.mk hi; clear BK2 HB; (try clear HI); have BK2 := n0_; have HB := n1_; have HI := n2_; clear n0_ n1_ n2_; clear hb hk hi; have hcz2_0 : w40.cell? ⟨gb2, 0, none⟩ = some (.int .i64 n) := (blk_cell BK2.out 0).trans rfl; have hfz2_0 := blk_frozen BK2.out 0; have hcz2_1 : w40.cell? ⟨gb2, 1, none⟩ = some (.slice A l.length c) := (blk_cell BK2.out 1).trans rfl; have hfz2_1 := blk_frozen BK2.out 1))
            go_ret2
            exact ⟨by first | rfl | (simp; done), by repeat (first | (with_reducible first | exact HB.out | apply below_alloc | apply pw_below_drewN | apply below_drew1 | refine below_set ?_ GE2.out) | exact HB.out)⟩
          · rw [if_neg c7] at H
            have c7b : decide (ct ≤ wrap64 (t4 - x8)) = false := decide_eq_false c7
            clear c7
            replace H := Option.bind_eq_some_iff.mp H
            obtain ⟨⟨t6, t7⟩, A6, H⟩ := H
            replace A6 := Aside0.mk A6
            have H' := Aside0.mk (show bits_Run.l0 n l ct k1 t6 = some (r1, r2) from H)
            clear H
            go_wp2_with (first | ((with_reducible refine gate_callee (f := 49) rfl ?_); refine goesL_ (some 28) rfl rfl Tryd.func49 (by kernel_rfl) rfl #[.pointer (some ⟨gb19, 0, none⟩), .int .i64 x8, .bool true] rfl (by (try simp only [List.map_toArray, List.map_cons, List.map_nil]); first | done | rfl | (simp only [List.length_drop, List.length_take]; rfl)) ?_; (with_reducible refine (bits_run_first k1 gb19 n l x8 true t4 _ w _ ?side1 ?side2 HT.out A4.out).mono ?_); (case side1 => exact by repeat (first | (with_reducible first | exact HI.out | apply IsS68.alloc | apply IsS68.drewN | apply IsS68.drew) | exact HI.out)); (case side2 => exact (by repeat (first | (with_reducible first | exact HB.out | apply below_alloc | apply pw_below_drewN | apply below_drew1 | refine below_set ?_ GE2.out) | exact HB.out))); rintro e w40 ⟨rfl, hi, hb, hk⟩; refine ⟨_, rfl, ?_⟩; (try clear hcz2_0 hfz2_0 hcz2_1 hfz2_1); have n0_ := Aside0.mk ((hk.2 gb2 (blk_lt (g := gb2) (o := .cells #[.int .i64 n, .slice A l.length c] 24 (0, 0)) (by (with_reducible repeat (first | refine blk_drewN ?_ _ | refine blk_drew ?_ | refine blk_alloc ?_ _)); exact BK2.out)) (fun e_ => NB19_2.out e_.symm) (by simp)).trans (by (with_reducible repeat (first | refine blk_drewN ?_ _ | refine blk_drew ?_ | refine blk_alloc ?_ _)); exact BK2.out)); have n1_ := Aside0.mk hb; have n2_ := Aside0.mk hi; clear BK2 HB; (try clear HI); have BK2 := n0_; have HB := n1_; have HI := n2_; clear n0_ n1_ n2_; clear hb hk hi; have hcz2_0 : w40.cell? ⟨gb2, 0, none⟩ = some (.int .i64 n) := (blk_cell BK2.out 0).trans rfl; have hfz2_0 := blk_frozen BK2.out 0; have hcz2_1 : w40.cell? ⟨gb2, 1, none⟩ = some (.slice A l.length c) := (blk_cell BK2.out 1).trans rfl; have hfz2_1 := blk_frozen BK2.out 1) | ((with_reducible refine gate_callee (f := 49) rfl ?_); refine goesL_ (some 37) rfl rfl Tryd.func49 (by kernel_rfl) rfl #[.pointer (some ⟨gb19, 0, none⟩), .int .i64 t4, .bool false] rfl (by (try simp only [List.map_toArray, List.map_cons, List.map_nil]); first | done | rfl | (simp only [List.length_drop, List.length_take]; rfl)) ?_; (with_reducible refine (bits_run_first k1 gb19 n l t4 false t6 _ w _ ?side1 ?side2 HT.out A6.out).mono ?_); (case side1 => exact by repeat (first | (with_reducible first | exact HI.out | apply IsS68.alloc | apply IsS68.drewN | apply IsS68.drew) | exact HI.out)); (case side2 => exact (by repeat (first | (with_reducible first | exact HB.out | apply below_alloc | apply pw_below_drewN | apply below_drew1 | refine below_set ?_ GE2.out) | exact HB.out))); rintro e w50 ⟨rfl, hi, hb, hk⟩; refine ⟨_, rfl, ?_⟩; (try clear hcz2_0 hfz2_0 hcz2_1 hfz2_1); have n0_ := Aside0.mk ((hk.2 gb2 (blk_lt (g := gb2) (o := .cells #[.int .i64 n, .slice A l.length c] 24 (0, 0)) (by (with_reducible repeat (first | refine blk_drewN ?_ _ | refine blk_drew ?_ | refine blk_alloc ?_ _)); exact BK2.out)) (fun e_ => NB19_2.out e_.symm) (by simp)).trans (by (with_reducible repeat (first | refine blk_drewN ?_ _ | refine blk_drew ?_ | refine blk_alloc ?_ _)); exact BK2.out)); have n1_ := Aside0.mk hb; have n2_ := Aside0.mk hi; clear BK2 HB; (try clear HI); have BK2 := n0_; have HB := n1_; have HI := n2_; clear n0_ n1_ n2_; clear hb hk hi; have hcz2_0 : w50.cell? ⟨gb2, 0, none⟩ = some (.int .i64 n) := (blk_cell BK2.out 0).trans rfl; have hfz2_0 := blk_frozen BK2.out 0; have hcz2_1 : w50.cell? ⟨gb2, 1, none⟩ = some (.slice A l.length c) := (blk_cell BK2.out 1).trans rfl; have hfz2_1 := blk_frozen BK2.out 1))
            go_roundg k1
            case measure => have := HK1.out; omega
            case rel => exact ⟨t6, rfl, H', ⟨by have := HK1.out; omega⟩, ⟨(by repeat (first | (with_reducible first | exact HI.out | apply IsS68.alloc | apply IsS68.drewN | apply IsS68.drew) | exact HI.out))⟩, ⟨by (with_reducible repeat (first | refine blk_drewN ?_ _ | refine blk_drew ?_ | refine blk_alloc ?_ _)); exact BK2.out⟩, ⟨by repeat (first | (with_reducible first | exact HB.out | apply below_alloc | apply pw_below_drewN | apply below_drew1 | refine below_set ?_ GE2.out) | exact HB.out)⟩⟩
        · rw [if_neg c6] at H
          have c6b : decide (x8 < n) = false := decide_eq_false c6
          clear c6
          simp only [Option.some.injEq, Prod.mk.injEq] at H
          obtain ⟨rfl, rfl⟩ := H
          go_wp2
          go_ret2
          exact ⟨by first | rfl | (simp; done), by repeat (first | (with_reducible first | exact HB.out | apply below_alloc | apply pw_below_drewN | apply below_drew1 | refine below_set ?_ GE2.out) | exact HB.out)⟩
  · rw [if_neg c5] at H
    have c5b0 : (t1 == 0) = false := beq_eq_false_iff_ne.mpr c5
    have c5b1 : (t1 != 0) = true := bne_iff_ne.mpr c5
    clear c5
    simp only [Option.some.injEq, Prod.mk.injEq] at H
    obtain ⟨rfl, rfl⟩ := H
    go_enter Tryd.func20, Tryd.ntmps20
    go_wp2_with (first | ((with_reducible refine gate_dst (N := 2) rfl ?_); refine box_event ?hg (N := 2) ?hd (cs := #[.int .i64 n, .slice A l.length c]) (t := 24) ?hr ?_; (case hd => rfl); (case hg => rfl); (case hr => first | (go_simp; done) | (go_simp; rfl)); intro gb2 hg w_ hbox hb; have n0_ := Aside0.mk (below_step (by repeat (first | (with_reducible first | exact HB.out | apply below_alloc | apply pw_below_drewN | apply below_drew1) | exact HB.out)) hb); have n1_ := Aside0.mk (hbox); have n2_ := Aside0.mk ((by rw [hg]; exact (below_size (by repeat (first | (with_reducible first | exact HB.out | apply below_alloc | apply pw_below_drewN | apply below_drew1) | exact HB.out)))) : w.heap.size ≤ gb2); clear HB; have HB := n0_; have BK2 := n1_; have GE2 := n2_; clear n0_ n1_ n2_; clear hb hbox hg; have hcz2_0 : w_.cell? ⟨gb2, 0, none⟩ = some (.int .i64 n) := (blk_cell BK2.out 0).trans rfl; have hfz2_0 := blk_frozen BK2.out 0; have hcz2_1 : w_.cell? ⟨gb2, 1, none⟩ = some (.slice A l.length c) := (blk_cell BK2.out 1).trans rfl; have hfz2_1 := blk_frozen BK2.out 1) | ((with_reducible refine gate_callee (f := 43) rfl ?_); refine goesL_ (some 11) rfl rfl Tryd.func43 (by kernel_rfl) rfl #[.agg #[.int .i64 n, .slice A l.length c]] rfl (by (try simp only [List.map_toArray, List.map_cons, List.map_nil]); first | done | rfl | (simp only [List.length_drop, List.length_take]; rfl)) ?_; (with_reducible refine (bits_Check.calls k n _ _ l t1 _ ?side1 ?side2 A1.out).mono ?_); (case side1 => exact (Kd.C_below HR0.out HB.out)); (case side2 => exact HC0.out); rintro e w16 ⟨rfl, hb⟩; refine ⟨_, rfl, ?_⟩; (try clear hcz2_0 hfz2_0 hcz2_1 hfz2_1); have n0_ := Aside0.mk (blk_below (g := gb2) (o := .cells #[.int .i64 n, .slice A l.length c] 24 (0, 0)) (by (with_reducible repeat (first | refine blk_drewN ?_ _ | refine blk_drew ?_ | refine blk_alloc ?_ _)); exact BK2.out) hb); have n1_ := Aside0.mk (below_step (by repeat (first | (with_reducible first | exact HB.out | apply below_alloc | apply pw_below_drewN | apply below_drew1 | refine below_set ?_ GE2.out) | exact HB.out)) hb); clear BK2; clear HB; have BK2 := n0_; have HB := n1_; clear n0_ n1_; clear hb))
    go_ret2
    exact ⟨by first | rfl | (simp; done), by repeat (first | (with_reducible first | exact HB.out | apply below_alloc | apply pw_below_drewN | apply below_drew1 | refine below_set ?_ GE2.out) | exact HB.out)⟩

end Go.Proofs.YthphncefbahcaaaDoor.GB
