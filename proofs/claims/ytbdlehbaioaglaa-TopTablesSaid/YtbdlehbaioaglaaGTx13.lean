/- Made by gprint.py, this session's program over the kit's print program, out of the translation; the functions that it does not print are proved by hand (wip/given). Lean checks it. -/
import Derived.Test.YtbdlehbaioaglaaGTx0
import Derived.Test.YtbdlehbaioaglaaGTx3
import Derived.Test.YtbdlehbaioaglaaGTx4
import Derived.Test.YtbdlehbaioaglaaGTx6
import Derived.Test.YtbdlehbaioaglaaGTx11
import Derived.Test.YtbdlehbaioaglaaGTx12
namespace Go.Proofs.Ytbdlehbaioaglaa.GT
open Go.RowKit Go.Proofs.YtbdlehbaioaglaaW.PrintWords Go.Proofs.YtbdlehbaioaglaaW.PrintLast Go.Proofs.YtbdlehbaioaglaaW.PrintMore
attribute [local go_sem] max2_int min2_int max_two min_two max_three min_three max_four min_four   -- for this text's walks alone
set_option linter.unusedVariables false
set_option linter.unusedSimpArgs false

/-! ### besomtop_TopTables: function 6 -/
mutual
def besomtop_TopTables.j2 : Nat → List Int → List Int → List Int → List (S105) → Option (Bool)
  | 0, _, _, _, _ => none
  | k + 1, x0, x1, x6, x200000 => (ephem_Del.f k x200000 x1).bind fun bt211 => ((weak_Clear.f k x6 x1).bind fun bt216 => (if bt211.2.2 = 0 then (if bt216.2.2 = 0 then (besomtop_TopTables.j3 k x0 x1 bt216.1 (bt211.2.1 != (bt216.2.1.length : Int)) bt211.1) else (besomtop_TopTables.j3 k x0 x1 bt216.1 true bt211.1)) else (besomtop_TopTables.j3 k x0 x1 bt216.1 true bt211.1)))
def besomtop_TopTables.j3 : Nat → List Int → List Int → List Int → Bool → List (S105) → Option (Bool)
  | 0, _, _, _, _, _ => none
  | k + 1, x0, x1, x6, x97, x200000 => if x97 = true then (some false) else (besomtop_TopTables.l1 k x1 x6 x0 (x0.length : Int) 0 x200000)
def besomtop_TopTables.l1 : Nat → List Int → List Int → List Int → Int → Int → List (S105) → Option (Bool)
  | 0, _, _, _, _, _, _ => none
  | k + 1, x1, x6, x98, x99, x100, x200000 => if x100 < x99 then (if 0 ≤ x100 then (if x100 < (x98.length : Int) then (if x100 = 25 then (some true) else ((ephem_Get.f k x200000 (rd x98 x100)).bind fun bt224 => ((weak_Handle.f k x6 (rd x98 x100)).bind fun bt226 => (if bt224.2 = bt226.2 then (if (rd x98 x100) = 0 then (besomtop_TopTables.l1 k x1 x6 x98 x99 (wrap64 (x100 + 1)) x200000) else ((besomtop_has.f k x1 (rd x98 x100)).bind fun t228 => (if (t228 == (bt224.2 == 0)) = true then (some false) else (besomtop_TopTables.l1 k x1 x6 x98 x99 (wrap64 (x100 + 1)) x200000)))) else (some false))))) else (none)) else (none)) else (some true)
def besomtop_TopTables.l0 : Nat → List Int → List Int → List Int → List Int → Int → Int → List (S105) → Option (Bool)
  | 0, _, _, _, _, _, _, _ => none
  | k + 1, x0, x1, x6, x27, x28, x29, x200000 => if x29 < x28 then (if 0 ≤ x29 then (if x29 < (x27.length : Int) then (if x29 = 25 then (besomtop_TopTables.j2 k x0 x1 x6 x200000) else ((ephem_Put.f k x200000 (rd x27 x29) (IntKind.u64.wrap (x29))).bind fun bt201 => ((weak_Make.f k x6 (rd x27 x29)).bind fun bt206 => (if (rd x27 x29) = 0 then (if bt201.2 = 7 then (besomtop_TopTables.j1 k x0 x1 x6 x27 x28 x29 (bt206.2.2 != 7) x200000) else (besomtop_TopTables.j1 k x0 x1 x6 x27 x28 x29 true x200000)) else (if bt201.2 = 0 then (if bt206.2.2 = 0 then (if bt206.2.1 < 1 then (some false) else (besomtop_TopTables.l0 k x0 x1 bt206.1 x27 x28 (wrap64 (x29 + 1)) bt201.1)) else (some false)) else (some false)))))) else (none)) else (none)) else (besomtop_TopTables.j2 k x0 x1 x6 x200000)
def besomtop_TopTables.j1 : Nat → List Int → List Int → List Int → List Int → Int → Int → Bool → List (S105) → Option (Bool)
  | 0, _, _, _, _, _, _, _, _ => none
  | k + 1, x0, x1, x6, x27, x28, x29, x58, x200000 => if x58 = true then (some false) else (besomtop_TopTables.l0 k x0 x1 x6 x27 x28 (wrap64 (x29 + 1)) x200000)
end
def besomtop_TopTables.f (k : Nat) (l0 : List Int) (l1 : List Int) : Option (Bool) := (besomtop_begins.f k).bind fun t198 => (if t198 = true then (besomtop_TopTables.l0 k l0 l1 ([] : List Int) l0 (l0.length : Int) 0 ([] : List (S105))) else (some false))
theorem besomtop_TopTables.mono_l : ∀ k, (∀ y0 y1 y2 y3, LeO (besomtop_TopTables.j2 k y0 y1 y2 y3) (besomtop_TopTables.j2 (k + 1) y0 y1 y2 y3)) ∧ (∀ y0 y1 y2 y3 y4, LeO (besomtop_TopTables.j3 k y0 y1 y2 y3 y4) (besomtop_TopTables.j3 (k + 1) y0 y1 y2 y3 y4)) ∧ (∀ y0 y1 y2 y3 y4 y5, LeO (besomtop_TopTables.l1 k y0 y1 y2 y3 y4 y5) (besomtop_TopTables.l1 (k + 1) y0 y1 y2 y3 y4 y5)) ∧ (∀ y0 y1 y2 y3 y4 y5 y6, LeO (besomtop_TopTables.l0 k y0 y1 y2 y3 y4 y5 y6) (besomtop_TopTables.l0 (k + 1) y0 y1 y2 y3 y4 y5 y6)) ∧ (∀ y0 y1 y2 y3 y4 y5 y6 y7, LeO (besomtop_TopTables.j1 k y0 y1 y2 y3 y4 y5 y6 y7) (besomtop_TopTables.j1 (k + 1) y0 y1 y2 y3 y4 y5 y6 y7))
  | 0 => ⟨fun _ _ _ _ r h => by simp [besomtop_TopTables.j2] at h, fun _ _ _ _ _ r h => by simp [besomtop_TopTables.j3] at h, fun _ _ _ _ _ _ r h => by simp [besomtop_TopTables.l1] at h, fun _ _ _ _ _ _ _ r h => by simp [besomtop_TopTables.l0] at h, fun _ _ _ _ _ _ _ _ r h => by simp [besomtop_TopTables.j1] at h⟩
  | k + 1 => by
    obtain ⟨ih0, ih1, ih2, ih3, ih4⟩ := besomtop_TopTables.mono_l k
    refine ⟨?_, ?_, ?_, ?_, ?_⟩
    · intro y0 y1 y2 y3
      unfold besomtop_TopTables.j2
      repeat' first
      | (with_reducible exact ih0 _ _ _ _)
      | (with_reducible exact ih1 _ _ _ _ _)
      | (with_reducible exact ih2 _ _ _ _ _ _)
      | (with_reducible exact ih3 _ _ _ _ _ _ _)
      | (with_reducible exact ih4 _ _ _ _ _ _ _ _)
      | (with_reducible exact besomtop_begins.mono _)
      | (with_reducible exact besomtop_has.mono _ _ _)
      | (with_reducible exact ephem_Del.mono _ _ _)
      | (with_reducible exact ephem_Get.mono _ _ _)
      | (with_reducible exact ephem_Put.mono _ _ _ _)
      | (with_reducible exact weak_Clear.mono _ _ _)
      | (with_reducible exact weak_Handle.mono _ _ _)
      | (with_reducible exact weak_Make.mono _ _ _)
      | (with_reducible exact LeO.refl _)
      | (with_reducible exact LeO.none _)
      | (with_reducible refine LeO.ite ?_ ?_)
      | (with_reducible refine LeO.bind ?_ (fun _ => ?_))
      | exact ih0 _ _ _ _
      | exact ih1 _ _ _ _ _
      | exact ih2 _ _ _ _ _ _
      | exact ih3 _ _ _ _ _ _ _
      | exact ih4 _ _ _ _ _ _ _ _
      | exact besomtop_begins.mono _
      | exact besomtop_has.mono _ _ _
      | exact ephem_Del.mono _ _ _
      | exact ephem_Get.mono _ _ _
      | exact ephem_Put.mono _ _ _ _
      | exact weak_Clear.mono _ _ _
      | exact weak_Handle.mono _ _ _
      | exact weak_Make.mono _ _ _
      | exact LeO.none _
      | refine LeO.ite ?_ ?_
      | refine LeO.bind ?_ (fun _ => ?_)
    · intro y0 y1 y2 y3 y4
      unfold besomtop_TopTables.j3
      repeat' first
      | (with_reducible exact ih0 _ _ _ _)
      | (with_reducible exact ih1 _ _ _ _ _)
      | (with_reducible exact ih2 _ _ _ _ _ _)
      | (with_reducible exact ih3 _ _ _ _ _ _ _)
      | (with_reducible exact ih4 _ _ _ _ _ _ _ _)
      | (with_reducible exact besomtop_begins.mono _)
      | (with_reducible exact besomtop_has.mono _ _ _)
      | (with_reducible exact ephem_Del.mono _ _ _)
      | (with_reducible exact ephem_Get.mono _ _ _)
      | (with_reducible exact ephem_Put.mono _ _ _ _)
      | (with_reducible exact weak_Clear.mono _ _ _)
      | (with_reducible exact weak_Handle.mono _ _ _)
      | (with_reducible exact weak_Make.mono _ _ _)
      | (with_reducible exact LeO.refl _)
      | (with_reducible exact LeO.none _)
      | (with_reducible refine LeO.ite ?_ ?_)
      | (with_reducible refine LeO.bind ?_ (fun _ => ?_))
      | exact ih0 _ _ _ _
      | exact ih1 _ _ _ _ _
      | exact ih2 _ _ _ _ _ _
      | exact ih3 _ _ _ _ _ _ _
      | exact ih4 _ _ _ _ _ _ _ _
      | exact besomtop_begins.mono _
      | exact besomtop_has.mono _ _ _
      | exact ephem_Del.mono _ _ _
      | exact ephem_Get.mono _ _ _
      | exact ephem_Put.mono _ _ _ _
      | exact weak_Clear.mono _ _ _
      | exact weak_Handle.mono _ _ _
      | exact weak_Make.mono _ _ _
      | exact LeO.none _
      | refine LeO.ite ?_ ?_
      | refine LeO.bind ?_ (fun _ => ?_)
    · intro y0 y1 y2 y3 y4 y5
      unfold besomtop_TopTables.l1
      repeat' first
      | (with_reducible exact ih0 _ _ _ _)
      | (with_reducible exact ih1 _ _ _ _ _)
      | (with_reducible exact ih2 _ _ _ _ _ _)
      | (with_reducible exact ih3 _ _ _ _ _ _ _)
      | (with_reducible exact ih4 _ _ _ _ _ _ _ _)
      | (with_reducible exact besomtop_begins.mono _)
      | (with_reducible exact besomtop_has.mono _ _ _)
      | (with_reducible exact ephem_Del.mono _ _ _)
      | (with_reducible exact ephem_Get.mono _ _ _)
      | (with_reducible exact ephem_Put.mono _ _ _ _)
      | (with_reducible exact weak_Clear.mono _ _ _)
      | (with_reducible exact weak_Handle.mono _ _ _)
      | (with_reducible exact weak_Make.mono _ _ _)
      | (with_reducible exact LeO.refl _)
      | (with_reducible exact LeO.none _)
      | (with_reducible refine LeO.ite ?_ ?_)
      | (with_reducible refine LeO.bind ?_ (fun _ => ?_))
      | exact ih0 _ _ _ _
      | exact ih1 _ _ _ _ _
      | exact ih2 _ _ _ _ _ _
      | exact ih3 _ _ _ _ _ _ _
      | exact ih4 _ _ _ _ _ _ _ _
      | exact besomtop_begins.mono _
      | exact besomtop_has.mono _ _ _
      | exact ephem_Del.mono _ _ _
      | exact ephem_Get.mono _ _ _
      | exact ephem_Put.mono _ _ _ _
      | exact weak_Clear.mono _ _ _
      | exact weak_Handle.mono _ _ _
      | exact weak_Make.mono _ _ _
      | exact LeO.none _
      | refine LeO.ite ?_ ?_
      | refine LeO.bind ?_ (fun _ => ?_)
    · intro y0 y1 y2 y3 y4 y5 y6
      unfold besomtop_TopTables.l0
      repeat' first
      | (with_reducible exact ih0 _ _ _ _)
      | (with_reducible exact ih1 _ _ _ _ _)
      | (with_reducible exact ih2 _ _ _ _ _ _)
      | (with_reducible exact ih3 _ _ _ _ _ _ _)
      | (with_reducible exact ih4 _ _ _ _ _ _ _ _)
      | (with_reducible exact besomtop_begins.mono _)
      | (with_reducible exact besomtop_has.mono _ _ _)
      | (with_reducible exact ephem_Del.mono _ _ _)
      | (with_reducible exact ephem_Get.mono _ _ _)
      | (with_reducible exact ephem_Put.mono _ _ _ _)
      | (with_reducible exact weak_Clear.mono _ _ _)
      | (with_reducible exact weak_Handle.mono _ _ _)
      | (with_reducible exact weak_Make.mono _ _ _)
      | (with_reducible exact LeO.refl _)
      | (with_reducible exact LeO.none _)
      | (with_reducible refine LeO.ite ?_ ?_)
      | (with_reducible refine LeO.bind ?_ (fun _ => ?_))
      | exact ih0 _ _ _ _
      | exact ih1 _ _ _ _ _
      | exact ih2 _ _ _ _ _ _
      | exact ih3 _ _ _ _ _ _ _
      | exact ih4 _ _ _ _ _ _ _ _
      | exact besomtop_begins.mono _
      | exact besomtop_has.mono _ _ _
      | exact ephem_Del.mono _ _ _
      | exact ephem_Get.mono _ _ _
      | exact ephem_Put.mono _ _ _ _
      | exact weak_Clear.mono _ _ _
      | exact weak_Handle.mono _ _ _
      | exact weak_Make.mono _ _ _
      | exact LeO.none _
      | refine LeO.ite ?_ ?_
      | refine LeO.bind ?_ (fun _ => ?_)
    · intro y0 y1 y2 y3 y4 y5 y6 y7
      unfold besomtop_TopTables.j1
      repeat' first
      | (with_reducible exact ih0 _ _ _ _)
      | (with_reducible exact ih1 _ _ _ _ _)
      | (with_reducible exact ih2 _ _ _ _ _ _)
      | (with_reducible exact ih3 _ _ _ _ _ _ _)
      | (with_reducible exact ih4 _ _ _ _ _ _ _ _)
      | (with_reducible exact besomtop_begins.mono _)
      | (with_reducible exact besomtop_has.mono _ _ _)
      | (with_reducible exact ephem_Del.mono _ _ _)
      | (with_reducible exact ephem_Get.mono _ _ _)
      | (with_reducible exact ephem_Put.mono _ _ _ _)
      | (with_reducible exact weak_Clear.mono _ _ _)
      | (with_reducible exact weak_Handle.mono _ _ _)
      | (with_reducible exact weak_Make.mono _ _ _)
      | (with_reducible exact LeO.refl _)
      | (with_reducible exact LeO.none _)
      | (with_reducible refine LeO.ite ?_ ?_)
      | (with_reducible refine LeO.bind ?_ (fun _ => ?_))
      | exact ih0 _ _ _ _
      | exact ih1 _ _ _ _ _
      | exact ih2 _ _ _ _ _ _
      | exact ih3 _ _ _ _ _ _ _
      | exact ih4 _ _ _ _ _ _ _ _
      | exact besomtop_begins.mono _
      | exact besomtop_has.mono _ _ _
      | exact ephem_Del.mono _ _ _
      | exact ephem_Get.mono _ _ _
      | exact ephem_Put.mono _ _ _ _
      | exact weak_Clear.mono _ _ _
      | exact weak_Handle.mono _ _ _
      | exact weak_Make.mono _ _ _
      | exact LeO.none _
      | refine LeO.ite ?_ ?_
      | refine LeO.bind ?_ (fun _ => ?_)
theorem besomtop_TopTables.mono : ∀ a0 a1 k, LeO (besomtop_TopTables.f k a0 a1) (besomtop_TopTables.f (k + 1) a0 a1) := by
  intro a0 a1 k
  obtain ⟨ih0, ih1, ih2, ih3, ih4⟩ := besomtop_TopTables.mono_l k
  unfold besomtop_TopTables.f
  repeat' first
      | (with_reducible exact ih0 _ _ _ _)
      | (with_reducible exact ih1 _ _ _ _ _)
      | (with_reducible exact ih2 _ _ _ _ _ _)
      | (with_reducible exact ih3 _ _ _ _ _ _ _)
      | (with_reducible exact ih4 _ _ _ _ _ _ _ _)
      | (with_reducible exact besomtop_begins.mono _)
      | (with_reducible exact besomtop_has.mono _ _ _)
      | (with_reducible exact ephem_Del.mono _ _ _)
      | (with_reducible exact ephem_Get.mono _ _ _)
      | (with_reducible exact ephem_Put.mono _ _ _ _)
      | (with_reducible exact weak_Clear.mono _ _ _)
      | (with_reducible exact weak_Handle.mono _ _ _)
      | (with_reducible exact weak_Make.mono _ _ _)
      | (with_reducible exact LeO.refl _)
      | (with_reducible exact LeO.none _)
      | (with_reducible refine LeO.ite ?_ ?_)
      | (with_reducible refine LeO.bind ?_ (fun _ => ?_))
      | exact ih0 _ _ _ _
      | exact ih1 _ _ _ _ _
      | exact ih2 _ _ _ _ _ _
      | exact ih3 _ _ _ _ _ _ _
      | exact ih4 _ _ _ _ _ _ _ _
      | exact besomtop_begins.mono _
      | exact besomtop_has.mono _ _ _
      | exact ephem_Del.mono _ _ _
      | exact ephem_Get.mono _ _ _
      | exact ephem_Put.mono _ _ _ _
      | exact weak_Clear.mono _ _ _
      | exact weak_Handle.mono _ _ _
      | exact weak_Make.mono _ _ _
      | exact LeO.none _
      | refine LeO.ite ?_ ?_
      | refine LeO.bind ?_ (fun _ => ?_)
set_option maxHeartbeats 8000000 in
set_option maxRecDepth 100000 in
theorem besomtop_TopTables.calls (k : Nat) (A0 : Option Addr) (c0 : Nat) (l0 : List Int) (A1 : Option Addr) (c1 : Nat) (l1 : List Int) (r : Bool) (w : World) (hr0 : Kd.C (Kd.int .u64) w A0 l0.length l0) (hc0 : l0.length ≤ c0) (hr1 : Kd.C (Kd.int .u64) w A1 l1.length l1) (hc1 : l1.length ≤ c1) (hlaw : r = true) (h : besomtop_TopTables.f k l0 l1 = some r) :
    Calls Try.prog 6 #[.slice A0 l0.length c0, .slice A1 l1.length c1] w fun e w' => e = .returned (.bool r) ∧ Below w.heap.size w w' := by
  have hu64 := Try.underlying64
  have HR0 := Aside0.mk hr0
  have HC0 := Aside0.mk hc0
  clear hr0 hc0
  have HR1 := Aside0.mk hr1
  have HC1 := Aside0.mk hc1
  clear hr1 hc1
  have HB := Aside0.mk (Below.refl w.heap.size w)
  have H : ((besomtop_begins.f k).bind fun t198 => (if t198 = true then (besomtop_TopTables.l0 k l0 l1 ([] : List Int) l0 (l0.length : Int) 0 ([] : List (S105))) else (some false))) = some r := h
  clear h
  have HLAW := Aside0.mk hlaw
  clear hlaw
  replace H := Option.bind_eq_some_iff.mp H
  obtain ⟨t198, A30, H⟩ := H
  replace H : (if t198 = true then (besomtop_TopTables.l0 k l0 l1 ([] : List Int) l0 (l0.length : Int) 0 ([] : List (S105))) else (some false)) = some r := H
  have A3 := Aside0.mk A30
  clear A30
  by_cases c4 : t198 = true
  · subst c4
    have H1 : (besomtop_TopTables.l0 k l0 l1 ([] : List Int) l0 (l0.length : Int) 0 ([] : List (S105))) = some r := by rw [if_pos rfl] at H; exact H
    clear H
    have H := H1
    clear H1
    have HC5 := Aside0.mk H
    clear H
    go_enter Try.func6, Try.ntmps6
    go_upto_block 0 with (first | ((with_reducible refine gate_callee (f := 14) rfl ?_); refine goesL_ (some 24) rfl rfl Try.func14 (by kernel_rfl) rfl #[] rfl (by (try simp only [List.map_toArray, List.map_cons, List.map_nil]); first | done | rfl | (simp only [List.length_drop, List.length_take]; rfl)) ?_; (with_reducible refine (besomtop_begins.calls k  true _ A3.out).mono ?_); rintro e w6 ⟨rfl, hb⟩; refine ⟨_, rfl, ?_⟩; have n0_ := Aside0.mk (below_step (by repeat (first | (with_reducible first | exact HB.out | apply below_alloc | apply pw_below_drewN | apply below_drew1) | exact HB.out)) hb); clear HB; have HB := n0_; clear n0_; (try clear hb); (try clear hb2); (try clear hk); (try clear hi)) | ((with_reducible refine gate_dst (N := 5) rfl ?_); (try (refine gate_guard (by rfl) ?_; dsimp only)); refine box_event ?hg (N := 5) ?hd (cs := #[.slice none 0 0]) (t := 64) ?hr ?_; (case hd => rfl); (case hg => rfl); (case hr => first | (go_simp; done) | (go_simp; rfl)); intro gb199 hg w7 hbox hb; have n0_ := Aside0.mk (below_step (by repeat (first | (with_reducible first | exact HB.out | apply below_alloc | apply pw_below_drewN | apply below_drew1) | exact HB.out)) hb); have n1_ := Aside0.mk (hbox); have n2_ := Aside0.mk ((by rw [hg]; exact (below_size (by repeat (first | (with_reducible first | exact HB.out | apply below_alloc | apply pw_below_drewN | apply below_drew1) | exact HB.out))) : w.heap.size ≤ gb199)); have n3_ := Aside0.mk ((by rw [hg]; exact (below_size (by repeat (first | (with_reducible first | exact HB.out | apply below_alloc | apply pw_below_drewN | apply below_drew1) | exact HB.out))) : w.heap.size ≤ gb199)); clear HB; have HB := n0_; have BK199 := n1_; have GW199 := n2_; have GE199 := n3_; clear n0_ n1_ n2_ n3_; clear hb hbox hg; have hcz8_0 : w7.cell? ⟨gb199, 0, none⟩ = some (.slice none 0 0) := (blk_cell BK199.out 0).trans rfl; have hfz8_0 := blk_frozen BK199.out 0))
    (try simp only [Act.put, List.setIfInBounds_toArray, List.set_cons_zero, List.set_cons_succ])
    go_cut [6] (fun v6 wc => ∃ (kq : Nat) (x6_4 : List Int) (x200000_4 : List (S105)) (u200000 : Value), Aside0 (besomtop_TopTables.j2 kq l0 l1 x6_4 x200000_4 = some r) ∧ Aside0 (kq ≤ k) ∧ Aside0 (Kd.R (Kd.int .u64) 25 wc w.heap.size (fun _ => True) v6 x6_4) ∧ Aside0 (Kd.R k105 105 wc w.heap.size (fun _ => True) u200000 x200000_4) ∧ Aside0 (wc.heap[gb199]? = some (.cells #[u200000] 64 (0, 0))) ∧ Aside0 (Below w.heap.size w wc))
    case first =>
      have H := HC5.out
      clear HC5
      have H' := Aside0.mk H
      clear H
      go_wp2
      go_loopg [6, 29] k (fun kq v6 v29 w' => ∃ (x6_1 : List Int) (x29_1 : Int) (x200000_1 : List (S105)) (u200000 : Value), v29 = .int .i64 x29_1 ∧ Aside0 (besomtop_TopTables.l0 kq l0 l1 x6_1 l0 (l0.length : Int) x29_1 x200000_1 = some r) ∧ Aside0 (kq ≤ k) ∧ Aside0 (Kd.R (Kd.int .u64) 25 w' w.heap.size (fun _ => True) v6 x6_1) ∧ Aside0 (Kd.R k105 105 w' w.heap.size (fun _ => True) u200000 x200000_1) ∧ Aside0 (w'.heap[gb199]? = some (.cells #[u200000] 64 (0, 0))) ∧ Aside0 (Below w.heap.size w w'))
      case atStart => exact ⟨(([] : List Int)), (0), (([] : List (S105))), (.slice none 0 0), (by first | rfl | (simp; done) | (simp [*]; done)), H', ⟨Nat.le_refl _⟩, ⟨by first | exact Kd.R_nil _ _ _ _ _ | exact Kd.N_nil _ _ _ _ _ | exact Kd.V_nil _ _ _ _ _ | exact Kd.Q_nil _ _ _ _ _ | exact Kd.S_nil _ _ _ _ _⟩, ⟨by first | exact Kd.R_nil _ _ _ _ _ | exact Kd.N_nil _ _ _ _ _ | exact Kd.V_nil _ _ _ _ _ | exact Kd.Q_nil _ _ _ _ _ | exact Kd.S_nil _ _ _ _ _⟩, ⟨by (with_reducible repeat (first | refine blk_drewN ?_ _ | refine blk_drew ?_ | refine blk_alloc ?_ _)); refine blk_put (cs := #[.slice none 0 0]) ?_ 0 _ rfl; (with_reducible repeat (first | refine blk_drewN ?_ _ | refine blk_drew ?_ | refine blk_alloc ?_ _)); exact BK199.out⟩, ⟨by repeat (first | (with_reducible first | exact HB.out | apply below_alloc | apply pw_below_drewN | apply below_drew1 | refine below_set ?_ GE199.out) | exact HB.out)⟩⟩
      case round =>
        clear H'
        try clear c1
        try clear p2
        try clear c4
        try clear c6
        try clear hcz8_0
        try clear hfz8_0
        obtain ⟨x6_1, x29_1, x200000_1, u200000, rfl, HA, HK1, HO_6, HO_200000, BK199, HB⟩ := hrel
        cases gk with
        | zero => exact absurd HA.out (by simp [besomtop_TopTables.l0])
        | succ k1 =>
          have H := HA.out
          clear HA
          simp only [besomtop_TopTables.l0] at H
          by_cases c9 : x29_1 < (l0.length : Int)
          · rw [if_pos c9] at H
            have c9b0 : decide (x29_1 < (l0.length : Int)) = true := decide_eq_true c9
            clear c9
            (first | rw [c9b0] | (simp only [i64_w, i32_w]; rw [c9b0]) | skip)
            by_cases c10 : 0 ≤ x29_1
            · rw [if_pos c10] at H
              have c10b0 : decide (0 ≤ x29_1) = true := decide_eq_true c10
              clear c10
              by_cases c11 : x29_1 < (l0.length : Int)
              · rw [if_pos c11] at H
                have c11b0 : decide (x29_1 < (l0.length : Int)) = true := decide_eq_true c11
                clear c11
                by_cases c12 : x29_1 = 25
                · rw [if_pos c12] at H
                  have c12b0 : (x29_1 == 25) = true := beq_iff_eq.mpr c12
                  have c12b1 : (x29_1 != 25) = false := bne_eq_false_iff_eq.mpr c12
                  clear c12
                  have H' := Aside0.mk H
                  clear H
                  have p200 : 0 ≤ (x29_1 : Int) := of_decide_eq_true (by first | (with_reducible assumption) | assumption)
                  have q200 : x29_1 < (l0.length : Int) := of_decide_eq_true (by first | (with_reducible assumption) | assumption)
                  obtain ⟨ad200, e200, hx200_0⟩ := Kd.at_int HR0.out x29_1 p200 q200
                  cases e200
                  replace hx200_0 := (HB.out.cell (World.block_lt_of_cell? w _ hx200_0)).trans hx200_0
                  replace p200 := eq_true p200
                  replace q200 := eq_true q200
                  go_wp2
                  go_meet
                  case rel => exact ⟨_, (x6_1), (x200000_1), (u200000), H', ⟨by have := HK1.out; first | omega | exact Nat.le_refl _⟩, ⟨by (with_reducible repeat (first | apply Kd.R_alloc | apply Kd.R_drewN | apply Kd.R_drew)); exact HO_6.out⟩, ⟨by (with_reducible repeat (first | apply Kd.R_alloc | apply Kd.R_drewN | apply Kd.R_drew)); exact HO_200000.out⟩, ⟨by (with_reducible repeat (first | refine blk_drewN ?_ _ | refine blk_drew ?_ | refine blk_alloc ?_ _)); exact BK199.out⟩, ⟨by repeat (first | (with_reducible first | exact HB.out | apply below_alloc | apply pw_below_drewN | apply below_drew1 | refine below_set ?_ GE199.out) | exact HB.out)⟩⟩
                · rw [if_neg c12] at H
                  have c12b0 : (x29_1 == 25) = false := beq_eq_false_iff_ne.mpr c12
                  have c12b1 : (x29_1 != 25) = true := bne_iff_ne.mpr c12
                  replace H := Option.bind_eq_some_iff.mp H
                  obtain ⟨⟨t201, t204⟩, A130, H⟩ := H
                  replace H : ((weak_Make.f k1 x6_1 (rd l0 x29_1)).bind fun bt206 => (if (rd l0 x29_1) = 0 then (if t204 = 7 then (besomtop_TopTables.j1 k1 l0 l1 x6_1 l0 (l0.length : Int) x29_1 (bt206.2.2 != 7) x200000_1) else (besomtop_TopTables.j1 k1 l0 l1 x6_1 l0 (l0.length : Int) x29_1 true x200000_1)) else (if t204 = 0 then (if bt206.2.2 = 0 then (if bt206.2.1 < 1 then (some false) else (besomtop_TopTables.l0 k1 l0 l1 bt206.1 l0 (l0.length : Int) (wrap64 (x29_1 + 1)) t201)) else (some false)) else (some false)))) = some r := H
                  have A13 := Aside0.mk A130
                  clear A130
                  replace H := Option.bind_eq_some_iff.mp H
                  obtain ⟨⟨t206, t207, t208⟩, A140, H⟩ := H
                  replace H : (if (rd l0 x29_1) = 0 then (if t204 = 7 then (besomtop_TopTables.j1 k1 l0 l1 x6_1 l0 (l0.length : Int) x29_1 (t208 != 7) x200000_1) else (besomtop_TopTables.j1 k1 l0 l1 x6_1 l0 (l0.length : Int) x29_1 true x200000_1)) else (if t204 = 0 then (if t208 = 0 then (if t207 < 1 then (some false) else (besomtop_TopTables.l0 k1 l0 l1 t206 l0 (l0.length : Int) (wrap64 (x29_1 + 1)) t201)) else (some false)) else (some false))) = some r := H
                  have A14 := Aside0.mk A140
                  clear A140
                  by_cases c15 : (rd l0 x29_1) = 0
                  · rw [if_pos c15] at H
                    have c15b0 : ((rd l0 x29_1) == 0) = true := beq_iff_eq.mpr c15
                    have c15b1 : ((rd l0 x29_1) != 0) = false := bne_eq_false_iff_eq.mpr c15
                    clear c15
                    have HC16 := Aside0.mk H
                    clear H
                    have p200 : 0 ≤ (x29_1 : Int) := of_decide_eq_true (by first | (with_reducible assumption) | assumption)
                    have q200 : x29_1 < (l0.length : Int) := of_decide_eq_true (by first | (with_reducible assumption) | assumption)
                    obtain ⟨ad200, e200, hx200_0⟩ := Kd.at_int HR0.out x29_1 p200 q200
                    cases e200
                    replace hx200_0 := (HB.out.cell (World.block_lt_of_cell? w _ hx200_0)).trans hx200_0
                    replace p200 := eq_true p200
                    replace q200 := eq_true q200
                    have hcz17_0 : wr.cell? ⟨gb199, 0, none⟩ = some (u200000) := (blk_cell BK199.out 0).trans rfl
                    have hfz17_0 := blk_frozen BK199.out 0
                    obtain ⟨Ao18, co18, eo18⟩ := Kd.R_slice HO_200000.out
                    subst eo18
                    go_upto_region 12 with (first | ((with_reducible refine gate_callee (f := 24) rfl ?_); refine goesL_ (some 41) rfl rfl Try.func24 (by kernel_rfl) rfl #[.agg #[.slice Ao18 x200000_1.length co18], .int .u64 (rd l0 x29_1), .int .u64 (IntKind.u64.wrap (x29_1))] rfl (by (try simp only [List.map_toArray, List.map_cons, List.map_nil]); first | done | rfl | (simp only [List.length_drop, List.length_take]; rfl)) ?_; (with_reducible refine (ephem_Put.calls k1 _ _ x200000_1 (rd l0 x29_1) (IntKind.u64.wrap (x29_1)) t201 t204 _ ?side1 ?side2 A13.out).mono ?_); (case side1 => repeat (first | exact (Kd.R_reads' HO_200000.out).2.2 | (with_reducible refine Kd.C_alloc ?_ _) | (with_reducible refine Kd.C_drewN ?_ _) | (with_reducible refine Kd.C_drew ?_))); (case side2 => exact (Kd.R_reads' HO_200000.out).2.1); rintro e w19 ⟨v202, rfl, ho0, hb⟩; refine ⟨_, rfl, ?_⟩; have n0_ := Aside0.mk (Kd.R_below (by (with_reducible repeat (first | apply Kd.R_alloc | apply Kd.R_drewN | apply Kd.R_drew)); exact HO_6.out) hb); have n1_ := Aside0.mk (Kd.R_elder' (by (with_reducible repeat (first | apply Kd.R_alloc | apply Kd.R_drewN | apply Kd.R_drew)); exact HO_200000.out) (Kd.R_base ho0) hb); have n2_ := Aside0.mk (Kd.R_lower (Kd.R_new' ho0 (Kd.R_lt (by (with_reducible repeat (first | apply Kd.R_alloc | apply Kd.R_drewN | apply Kd.R_drew)); exact HO_200000.out))) (below_size (by repeat (first | (with_reducible first | exact HB.out | apply below_alloc | apply pw_below_drewN | apply below_drew1 | refine below_set ?_ GE199.out) | exact HB.out)))); have n3_ := Aside0.mk (blk_below (g := gb199) (o := .cells #[.slice Ao18 x200000_1.length co18] 64 (0, 0)) (by (with_reducible repeat (first | refine blk_drewN ?_ _ | refine blk_drew ?_ | refine blk_alloc ?_ _)); exact BK199.out) hb); have n4_ := Aside0.mk (below_step (by repeat (first | (with_reducible first | exact HB.out | apply below_alloc | apply pw_below_drewN | apply below_drew1 | refine below_set ?_ GE199.out) | exact HB.out)) hb); clear HO_6; clear HO_200000; clear BK199; clear HB; have HO_6 := n0_; have HO_200000 := n1_; have HO203 := n2_; have BK199 := n3_; have HB := n4_; clear n0_ n1_ n2_ n3_ n4_; (try clear hb); (try clear hb2); (try clear hk); (try clear hi); (try clear ho0)) | ((with_reducible refine gate_dst (N := 9) rfl ?_); (try (refine gate_guard (by rfl) ?_; dsimp only)); refine box_event ?hg (N := 9) ?hd (cs := #[.slice none 0 0]) (t := 64) ?hr ?_; (case hd => rfl); (case hg => rfl); (case hr => first | (go_simp; done) | (go_simp; rfl)); intro gb205 hg w20 hbox hb; have n0_ := Aside0.mk (Kd.R_below (by (with_reducible repeat (first | apply Kd.R_alloc | apply Kd.R_drewN | apply Kd.R_drew)); exact HO_6.out) hb); have n1_ := Aside0.mk (Kd.R_below (by (with_reducible repeat (first | apply Kd.R_alloc | apply Kd.R_drewN | apply Kd.R_drew)); exact HO_200000.out) hb); have n2_ := Aside0.mk (Kd.R_below (by (with_reducible repeat (first | apply Kd.R_alloc | apply Kd.R_drewN | apply Kd.R_drew)); exact HO203.out) hb); have n3_ := Aside0.mk (blk_below (g := gb199) (o := .cells #[.slice Ao18 x200000_1.length co18] 64 (0, 0)) (by (with_reducible repeat (first | refine blk_drewN ?_ _ | refine blk_drew ?_ | refine blk_alloc ?_ _)); exact BK199.out) hb); have n4_ := Aside0.mk (below_step (by repeat (first | (with_reducible first | exact HB.out | apply below_alloc | apply pw_below_drewN | apply below_drew1 | refine below_set ?_ GE199.out) | exact HB.out)) hb); have n5_ := Aside0.mk (hbox); have n6_ := Aside0.mk ((by rw [hg]; exact (below_size (by repeat (first | (with_reducible first | exact HB.out | apply below_alloc | apply pw_below_drewN | apply below_drew1 | refine below_set ?_ GE199.out) | exact HB.out))) : w.heap.size ≤ gb205)); have n7_ := Aside0.mk ((by rw [hg]; exact (below_size (by repeat (first | (with_reducible first | exact HB.out | apply below_alloc | apply pw_below_drewN | apply below_drew1 | refine below_set ?_ GE199.out) | exact HB.out))) : w.heap.size ≤ gb205)); have n8_ := Aside0.mk ((by rw [hg]; exact Nat.ne_of_lt (blk_lt (g := gb199) (o := .cells #[.slice Ao18 x200000_1.length co18] 64 (0, 0)) (by (with_reducible repeat (first | refine blk_drewN ?_ _ | refine blk_drew ?_ | refine blk_alloc ?_ _)); exact BK199.out)) : gb199 ≠ gb205)); have n9_ := Aside0.mk ((by rw [hg]; exact Nat.ne_of_gt (blk_lt (g := gb199) (o := .cells #[.slice Ao18 x200000_1.length co18] 64 (0, 0)) (by (with_reducible repeat (first | refine blk_drewN ?_ _ | refine blk_drew ?_ | refine blk_alloc ?_ _)); exact BK199.out)) : gb205 ≠ gb199)); clear HO_6; clear HO_200000; clear HO203; clear BK199; clear HB; have HO_6 := n0_; have HO_200000 := n1_; have HO203 := n2_; have BK199 := n3_; have HB := n4_; have BK205 := n5_; have GW205 := n6_; have GE205 := n7_; have NB199_205 := n8_; have NB205_199 := n9_; clear n0_ n1_ n2_ n3_ n4_ n5_ n6_ n7_ n8_ n9_; clear hb hbox hg; obtain ⟨Ao21, co21, eo21⟩ := Kd.R_slice HO203.out; subst eo21; have hnb22 := NB205_199.out; have hnc22 := NB199_205.out; have hcz23_0 : w20.cell? ⟨gb205, 0, none⟩ = some (.slice none 0 0) := (blk_cell BK205.out 0).trans rfl; have hfz23_0 := blk_frozen BK205.out 0; obtain ⟨Ao24, co24, eo24⟩ := Kd.R_slice HO_6.out; subst eo24) | ((with_reducible refine gate_callee (f := 10) rfl ?_); refine goesL_ (some 47) rfl rfl Try.func10 (by kernel_rfl) rfl #[.slice Ao24 x6_1.length co24, .int .u64 (rd l0 x29_1)] rfl (by (try simp only [List.map_toArray, List.map_cons, List.map_nil]); first | done | rfl | (simp only [List.length_drop, List.length_take]; rfl)) ?_; (with_reducible refine (weak_Make.calls k1 _ _ x6_1 (rd l0 x29_1) t206 t207 t208 _ ?side1 ?side2 A14.out).mono ?_); (case side1 => refine (Kd.R_reads' (e := 25) (base := w.heap.size) (ok := fun k_ => True) (n := x6_1.length) (c := co24) ?_).2.2; exact (by (with_reducible repeat (first | apply Kd.R_alloc | apply Kd.R_drewN | apply Kd.R_drew)); exact (Kd.R_mono (Kd.R_far (p := ⟨gb205, 0, none⟩) (Kd.R_types HO_6.out BK205.out (by decide)) (fun _ hk => hk.2) (.slice Ao21 t201.length co21)) (fun _ h_ => h_.1)))); (case side2 => exact (Kd.R_reads' HO_6.out).2.1); rintro e w25 ⟨v209, rfl, ho0, hb⟩; refine ⟨_, rfl, ?_⟩; have n0_ := Aside0.mk (Kd.R_elder' (by (with_reducible repeat (first | apply Kd.R_alloc | apply Kd.R_drewN | apply Kd.R_drew)); exact (Kd.R_mono (Kd.R_far (p := ⟨gb205, 0, none⟩) (Kd.R_types HO_6.out BK205.out (by decide)) (fun _ hk => hk.2) (.slice Ao21 t201.length co21)) (fun _ h_ => h_.1))) (Kd.R_base ho0) hb); have n1_ := Aside0.mk (Kd.R_below (by (with_reducible repeat (first | apply Kd.R_alloc | apply Kd.R_drewN | apply Kd.R_drew)); exact (Kd.R_mono (Kd.R_far (p := ⟨gb205, 0, none⟩) (Kd.R_types HO_200000.out BK205.out (by decide)) (fun _ hk => hk.2) (.slice Ao21 t201.length co21)) (fun _ h_ => h_.1))) hb); have n2_ := Aside0.mk (Kd.R_below (by (with_reducible repeat (first | apply Kd.R_alloc | apply Kd.R_drewN | apply Kd.R_drew)); exact (Kd.R_mono (Kd.R_far (p := ⟨gb205, 0, none⟩) (Kd.R_types HO203.out BK205.out (by decide)) (fun _ hk => hk.2) (.slice Ao21 t201.length co21)) (fun _ h_ => h_.1))) hb); have n3_ := Aside0.mk (Kd.R_lower (Kd.R_new' ho0 (Kd.R_lt (by (with_reducible repeat (first | apply Kd.R_alloc | apply Kd.R_drewN | apply Kd.R_drew)); exact (Kd.R_mono (Kd.R_far (p := ⟨gb205, 0, none⟩) (Kd.R_types HO_6.out BK205.out (by decide)) (fun _ hk => hk.2) (.slice Ao21 t201.length co21)) (fun _ h_ => h_.1))))) (below_size (by repeat (first | (with_reducible first | exact HB.out | apply below_alloc | apply pw_below_drewN | apply below_drew1 | refine below_set ?_ GE199.out | refine below_set ?_ GE205.out) | exact HB.out)))); have n4_ := Aside0.mk (blk_below (g := gb199) (o := .cells #[.slice Ao18 x200000_1.length co18] 64 (0, 0)) (by (with_reducible repeat (first | refine blk_drewN ?_ _ | refine blk_drew ?_ | refine blk_alloc ?_ _)); refine blk_far ?_ NB199_205.out _; (with_reducible repeat (first | refine blk_drewN ?_ _ | refine blk_drew ?_ | refine blk_alloc ?_ _)); exact BK199.out) hb); have n5_ := Aside0.mk (blk_below (g := gb205) (o := .cells #[.slice Ao21 t201.length co21] 64 (0, 0)) (by (with_reducible repeat (first | refine blk_drewN ?_ _ | refine blk_drew ?_ | refine blk_alloc ?_ _)); refine blk_put (cs := #[.slice none 0 0]) ?_ 0 _ rfl; (with_reducible repeat (first | refine blk_drewN ?_ _ | refine blk_drew ?_ | refine blk_alloc ?_ _)); exact BK205.out) hb); have n6_ := Aside0.mk (below_step (by repeat (first | (with_reducible first | exact HB.out | apply below_alloc | apply pw_below_drewN | apply below_drew1 | refine below_set ?_ GE199.out | refine below_set ?_ GE205.out) | exact HB.out)) hb); clear HO_6; clear HO_200000; clear HO203; clear BK199; clear BK205; clear HB; have HO_6 := n0_; have HO_200000 := n1_; have HO203 := n2_; have HO210 := n3_; have BK199 := n4_; have BK205 := n5_; have HB := n6_; clear n0_ n1_ n2_ n3_ n4_ n5_ n6_; (try clear hb); (try clear hb2); (try clear hk); (try clear hi); (try clear ho0)))
                    (try simp only [Act.put, List.setIfInBounds_toArray, List.set_cons_zero, List.set_cons_succ])
                    go_cut [58] (fun v58 wc => ∃ (kq : Nat) (x58_15 : Bool), v58 = .bool x58_15 ∧ Aside0 (besomtop_TopTables.j1 kq l0 l1 x6_1 l0 (l0.length : Int) x29_1 x58_15 x200000_1 = some r) ∧ Aside0 (kq ≤ k1) ∧ Aside0 (Kd.R (Kd.int .u64) 25 wc w.heap.size (fun _ => True) (.slice Ao24 x6_1.length co24) x6_1) ∧ Aside0 (Kd.R k105 105 wc w.heap.size (fun k_ => some k_ ≠ ((.slice Ao21 t201.length co21) : Value).ownBlock) (.slice Ao18 x200000_1.length co18) x200000_1) ∧ Aside0 (Kd.R k105 105 wc w.heap.size (fun k_ => some k_ ≠ ((.slice Ao18 x200000_1.length co18) : Value).ownBlock) (.slice Ao21 t201.length co21) t201) ∧ Aside0 (wc.heap[gb199]? = some (.cells #[(.slice Ao18 x200000_1.length co18)] 64 (0, 0))) ∧ Aside0 (wc.heap[gb205]? = some (.cells #[(.slice Ao21 t201.length co21)] 64 (0, 0))) ∧ Aside0 (Below w.heap.size w wc))
                    case first =>
                      have H := HC16.out
                      clear HC16
                      by_cases c26 : t204 = 7
                      · rw [if_pos c26] at H
                        have c26b0 : (t204 == 7) = true := beq_iff_eq.mpr c26
                        have c26b1 : (t204 != 7) = false := bne_eq_false_iff_eq.mpr c26
                        clear c26
                        (first | rw [c26b0] | (simp only [i64_w, i32_w]; rw [c26b0]) | skip)
                        have H' := Aside0.mk H
                        clear H
                        go_wp2
                        go_meet
                        case rel => exact ⟨_, ((t208 != 7)), (by first | rfl | (simp; done) | (simp [*]; done)), H', ⟨by have := HK1.out; first | omega | exact Nat.le_refl _⟩, ⟨by (with_reducible repeat (first | apply Kd.R_alloc | apply Kd.R_drewN | apply Kd.R_drew)); exact Kd.R_mono HO_6.out (fun _ hk => trivial)⟩, ⟨by (with_reducible repeat (first | apply Kd.R_alloc | apply Kd.R_drewN | apply Kd.R_drew)); exact Kd.R_mono HO_200000.out (fun _ hk => hk.2)⟩, ⟨by (with_reducible repeat (first | apply Kd.R_alloc | apply Kd.R_drewN | apply Kd.R_drew)); exact Kd.R_mono HO203.out (fun _ hk => hk.2)⟩, ⟨by (with_reducible repeat (first | refine blk_drewN ?_ _ | refine blk_drew ?_ | refine blk_alloc ?_ _)); exact BK199.out⟩, ⟨by (with_reducible repeat (first | refine blk_drewN ?_ _ | refine blk_drew ?_ | refine blk_alloc ?_ _)); exact BK205.out⟩, ⟨by repeat (first | (with_reducible first | exact HB.out | apply below_alloc | apply pw_below_drewN | apply below_drew1 | refine below_set ?_ GE199.out | refine below_set ?_ GE205.out) | exact HB.out)⟩⟩
                      · rw [if_neg c26] at H
                        have c26b0 : (t204 == 7) = false := beq_eq_false_iff_ne.mpr c26
                        have c26b1 : (t204 != 7) = true := bne_iff_ne.mpr c26
                        (first | rw [c26b0] | (simp only [i64_w, i32_w]; rw [c26b0]) | skip)
                        have H' := Aside0.mk H
                        clear H
                        go_wp2
                        go_meet
                        case rel => exact ⟨_, (true), (by first | rfl | (simp; done) | (simp [*]; done)), H', ⟨by have := HK1.out; first | omega | exact Nat.le_refl _⟩, ⟨by (with_reducible repeat (first | apply Kd.R_alloc | apply Kd.R_drewN | apply Kd.R_drew)); exact Kd.R_mono HO_6.out (fun _ hk => trivial)⟩, ⟨by (with_reducible repeat (first | apply Kd.R_alloc | apply Kd.R_drewN | apply Kd.R_drew)); exact Kd.R_mono HO_200000.out (fun _ hk => hk.2)⟩, ⟨by (with_reducible repeat (first | apply Kd.R_alloc | apply Kd.R_drewN | apply Kd.R_drew)); exact Kd.R_mono HO203.out (fun _ hk => hk.2)⟩, ⟨by (with_reducible repeat (first | refine blk_drewN ?_ _ | refine blk_drew ?_ | refine blk_alloc ?_ _)); exact BK199.out⟩, ⟨by (with_reducible repeat (first | refine blk_drewN ?_ _ | refine blk_drew ?_ | refine blk_alloc ?_ _)); exact BK205.out⟩, ⟨by repeat (first | (with_reducible first | exact HB.out | apply below_alloc | apply pw_below_drewN | apply below_drew1 | refine below_set ?_ GE199.out | refine below_set ?_ GE205.out) | exact HB.out)⟩⟩
                    case rest =>
                      clear HC16
                      try clear c1
                      try clear c2
                      try clear p2
                      try clear q2
                      try clear hx2
                      try clear c4
                      try clear c6
                      try clear p6
                      try clear c9
                      try clear c9b0
                      try clear c10
                      try clear c10b0
                      try clear c11
                      try clear c11b0
                      try clear c12
                      try clear c12b0
                      try clear c12b1
                      try clear c14
                      try clear c15
                      try clear c15b0
                      try clear c15b1
                      try clear p20
                      try clear q20
                      try clear hx20
                      try clear c22
                      try clear c24
                      try clear c26
                      try clear c26b0
                      try clear c26b1
                      try clear hcz17_0
                      try clear hcz23_0
                      try clear hcz8_0
                      try clear hfz17_0
                      try clear hfz23_0
                      try clear hfz8_0
                      try clear hx200_0
                      try clear p2
                      try clear p200
                      try clear q200
                      obtain ⟨kq, x58_15, rfl, HA, HJ15, HO_6, HO_200000, HO_206000, BK199, BK205, HB⟩ := hcut
                      cases kq with
                      | zero => exact absurd HA.out (by simp [besomtop_TopTables.j1])
                      | succ kj15 =>
                        have H := HA.out
                        clear HA
                        simp only [besomtop_TopTables.j1] at H
                        by_cases c27 : x58_15 = true
                        · subst c27
                          have H1 : (some false) = some r := by rw [if_pos rfl] at H; exact H
                          clear H
                          have H := H1
                          clear H1
                          exact absurd ((Option.some.inj H).trans HLAW.out) (by decide)
                        · replace c27 := Bool.eq_false_iff.mpr c27
                          subst c27
                          have H1 : (besomtop_TopTables.l0 kj15 l0 l1 x6_1 l0 (l0.length : Int) (wrap64 (x29_1 + 1)) x200000_1) = some r := by rw [if_neg (show ¬ (false = true) by decide)] at H; exact H
                          clear H
                          have H := H1
                          clear H1
                          have H' := Aside0.mk H
                          clear H
                          go_wp2
                          go_roundg kj15
                          case measure => have := HK1.out; have := HJ15.out; omega
                          case rel => exact ⟨(x6_1), (wrap64 (x29_1 + 1)), (x200000_1), (.slice Ao18 x200000_1.length co18), (by first | rfl | (simp; done) | (simp [*]; done)), H', ⟨by have := HK1.out; have := HJ15.out; omega⟩, ⟨by (with_reducible repeat (first | apply Kd.R_alloc | apply Kd.R_drewN | apply Kd.R_drew)); exact HO_6.out⟩, ⟨by (with_reducible repeat (first | apply Kd.R_alloc | apply Kd.R_drewN | apply Kd.R_drew)); exact Kd.R_mono HO_200000.out (fun _ hk => trivial)⟩, ⟨by (with_reducible repeat (first | refine blk_drewN ?_ _ | refine blk_drew ?_ | refine blk_alloc ?_ _)); exact BK199.out⟩, ⟨by repeat (first | (with_reducible first | exact HB.out | apply below_alloc | apply pw_below_drewN | apply below_drew1 | refine below_set ?_ GE199.out | refine below_set ?_ GE205.out) | exact HB.out)⟩⟩
                  · rw [if_neg c15] at H
                    have c15b0 : ((rd l0 x29_1) == 0) = false := beq_eq_false_iff_ne.mpr c15
                    have c15b1 : ((rd l0 x29_1) != 0) = true := bne_iff_ne.mpr c15
                    by_cases c28 : t204 = 0
                    · rw [if_pos c28] at H
                      have c28b0 : (t204 == 0) = true := beq_iff_eq.mpr c28
                      have c28b1 : (t204 != 0) = false := bne_eq_false_iff_eq.mpr c28
                      clear c28
                      by_cases c29 : t208 = 0
                      · rw [if_pos c29] at H
                        have c29b0 : (t208 == 0) = true := beq_iff_eq.mpr c29
                        have c29b1 : (t208 != 0) = false := bne_eq_false_iff_eq.mpr c29
                        clear c29
                        by_cases c30 : t207 < 1
                        · rw [if_pos c30] at H
                          have c30b0 : decide (t207 < 1) = true := decide_eq_true c30
                          clear c30
                          exact absurd ((Option.some.inj H).trans HLAW.out) (by decide)
                        · rw [if_neg c30] at H
                          have c30b0 : decide (t207 < 1) = false := decide_eq_false c30
                          clear c30
                          have H' := Aside0.mk H
                          clear H
                          have p200 : 0 ≤ (x29_1 : Int) := of_decide_eq_true (by first | (with_reducible assumption) | assumption)
                          have q200 : x29_1 < (l0.length : Int) := of_decide_eq_true (by first | (with_reducible assumption) | assumption)
                          obtain ⟨ad200, e200, hx200_0⟩ := Kd.at_int HR0.out x29_1 p200 q200
                          cases e200
                          replace hx200_0 := (HB.out.cell (World.block_lt_of_cell? w _ hx200_0)).trans hx200_0
                          replace p200 := eq_true p200
                          replace q200 := eq_true q200
                          have hcz31_0 : wr.cell? ⟨gb199, 0, none⟩ = some (u200000) := (blk_cell BK199.out 0).trans rfl
                          have hfz31_0 := blk_frozen BK199.out 0
                          obtain ⟨Ao32, co32, eo32⟩ := Kd.R_slice HO_200000.out
                          subst eo32
                          go_wp2_with (first | ((with_reducible refine gate_callee (f := 24) rfl ?_); refine goesL_ (some 41) rfl rfl Try.func24 (by kernel_rfl) rfl #[.agg #[.slice Ao32 x200000_1.length co32], .int .u64 (rd l0 x29_1), .int .u64 (IntKind.u64.wrap (x29_1))] rfl (by (try simp only [List.map_toArray, List.map_cons, List.map_nil]); first | done | rfl | (simp only [List.length_drop, List.length_take]; rfl)) ?_; (with_reducible refine (ephem_Put.calls k1 _ _ x200000_1 (rd l0 x29_1) (IntKind.u64.wrap (x29_1)) t201 t204 _ ?side1 ?side2 A13.out).mono ?_); (case side1 => repeat (first | exact (Kd.R_reads' HO_200000.out).2.2 | (with_reducible refine Kd.C_alloc ?_ _) | (with_reducible refine Kd.C_drewN ?_ _) | (with_reducible refine Kd.C_drew ?_))); (case side2 => exact (Kd.R_reads' HO_200000.out).2.1); rintro e w33 ⟨v202, rfl, ho0, hb⟩; refine ⟨_, rfl, ?_⟩; have n0_ := Aside0.mk (Kd.R_below (by (with_reducible repeat (first | apply Kd.R_alloc | apply Kd.R_drewN | apply Kd.R_drew)); exact HO_6.out) hb); have n1_ := Aside0.mk (Kd.R_elder' (by (with_reducible repeat (first | apply Kd.R_alloc | apply Kd.R_drewN | apply Kd.R_drew)); exact HO_200000.out) (Kd.R_base ho0) hb); have n2_ := Aside0.mk (Kd.R_lower (Kd.R_new' ho0 (Kd.R_lt (by (with_reducible repeat (first | apply Kd.R_alloc | apply Kd.R_drewN | apply Kd.R_drew)); exact HO_200000.out))) (below_size (by repeat (first | (with_reducible first | exact HB.out | apply below_alloc | apply pw_below_drewN | apply below_drew1 | refine below_set ?_ GE199.out) | exact HB.out)))); have n3_ := Aside0.mk (blk_below (g := gb199) (o := .cells #[.slice Ao32 x200000_1.length co32] 64 (0, 0)) (by (with_reducible repeat (first | refine blk_drewN ?_ _ | refine blk_drew ?_ | refine blk_alloc ?_ _)); exact BK199.out) hb); have n4_ := Aside0.mk (below_step (by repeat (first | (with_reducible first | exact HB.out | apply below_alloc | apply pw_below_drewN | apply below_drew1 | refine below_set ?_ GE199.out) | exact HB.out)) hb); clear HO_6; clear HO_200000; clear BK199; clear HB; have HO_6 := n0_; have HO_200000 := n1_; have HO203 := n2_; have BK199 := n3_; have HB := n4_; clear n0_ n1_ n2_ n3_ n4_; (try clear hb); (try clear hb2); (try clear hk); (try clear hi); (try clear ho0)) | ((with_reducible refine gate_dst (N := 9) rfl ?_); (try (refine gate_guard (by rfl) ?_; dsimp only)); refine box_event ?hg (N := 9) ?hd (cs := #[.slice none 0 0]) (t := 64) ?hr ?_; (case hd => rfl); (case hg => rfl); (case hr => first | (go_simp; done) | (go_simp; rfl)); intro gb205 hg w34 hbox hb; have n0_ := Aside0.mk (Kd.R_below (by (with_reducible repeat (first | apply Kd.R_alloc | apply Kd.R_drewN | apply Kd.R_drew)); exact HO_6.out) hb); have n1_ := Aside0.mk (Kd.R_below (by (with_reducible repeat (first | apply Kd.R_alloc | apply Kd.R_drewN | apply Kd.R_drew)); exact HO_200000.out) hb); have n2_ := Aside0.mk (Kd.R_below (by (with_reducible repeat (first | apply Kd.R_alloc | apply Kd.R_drewN | apply Kd.R_drew)); exact HO203.out) hb); have n3_ := Aside0.mk (blk_below (g := gb199) (o := .cells #[.slice Ao32 x200000_1.length co32] 64 (0, 0)) (by (with_reducible repeat (first | refine blk_drewN ?_ _ | refine blk_drew ?_ | refine blk_alloc ?_ _)); exact BK199.out) hb); have n4_ := Aside0.mk (below_step (by repeat (first | (with_reducible first | exact HB.out | apply below_alloc | apply pw_below_drewN | apply below_drew1 | refine below_set ?_ GE199.out) | exact HB.out)) hb); have n5_ := Aside0.mk (hbox); have n6_ := Aside0.mk ((by rw [hg]; exact (below_size (by repeat (first | (with_reducible first | exact HB.out | apply below_alloc | apply pw_below_drewN | apply below_drew1 | refine below_set ?_ GE199.out) | exact HB.out))) : w.heap.size ≤ gb205)); have n7_ := Aside0.mk ((by rw [hg]; exact (below_size (by repeat (first | (with_reducible first | exact HB.out | apply below_alloc | apply pw_below_drewN | apply below_drew1 | refine below_set ?_ GE199.out) | exact HB.out))) : w.heap.size ≤ gb205)); have n8_ := Aside0.mk ((by rw [hg]; exact Nat.ne_of_lt (blk_lt (g := gb199) (o := .cells #[.slice Ao32 x200000_1.length co32] 64 (0, 0)) (by (with_reducible repeat (first | refine blk_drewN ?_ _ | refine blk_drew ?_ | refine blk_alloc ?_ _)); exact BK199.out)) : gb199 ≠ gb205)); have n9_ := Aside0.mk ((by rw [hg]; exact Nat.ne_of_gt (blk_lt (g := gb199) (o := .cells #[.slice Ao32 x200000_1.length co32] 64 (0, 0)) (by (with_reducible repeat (first | refine blk_drewN ?_ _ | refine blk_drew ?_ | refine blk_alloc ?_ _)); exact BK199.out)) : gb205 ≠ gb199)); clear HO_6; clear HO_200000; clear HO203; clear BK199; clear HB; have HO_6 := n0_; have HO_200000 := n1_; have HO203 := n2_; have BK199 := n3_; have HB := n4_; have BK205 := n5_; have GW205 := n6_; have GE205 := n7_; have NB199_205 := n8_; have NB205_199 := n9_; clear n0_ n1_ n2_ n3_ n4_ n5_ n6_ n7_ n8_ n9_; clear hb hbox hg; obtain ⟨Ao35, co35, eo35⟩ := Kd.R_slice HO203.out; subst eo35; have hnb36 := NB205_199.out; have hnc36 := NB199_205.out; have hcz37_0 : w34.cell? ⟨gb205, 0, none⟩ = some (.slice none 0 0) := (blk_cell BK205.out 0).trans rfl; have hfz37_0 := blk_frozen BK205.out 0; obtain ⟨Ao38, co38, eo38⟩ := Kd.R_slice HO_6.out; subst eo38) | ((with_reducible refine gate_callee (f := 10) rfl ?_); refine goesL_ (some 47) rfl rfl Try.func10 (by kernel_rfl) rfl #[.slice Ao38 x6_1.length co38, .int .u64 (rd l0 x29_1)] rfl (by (try simp only [List.map_toArray, List.map_cons, List.map_nil]); first | done | rfl | (simp only [List.length_drop, List.length_take]; rfl)) ?_; (with_reducible refine (weak_Make.calls k1 _ _ x6_1 (rd l0 x29_1) t206 t207 t208 _ ?side1 ?side2 A14.out).mono ?_); (case side1 => refine (Kd.R_reads' (e := 25) (base := w.heap.size) (ok := fun k_ => True) (n := x6_1.length) (c := co38) ?_).2.2; exact (by (with_reducible repeat (first | apply Kd.R_alloc | apply Kd.R_drewN | apply Kd.R_drew)); exact (Kd.R_mono (Kd.R_far (p := ⟨gb205, 0, none⟩) (Kd.R_types HO_6.out BK205.out (by decide)) (fun _ hk => hk.2) (.slice Ao35 t201.length co35)) (fun _ h_ => h_.1)))); (case side2 => exact (Kd.R_reads' HO_6.out).2.1); rintro e w39 ⟨v209, rfl, ho0, hb⟩; refine ⟨_, rfl, ?_⟩; have n0_ := Aside0.mk (Kd.R_elder' (by (with_reducible repeat (first | apply Kd.R_alloc | apply Kd.R_drewN | apply Kd.R_drew)); exact (Kd.R_mono (Kd.R_far (p := ⟨gb205, 0, none⟩) (Kd.R_types HO_6.out BK205.out (by decide)) (fun _ hk => hk.2) (.slice Ao35 t201.length co35)) (fun _ h_ => h_.1))) (Kd.R_base ho0) hb); have n1_ := Aside0.mk (Kd.R_below (by (with_reducible repeat (first | apply Kd.R_alloc | apply Kd.R_drewN | apply Kd.R_drew)); exact (Kd.R_mono (Kd.R_far (p := ⟨gb205, 0, none⟩) (Kd.R_types HO_200000.out BK205.out (by decide)) (fun _ hk => hk.2) (.slice Ao35 t201.length co35)) (fun _ h_ => h_.1))) hb); have n2_ := Aside0.mk (Kd.R_below (by (with_reducible repeat (first | apply Kd.R_alloc | apply Kd.R_drewN | apply Kd.R_drew)); exact (Kd.R_mono (Kd.R_far (p := ⟨gb205, 0, none⟩) (Kd.R_types HO203.out BK205.out (by decide)) (fun _ hk => hk.2) (.slice Ao35 t201.length co35)) (fun _ h_ => h_.1))) hb); have n3_ := Aside0.mk (Kd.R_lower (Kd.R_new' ho0 (Kd.R_lt (by (with_reducible repeat (first | apply Kd.R_alloc | apply Kd.R_drewN | apply Kd.R_drew)); exact (Kd.R_mono (Kd.R_far (p := ⟨gb205, 0, none⟩) (Kd.R_types HO_6.out BK205.out (by decide)) (fun _ hk => hk.2) (.slice Ao35 t201.length co35)) (fun _ h_ => h_.1))))) (below_size (by repeat (first | (with_reducible first | exact HB.out | apply below_alloc | apply pw_below_drewN | apply below_drew1 | refine below_set ?_ GE199.out | refine below_set ?_ GE205.out) | exact HB.out)))); have n4_ := Aside0.mk (blk_below (g := gb199) (o := .cells #[.slice Ao32 x200000_1.length co32] 64 (0, 0)) (by (with_reducible repeat (first | refine blk_drewN ?_ _ | refine blk_drew ?_ | refine blk_alloc ?_ _)); refine blk_far ?_ NB199_205.out _; (with_reducible repeat (first | refine blk_drewN ?_ _ | refine blk_drew ?_ | refine blk_alloc ?_ _)); exact BK199.out) hb); have n5_ := Aside0.mk (blk_below (g := gb205) (o := .cells #[.slice Ao35 t201.length co35] 64 (0, 0)) (by (with_reducible repeat (first | refine blk_drewN ?_ _ | refine blk_drew ?_ | refine blk_alloc ?_ _)); refine blk_put (cs := #[.slice none 0 0]) ?_ 0 _ rfl; (with_reducible repeat (first | refine blk_drewN ?_ _ | refine blk_drew ?_ | refine blk_alloc ?_ _)); exact BK205.out) hb); have n6_ := Aside0.mk (below_step (by repeat (first | (with_reducible first | exact HB.out | apply below_alloc | apply pw_below_drewN | apply below_drew1 | refine below_set ?_ GE199.out | refine below_set ?_ GE205.out) | exact HB.out)) hb); clear HO_6; clear HO_200000; clear HO203; clear BK199; clear BK205; clear HB; have HO_6 := n0_; have HO_200000 := n1_; have HO203 := n2_; have HO210 := n3_; have BK199 := n4_; have BK205 := n5_; have HB := n6_; clear n0_ n1_ n2_ n3_ n4_ n5_ n6_; (try clear hb); (try clear hb2); (try clear hk); (try clear hi); (try clear ho0); have hcz40_0 : w39.cell? ⟨gb205, 0, none⟩ = some (.slice Ao35 t201.length co35) := (blk_cell BK205.out 0).trans rfl; have hfz40_0 := blk_frozen BK205.out 0; have hcz41_0 : w39.cell? ⟨gb199, 0, none⟩ = some (.slice Ao32 x200000_1.length co32) := (blk_cell BK199.out 0).trans rfl; have hfz41_0 := blk_frozen BK199.out 0))
                          go_roundg k1
                          case measure => have := HK1.out; omega
                          case rel => exact ⟨(t206), (wrap64 (x29_1 + 1)), (t201), (.slice Ao35 t201.length co35), (by first | rfl | (simp; done) | (simp [*]; done)), H', ⟨by have := HK1.out; omega⟩, ⟨by (with_reducible repeat (first | apply Kd.R_alloc | apply Kd.R_drewN | apply Kd.R_drew)); exact Kd.R_mono (Kd.R_far (p := ⟨gb199, 0, none⟩) (Kd.R_types HO210.out BK199.out (by decide)) (fun _ hk => hk.2) (.slice Ao35 t201.length co35)) (fun _ hk => trivial)⟩, ⟨by (with_reducible repeat (first | apply Kd.R_alloc | apply Kd.R_drewN | apply Kd.R_drew)); exact Kd.R_mono (Kd.R_far (p := ⟨gb199, 0, none⟩) (Kd.R_types HO203.out BK199.out (by decide)) (fun _ hk => hk.2) (.slice Ao35 t201.length co35)) (fun _ hk => trivial)⟩, ⟨by (with_reducible repeat (first | refine blk_drewN ?_ _ | refine blk_drew ?_ | refine blk_alloc ?_ _)); refine blk_put (cs := #[.slice Ao32 x200000_1.length co32]) ?_ 0 _ rfl; (with_reducible repeat (first | refine blk_drewN ?_ _ | refine blk_drew ?_ | refine blk_alloc ?_ _)); exact BK199.out⟩, ⟨by repeat (first | (with_reducible first | exact HB.out | apply below_alloc | apply pw_below_drewN | apply below_drew1 | refine below_set ?_ GE199.out | refine below_set ?_ GE205.out) | exact HB.out)⟩⟩
                      · rw [if_neg c29] at H
                        have c29b0 : (t208 == 0) = false := beq_eq_false_iff_ne.mpr c29
                        have c29b1 : (t208 != 0) = true := bne_iff_ne.mpr c29
                        exact absurd ((Option.some.inj H).trans HLAW.out) (by decide)
                    · rw [if_neg c28] at H
                      have c28b0 : (t204 == 0) = false := beq_eq_false_iff_ne.mpr c28
                      have c28b1 : (t204 != 0) = true := bne_iff_ne.mpr c28
                      exact absurd ((Option.some.inj H).trans HLAW.out) (by decide)
              · rw [if_neg c11] at H
                exact absurd H (by simp)
            · rw [if_neg c10] at H
              exact absurd H (by simp)
          · rw [if_neg c9] at H
            have c9b0 : decide (x29_1 < (l0.length : Int)) = false := decide_eq_false c9
            clear c9
            (first | rw [c9b0] | (simp only [i64_w, i32_w]; rw [c9b0]) | skip)
            have H' := Aside0.mk H
            clear H
            go_wp2
            go_meet
            case rel => exact ⟨_, (x6_1), (x200000_1), (u200000), H', ⟨by have := HK1.out; first | omega | exact Nat.le_refl _⟩, ⟨by (with_reducible repeat (first | apply Kd.R_alloc | apply Kd.R_drewN | apply Kd.R_drew)); exact HO_6.out⟩, ⟨by (with_reducible repeat (first | apply Kd.R_alloc | apply Kd.R_drewN | apply Kd.R_drew)); exact HO_200000.out⟩, ⟨by (with_reducible repeat (first | refine blk_drewN ?_ _ | refine blk_drew ?_ | refine blk_alloc ?_ _)); exact BK199.out⟩, ⟨by repeat (first | (with_reducible first | exact HB.out | apply below_alloc | apply pw_below_drewN | apply below_drew1 | refine below_set ?_ GE199.out) | exact HB.out)⟩⟩
    case rest =>
      clear HC5
      try clear c1
      try clear c2
      try clear p2
      try clear q2
      try clear hx2
      try clear c3
      try clear c4
      try clear c6
      try clear p6
      try clear c9
      try clear c9b0
      try clear c10
      try clear c10b0
      try clear c11
      try clear c11b0
      try clear c12
      try clear c12b0
      try clear c12b1
      try clear c14
      try clear c15
      try clear c15b0
      try clear c15b1
      try clear p20
      try clear q20
      try clear hx20
      try clear c22
      try clear c24
      try clear c26
      try clear c26b0
      try clear c26b1
      try clear c27
      try clear c28
      try clear c28b0
      try clear c28b1
      try clear c29
      try clear c29b0
      try clear c29b1
      try clear c30
      try clear c30b0
      try clear c36
      try clear hcz17_0
      try clear hcz23_0
      try clear hcz31_0
      try clear hcz37_0
      try clear hcz40_0
      try clear hcz41_0
      try clear hcz8_0
      try clear hfz17_0
      try clear hfz23_0
      try clear hfz31_0
      try clear hfz37_0
      try clear hfz40_0
      try clear hfz41_0
      try clear hfz8_0
      try clear hx200_0
      try clear p2
      try clear p20
      try clear p200
      try clear p6
      try clear q2
      try clear q20
      try clear q200
      obtain ⟨kq, x6_4, x200000_4, u200000, HA, HJ4, HO_6, HO_200000, BK199, HB⟩ := hcut
      cases kq with
      | zero => exact absurd HA.out (by simp [besomtop_TopTables.j2])
      | succ kj4 =>
        have H := HA.out
        clear HA
        simp only [besomtop_TopTables.j2] at H
        replace H := Option.bind_eq_some_iff.mp H
        obtain ⟨⟨t211, t214, t215⟩, A420, H⟩ := H
        replace H : ((weak_Clear.f kj4 x6_4 l1).bind fun bt216 => (if t215 = 0 then (if bt216.2.2 = 0 then (besomtop_TopTables.j3 kj4 l0 l1 bt216.1 (t214 != (bt216.2.1.length : Int)) t211) else (besomtop_TopTables.j3 kj4 l0 l1 bt216.1 true t211)) else (besomtop_TopTables.j3 kj4 l0 l1 bt216.1 true t211))) = some r := H
        have A42 := Aside0.mk A420
        clear A420
        replace H := Option.bind_eq_some_iff.mp H
        obtain ⟨⟨t216, t217, t218⟩, A430, H⟩ := H
        replace H : (if t215 = 0 then (if t218 = 0 then (besomtop_TopTables.j3 kj4 l0 l1 t216 (t214 != (t217.length : Int)) t211) else (besomtop_TopTables.j3 kj4 l0 l1 t216 true t211)) else (besomtop_TopTables.j3 kj4 l0 l1 t216 true t211)) = some r := H
        have A43 := Aside0.mk A430
        clear A430
        have HC44 := Aside0.mk H
        clear H
        have hcz45_0 : wc.cell? ⟨gb199, 0, none⟩ = some (u200000) := (blk_cell BK199.out 0).trans rfl
        have hfz45_0 := blk_frozen BK199.out 0
        obtain ⟨Ao46, co46, eo46⟩ := Kd.R_slice HO_200000.out
        subst eo46
        go_upto_region 20 with (first | ((with_reducible refine gate_callee (f := 25) rfl ?_); refine goesL_ (some 75) rfl rfl Try.func25 (by kernel_rfl) rfl #[.agg #[.slice Ao46 x200000_4.length co46], .slice A1 l1.length c1] rfl (by (try simp only [List.map_toArray, List.map_cons, List.map_nil]); first | done | rfl | (simp only [List.length_drop, List.length_take]; rfl)) ?_; (with_reducible refine (ephem_Del.calls kj4 _ _ x200000_4 _ _ l1 t211 t214 t215 _ ?side1 ?side2 ?side3 ?side4 A42.out).mono ?_); (case side1 => repeat (first | exact (Kd.R_reads' HO_200000.out).2.2 | (with_reducible refine Kd.C_alloc ?_ _) | (with_reducible refine Kd.C_drewN ?_ _) | (with_reducible refine Kd.C_drew ?_))); (case side2 => exact (Kd.R_reads' HO_200000.out).2.1); (case side3 => repeat (first | exact (Kd.C_below HR1.out HB.out) | (with_reducible refine Kd.C_alloc ?_ _) | (with_reducible refine Kd.C_drewN ?_ _) | (with_reducible refine Kd.C_drew ?_))); (case side4 => exact HC1.out); rintro e w47 ⟨v212, rfl, ho0, hb⟩; refine ⟨_, rfl, ?_⟩; have n0_ := Aside0.mk (Kd.R_below (by (with_reducible repeat (first | apply Kd.R_alloc | apply Kd.R_drewN | apply Kd.R_drew)); exact HO_6.out) hb); have n1_ := Aside0.mk (Kd.R_elder' (by (with_reducible repeat (first | apply Kd.R_alloc | apply Kd.R_drewN | apply Kd.R_drew)); exact HO_200000.out) (Kd.R_base ho0) hb); have n2_ := Aside0.mk (Kd.R_lower (Kd.R_new' ho0 (Kd.R_lt (by (with_reducible repeat (first | apply Kd.R_alloc | apply Kd.R_drewN | apply Kd.R_drew)); exact HO_200000.out))) (below_size (by repeat (first | (with_reducible first | exact HB.out | apply below_alloc | apply pw_below_drewN | apply below_drew1 | refine below_set ?_ GE199.out) | exact HB.out)))); have n3_ := Aside0.mk (blk_below (g := gb199) (o := .cells #[.slice Ao46 x200000_4.length co46] 64 (0, 0)) (by (with_reducible repeat (first | refine blk_drewN ?_ _ | refine blk_drew ?_ | refine blk_alloc ?_ _)); exact BK199.out) hb); have n4_ := Aside0.mk (below_step (by repeat (first | (with_reducible first | exact HB.out | apply below_alloc | apply pw_below_drewN | apply below_drew1 | refine below_set ?_ GE199.out) | exact HB.out)) hb); clear HO_6; clear HO_200000; clear BK199; clear HB; have HO_6 := n0_; have HO_200000 := n1_; have HO213 := n2_; have BK199 := n3_; have HB := n4_; clear n0_ n1_ n2_ n3_ n4_; (try clear hb); (try clear hb2); (try clear hk); (try clear hi); (try clear ho0); obtain ⟨Ao48, co48, eo48⟩ := Kd.R_slice HO213.out; subst eo48; have hcz49_0 : w47.cell? ⟨gb199, 0, none⟩ = some (.slice Ao46 x200000_4.length co46) := (blk_cell BK199.out 0).trans rfl; have hfz49_0 := blk_frozen BK199.out 0; obtain ⟨Ao50, co50, eo50⟩ := Kd.R_slice HO_6.out; subst eo50) | ((with_reducible refine gate_callee (f := 9) rfl ?_); refine goesL_ (some 82) rfl rfl Try.func9 (by kernel_rfl) rfl #[.slice Ao50 x6_4.length co50, .slice A1 l1.length c1] rfl (by (try simp only [List.map_toArray, List.map_cons, List.map_nil]); first | done | rfl | (simp only [List.length_drop, List.length_take]; rfl)) ?_; (with_reducible refine (weak_Clear.calls kj4 _ _ x6_4 _ _ l1 t216 t217 t218 _ ?side1 ?side2 ?side3 ?side4 A43.out).mono ?_); (case side1 => refine (Kd.R_reads' (e := 25) (base := w.heap.size) (ok := fun k_ => True) (n := x6_4.length) (c := co50) ?_).2.2; exact (by (with_reducible repeat (first | apply Kd.R_alloc | apply Kd.R_drewN | apply Kd.R_drew)); exact (Kd.R_mono (Kd.R_far (p := ⟨gb199, 0, none⟩) (Kd.R_types HO_6.out BK199.out (by decide)) (fun _ hk => hk.2) (.slice Ao48 t211.length co48)) (fun _ h_ => h_.1)))); (case side2 => exact (Kd.R_reads' HO_6.out).2.1); (case side3 => exact Kd.C_below HR1.out (by repeat (first | (with_reducible first | exact HB.out | apply below_alloc | apply pw_below_drewN | apply below_drew1 | refine below_set ?_ GE199.out) | exact HB.out))); (case side4 => exact HC1.out); rintro e w51 ⟨v219, v221, rfl, ho0, ho1, hb⟩; refine ⟨_, rfl, ?_⟩; have n0_ := Aside0.mk (Kd.R_elder' (by (with_reducible repeat (first | apply Kd.R_alloc | apply Kd.R_drewN | apply Kd.R_drew)); exact (Kd.R_mono (Kd.R_far (p := ⟨gb199, 0, none⟩) (Kd.R_types HO_6.out BK199.out (by decide)) (fun _ hk => hk.2) (.slice Ao48 t211.length co48)) (fun _ h_ => h_.1))) (Kd.R_base ho0) hb); have n1_ := Aside0.mk (Kd.R_below (by (with_reducible repeat (first | apply Kd.R_alloc | apply Kd.R_drewN | apply Kd.R_drew)); exact (Kd.R_mono (Kd.R_far (p := ⟨gb199, 0, none⟩) (Kd.R_types HO_200000.out BK199.out (by decide)) (fun _ hk => hk.2) (.slice Ao48 t211.length co48)) (fun _ h_ => h_.1))) hb); have n2_ := Aside0.mk (Kd.R_below (by (with_reducible repeat (first | apply Kd.R_alloc | apply Kd.R_drewN | apply Kd.R_drew)); exact (Kd.R_mono (Kd.R_far (p := ⟨gb199, 0, none⟩) (Kd.R_types HO213.out BK199.out (by decide)) (fun _ hk => hk.2) (.slice Ao48 t211.length co48)) (fun _ h_ => h_.1))) hb); have n3_ := Aside0.mk (Kd.R_lower (Kd.R_new' ho0 (Kd.R_lt (by (with_reducible repeat (first | apply Kd.R_alloc | apply Kd.R_drewN | apply Kd.R_drew)); exact (Kd.R_mono (Kd.R_far (p := ⟨gb199, 0, none⟩) (Kd.R_types HO_6.out BK199.out (by decide)) (fun _ hk => hk.2) (.slice Ao48 t211.length co48)) (fun _ h_ => h_.1))))) (below_size (by repeat (first | (with_reducible first | exact HB.out | apply below_alloc | apply pw_below_drewN | apply below_drew1 | refine below_set ?_ GE199.out) | exact HB.out)))); have n4_ := Aside0.mk (Kd.R_lower ho1 (below_size (by repeat (first | (with_reducible first | exact HB.out | apply below_alloc | apply pw_below_drewN | apply below_drew1 | refine below_set ?_ GE199.out) | exact HB.out)))); have n5_ := Aside0.mk (blk_below (g := gb199) (o := .cells #[.slice Ao48 t211.length co48] 64 (0, 0)) (by (with_reducible repeat (first | refine blk_drewN ?_ _ | refine blk_drew ?_ | refine blk_alloc ?_ _)); refine blk_put (cs := #[.slice Ao46 x200000_4.length co46]) ?_ 0 _ rfl; (with_reducible repeat (first | refine blk_drewN ?_ _ | refine blk_drew ?_ | refine blk_alloc ?_ _)); exact BK199.out) hb); have n6_ := Aside0.mk (below_step (by repeat (first | (with_reducible first | exact HB.out | apply below_alloc | apply pw_below_drewN | apply below_drew1 | refine below_set ?_ GE199.out) | exact HB.out)) hb); clear HO_6; clear HO_200000; clear HO213; clear BK199; clear HB; have HO_6 := n0_; have HO_200000 := n1_; have HO213 := n2_; have HO220 := n3_; have HO222 := n4_; have BK199 := n5_; have HB := n6_; clear n0_ n1_ n2_ n3_ n4_ n5_ n6_; (try clear hb); (try clear hb2); (try clear hk); (try clear hi); (try clear ho0); (try clear ho1)))
        (try simp only [Act.put, List.setIfInBounds_toArray, List.set_cons_zero, List.set_cons_succ])
        go_cut [97] (fun v97 wc => ∃ (kq : Nat) (x97_43 : Bool), v97 = .bool x97_43 ∧ Aside0 (besomtop_TopTables.j3 kq l0 l1 t216 x97_43 t211 = some r) ∧ Aside0 (kq ≤ kj4) ∧ Aside0 (Kd.R (Kd.int .u64) 25 wc w.heap.size (fun _ => True) v219 t216) ∧ Aside0 (Kd.R k105 105 wc w.heap.size (fun _ => True) (.slice Ao48 t211.length co48) t211) ∧ Aside0 (wc.heap[gb199]? = some (.cells #[(.slice Ao48 t211.length co48)] 64 (0, 0))) ∧ Aside0 (Below w.heap.size w wc))
        case first =>
          have H := HC44.out
          clear HC44
          by_cases c52 : t215 = 0
          · rw [if_pos c52] at H
            have c52b0 : (t215 == 0) = true := beq_iff_eq.mpr c52
            have c52b1 : (t215 != 0) = false := bne_eq_false_iff_eq.mpr c52
            clear c52
            (first | rw [c52b0] | (simp only [i64_w, i32_w]; rw [c52b0]) | skip)
            by_cases c53 : t218 = 0
            · rw [if_pos c53] at H
              have c53b0 : (t218 == 0) = true := beq_iff_eq.mpr c53
              have c53b1 : (t218 != 0) = false := bne_eq_false_iff_eq.mpr c53
              clear c53
              have H' := Aside0.mk H
              clear H
              obtain ⟨Ao54, co54, eo54⟩ := Kd.R_slice HO222.out
              subst eo54
              go_wp2
              go_meet
              case rel => exact ⟨_, ((t214 != (t217.length : Int))), (by first | rfl | (simp; done) | (simp [*]; done)), H', ⟨by have := HJ4.out; first | omega | exact Nat.le_refl _⟩, ⟨by (with_reducible repeat (first | apply Kd.R_alloc | apply Kd.R_drewN | apply Kd.R_drew)); exact Kd.R_mono HO220.out (fun _ hk => trivial)⟩, ⟨by (with_reducible repeat (first | apply Kd.R_alloc | apply Kd.R_drewN | apply Kd.R_drew)); exact Kd.R_mono HO213.out (fun _ hk => trivial)⟩, ⟨by (with_reducible repeat (first | refine blk_drewN ?_ _ | refine blk_drew ?_ | refine blk_alloc ?_ _)); exact BK199.out⟩, ⟨by repeat (first | (with_reducible first | exact HB.out | apply below_alloc | apply pw_below_drewN | apply below_drew1 | refine below_set ?_ GE199.out) | exact HB.out)⟩⟩
            · rw [if_neg c53] at H
              have c53b0 : (t218 == 0) = false := beq_eq_false_iff_ne.mpr c53
              have c53b1 : (t218 != 0) = true := bne_iff_ne.mpr c53
              have H' := Aside0.mk H
              clear H
              go_wp2
              go_meet
              case rel => exact ⟨_, (true), (by first | rfl | (simp; done) | (simp [*]; done)), H', ⟨by have := HJ4.out; first | omega | exact Nat.le_refl _⟩, ⟨by (with_reducible repeat (first | apply Kd.R_alloc | apply Kd.R_drewN | apply Kd.R_drew)); exact Kd.R_mono HO220.out (fun _ hk => trivial)⟩, ⟨by (with_reducible repeat (first | apply Kd.R_alloc | apply Kd.R_drewN | apply Kd.R_drew)); exact Kd.R_mono HO213.out (fun _ hk => trivial)⟩, ⟨by (with_reducible repeat (first | refine blk_drewN ?_ _ | refine blk_drew ?_ | refine blk_alloc ?_ _)); exact BK199.out⟩, ⟨by repeat (first | (with_reducible first | exact HB.out | apply below_alloc | apply pw_below_drewN | apply below_drew1 | refine below_set ?_ GE199.out) | exact HB.out)⟩⟩
          · rw [if_neg c52] at H
            have c52b0 : (t215 == 0) = false := beq_eq_false_iff_ne.mpr c52
            have c52b1 : (t215 != 0) = true := bne_iff_ne.mpr c52
            (first | rw [c52b0] | (simp only [i64_w, i32_w]; rw [c52b0]) | skip)
            have H' := Aside0.mk H
            clear H
            go_wp2
            go_meet
            case rel => exact ⟨_, (true), (by first | rfl | (simp; done) | (simp [*]; done)), H', ⟨by have := HJ4.out; first | omega | exact Nat.le_refl _⟩, ⟨by (with_reducible repeat (first | apply Kd.R_alloc | apply Kd.R_drewN | apply Kd.R_drew)); exact Kd.R_mono HO220.out (fun _ hk => trivial)⟩, ⟨by (with_reducible repeat (first | apply Kd.R_alloc | apply Kd.R_drewN | apply Kd.R_drew)); exact Kd.R_mono HO213.out (fun _ hk => trivial)⟩, ⟨by (with_reducible repeat (first | refine blk_drewN ?_ _ | refine blk_drew ?_ | refine blk_alloc ?_ _)); exact BK199.out⟩, ⟨by repeat (first | (with_reducible first | exact HB.out | apply below_alloc | apply pw_below_drewN | apply below_drew1 | refine below_set ?_ GE199.out) | exact HB.out)⟩⟩
        case rest =>
          clear HC44
          try clear c1
          try clear c2
          try clear p2
          try clear q2
          try clear hx2
          try clear c3
          try clear c4
          try clear c5
          try clear c6
          try clear p6
          try clear c9
          try clear c9b0
          try clear c10
          try clear c10b0
          try clear c11
          try clear c11b0
          try clear c12
          try clear c12b0
          try clear c12b1
          try clear c14
          try clear c15
          try clear c15b0
          try clear c15b1
          try clear p20
          try clear q20
          try clear hx20
          try clear c22
          try clear c24
          try clear c25
          try clear c26
          try clear c26b0
          try clear c26b1
          try clear c27
          try clear c28
          try clear c28b0
          try clear c28b1
          try clear c29
          try clear c29b0
          try clear c29b1
          try clear c30
          try clear c30b0
          try clear c36
          try clear c52
          try clear c52b0
          try clear c52b1
          try clear c53
          try clear c53b0
          try clear c53b1
          try clear hcz17_0
          try clear hcz23_0
          try clear hcz31_0
          try clear hcz37_0
          try clear hcz40_0
          try clear hcz41_0
          try clear hcz45_0
          try clear hcz49_0
          try clear hcz8_0
          try clear hfz17_0
          try clear hfz23_0
          try clear hfz31_0
          try clear hfz37_0
          try clear hfz40_0
          try clear hfz41_0
          try clear hfz45_0
          try clear hfz49_0
          try clear hfz8_0
          try clear hx200_0
          try clear p2
          try clear p20
          try clear p200
          try clear p6
          try clear q2
          try clear q20
          try clear q200
          obtain ⟨kq, x97_43, rfl, HA, HJ43, HO_6, HO_200000, BK199, HB⟩ := hcut
          cases kq with
          | zero => exact absurd HA.out (by simp [besomtop_TopTables.j3])
          | succ kj43 =>
            have H := HA.out
            clear HA
            simp only [besomtop_TopTables.j3] at H
            by_cases c55 : x97_43 = true
            · subst c55
              have H1 : (some false) = some r := by rw [if_pos rfl] at H; exact H
              clear H
              have H := H1
              clear H1
              exact absurd ((Option.some.inj H).trans HLAW.out) (by decide)
            · replace c55 := Bool.eq_false_iff.mpr c55
              subst c55
              have H1 : (besomtop_TopTables.l1 kj43 l1 t216 l0 (l0.length : Int) 0 t211) = some r := by rw [if_neg (show ¬ (false = true) by decide)] at H; exact H
              clear H
              have H := H1
              clear H1
              have H' := Aside0.mk H
              clear H
              go_wp2
              go_loopg [100] kj43 (fun kq v100 w' => ∃ (x100_3 : Int), v100 = .int .i64 x100_3 ∧ Aside0 (besomtop_TopTables.l1 kq l1 t216 l0 (l0.length : Int) x100_3 t211 = some r) ∧ Aside0 (kq ≤ kj43) ∧ Aside0 (Kd.R (Kd.int .u64) 25 w' w.heap.size (fun _ => True) v219 t216) ∧ Aside0 (Kd.R k105 105 w' w.heap.size (fun _ => True) (.slice Ao48 t211.length co48) t211) ∧ Aside0 (w'.heap[gb199]? = some (.cells #[(.slice Ao48 t211.length co48)] 64 (0, 0))) ∧ Aside0 (Below w.heap.size w w'))
              case atStart => exact ⟨(0), (by first | rfl | (simp; done) | (simp [*]; done)), H', ⟨Nat.le_refl _⟩, ⟨by (with_reducible repeat (first | apply Kd.R_alloc | apply Kd.R_drewN | apply Kd.R_drew)); exact HO_6.out⟩, ⟨by (with_reducible repeat (first | apply Kd.R_alloc | apply Kd.R_drewN | apply Kd.R_drew)); exact HO_200000.out⟩, ⟨by (with_reducible repeat (first | refine blk_drewN ?_ _ | refine blk_drew ?_ | refine blk_alloc ?_ _)); exact BK199.out⟩, ⟨by repeat (first | (with_reducible first | exact HB.out | apply below_alloc | apply pw_below_drewN | apply below_drew1 | refine below_set ?_ GE199.out) | exact HB.out)⟩⟩
              case round =>
                clear H'
                try clear c1
                try clear c2
                try clear p2
                try clear q2
                try clear hx2
                try clear c3
                try clear c4
                try clear c5
                try clear c6
                try clear p6
                try clear c9
                try clear c9b0
                try clear c10
                try clear c10b0
                try clear c11
                try clear c11b0
                try clear c12
                try clear c12b0
                try clear c12b1
                try clear c14
                try clear c15
                try clear c15b0
                try clear c15b1
                try clear p20
                try clear q20
                try clear hx20
                try clear c22
                try clear c24
                try clear c25
                try clear c26
                try clear c26b0
                try clear c26b1
                try clear c27
                try clear c28
                try clear c28b0
                try clear c28b1
                try clear c29
                try clear c29b0
                try clear c29b1
                try clear c30
                try clear c30b0
                try clear c36
                try clear c52
                try clear c52b0
                try clear c52b1
                try clear c53
                try clear c53b0
                try clear c53b1
                try clear c55
                try clear hcz17_0
                try clear hcz23_0
                try clear hcz31_0
                try clear hcz37_0
                try clear hcz40_0
                try clear hcz41_0
                try clear hcz45_0
                try clear hcz49_0
                try clear hcz8_0
                try clear hfz17_0
                try clear hfz23_0
                try clear hfz31_0
                try clear hfz37_0
                try clear hfz40_0
                try clear hfz41_0
                try clear hfz45_0
                try clear hfz49_0
                try clear hfz8_0
                try clear hx200_0
                try clear p2
                try clear p20
                try clear p200
                try clear p6
                try clear q2
                try clear q20
                try clear q200
                obtain ⟨x100_3, rfl, HA, HK3, HO_6, HO_200000, BK199, HB⟩ := hrel
                cases gk with
                | zero => exact absurd HA.out (by simp [besomtop_TopTables.l1])
                | succ k3 =>
                  have H := HA.out
                  clear HA
                  simp only [besomtop_TopTables.l1] at H
                  by_cases c56 : x100_3 < (l0.length : Int)
                  · rw [if_pos c56] at H
                    have c56b0 : decide (x100_3 < (l0.length : Int)) = true := decide_eq_true c56
                    clear c56
                    by_cases c57 : 0 ≤ x100_3
                    · rw [if_pos c57] at H
                      have c57b0 : decide (0 ≤ x100_3) = true := decide_eq_true c57
                      clear c57
                      by_cases c58 : x100_3 < (l0.length : Int)
                      · rw [if_pos c58] at H
                        have c58b0 : decide (x100_3 < (l0.length : Int)) = true := decide_eq_true c58
                        clear c58
                        by_cases c59 : x100_3 = 25
                        · rw [if_pos c59] at H
                          have c59b0 : (x100_3 == 25) = true := beq_iff_eq.mpr c59
                          have c59b1 : (x100_3 != 25) = false := bne_eq_false_iff_eq.mpr c59
                          clear c59
                          obtain rfl := Option.some.inj H
                          have p223 : 0 ≤ (x100_3 : Int) := of_decide_eq_true (by first | (with_reducible assumption) | assumption)
                          have q223 : x100_3 < (l0.length : Int) := of_decide_eq_true (by first | (with_reducible assumption) | assumption)
                          obtain ⟨ad223, e223, hx223_0⟩ := Kd.at_int HR0.out x100_3 p223 q223
                          cases e223
                          replace hx223_0 := (HB.out.cell (World.block_lt_of_cell? w _ hx223_0)).trans hx223_0
                          replace p223 := eq_true p223
                          replace q223 := eq_true q223
                          go_wp2
                          go_ret
                          exact ⟨by first | rfl | (simp [errW_none, errW_some] <;> rfl) | (simp [*, errW_none, errW_some] <;> rfl), by repeat (first | (with_reducible first | exact HB.out | apply below_alloc | apply pw_below_drewN | apply below_drew1 | refine below_set ?_ GE199.out) | exact HB.out)⟩
                        · rw [if_neg c59] at H
                          have c59b0 : (x100_3 == 25) = false := beq_eq_false_iff_ne.mpr c59
                          have c59b1 : (x100_3 != 25) = true := bne_iff_ne.mpr c59
                          replace H := Option.bind_eq_some_iff.mp H
                          obtain ⟨⟨t224, t225⟩, A600, H⟩ := H
                          replace H : ((weak_Handle.f k3 t216 (rd l0 x100_3)).bind fun bt226 => (if t225 = bt226.2 then (if (rd l0 x100_3) = 0 then (besomtop_TopTables.l1 k3 l1 t216 l0 (l0.length : Int) (wrap64 (x100_3 + 1)) t211) else ((besomtop_has.f k3 l1 (rd l0 x100_3)).bind fun t228 => (if (t228 == (t225 == 0)) = true then (some false) else (besomtop_TopTables.l1 k3 l1 t216 l0 (l0.length : Int) (wrap64 (x100_3 + 1)) t211)))) else (some false))) = some r := H
                          have A60 := Aside0.mk A600
                          clear A600
                          replace H := Option.bind_eq_some_iff.mp H
                          obtain ⟨⟨t226, t227⟩, A610, H⟩ := H
                          replace H : (if t225 = t227 then (if (rd l0 x100_3) = 0 then (besomtop_TopTables.l1 k3 l1 t216 l0 (l0.length : Int) (wrap64 (x100_3 + 1)) t211) else ((besomtop_has.f k3 l1 (rd l0 x100_3)).bind fun t228 => (if (t228 == (t225 == 0)) = true then (some false) else (besomtop_TopTables.l1 k3 l1 t216 l0 (l0.length : Int) (wrap64 (x100_3 + 1)) t211)))) else (some false)) = some r := H
                          have A61 := Aside0.mk A610
                          clear A610
                          by_cases c62 : t225 = t227
                          · rw [if_pos c62] at H
                            have c62b0 : (t225 == t227) = true := beq_iff_eq.mpr c62
                            have c62b1 : (t225 != t227) = false := bne_eq_false_iff_eq.mpr c62
                            clear c62
                            by_cases c63 : (rd l0 x100_3) = 0
                            · rw [if_pos c63] at H
                              have c63b0 : ((rd l0 x100_3) == 0) = true := beq_iff_eq.mpr c63
                              have c63b1 : ((rd l0 x100_3) != 0) = false := bne_eq_false_iff_eq.mpr c63
                              clear c63
                              have H' := Aside0.mk H
                              clear H
                              have p223 : 0 ≤ (x100_3 : Int) := of_decide_eq_true (by first | (with_reducible assumption) | assumption)
                              have q223 : x100_3 < (l0.length : Int) := of_decide_eq_true (by first | (with_reducible assumption) | assumption)
                              obtain ⟨ad223, e223, hx223_0⟩ := Kd.at_int HR0.out x100_3 p223 q223
                              cases e223
                              replace hx223_0 := (HB.out.cell (World.block_lt_of_cell? w _ hx223_0)).trans hx223_0
                              replace p223 := eq_true p223
                              replace q223 := eq_true q223
                              have hcz64_0 : wr.cell? ⟨gb199, 0, none⟩ = some (.slice Ao48 t211.length co48) := (blk_cell BK199.out 0).trans rfl
                              have hfz64_0 := blk_frozen BK199.out 0
                              go_wp2_with (first | ((with_reducible refine gate_callee (f := 26) rfl ?_); refine goesL_ (some 110) rfl rfl Try.func26 (by kernel_rfl) rfl #[.agg #[.slice Ao48 t211.length co48], .int .u64 (rd l0 x100_3)] rfl (by (try simp only [List.map_toArray, List.map_cons, List.map_nil]); first | done | rfl | (simp only [List.length_drop, List.length_take]; rfl)) ?_; (with_reducible refine (ephem_Get.calls k3 _ _ t211 (rd l0 x100_3) t224 t225 _ ?side1 ?side2 A60.out).mono ?_); (case side1 => repeat (first | exact (Kd.R_reads' HO_200000.out).2.2 | (with_reducible refine Kd.C_alloc ?_ _) | (with_reducible refine Kd.C_drewN ?_ _) | (with_reducible refine Kd.C_drew ?_))); (case side2 => exact (Kd.R_reads' HO_200000.out).2.1); rintro e w65 ⟨rfl, hb⟩; refine ⟨_, rfl, ?_⟩; have n0_ := Aside0.mk (Kd.R_below (by (with_reducible repeat (first | apply Kd.R_alloc | apply Kd.R_drewN | apply Kd.R_drew)); exact HO_6.out) hb); have n1_ := Aside0.mk (Kd.R_below (by (with_reducible repeat (first | apply Kd.R_alloc | apply Kd.R_drewN | apply Kd.R_drew)); exact HO_200000.out) hb); have n2_ := Aside0.mk (blk_below (g := gb199) (o := .cells #[.slice Ao48 t211.length co48] 64 (0, 0)) (by (with_reducible repeat (first | refine blk_drewN ?_ _ | refine blk_drew ?_ | refine blk_alloc ?_ _)); exact BK199.out) hb); have n3_ := Aside0.mk (below_step (by repeat (first | (with_reducible first | exact HB.out | apply below_alloc | apply pw_below_drewN | apply below_drew1 | refine below_set ?_ GE199.out) | exact HB.out)) hb); clear HO_6; clear HO_200000; clear BK199; clear HB; have HO_6 := n0_; have HO_200000 := n1_; have BK199 := n2_; have HB := n3_; clear n0_ n1_ n2_ n3_; (try clear hb); (try clear hb2); (try clear hk); (try clear hi); obtain ⟨Ao66, co66, eo66⟩ := Kd.R_slice HO_6.out; subst eo66) | ((with_reducible refine gate_callee (f := 27) rfl ?_); refine goesL_ (some 116) rfl rfl Try.func27 (by kernel_rfl) rfl #[.slice Ao66 t216.length co66, .int .u64 (rd l0 x100_3)] rfl (by (try simp only [List.map_toArray, List.map_cons, List.map_nil]); first | done | rfl | (simp only [List.length_drop, List.length_take]; rfl)) ?_; (with_reducible refine (weak_Handle.calls k3 _ _ t216 (rd l0 x100_3) t226 t227 _ ?side1 ?side2 A61.out).mono ?_); (case side1 => repeat (first | exact (Kd.R_reads' HO_6.out).2.2 | (with_reducible refine Kd.C_alloc ?_ _) | (with_reducible refine Kd.C_drewN ?_ _) | (with_reducible refine Kd.C_drew ?_))); (case side2 => exact (Kd.R_reads' HO_6.out).2.1); rintro e w' ⟨rfl, ⟨nd, rfl⟩⟩; refine ⟨_, rfl, ?_⟩))
                              go_roundg k3
                              case measure => have := HJ4.out; have := HJ43.out; have := HK3.out; omega
                              case rel => exact ⟨(wrap64 (x100_3 + 1)), (by first | rfl | (simp; done) | (simp [*]; done)), H', ⟨by have := HJ4.out; have := HJ43.out; have := HK3.out; omega⟩, ⟨by (with_reducible repeat (first | apply Kd.R_alloc | apply Kd.R_drewN | apply Kd.R_drew)); exact HO_6.out⟩, ⟨by (with_reducible repeat (first | apply Kd.R_alloc | apply Kd.R_drewN | apply Kd.R_drew)); exact HO_200000.out⟩, ⟨by (with_reducible repeat (first | refine blk_drewN ?_ _ | refine blk_drew ?_ | refine blk_alloc ?_ _)); exact BK199.out⟩, ⟨by repeat (first | (with_reducible first | exact HB.out | apply below_alloc | apply pw_below_drewN | apply below_drew1 | refine below_set ?_ GE199.out) | exact HB.out)⟩⟩
                            · rw [if_neg c63] at H
                              have c63b0 : ((rd l0 x100_3) == 0) = false := beq_eq_false_iff_ne.mpr c63
                              have c63b1 : ((rd l0 x100_3) != 0) = true := bne_iff_ne.mpr c63
                              replace H := Option.bind_eq_some_iff.mp H
                              obtain ⟨t228, A670, H⟩ := H
                              replace H : (if (t228 == (t225 == 0)) = true then (some false) else (besomtop_TopTables.l1 k3 l1 t216 l0 (l0.length : Int) (wrap64 (x100_3 + 1)) t211)) = some r := H
                              have A67 := Aside0.mk A670
                              clear A670
                              by_cases c68 : (t228 == (t225 == 0)) = true
                              · rw [if_pos c68] at H
                                have c68b0 : (t228 == (t225 == 0)) = true := c68
                                (try (have c68b1 : decide (t228 = (t225 == 0)) = true := by simpa using c68))
                                (try (have c68b2 : (t228 == (t225 == 0)) = true := by simpa using c68))
                                clear c68
                                exact absurd ((Option.some.inj H).trans HLAW.out) (by decide)
                              · rw [if_neg c68] at H
                                have c68b0 : (t228 == (t225 == 0)) = false := by simpa using c68
                                (try (have c68b1 : decide (t228 = (t225 == 0)) = false := by simpa using c68))
                                (try (have c68b2 : (t228 == (t225 == 0)) = false := by simpa using c68))
                                (try (have c68b3 : ¬ (t228 = (t225 == 0)) := by simpa using c68))
                                clear c68
                                have H' := Aside0.mk H
                                clear H
                                have p223 : 0 ≤ (x100_3 : Int) := of_decide_eq_true (by first | (with_reducible assumption) | assumption)
                                have q223 : x100_3 < (l0.length : Int) := of_decide_eq_true (by first | (with_reducible assumption) | assumption)
                                obtain ⟨ad223, e223, hx223_0⟩ := Kd.at_int HR0.out x100_3 p223 q223
                                cases e223
                                replace hx223_0 := (HB.out.cell (World.block_lt_of_cell? w _ hx223_0)).trans hx223_0
                                replace p223 := eq_true p223
                                replace q223 := eq_true q223
                                have hcz69_0 : wr.cell? ⟨gb199, 0, none⟩ = some (.slice Ao48 t211.length co48) := (blk_cell BK199.out 0).trans rfl
                                have hfz69_0 := blk_frozen BK199.out 0
                                go_wp2_with (first | ((with_reducible refine gate_callee (f := 26) rfl ?_); refine goesL_ (some 110) rfl rfl Try.func26 (by kernel_rfl) rfl #[.agg #[.slice Ao48 t211.length co48], .int .u64 (rd l0 x100_3)] rfl (by (try simp only [List.map_toArray, List.map_cons, List.map_nil]); first | done | rfl | (simp only [List.length_drop, List.length_take]; rfl)) ?_; (with_reducible refine (ephem_Get.calls k3 _ _ t211 (rd l0 x100_3) t224 t225 _ ?side1 ?side2 A60.out).mono ?_); (case side1 => repeat (first | exact (Kd.R_reads' HO_200000.out).2.2 | (with_reducible refine Kd.C_alloc ?_ _) | (with_reducible refine Kd.C_drewN ?_ _) | (with_reducible refine Kd.C_drew ?_))); (case side2 => exact (Kd.R_reads' HO_200000.out).2.1); rintro e w70 ⟨rfl, hb⟩; refine ⟨_, rfl, ?_⟩; have n0_ := Aside0.mk (Kd.R_below (by (with_reducible repeat (first | apply Kd.R_alloc | apply Kd.R_drewN | apply Kd.R_drew)); exact HO_6.out) hb); have n1_ := Aside0.mk (Kd.R_below (by (with_reducible repeat (first | apply Kd.R_alloc | apply Kd.R_drewN | apply Kd.R_drew)); exact HO_200000.out) hb); have n2_ := Aside0.mk (blk_below (g := gb199) (o := .cells #[.slice Ao48 t211.length co48] 64 (0, 0)) (by (with_reducible repeat (first | refine blk_drewN ?_ _ | refine blk_drew ?_ | refine blk_alloc ?_ _)); exact BK199.out) hb); have n3_ := Aside0.mk (below_step (by repeat (first | (with_reducible first | exact HB.out | apply below_alloc | apply pw_below_drewN | apply below_drew1 | refine below_set ?_ GE199.out) | exact HB.out)) hb); clear HO_6; clear HO_200000; clear BK199; clear HB; have HO_6 := n0_; have HO_200000 := n1_; have BK199 := n2_; have HB := n3_; clear n0_ n1_ n2_ n3_; (try clear hb); (try clear hb2); (try clear hk); (try clear hi); obtain ⟨Ao71, co71, eo71⟩ := Kd.R_slice HO_6.out; subst eo71) | ((with_reducible refine gate_callee (f := 27) rfl ?_); refine goesL_ (some 116) rfl rfl Try.func27 (by kernel_rfl) rfl #[.slice Ao71 t216.length co71, .int .u64 (rd l0 x100_3)] rfl (by (try simp only [List.map_toArray, List.map_cons, List.map_nil]); first | done | rfl | (simp only [List.length_drop, List.length_take]; rfl)) ?_; (with_reducible refine (weak_Handle.calls k3 _ _ t216 (rd l0 x100_3) t226 t227 _ ?side1 ?side2 A61.out).mono ?_); (case side1 => repeat (first | exact (Kd.R_reads' HO_6.out).2.2 | (with_reducible refine Kd.C_alloc ?_ _) | (with_reducible refine Kd.C_drewN ?_ _) | (with_reducible refine Kd.C_drew ?_))); (case side2 => exact (Kd.R_reads' HO_6.out).2.1); rintro e w' ⟨rfl, ⟨nd, rfl⟩⟩; refine ⟨_, rfl, ?_⟩) | (go_at_call 28; (with_reducible refine (besomtop_has.calls k3 _ _ l1 (rd l0 x100_3) t228 _ ?side1 ?side2 A67.out).mono ?_); (case side1 => repeat (first | exact (Kd.C_below HR1.out (by repeat (first | (with_reducible first | exact HB.out | apply below_alloc | apply pw_below_drewN | apply below_drew1 | refine below_set ?_ GE199.out) | exact HB.out))) | (with_reducible refine Kd.C_alloc ?_ _) | (with_reducible refine Kd.C_drewN ?_ _) | (with_reducible refine Kd.C_drew ?_))); (case side2 => exact HC1.out); rintro e w' ⟨rfl, ⟨nd, rfl⟩⟩))
                                go_roundg k3
                                case measure => have := HJ4.out; have := HJ43.out; have := HK3.out; omega
                                case rel => exact ⟨(wrap64 (x100_3 + 1)), (by first | rfl | (simp; done) | (simp [*]; done)), H', ⟨by have := HJ4.out; have := HJ43.out; have := HK3.out; omega⟩, ⟨by (with_reducible repeat (first | apply Kd.R_alloc | apply Kd.R_drewN | apply Kd.R_drew)); exact HO_6.out⟩, ⟨by (with_reducible repeat (first | apply Kd.R_alloc | apply Kd.R_drewN | apply Kd.R_drew)); exact HO_200000.out⟩, ⟨by (with_reducible repeat (first | refine blk_drewN ?_ _ | refine blk_drew ?_ | refine blk_alloc ?_ _)); exact BK199.out⟩, ⟨by repeat (first | (with_reducible first | exact HB.out | apply below_alloc | apply pw_below_drewN | apply below_drew1 | refine below_set ?_ GE199.out) | exact HB.out)⟩⟩
                          · rw [if_neg c62] at H
                            have c62b0 : (t225 == t227) = false := beq_eq_false_iff_ne.mpr c62
                            have c62b1 : (t225 != t227) = true := bne_iff_ne.mpr c62
                            exact absurd ((Option.some.inj H).trans HLAW.out) (by decide)
                      · rw [if_neg c58] at H
                        exact absurd H (by simp)
                    · rw [if_neg c57] at H
                      exact absurd H (by simp)
                  · rw [if_neg c56] at H
                    have c56b0 : decide (x100_3 < (l0.length : Int)) = false := decide_eq_false c56
                    clear c56
                    obtain rfl := Option.some.inj H
                    go_wp2
                    go_ret
                    exact ⟨by first | rfl | (simp [errW_none, errW_some] <;> rfl) | (simp [*, errW_none, errW_some] <;> rfl), by repeat (first | (with_reducible first | exact HB.out | apply below_alloc | apply pw_below_drewN | apply below_drew1 | refine below_set ?_ GE199.out) | exact HB.out)⟩
  · replace c4 := Bool.eq_false_iff.mpr c4
    subst c4
    have H1 : (some false) = some r := by rw [if_neg (show ¬ (false = true) by decide)] at H; exact H
    clear H
    have H := H1
    clear H1
    exact absurd ((Option.some.inj H).trans HLAW.out) (by decide)

end Go.Proofs.Ytbdlehbaioaglaa.GT
