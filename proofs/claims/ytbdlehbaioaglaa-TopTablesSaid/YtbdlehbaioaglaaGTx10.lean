/- Made by gprint.py, this session's program over the kit's print program, out of the translation; the functions that it does not print are proved by hand (wip/given). Lean checks it. -/
import Derived.Test.YtbdlehbaioaglaaGTx0
import Derived.Test.YtbdlehbaioaglaaGTx7
import Derived.Test.YtbdlehbaioaglaaGTx8
namespace Go.Proofs.Ytbdlehbaioaglaa.GT
open Go.RowKit Go.Proofs.YtbdlehbaioaglaaW.PrintWords Go.Proofs.YtbdlehbaioaglaaW.PrintLast Go.Proofs.YtbdlehbaioaglaaW.PrintMore
attribute [local go_sem] max2_int min2_int max_two min_two max_three min_three max_four min_four   -- for this text's walks alone
set_option linter.unusedVariables false
set_option linter.unusedSimpArgs false

/-! ### api_EphSlot: function 65 -/
theorem cloneE_nil_eq (w : World) (a : Option Addr) (n c : Nat) : (binOp .eql 62 (.slice a n c) (.slice none 0 0)).run Try.prog w = .ok (.bool a.isNone) w := Lib.run_eql_slice_nil w 62 105 a n c 0 0 Try.underlying62
theorem cloneE_info : (Try.prog.info? 105).map (fun i => (i.zero, i.size, i.bytes)) = some (some (.agg #[.int .u8 0, .int .u64 0, .int .u64 0]), 3, 24) := by kernel_rfl
def api_EphSlot.f (l0 : List S105) : Option (List S105) := if l0.length < 1000000 then some l0 else none
set_option maxHeartbeats 8000000 in
set_option maxRecDepth 100000 in
theorem api_EphSlot.calls (A0 : Option Addr) (c0 : Nat) (l0 : List S105) (r : List S105) (w : World) (hr0 : Kd.C k105 w A0 l0.length l0) (hc0 : l0.length ≤ c0) (h : api_EphSlot.f l0 = some r) :
    Calls Try.prog 65 #[.slice A0 l0.length c0] w fun e w' => ∃ v0_ : Value, e = .returned (v0_) ∧ Kd.R k105 105 w' w.heap.size (fun _ => True) v0_ r ∧ Below w.heap.size w w' := by
  unfold api_EphSlot.f at h
  by_cases c2 : l0.length < 1000000
  · rw [if_pos c2] at h
    cases h
    have hcmp := cloneE_nil_eq
    have LM := Aside0.mk c2
    have HB := Aside0.mk (Below.refl w.heap.size w)
    have HR0 := Aside0.mk hr0
    clear c2 hc0
    cases A0 with
    | none =>
      have e0 : l0 = [] := by
        rcases Nat.eq_zero_or_pos l0.length with h0 | h0
        · exact List.eq_nil_of_length_eq_zero h0
        · obtain ⟨ad, e, _⟩ := hr0.2.2 h0; cases e
      subst e0
      clear hr0 HR0
      go_enter Try.func65, Try.ntmps65
      go_wp2_with (simp only [hcmp])
      go_ret
      exact ⟨_, rfl, Kd.R_nil _ _ _ _ _, HB.out⟩
    | some ad =>
      clear hr0
      go_enter Try.func65, Try.ntmps65
      go_wp2_with (first | (simp only [hcmp]; done) | ((with_reducible refine gate_dst (N := 5) rfl ?_); refine Kd.R_lit k105 _ 105 ?hg (N := 5) ?hd (xs := ([] : List S105)) (inner := []) (ok := fun _ => True) (okp := fun _ => True) ?hr ?hp (fun _ hk => hk) trivial (Below.refl _ _) (Nat.le_refl _) (by simp) ?_; (case hd => rfl); (case hg => rfl); (case hr => first | (go_simp; done) | (go_simp; rfl)); (case hp => exact (Reps.none _ _)); intro v1 w1 ho1 hb1 hg1 hn1; clear hg1 hn1; have HO1 := Aside0.mk (Kd.R_lower ho1 (below_size HB.out)); have n1 := Aside0.mk (below_step HB.out hb1); clear HB; have HB := n1; clear n1 hb1 ho1) | ((with_reducible refine gate_builtin (b := .append) (xs := #[.tmp 5, .tmp 6]) rfl ?_); at_builtin; refine Kd.R_append_rows k105 (w0 := w) w.heap.size rfl (.tmp 5) (.tmp 6) 62 105 (.agg #[.int .u8 0, .int .u64 0, .int .u64 0]) 24 rfl Try.underlying62 cloneE_info rfl (by decide) (by omega) v1 [] l0 _ _ _ (fun _ => True) (fun _ => False) rfl rfl ?aO ?aR (fun _ _ h => h) (fun _ h => h.elim) ?aF ?aB ?aS ?aL ?_; (case aR => exact Kd.C_below HR0.out HB.out); (case aB => exact HB.out); (case aF => exact (fun _ _ => trivial)); (case aO => exact HO1.out); (case aS => exact (below_size HB.out)); (case aL => have := LM.out; simp only [List.length_nil]; omega); intro v2 w2 ho2 hb2 hg2 hat2; clear hg2 hat2; have HO2 := Aside0.mk ho2; have HB2 := Aside0.mk hb2; clear ho2 hb2))
      go_ret
      exact ⟨_, rfl, by simpa using HO2.out, HB2.out⟩
  · rw [if_neg c2] at h; cases h

/-! ### ephem_Own: function 51 -/
def ephem_Own.f (l0_0 : List (S105)) : Option ((List (S105))) := (api_EphSlot.f l0_0).bind fun t174 => (some t174)
set_option maxHeartbeats 8000000 in
set_option maxRecDepth 100000 in
theorem ephem_Own.calls (A0_0 : Option Addr) (c0_0 : Nat) (l0_0 : List (S105)) (r : List (S105)) (w : World) (hr0_0 : Kd.C k105 w A0_0 l0_0.length l0_0) (hc0_0 : l0_0.length ≤ c0_0) (h : ephem_Own.f l0_0 = some r) :
    Calls Try.prog 51 #[.agg #[.slice A0_0 l0_0.length c0_0]] w fun e w' => ∃ v0_ : Value, e = .returned (.agg #[v0_]) ∧ Kd.R k105 105 w' w.heap.size (fun _ => True) v0_ r ∧ Below w.heap.size w w' := by
  have hu64 := Try.underlying64
  have HR0_0 := Aside0.mk hr0_0
  have HC0_0 := Aside0.mk hc0_0
  clear hr0_0 hc0_0
  have HB := Aside0.mk (Below.refl w.heap.size w)
  have H : ((api_EphSlot.f l0_0).bind fun t174 => (some t174)) = some r := h
  clear h
  replace H := Option.bind_eq_some_iff.mp H
  obtain ⟨t174, A20, H⟩ := H
  replace H : (some t174) = some r := H
  have A2 := Aside0.mk A20
  clear A20
  obtain rfl := Option.some.inj H
  go_enter Try.func51, Try.ntmps51
  go_wp2_with (first | ((with_reducible refine gate_dst (N := 1) rfl ?_); refine box_event ?hg (N := 1) ?hd (cs := #[.slice A0_0 l0_0.length c0_0]) (t := 64) ?hr ?_; (case hd => rfl); (case hg => rfl); (case hr => first | (go_simp; done) | (go_simp; rfl)); intro gb172 hg w3 hbox hb; have n0_ := Aside0.mk (below_step (by repeat (first | (with_reducible first | exact HB.out | apply below_alloc | apply pw_below_drewN | apply below_drew1) | exact HB.out)) hb); have n1_ := Aside0.mk (hbox); have n2_ := Aside0.mk ((by rw [hg]; exact (below_size (by repeat (first | (with_reducible first | exact HB.out | apply below_alloc | apply pw_below_drewN | apply below_drew1) | exact HB.out))) : w.heap.size ≤ gb172)); have n3_ := Aside0.mk ((by rw [hg]; exact (below_size (by repeat (first | (with_reducible first | exact HB.out | apply below_alloc | apply pw_below_drewN | apply below_drew1) | exact HB.out))) : w.heap.size ≤ gb172)); clear HB; have HB := n0_; have BK172 := n1_; have GW172 := n2_; have GE172 := n3_; clear n0_ n1_ n2_ n3_; clear hb hbox hg) | ((with_reducible refine gate_dst (N := 2) rfl ?_); refine box_event ?hg (N := 2) ?hd (cs := #[.slice none 0 0]) (t := 64) ?hr ?_; (case hd => rfl); (case hg => rfl); (case hr => first | (go_simp; done) | (go_simp; rfl)); intro gb173 hg w4 hbox hb; have n0_ := Aside0.mk (blk_below (g := gb172) (o := .cells #[.slice A0_0 l0_0.length c0_0] 64 (0, 0)) (by (with_reducible repeat (first | refine blk_drewN ?_ _ | refine blk_drew ?_ | refine blk_alloc ?_ _)); exact BK172.out) hb); have n1_ := Aside0.mk (below_step (by repeat (first | (with_reducible first | exact HB.out | apply below_alloc | apply pw_below_drewN | apply below_drew1 | refine below_set ?_ GE172.out) | exact HB.out)) hb); have n2_ := Aside0.mk (hbox); have n3_ := Aside0.mk ((by rw [hg]; exact (below_size (by repeat (first | (with_reducible first | exact HB.out | apply below_alloc | apply pw_below_drewN | apply below_drew1 | refine below_set ?_ GE172.out) | exact HB.out))) : w.heap.size ≤ gb173)); have n4_ := Aside0.mk ((by rw [hg]; exact (below_size (by repeat (first | (with_reducible first | exact HB.out | apply below_alloc | apply pw_below_drewN | apply below_drew1 | refine below_set ?_ GE172.out) | exact HB.out))) : w.heap.size ≤ gb173)); have n5_ := Aside0.mk ((by rw [hg]; exact Nat.ne_of_lt (blk_lt (g := gb172) (o := .cells #[.slice A0_0 l0_0.length c0_0] 64 (0, 0)) (by (with_reducible repeat (first | refine blk_drewN ?_ _ | refine blk_drew ?_ | refine blk_alloc ?_ _)); exact BK172.out)) : gb172 ≠ gb173)); have n6_ := Aside0.mk ((by rw [hg]; exact Nat.ne_of_gt (blk_lt (g := gb172) (o := .cells #[.slice A0_0 l0_0.length c0_0] 64 (0, 0)) (by (with_reducible repeat (first | refine blk_drewN ?_ _ | refine blk_drew ?_ | refine blk_alloc ?_ _)); exact BK172.out)) : gb173 ≠ gb172)); clear BK172; clear HB; have BK172 := n0_; have HB := n1_; have BK173 := n2_; have GW173 := n3_; have GE173 := n4_; have NB172_173 := n5_; have NB173_172 := n6_; clear n0_ n1_ n2_ n3_ n4_ n5_ n6_; clear hb hbox hg; have hnb5 := NB172_173.out; have hnc5 := NB173_172.out; have hcz6_0 : w4.cell? ⟨gb172, 0, none⟩ = some (.slice A0_0 l0_0.length c0_0) := (blk_cell BK172.out 0).trans rfl; have hfz6_0 := blk_frozen BK172.out 0) | ((with_reducible refine gate_callee (f := 65) rfl ?_); refine goesL_ (some 5) rfl rfl Try.func65 (by kernel_rfl) rfl #[.slice A0_0 l0_0.length c0_0] rfl (by (try simp only [List.map_toArray, List.map_cons, List.map_nil]); first | done | rfl | (simp only [List.length_drop, List.length_take]; rfl)) ?_; (with_reducible refine (api_EphSlot.calls _ _ l0_0 t174 _ ?side1 ?side2 A2.out).mono ?_); (case side1 => repeat (first | exact (Kd.C_below HR0_0.out HB.out) | (with_reducible refine Kd.C_alloc ?_ _) | (with_reducible refine Kd.C_drewN ?_ _) | (with_reducible refine Kd.C_drew ?_))); (case side2 => exact HC0_0.out); rintro e w7 ⟨v175, rfl, ho0, hb⟩; refine ⟨_, rfl, ?_⟩; have n0_ := Aside0.mk (Kd.R_lower ho0 (below_size (by repeat (first | (with_reducible first | exact HB.out | apply below_alloc | apply pw_below_drewN | apply below_drew1 | refine below_set ?_ GE172.out | refine below_set ?_ GE173.out) | exact HB.out)))); have n1_ := Aside0.mk (blk_below (g := gb172) (o := .cells #[.slice A0_0 l0_0.length c0_0] 64 (0, 0)) (by (with_reducible repeat (first | refine blk_drewN ?_ _ | refine blk_drew ?_ | refine blk_alloc ?_ _)); exact BK172.out) hb); have n2_ := Aside0.mk (blk_below (g := gb173) (o := .cells #[.slice none 0 0] 64 (0, 0)) (by (with_reducible repeat (first | refine blk_drewN ?_ _ | refine blk_drew ?_ | refine blk_alloc ?_ _)); exact BK173.out) hb); have n3_ := Aside0.mk (below_step (by repeat (first | (with_reducible first | exact HB.out | apply below_alloc | apply pw_below_drewN | apply below_drew1 | refine below_set ?_ GE172.out | refine below_set ?_ GE173.out) | exact HB.out)) hb); clear BK172; clear BK173; clear HB; have HO176 := n0_; have BK172 := n1_; have BK173 := n2_; have HB := n3_; clear n0_ n1_ n2_ n3_; (try clear hb); (try clear hb2); (try clear hk); (try clear hi); (try clear ho0); obtain ⟨Ao8, co8, eo8⟩ := Kd.R_slice HO176.out; subst eo8; have hcz9_0 : w7.cell? ⟨gb173, 0, none⟩ = some (.slice none 0 0) := (blk_cell BK173.out 0).trans rfl; have hfz9_0 := blk_frozen BK173.out 0))
  refine bodyPost_ret (results_cell_row rfl _ _ gb173 64 #[.slice Ao8 t174.length co8] (0, 0) _ rfl (by (with_reducible repeat (first | refine blk_drewN ?_ _ | refine blk_drew ?_ | refine blk_alloc ?_ _)); refine blk_put (cs := #[.slice none 0 0]) ?_ 0 _ rfl; (with_reducible repeat (first | refine blk_drewN ?_ _ | refine blk_drew ?_ | refine blk_alloc ?_ _)); exact BK173.out) Try.underlying64 rfl (by kernel_rfl)) rfl ?_
  exact ⟨_, by first | rfl | (simp [errW_none, errW_some] <;> rfl) | (simp [*, errW_none, errW_some] <;> rfl), by (with_reducible repeat (first | apply Kd.R_alloc | apply Kd.R_drewN | apply Kd.R_drew)); exact Kd.R_mono (Kd.R_far (p := ⟨gb173, 0, none⟩) (Kd.R_types HO176.out BK173.out (by decide)) (fun _ hk => hk.2) (.slice Ao8 t174.length co8)) (fun _ hk => trivial), by repeat (first | (with_reducible first | exact HB.out | apply below_alloc | apply pw_below_drewN | apply below_drew1 | refine below_set ?_ GE172.out | refine below_set ?_ GE173.out) | exact HB.out)⟩

/-! ### ephem_table_lay: function 55 -/
def ephem_table_lay.f (k : Nat) (l0 : List (S105)) (a1 : Int) (a2 : Int) : Option ((List (S105))) := (ephem_table_find.f k l0 a1).bind fun bt177 => (if 0 ≤ bt177.1 then (if bt177.1 < (l0.length : Int) then (some (l0.set (bt177.1 : Int).toNat (⟨1, a1, a2⟩ : S105))) else (none)) else (none))
theorem ephem_table_lay.mono : ∀ a0 a1 a2 k, LeO (ephem_table_lay.f k a0 a1 a2) (ephem_table_lay.f (k + 1) a0 a1 a2) := by
  intro a0 a1 a2 k
  unfold ephem_table_lay.f
  repeat' first
      | (with_reducible exact ephem_table_find.mono _ _ _)
      | (with_reducible exact LeO.refl _)
      | (with_reducible exact LeO.none _)
      | (with_reducible refine LeO.ite ?_ ?_)
      | (with_reducible refine LeO.bind ?_ (fun _ => ?_))
      | exact ephem_table_find.mono _ _ _
      | exact LeO.none _
      | refine LeO.ite ?_ ?_
      | refine LeO.bind ?_ (fun _ => ?_)
set_option maxHeartbeats 8000000 in
set_option maxRecDepth 100000 in
theorem ephem_table_lay.calls (k : Nat) (gt : Nat) (P0_ : Nat → Prop) (u9000_ : Value) (l0 : List (S105)) (a1 : Int) (a2 : Int) (r : List (S105)) (w0 w : World) (hB : Below w0.heap.size w0 w) (ho0 : Kd.R k105 105 w w0.heap.size P0_ u9000_ l0) (hbt : w.heap[gt]? = some (.cells #[u9000_] 101 (0, 0))) (h : ephem_table_lay.f k l0 a1 a2 = some r) :
    Calls Try.prog 55 #[.pointer (some ⟨gt, 0, none⟩), .int .u64 a1, .int .u64 a2] w fun e w' => e = .returned (.tuple #[]) ∧ Kd.R k105 105 w' w0.heap.size (fun k_ => (P0_ k_ ∨ w.heap.size ≤ k_)) u9000_ r ∧ Below w0.heap.size w0 w' ∧ Kept w w' (fun k_ => P0_ k_) := by
  have hu105 := Try.underlying105
  have hut := Try.underlying101
  have hue := Try.underlying64
  have HBT := Aside0.mk hbt
  have hct : w.cell? ⟨gt, 0, none⟩ = some u9000_ := (blk_cell hbt 0).trans rfl
  clear hbt
  have HO0 := Aside0.mk (show Kd.R k105 105 w w0.heap.size (fun k_ => (P0_ k_ ∨ w.heap.size ≤ k_)) u9000_ l0 from Kd.R_mono ho0 (fun k_ hk => (.inl hk)))
  have HK := Aside0.mk (Kept.refl w (fun k_ => P0_ k_))
  have HW0 := Aside0.mk hB.size
  have HB := Aside0.mk hB
  clear hB
  have H : ((ephem_table_find.f k l0 a1).bind fun bt177 => (if 0 ≤ bt177.1 then (if bt177.1 < (l0.length : Int) then (some (l0.set (bt177.1 : Int).toNat (⟨1, a1, a2⟩ : S105))) else (none)) else (none))) = some r := h
  clear h
  replace H := Option.bind_eq_some_iff.mp H
  obtain ⟨⟨t177, t178⟩, A40, H⟩ := H
  replace H : (if 0 ≤ t177 then (if t177 < (l0.length : Int) then (some (l0.set (t177 : Int).toNat (⟨1, a1, a2⟩ : S105))) else (none)) else (none)) = some r := H
  have A4 := Aside0.mk A40
  clear A40
  by_cases c5 : 0 ≤ t177
  · rw [if_pos c5] at H
    have c5b0 : decide (0 ≤ t177) = true := decide_eq_true c5
    clear c5
    by_cases c6 : t177 < (l0.length : Int)
    · rw [if_pos c6] at H
      have c6b0 : decide (t177 < (l0.length : Int)) = true := decide_eq_true c6
      clear c6
      obtain ⟨y179, hy179⟩ : ∃ y_ : List (S105), y_ = (l0.set (t177 : Int).toNat (⟨1, a1, a2⟩ : S105)) := ⟨_, rfl⟩
      replace H : (some y179) = some r := by first | (rw [hy179]; with_reducible exact H) | (have H2_ := (Option.bind_some _ _).symm.trans H; rw [hy179]; with_reducible exact H2_) | (have H2_ := (Option.bind_some _ _).symm.trans H; with_reducible exact H2_) | with_reducible exact H | (rw [hy179]; exact H) | exact H
      have Ny179 := Aside0.mk hy179
      clear hy179
      obtain rfl := Option.some.inj H
      obtain ⟨Ao8, co8, eo8⟩ := Kd.R_slice HO0.out
      subst eo8
      go_enter Try.func55, Try.ntmps55
      go_wp2_with (first | ((with_reducible refine gate_callee (f := 52) rfl ?_); refine goesL_ (some 11) rfl rfl Try.func52 (by kernel_rfl) rfl #[.pointer (some ⟨gt, 0, none⟩), .int .u64 a1] rfl (by (try simp only [List.map_toArray, List.map_cons, List.map_nil]); first | done | rfl | (simp only [List.length_drop, List.length_take]; rfl)) ?_; (with_reducible refine (ephem_table_find.calls k gt Ao8 co8 l0 a1 t177 t178 _ ?side1 ?side2 ?sideb A4.out).mono ?_); (case side1 => repeat (first | exact (Kd.R_reads' HO0.out).2.2 | (with_reducible refine Kd.C_alloc ?_ _) | (with_reducible refine Kd.C_drewN ?_ _) | (with_reducible refine Kd.C_drew ?_))); (case side2 => exact (Kd.R_reads' HO0.out).2.1); (case sideb => exact HBT.out); rintro e w9 ⟨rfl, hb⟩; refine ⟨_, rfl, ?_⟩; have hct9 := (hb.cell (World.block_lt_of_cell? _ _ hct)).trans hct; clear hct; have n0_ := Aside0.mk (Kd.R_below (by (with_reducible repeat (first | apply Kd.R_alloc | apply Kd.R_drewN | apply Kd.R_drew)); exact HO0.out) hb); have n1_ := Aside0.mk (Kept.below (S := (fun k_ => P0_ k_)) (by repeat (first | (with_reducible first | exact HK.out | apply Kept.alloc | apply Kept.drewN | apply Kept.drew) | exact HK.out)) hb); have n2_ := Aside0.mk (below_step (by repeat (first | (with_reducible first | exact HB.out | apply below_alloc | apply pw_below_drewN | apply below_drew1) | exact HB.out)) hb); clear HO0; clear HK; clear HB; have HO0 := n0_; have HK := n1_; have HB := n2_; clear n0_ n1_ n2_; (try clear hb); (try clear hb2); (try clear hk); (try clear hi); have p7 : 0 ≤ (t177 : Int) := of_decide_eq_true (by first | (with_reducible assumption) | assumption); have q7 : (t177 : Int) < ((l0.length : Int) : Int) := of_decide_eq_true (by first | (with_reducible assumption) | assumption); obtain ⟨go7, co7, eo7, gb7, gl7, cl7, HG7⟩ := Kd.R_form HO0.out (by omega); (first | cases eo7 | (injection eo7 with ea_ en_ ec_; (first | subst ea_ | (injection ea_ with ea_; subst ea_)); subst ec_; clear en_)); have GB7 := Aside0.mk gb7; have GG7 := Aside0.mk HG7; clear gb7 gl7 HG7; have HMgo7 := Aside0.mk (show (P0_ go7 ∨ w.heap.size ≤ go7) from (HO0.out.1 _ rfl)); obtain ⟨ce7, hcl7, hM7, hcc7, hfr7⟩ := Kd.R_elem HO0.out z105 (t177 : Int) p7 q7; obtain rfl := k105_openM hM7; have hx7_0 : w9.cell? ⟨go7, (t177 : Int).toNat * 3, none⟩ = some (.int .u8 ((rd_T105 l0 t177).f0)) := hcc7 0 _ rfl; have hx7_1 : w9.cell? ⟨go7, (t177 : Int).toNat * 3 + 1, none⟩ = some (.int .u64 ((rd_T105 l0 t177).f1)) := hcc7 1 _ rfl; have hx7_2 : w9.cell? ⟨go7, (t177 : Int).toNat * 3 + 2, none⟩ = some (.int .u64 ((rd_T105 l0 t177).f2)) := hcc7 2 _ rfl; have hf7_0 : w9.frozen? ⟨go7, (t177 : Int).toNat * 3, none⟩ = false := hfr7 0; have hf7_1 : w9.frozen? ⟨go7, (t177 : Int).toNat * 3 + 1, none⟩ = false := hfr7 1; have hf7_2 : w9.frozen? ⟨go7, (t177 : Int).toNat * 3 + 2, none⟩ = false := hfr7 2; clear hcl7 hcc7 hfr7 hM7; replace p7 := eq_true p7; replace q7 := eq_true q7; have HX10 := Aside0.mk (show Kd.R k105 105 w9 w0.heap.size (fun k_ => (P0_ k_ ∨ w.heap.size ≤ k_)) (.slice (some ⟨go7, 0, none⟩) l0.length co8) l0 from (by (with_reducible repeat (first | apply Kd.R_alloc | apply Kd.R_drewN | apply Kd.R_drew)); exact HO0.out)); obtain ⟨ce10, hcl10, hM10, hcc10, hfr10⟩ := Kd.R_elem HX10.out z105 (t177 : Int) (of_decide_eq_true (by first | (with_reducible assumption) | assumption)) (by have h_ : (t177 : Int) < ((l0.length : Int) : Int) := of_decide_eq_true (by first | (with_reducible assumption) | assumption); first | exact h_ | (have e_ := (Kd.R_reads' HO0.out).1; omega) | simpa using h_); obtain rfl := k105_openM hM10; have HP10 := Kd.R_seg HX10.out (t177 : Int) (of_decide_eq_true (by first | (with_reducible assumption) | assumption)) (by have h_ : (t177 : Int) < ((l0.length : Int) : Int) := of_decide_eq_true (by first | (with_reducible assumption) | assumption); first | exact h_ | (have e_ := (Kd.R_reads' HO0.out).1; omega) | simpa using h_) (seg := [.int .u8 1, .int .u64 a1, .int .u64 a2]) (j := 0) hcl10 hcc10 (show 3 ≤ 3 from by decide) (x' := (⟨1, a1, a2⟩ : S105)) (k105_mkM _ _ _ (⟨1, a1, a2⟩ : S105) ) (fun _ hk => hk); have hx10_0 := hcc10 0 _ rfl; (try simp only [show (k105).sz = 3 from rfl, Nat.mul_one, Nat.add_zero] at hx10_0); have hf10_0 := hfr10 0; (try simp only [show (k105).sz = 3 from rfl, Nat.mul_one, Nat.add_zero] at hf10_0); have hx10_1 := hcc10 1 _ rfl; (try simp only [show (k105).sz = 3 from rfl, Nat.mul_one, Nat.add_zero] at hx10_1); have hf10_1 := hfr10 1; (try simp only [show (k105).sz = 3 from rfl, Nat.mul_one, Nat.add_zero] at hf10_1); have hx10_2 := hcc10 2 _ rfl; (try simp only [show (k105).sz = 3 from rfl, Nat.mul_one, Nat.add_zero] at hx10_2); have hf10_2 := hfr10 2; (try simp only [show (k105).sz = 3 from rfl, Nat.mul_one, Nat.add_zero] at hf10_2); clear hcl10 hcc10 hfr10 hM10) | ((with_reducible refine gate_store (t := 105) (p := 23) rfl ?_); refine store_event (t := 105) (p := 23) (v := ?vo_w11) (w1 := (((w9.setCell ⟨go7, (t177 : Int).toNat * 3, none⟩ (.int .u8 1)).setCell ⟨go7, (t177 : Int).toNat * 3 + 1, none⟩ (.int .u64 a1)).setCell ⟨go7, (t177 : Int).toNat * 3 + 2, none⟩ (.int .u64 a2))) ?hg ?ho ?hn ?hr ?_; (case ho => rfl); (case hg => rfl); (case hn => rfl); (case hr => first | (go_simp; done) | (go_simp; rfl)); intro w11 hw; have hg : w9.grownBy w11 (some go7) := (by rw [hw]; exact HP10.2); have hp_ : Kd.R k105 105 w11 w0.heap.size (fun k_ => (P0_ k_ ∨ w.heap.size ≤ k_)) (.slice (some ⟨go7, 0, none⟩) l0.length co8) y179 := (by rw [hw, Ny179.out]; exact HP10.1); clear HP10; have n0_ := Aside0.mk (hp_); have n1_ := Aside0.mk ((by rw [hw]; exact below_set (below_set (below_set (HB.out) GB7.out) GB7.out) GB7.out : Below w0.heap.size w0 w11)); have n2_ := Aside0.mk (Kept.of_grown (S := (fun k_ => P0_ k_)) hg (by repeat (first | (with_reducible first | exact HK.out | apply Kept.alloc | apply Kept.drewN | apply Kept.drew) | exact HK.out)) (fun k_ e_ => (HO0.out.1 k_ e_))); clear HO0; clear HB; clear HK; have HO0 := n0_; have HB := n1_; have HK := n2_; clear n0_ n1_ n2_; clear hg hw hp_))
      first | go_end0 | ((try simp only [Exit.inBlock, Exit.then]); refine bodyPost_ret (results_none rfl _ _ _) rfl ?_)
      exact ⟨by first | rfl | (simp [errW_none, errW_some] <;> rfl) | (simp [*, errW_none, errW_some] <;> rfl), by (with_reducible repeat (first | apply Kd.R_alloc | apply Kd.R_drewN | apply Kd.R_drew)); exact HO0.out, by repeat (first | (with_reducible first | exact HB.out | apply below_alloc | apply pw_below_drewN | apply below_drew1) | exact HB.out), by repeat (first | (with_reducible first | exact HK.out | apply Kept.alloc | apply Kept.drewN | apply Kept.drew) | exact HK.out)⟩
    · rw [if_neg c6] at H
      exact absurd H (by simp)
  · rw [if_neg c5] at H
    exact absurd H (by simp)

/-! ### ephem_table_anew: function 54 -/
structure AN (w0 w W : World) (gt : Nat) (v : Value) : Prop where
  b : Below w0.heap.size w0 W
  t : W.heap[gt]? = some (.cells #[v] 101 (0, 0))
  k : KeepBut w W gt none
section
variable {w0 w W W1 : World} {gt : Nat} {v : Value}
theorem AN.below (h : AN w0 w W gt v) (hb : Below W.heap.size W W1) : AN w0 w W1 gt v :=
  ⟨below_step h.b hb, blk_below h.t hb, ⟨Nat.le_trans h.k.1 hb.size, fun i hi hg hr => (hb.block i (Nat.lt_of_lt_of_le hi h.k.1)).trans (h.k.2 i hi hg hr)⟩⟩
theorem AN.drewN (h : AN w0 w W gt v) (m : Nat) : AN w0 w (W.drewN m) gt v := h.below (pw_below_drewN (Below.refl _ _) m)
theorem AN.drew (h : AN w0 w W gt v) : AN w0 w W.drew gt v := h.below (below_drew1 (Below.refl _ _))
theorem AN.alloc (h : AN w0 w W gt v) (o : Obj) : AN w0 w (W.alloc o) gt v := h.below (below_alloc (Below.refl _ _) o)
theorem AN.set (h : AN w0 w W gt v) (hge : w0.heap.size ≤ gt) (u : Value) : AN w0 w (W.setCell ⟨gt, 0, none⟩ u) gt u :=
  ⟨below_set h.b hge, blk_put (cs := #[v]) h.t 0 u rfl, ⟨by simpa [World.setCell] using h.k.1, fun i hi hg hr => (Below.heap_setCell W ⟨gt, 0, none⟩ u i hg).trans (h.k.2 i hi hg hr)⟩⟩
theorem AN.kept {S : Nat → Prop} (h : AN w0 w W gt v) (hb0 : Below w0.heap.size w0 W1) (hk : Kept W W1 S) (hS : ∀ i, i < w.heap.size → ¬ S i) (hg : ¬ S gt) : AN w0 w W1 gt v :=
  ⟨hb0, (hk.2 gt (blk_lt h.t) hg).trans h.t, ⟨Nat.le_trans h.k.1 hk.1, fun i hi hne hr => (hk.2 i (Nat.lt_of_lt_of_le hi h.k.1) (hS i hi)).trans (h.k.2 i hi hne hr)⟩⟩
theorem tab_C {A : Option Addr} {n : Nat} {l : List S105} (h : Kd.C k105 w A n l) (hf : ∀ ad, A = some ad → 0 < n → ad.block ≠ gt) (hk : KeepBut w W gt none) : Kd.C k105 W A n l :=
  Kd.C_foot_ne (fun h_ => by obtain rfl := k105_open h_; exact k105_mk _ _) h hf W hk
theorem below_of_grown (hg : W.grownBy W1 none) : Below W.heap.size W W1 := ⟨hg.os, hg.tape, hg.output, hg.size, fun k hk => hg.block k hk (by simp)⟩
end
def szF : Nat → Int → Int → Option Int
  | 0, _, _ => none
  | f + 1, s, u => if wrap64 (2 * u) > s then szF f (s * 2) u else some s
theorem szF_step {f : Nat} {x u s : Int} (h : szF f x u = some s) : ∃ g, f = g + 1 ∧ ((wrap64 (2 * u) > x ∧ szF g (x * 2) u = some s ∧ g ≠ 0) ∨ (¬ wrap64 (2 * u) > x ∧ s = x)) := by
  cases f with
  | zero => cases h
  | succ g =>
    refine ⟨g, rfl, ?_⟩
    rw [szF] at h
    by_cases c : wrap64 (2 * u) > x
    · rw [if_pos c] at h
      exact .inl ⟨c, h, fun e => by subst e; cases h⟩
    · rw [if_neg c] at h
      exact .inr ⟨c, (Option.some.inj h).symm⟩
def layAll (k : Nat) : List S105 → List S105 → Option (List S105)
  | [], cur => some cur
  | x :: xs, cur => if x.f0 = 1 then (ephem_table_lay.f k cur x.f1 x.f2).bind fun c2 => layAll k xs c2 else layAll k xs cur
theorem layAll_mono (k : Nat) : ∀ (l cur : List S105), LeO (layAll k l cur) (layAll (k + 1) l cur)
  | [], _ => LeO.refl _
  | x :: xs, cur => by
    unfold layAll
    exact LeO.ite (LeO.bind (ephem_table_lay.mono _ _ _ _) (fun c2 => layAll_mono k xs c2)) (layAll_mono k xs cur)
theorem drop_T {l : List S105} {i : Int} (h0 : 0 ≤ i) (h : i < (l.length : Int)) : l.drop i.toNat = rd_T105 l i :: l.drop (i + 1).toNat := by
  have hl : i.toNat < l.length := by omega
  rw [List.drop_eq_getElem_cons hl, show (i + 1).toNat = i.toNat + 1 by omega]
  congr 1
  unfold rd_T105
  rw [List.getD_eq_getElem?_getD, List.getElem?_eq_getElem hl]; rfl
def ephem_table_anew.f (k : Nat) (l : List S105) : Option (List S105) := (ephem_table_many.f k l 1).bind fun q => (szF 4 8 (wrap64 (q + 1))).bind fun s => layAll k l (List.replicate s.toNat z105)
theorem ephem_table_anew.mono : ∀ a0 k, LeO (ephem_table_anew.f k a0) (ephem_table_anew.f (k + 1) a0) := by
  intro a0 k
  unfold ephem_table_anew.f
  exact LeO.bind (ephem_table_many.mono _ _ _) (fun _ => LeO.bind (LeO.refl _) (fun _ => layAll_mono _ _ _))
set_option maxHeartbeats 8000000 in
set_option maxRecDepth 100000 in
theorem ephem_table_anew.calls (k : Nat) (gt : Nat) (A : Option Addr) (c : Nat) (l : List S105) (r : List S105) (w0 w : World) (hB : Below w0.heap.size w0 w) (hge : w0.heap.size ≤ gt) (hr0 : Kd.C k105 w A l.length l) (hc0 : l.length ≤ c) (hne : ∀ ad, A = some ad → 0 < l.length → ad.block ≠ gt) (hbt : w.heap[gt]? = some (.cells #[.slice A l.length c] 101 (0, 0))) (h : ephem_table_anew.f k l = some r) :
    Calls Try.prog 54 #[.pointer (some ⟨gt, 0, none⟩)] w fun e w' => e = .returned (.bool true) ∧ ∃ v : Value, Kd.R k105 105 w' w0.heap.size (fun _ => True) v r ∧ w'.heap[gt]? = some (.cells #[v] 101 (0, 0)) ∧ Below w0.heap.size w0 w' ∧ KeepBut w w' gt none := by
  have hut := Try.underlying101
  have hue := Try.underlying64
  have hus := Try.underlying105
  have hct : w.cell? ⟨gt, 0, none⟩ = some (.slice A l.length c) := (blk_cell hbt 0).trans rfl
  have HA := Aside0.mk (AN.mk hB hbt ⟨Nat.le_refl _, fun _ _ _ _ => rfl⟩)
  have HR0 := Aside0.mk hr0
  have HC0 := Aside0.mk hc0
  have HNE := Aside0.mk hne
  have HGE := Aside0.mk hge
  clear hB hge hr0 hc0 hne hbt
  have H := h
  clear h
  unfold ephem_table_anew.f at H
  replace H := Option.bind_eq_some_iff.mp H
  obtain ⟨q, A1, H⟩ := H
  replace A1 := Aside0.mk A1
  replace H := Option.bind_eq_some_iff.mp H
  obtain ⟨s, A2, H⟩ := H
  replace A2 := Aside0.mk A2
  have A3 := Aside0.mk H
  clear H
  go_enter Try.func54, Try.ntmps54
  go_wp2_with (first | ((with_reducible refine gate_callee (f := 53) rfl ?_); refine goesL_ (some 9) rfl rfl Try.func53 (by kernel_rfl) rfl #[.pointer (some ⟨gt, 0, none⟩), .int .u8 1] rfl (by (try simp only [List.map_toArray, List.map_cons, List.map_nil]); first | done | rfl | (simp only [List.length_drop, List.length_take]; rfl)) ?_; (with_reducible refine (ephem_table_many.calls k gt A c l 1 q _ ?side1 ?side2 ?sideb A1.out).mono ?_); (case side1 => exact HR0.out); (case side2 => exact HC0.out); (case sideb => exact HA.out.t); rintro e w20 ⟨rfl, hb⟩; refine ⟨_, rfl, ?_⟩; have n1_ := Aside0.mk (AN.below HA.out hb); clear HA hct; have HA := n1_; clear n1_ hb))
  go_loopw [3] (fun v3 wr => ∃ (f : Nat) (x : Int), v3 = .int .i64 x ∧ Aside0 ((f = 4 ∧ x = 8) ∨ (f = 3 ∧ x = 16) ∨ (f = 2 ∧ x = 32) ∨ (f = 1 ∧ x = 64)) ∧ Aside0 (szF f x (wrap64 (q + 1)) = some s) ∧ Aside0 (AN w0 w wr gt (.slice A l.length c))) (fun v3 _ => (1000 - intOf v3).toNat)
  case atStart => exact ⟨4, 8, rfl, ⟨.inl ⟨rfl, rfl⟩⟩, A2, ⟨(by (with_reducible repeat (first | refine AN.drewN ?_ _ | refine AN.drew ?_ | refine AN.alloc ?_ _)); exact HA.out)⟩⟩
  case round =>
    clear HA A2
    obtain ⟨f, x, rfl, HF, A2, HA⟩ := hrel
    obtain ⟨g, hg, hs | hs⟩ := szF_step A2.out
    · obtain ⟨c1, H, hg0⟩ := hs
      have c1b := decide_eq_true c1
      have c1d : decide (x < wrap64 (2 * wrap64 (q + 1))) = true := c1b
      have hw : wrap64 (x * 2) = x * 2 := by have := HF.out; unfold wrap64; omega
      have HF2 : Aside0 ((g = 4 ∧ x * 2 = 8) ∨ (g = 3 ∧ x * 2 = 16) ∨ (g = 2 ∧ x * 2 = 32) ∨ (g = 1 ∧ x * 2 = 64)) := ⟨by have := HF.out; omega⟩
      have A4 := Aside0.mk H
      have HX := Aside0.mk (show 0 < x ∧ x ≤ 64 by have := HF.out; omega)
      clear H hg hg0 c1 HF A2 c1b
      go_wp2
      go_roundw
      case rel => exact ⟨g, x * 2, by first | exact congrArg (Value.int .i64) hw | (simp only [i64_w]; exact congrArg (Value.int .i64) hw) | (simp [hw]; done), HF2, A4, ⟨(by (with_reducible repeat (first | refine AN.drewN ?_ _ | refine AN.drew ?_ | refine AN.alloc ?_ _)); exact HA.out)⟩⟩
      case measure => have := HX.out; first | (simp [intOf, hw]; omega) | (simp [intOf, i64_w, hw]; omega)
    · obtain ⟨c1, rfl⟩ := hs
      have c1d : decide (s < wrap64 (2 * wrap64 (q + 1))) = false := decide_eq_false c1
      have c2d : decide (64 < s) = false := decide_eq_false (by have := HF.out; omega)
      obtain ⟨x, hx⟩ : ∃ x, x = s := ⟨_, rfl⟩
      rw [← hx] at c1d c2d A3 HF ⊢
      obtain ⟨L0, hL0⟩ : ∃ L, L = List.replicate x.toNat z105 := ⟨_, rfl⟩
      replace A3 : Aside0 (layAll k l L0 = some r) := ⟨by rw [hL0]; exact A3.out⟩
      have HL0 := Aside0.mk hL0
      have hctr : wr.cell? ⟨gt, 0, none⟩ = some (.slice A l.length c) := (blk_cell HA.out.t 0).trans rfl
      clear A2 c1 hg hx hL0
      go_wp2_with (first | ((with_reducible refine gate_dst (N := 26) rfl ?_); refine Kd.R_make k105 (w0 := w0) w0.heap.size 105 ?hg (N := 26) ?hd 62 (.tmp 25) (.tmp 25) rfl x rfl rfl Try.underlying62 (.agg #[.int .u8 0, .int .u64 0, .int .u64 0]) 24 cloneE_info rfl (by decide) (by decide) z105 (ok := fun _ => True) (okp := fun _ => True) (k105_mkM _ _ _ z105) (fun _ h => h) trivial ?h0 ?hl ?hB ?hb ?_; (case hd => rfl); (case hg => rfl); (case h0 => have := HF.out; omega); (case hl => have := HF.out; omega); (case hB => exact ((by (with_reducible repeat (first | refine AN.drewN ?_ _ | refine AN.drew ?_ | refine AN.alloc ?_ _)); exact HA.out) : AN _ _ _ _ _).b); (case hb => exact ((by (with_reducible repeat (first | refine AN.drewN ?_ _ | refine AN.drew ?_ | refine AN.alloc ?_ _)); exact HA.out) : AN _ _ _ _ _).b.size); intro v26 w26 ho hb hg hnew; clear hb; have n1_ := Aside0.mk (AN.below (by (with_reducible repeat (first | refine AN.drewN ?_ _ | refine AN.drew ?_ | refine AN.alloc ?_ _)); exact HA.out) (below_of_grown hg)); have n2_ : Aside0 (∀ k_, v26.ownBlock = some k_ → w.heap.size ≤ k_) := ⟨fun k_ hk_ => by obtain ⟨b_, hb_, hle_⟩ := hnew; rw [hb_] at hk_; have := Option.some.inj hk_; have := ((by (with_reducible repeat (first | refine AN.drewN ?_ _ | refine AN.drew ?_ | refine AN.alloc ?_ _)); exact HA.out) : AN _ _ _ _ _).k.1; omega⟩; clear HA hctr hg hnew; have HA := n1_; have HGS := n2_; clear n1_ n2_; rw [← HL0.out] at ho; have HS := Aside0.mk ho; clear ho; obtain ⟨As, cs, es⟩ := Kd.R_slice HS.out; subst es; have hct26 : w26.cell? ⟨gt, 0, none⟩ = some (.slice A l.length c) := (blk_cell HA.out.t 0).trans rfl; have hft26 := blk_frozen HA.out.t 0))
      go_loopw [32] (fun v32 wr2 => ∃ (i : Int) (L : List S105), v32 = .int .i64 i ∧ Aside0 (0 ≤ i ∧ i ≤ (l.length : Int)) ∧ Aside0 (layAll k (l.drop i.toNat) L = some r) ∧ Aside0 (Kd.R k105 105 wr2 w0.heap.size (fun _ => True) (.slice As L0.length cs) L) ∧ Aside0 (AN w0 w wr2 gt (.slice As L0.length cs))) (fun v32 _ => l.length - (intOf v32).toNat)
      case atStart => exact ⟨0, L0, by first | rfl | (simp; done), ⟨⟨Int.le_refl _, by omega⟩⟩, A3, ⟨by (with_reducible repeat (first | apply Kd.R_alloc | apply Kd.R_drewN | apply Kd.R_drew)); exact Kd.R_set HS.out HA.out.t (by decide) 0 _⟩, ⟨by (with_reducible repeat (first | refine AN.drewN ?_ _ | refine AN.drew ?_ | refine AN.alloc ?_ _)); exact AN.set HA.out HGE.out _⟩⟩
      case round =>
        clear HS HA A3 hct26 hft26
        obtain ⟨i, L, rfl, HI, A3, HS, HA⟩ := hrel
        by_cases c3 : i < (l.length : Int)
        · have c3b : decide (i < (l.length : Int)) = true := decide_eq_true c3
          have p3 : 0 ≤ i := HI.out.1
          have H := A3.out
          rw [drop_T p3 c3] at H
          have hCw := tab_C HR0.out HNE.out HA.out.k
          have hML := hCw.2.1
          obtain ⟨ad, eA, hx0, hx1, hx2⟩ := at_T105 hCw i p3 c3
          subst eA
          have hwi : wrap64 (i + 1) = i + 1 := by unfold wrap64; omega
          have HI2 := Aside0.mk (show 0 ≤ i + 1 ∧ i + 1 ≤ (l.length : Int) by omega)
          have HC3 := Aside0.mk c3
          clear hCw A3 hML
          rw [layAll] at H
          by_cases c4 : (rd_T105 l i).f0 = 1
          · rw [if_pos c4] at H
            have c4b : ((rd_T105 l i).f0 == 1) = true := beq_iff_eq.mpr c4
            replace H := Option.bind_eq_some_iff.mp H
            obtain ⟨L2, AL, H⟩ := H
            replace AL := Aside0.mk AL
            have A4 := Aside0.mk H
            have p3e := eq_true p3
            have q3e := eq_true c3
            clear H c3 c4 p3
            go_wp2_with (first | ((with_reducible refine gate_callee (f := 55) rfl ?_); refine goesL_ (some 44) rfl rfl Try.func55 (by kernel_rfl) rfl #[.pointer (some ⟨gt, 0, none⟩), .int .u64 (rd_T105 l i).f1, .int .u64 (rd_T105 l i).f2] rfl (by (try simp only [List.map_toArray, List.map_cons, List.map_nil]); first | done | rfl | (simp only [List.length_drop, List.length_take]; rfl)) ?_; (with_reducible refine (ephem_table_lay.calls k gt (fun k_ => some k_ = (.slice As L0.length cs : Value).ownBlock) (.slice As L0.length cs) L _ _ L2 w0 _ ?sB ?sR ?sT AL.out).mono ?_); (case sB => exact AN.b (w := w) (gt := gt) (v := .slice As L0.length cs) (by (with_reducible repeat (first | refine AN.drewN ?_ _ | refine AN.drew ?_ | refine AN.alloc ?_ _)); exact HA.out)); (case sR => exact Kd.R_reok rfl (by (with_reducible repeat (first | apply Kd.R_alloc | apply Kd.R_drewN | apply Kd.R_drew)); exact HS.out) (fun k_ h_ => h_.symm)); (case sT => exact AN.t (w0 := w0) (w := w) (by (with_reducible repeat (first | refine AN.drewN ?_ _ | refine AN.drew ?_ | refine AN.alloc ?_ _)); exact HA.out)); rintro e w44 ⟨rfl, ho, hb0, hk⟩; refine ⟨_, rfl, ?_⟩; have n1_ := Aside0.mk (Kd.R_mono ho (ok' := fun _ => True) (fun _ _ => trivial)); have n2_ := Aside0.mk (AN.kept (show AN w0 w _ gt (.slice As L0.length cs) from (by (with_reducible repeat (first | refine AN.drewN ?_ _ | refine AN.drew ?_ | refine AN.alloc ?_ _)); exact HA.out)) hb0 hk (fun i_ hi_ he_ => by have := HGS.out i_ he_.symm; omega) (fun he_ => Kd.R_ne HS.out HA.out.t (by decide) he_)); clear HS HA ho hb0 hk; have HS := n1_; have HA := n2_; clear n1_ n2_))
            go_roundw
            case rel => exact ⟨i + 1, L2, by first | exact congrArg (Value.int .i64) hwi | (simp only [i64_w]; exact congrArg (Value.int .i64) hwi) | (simp [hwi]; done), HI2, A4, ⟨by (with_reducible repeat (first | apply Kd.R_alloc | apply Kd.R_drewN | apply Kd.R_drew)); exact HS.out⟩, ⟨by (with_reducible repeat (first | refine AN.drewN ?_ _ | refine AN.drew ?_ | refine AN.alloc ?_ _)); exact HA.out⟩⟩
            case measure => have := HC3.out; have := HI2.out; have := HI.out; first | (show l.length - (intOf (Value.int .i64 (wrap64 (i + 1)))).toNat < l.length - (intOf (Value.int .i64 i)).toNat; rw [hwi]; simp only [intOf]; omega) | (simp [intOf, hwi]; omega) | (simp [intOf, i64_w, hwi]; omega)
          · rw [if_neg c4] at H
            have c4b : ((rd_T105 l i).f0 == 1) = false := beq_eq_false_iff_ne.mpr c4
            have A4 := Aside0.mk H
            have p3e := eq_true p3
            have q3e := eq_true c3
            clear H c3 c4 p3
            go_wp2
            go_roundw
            case rel => exact ⟨i + 1, L, by first | exact congrArg (Value.int .i64) hwi | (simp only [i64_w]; exact congrArg (Value.int .i64) hwi) | (simp [hwi]; done), HI2, A4, ⟨by (with_reducible repeat (first | apply Kd.R_alloc | apply Kd.R_drewN | apply Kd.R_drew)); exact HS.out⟩, ⟨by (with_reducible repeat (first | refine AN.drewN ?_ _ | refine AN.drew ?_ | refine AN.alloc ?_ _)); exact HA.out⟩⟩
            case measure => have := HC3.out; have := HI2.out; have := HI.out; first | (show l.length - (intOf (Value.int .i64 (wrap64 (i + 1)))).toNat < l.length - (intOf (Value.int .i64 i)).toNat; rw [hwi]; simp only [intOf]; omega) | (simp [intOf, hwi]; omega) | (simp [intOf, i64_w, hwi]; omega)
        · have c3b : decide (i < (l.length : Int)) = false := decide_eq_false c3
          have hi : i.toNat = l.length := by have := HI.out; omega
          have H := A3.out
          rw [hi, List.drop_length, layAll] at H
          obtain rfl := Option.some.inj H
          clear H hi c3 A3
          go_wp2
          go_ret
          have HZ := (show AN w0 w _ gt _ from (by (with_reducible repeat (first | refine AN.drewN ?_ _ | refine AN.drew ?_ | refine AN.alloc ?_ _)); exact HA.out))
          exact ⟨by first | rfl | (simp; done), _, by (with_reducible repeat (first | apply Kd.R_alloc | apply Kd.R_drewN | apply Kd.R_drew)); exact HS.out, HZ.t, HZ.b, HZ.k⟩

end Go.Proofs.Ytbdlehbaioaglaa.GT
