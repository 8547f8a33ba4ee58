/- Made by gprint.py, this session's program over the kit's print program, out of the translation; the functions that it does not print are proved by hand (wip/given). Lean checks it. -/
import Derived.Test.YthphncefbahcaaaDoorGTx0
import Derived.Test.YthphncefbahcaaaDoorGTx1
import Derived.Test.YthphncefbahcaaaDoorGTx2
import Derived.Test.YthphncefbahcaaaDoorGTx3
import Derived.Test.YthphncefbahcaaaDoorGTx4
namespace Go.Proofs.YthphncefbahcaaaDoor.GT
open Go.RowKit Go.Proofs.YthphncefbahcaaaDoorW.PrintWords Go.Proofs.YthphncefbahcaaaDoorW.PrintLast Go.Proofs.YthphncefbahcaaaDoorW.PrintMore
attribute [local go_sem] max2_int min2_int max_two min_two max_three min_three max_four min_four   -- for this text's walks alone
set_option linter.unusedVariables false
set_option linter.unusedSimpArgs false

/-- A list without its element at the place that a one element's list tells. -/
def cutAt (l y : List Int) : List Int := l.take (y.headD 0).toNat ++ l.drop ((y.headD 0).toNat + 1)
def AP (u v : Value) : Prop := ∀ k, u.ownBlock = some k → some k ≠ v.ownBlock
theorem AP.symm {u v : Value} (h : AP u v) : AP v u := fun k hk he => h k he.symm hk.symm
theorem ap_new {e base : Nat} {ok : Nat → Prop} {W : World} {v u : Value} {xs : List Int} (h : Kd.R (Kd.int .i64) e W base ok v xs) (hn : ∃ b, u.ownBlock = some b ∧ W.heap.size ≤ b) : AP u v := fun k hk he => by
  obtain ⟨b, hb, hle⟩ := hn
  have h2 := Kd.R_lt h k he.symm
  rw [hk] at hb
  have := Option.some.inj hb
  omega
theorem ap_app {e base : Nat} {ok : Nat → Prop} {W : World} {v u s : Value} {xs : List Int} (h : Kd.R (Kd.int .i64) e W base ok v xs) (ha : AP s v) (hat : u.ownBlock = s.ownBlock ∨ ∃ b, u.ownBlock = some b ∧ W.heap.size ≤ b) : AP u v := fun k hk he => by
  rcases hat with hat | hat
  · exact ha k (hat.symm.trans hk) he
  · exact ap_new h hat k hk he
theorem ap_grown {e base : Nat} {ok : Nat → Prop} {W w1 : World} {v s : Value} {xs : List Int} (h : Kd.R (Kd.int .i64) e W base ok v xs) (ha : AP s v) (hg : W.grownBy w1 s.ownBlock) : Kd.R (Kd.int .i64) e w1 base ok v xs := Kd.R_grown2 h rfl hg (fun k hk => ha k hk)
theorem lit_grown {e base : Nat} {ok : Nat → Prop} {W w1 : World} {v : Value} {xs : List Int} (h : Kd.R (Kd.int .i64) e W base ok v xs) (hg : W.grownBy w1 none) : Kd.R (Kd.int .i64) e w1 base ok v xs := Kd.R_grown2 h rfl hg (fun k hk => by cases hk)
theorem reg_at {P : Program} {Q : Exit → Act → World → Prop} {id : Nat} {o o' : Array Oper} {a : Act} {w : World} (h : o = o') (hw : Code.wp P (Code.region id o' true) Q a w) : Code.wp P (Code.region id o true) Q a w := h ▸ hw
set_option maxHeartbeats 8000000 in
set_option maxRecDepth 100000 in
theorem reg35 {Q : Exit → Act → World → Prop} {t0 t1 t2 t3 t4 t5 t6 t8 t11 t12 t13 t14 t15 t16 t17 t18 t19 t20 t21 t22 t25 t26 t27 t28 t29 t30 t31 t32 t33 t34 t35 t36 t37 t38 t39 t40 t41 t42 t43 t44 t45 t46 t47 t48 t49 t50 t51 t52 t53 t54 t55 t56 t57 t58 t59 t60 t61 t62 t63 t64 t65 t66 t67 t68 t69 t70 t71 t72 t73 t74 t75 t76 t77 t78 t79 t80 t81 t82 t83 t84 t85 t86 t87 t88 t89 t90 t91 t92 t93 t94 t95 t96 t97 t98 t99 t100 t101 t102 t103 t104 t105 t106 t107 t108 t109 t110 t111 t112 t113 t114 t115 t116 t117 t118 t119 t120 t121 t122 t123 t124 t125 t126 t127 t128 t129 t130 t131 t132 t133 t134 t135 t136 t137 t138 t139 t140 t141 t142 t143 t144 t145 t146 t147 t148 t149 t150 t151 t152 t153 t154 t155 t156 t157 t158 t159 t160 t161 t162 t163 t164 t165 t166 t167 t168 t169 t170 t171 t172 t173 t174 t175 t176 t177 t178 t179 t180 t181 t182 t183 t184 t185 t186 : Value} {W : World} {gp gq : Nat} {pn qn : Int} {Ap Aq A9 A10 : Option Addr} {pl pc ql qc c9 c10 : Nat} {x9 x10 : List Int} {Kx : Int} {base : Nat}
    (z9_ : Kd.R (Kd.int .i64) 3 W base (fun _ => True) (.slice A9 x9.length c9) x9) (z10_ : Kd.R (Kd.int .i64) 3 W base (fun _ => True) (.slice A10 x10.length c10) x10) (zp_ : W.heap[gp]? = some (.cells #[.int .i64 pn, .slice Ap pl pc] 44 (0, 0))) (zq_ : W.heap[gq]? = some (.cells #[.int .i64 qn, .slice Aq ql qc] 44 (0, 0)))
    (hQp : ∀ c (a : Act) (N : Tmp) v w', Q (.panic c) (a.put (some N) v) w' → Q (.panic c) a w') (hk0 : 0 ≤ Kx) (hk1 : Kx < (x9.length : Int)) (hk2 : Kx < (x10.length : Int)) (hL9 : x9.length + 1 < 17592186044416) (hL10 : x10.length + 1 < 17592186044416)
    (h : ∀ (v164 v174 : Value) (wE : World) (s154 s155 s156 s157 s158 s159 s160 s161 s162 s163 s164 s165 s166 s167 s168 s169 s170 s171 s172 s173 s174 : Value), Kd.R (Kd.int .i64) 3 wE W.heap.size (fun _ => True) v164 (x9.take Kx.toNat ++ x9.drop (Kx.toNat + 1)) → Kd.R (Kd.int .i64) 3 wE W.heap.size (fun _ => True) v174 (x10.take Kx.toNat ++ x10.drop (Kx.toNat + 1)) → AP v174 v164 → Below W.heap.size W wE → Q .normal { tmps := #[t0, t1, t2, t3, t4, t5, t6, .pointer (some ⟨gp, 0, none⟩), t8, v164, v174, t11, t12, t13, t14, t15, t16, t17, t18, t19, t20, t21, t22, .int .i64 Kx, .pointer (some ⟨gq, 0, none⟩), t25, t26, t27, t28, t29, t30, t31, t32, t33, t34, t35, t36, t37, t38, t39, t40, t41, t42, t43, t44, t45, t46, t47, t48, t49, t50, t51, t52, t53, t54, t55, t56, t57, t58, t59, t60, t61, t62, t63, t64, t65, t66, t67, t68, t69, t70, t71, t72, t73, t74, t75, t76, t77, t78, t79, t80, t81, t82, t83, t84, t85, t86, t87, t88, t89, t90, t91, t92, t93, t94, t95, t96, t97, t98, t99, t100, t101, t102, t103, t104, t105, t106, t107, t108, t109, t110, t111, t112, t113, t114, t115, t116, t117, t118, t119, t120, t121, t122, t123, t124, t125, t126, t127, t128, t129, t130, t131, t132, t133, t134, t135, t136, t137, t138, t139, t140, t141, t142, t143, t144, t145, t146, t147, t148, t149, t150, t151, t152, t153, s154, s155, s156, s157, s158, s159, s160, s161, s162, s163, s164, s165, s166, s167, s168, s169, s170, s171, s172, s173, s174, t175, t176, t177, t178, t179, t180, t181, t182, t183, t184, t185, t186], defers := [] } ((wE.setCell ⟨gp, 0, none⟩ (.int .i64 qn)).setCell ⟨gp, 1, none⟩ (.slice Aq ql qc))) :
    Code.wp Tryd.prog (Code.region 35 (opsOf Tryd.f14 35) true) Q { tmps := #[t0, t1, t2, t3, t4, t5, t6, .pointer (some ⟨gp, 0, none⟩), t8, .slice A9 x9.length c9, .slice A10 x10.length c10, t11, t12, t13, t14, t15, t16, t17, t18, t19, t20, t21, t22, .int .i64 Kx, .pointer (some ⟨gq, 0, none⟩), t25, t26, t27, t28, t29, t30, t31, t32, t33, t34, t35, t36, t37, t38, t39, t40, t41, t42, t43, t44, t45, t46, t47, t48, t49, t50, t51, t52, t53, t54, t55, t56, t57, t58, t59, t60, t61, t62, t63, t64, t65, t66, t67, t68, t69, t70, t71, t72, t73, t74, t75, t76, t77, t78, t79, t80, t81, t82, t83, t84, t85, t86, t87, t88, t89, t90, t91, t92, t93, t94, t95, t96, t97, t98, t99, t100, t101, t102, t103, t104, t105, t106, t107, t108, t109, t110, t111, t112, t113, t114, t115, t116, t117, t118, t119, t120, t121, t122, t123, t124, t125, t126, t127, t128, t129, t130, t131, t132, t133, t134, t135, t136, t137, t138, t139, t140, t141, t142, t143, t144, t145, t146, t147, t148, t149, t150, t151, t152, t153, t154, t155, t156, t157, t158, t159, t160, t161, t162, t163, t164, t165, t166, t167, t168, t169, t170, t171, t172, t173, t174, t175, t176, t177, t178, t179, t180, t181, t182, t183, t184, t185, t186], defers := [] } W := by
  have key : ∀ o, opsOf Tryd.f14 35 = o → Code.wp Tryd.prog (Code.region 35 o true) Q { tmps := #[t0, t1, t2, t3, t4, t5, t6, .pointer (some ⟨gp, 0, none⟩), t8, .slice A9 x9.length c9, .slice A10 x10.length c10, t11, t12, t13, t14, t15, t16, t17, t18, t19, t20, t21, t22, .int .i64 Kx, .pointer (some ⟨gq, 0, none⟩), t25, t26, t27, t28, t29, t30, t31, t32, t33, t34, t35, t36, t37, t38, t39, t40, t41, t42, t43, t44, t45, t46, t47, t48, t49, t50, t51, t52, t53, t54, t55, t56, t57, t58, t59, t60, t61, t62, t63, t64, t65, t66, t67, t68, t69, t70, t71, t72, t73, t74, t75, t76, t77, t78, t79, t80, t81, t82, t83, t84, t85, t86, t87, t88, t89, t90, t91, t92, t93, t94, t95, t96, t97, t98, t99, t100, t101, t102, t103, t104, t105, t106, t107, t108, t109, t110, t111, t112, t113, t114, t115, t116, t117, t118, t119, t120, t121, t122, t123, t124, t125, t126, t127, t128, t129, t130, t131, t132, t133, t134, t135, t136, t137, t138, t139, t140, t141, t142, t143, t144, t145, t146, t147, t148, t149, t150, t151, t152, t153, t154, t155, t156, t157, t158, t159, t160, t161, t162, t163, t164, t165, t166, t167, t168, t169, t170, t171, t172, t173, t174, t175, t176, t177, t178, t179, t180, t181, t182, t183, t184, t185, t186], defers := [] } W := by
    intro o ho
    conv at ho => lhs; whnf
    subst ho
    have z9 := Aside0.mk (Kd.R_drew z9_)
    have z10 := Aside0.mk (Kd.R_drew z10_)
    have zb163 := Aside0.mk (blk_drew zp_)
    have zb200 := Aside0.mk (blk_drew zq_)
    have zB := Aside0.mk (below_drew1 (Below.refl W.heap.size W))
    have hk0_ := hk0
    have hz0_ := Aside0.mk hk0
    have hk1_ := hk1
    have hk2_ := Aside0.mk hk2
    have hm9_ := Aside0.mk hk1_
    have hm10_ := hk2_
    have hL9_ := Aside0.mk hL9
    have hL10_ := Aside0.mk hL10
    have HH := Aside0.mk h
    clear z9_ z10_ zp_ zq_ hk0 hk1 hk2 hL9 hL10 h
    refine start_ (n := 24) (S := fun w' => w'.cell? ⟨gq, 0, none⟩ = some (.int .i64 qn) ∧ w'.cell? ⟨gq, 1, none⟩ = some (.slice Aq ql qc)) (ds := [21]) #[false, false, false, false, false, false, false, false, false, false, false, false, false, false, false, false, false, false, false, false, false, false, false, false] (by kernel_rfl) rfl rfl ⟨(blk_cell zb200.out 0).trans rfl, (blk_cell zb200.out 1).trans rfl⟩ (fun hHeld => ?_)
    generalize W.drew = wz at z9 z10 zb163 zb200 zB hHeld ⊢
    have zz := Aside0.mk (Below.refl wz.heap.size wz)
    obtain ⟨i0_, hi0_, _, hsz_, _⟩ := info_parts info3
    have hr9_ := Kd.R_reads' z9.out
    have hr10_ := Kd.R_reads' z10.out
    have hJ_ : wrap64 (Kx + 1) = Kx + 1 := by have := hL9_.out; unfold wrap64; omega
    have ht9_ := cut_to (P := Tryd.prog) 56 3 .i64 Tryd.underlying56 hi0_ A9 x9.length c9 Kx hk0_ (by have := hk2_.out; omega) hr9_.2.1
    have hf9_ := cut_from (P := Tryd.prog) 56 3 .i64 Tryd.underlying56 hi0_ 1 hsz_ A9 x9.length c9 (Kx + 1) (by omega) (by have := hk2_.out; omega)
    have hx9_ := Kd.C_take hr9_.2.2 (m := Kx.toNat) (by have := hk2_.out; omega)
    have hy9_ := Kd.C_drop hr9_.2.2 (m := (Kx + 1).toNat) (c := c9) (by have := hk2_.out; omega) hr9_.2.1
    rw [List.length_take, Nat.min_eq_left (by have := hk2_.out; omega)] at hx9_
    rw [List.length_drop] at hy9_
    have ht10_ := cut_to (P := Tryd.prog) 56 3 .i64 Tryd.underlying56 hi0_ A10 x10.length c10 Kx hk0_ (by have := hk2_.out; omega) hr10_.2.1
    have hf10_ := cut_from (P := Tryd.prog) 56 3 .i64 Tryd.underlying56 hi0_ 1 hsz_ A10 x10.length c10 (Kx + 1) (by omega) (by have := hk2_.out; omega)
    have hx10_ := Kd.C_take hr10_.2.2 (m := Kx.toNat) (by have := hk2_.out; omega)
    have hy10_ := Kd.C_drop hr10_.2.2 (m := (Kx + 1).toNat) (c := c10) (by have := hk2_.out; omega) hr10_.2.1
    rw [List.length_take, Nat.min_eq_left (by have := hk2_.out; omega)] at hx10_
    rw [List.length_drop] at hy10_
    obtain ⟨n0_, hn0_⟩ : ∃ n, n = Kx.toNat := ⟨_, rfl⟩
    obtain ⟨n1_, hn1_⟩ : ∃ n, n = (Kx + 1).toNat := ⟨_, rfl⟩
    rw [← hn0_] at ht9_ ht10_ hx9_ hx10_
    rw [← hn1_] at hf9_ hf10_ hy9_ hy10_
    obtain ⟨Ad9, hAd9⟩ : ∃ A1, A1 = (if c9 = n1_ then A9 else (A9 : Option Addr).map (·.add (n1_ * 1))) := ⟨_, rfl⟩
    obtain ⟨cd9, hcd9⟩ : ∃ c1, c1 = c9 - n1_ := ⟨_, rfl⟩
    obtain ⟨nd9, hnd9⟩ : ∃ c1, c1 = x9.length - n1_ := ⟨_, rfl⟩
    rw [← hAd9, ← hcd9, ← hnd9] at hf9_
    replace hy9_ : Kd.C (Kd.int .i64) wz Ad9 nd9 (x9.drop n1_) := by rw [hAd9, hnd9]; exact hy9_
    have hc9_ := Aside0.mk hx9_
    have hd9_ := Aside0.mk hy9_
    have hq9_ := Aside0.mk hnd9
    clear hx9_ hy9_ hAd9 hcd9 hnd9 hr9_
    obtain ⟨Ad10, hAd10⟩ : ∃ A1, A1 = (if c10 = n1_ then A10 else (A10 : Option Addr).map (·.add (n1_ * 1))) := ⟨_, rfl⟩
    obtain ⟨cd10, hcd10⟩ : ∃ c1, c1 = c10 - n1_ := ⟨_, rfl⟩
    obtain ⟨nd10, hnd10⟩ : ∃ c1, c1 = x10.length - n1_ := ⟨_, rfl⟩
    rw [← hAd10, ← hcd10, ← hnd10] at hf10_
    replace hy10_ : Kd.C (Kd.int .i64) wz Ad10 nd10 (x10.drop n1_) := by rw [hAd10, hnd10]; exact hy10_
    have hc10_ := Aside0.mk hx10_
    have hd10_ := Aside0.mk hy10_
    have hq10_ := Aside0.mk hnd10
    clear hx10_ hy10_ hAd10 hcd10 hnd10 hr10_
    have hn0b_ := hn0_
    clear hn0_
    have hn0_ := Aside0.mk hn0b_
    clear hn0b_
    have hn1b_ := hn1_
    clear hn1_
    have hn1_ := Aside0.mk hn1b_
    clear hn1b_ hi0_ hsz_ hk0_ hk1_
    refine pure_ (i := 2) (N := some 156) (v := ?_) (a' := ?_) #[false, false, true, false, false, false, false, false, false, false, false, false, false, false, false, false, false, false, false, false, false, false, false, false] rfl rfl (by kernel_rfl) (fun _ _ _ h => hQp _ _ _ _ _ h) (Or.inl ⟨by rfl, ?_⟩) ?_ ?_
    rotate_left
    · intro w'
      go_simp
      with_reducible rfl
    rotate_left
    · simp only [Act.put, List.setIfInBounds_toArray, List.set_cons_zero, List.set_cons_succ, i64_w, i32_w]
      rfl
    refine pure_ (i := 3) (N := some 157) (v := ?_) (a' := ?_) #[false, false, true, true, false, false, false, false, false, false, false, false, false, false, false, false, false, false, false, false, false, false, false, false] rfl rfl (by kernel_rfl) (fun _ _ _ h => hQp _ _ _ _ _ h) (Or.inl ⟨by rfl, ?_⟩) ?_ ?_
    rotate_left
    · intro w'
      go_simp
      with_reducible rfl
    rotate_left
    · simp only [Act.put, List.setIfInBounds_toArray, List.set_cons_zero, List.set_cons_succ, i64_w, i32_w]
      rfl
    refine pure_ (i := 4) (N := some 158) (v := ?_) (a' := ?_) #[false, false, true, true, true, false, false, false, false, false, false, false, false, false, false, false, false, false, false, false, false, false, false, false] rfl rfl (by kernel_rfl) (fun _ _ _ h => hQp _ _ _ _ _ h) (Or.inl ⟨by rfl, ?_⟩) ?_ ?_
    rotate_left
    · intro w'
      go_simp
      with_reducible rfl
    rotate_left
    · simp only [Act.put, List.setIfInBounds_toArray, List.set_cons_zero, List.set_cons_succ, i64_w, i32_w]
      rfl
    refine pure_ (i := 6) (N := some 160) (v := ?_) (a' := ?_) #[false, false, true, true, true, false, true, false, false, false, false, false, false, false, false, false, false, false, false, false, false, false, false, false] rfl rfl (by kernel_rfl) (fun _ _ _ h => hQp _ _ _ _ _ h) (Or.inl ⟨by rfl, ?_⟩) ?_ ?_
    rotate_left
    · intro w'
      go_simp
      with_reducible rfl
    rotate_left
    · simp only [Act.put, List.setIfInBounds_toArray, List.set_cons_zero, List.set_cons_succ, i64_w, i32_w]
      rfl
    refine pure_ (i := 7) (N := some 161) (v := ?_) (a' := ?_) #[false, false, true, true, true, false, true, true, false, false, false, false, false, false, false, false, false, false, false, false, false, false, false, false] rfl rfl (by kernel_rfl) (fun _ _ _ h => hQp _ _ _ _ _ h) (Or.inl ⟨by rfl, ?_⟩) ?_ ?_
    rotate_left
    · intro w'
      go_simp
      with_reducible rfl
    rotate_left
    · simp only [Act.put, List.setIfInBounds_toArray, List.set_cons_zero, List.set_cons_succ, i64_w, i32_w]
      rfl
    refine pure_ (i := 8) (N := some 162) (v := ?_) (a' := ?_) #[false, false, true, true, true, false, true, true, true, false, false, false, false, false, false, false, false, false, false, false, false, false, false, false] rfl rfl (by kernel_rfl) (fun _ _ _ h => hQp _ _ _ _ _ h) (Or.inl ⟨by rfl, ?_⟩) ?_ ?_
    rotate_left
    · intro w'
      go_simp
      with_reducible rfl
    rotate_left
    · simp only [Act.put, List.setIfInBounds_toArray, List.set_cons_zero, List.set_cons_succ, i64_w, i32_w]
      rfl
    refine pure_ (i := 9) (N := some 163) (v := ?_) (a' := ?_) #[false, false, true, true, true, false, true, true, true, true, false, false, false, false, false, false, false, false, false, false, false, false, false, false] rfl rfl (by kernel_rfl) (fun _ _ _ h => hQp _ _ _ _ _ h) (Or.inl ⟨by rfl, ?_⟩) ?_ ?_
    rotate_left
    · intro w'
      go_simp
      with_reducible rfl
    rotate_left
    · simp only [Act.put, List.setIfInBounds_toArray, List.set_cons_zero, List.set_cons_succ, i64_w, i32_w]
      rfl
    refine pure_ (i := 12) (N := some 166) (v := ?_) (a' := ?_) #[false, false, true, true, true, false, true, true, true, true, false, false, true, false, false, false, false, false, false, false, false, false, false, false] rfl rfl (by kernel_rfl) (fun _ _ _ h => hQp _ _ _ _ _ h) (Or.inl ⟨by rfl, ?_⟩) ?_ ?_
    rotate_left
    · intro w'
      go_simp
      with_reducible rfl
    rotate_left
    · simp only [Act.put, List.setIfInBounds_toArray, List.set_cons_zero, List.set_cons_succ, i64_w, i32_w]
      rfl
    refine pure_ (i := 13) (N := some 167) (v := ?_) (a' := ?_) #[false, false, true, true, true, false, true, true, true, true, false, false, true, true, false, false, false, false, false, false, false, false, false, false] rfl rfl (by kernel_rfl) (fun _ _ _ h => hQp _ _ _ _ _ h) (Or.inl ⟨by rfl, ?_⟩) ?_ ?_
    rotate_left
    · intro w'
      go_simp
      with_reducible rfl
    rotate_left
    · simp only [Act.put, List.setIfInBounds_toArray, List.set_cons_zero, List.set_cons_succ, i64_w, i32_w]
      rfl
    refine pure_ (i := 14) (N := some 168) (v := ?_) (a' := ?_) #[false, false, true, true, true, false, true, true, true, true, false, false, true, true, true, false, false, false, false, false, false, false, false, false] rfl rfl (by kernel_rfl) (fun _ _ _ h => hQp _ _ _ _ _ h) (Or.inl ⟨by rfl, ?_⟩) ?_ ?_
    rotate_left
    · intro w'
      go_simp
      with_reducible rfl
    rotate_left
    · simp only [Act.put, List.setIfInBounds_toArray, List.set_cons_zero, List.set_cons_succ, i64_w, i32_w]
      rfl
    refine pure_ (i := 16) (N := some 170) (v := ?_) (a' := ?_) #[false, false, true, true, true, false, true, true, true, true, false, false, true, true, true, false, true, false, false, false, false, false, false, false] rfl rfl (by kernel_rfl) (fun _ _ _ h => hQp _ _ _ _ _ h) (Or.inl ⟨by rfl, ?_⟩) ?_ ?_
    rotate_left
    · intro w'
      go_simp
      with_reducible rfl
    rotate_left
    · simp only [Act.put, List.setIfInBounds_toArray, List.set_cons_zero, List.set_cons_succ, i64_w, i32_w]
      rfl
    refine pure_ (i := 17) (N := some 171) (v := ?_) (a' := ?_) #[false, false, true, true, true, false, true, true, true, true, false, false, true, true, true, false, true, true, false, false, false, false, false, false] rfl rfl (by kernel_rfl) (fun _ _ _ h => hQp _ _ _ _ _ h) (Or.inl ⟨by rfl, ?_⟩) ?_ ?_
    rotate_left
    · intro w'
      go_simp
      with_reducible rfl
    rotate_left
    · simp only [Act.put, List.setIfInBounds_toArray, List.set_cons_zero, List.set_cons_succ, i64_w, i32_w]
      rfl
    refine pure_ (i := 18) (N := some 172) (v := ?_) (a' := ?_) #[false, false, true, true, true, false, true, true, true, true, false, false, true, true, true, false, true, true, true, false, false, false, false, false] rfl rfl (by kernel_rfl) (fun _ _ _ h => hQp _ _ _ _ _ h) (Or.inl ⟨by rfl, ?_⟩) ?_ ?_
    rotate_left
    · intro w'
      go_simp
      with_reducible rfl
    rotate_left
    · simp only [Act.put, List.setIfInBounds_toArray, List.set_cons_zero, List.set_cons_succ, i64_w, i32_w]
      rfl
    refine pure_ (i := 19) (N := some 173) (v := ?_) (a' := ?_) #[false, false, true, true, true, false, true, true, true, true, false, false, true, true, true, false, true, true, true, true, false, false, false, false] rfl rfl (by kernel_rfl) (fun _ _ _ h => hQp _ _ _ _ _ h) (Or.inl ⟨by rfl, ?_⟩) ?_ ?_
    rotate_left
    · intro w'
      go_simp
      with_reducible rfl
    rotate_left
    · simp only [Act.put, List.setIfInBounds_toArray, List.set_cons_zero, List.set_cons_succ, i64_w, i32_w]
      rfl
    refine take_ (i := 0) (N := some 154) (v := ?_) (a' := ?_) #[true, false, true, true, true, false, true, true, true, true, false, false, true, true, true, false, true, true, true, true, false, false, false, false] rfl rfl (by kernel_rfl) (fun _ _ _ h => hQp _ _ _ _ _ h) (Or.inl ⟨by rfl, ?_⟩) hHeld ?_ ?_
    rotate_left
    · rintro w' ⟨s0, s1⟩
      go_simp
      with_reducible rfl
    rotate_left
    · simp only [Act.put, List.setIfInBounds_toArray, List.set_cons_zero, List.set_cons_succ, i64_w, i32_w]
      rfl
    refine join_ (σ := Value × Value × Value × Value) 5 #[true, true, true, true, true, true, true, true, true, true, true, true, true, true, true, false, true, true, true, true, false, false, false, false] (fun s_ => [(155, s_.1), (159, s_.2.1), (164, s_.2.2.1), (165, s_.2.2.2)]) (fun s_ w' => (w'.cell? ⟨gq, 0, none⟩ = some (.int .i64 qn) ∧ w'.cell? ⟨gq, 1, none⟩ = some (.slice Aq ql qc)) ∧ (Kd.R (Kd.int .i64) 3 w' wz.heap.size (fun _ => True) s_.2.2.1 (([] ++ (x9.take n0_)) ++ (x9.drop n1_))) ∧ (Kd.R (Kd.int .i64) 3 w' wz.heap.size (fun _ => True) s_.2.2.2 []) ∧ AP s_.2.2.2 s_.2.2.1 ∧ Below wz.heap.size wz w') ?_ ?_
    rotate_left
    · intro hCont
      refine two_ (i := 1) (j := 11) (Ni := some 155) (Nj := some 165) #[true, true, true, true, true, false, true, true, true, true, false, false, true, true, true, false, true, true, true, true, false, false, false, false] #[true, false, true, true, true, false, true, true, true, true, false, true, true, true, true, false, true, true, true, true, false, false, false, false] rfl rfl rfl rfl (by kernel_rfl) (by decide) (by decide) (fun K hK => ?_) (fun K hK => ?_)
      · skip
        refine Kd.R_lit_step (Kd.int .i64) (w0 := wz) wz.heap.size 3 (by rfl) (N := 155) rfl (xs := ([] : List Int)) (inner := []) (ok := fun _ => True) (okp := fun _ => True) ?hr (Reps.none _ _) (fun _ hk => hk) trivial zz.out (below_size zz.out) (by simp) ?_
        (case hr => first | (go_simp; done) | (go_simp; rfl))
        intro v155 w_1 ho hb hg_ hnew_
        have H155 := Aside0.mk ho
        have zn_ := Aside0.mk hb
        clear zz
        have zz := zn_
        clear zn_ hb hg_ hnew_ ho
        refine hK.out _ _ ⟨(blk_cell (blk_below zb200.out zz.out) 0).trans rfl, (blk_cell (blk_below zb200.out zz.out) 1).trans rfl⟩ (fun hHeld => ?_)
        clear hK K
        refine norm_ (a' := ?_) ?_ ?_
        rotate_left
        · show Act.put _ (some 155) _ = _
          simp only [Act.put, List.setIfInBounds_toArray, List.set_cons_zero, List.set_cons_succ, i64_w, i32_w]
          rfl
        refine two_ (i := 5) (j := 11) (Ni := some 159) (Nj := some 165) #[true, true, true, true, true, true, true, true, true, true, false, false, true, true, true, false, true, true, true, true, false, false, false, false] #[true, true, true, true, true, false, true, true, true, true, false, true, true, true, true, false, true, true, true, true, false, false, false, false] rfl rfl rfl rfl (by kernel_rfl) (by decide) (by decide) (fun K hK => ?_) (fun K hK => ?_)
        · skip
          refine Kd.R_append_rows_step (Kd.int .i64) (w0 := wz) wz.heap.size (by rfl) (.tmp 155) (.tmp 158) 56 3 (.int .i64 0) 8 rfl Tryd.underlying56 info3 rfl (by decide) (by omega) v155 [] (x9.take n0_) _ _ _ (fun _ => True) (fun _ => False) rfl rfl H155.out (Kd.C_below hc9_.out zz.out) (fun _ _ h => h) (fun _ h => h.elim) (fun _ _ => trivial) zz.out (below_size zz.out) ?aL ?_
          (case aL => simp; have := hn0_.out; have := hL9_.out; have := hm9_.out; have := hz0_.out; omega)
          intro v159 w_1_5 ho hb hg hat
          clear H155
          have H159 := Aside0.mk ho
          have zn_ := Aside0.mk hb
          clear zz
          have zz := zn_
          clear zn_ hb hg hat ho
          refine hK.out _ _ ⟨(blk_cell (blk_below zb200.out zz.out) 0).trans rfl, (blk_cell (blk_below zb200.out zz.out) 1).trans rfl⟩ (fun hHeld => ?_)
          clear hK K
          refine norm_ (a' := ?_) ?_ ?_
          rotate_left
          · show Act.put _ (some 159) _ = _
            simp only [Act.put, List.setIfInBounds_toArray, List.set_cons_zero, List.set_cons_succ, i64_w, i32_w]
            rfl
          refine two_ (i := 10) (j := 11) (Ni := some 164) (Nj := some 165) #[true, true, true, true, true, true, true, true, true, true, true, false, true, true, true, false, true, true, true, true, false, false, false, false] #[true, true, true, true, true, true, true, true, true, true, false, true, true, true, true, false, true, true, true, true, false, false, false, false] rfl rfl rfl rfl (by kernel_rfl) (by decide) (by decide) (fun K hK => ?_) (fun K hK => ?_)
          · skip
            refine Kd.R_append_rows_step (Kd.int .i64) (w0 := wz) wz.heap.size (by rfl) (.tmp 159) (.tmp 163) 56 3 (.int .i64 0) 8 rfl Tryd.underlying56 info3 rfl (by decide) (by omega) v159 ([] ++ (x9.take n0_)) (x9.drop n1_) _ _ _ (fun _ => True) (fun _ => False) rfl rfl H159.out (Kd.C_below hd9_.out zz.out) (fun _ _ h => h) (fun _ h => h.elim) (fun _ _ => trivial) zz.out (below_size zz.out) ?aL ?_
            (case aL => simp only [List.nil_append, List.length_take]; have := hn0_.out; have := hn1_.out; have := hL9_.out; have := hm9_.out; have := hq9_.out; have := hz0_.out; omega)
            intro v164 w_1_5_10 ho hb hg hat
            clear H159
            have H164 := Aside0.mk ho
            have zn_ := Aside0.mk hb
            clear zz
            have zz := zn_
            clear zn_ hb hg hat ho
            refine hK.out _ _ ⟨(blk_cell (blk_below zb200.out zz.out) 0).trans rfl, (blk_cell (blk_below zb200.out zz.out) 1).trans rfl⟩ (fun hHeld => ?_)
            clear hK K
            refine norm_ (a' := ?_) ?_ ?_
            rotate_left
            · show Act.put _ (some 164) _ = _
              simp only [Act.put, List.setIfInBounds_toArray, List.set_cons_zero, List.set_cons_succ, i64_w, i32_w]
              rfl
            refine one_ (i := 11) (N := some 165) #[true, true, true, true, true, true, true, true, true, true, true, true, true, true, true, false, true, true, true, true, false, false, false, false] rfl rfl (by kernel_rfl) (by decide) (fun K hK => ?_)
            refine Kd.R_lit_step (Kd.int .i64) (w0 := wz) wz.heap.size 3 (by rfl) (N := 165) rfl (xs := ([] : List Int)) (inner := []) (ok := fun _ => True) (okp := fun _ => True) ?hr (Reps.none _ _) (fun _ hk => hk) trivial zz.out (below_size zz.out) (by simp) ?_
            (case hr => first | (go_simp; done) | (go_simp; rfl))
            intro v165 w_1_5_10_11 ho hb hg_ hnew_
            have FA_ := Aside0.mk (ap_new H164.out hnew_)
            have Hn_ := Aside0.mk (lit_grown H164.out hg_)
            clear H164
            have H164 := Hn_
            clear Hn_
            have FA := FA_
            clear FA_
            have H165 := Aside0.mk ho
            have zn_ := Aside0.mk hb
            clear zz
            have zz := zn_
            clear zn_ hb hg_ hnew_ ho
            refine hK.out _ _ ⟨(blk_cell (blk_below zb200.out zz.out) 0).trans rfl, (blk_cell (blk_below zb200.out zz.out) 1).trans rfl⟩ (fun hHeld => ?_)
            clear hK K
            refine norm_ (a' := ?_) ?_ ?_
            rotate_left
            · show Act.put _ (some 165) _ = _
              simp only [Act.put, List.setIfInBounds_toArray, List.set_cons_zero, List.set_cons_succ, i64_w, i32_w]
              rfl
            exact norm_ (by simp only [putAll, Act.put, List.setIfInBounds_toArray, List.set_cons_zero, List.set_cons_succ]) (hCont (v155, v159, v164, v165) _ ⟨hHeld, H164.out, H165.out, FA.out, zz.out⟩)
          · skip
            refine Kd.R_lit_step (Kd.int .i64) (w0 := wz) wz.heap.size 3 (by rfl) (N := 165) rfl (xs := ([] : List Int)) (inner := []) (ok := fun _ => True) (okp := fun _ => True) ?hr (Reps.none _ _) (fun _ hk => hk) trivial zz.out (below_size zz.out) (by simp) ?_
            (case hr => first | (go_simp; done) | (go_simp; rfl))
            intro v165 w_1_5_11 ho hb hg_ hnew_
            have FA_ := Aside0.mk (ap_new H159.out hnew_)
            have Hn_ := Aside0.mk (lit_grown H159.out hg_)
            clear H159
            have H159 := Hn_
            clear Hn_
            have FA := FA_
            clear FA_
            have H165 := Aside0.mk ho
            have zn_ := Aside0.mk hb
            clear zz
            have zz := zn_
            clear zn_ hb hg_ hnew_ ho
            refine hK.out _ _ ⟨(blk_cell (blk_below zb200.out zz.out) 0).trans rfl, (blk_cell (blk_below zb200.out zz.out) 1).trans rfl⟩ (fun hHeld => ?_)
            clear hK K
            refine norm_ (a' := ?_) ?_ ?_
            rotate_left
            · show Act.put _ (some 165) _ = _
              simp only [Act.put, List.setIfInBounds_toArray, List.set_cons_zero, List.set_cons_succ, i64_w, i32_w]
              rfl
            refine one_ (i := 10) (N := some 164) #[true, true, true, true, true, true, true, true, true, true, true, true, true, true, true, false, true, true, true, true, false, false, false, false] rfl rfl (by kernel_rfl) (by decide) (fun K hK => ?_)
            refine Kd.R_append_rows_step (Kd.int .i64) (w0 := wz) wz.heap.size (by rfl) (.tmp 159) (.tmp 163) 56 3 (.int .i64 0) 8 rfl Tryd.underlying56 info3 rfl (by decide) (by omega) v159 ([] ++ (x9.take n0_)) (x9.drop n1_) _ _ _ (fun _ => True) (fun _ => False) rfl rfl H159.out (Kd.C_below hd9_.out zz.out) (fun _ _ h => h) (fun _ h => h.elim) (fun _ _ => trivial) zz.out (below_size zz.out) ?aL ?_
            (case aL => simp only [List.nil_append, List.length_take]; have := hn0_.out; have := hn1_.out; have := hL9_.out; have := hm9_.out; have := hq9_.out; have := hz0_.out; omega)
            intro v164 w_1_5_11_10 ho hb hg hat
            have Hn_ := Aside0.mk (ap_grown H165.out (AP.symm FA.out) hg)
            have FA_ := Aside0.mk (AP.symm (ap_app H165.out (AP.symm FA.out) hat))
            clear H165 FA
            have H165 := Hn_
            have FA := FA_
            clear Hn_ FA_
            clear H159
            have H164 := Aside0.mk ho
            have zn_ := Aside0.mk hb
            clear zz
            have zz := zn_
            clear zn_ hb hg hat ho
            refine hK.out _ _ ⟨(blk_cell (blk_below zb200.out zz.out) 0).trans rfl, (blk_cell (blk_below zb200.out zz.out) 1).trans rfl⟩ (fun hHeld => ?_)
            clear hK K
            refine norm_ (a' := ?_) ?_ ?_
            rotate_left
            · show Act.put _ (some 164) _ = _
              simp only [Act.put, List.setIfInBounds_toArray, List.set_cons_zero, List.set_cons_succ, i64_w, i32_w]
              rfl
            exact norm_ (by simp only [putAll, Act.put, List.setIfInBounds_toArray, List.set_cons_zero, List.set_cons_succ]) (hCont (v155, v159, v164, v165) _ ⟨hHeld, H164.out, H165.out, FA.out, zz.out⟩)
        · skip
          refine Kd.R_lit_step (Kd.int .i64) (w0 := wz) wz.heap.size 3 (by rfl) (N := 165) rfl (xs := ([] : List Int)) (inner := []) (ok := fun _ => True) (okp := fun _ => True) ?hr (Reps.none _ _) (fun _ hk => hk) trivial zz.out (below_size zz.out) (by simp) ?_
          (case hr => first | (go_simp; done) | (go_simp; rfl))
          intro v165 w_1_11 ho hb hg_ hnew_
          have FA_ := Aside0.mk (ap_new H155.out hnew_)
          have Hn_ := Aside0.mk (lit_grown H155.out hg_)
          clear H155
          have H155 := Hn_
          clear Hn_
          have FA := FA_
          clear FA_
          have H165 := Aside0.mk ho
          have zn_ := Aside0.mk hb
          clear zz
          have zz := zn_
          clear zn_ hb hg_ hnew_ ho
          refine hK.out _ _ ⟨(blk_cell (blk_below zb200.out zz.out) 0).trans rfl, (blk_cell (blk_below zb200.out zz.out) 1).trans rfl⟩ (fun hHeld => ?_)
          clear hK K
          refine norm_ (a' := ?_) ?_ ?_
          rotate_left
          · show Act.put _ (some 165) _ = _
            simp only [Act.put, List.setIfInBounds_toArray, List.set_cons_zero, List.set_cons_succ, i64_w, i32_w]
            rfl
          refine one_ (i := 5) (N := some 159) #[true, true, true, true, true, true, true, true, true, true, false, true, true, true, true, false, true, true, true, true, false, false, false, false] rfl rfl (by kernel_rfl) (by decide) (fun K hK => ?_)
          refine Kd.R_append_rows_step (Kd.int .i64) (w0 := wz) wz.heap.size (by rfl) (.tmp 155) (.tmp 158) 56 3 (.int .i64 0) 8 rfl Tryd.underlying56 info3 rfl (by decide) (by omega) v155 [] (x9.take n0_) _ _ _ (fun _ => True) (fun _ => False) rfl rfl H155.out (Kd.C_below hc9_.out zz.out) (fun _ _ h => h) (fun _ h => h.elim) (fun _ _ => trivial) zz.out (below_size zz.out) ?aL ?_
          (case aL => simp; have := hn0_.out; have := hL9_.out; have := hm9_.out; have := hz0_.out; omega)
          intro v159 w_1_11_5 ho hb hg hat
          have Hn_ := Aside0.mk (ap_grown H165.out (AP.symm FA.out) hg)
          have FA_ := Aside0.mk (AP.symm (ap_app H165.out (AP.symm FA.out) hat))
          clear H165 FA
          have H165 := Hn_
          have FA := FA_
          clear Hn_ FA_
          clear H155
          have H159 := Aside0.mk ho
          have zn_ := Aside0.mk hb
          clear zz
          have zz := zn_
          clear zn_ hb hg hat ho
          refine hK.out _ _ ⟨(blk_cell (blk_below zb200.out zz.out) 0).trans rfl, (blk_cell (blk_below zb200.out zz.out) 1).trans rfl⟩ (fun hHeld => ?_)
          clear hK K
          refine norm_ (a' := ?_) ?_ ?_
          rotate_left
          · show Act.put _ (some 159) _ = _
            simp only [Act.put, List.setIfInBounds_toArray, List.set_cons_zero, List.set_cons_succ, i64_w, i32_w]
            rfl
          refine one_ (i := 10) (N := some 164) #[true, true, true, true, true, true, true, true, true, true, true, true, true, true, true, false, true, true, true, true, false, false, false, false] rfl rfl (by kernel_rfl) (by decide) (fun K hK => ?_)
          refine Kd.R_append_rows_step (Kd.int .i64) (w0 := wz) wz.heap.size (by rfl) (.tmp 159) (.tmp 163) 56 3 (.int .i64 0) 8 rfl Tryd.underlying56 info3 rfl (by decide) (by omega) v159 ([] ++ (x9.take n0_)) (x9.drop n1_) _ _ _ (fun _ => True) (fun _ => False) rfl rfl H159.out (Kd.C_below hd9_.out zz.out) (fun _ _ h => h) (fun _ h => h.elim) (fun _ _ => trivial) zz.out (below_size zz.out) ?aL ?_
          (case aL => simp only [List.nil_append, List.length_take]; have := hn0_.out; have := hn1_.out; have := hL9_.out; have := hm9_.out; have := hq9_.out; have := hz0_.out; omega)
          intro v164 w_1_11_5_10 ho hb hg hat
          have Hn_ := Aside0.mk (ap_grown H165.out (AP.symm FA.out) hg)
          have FA_ := Aside0.mk (AP.symm (ap_app H165.out (AP.symm FA.out) hat))
          clear H165 FA
          have H165 := Hn_
          have FA := FA_
          clear Hn_ FA_
          clear H159
          have H164 := Aside0.mk ho
          have zn_ := Aside0.mk hb
          clear zz
          have zz := zn_
          clear zn_ hb hg hat ho
          refine hK.out _ _ ⟨(blk_cell (blk_below zb200.out zz.out) 0).trans rfl, (blk_cell (blk_below zb200.out zz.out) 1).trans rfl⟩ (fun hHeld => ?_)
          clear hK K
          refine norm_ (a' := ?_) ?_ ?_
          rotate_left
          · show Act.put _ (some 164) _ = _
            simp only [Act.put, List.setIfInBounds_toArray, List.set_cons_zero, List.set_cons_succ, i64_w, i32_w]
            rfl
          exact norm_ (by simp only [putAll, Act.put, List.setIfInBounds_toArray, List.set_cons_zero, List.set_cons_succ]) (hCont (v155, v159, v164, v165) _ ⟨hHeld, H164.out, H165.out, FA.out, zz.out⟩)
      · skip
        refine Kd.R_lit_step (Kd.int .i64) (w0 := wz) wz.heap.size 3 (by rfl) (N := 165) rfl (xs := ([] : List Int)) (inner := []) (ok := fun _ => True) (okp := fun _ => True) ?hr (Reps.none _ _) (fun _ hk => hk) trivial zz.out (below_size zz.out) (by simp) ?_
        (case hr => first | (go_simp; done) | (go_simp; rfl))
        intro v165 w_11 ho hb hg_ hnew_
        have H165 := Aside0.mk ho
        have zn_ := Aside0.mk hb
        clear zz
        have zz := zn_
        clear zn_ hb hg_ hnew_ ho
        refine hK.out _ _ ⟨(blk_cell (blk_below zb200.out zz.out) 0).trans rfl, (blk_cell (blk_below zb200.out zz.out) 1).trans rfl⟩ (fun hHeld => ?_)
        clear hK K
        refine norm_ (a' := ?_) ?_ ?_
        rotate_left
        · show Act.put _ (some 165) _ = _
          simp only [Act.put, List.setIfInBounds_toArray, List.set_cons_zero, List.set_cons_succ, i64_w, i32_w]
          rfl
        refine one_ (i := 1) (N := some 155) #[true, true, true, true, true, false, true, true, true, true, false, true, true, true, true, false, true, true, true, true, false, false, false, false] rfl rfl (by kernel_rfl) (by decide) (fun K hK => ?_)
        refine Kd.R_lit_step (Kd.int .i64) (w0 := wz) wz.heap.size 3 (by rfl) (N := 155) rfl (xs := ([] : List Int)) (inner := []) (ok := fun _ => True) (okp := fun _ => True) ?hr (Reps.none _ _) (fun _ hk => hk) trivial zz.out (below_size zz.out) (by simp) ?_
        (case hr => first | (go_simp; done) | (go_simp; rfl))
        intro v155 w_11_1 ho hb hg_ hnew_
        have FA_ := Aside0.mk (AP.symm (ap_new H165.out hnew_))
        have Hn_ := Aside0.mk (lit_grown H165.out hg_)
        clear H165
        have H165 := Hn_
        clear Hn_
        have FA := FA_
        clear FA_
        have H155 := Aside0.mk ho
        have zn_ := Aside0.mk hb
        clear zz
        have zz := zn_
        clear zn_ hb hg_ hnew_ ho
        refine hK.out _ _ ⟨(blk_cell (blk_below zb200.out zz.out) 0).trans rfl, (blk_cell (blk_below zb200.out zz.out) 1).trans rfl⟩ (fun hHeld => ?_)
        clear hK K
        refine norm_ (a' := ?_) ?_ ?_
        rotate_left
        · show Act.put _ (some 155) _ = _
          simp only [Act.put, List.setIfInBounds_toArray, List.set_cons_zero, List.set_cons_succ, i64_w, i32_w]
          rfl
        refine one_ (i := 5) (N := some 159) #[true, true, true, true, true, true, true, true, true, true, false, true, true, true, true, false, true, true, true, true, false, false, false, false] rfl rfl (by kernel_rfl) (by decide) (fun K hK => ?_)
        refine Kd.R_append_rows_step (Kd.int .i64) (w0 := wz) wz.heap.size (by rfl) (.tmp 155) (.tmp 158) 56 3 (.int .i64 0) 8 rfl Tryd.underlying56 info3 rfl (by decide) (by omega) v155 [] (x9.take n0_) _ _ _ (fun _ => True) (fun _ => False) rfl rfl H155.out (Kd.C_below hc9_.out zz.out) (fun _ _ h => h) (fun _ h => h.elim) (fun _ _ => trivial) zz.out (below_size zz.out) ?aL ?_
        (case aL => simp; have := hn0_.out; have := hL9_.out; have := hm9_.out; have := hz0_.out; omega)
        intro v159 w_11_1_5 ho hb hg hat
        have Hn_ := Aside0.mk (ap_grown H165.out (AP.symm FA.out) hg)
        have FA_ := Aside0.mk (AP.symm (ap_app H165.out (AP.symm FA.out) hat))
        clear H165 FA
        have H165 := Hn_
        have FA := FA_
        clear Hn_ FA_
        clear H155
        have H159 := Aside0.mk ho
        have zn_ := Aside0.mk hb
        clear zz
        have zz := zn_
        clear zn_ hb hg hat ho
        refine hK.out _ _ ⟨(blk_cell (blk_below zb200.out zz.out) 0).trans rfl, (blk_cell (blk_below zb200.out zz.out) 1).trans rfl⟩ (fun hHeld => ?_)
        clear hK K
        refine norm_ (a' := ?_) ?_ ?_
        rotate_left
        · show Act.put _ (some 159) _ = _
          simp only [Act.put, List.setIfInBounds_toArray, List.set_cons_zero, List.set_cons_succ, i64_w, i32_w]
          rfl
        refine one_ (i := 10) (N := some 164) #[true, true, true, true, true, true, true, true, true, true, true, true, true, true, true, false, true, true, true, true, false, false, false, false] rfl rfl (by kernel_rfl) (by decide) (fun K hK => ?_)
        refine Kd.R_append_rows_step (Kd.int .i64) (w0 := wz) wz.heap.size (by rfl) (.tmp 159) (.tmp 163) 56 3 (.int .i64 0) 8 rfl Tryd.underlying56 info3 rfl (by decide) (by omega) v159 ([] ++ (x9.take n0_)) (x9.drop n1_) _ _ _ (fun _ => True) (fun _ => False) rfl rfl H159.out (Kd.C_below hd9_.out zz.out) (fun _ _ h => h) (fun _ h => h.elim) (fun _ _ => trivial) zz.out (below_size zz.out) ?aL ?_
        (case aL => simp only [List.nil_append, List.length_take]; have := hn0_.out; have := hn1_.out; have := hL9_.out; have := hm9_.out; have := hq9_.out; have := hz0_.out; omega)
        intro v164 w_11_1_5_10 ho hb hg hat
        have Hn_ := Aside0.mk (ap_grown H165.out (AP.symm FA.out) hg)
        have FA_ := Aside0.mk (AP.symm (ap_app H165.out (AP.symm FA.out) hat))
        clear H165 FA
        have H165 := Hn_
        have FA := FA_
        clear Hn_ FA_
        clear H159
        have H164 := Aside0.mk ho
        have zn_ := Aside0.mk hb
        clear zz
        have zz := zn_
        clear zn_ hb hg hat ho
        refine hK.out _ _ ⟨(blk_cell (blk_below zb200.out zz.out) 0).trans rfl, (blk_cell (blk_below zb200.out zz.out) 1).trans rfl⟩ (fun hHeld => ?_)
        clear hK K
        refine norm_ (a' := ?_) ?_ ?_
        rotate_left
        · show Act.put _ (some 164) _ = _
          simp only [Act.put, List.setIfInBounds_toArray, List.set_cons_zero, List.set_cons_succ, i64_w, i32_w]
          rfl
        exact norm_ (by simp only [putAll, Act.put, List.setIfInBounds_toArray, List.set_cons_zero, List.set_cons_succ]) (hCont (v155, v159, v164, v165) _ ⟨hHeld, H164.out, H165.out, FA.out, zz.out⟩)
    rintro ⟨v155, v159, v164, v165⟩ w_f ⟨hHeld, h0_, h1_, h2_, h3_⟩
    have H164 := Aside0.mk h0_
    have H165 := Aside0.mk h1_
    have FA := Aside0.mk h2_
    clear zz
    have zz := Aside0.mk h3_
    clear h0_ h1_ h2_ h3_
    refine norm_ (a' := ?_) ?_ ?_
    rotate_left
    · simp only [putAll, Act.put, List.setIfInBounds_toArray, List.set_cons_zero, List.set_cons_succ]
      rfl
    refine one_ (i := 15) (N := some 169) #[true, true, true, true, true, true, true, true, true, true, true, true, true, true, true, true, true, true, true, true, false, false, false, false] rfl rfl (by kernel_rfl) (by decide) (fun K hK => ?_)
    refine Kd.R_append_rows_step (Kd.int .i64) (w0 := wz) wz.heap.size (by rfl) (.tmp 165) (.tmp 168) 56 3 (.int .i64 0) 8 rfl Tryd.underlying56 info3 rfl (by decide) (by omega) v165 [] (x10.take n0_) _ _ _ (fun _ => True) (fun _ => False) rfl rfl H165.out (Kd.C_below hc10_.out zz.out) (fun _ _ h => h) (fun _ h => h.elim) (fun _ _ => trivial) zz.out (below_size zz.out) ?aL ?_
    (case aL => simp; have := hn0_.out; have := hL10_.out; have := hk2_.out; have := hz0_.out; omega)
    intro v169 w_15 ho hb hg hat
    have Hn_ := Aside0.mk (ap_grown H164.out FA.out hg)
    have FA_ := Aside0.mk (ap_app H164.out FA.out hat)
    clear H164 FA
    have H164 := Hn_
    have FA := FA_
    clear Hn_ FA_
    clear H165
    have H169 := Aside0.mk ho
    have zn_ := Aside0.mk hb
    clear zz
    have zz := zn_
    clear zn_ hb hg hat ho
    refine hK.out _ _ ⟨(blk_cell (blk_below zb200.out zz.out) 0).trans rfl, (blk_cell (blk_below zb200.out zz.out) 1).trans rfl⟩ (fun hHeld => ?_)
    clear hK K
    refine norm_ (a' := ?_) ?_ ?_
    rotate_left
    · show Act.put _ (some 169) _ = _
      simp only [Act.put, List.setIfInBounds_toArray, List.set_cons_zero, List.set_cons_succ, i64_w, i32_w]
      rfl
    refine one_ (i := 20) (N := some 174) #[true, true, true, true, true, true, true, true, true, true, true, true, true, true, true, true, true, true, true, true, true, false, false, false] rfl rfl (by kernel_rfl) (by decide) (fun K hK => ?_)
    refine Kd.R_append_rows_step (Kd.int .i64) (w0 := wz) wz.heap.size (by rfl) (.tmp 169) (.tmp 173) 56 3 (.int .i64 0) 8 rfl Tryd.underlying56 info3 rfl (by decide) (by omega) v169 ([] ++ (x10.take n0_)) (x10.drop n1_) _ _ _ (fun _ => True) (fun _ => False) rfl rfl H169.out (Kd.C_below hd10_.out zz.out) (fun _ _ h => h) (fun _ h => h.elim) (fun _ _ => trivial) zz.out (below_size zz.out) ?aL ?_
    (case aL => simp only [List.nil_append, List.length_take]; have := hn0_.out; have := hn1_.out; have := hL10_.out; have := hm10_.out; have := hq10_.out; have := hz0_.out; omega)
    intro v174 w_20 ho hb hg hat
    have Hn_ := Aside0.mk (ap_grown H164.out FA.out hg)
    have FA_ := Aside0.mk (ap_app H164.out FA.out hat)
    clear H164 FA
    have H164 := Hn_
    have FA := FA_
    clear Hn_ FA_
    clear H169
    have H174 := Aside0.mk ho
    have zn_ := Aside0.mk hb
    clear zz
    have zz := zn_
    clear zn_ hb hg hat ho
    refine hK.out _ _ ⟨(blk_cell (blk_below zb200.out zz.out) 0).trans rfl, (blk_cell (blk_below zb200.out zz.out) 1).trans rfl⟩ (fun hHeld => ?_)
    clear hK K
    refine norm_ (a' := ?_) ?_ ?_
    rotate_left
    · show Act.put _ (some 174) _ = _
      simp only [Act.put, List.setIfInBounds_toArray, List.set_cons_zero, List.set_cons_succ, i64_w, i32_w]
      rfl
    refine last_ (i := 21) (N := none) #[true, true, true, true, true, true, true, true, true, true, true, true, true, true, true, true, true, true, true, true, true, true, false, false] rfl rfl (by kernel_rfl) (by decide) (fun K hK => ?_)
    have hs0 : w_20.cell? ⟨gp, 0, none⟩ = some (.int .i64 pn) := (blk_cell (blk_below zb163.out zz.out) 0).trans rfl
    have hs1 : w_20.cell? ⟨gp, 1, none⟩ = some (.slice Ap pl pc) := (blk_cell (blk_below zb163.out zz.out) 1).trans rfl
    have hf0 := blk_frozen (blk_below zb163.out zz.out) 0
    have hf1 := blk_frozen (blk_below zb163.out zz.out) 1
    refine skip_ (w1 := ?_) (by rfl) rfl ?_ ?_
    rotate_left
    · go_simp
      rfl
    refine hK.out _ _ ?_
    clear hK K
    refine pure_ (i := 22) (N := some 9) (v := ?_) (a' := ?_) #[true, true, true, true, true, true, true, true, true, true, true, true, true, true, true, true, true, true, true, true, true, true, true, false] rfl rfl (by kernel_rfl) (fun _ _ _ h => hQp _ _ _ _ _ h) (Or.inl ⟨by rfl, ?_⟩) ?_ ?_
    rotate_left
    · intro w'
      go_simp
      with_reducible rfl
    rotate_left
    · simp only [Act.put, List.setIfInBounds_toArray, List.set_cons_zero, List.set_cons_succ, i64_w, i32_w]
      rfl
    refine pure_ (i := 23) (N := some 10) (v := ?_) (a' := ?_) #[true, true, true, true, true, true, true, true, true, true, true, true, true, true, true, true, true, true, true, true, true, true, true, true] rfl rfl (by kernel_rfl) (fun _ _ _ h => hQp _ _ _ _ _ h) (Or.inl ⟨by rfl, ?_⟩) ?_ ?_
    rotate_left
    · intro w'
      go_simp
      with_reducible rfl
    rotate_left
    · simp only [Act.put, List.setIfInBounds_toArray, List.set_cons_zero, List.set_cons_succ, i64_w, i32_w]
      rfl
    refine done_ (by kernel_rfl) ?_
    have e9_ : (([] ++ (x9.take n0_)) ++ (x9.drop n1_)) = (x9.take Kx.toNat ++ x9.drop (Kx.toNat + 1)) := by rw [hn0_.out, hn1_.out]; simp only [List.nil_append]; congr 2; have := hk2_.out; have := hz0_.out; omega
    have e10_ : (([] ++ (x10.take n0_)) ++ (x10.drop n1_)) = (x10.take Kx.toNat ++ x10.drop (Kx.toNat + 1)) := by rw [hn0_.out, hn1_.out]; simp only [List.nil_append]; congr 2; have := hk2_.out; have := hz0_.out; omega
    exact HH.out v164 v174 w_20 _ _ _ _ _ _ _ _ _ _ _ _ _ _ _ _ _ _ _ _ _ (by rw [← e9_]; exact Kd.R_lower H164.out (below_size zB.out)) (by rw [← e10_]; exact Kd.R_lower H174.out (below_size zB.out)) FA.out (below_step zB.out zz.out)
  exact key _ rfl

end Go.Proofs.YthphncefbahcaaaDoor.GT
