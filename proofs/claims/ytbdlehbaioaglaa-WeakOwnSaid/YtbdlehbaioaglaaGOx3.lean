/- Made by gprint.py, this session's program over the kit's print program, out of the translation; the functions that it does not print are proved by hand (wip/given). Lean checks it. -/
import Derived.Test.YtbdlehbaioaglaaGOx0
import Derived.Test.YtbdlehbaioaglaaGOx2
namespace Go.Proofs.Ytbdlehbaioaglaa.GO
open Go.RowKit Go.Proofs.YtbdlehbaioaglaaW.PrintWords Go.Proofs.YtbdlehbaioaglaaW.PrintLast Go.Proofs.YtbdlehbaioaglaaW.PrintMore
attribute [local go_sem] max2_int min2_int max_two min_two max_three min_three max_four min_four   -- for this text's walks alone
set_option linter.unusedVariables false
set_option linter.unusedSimpArgs false

/-! ### besomref09_Same: function 13 -/
def besomref09_Same.l0 : Nat → List Int → List Int → Int → Int → Option (Bool)
  | 0, _, _, _, _ => none
  | k + 1, x0, x1, x12, x13 => if x13 < x12 then (if 0 ≤ x13 then (if x13 < (x0.length : Int) then (if x13 < (x1.length : Int) then (if (rd x0 x13) = (rd x1 x13) then (besomref09_Same.l0 k x0 x1 x12 (wrap64 (x13 + 1))) else (some false)) else (none)) else (none)) else (none)) else (some true)
def besomref09_Same.f (k : Nat) (l0 : List Int) (l1 : List Int) : Option (Bool) := if (l0.length : Int) = (l1.length : Int) then (besomref09_Same.l0 k l0 l1 (l0.length : Int) 0) else (some false)
theorem besomref09_Same.mono_l : ∀ k, (∀ y0 y1 y2 y3, LeO (besomref09_Same.l0 k y0 y1 y2 y3) (besomref09_Same.l0 (k + 1) y0 y1 y2 y3))
  | 0 => fun _ _ _ _ r h => by simp [besomref09_Same.l0] at h
  | k + 1 => by
    have ih0 := besomref09_Same.mono_l k
    · intro y0 y1 y2 y3
      unfold besomref09_Same.l0
      repeat' first
      | (with_reducible exact ih0 _ _ _ _)
      | (with_reducible exact LeO.refl _)
      | (with_reducible exact LeO.none _)
      | (with_reducible refine LeO.ite ?_ ?_)
      | (with_reducible refine LeO.bind ?_ (fun _ => ?_))
      | exact ih0 _ _ _ _
      | exact LeO.none _
      | refine LeO.ite ?_ ?_
      | refine LeO.bind ?_ (fun _ => ?_)
theorem besomref09_Same.mono : ∀ a0 a1 k, LeO (besomref09_Same.f k a0 a1) (besomref09_Same.f (k + 1) a0 a1) := by
  intro a0 a1 k
  have ih0 := besomref09_Same.mono_l k
  unfold besomref09_Same.f
  repeat' first
      | (with_reducible exact ih0 _ _ _ _)
      | (with_reducible exact LeO.refl _)
      | (with_reducible exact LeO.none _)
      | (with_reducible refine LeO.ite ?_ ?_)
      | (with_reducible refine LeO.bind ?_ (fun _ => ?_))
      | exact ih0 _ _ _ _
      | exact LeO.none _
      | refine LeO.ite ?_ ?_
      | refine LeO.bind ?_ (fun _ => ?_)
set_option maxHeartbeats 8000000 in
set_option maxRecDepth 100000 in
theorem besomref09_Same.calls (k : Nat) (A0 : Option Addr) (c0 : Nat) (l0 : List Int) (A1 : Option Addr) (c1 : Nat) (l1 : List Int) (r : Bool) (w : World) (hr0 : Kd.C (Kd.int .u64) w A0 l0.length l0) (hc0 : l0.length ≤ c0) (hr1 : Kd.C (Kd.int .u64) w A1 l1.length l1) (hc1 : l1.length ≤ c1) (h : besomref09_Same.f k l0 l1 = some r) :
    Calls Try.prog 13 #[.slice A0 l0.length c0, .slice A1 l1.length c1] w fun e w' => e = .returned (.bool r) ∧ Drawn0 w w' := by
  have HR0 := Aside0.mk hr0
  have HC0 := Aside0.mk hc0
  clear hr0 hc0
  have HR1 := Aside0.mk hr1
  have HC1 := Aside0.mk hc1
  clear hr1 hc1
  have H : (if (l0.length : Int) = (l1.length : Int) then (besomref09_Same.l0 k l0 l1 (l0.length : Int) 0) else (some false)) = some r := h
  clear h
  by_cases c3 : (l0.length : Int) = (l1.length : Int)
  · rw [if_pos c3] at H
    have c3b0 : ((l0.length : Int) == (l1.length : Int)) = true := beq_iff_eq.mpr c3
    have c3b1 : ((l0.length : Int) != (l1.length : Int)) = false := bne_eq_false_iff_eq.mpr c3
    have c3b2 : (l0.length == l1.length) = true := by first | simpa using c3 | (simp at c3 ⊢; omega)
    clear c3
    have H' := Aside0.mk H
    clear H
    go_enter Try.func13, Try.ntmps13
    go_wp2
    repeat (go_quiet (fail); try go_wp2)
    go_loopg [13] k (fun kq v13 w' => ∃ (x13_1 : Int), v13 = .int .i64 x13_1 ∧ Aside0 (besomref09_Same.l0 kq l0 l1 (l0.length : Int) x13_1 = some r) ∧ Aside0 (kq ≤ k) ∧ Drawn0 w w')
    case atStart => exact ⟨(0), (by first | rfl | (simp; done) | (simp [*]; done)), H', ⟨Nat.le_refl _⟩, by repeat (first | exact Drawn0.refl _ | apply Drawn0.step)⟩
    case round =>
      clear H'
      try clear c1
      try clear p2
      try clear c3
      try clear c3b0
      try clear c3b1
      try clear c3b2
      obtain ⟨x13_1, rfl, HA, HK1, ⟨m1, rfl⟩⟩ := hrel
      cases gk with
      | zero => exact absurd HA.out (by simp [besomref09_Same.l0])
      | succ k1 =>
        have H := HA.out
        clear HA
        simp only [besomref09_Same.l0] at H
        by_cases c4 : x13_1 < (l0.length : Int)
        · rw [if_pos c4] at H
          have c4b0 : decide (x13_1 < (l0.length : Int)) = true := decide_eq_true c4
          clear c4
          by_cases c5 : 0 ≤ x13_1
          · rw [if_pos c5] at H
            have c5b0 : decide (0 ≤ x13_1) = true := decide_eq_true c5
            clear c5
            by_cases c6 : x13_1 < (l0.length : Int)
            · rw [if_pos c6] at H
              have c6b0 : decide (x13_1 < (l0.length : Int)) = true := decide_eq_true c6
              clear c6
              by_cases c7 : x13_1 < (l1.length : Int)
              · rw [if_pos c7] at H
                have c7b0 : decide (x13_1 < (l1.length : Int)) = true := decide_eq_true c7
                clear c7
                by_cases c8 : (rd l0 x13_1) = (rd l1 x13_1)
                · rw [if_pos c8] at H
                  have c8b0 : ((rd l0 x13_1) == (rd l1 x13_1)) = true := beq_iff_eq.mpr c8
                  have c8b1 : ((rd l0 x13_1) != (rd l1 x13_1)) = false := bne_eq_false_iff_eq.mpr c8
                  clear c8
                  have H' := Aside0.mk H
                  clear H
                  have p180 : 0 ≤ (x13_1 : Int) := of_decide_eq_true (by first | (with_reducible assumption) | assumption)
                  have q180 : x13_1 < (l0.length : Int) := of_decide_eq_true (by first | (with_reducible assumption) | assumption)
                  obtain ⟨ad180, e180, hx180_0⟩ := Kd.at_int HR0.out x13_1 p180 q180
                  cases e180
                  replace p180 := eq_true p180
                  replace q180 := eq_true q180
                  have p181 : 0 ≤ (x13_1 : Int) := of_decide_eq_true (by first | (with_reducible assumption) | assumption)
                  have q181 : x13_1 < (l1.length : Int) := of_decide_eq_true (by first | (with_reducible assumption) | assumption)
                  obtain ⟨ad181, e181, hx181_0⟩ := Kd.at_int HR1.out x13_1 p181 q181
                  cases e181
                  replace p181 := eq_true p181
                  replace q181 := eq_true q181
                  go_wp2
                  repeat (go_quiet (fail); try go_wp2)
                  go_roundg k1
                  case measure => have := HK1.out; omega
                  case rel => exact ⟨(wrap64 (x13_1 + 1)), (by first | rfl | (simp; done) | (simp [*]; done)), H', ⟨by have := HK1.out; omega⟩, by repeat (first | exact Drawn0.refl _ | apply Drawn0.step)⟩
                · rw [if_neg c8] at H
                  have c8b0 : ((rd l0 x13_1) == (rd l1 x13_1)) = false := beq_eq_false_iff_ne.mpr c8
                  have c8b1 : ((rd l0 x13_1) != (rd l1 x13_1)) = true := bne_iff_ne.mpr c8
                  obtain rfl := Option.some.inj H
                  have p180 : 0 ≤ (x13_1 : Int) := of_decide_eq_true (by first | (with_reducible assumption) | assumption)
                  have q180 : x13_1 < (l0.length : Int) := of_decide_eq_true (by first | (with_reducible assumption) | assumption)
                  obtain ⟨ad180, e180, hx180_0⟩ := Kd.at_int HR0.out x13_1 p180 q180
                  cases e180
                  replace p180 := eq_true p180
                  replace q180 := eq_true q180
                  have p181 : 0 ≤ (x13_1 : Int) := of_decide_eq_true (by first | (with_reducible assumption) | assumption)
                  have q181 : x13_1 < (l1.length : Int) := of_decide_eq_true (by first | (with_reducible assumption) | assumption)
                  obtain ⟨ad181, e181, hx181_0⟩ := Kd.at_int HR1.out x13_1 p181 q181
                  cases e181
                  replace p181 := eq_true p181
                  replace q181 := eq_true q181
                  go_wp2
                  repeat (go_quiet (fail); try go_wp2)
                  go_ret
                  exact ⟨by first | rfl | (simp; done) | (simp [*]; done), by repeat (first | exact Drawn0.refl _ | apply Drawn0.step)⟩
              · rw [if_neg c7] at H
                exact absurd H (by simp)
            · rw [if_neg c6] at H
              exact absurd H (by simp)
          · rw [if_neg c5] at H
            exact absurd H (by simp)
        · rw [if_neg c4] at H
          have c4b0 : decide (x13_1 < (l0.length : Int)) = false := decide_eq_false c4
          clear c4
          obtain rfl := Option.some.inj H
          go_wp2
          repeat (go_quiet (fail); try go_wp2)
          go_ret
          exact ⟨by first | rfl | (simp; done) | (simp [*]; done), by repeat (first | exact Drawn0.refl _ | apply Drawn0.step)⟩
  · rw [if_neg c3] at H
    have c3b0 : ((l0.length : Int) == (l1.length : Int)) = false := beq_eq_false_iff_ne.mpr c3
    have c3b1 : ((l0.length : Int) != (l1.length : Int)) = true := bne_iff_ne.mpr c3
    have c3b2 : (l0.length == l1.length) = false := by first | simpa using c3 | (simp at c3 ⊢; omega)
    obtain rfl := Option.some.inj H
    go_enter Try.func13, Try.ntmps13
    go_wp2
    repeat (go_quiet (fail); try go_wp2)
    go_ret
    exact ⟨by first | rfl | (simp; done) | (simp [*]; done), by repeat (first | exact Drawn0.refl _ | apply Drawn0.step)⟩

/-! ### besomlaw09_WeakOwn: function 4 -/
structure OwnSt (e base : Nat) (W : World) (vk : Value) (lk : List Int) (us : List Value) : Prop where
  kept : Kd.R (Kd.int .u64) e W base (fun _ => True) vk lk
  each : ∀ u ∈ us, ∃ xs, Kd.R (Kd.int .u64) e W base (fun _ => True) u xs
  far : ∀ u ∈ us, ∀ k, u.ownBlock = some k → some k ≠ vk.ownBlock
  apart : ∀ u ∈ us, ∀ v ∈ us, u ≠ v → ∀ k, u.ownBlock = some k → some k ≠ v.ownBlock
theorem OwnSt.below {e base : Nat} {W W1 : World} {vk : Value} {lk : List Int} {us : List Value} (h : OwnSt e base W vk lk us) (hb : Below W.heap.size W W1) : OwnSt e base W1 vk lk us :=
  ⟨Kd.R_below h.kept hb, fun u hu => by obtain ⟨xs, hx⟩ := h.each u hu; exact ⟨xs, Kd.R_below hx hb⟩, h.far, h.apart⟩
theorem OwnSt.drewN {e base : Nat} {W : World} {vk : Value} {lk : List Int} {us : List Value} (h : OwnSt e base W vk lk us) (m : Nat) : OwnSt e base (W.drewN m) vk lk us := h.below (pw_below_drewN (Below.refl _ _) m)
theorem OwnSt.drew {e base : Nat} {W : World} {vk : Value} {lk : List Int} {us : List Value} (h : OwnSt e base W vk lk us) : OwnSt e base W.drew vk lk us := h.below (below_drew1 (Below.refl _ _))
theorem OwnSt.store {e base : Nat} {W : World} {vk : Value} {lk : List Int} {us : List Value} (h : OwnSt e base W vk lk us) {g n cap : Nat} (hu : Value.slice (some ⟨g, 0, none⟩) n cap ∈ us) (j : Nat) (x : Int) : OwnSt e base (W.setCell ⟨g, j, none⟩ (.int .u64 x)) vk lk us := by
  obtain ⟨xs, hR⟩ := h.each _ hu
  have hP := Kd.R_putg (h1 := fun _ => rfl) hR (j : Int) x
  rw [Int.toNat_natCast] at hP
  have hg : W.grownBy (W.setCell ⟨g, j, none⟩ (.int .u64 x)) (some g) := hP.2
  have hb : (Value.slice (some ⟨g, 0, none⟩) n cap).ownBlock = some g := by simp [Value.ownBlock]
  refine ⟨Kd.R_grown2 h.kept rfl hg (fun k hk => ?_), fun u hu2 => ?_, h.far, h.apart⟩
  · obtain rfl := Option.some.inj hk
    exact h.far _ hu _ hb
  · by_cases c : u = Value.slice (some ⟨g, 0, none⟩) n cap
    · subst c; exact ⟨_, hP.1⟩
    · obtain ⟨ys, hy⟩ := h.each u hu2
      refine ⟨ys, Kd.R_grown2 hy rfl hg (fun k hk => ?_)⟩
      obtain rfl := Option.some.inj hk
      exact h.apart _ hu u hu2 (fun h_ => c h_.symm) _ hb
theorem own_apart {e e' base : Nat} {ok ok' : Nat → Prop} {W w1 : World} {v u : Value} {xs ys : List Int} (h : Kd.R (Kd.int .u64) e W base ok v xs) (ho : Kd.R (Kd.int .u64) e' w1 W.heap.size ok' u ys) : ∀ k, u.ownBlock = some k → some k ≠ v.ownBlock := fun k hk he => by
  have h1 := Kd.R_base ho k hk
  have h2 := Kd.R_lt h k he.symm
  omega
theorem own_RC {e base : Nat} {ok : Nat → Prop} {w : World} {A : Option Addr} {n c : Nat} {xs : List Int} (h : Kd.R (Kd.int .u64) e w base ok (.slice A n c) xs) : Kd.C (Kd.int .u64) w A xs.length xs ∧ xs.length ≤ c ∧ n = xs.length := by
  obtain ⟨A1, c1, e1, hle, hC⟩ := Kd.R_reads h
  cases e1
  exact ⟨hC, hle, rfl⟩
section
variable {P : Program} {ops : Array Oper} {rest : List Oper} {o : Oper} {a : Act} {Q : Exit → Act → World → Prop}
theorem lit_event {W : World} (hgd : o.guard = none) {N : Tmp} (_hd : o.dst = some N) {cs : Array Value} {t n : Nat}
    (hrun : (execOp a.eval o).run P W = .ok (.value (.slice (some ⟨W.heap.size, 0, none⟩) n n)) (W.alloc (.cells cs t (0, 0))))
    (h : ∀ g, g = W.heap.size → ∀ w1, w1.heap[g]? = some (.cells cs t (0, 0)) → Below W.heap.size W w1 → wpList P ops Q rest (a.put o.dst (.slice (some ⟨g, 0, none⟩) n n)) w1) : wpList P ops Q (o :: rest) a W :=
  Kd.event_run hgd hrun (h _ rfl _ (blk_new W _) (below_alloc (Below.refl _ _) _))
end
def besomlaw09_WeakOwn.f (k : Nat) (l0 : List Int) (a1 : Int) : Option (Bool) := (besomlaw09_lives.f k).bind fun t1 => if t1 = true then ((besomref09_Copy.f l0).bind fun y => (weak_Make.f k l0 a1).bind fun m => (weak_Clear.f k l0 [a1]).bind fun _c => besomref09_Same.f k l0 y) else some false
theorem besomlaw09_WeakOwn.mono : ∀ a0 a1 k, LeO (besomlaw09_WeakOwn.f k a0 a1) (besomlaw09_WeakOwn.f (k + 1) a0 a1) := by
  intro a0 a1 k
  unfold besomlaw09_WeakOwn.f
  exact LeO.bind (besomlaw09_lives.mono _) (fun _ => LeO.ite (LeO.bind (LeO.refl _) (fun _ => LeO.bind (weak_Make.mono _ _ _) (fun _ => LeO.bind (weak_Clear.mono _ _ _) (fun _ => besomref09_Same.mono _ _ _)))) (LeO.refl _))
set_option maxHeartbeats 8000000 in
set_option maxRecDepth 100000 in
theorem besomlaw09_WeakOwn.calls (k : Nat) (A0 : Option Addr) (c0 : Nat) (l0 : List Int) (a1 : Int) (r : Bool) (w : World) (hr0 : Kd.C (Kd.int .u64) w A0 l0.length l0) (hc0 : l0.length ≤ c0) (hlaw : r = true) (h : besomlaw09_WeakOwn.f k l0 a1 = some r) :
    Calls Try.prog 4 #[.slice A0 l0.length c0, .int .u64 a1] w fun e w' => e = .returned (.bool r) ∧ Below w.heap.size w w' := by
  have HR0 := Aside0.mk hr0
  have HC0 := Aside0.mk hc0
  clear hr0 hc0
  have HB := Aside0.mk (Below.refl w.heap.size w)
  have H := h
  clear h
  unfold besomlaw09_WeakOwn.f at H
  replace H := Option.bind_eq_some_iff.mp H
  obtain ⟨t1, A1, H⟩ := H
  by_cases c1 : t1 = true
  · subst c1
    rw [if_pos rfl] at H
    replace A1 := Aside0.mk A1
    clear hlaw
    replace H := Option.bind_eq_some_iff.mp H
    obtain ⟨lk, A2, H⟩ := H
    replace A2 := Aside0.mk A2
    replace H := Option.bind_eq_some_iff.mp H
    obtain ⟨⟨la, a2, a3⟩, A3, H⟩ := H
    replace A3 := Aside0.mk A3
    replace H := Option.bind_eq_some_iff.mp H
    obtain ⟨⟨lc, c2, c3⟩, A4, H⟩ := H
    replace A4 := Aside0.mk A4
    have A5 := Aside0.mk H
    clear H
    obtain ⟨y9, hy9⟩ : ∃ y : List Int, y = [a1] := ⟨_, rfl⟩
    have Ny9 := Aside0.mk hy9
    rw [← hy9] at A4
    clear hy9
    go_enter Try.func4, Try.ntmps4
    go_wp2_with (first | ((with_reducible refine gate_callee (f := 7) rfl ?_); refine goesL_ (some 15) rfl rfl Try.func7 (by kernel_rfl) rfl #[] rfl (by (try simp only [List.map_toArray, List.map_cons, List.map_nil]); first | done | rfl | (simp only [List.length_drop, List.length_take]; rfl)) ?_; (with_reducible refine (besomlaw09_lives.calls k true _ A1.out).mono ?_); rintro e w8 ⟨rfl, hb⟩; refine ⟨_, rfl, ?_⟩; have n0_ := Aside0.mk (below_step (by repeat (first | (with_reducible first | exact HB.out | apply below_alloc | apply pw_below_drewN | apply below_drew1) | exact HB.out)) hb); clear HB; have HB := n0_; clear n0_; clear hb) | ((with_reducible refine gate_callee (f := 12) rfl ?_); refine goesL_ (some 18) rfl rfl Try.func12 (by kernel_rfl) rfl #[.slice A0 l0.length c0] rfl (by (try simp only [List.map_toArray, List.map_cons, List.map_nil]); first | done | rfl | (simp only [List.length_drop, List.length_take]; rfl)) ?_; (with_reducible refine (besomref09_Copy.calls _ _ l0 lk _ ?side1 ?side2 A2.out).mono ?_); (case side1 => exact (Kd.C_below HR0.out (by repeat (first | (with_reducible first | exact HB.out | apply below_alloc | apply pw_below_drewN | apply below_drew1) | exact HB.out)))); (case side2 => exact HC0.out); rintro e w9 ⟨vk, rfl, ho0, hb⟩; refine ⟨_, rfl, ?_⟩; have n0_ := Aside0.mk (Kd.R_lower ho0 (below_size (by repeat (first | (with_reducible first | exact HB.out | apply below_alloc | apply pw_below_drewN | apply below_drew1) | exact HB.out)))); have n1_ := Aside0.mk (below_step (by repeat (first | (with_reducible first | exact HB.out | apply below_alloc | apply pw_below_drewN | apply below_drew1) | exact HB.out)) hb); clear HB; have HK := n0_; have HB := n1_; clear n0_ n1_; clear hb ho0; obtain ⟨Ak, ck, ek⟩ := Kd.R_slice HK.out; subst ek) | ((with_reducible refine gate_callee (f := 10) rfl ?_); refine goesL_ (some 22) rfl rfl Try.func10 (by kernel_rfl) rfl #[.slice A0 l0.length c0, .int .u64 a1] rfl (by (try simp only [List.map_toArray, List.map_cons, List.map_nil]); first | done | rfl | (simp only [List.length_drop, List.length_take]; rfl)) ?_; (with_reducible refine (weak_Make.calls k _ _ l0 a1 la a2 a3 _ ?side1 ?side2 A3.out).mono ?_); (case side1 => exact (Kd.C_below HR0.out (by repeat (first | (with_reducible first | exact HB.out | apply below_alloc | apply pw_below_drewN | apply below_drew1) | exact HB.out)))); (case side2 => exact HC0.out); rintro e w10 ⟨va, rfl, ho0, hb⟩; refine ⟨_, rfl, ?_⟩; have n0_ := Aside0.mk (Kd.R_below (by (with_reducible repeat (first | apply Kd.R_alloc | apply Kd.R_drewN | apply Kd.R_drew)); exact HK.out) hb); have n1_ := Aside0.mk (own_apart (by (with_reducible repeat (first | apply Kd.R_alloc | apply Kd.R_drewN | apply Kd.R_drew)); exact HK.out) ho0); have n2_ := Aside0.mk (Kd.R_lower ho0 (below_size (by repeat (first | (with_reducible first | exact HB.out | apply below_alloc | apply pw_below_drewN | apply below_drew1) | exact HB.out)))); have n3_ := Aside0.mk (below_step (by repeat (first | (with_reducible first | exact HB.out | apply below_alloc | apply pw_below_drewN | apply below_drew1) | exact HB.out)) hb); clear HK; clear HB; have HK := n0_; have FA := n1_; have HA := n2_; have HB := n3_; clear n0_ n1_ n2_ n3_; clear hb ho0; obtain ⟨Aa, ca, ea⟩ := Kd.R_slice HA.out; subst ea) | ((with_reducible refine gate_dst (N := 29) rfl ?_); refine Kd.R_lit (Kd.int .u64) _ 25 ?hg (N := 29) ?hd (xs := ([a1] : List Int)) (inner := [.int .u64 a1]) (ok := fun _ => True) (okp := fun _ => True) ?hr ?hp (fun _ hk => hk) trivial (Below.refl _ _) (Nat.le_refl _) (by simp) ?_; (case hd => rfl); (case hg => rfl); (case hr => first | (go_simp; done) | (go_simp; rfl)); (case hp => exact (Reps.one (show Kd.M (Kd.int .u64) _ _ _ a1 [.int .u64 a1] from rfl) (Reps.none _ _))); intro v29 w11 ho0 hb hg_ hnew_; clear hg_ hnew_; (first | rw [← Ny9.out] at ho0 | (simp only [Int.reduceToNat] at ho0; rw [← Ny9.out] at ho0)); have n0_ := Aside0.mk (Kd.R_below (by (with_reducible repeat (first | apply Kd.R_alloc | apply Kd.R_drewN | apply Kd.R_drew)); exact HK.out) hb); have n1_ := Aside0.mk (Kd.R_below (by (with_reducible repeat (first | apply Kd.R_alloc | apply Kd.R_drewN | apply Kd.R_drew)); exact HA.out) hb); have n2_ := Aside0.mk (Kd.R_lower ho0 (below_size (by repeat (first | (with_reducible first | exact HB.out | apply below_alloc | apply pw_below_drewN | apply below_drew1) | exact HB.out)))); have n3_ := Aside0.mk (below_step (by repeat (first | (with_reducible first | exact HB.out | apply below_alloc | apply pw_below_drewN | apply below_drew1) | exact HB.out)) hb); clear HK; clear HA; clear HB; have HK := n0_; have HA := n1_; have HL := n2_; have HB := n3_; clear n0_ n1_ n2_ n3_; clear hb ho0; obtain ⟨Al, cl, el⟩ := Kd.R_slice HL.out; subst el) | ((with_reducible refine gate_callee (f := 9) rfl ?_); refine goesL_ (some 30) rfl rfl Try.func9 (by kernel_rfl) rfl #[.slice A0 l0.length c0, .slice Al y9.length cl] rfl (by (try simp only [List.map_toArray, List.map_cons, List.map_nil]); first | done | rfl | (simp only [List.length_drop, List.length_take]; rfl)) ?_; (with_reducible refine (weak_Clear.calls k _ _ l0 _ _ y9 lc c2 c3 _ ?side1 ?side2 ?side3 ?side4 A4.out).mono ?_); (case side1 => exact (Kd.C_below HR0.out (by repeat (first | (with_reducible first | exact HB.out | apply below_alloc | apply pw_below_drewN | apply below_drew1) | exact HB.out)))); (case side2 => exact HC0.out); (case side3 => exact (own_RC (by (with_reducible repeat (first | apply Kd.R_alloc | apply Kd.R_drewN | apply Kd.R_drew)); exact HL.out)).1); (case side4 => exact (own_RC HL.out).2.1); rintro e w12 ⟨vc, vi, rfl, ho0, ho1, hb⟩; refine ⟨_, rfl, ?_⟩; clear ho1; clear HL; have n0_ := Aside0.mk (Kd.R_below (by (with_reducible repeat (first | apply Kd.R_alloc | apply Kd.R_drewN | apply Kd.R_drew)); exact HK.out) hb); have n1_ := Aside0.mk (Kd.R_below (by (with_reducible repeat (first | apply Kd.R_alloc | apply Kd.R_drewN | apply Kd.R_drew)); exact HA.out) hb); have n2_ := Aside0.mk (own_apart (by (with_reducible repeat (first | apply Kd.R_alloc | apply Kd.R_drewN | apply Kd.R_drew)); exact HK.out) ho0); have n3_ := Aside0.mk (own_apart (by (with_reducible repeat (first | apply Kd.R_alloc | apply Kd.R_drewN | apply Kd.R_drew)); exact HA.out) ho0); have n4_ := Aside0.mk (Kd.R_lower ho0 (below_size (by repeat (first | (with_reducible first | exact HB.out | apply below_alloc | apply pw_below_drewN | apply below_drew1) | exact HB.out)))); have n5_ := Aside0.mk (below_step (by repeat (first | (with_reducible first | exact HB.out | apply below_alloc | apply pw_below_drewN | apply below_drew1) | exact HB.out)) hb); clear HK; clear HA; clear HB; have HK := n0_; have HA := n1_; have FC := n2_; have FCA := n3_; have HC := n4_; have HB := n5_; clear n0_ n1_ n2_ n3_ n4_ n5_; clear hb ho0; obtain ⟨Ac, cc, ec⟩ := Kd.R_slice HC.out; subst ec) | ((with_reducible refine gate_dst (N := 36) rfl ?_); refine lit_event ?hg (N := 36) ?hd (cs := #[.slice Aa la.length ca, .slice Ac lc.length cc]) (t := 22) (n := 2) ?hr ?_; (case hd => rfl); (case hg => rfl); (case hr => first | (go_simp; done) | (go_simp; rfl)); intro gb36 hg w13 hbox hb; have n0_ := Aside0.mk (Kd.R_below (by (with_reducible repeat (first | apply Kd.R_alloc | apply Kd.R_drewN | apply Kd.R_drew)); exact HK.out) hb); have n1_ := Aside0.mk (Kd.R_below (by (with_reducible repeat (first | apply Kd.R_alloc | apply Kd.R_drewN | apply Kd.R_drew)); exact HA.out) hb); have n2_ := Aside0.mk (Kd.R_below (by (with_reducible repeat (first | apply Kd.R_alloc | apply Kd.R_drewN | apply Kd.R_drew)); exact HC.out) hb); have n3_ := Aside0.mk (below_step (by repeat (first | (with_reducible first | exact HB.out | apply below_alloc | apply pw_below_drewN | apply below_drew1) | exact HB.out)) hb); have n4_ := Aside0.mk (hbox); clear HK; clear HA; clear HC; clear HB; have HK := n0_; have HA := n1_; have HC := n2_; have HB := n3_; have BK36 := n4_; clear n0_ n1_ n2_ n3_ n4_; clear hb hbox hg))
    have HS := Aside0.mk (show OwnSt 25 w.heap.size _ (.slice Ak lk.length ck) lk [.slice Aa la.length ca, .slice Ac lc.length cc] from ⟨HK.out, by
      intro u hu
      simp only [List.mem_cons, List.not_mem_nil, or_false] at hu
      rcases hu with rfl | rfl
      · exact ⟨_, HA.out⟩
      · exact ⟨_, HC.out⟩, by
      intro u hu
      simp only [List.mem_cons, List.not_mem_nil, or_false] at hu
      rcases hu with rfl | rfl
      · exact FA.out
      · exact FC.out, by
      intro u hu v hv hne k_ hk he
      simp only [List.mem_cons, List.not_mem_nil, or_false] at hu hv
      rcases hu with rfl | rfl <;> rcases hv with rfl | rfl
      · exact hne rfl
      · exact FCA.out k_ he.symm hk.symm
      · exact FCA.out k_ hk he
      · exact hne rfl⟩)
    clear HK HA HC FA FC FCA
    go_loopw [38] (fun v38 wr => ∃ i : Int, v38 = .int .i64 i ∧ Aside0 (i = 0 ∨ i = 1 ∨ i = 2) ∧ Aside0 (OwnSt 25 w.heap.size wr (.slice Ak lk.length ck) lk [.slice Aa la.length ca, .slice Ac lc.length cc]) ∧ Aside0 (wr.heap[gb36]? = some (.cells #[.slice Aa la.length ca, .slice Ac lc.length cc] 22 (0, 0))) ∧ Aside0 (Below w.heap.size w wr)) (fun v38 _ => (2 - intOf v38).toNat)
    case atStart => exact ⟨0, rfl, ⟨.inl rfl⟩, ⟨by repeat (first | exact HS.out | refine OwnSt.drewN ?_ _ | refine OwnSt.drew ?_)⟩, ⟨by (with_reducible repeat (first | refine blk_drewN ?_ _ | refine blk_drew ?_ | refine blk_alloc ?_ _)); exact BK36.out⟩, ⟨by repeat (first | (with_reducible first | exact HB.out | apply below_alloc | apply pw_below_drewN | apply below_drew1) | exact HB.out)⟩⟩
    case round =>
      clear HS BK36 HB
      obtain ⟨i, rfl, HI, HS, BK36, HB⟩ := hrel
      have hcz36_0 : wr.cell? ⟨gb36, 0, none⟩ = some (.slice Aa la.length ca) := (blk_cell BK36.out 0).trans rfl
      have hcz36_1 : wr.cell? ⟨gb36, 1, none⟩ = some (.slice Ac lc.length cc) := (blk_cell BK36.out 1).trans rfl
      rcases HI.out with rfl | rfl | rfl
      · clear HI
        go_wp2
        go_loopw [44] (fun v44 wr2 => ∃ j : Nat, v44 = .int .i64 (j : Int) ∧ Aside0 (j ≤ la.length) ∧ Aside0 (OwnSt 25 w.heap.size wr2 (.slice Ak lk.length ck) lk [.slice Aa la.length ca, .slice Ac lc.length cc]) ∧ Aside0 (wr2.heap[gb36]? = some (.cells #[.slice Aa la.length ca, .slice Ac lc.length cc] 22 (0, 0))) ∧ Aside0 (Below w.heap.size w wr2)) (fun v44 _ => la.length - (intOf v44).toNat)
        case atStart => exact ⟨0, rfl, ⟨Nat.zero_le _⟩, ⟨by repeat (first | exact HS.out | refine OwnSt.drewN ?_ _ | refine OwnSt.drew ?_)⟩, ⟨by (with_reducible repeat (first | refine blk_drewN ?_ _ | refine blk_drew ?_ | refine blk_alloc ?_ _)); exact BK36.out⟩, ⟨by repeat (first | (with_reducible first | exact HB.out | apply below_alloc | apply pw_below_drewN | apply below_drew1) | exact HB.out)⟩⟩
        case round =>
          clear hcz36_0 hcz36_1
          clear HS BK36 HB
          obtain ⟨j, rfl, HJ, HS, BK36, HB⟩ := hrel
          by_cases hlt : j < la.length
          · obtain ⟨xs, hR⟩ := HS.out.each (.slice Aa la.length ca) (by simp)
            have hn := (own_RC hR).2.2
            have hmx := (own_RC hR).1.2.1
            obtain ⟨go, cap_, e_, gb_, gl_, cl_, HG_⟩ := Kd.R_form hR (by omega)
            injection e_ with e1 e2 e3
            subst e1
            have hne := Kd.R_ne hR BK36.out (by decide)
            have hne2 := Aside0.mk (show gb36 ≠ go from fun h_ => hne (by rw [h_]; simp [Value.ownBlock]))
            obtain ⟨hx, hfz⟩ := Kd.R_celln 0 hR (j : Int) (by omega) (by omega)
            rw [Int.toNat_natCast] at hx hfz
            obtain ⟨z0, hz0⟩ : ∃ z, z = rdOf 0 xs (j : Int) := ⟨_, rfl⟩
            rw [← hz0] at hx
            have k1 : (j : Int) < (la.length : Int) := by omega
            have k2 : (j : Int) + 1 ≤ 9223372036854775807 := by omega
            have HLT := Aside0.mk hlt
            have HGE := Aside0.mk gb_
            clear hR hn hmx gb_ gl_ cl_ HG_ e2 e3 hne hz0 hlt
            go_wp2
            go_roundw
            case rel =>
              refine ⟨j + 1, by go_num, ⟨HLT.out⟩, ⟨by repeat (first | exact OwnSt.store (n := la.length) (cap := ca) HS.out (by simp) _ _ | exact HS.out | refine OwnSt.drewN ?_ _ | refine OwnSt.drew ?_)⟩, ⟨by (repeat (first | exact BK36.out | refine blk_far ?_ hne2.out _ | refine blk_drewN ?_ _ | refine blk_drew ?_))⟩, ⟨by repeat (first | (with_reducible first | exact HB.out | apply below_alloc | apply pw_below_drewN | apply below_drew1 | refine below_set ?_ HGE.out) | exact HB.out)⟩⟩
            case measure => have := HLT.out; simp [intOf]; omega
          · have k3 : decide (j < la.length) = false := decide_eq_false hlt
            go_wp2
            go_roundw
            case rel => exact ⟨1, by first | rfl | (simp; done) | go_num, ⟨by simp⟩, HS, BK36, HB⟩
            case measure => simp [intOf]
      · clear HI
        go_wp2
        go_loopw [44] (fun v44 wr2 => ∃ j : Nat, v44 = .int .i64 (j : Int) ∧ Aside0 (j ≤ lc.length) ∧ Aside0 (OwnSt 25 w.heap.size wr2 (.slice Ak lk.length ck) lk [.slice Aa la.length ca, .slice Ac lc.length cc]) ∧ Aside0 (wr2.heap[gb36]? = some (.cells #[.slice Aa la.length ca, .slice Ac lc.length cc] 22 (0, 0))) ∧ Aside0 (Below w.heap.size w wr2)) (fun v44 _ => lc.length - (intOf v44).toNat)
        case atStart => exact ⟨0, rfl, ⟨Nat.zero_le _⟩, ⟨by repeat (first | exact HS.out | refine OwnSt.drewN ?_ _ | refine OwnSt.drew ?_)⟩, ⟨by (with_reducible repeat (first | refine blk_drewN ?_ _ | refine blk_drew ?_ | refine blk_alloc ?_ _)); exact BK36.out⟩, ⟨by repeat (first | (with_reducible first | exact HB.out | apply below_alloc | apply pw_below_drewN | apply below_drew1) | exact HB.out)⟩⟩
        case round =>
          clear hcz36_0 hcz36_1
          clear HS BK36 HB
          obtain ⟨j, rfl, HJ, HS, BK36, HB⟩ := hrel
          by_cases hlt : j < lc.length
          · obtain ⟨xs, hR⟩ := HS.out.each (.slice Ac lc.length cc) (by simp)
            have hn := (own_RC hR).2.2
            have hmx := (own_RC hR).1.2.1
            obtain ⟨go, cap_, e_, gb_, gl_, cl_, HG_⟩ := Kd.R_form hR (by omega)
            injection e_ with e1 e2 e3
            subst e1
            have hne := Kd.R_ne hR BK36.out (by decide)
            have hne2 := Aside0.mk (show gb36 ≠ go from fun h_ => hne (by rw [h_]; simp [Value.ownBlock]))
            obtain ⟨hx, hfz⟩ := Kd.R_celln 0 hR (j : Int) (by omega) (by omega)
            rw [Int.toNat_natCast] at hx hfz
            obtain ⟨z0, hz0⟩ : ∃ z, z = rdOf 0 xs (j : Int) := ⟨_, rfl⟩
            rw [← hz0] at hx
            have k1 : (j : Int) < (lc.length : Int) := by omega
            have k2 : (j : Int) + 1 ≤ 9223372036854775807 := by omega
            have HLT := Aside0.mk hlt
            have HGE := Aside0.mk gb_
            clear hR hn hmx gb_ gl_ cl_ HG_ e2 e3 hne hz0 hlt
            go_wp2
            go_roundw
            case rel =>
              refine ⟨j + 1, by go_num, ⟨HLT.out⟩, ⟨by repeat (first | exact OwnSt.store (n := lc.length) (cap := cc) HS.out (by simp) _ _ | exact HS.out | refine OwnSt.drewN ?_ _ | refine OwnSt.drew ?_)⟩, ⟨by (repeat (first | exact BK36.out | refine blk_far ?_ hne2.out _ | refine blk_drewN ?_ _ | refine blk_drew ?_))⟩, ⟨by repeat (first | (with_reducible first | exact HB.out | apply below_alloc | apply pw_below_drewN | apply below_drew1 | refine below_set ?_ HGE.out) | exact HB.out)⟩⟩
            case measure => have := HLT.out; simp [intOf]; omega
          · have k3 : decide (j < lc.length) = false := decide_eq_false hlt
            go_wp2
            go_roundw
            case rel => exact ⟨2, by first | rfl | (simp; done) | go_num, ⟨by simp⟩, HS, BK36, HB⟩
            case measure => simp [intOf]
      · clear HI hcz36_0 hcz36_1
        go_wp2_with (first | ((with_reducible refine gate_callee (f := 13) rfl ?_); refine goesL_ (some 57) rfl rfl Try.func13 (by kernel_rfl) rfl #[.slice A0 l0.length c0, .slice Ak lk.length ck] rfl (by (try simp only [List.map_toArray, List.map_cons, List.map_nil]); first | done | rfl | (simp only [List.length_drop, List.length_take]; rfl)) ?_; (with_reducible refine (besomref09_Same.calls k _ _ l0 _ _ lk r _ ?side1 ?side2 ?side3 ?side4 A5.out).mono ?_); (case side1 => exact (Kd.C_below HR0.out (by repeat (first | (with_reducible first | exact HB.out | apply below_alloc | apply pw_below_drewN | apply below_drew1) | exact HB.out)))); (case side2 => exact HC0.out); (case side3 => exact (own_RC (by (with_reducible repeat (first | apply Kd.R_alloc | apply Kd.R_drewN | apply Kd.R_drew)); exact HS.out.kept)).1); (case side4 => exact (own_RC HS.out.kept).2.1); rintro e w57 ⟨rfl, ⟨⟨nd, rfl⟩⟩⟩; refine ⟨_, rfl, ?_⟩))
        go_ret
        exact ⟨by first | rfl | (simp; done), by repeat (first | (with_reducible first | exact HB.out | apply below_alloc | apply pw_below_drewN | apply below_drew1) | exact HB.out)⟩
  · have c2 : t1 = false := by simpa using c1
    rw [if_neg c1] at H
    have e := Option.some.inj H
    rw [hlaw] at e
    cases e

end Go.Proofs.Ytbdlehbaioaglaa.GO
