/- Made by gprint.py, this session's program over the kit's print program, out of the translation; the functions that it does not print are proved by hand (wip/given). Lean checks it. -/
import Derived.Test.YthphncefbahcaaaDoorGOx0
import Derived.Test.YthphncefbahcaaaDoorGOx1
import Derived.Test.YthphncefbahcaaaDoorGOx2
namespace Go.Proofs.YthphncefbahcaaaDoor.GO
open Go.RowKit Go.Proofs.YthphncefbahcaaaDoorW.PrintWords Go.Proofs.YthphncefbahcaaaDoorW.PrintLast Go.Proofs.YthphncefbahcaaaDoorW.PrintMore
attribute [local go_sem] max2_int min2_int max_two min_two max_three min_three max_four min_four   -- for this text's walks alone
set_option linter.unusedVariables false
set_option linter.unusedSimpArgs false

/-- A state of type 68 at block g of W; what its slices lead to came in by w0. -/
def IsS68 (w0 W : World) (g : Nat) (f0 : Int) (f1 : List Int) : Prop := ∃ A1 c1, W.heap[g]? = some (.cells #[.int .i64 f0, .slice A1 f1.length c1] 68 (0, 0)) ∧ w0.heap.size ≤ g ∧ Kd.C (Kd.int .u64) w0 A1 f1.length f1
theorem IsS68.grown {w0 W : World} {g : Nat} {f0 : Int} {f1 : List Int} {W1 : World} {row : Option Nat} (h : IsS68 w0 W g f0 f1) (hw : W.grownBy W1 row) (hne : some g ≠ row) : IsS68 w0 W1 g f0 f1 := by
  obtain ⟨A1, c1, hb, hg, hr1⟩ := h
  exact ⟨A1, c1, blk_grown hb hw hne, hg, hr1⟩
theorem IsS68.own_neN {w0 W : World} {g : Nat} {f0 : Int} {f1 : List Int} {α : Type} {d : Kd α} {e : Nat} {base : Nat} {ok : Nat → Prop} {v : Value} {xs : List α} (h : IsS68 w0 W g f0 f1) (ho : Kd.N d e W base ok v xs) (ht : e ≠ 68) : some g ≠ v.ownBlock := by
  obtain ⟨A1, c1, hb, hg, hr1⟩ := h
  exact Kd.N_ne ho hb ht
theorem IsS68.fresh {w0 W : World} {g : Nat} {f0 : Int} {f1 : List Int} (h : IsS68 w0 W g f0 f1) : ∀ k, W.heap.size ≤ k → k ≠ g := by
  obtain ⟨A1, c1, hb, hg, hr1⟩ := h
  exact Kd.freshB hb
theorem IsS68.kept {w0 W : World} {g : Nat} {f0 : Int} {f1 : List Int} {W1 : World} {S : Nat → Prop} (h : IsS68 w0 W g f0 f1) (hk : Kept W W1 S) (hne : ¬ S g) : IsS68 w0 W1 g f0 f1 := by
  obtain ⟨A1, c1, hb, hg, hr1⟩ := h
  exact ⟨A1, c1, blk_kept hb hk hne, hg, hr1⟩
theorem IsS68.below {w0 W : World} {g : Nat} {f0 : Int} {f1 : List Int} {W1 : World} (h : IsS68 w0 W g f0 f1) (hw : Below W.heap.size W W1) : IsS68 w0 W1 g f0 f1 := h.grown (grown_of_below hw none) (by simp)
theorem IsS68.alloc {w0 W : World} {g : Nat} {f0 : Int} {f1 : List Int} (h : IsS68 w0 W g f0 f1) (o : Obj) : IsS68 w0 (W.alloc o) g f0 f1 := h.below (below_alloc (Below.refl _ _) o)
theorem IsS68.drewN {w0 W : World} {g : Nat} {f0 : Int} {f1 : List Int} (h : IsS68 w0 W g f0 f1) (m : Nat) : IsS68 w0 (W.drewN m) g f0 f1 := h
theorem IsS68.drew {w0 W : World} {g : Nat} {f0 : Int} {f1 : List Int} (h : IsS68 w0 W g f0 f1) : IsS68 w0 W.drew g f0 f1 := h
theorem IsS68.at_ {w0 W : World} {g : Nat} {f0 : Int} {f1 : List Int} {w' : World} {m : Nat} (hq : W.drewN m = w') (h : IsS68 w0 W g f0 f1) : IsS68 w0 w' g f0 f1 := by subst hq; exact IsS68.drewN h m
theorem IsS68.apart {w0 W : World} {g : Nat} {f0 : Int} {f1 : List Int} {α : Type} {d : Kd α} {e : Nat} {base : Nat} {ok : Nat → Prop} {v : Value} {xs : List α} (h : IsS68 w0 W g f0 f1) (ho : d.R e W base ok v xs) (ht : ∀ q, q ∈ e :: d.E → q ≠ 68) : d.R e W base (fun k => ok k ∧ k ≠ g) v xs := by
  obtain ⟨A1, c1, hb, hg, hr1⟩ := h
  exact Kd.R_types ho hb ht
theorem IsS68.own_ne {w0 W : World} {g : Nat} {f0 : Int} {f1 : List Int} {α : Type} {d : Kd α} {e : Nat} {base : Nat} {ok : Nat → Prop} {v : Value} {xs : List α} (h : IsS68 w0 W g f0 f1) (ho : d.R e W base ok v xs) (ht : e ≠ 68) : some g ≠ v.ownBlock := by
  obtain ⟨A1, c1, hb, hg, hr1⟩ := h
  exact Kd.R_ne ho hb ht
theorem IsS68.apartQ {w0 W : World} {g : Nat} {f0 : Int} {f1 : List Int} {α : Type} {d : Kd α} {e : Nat} {base : Nat} {ok : Nat → Prop} {v : Value} {xs : List α} (h : IsS68 w0 W g f0 f1) (ho : d.Q e W base ok v xs) (ht : ∀ q, q ∈ e :: d.E → q ≠ 68) : d.Q e W base (fun k => ok k ∧ k ≠ g) v xs := by
  obtain ⟨A1, c1, hb, hg, hr1⟩ := h
  exact Kd.Q_types ho hb ht
theorem IsS68.own_neQ {w0 W : World} {g : Nat} {f0 : Int} {f1 : List Int} {α : Type} {d : Kd α} {e : Nat} {base : Nat} {ok : Nat → Prop} {v : Value} {xs : List α} (h : IsS68 w0 W g f0 f1) (ho : d.Q e W base ok v xs) (ht : e ≠ 68) : some g ≠ v.ownBlock := by
  obtain ⟨A1, c1, hb, hg, hr1⟩ := h
  exact Kd.Q_ne ho hb ht
theorem IsS68.apartS {w0 W : World} {g : Nat} {f0 : Int} {f1 : List Int} {α : Type} {d : Kd α} {e : Nat} {base : Nat} {ok : Nat → Prop} {v : Value} {xs : List α} (h : IsS68 w0 W g f0 f1) (ho : d.S e W base ok v xs) (ht : ∀ q, q ∈ e :: d.E → q ≠ 68) : d.S e W base (fun k => ok k ∧ k ≠ g) v xs := by
  obtain ⟨A1, c1, hb, hg, hr1⟩ := h
  exact Kd.S_types ho hb ht
theorem IsS68.own_neS {w0 W : World} {g : Nat} {f0 : Int} {f1 : List Int} {α : Type} {d : Kd α} {e : Nat} {base : Nat} {ok : Nat → Prop} {v : Value} {xs : List α} (h : IsS68 w0 W g f0 f1) (ho : d.S e W base ok v xs) (ht : e ≠ 68) : some g ≠ v.ownBlock := by
  obtain ⟨A1, c1, hb, hg, hr1⟩ := h
  exact Kd.S_ne ho hb ht
theorem IsS68.lt {w0 W : World} {g : Nat} {f0 : Int} {f1 : List Int} (h : IsS68 w0 W g f0 f1) : g < W.heap.size := by
  obtain ⟨A1, c1, hb, hg, hr1⟩ := h
  exact blk_lt hb
theorem IsS68.ge {w0 W : World} {g : Nat} {f0 : Int} {f1 : List Int} (h : IsS68 w0 W g f0 f1) : w0.heap.size ≤ g := by
  obtain ⟨A1, c1, hb, hg, hr1⟩ := h
  exact hg
theorem IsS68.ne_blk {w0 W : World} {g : Nat} {f0 : Int} {f1 : List Int} {a : Nat} {cs : Array Value} {t : TypeId} {fr : Nat × Nat} (h : IsS68 w0 W g f0 f1) (hb2 : W.heap[a]? = some (.cells cs t fr)) (ht : t ≠ 68) : g ≠ a := by
  obtain ⟨A1, c1, hb, hg, hr1⟩ := h
  rintro rfl
  rw [hb] at hb2
  injection hb2 with hb2
  injection hb2 with _ ht2
  exact ht ht2.symm
theorem IsS68.far {w0 W : World} {g : Nat} {f0 : Int} {f1 : List Int} {p : Addr} (h : IsS68 w0 W g f0 f1) (hne : g ≠ p.block) (u : Value) : IsS68 w0 (W.setCell p u) g f0 f1 := by
  obtain ⟨A1, c1, hb, hg, hr1⟩ := h
  exact ⟨A1, c1, blk_far hb hne u, hg, hr1⟩
theorem cellS68_0 {W : World} {g : Nat} {A1 : Option Addr} {c1 : Nat} {f0 : Int} {f1 : List Int} (h : W.heap[g]? = some (.cells #[.int .i64 f0, .slice A1 f1.length c1] 68 (0, 0))) : W.cell? ⟨g, 0, none⟩ = some (.int .i64 f0) := (blk_cell h 0).trans rfl
theorem IsS68.set_0 {w0 W : World} {g : Nat} {f0 : Int} {f1 : List Int} (h : IsS68 w0 W g f0 f1) (x : Int) : IsS68 w0 (W.setCell ⟨g, 0, none⟩ (.int .i64 x)) g x f1 := by
  obtain ⟨A1, c1, hb, hg, hr1⟩ := h
  exact ⟨A1, c1, by simpa using blk_set hb 0 (.int .i64 x), hg, hr1⟩
theorem cellS68_1 {W : World} {g : Nat} {A1 : Option Addr} {c1 : Nat} {f0 : Int} {f1 : List Int} (h : W.heap[g]? = some (.cells #[.int .i64 f0, .slice A1 f1.length c1] 68 (0, 0))) : W.cell? ⟨g, 1, none⟩ = some (.slice A1 f1.length c1) := (blk_cell h 1).trans rfl
theorem IsS68.new (w0 W : World) (A1 : Option Addr) (c1 : Nat) (f0 : Int) (f1 : List Int) (hB : Below w0.heap.size w0 W) (hr1 : Kd.C (Kd.int .u64) w0 A1 f1.length f1) : IsS68 w0 (W.alloc (.cells #[.int .i64 f0, .slice A1 f1.length c1] 68)) W.heap.size f0 f1 := ⟨A1, c1, by simpa using heap_alloc_new W _, hB.size, hr1⟩

/-! ### bits_list_first: function 49 -/
mutual
def bits_list_first.l0 : Nat → Int → Bool → Int → Int → List Int → Option (Int × Int)
  | 0, _, _, _, _, _ => none
  | k + 1, x1, x2, x7, x1000, x1001 => if x7 < (x1001.length : Int) then (if 0 ≤ x7 then (if x2 = true then (bits_list_first.j1 k x1 x2 x7 (rd x1001 x7) x1000 x1001) else (bits_list_first.j1 k x1 x2 x7 (Go.bits .xor .u64 18446744073709551615 (rd x1001 x7)) x1000 x1001)) else (none)) else (some (x1000, x1000))
def bits_list_first.j1 : Nat → Int → Bool → Int → Int → Int → List Int → Option (Int × Int)
  | 0, _, _, _, _, _, _ => none
  | k + 1, x1, x2, x7, x8, x1000, x1001 => if x7 = (wrap64 (Int.tdiv x1 64)) then (if 0 ≤ (Int.tmod x1 64) then (if (Go.bits .and .u64 x8 (shl .u64 18446744073709551615 (Int.tmod x1 64))) = 0 then (bits_list_first.l0 k x1 x2 (wrap64 (x7 + 1)) x1000 x1001) else ((bits_TrailingZeros64.f (Go.bits .and .u64 x8 (shl .u64 18446744073709551615 (Int.tmod x1 64)))).bind fun t150 => (some (mn x1000 (wrap64 ((wrap64 (x7 * 64)) + t150)), x1000)))) else (none)) else (if x8 = 0 then (bits_list_first.l0 k x1 x2 (wrap64 (x7 + 1)) x1000 x1001) else ((bits_TrailingZeros64.f x8).bind fun t151 => (some (mn x1000 (wrap64 ((wrap64 (x7 * 64)) + t151)), x1000))))
end
def bits_list_first.f (k : Nat) (s0_0 : Int) (s0_1 : List Int) (a1 : Int) (a2 : Bool) : Option (Int × Int) := bits_list_first.l0 k a1 a2 (wrap64 (Int.tdiv a1 64)) s0_0 s0_1
theorem bits_list_first.mono_l : ∀ k, (∀ y0 y1 y2 y3 y4, LeO (bits_list_first.l0 k y0 y1 y2 y3 y4) (bits_list_first.l0 (k + 1) y0 y1 y2 y3 y4)) ∧ (∀ y0 y1 y2 y3 y4 y5, LeO (bits_list_first.j1 k y0 y1 y2 y3 y4 y5) (bits_list_first.j1 (k + 1) y0 y1 y2 y3 y4 y5))
  | 0 => ⟨fun _ _ _ _ _ r h => by simp [bits_list_first.l0] at h, fun _ _ _ _ _ _ r h => by simp [bits_list_first.j1] at h⟩
  | k + 1 => by
    obtain ⟨ih0, ih1⟩ := bits_list_first.mono_l k
    refine ⟨?_, ?_⟩
    · intro y0 y1 y2 y3 y4
      unfold bits_list_first.l0
      repeat' first
      | (with_reducible exact ih0 _ _ _ _ _)
      | (with_reducible exact ih1 _ _ _ _ _ _)
      | (with_reducible exact LeO.refl _)
      | (with_reducible exact LeO.none _)
      | (with_reducible refine LeO.ite ?_ ?_)
      | (with_reducible refine LeO.bind ?_ (fun _ => ?_))
      | exact ih0 _ _ _ _ _
      | exact ih1 _ _ _ _ _ _
      | exact LeO.none _
      | refine LeO.ite ?_ ?_
      | refine LeO.bind ?_ (fun _ => ?_)
    · intro y0 y1 y2 y3 y4 y5
      unfold bits_list_first.j1
      repeat' first
      | (with_reducible exact ih0 _ _ _ _ _)
      | (with_reducible exact ih1 _ _ _ _ _ _)
      | (with_reducible exact LeO.refl _)
      | (with_reducible exact LeO.none _)
      | (with_reducible refine LeO.ite ?_ ?_)
      | (with_reducible refine LeO.bind ?_ (fun _ => ?_))
      | exact ih0 _ _ _ _ _
      | exact ih1 _ _ _ _ _ _
      | exact LeO.none _
      | refine LeO.ite ?_ ?_
      | refine LeO.bind ?_ (fun _ => ?_)
theorem bits_list_first.mono : ∀ a0 a1 a2 a3 k, LeO (bits_list_first.f k a0 a1 a2 a3) (bits_list_first.f (k + 1) a0 a1 a2 a3) := by
  intro a0 a1 a2 a3 k
  obtain ⟨ih0, ih1⟩ := bits_list_first.mono_l k
  unfold bits_list_first.f
  repeat' first
      | (with_reducible exact ih0 _ _ _ _ _)
      | (with_reducible exact ih1 _ _ _ _ _ _)
      | (with_reducible exact LeO.refl _)
      | (with_reducible exact LeO.none _)
      | (with_reducible refine LeO.ite ?_ ?_)
      | (with_reducible refine LeO.bind ?_ (fun _ => ?_))
      | exact ih0 _ _ _ _ _
      | exact ih1 _ _ _ _ _ _
      | exact LeO.none _
      | refine LeO.ite ?_ ?_
      | refine LeO.bind ?_ (fun _ => ?_)
set_option maxHeartbeats 8000000 in
set_option maxRecDepth 100000 in
theorem bits_list_first.calls (k : Nat) (g : Nat) (s0_0 : Int) (s0_1 : List Int) (a1 : Int) (a2 : Bool) (r1 : Int) (r2 : Int) (w0 w : World) (hI : IsS68 w0 w g s0_0 s0_1) (hB : Below w0.heap.size w0 w) (hT : TzOk w0) (h : bits_list_first.f k s0_0 s0_1 a1 a2 = some (r1, r2)) :
    Calls Tryd.prog 49 #[.pointer (some ⟨g, 0, none⟩), .int .i64 a1, .bool a2] w fun e w' => e = .returned (.int .i64 r1) ∧ IsS68 w0 w' g r2 s0_1 ∧ Below w0.heap.size w0 w' ∧ KeepBut w w' g none := by
  have HI0 := Aside0.mk hI
  have HK := Aside0.mk (KeepBut.refl w g none)
  have HL := Aside0.mk hB.size
  clear hI
  have HW0 := Aside0.mk hB.size
  have HB := Aside0.mk hB
  clear hB
  have H : (bits_list_first.l0 k a1 a2 (wrap64 (Int.tdiv a1 64)) s0_0 s0_1) = some (r1, r2) := h
  clear h
  have HT := Aside0.mk hT
  clear hT
  have H' := Aside0.mk H
  clear H
  go_enter Tryd.func49, Tryd.ntmps49
  go_wp2
  repeat (go_quiet (fail); try go_wp2)
  go_loopg [7] k (fun kq v7 w' => ∃ (x7_1 : Int), v7 = .int .i64 x7_1 ∧ Aside0 (bits_list_first.l0 kq a1 a2 x7_1 s0_0 s0_1 = some (r1, r2)) ∧ Aside0 (kq ≤ k) ∧ Aside0 (IsS68 w0 w' g s0_0 s0_1) ∧ Aside0 (KeepBut w w' g none) ∧ Aside0 (Below w0.heap.size w0 w'))
  case atStart => exact ⟨(wrap64 (Int.tdiv a1 64)), (by first | rfl | (simp; done) | (simp [*]; done)), H', ⟨Nat.le_refl _⟩, ⟨by repeat (first | (with_reducible first | exact HI0.out | apply IsS68.alloc | apply IsS68.drewN | apply IsS68.drew | apply IsS68.set_0) | exact HI0.out)⟩, ⟨by repeat (first | (with_reducible first | exact HK.out | apply KeepBut.set_ | apply keep_drewN | apply keep_drew | apply keep_alloc) | exact HK.out)⟩, ⟨by repeat (first | (with_reducible first | exact HB.out | apply below_alloc | apply pw_below_drewN | apply below_drew1 | refine below_set ?_ (IsS68.ge HI0.out)) | exact HB.out)⟩⟩
  case round =>
    clear H'
    try clear p2
    obtain ⟨x7_1, rfl, HA, HK1, HI0, HK, HB⟩ := hrel
    cases gk with
    | zero => exact absurd HA.out (by simp [bits_list_first.l0])
    | succ k1 =>
      have H := HA.out
      clear HA
      simp only [bits_list_first.l0] at H
      by_cases c4 : x7_1 < (s0_1.length : Int)
      · rw [if_pos c4] at H
        have c4b0 : decide (x7_1 < (s0_1.length : Int)) = true := decide_eq_true c4
        clear c4
        by_cases c5 : 0 ≤ x7_1
        · rw [if_pos c5] at H
          have c5b0 : decide (0 ≤ x7_1) = true := decide_eq_true c5
          clear c5
          have HC6 := Aside0.mk H
          clear H
          obtain ⟨ASz7_1, cSz7_1, HGz7, hgz7, HSz7_1⟩ := HI0.out
          have hcz7_0 := cellS68_0 HGz7
          have hcz7_1 := cellS68_1 HGz7
          have hfz7_0 := blk_frozen HGz7 0
          clear HGz7 hgz7
          have p149 : 0 ≤ (x7_1 : Int) := of_decide_eq_true (by first | (with_reducible assumption) | assumption)
          have q149 : x7_1 < (s0_1.length : Int) := of_decide_eq_true (by first | (with_reducible assumption) | assumption)
          obtain ⟨ad149, e149, hx149_0⟩ := Kd.at_int HSz7_1 x7_1 p149 q149
          cases e149
          replace hx149_0 := pw_cell_below HB.out hx149_0
          replace p149 := eq_true p149
          replace q149 := eq_true q149
          go_upto_if 30 with (fail)
          repeat (go_quiet (fail); go_upto_if 30 with (fail))
          go_cut [8] (fun v8 wc => ∃ (kq : Nat) (x8_5 : Int), v8 = .int .u64 x8_5 ∧ Aside0 (bits_list_first.j1 kq a1 a2 x7_1 x8_5 s0_0 s0_1 = some (r1, r2)) ∧ Aside0 (kq ≤ k1) ∧ Aside0 (IsS68 w0 wc g s0_0 s0_1) ∧ Aside0 (KeepBut w wc g none) ∧ Aside0 (Below w0.heap.size w0 wc))
          case first =>
            have H := HC6.out
            clear HC6
            by_cases c8 : a2 = true
            · subst c8
              have H1 : (bits_list_first.j1 k1 a1 true x7_1 (rd s0_1 x7_1) s0_0 s0_1) = some (r1, r2) := by rw [if_pos rfl] at H; exact H
              clear H
              have H := H1
              clear H1
              have H' := Aside0.mk H
              clear H
              go_wp2
              repeat (go_quiet (fail); try go_wp2)
              go_meet
              case rel => exact ⟨_, (rd s0_1 x7_1), (by first | rfl | (simp; done) | (simp [*]; done)), H', ⟨by have := HK1.out; first | omega | exact Nat.le_refl _⟩, ⟨by repeat (first | (with_reducible first | exact HI0.out | apply IsS68.alloc | apply IsS68.drewN | apply IsS68.drew | apply IsS68.set_0) | exact HI0.out)⟩, ⟨by repeat (first | (with_reducible first | exact HK.out | apply KeepBut.set_ | apply keep_drewN | apply keep_drew | apply keep_alloc) | exact HK.out)⟩, ⟨by repeat (first | (with_reducible first | exact HB.out | apply below_alloc | apply pw_below_drewN | apply below_drew1 | refine below_set ?_ (IsS68.ge HI0.out)) | exact HB.out)⟩⟩
            · replace c8 := Bool.eq_false_iff.mpr c8
              subst c8
              have H1 : (bits_list_first.j1 k1 a1 false x7_1 (Go.bits .xor .u64 18446744073709551615 (rd s0_1 x7_1)) s0_0 s0_1) = some (r1, r2) := by rw [if_neg (show ¬ (false = true) by decide)] at H; exact H
              clear H
              have H := H1
              clear H1
              have H' := Aside0.mk H
              clear H
              go_wp2
              repeat (go_quiet (fail); try go_wp2)
              go_meet
              case rel => exact ⟨_, (Go.bits .xor .u64 18446744073709551615 (rd s0_1 x7_1)), (by first | rfl | (simp; done) | (simp [*]; done)), H', ⟨by have := HK1.out; first | omega | exact Nat.le_refl _⟩, ⟨by repeat (first | (with_reducible first | exact HI0.out | apply IsS68.alloc | apply IsS68.drewN | apply IsS68.drew | apply IsS68.set_0) | exact HI0.out)⟩, ⟨by repeat (first | (with_reducible first | exact HK.out | apply KeepBut.set_ | apply keep_drewN | apply keep_drew | apply keep_alloc) | exact HK.out)⟩, ⟨by repeat (first | (with_reducible first | exact HB.out | apply below_alloc | apply pw_below_drewN | apply below_drew1 | refine below_set ?_ (IsS68.ge HI0.out)) | exact HB.out)⟩⟩
          case rest =>
            clear HC6
            try clear p1
            try clear q1
            try clear hx1
            try clear p2
            try clear c4
            try clear c4b0
            try clear c5
            try clear c5b0
            try clear p6
            try clear c8
            try clear hcz7_0
            try clear hcz7_1
            try clear hfz7_0
            try clear hx149_0
            try clear p149
            try clear p2
            try clear q149
            obtain ⟨kq, x8_5, rfl, HA, HJ5, HI0, HK, HB⟩ := hcut
            cases kq with
            | zero => exact absurd HA.out (by simp [bits_list_first.j1])
            | succ kj5 =>
              have H := HA.out
              clear HA
              simp only [bits_list_first.j1] at H
              by_cases c9 : x7_1 = (wrap64 (Int.tdiv a1 64))
              · rw [if_pos c9] at H
                have c9b0 : (x7_1 == (wrap64 (Int.tdiv a1 64))) = true := beq_iff_eq.mpr c9
                have c9b1 : (x7_1 != (wrap64 (Int.tdiv a1 64))) = false := bne_eq_false_iff_eq.mpr c9
                clear c9
                obtain ⟨ji10, hji10⟩ : ∃ j_ : Int, (Int.tmod a1 64) = j_ := ⟨_, rfl⟩
                replace H : (if 0 ≤ (ji10) then (if (Go.bits .and .u64 x8_5 (shl .u64 18446744073709551615 (ji10))) = 0 then (bits_list_first.l0 kj5 a1 a2 (wrap64 (x7_1 + 1)) s0_0 s0_1) else ((bits_TrailingZeros64.f (Go.bits .and .u64 x8_5 (shl .u64 18446744073709551615 (ji10)))).bind fun t150 => (some (mn s0_0 (wrap64 ((wrap64 (x7_1 * 64)) + t150)), s0_0)))) else (none)) = some (r1, r2) := by first | (rw [hji10] at H; exact H) | (simp only [hji10] at H ⊢; exact H)
                by_cases c11 : 0 ≤ (ji10)
                · rw [if_pos c11] at H
                  have c11b0 := eq_true c11
                  have c11b1 : decide (0 ≤ (ji10)) = true := decide_eq_true c11
                  clear c11
                  obtain ⟨ji12, hji12⟩ : ∃ j_ : Int, (shl .u64 18446744073709551615 (ji10)) = j_ := ⟨_, rfl⟩
                  replace H : (if (Go.bits .and .u64 x8_5 (ji12)) = 0 then (bits_list_first.l0 kj5 a1 a2 (wrap64 (x7_1 + 1)) s0_0 s0_1) else ((bits_TrailingZeros64.f (Go.bits .and .u64 x8_5 (ji12))).bind fun t150 => (some (mn s0_0 (wrap64 ((wrap64 (x7_1 * 64)) + t150)), s0_0)))) = some (r1, r2) := by first | (rw [hji12] at H; exact H) | (simp only [hji12] at H ⊢; exact H)
                  have hji12_ : (IntKind.u64.wrap (18446744073709551615 * 2 ^ min (ji10).toNat 64)) = ji12 := hji12
                  have hji12z : (ji10) ≤ 64 → (IntKind.u64.wrap (18446744073709551615 * 2 ^ (ji10).toNat)) = ji12 := shl_small hji12
                  by_cases c13 : (Go.bits .and .u64 x8_5 (ji12)) = 0
                  · rw [if_pos c13] at H
                    have c13b0 : ((Go.bits .and .u64 x8_5 (ji12)) == 0) = true := beq_iff_eq.mpr c13
                    have c13b1 : ((Go.bits .and .u64 x8_5 (ji12)) != 0) = false := bne_eq_false_iff_eq.mpr c13
                    clear c13
                    have H' := Aside0.mk H
                    clear H
                    go_wp2
                    repeat (go_quiet (fail); try go_wp2)
                    go_roundg kj5
                    case measure => have := HK1.out; have := HJ5.out; omega
                    case rel => exact ⟨(wrap64 (x7_1 + 1)), (by first | rfl | (simp; done) | (simp [*]; done)), H', ⟨by have := HK1.out; have := HJ5.out; omega⟩, ⟨by repeat (first | (with_reducible first | exact HI0.out | apply IsS68.alloc | apply IsS68.drewN | apply IsS68.drew | apply IsS68.set_0) | exact HI0.out)⟩, ⟨by repeat (first | (with_reducible first | exact HK.out | apply KeepBut.set_ | apply keep_drewN | apply keep_drew | apply keep_alloc) | exact HK.out)⟩, ⟨by repeat (first | (with_reducible first | exact HB.out | apply below_alloc | apply pw_below_drewN | apply below_drew1 | refine below_set ?_ (IsS68.ge HI0.out)) | exact HB.out)⟩⟩
                  · rw [if_neg c13] at H
                    have c13b0 : ((Go.bits .and .u64 x8_5 (ji12)) == 0) = false := beq_eq_false_iff_ne.mpr c13
                    have c13b1 : ((Go.bits .and .u64 x8_5 (ji12)) != 0) = true := bne_iff_ne.mpr c13
                    replace H := Option.bind_eq_some_iff.mp H
                    obtain ⟨t150, A140, H⟩ := H
                    replace H : (some (mn s0_0 (wrap64 ((wrap64 (x7_1 * 64)) + t150)), s0_0)) = some (r1, r2) := H
                    have A14 := Aside0.mk A140
                    clear A140
                    obtain ⟨ji15, hji15⟩ : ∃ j_ : Int, (mn s0_0 (wrap64 ((wrap64 (x7_1 * 64)) + t150))) = j_ := ⟨_, rfl⟩
                    replace H : (some (ji15, s0_0)) = some (r1, r2) := by first | (rw [hji15] at H; exact H) | (simp only [hji15] at H ⊢; exact H)
                    (try rw [hji15] at A14)
                    have hji15_ : (if (wrap64 ((wrap64 (x7_1 * 64)) + t150)) < s0_0 then (wrap64 ((wrap64 (x7_1 * 64)) + t150)) else s0_0) = ji15 := hji15
                    simp only [Option.some.injEq, Prod.mk.injEq] at H
                    obtain ⟨rfl, rfl⟩ := H
                    obtain ⟨ASz16_1, cSz16_1, HGz16, hgz16, HSz16_1⟩ := HI0.out
                    have hcz16_0 := cellS68_0 HGz16
                    have hcz16_1 := cellS68_1 HGz16
                    have hfz16_0 := blk_frozen HGz16 0
                    clear HGz16 hgz16
                    go_wp2_with (first | (go_at_call 60; (with_reducible refine (bits_TrailingZeros64.calls (Go.bits .and .u64 x8_5 (ji12)) t150 _ ?side1 A14.out).mono ?_); (case side1 => repeat (first | exact HT.out | exact TzOk.below HT.out (by repeat (first | (with_reducible first | exact HB.out | apply below_alloc | apply pw_below_drewN | apply below_drew1 | refine below_set ?_ (IsS68.ge HI0.out)) | exact HB.out)) | (with_reducible refine TzOk.alloc ?_ _) | (with_reducible refine TzOk.drewN ?_ _) | (with_reducible refine TzOk.drew ?_))); rintro e w' ⟨rfl, ⟨nd, rfl⟩⟩; (try first | exact ⟨rfl, _, World.drewN_drewN _ _ _⟩ | exact ⟨rfl, _, Eq.trans (World.drewN_drewN _ _ _) (congrArg (World.drewN _) (Nat.add_assoc _ _ _))⟩)))
                    repeat (go_quiet (first | (go_at_call 60; (with_reducible refine (bits_TrailingZeros64.calls (Go.bits .and .u64 x8_5 (ji12)) t150 _ ?side1 A14.out).mono ?_); (case side1 => repeat (first | exact HT.out | exact TzOk.below HT.out (by repeat (first | (with_reducible first | exact HB.out | apply below_alloc | apply pw_below_drewN | apply below_drew1 | refine below_set ?_ (IsS68.ge HI0.out)) | exact HB.out)) | (with_reducible refine TzOk.alloc ?_ _) | (with_reducible refine TzOk.drewN ?_ _) | (with_reducible refine TzOk.drew ?_))); rintro e w' ⟨rfl, ⟨nd, rfl⟩⟩; (try first | exact ⟨rfl, _, World.drewN_drewN _ _ _⟩ | exact ⟨rfl, _, Eq.trans (World.drewN_drewN _ _ _) (congrArg (World.drewN _) (Nat.add_assoc _ _ _))⟩))); try go_wp2_with (first | (go_at_call 60; (with_reducible refine (bits_TrailingZeros64.calls (Go.bits .and .u64 x8_5 (ji12)) t150 _ ?side1 A14.out).mono ?_); (case side1 => repeat (first | exact HT.out | exact TzOk.below HT.out (by repeat (first | (with_reducible first | exact HB.out | apply below_alloc | apply pw_below_drewN | apply below_drew1 | refine below_set ?_ (IsS68.ge HI0.out)) | exact HB.out)) | (with_reducible refine TzOk.alloc ?_ _) | (with_reducible refine TzOk.drewN ?_ _) | (with_reducible refine TzOk.drew ?_))); rintro e w' ⟨rfl, ⟨nd, rfl⟩⟩; (try first | exact ⟨rfl, _, World.drewN_drewN _ _ _⟩ | exact ⟨rfl, _, Eq.trans (World.drewN_drewN _ _ _) (congrArg (World.drewN _) (Nat.add_assoc _ _ _))⟩))))
                    go_ret
                    exact ⟨by first | rfl | (simp [errW_none, errW_some] <;> rfl) | (simp only [← hji10, ← hji12, ← hji15]; first | rfl | (simp [errW_none, errW_some] <;> rfl)) | (simp [*, errW_none, errW_some] <;> rfl), by repeat (first | (with_reducible first | exact HI0.out | apply IsS68.alloc | apply IsS68.drewN | apply IsS68.drew | apply IsS68.set_0) | exact HI0.out), by repeat (first | (with_reducible first | exact HB.out | apply below_alloc | apply pw_below_drewN | apply below_drew1 | refine below_set ?_ (IsS68.ge HI0.out)) | exact HB.out), by repeat (first | (with_reducible first | exact HK.out | apply KeepBut.set_ | apply keep_drewN | apply keep_drew | apply keep_alloc) | exact HK.out)⟩
                · rw [if_neg c11] at H
                  exact absurd H (by simp)
              · rw [if_neg c9] at H
                have c9b0 : (x7_1 == (wrap64 (Int.tdiv a1 64))) = false := beq_eq_false_iff_ne.mpr c9
                have c9b1 : (x7_1 != (wrap64 (Int.tdiv a1 64))) = true := bne_iff_ne.mpr c9
                by_cases c17 : x8_5 = 0
                · rw [if_pos c17] at H
                  have c17b0 : (x8_5 == 0) = true := beq_iff_eq.mpr c17
                  have c17b1 : (x8_5 != 0) = false := bne_eq_false_iff_eq.mpr c17
                  clear c17
                  have H' := Aside0.mk H
                  clear H
                  go_wp2
                  repeat (go_quiet (fail); try go_wp2)
                  go_roundg kj5
                  case measure => have := HK1.out; have := HJ5.out; omega
                  case rel => exact ⟨(wrap64 (x7_1 + 1)), (by first | rfl | (simp; done) | (simp [*]; done)), H', ⟨by have := HK1.out; have := HJ5.out; omega⟩, ⟨by repeat (first | (with_reducible first | exact HI0.out | apply IsS68.alloc | apply IsS68.drewN | apply IsS68.drew | apply IsS68.set_0) | exact HI0.out)⟩, ⟨by repeat (first | (with_reducible first | exact HK.out | apply KeepBut.set_ | apply keep_drewN | apply keep_drew | apply keep_alloc) | exact HK.out)⟩, ⟨by repeat (first | (with_reducible first | exact HB.out | apply below_alloc | apply pw_below_drewN | apply below_drew1 | refine below_set ?_ (IsS68.ge HI0.out)) | exact HB.out)⟩⟩
                · rw [if_neg c17] at H
                  have c17b0 : (x8_5 == 0) = false := beq_eq_false_iff_ne.mpr c17
                  have c17b1 : (x8_5 != 0) = true := bne_iff_ne.mpr c17
                  replace H := Option.bind_eq_some_iff.mp H
                  obtain ⟨t151, A180, H⟩ := H
                  replace H : (some (mn s0_0 (wrap64 ((wrap64 (x7_1 * 64)) + t151)), s0_0)) = some (r1, r2) := H
                  have A18 := Aside0.mk A180
                  clear A180
                  obtain ⟨ji19, hji19⟩ : ∃ j_ : Int, (mn s0_0 (wrap64 ((wrap64 (x7_1 * 64)) + t151))) = j_ := ⟨_, rfl⟩
                  replace H : (some (ji19, s0_0)) = some (r1, r2) := by first | (rw [hji19] at H; exact H) | (simp only [hji19] at H ⊢; exact H)
                  (try rw [hji19] at A18)
                  have hji19_ : (if (wrap64 ((wrap64 (x7_1 * 64)) + t151)) < s0_0 then (wrap64 ((wrap64 (x7_1 * 64)) + t151)) else s0_0) = ji19 := hji19
                  simp only [Option.some.injEq, Prod.mk.injEq] at H
                  obtain ⟨rfl, rfl⟩ := H
                  obtain ⟨ASz20_1, cSz20_1, HGz20, hgz20, HSz20_1⟩ := HI0.out
                  have hcz20_0 := cellS68_0 HGz20
                  have hcz20_1 := cellS68_1 HGz20
                  have hfz20_0 := blk_frozen HGz20 0
                  clear HGz20 hgz20
                  go_wp2_with (first | (go_at_call 60; (with_reducible refine (bits_TrailingZeros64.calls x8_5 t151 _ ?side1 A18.out).mono ?_); (case side1 => repeat (first | exact HT.out | exact TzOk.below HT.out (by repeat (first | (with_reducible first | exact HB.out | apply below_alloc | apply pw_below_drewN | apply below_drew1 | refine below_set ?_ (IsS68.ge HI0.out)) | exact HB.out)) | (with_reducible refine TzOk.alloc ?_ _) | (with_reducible refine TzOk.drewN ?_ _) | (with_reducible refine TzOk.drew ?_))); rintro e w' ⟨rfl, ⟨nd, rfl⟩⟩; (try first | exact ⟨rfl, _, World.drewN_drewN _ _ _⟩ | exact ⟨rfl, _, Eq.trans (World.drewN_drewN _ _ _) (congrArg (World.drewN _) (Nat.add_assoc _ _ _))⟩)))
                  repeat (go_quiet (first | (go_at_call 60; (with_reducible refine (bits_TrailingZeros64.calls x8_5 t151 _ ?side1 A18.out).mono ?_); (case side1 => repeat (first | exact HT.out | exact TzOk.below HT.out (by repeat (first | (with_reducible first | exact HB.out | apply below_alloc | apply pw_below_drewN | apply below_drew1 | refine below_set ?_ (IsS68.ge HI0.out)) | exact HB.out)) | (with_reducible refine TzOk.alloc ?_ _) | (with_reducible refine TzOk.drewN ?_ _) | (with_reducible refine TzOk.drew ?_))); rintro e w' ⟨rfl, ⟨nd, rfl⟩⟩; (try first | exact ⟨rfl, _, World.drewN_drewN _ _ _⟩ | exact ⟨rfl, _, Eq.trans (World.drewN_drewN _ _ _) (congrArg (World.drewN _) (Nat.add_assoc _ _ _))⟩))); try go_wp2_with (first | (go_at_call 60; (with_reducible refine (bits_TrailingZeros64.calls x8_5 t151 _ ?side1 A18.out).mono ?_); (case side1 => repeat (first | exact HT.out | exact TzOk.below HT.out (by repeat (first | (with_reducible first | exact HB.out | apply below_alloc | apply pw_below_drewN | apply below_drew1 | refine below_set ?_ (IsS68.ge HI0.out)) | exact HB.out)) | (with_reducible refine TzOk.alloc ?_ _) | (with_reducible refine TzOk.drewN ?_ _) | (with_reducible refine TzOk.drew ?_))); rintro e w' ⟨rfl, ⟨nd, rfl⟩⟩; (try first | exact ⟨rfl, _, World.drewN_drewN _ _ _⟩ | exact ⟨rfl, _, Eq.trans (World.drewN_drewN _ _ _) (congrArg (World.drewN _) (Nat.add_assoc _ _ _))⟩))))
                  go_ret
                  exact ⟨by first | rfl | (simp [errW_none, errW_some] <;> rfl) | (simp only [← hji19]; first | rfl | (simp [errW_none, errW_some] <;> rfl)) | (simp [*, errW_none, errW_some] <;> rfl), by repeat (first | (with_reducible first | exact HI0.out | apply IsS68.alloc | apply IsS68.drewN | apply IsS68.drew | apply IsS68.set_0) | exact HI0.out), by repeat (first | (with_reducible first | exact HB.out | apply below_alloc | apply pw_below_drewN | apply below_drew1 | refine below_set ?_ (IsS68.ge HI0.out)) | exact HB.out), by repeat (first | (with_reducible first | exact HK.out | apply KeepBut.set_ | apply keep_drewN | apply keep_drew | apply keep_alloc) | exact HK.out)⟩
        · rw [if_neg c5] at H
          exact absurd H (by simp)
      · rw [if_neg c4] at H
        have c4b0 : decide (x7_1 < (s0_1.length : Int)) = false := decide_eq_false c4
        clear c4
        simp only [Option.some.injEq, Prod.mk.injEq] at H
        obtain ⟨rfl, rfl⟩ := H
        obtain ⟨ASz21_1, cSz21_1, HGz21, hgz21, HSz21_1⟩ := HI0.out
        have hcz21_0 := cellS68_0 HGz21
        have hcz21_1 := cellS68_1 HGz21
        have hfz21_0 := blk_frozen HGz21 0
        clear HGz21 hgz21
        go_wp2
        repeat (go_quiet (fail); try go_wp2)
        go_ret
        exact ⟨by first | rfl | (simp [errW_none, errW_some] <;> rfl) | (simp [*, errW_none, errW_some] <;> rfl), by repeat (first | (with_reducible first | exact HI0.out | apply IsS68.alloc | apply IsS68.drewN | apply IsS68.drew | apply IsS68.set_0) | exact HI0.out), by repeat (first | (with_reducible first | exact HB.out | apply below_alloc | apply pw_below_drewN | apply below_drew1 | refine below_set ?_ (IsS68.ge HI0.out)) | exact HB.out), by repeat (first | (with_reducible first | exact HK.out | apply KeepBut.set_ | apply keep_drewN | apply keep_drew | apply keep_alloc) | exact HK.out)⟩

/-! ### bits_Run: function 20 -/
theorem bits_run_state (x1 : Int) (x2 : Bool) (n : Int) (l : List Int) : ∀ k, (∀ x7 r1 r2, bits_list_first.l0 k x1 x2 x7 n l = some (r1, r2) → r2 = n) ∧ (∀ x7 x8 r1 r2, bits_list_first.j1 k x1 x2 x7 x8 n l = some (r1, r2) → r2 = n)
  | 0 => ⟨fun _ _ _ h => by simp [bits_list_first.l0] at h, fun _ _ _ _ h => by simp [bits_list_first.j1] at h⟩
  | k + 1 => by
    obtain ⟨ih0, ih1⟩ := bits_run_state x1 x2 n l k
    refine ⟨fun x7 r1 r2 h => ?_, fun x7 x8 r1 r2 h => ?_⟩
    · simp only [bits_list_first.l0] at h
      repeat' split at h
      all_goals first
        | exact ih1 _ _ _ _ h
        | (simp only [Option.some.injEq, Prod.mk.injEq] at h; exact h.2.symm)
        | cases h
    · simp only [bits_list_first.j1] at h
      repeat' split at h
      all_goals first
        | exact ih0 _ _ _ h
        | (obtain ⟨t, _, h⟩ := Option.bind_eq_some_iff.mp h; simp only [Option.some.injEq, Prod.mk.injEq] at h; exact h.2.symm)
        | cases h
theorem bits_run_first (k g : Nat) (n : Int) (l : List Int) (fr : Int) (v : Bool) (t t' : Int) (w0 w : World) (hI : IsS68 w0 w g n l) (hB : Below w0.heap.size w0 w) (hT : TzOk w0) (h : bits_list_first.f k n l fr v = some (t, t')) :
    Calls Tryd.prog 49 #[.pointer (some ⟨g, 0, none⟩), .int .i64 fr, .bool v] w fun e w' => e = .returned (.int .i64 t) ∧ IsS68 w0 w' g n l ∧ Below w0.heap.size w0 w' ∧ KeepBut w w' g none := by
  have e : t' = n := (bits_run_state fr v n l k).1 _ _ _ h
  subst e
  exact bits_list_first.calls k g _ l fr v t _ w0 w hI hB hT h
def bits_Run.l0 (n : Int) (l : List Int) (ct : Int) : Nat → Int → Option (Int × Int)
  | 0, _ => none
  | k + 1, x8 => if x8 < n then ((bits_list_first.f k n l x8 true).bind fun b => if wrap64 (b.1 - x8) ≥ ct then some (x8, 0) else ((bits_list_first.f k n l b.1 false).bind fun b2 => bits_Run.l0 n l ct k b2.1)) else some (0, 3)
def bits_Run.f (k : Nat) (n : Int) (l : List Int) (ct : Int) : Option (Int × Int) := (bits_Check.f k n l).bind fun t1 => if t1 = 0 then (if ct < 1 then some (0, 1) else (bits_list_first.f k n l 0 false).bind fun b => bits_Run.l0 n l ct k b.1) else some (0, t1)
theorem bits_Run.mono_l (n : Int) (l : List Int) (ct : Int) : ∀ k x, LeO (bits_Run.l0 n l ct k x) (bits_Run.l0 n l ct (k + 1) x)
  | 0, _ => LeO.none _
  | k + 1, x => by
    unfold bits_Run.l0
    exact LeO.ite (LeO.bind (bits_list_first.mono _ _ _ _ _) (fun _ => LeO.ite (LeO.refl _) (LeO.bind (bits_list_first.mono _ _ _ _ _) (fun _ => bits_Run.mono_l n l ct k _)))) (LeO.refl _)
theorem bits_Run.mono : ∀ a0 a1 a2 k, LeO (bits_Run.f k a0 a1 a2) (bits_Run.f (k + 1) a0 a1 a2) := by
  intro a0 a1 a2 k
  unfold bits_Run.f
  exact LeO.bind (bits_Check.mono _ _ _) (fun _ => LeO.ite (LeO.ite (LeO.refl _) (LeO.bind (bits_list_first.mono _ _ _ _ _) (fun _ => bits_Run.mono_l _ _ _ _ _))) (LeO.refl _))
set_option maxHeartbeats 8000000 in
set_option maxRecDepth 100000 in
theorem bits_Run.calls (k : Nat) (n : Int) (A : Option Addr) (c : Nat) (l : List Int) (ct : Int) (r1 : Int) (r2 : Int) (w : World) (hr0 : Kd.C (Kd.int .u64) w A l.length l) (hc0 : l.length ≤ c) (hT : TzOk w) (h : bits_Run.f k n l ct = some (r1, r2)) :
    Calls Tryd.prog 20 #[.agg #[.int .i64 n, .slice A l.length c], .int .i64 ct] w fun e w' => e = .returned (.tuple #[.int .i64 r1, .int .i64 r2]) ∧ Below w.heap.size w w' := by
  have hu := Tryd.underlying24
  have HR0 := Aside0.mk hr0
  have HC0 := Aside0.mk hc0
  have HT := Aside0.mk hT
  clear hr0 hc0 hT
  have HB := Aside0.mk (Below.refl w.heap.size w)
  have H := h
  clear h
  unfold bits_Run.f at H
  replace H := Option.bind_eq_some_iff.mp H
  obtain ⟨t1, A1, H⟩ := H
  replace A1 := Aside0.mk A1
  by_cases c5 : t1 = 0
  · rw [if_pos c5] at H
    subst c5
    by_cases d0 : ct < 1
    · rw [if_pos d0] at H
      have e0 : decide (ct < 1) = true := decide_eq_true d0
      clear d0
      simp only [Option.some.injEq, Prod.mk.injEq] at H
      obtain ⟨rfl, rfl⟩ := H
      go_enter Tryd.func20, Tryd.ntmps20
      go_wp2_with (first | ((with_reducible refine gate_dst (N := 2) rfl ?_); refine box_event ?hg (N := 2) ?hd (cs := #[.int .i64 n, .slice A l.length c]) (t := 24) ?hr ?_; (case hd => rfl); (case hg => rfl); (case hr => first | (go_simp; done) | (go_simp; rfl)); intro gb2 hg w_ hbox hb; have n0_ := Aside0.mk (below_step (by repeat (first | (with_reducible first | exact HB.out | apply below_alloc | apply pw_below_drewN | apply below_drew1) | exact HB.out)) hb); have n1_ := Aside0.mk (hbox); have n2_ := Aside0.mk ((by rw [hg]; exact (below_size (by repeat (first | (with_reducible first | exact HB.out | apply below_alloc | apply pw_below_drewN | apply below_drew1) | exact HB.out)))) : w.heap.size ≤ gb2); clear HB; have HB := n0_; have BK2 := n1_; have GE2 := n2_; clear n0_ n1_ n2_; clear hb hbox hg; have hcz2_0 : w_.cell? ⟨gb2, 0, none⟩ = some (.int .i64 n) := (blk_cell BK2.out 0).trans rfl; have hfz2_0 := blk_frozen BK2.out 0; have hcz2_1 : w_.cell? ⟨gb2, 1, none⟩ = some (.slice A l.length c) := (blk_cell BK2.out 1).trans rfl; have hfz2_1 := blk_frozen BK2.out 1) | ((with_reducible refine gate_callee (f := 43) rfl ?_); refine goesL_ (some 11) rfl rfl Tryd.func43 (by kernel_rfl) rfl #[.agg #[.int .i64 n, .slice A l.length c]] rfl (by (try simp only [List.map_toArray, List.map_cons, List.map_nil]); first | done | rfl | (simp only [List.length_drop, List.length_take]; rfl)) ?_; (with_reducible refine (bits_Check.calls k n _ _ l 0 _ ?side1 ?side2 A1.out).mono ?_); (case side1 => exact (Kd.C_below HR0.out HB.out)); (case side2 => exact HC0.out); rintro e w16 ⟨rfl, hb⟩; refine ⟨_, rfl, ?_⟩; (try clear hcz2_0 hfz2_0 hcz2_1 hfz2_1); have n0_ := Aside0.mk (blk_below (g := gb2) (o := .cells #[.int .i64 n, .slice A l.length c] 24 (0, 0)) (by (with_reducible repeat (first | refine blk_drewN ?_ _ | refine blk_drew ?_ | refine blk_alloc ?_ _)); exact BK2.out) hb); have n1_ := Aside0.mk (below_step (by repeat (first | (with_reducible first | exact HB.out | apply below_alloc | apply pw_below_drewN | apply below_drew1 | refine below_set ?_ GE2.out) | exact HB.out)) hb); clear BK2; clear HB; have BK2 := n0_; have HB := n1_; clear n0_ n1_; clear hb; have hcz2_0 : w16.cell? ⟨gb2, 0, none⟩ = some (.int .i64 n) := (blk_cell BK2.out 0).trans rfl; have hfz2_0 := blk_frozen BK2.out 0; have hcz2_1 : w16.cell? ⟨gb2, 1, none⟩ = some (.slice A l.length c) := (blk_cell BK2.out 1).trans rfl; have hfz2_1 := blk_frozen BK2.out 1))
      go_ret2
      exact ⟨by first | rfl | (simp; done), by repeat (first | (with_reducible first | exact HB.out | apply below_alloc | apply pw_below_drewN | apply below_drew1 | refine below_set ?_ GE2.out) | exact HB.out)⟩
    rw [if_neg d0] at H
    have e0 : decide (ct < 1) = false := decide_eq_false d0
    clear d0
    replace H := Option.bind_eq_some_iff.mp H
    obtain ⟨⟨t2, t3⟩, A2, H⟩ := H
    replace A2 := Aside0.mk A2
    have H' := Aside0.mk (show bits_Run.l0 n l ct k t2 = some (r1, r2) from H)
    clear H
    go_enter Tryd.func20, Tryd.ntmps20
    go_wp2_with (first | ((with_reducible refine gate_dst (N := 2) rfl ?_); refine box_event ?hg (N := 2) ?hd (cs := #[.int .i64 n, .slice A l.length c]) (t := 24) ?hr ?_; (case hd => rfl); (case hg => rfl); (case hr => first | (go_simp; done) | (go_simp; rfl)); intro gb2 hg w_ hbox hb; have n0_ := Aside0.mk (below_step (by repeat (first | (with_reducible first | exact HB.out | apply below_alloc | apply pw_below_drewN | apply below_drew1) | exact HB.out)) hb); have n1_ := Aside0.mk (hbox); have n2_ := Aside0.mk ((by rw [hg]; exact (below_size (by repeat (first | (with_reducible first | exact HB.out | apply below_alloc | apply pw_below_drewN | apply below_drew1) | exact HB.out)))) : w.heap.size ≤ gb2); clear HB; have HB := n0_; have BK2 := n1_; have GE2 := n2_; clear n0_ n1_ n2_; clear hb hbox hg; have hcz2_0 : w_.cell? ⟨gb2, 0, none⟩ = some (.int .i64 n) := (blk_cell BK2.out 0).trans rfl; have hfz2_0 := blk_frozen BK2.out 0; have hcz2_1 : w_.cell? ⟨gb2, 1, none⟩ = some (.slice A l.length c) := (blk_cell BK2.out 1).trans rfl; have hfz2_1 := blk_frozen BK2.out 1) | ((with_reducible refine gate_callee (f := 43) rfl ?_); refine goesL_ (some 11) rfl rfl Tryd.func43 (by kernel_rfl) rfl #[.agg #[.int .i64 n, .slice A l.length c]] rfl (by (try simp only [List.map_toArray, List.map_cons, List.map_nil]); first | done | rfl | (simp only [List.length_drop, List.length_take]; rfl)) ?_; (with_reducible refine (bits_Check.calls k n _ _ l 0 _ ?side1 ?side2 A1.out).mono ?_); (case side1 => exact (Kd.C_below HR0.out HB.out)); (case side2 => exact HC0.out); rintro e w16 ⟨rfl, hb⟩; refine ⟨_, rfl, ?_⟩; (try clear hcz2_0 hfz2_0 hcz2_1 hfz2_1); have n0_ := Aside0.mk (blk_below (g := gb2) (o := .cells #[.int .i64 n, .slice A l.length c] 24 (0, 0)) (by (with_reducible repeat (first | refine blk_drewN ?_ _ | refine blk_drew ?_ | refine blk_alloc ?_ _)); exact BK2.out) hb); have n1_ := Aside0.mk (below_step (by repeat (first | (with_reducible first | exact HB.out | apply below_alloc | apply pw_below_drewN | apply below_drew1 | refine below_set ?_ GE2.out) | exact HB.out)) hb); clear BK2; clear HB; have BK2 := n0_; have HB := n1_; clear n0_ n1_; clear hb; have hcz2_0 : w16.cell? ⟨gb2, 0, none⟩ = some (.int .i64 n) := (blk_cell BK2.out 0).trans rfl; have hfz2_0 := blk_frozen BK2.out 0; have hcz2_1 : w16.cell? ⟨gb2, 1, none⟩ = some (.slice A l.length c) := (blk_cell BK2.out 1).trans rfl; have hfz2_1 := blk_frozen BK2.out 1) | ((with_reducible refine gate_dst (N := 19) rfl ?_); refine box_event ?hg (N := 19) ?hd (cs := #[.int .i64 n, .slice A l.length c]) (t := 68) ?hr ?_; (case hd => rfl); (case hg => rfl); (case hr => first | (go_simp; done) | (go_simp; rfl)); intro gb19 hg w_ hbox hb; clear hcz2_0 hfz2_0 hcz2_1 hfz2_1; have n0_ := Aside0.mk (blk_below (g := gb2) (o := .cells #[.int .i64 n, .slice A l.length c] 24 (0, 0)) (by (with_reducible repeat (first | refine blk_drewN ?_ _ | refine blk_drew ?_ | refine blk_alloc ?_ _)); exact BK2.out) hb); have n1_ := Aside0.mk (below_step (by repeat (first | (with_reducible first | exact HB.out | apply below_alloc | apply pw_below_drewN | apply below_drew1 | refine below_set ?_ GE2.out) | exact HB.out)) hb); have n2_ := Aside0.mk (hbox); have n3_ := Aside0.mk ((by rw [hg]; exact (below_size (by repeat (first | (with_reducible first | exact HB.out | apply below_alloc | apply pw_below_drewN | apply below_drew1 | refine below_set ?_ GE2.out) | exact HB.out)))) : w.heap.size ≤ gb19); have n4_ := Aside0.mk ((by rw [hg]; exact Nat.ne_of_gt (blk_lt (g := gb2) (o := .cells #[.int .i64 n, .slice A l.length c] 24 (0, 0)) (by (with_reducible repeat (first | refine blk_drewN ?_ _ | refine blk_drew ?_ | refine blk_alloc ?_ _)); exact BK2.out))) : gb19 ≠ gb2); clear BK2; clear HB; have BK2 := n0_; have HB := n1_; have BK19 := n2_; have GE19 := n3_; have NB19_2 := n4_; clear n0_ n1_ n2_ n3_ n4_; clear hb hbox hg; have hcz2_0 : w_.cell? ⟨gb2, 0, none⟩ = some (.int .i64 n) := (blk_cell BK2.out 0).trans rfl; have hfz2_0 := blk_frozen BK2.out 0; have hcz2_1 : w_.cell? ⟨gb2, 1, none⟩ = some (.slice A l.length c) := (blk_cell BK2.out 1).trans rfl; have hfz2_1 := blk_frozen BK2.out 1) | ((with_reducible refine gate_callee (f := 49) rfl ?_); refine goesL_ (some 21) rfl rfl Tryd.func49 (by kernel_rfl) rfl #[.pointer (some ⟨gb19, 0, none⟩), .int .i64 0, .bool false] rfl (by (try simp only [List.map_toArray, List.map_cons, List.map_nil]); first | done | rfl | (simp only [List.length_drop, List.length_take]; rfl)) ?_; (with_reducible refine (bits_run_first k gb19 n l 0 false t2 _ w _ ?side1 ?side2 HT.out A2.out).mono ?_); (case side1 => exact ⟨A, c, (by (with_reducible repeat (first | refine blk_drewN ?_ _ | refine blk_drew ?_ | refine blk_alloc ?_ _)); exact BK19.out), GE19.out, HR0.out⟩); (case side2 => exact (by repeat (first | (with_reducible first | exact HB.out | apply below_alloc | apply pw_below_drewN | apply below_drew1 | refine below_set ?_ GE2.out | refine below_set ?_ GE19.out) | exact HB.out))); rintro e w30 ⟨rfl, hi, hb, hk⟩; refine ⟨_, rfl, ?_⟩; (try clear hcz2_0 hfz2_0 hcz2_1 hfz2_1); have n0_ := Aside0.mk ((hk.2 gb2 (blk_lt (g := gb2) (o := .cells #[.int .i64 n, .slice A l.length c] 24 (0, 0)) (by (with_reducible repeat (first | refine blk_drewN ?_ _ | refine blk_drew ?_ | refine blk_alloc ?_ _)); exact BK2.out)) (fun e_ => NB19_2.out e_.symm) (by simp)).trans (by (with_reducible repeat (first | refine blk_drewN ?_ _ | refine blk_drew ?_ | refine blk_alloc ?_ _)); exact BK2.out)); have n1_ := Aside0.mk hb; have n2_ := Aside0.mk hi; clear BK2 HB; (try clear HI); have BK2 := n0_; have HB := n1_; have HI := n2_; clear n0_ n1_ n2_; clear hb hk hi))
    go_loopg [8] k (fun kq v8 wr => ∃ x8 : Int, v8 = .int .i64 x8 ∧ Aside0 (bits_Run.l0 n l ct kq x8 = some (r1, r2)) ∧ Aside0 (kq ≤ k) ∧ Aside0 (IsS68 w wr gb19 n l) ∧ Aside0 (wr.heap[gb2]? = some (.cells #[.int .i64 n, .slice A l.length c] 24 (0, 0))) ∧ Aside0 (Below w.heap.size w wr))
    case atStart => exact ⟨t2, rfl, H', ⟨Nat.le_refl _⟩, ⟨(by repeat (first | (with_reducible first | exact HI.out | apply IsS68.alloc | apply IsS68.drewN | apply IsS68.drew) | exact HI.out))⟩, ⟨by (with_reducible repeat (first | refine blk_drewN ?_ _ | refine blk_drew ?_ | refine blk_alloc ?_ _)); exact BK2.out⟩, ⟨by repeat (first | (with_reducible first | exact HB.out | apply below_alloc | apply pw_below_drewN | apply below_drew1 | refine below_set ?_ GE2.out) | exact HB.out)⟩⟩
    case round =>
      clear H'
      obtain ⟨x8, rfl, HA, HK1, HI, BK2, HB⟩ := hrel
      have hcz2_0 : wr.cell? ⟨gb2, 0, none⟩ = some (.int .i64 n) := (blk_cell BK2.out 0).trans rfl
      cases gk with
      | zero => exact absurd HA.out (by simp [bits_Run.l0])
      | succ k1 =>
        have H := HA.out
        clear HA
        simp only [bits_Run.l0] at H
        by_cases c6 : x8 < n
        · rw [if_pos c6] at H
          have c6b : decide (x8 < n) = true := decide_eq_true c6
          clear c6
          replace H := Option.bind_eq_some_iff.mp H
          obtain ⟨⟨t4, t5⟩, A4, H⟩ := H
          replace A4 := Aside0.mk A4
          simp only at H
          by_cases c7 : wrap64 (t4 - x8) ≥ ct
          · rw [if_pos c7] at H
            have c7b : decide (ct ≤ wrap64 (t4 - x8)) = true := decide_eq_true c7
            clear c7
            simp only [Option.some.injEq, Prod.mk.injEq] at H
            obtain ⟨rfl, rfl⟩ := H
            go_wp2_with (first | ((with_reducible refine gate_callee (f := 49) rfl ?_); refine goesL_ (some 28) rfl rfl Tryd.func49 (by kernel_rfl) rfl #[.pointer (some ⟨gb19, 0, none⟩), .int .i64 x8, .bool true] rfl (by (try simp only [List.map_toArray, List.map_cons, List.map_nil]); first | done | rfl | (simp only [List.length_drop, List.length_take]; rfl)) ?_; (with_reducible refine (bits_run_first k1 gb19 n l x8 true t4 _ w _ ?side1 ?side2 HT.out A4.out).mono ?_); (case side1 => exact by repeat (first | (with_reducible first | exact HI.out | apply IsS68.alloc | apply IsS68.drewN | apply IsS68.drew) | exact HI.out)); (case side2 => exact (by repeat (first | (with_reducible first | exact HB.out | apply below_alloc | apply pw_below_drewN | apply below_drew1 | refine below_set ?_ GE2.out) | exact HB.out))); rintro e w40 ⟨rfl, hi, hb, hk⟩; refine ⟨_, rfl, ?_⟩; (try clear hcz2_0 hfz2_0 hcz2_1 hfz2_1); have n0_ := Aside0.mk ((hk.2 gb2 (blk_lt (g := gb2) (o := .cells #[.int .i64 n, .slice A l.length c] 24 (0, 0)) (by (with_reducible repeat (first | refine blk_drewN ?_ _ | refine blk_drew ?_ | refine blk_alloc ?_ _)); exact BK2.out)) (fun e_ => NB19_2.out e_.symm) (by simp)).trans (by (with_reducible repeat (first | refine blk_drewN ?_ _ | refine blk_drew ?_ | refine blk_alloc ?_ _)); exact BK2.out)); have n1_ := Aside0.mk hb; have n2_ := Aside0.mk hi; clear BK2 HB; (try clear HI); have BK2 := n0_; have HB := n1_; have HI := n2_; clear n0_ n1_ n2_; clear hb hk hi; have hcz2_0 : w40.cell? ⟨gb2, 0, none⟩ = some (.int .i64 n) := (blk_cell BK2.out 0).trans rfl; have hfz2_0 := blk_frozen BK2.out 0; have hcz2_1 : w40.cell? ⟨gb2, 1, none⟩ = some (.slice A l.length c) := (blk_cell BK2.out 1).trans rfl; have hfz2_1 := blk_frozen BK2.out 1))
            go_ret2
            exact ⟨by first | rfl | (simp; done), by repeat (first | (with_reducible first | exact HB.out | apply below_alloc | apply pw_below_drewN | apply below_drew1 | refine below_set ?_ GE2.out) | exact HB.out)⟩
          · rw [if_neg c7] at H
            have c7b : decide (ct ≤ wrap64 (t4 - x8)) = false := decide_eq_false c7
            clear c7
            replace H := Option.bind_eq_some_iff.mp H
            obtain ⟨⟨t6, t7⟩, A6, H⟩ := H
            replace A6 := Aside0.mk A6
            have H' := Aside0.mk (show bits_Run.l0 n l ct k1 t6 = some (r1, r2) from H)
            clear H
            go_wp2_with (first | ((with_reducible refine gate_callee (f := 49) rfl ?_); refine goesL_ (some 28) rfl rfl Tryd.func49 (by kernel_rfl) rfl #[.pointer (some ⟨gb19, 0, none⟩), .int .i64 x8, .bool true] rfl (by (try simp only [List.map_toArray, List.map_cons, List.map_nil]); first | done | rfl | (simp only [List.length_drop, List.length_take]; rfl)) ?_; (with_reducible refine (bits_run_first k1 gb19 n l x8 true t4 _ w _ ?side1 ?side2 HT.out A4.out).mono ?_); (case side1 => exact by repeat (first | (with_reducible first | exact HI.out | apply IsS68.alloc | apply IsS68.drewN | apply IsS68.drew) | exact HI.out)); (case side2 => exact (by repeat (first | (with_reducible first | exact HB.out | apply below_alloc | apply pw_below_drewN | apply below_drew1 | refine below_set ?_ GE2.out) | exact HB.out))); rintro e w40 ⟨rfl, hi, hb, hk⟩; refine ⟨_, rfl, ?_⟩; (try clear hcz2_0 hfz2_0 hcz2_1 hfz2_1); have n0_ := Aside0.mk ((hk.2 gb2 (blk_lt (g := gb2) (o := .cells #[.int .i64 n, .slice A l.length c] 24 (0, 0)) (by (with_reducible repeat (first | refine blk_drewN ?_ _ | refine blk_drew ?_ | refine blk_alloc ?_ _)); exact BK2.out)) (fun e_ => NB19_2.out e_.symm) (by simp)).trans (by (with_reducible repeat (first | refine blk_drewN ?_ _ | refine blk_drew ?_ | refine blk_alloc ?_ _)); exact BK2.out)); have n1_ := Aside0.mk hb; have n2_ := Aside0.mk hi; clear BK2 HB; (try clear HI); have BK2 := n0_; have HB := n1_; have HI := n2_; clear n0_ n1_ n2_; clear hb hk hi; have hcz2_0 : w40.cell? ⟨gb2, 0, none⟩ = some (.int .i64 n) := (blk_cell BK2.out 0).trans rfl; have hfz2_0 := blk_frozen BK2.out 0; have hcz2_1 : w40.cell? ⟨gb2, 1, none⟩ = some (.slice A l.length c) := (blk_cell BK2.out 1).trans rfl; have hfz2_1 := blk_frozen BK2.out 1) | ((with_reducible refine gate_callee (f := 49) rfl ?_); refine goesL_ (some 37) rfl rfl Tryd.func49 (by kernel_rfl) rfl #[.pointer (some ⟨gb19, 0, none⟩), .int .i64 t4, .bool false] rfl (by (try simp only [List.map_toArray, List.map_cons, List.map_nil]); first | done | rfl | (simp only [List.length_drop, List.length_take]; rfl)) ?_; (with_reducible refine (bits_run_first k1 gb19 n l t4 false t6 _ w _ ?side1 ?side2 HT.out A6.out).mono ?_); (case side1 => exact by repeat (first | (with_reducible first | exact HI.out | apply IsS68.alloc | apply IsS68.drewN | apply IsS68.drew) | exact HI.out)); (case side2 => exact (by repeat (first | (with_reducible first | exact HB.out | apply below_alloc | apply pw_below_drewN | apply below_drew1 | refine below_set ?_ GE2.out) | exact HB.out))); rintro e w50 ⟨rfl, hi, hb, hk⟩; refine ⟨_, rfl, ?_⟩; (try clear hcz2_0 hfz2_0 hcz2_1 hfz2_1); have n0_ := Aside0.mk ((hk.2 gb2 (blk_lt (g := gb2) (o := .cells #[.int .i64 n, .slice A l.length c] 24 (0, 0)) (by (with_reducible repeat (first | refine blk_drewN ?_ _ | refine blk_drew ?_ | refine blk_alloc ?_ _)); exact BK2.out)) (fun e_ => NB19_2.out e_.symm) (by simp)).trans (by (with_reducible repeat (first | refine blk_drewN ?_ _ | refine blk_drew ?_ | refine blk_alloc ?_ _)); exact BK2.out)); have n1_ := Aside0.mk hb; have n2_ := Aside0.mk hi; clear BK2 HB; (try clear HI); have BK2 := n0_; have HB := n1_; have HI := n2_; clear n0_ n1_ n2_; clear hb hk hi; have hcz2_0 : w50.cell? ⟨gb2, 0, none⟩ = some (.int .i64 n) := (blk_cell BK2.out 0).trans rfl; have hfz2_0 := blk_frozen BK2.out 0; have hcz2_1 : w50.cell? ⟨gb2, 1, none⟩ = some (.slice A l.length c) := (blk_cell BK2.out 1).trans rfl; have hfz2_1 := blk_frozen BK2.out 1))
            go_roundg k1
            case measure => have := HK1.out; omega
            case rel => exact ⟨t6, rfl, H', ⟨by have := HK1.out; omega⟩, ⟨(by repeat (first | (with_reducible first | exact HI.out | apply IsS68.alloc | apply IsS68.drewN | apply IsS68.drew) | exact HI.out))⟩, ⟨by (with_reducible repeat (first | refine blk_drewN ?_ _ | refine blk_drew ?_ | refine blk_alloc ?_ _)); exact BK2.out⟩, ⟨by repeat (first | (with_reducible first | exact HB.out | apply below_alloc | apply pw_below_drewN | apply below_drew1 | refine below_set ?_ GE2.out) | exact HB.out)⟩⟩
        · rw [if_neg c6] at H
          have c6b : decide (x8 < n) = false := decide_eq_false c6
          clear c6
          simp only [Option.some.injEq, Prod.mk.injEq] at H
          obtain ⟨rfl, rfl⟩ := H
          go_wp2
          go_ret2
          exact ⟨by first | rfl | (simp; done), by repeat (first | (with_reducible first | exact HB.out | apply below_alloc | apply pw_below_drewN | apply below_drew1 | refine below_set ?_ GE2.out) | exact HB.out)⟩
  · rw [if_neg c5] at H
    have c5b0 : (t1 == 0) = false := beq_eq_false_iff_ne.mpr c5
    have c5b1 : (t1 != 0) = true := bne_iff_ne.mpr c5
    clear c5
    simp only [Option.some.injEq, Prod.mk.injEq] at H
    obtain ⟨rfl, rfl⟩ := H
    go_enter Tryd.func20, Tryd.ntmps20
    go_wp2_with (first | ((with_reducible refine gate_dst (N := 2) rfl ?_); refine box_event ?hg (N := 2) ?hd (cs := #[.int .i64 n, .slice A l.length c]) (t := 24) ?hr ?_; (case hd => rfl); (case hg => rfl); (case hr => first | (go_simp; done) | (go_simp; rfl)); intro gb2 hg w_ hbox hb; have n0_ := Aside0.mk (below_step (by repeat (first | (with_reducible first | exact HB.out | apply below_alloc | apply pw_below_drewN | apply below_drew1) | exact HB.out)) hb); have n1_ := Aside0.mk (hbox); have n2_ := Aside0.mk ((by rw [hg]; exact (below_size (by repeat (first | (with_reducible first | exact HB.out | apply below_alloc | apply pw_below_drewN | apply below_drew1) | exact HB.out)))) : w.heap.size ≤ gb2); clear HB; have HB := n0_; have BK2 := n1_; have GE2 := n2_; clear n0_ n1_ n2_; clear hb hbox hg; have hcz2_0 : w_.cell? ⟨gb2, 0, none⟩ = some (.int .i64 n) := (blk_cell BK2.out 0).trans rfl; have hfz2_0 := blk_frozen BK2.out 0; have hcz2_1 : w_.cell? ⟨gb2, 1, none⟩ = some (.slice A l.length c) := (blk_cell BK2.out 1).trans rfl; have hfz2_1 := blk_frozen BK2.out 1) | ((with_reducible refine gate_callee (f := 43) rfl ?_); refine goesL_ (some 11) rfl rfl Tryd.func43 (by kernel_rfl) rfl #[.agg #[.int .i64 n, .slice A l.length c]] rfl (by (try simp only [List.map_toArray, List.map_cons, List.map_nil]); first | done | rfl | (simp only [List.length_drop, List.length_take]; rfl)) ?_; (with_reducible refine (bits_Check.calls k n _ _ l t1 _ ?side1 ?side2 A1.out).mono ?_); (case side1 => exact (Kd.C_below HR0.out HB.out)); (case side2 => exact HC0.out); rintro e w16 ⟨rfl, hb⟩; refine ⟨_, rfl, ?_⟩; (try clear hcz2_0 hfz2_0 hcz2_1 hfz2_1); have n0_ := Aside0.mk (blk_below (g := gb2) (o := .cells #[.int .i64 n, .slice A l.length c] 24 (0, 0)) (by (with_reducible repeat (first | refine blk_drewN ?_ _ | refine blk_drew ?_ | refine blk_alloc ?_ _)); exact BK2.out) hb); have n1_ := Aside0.mk (below_step (by repeat (first | (with_reducible first | exact HB.out | apply below_alloc | apply pw_below_drewN | apply below_drew1 | refine below_set ?_ GE2.out) | exact HB.out)) hb); clear BK2; clear HB; have BK2 := n0_; have HB := n1_; clear n0_ n1_; clear hb))
    go_ret2
    exact ⟨by first | rfl | (simp; done), by repeat (first | (with_reducible first | exact HB.out | apply below_alloc | apply pw_below_drewN | apply below_drew1 | refine below_set ?_ GE2.out) | exact HB.out)⟩

end Go.Proofs.YthphncefbahcaaaDoor.GO
