/- Made by gprint.py, this session's program over the kit's print program, out of the translation; the functions that it does not print are proved by hand (wip/given). Lean checks it. -/
import Derived.Test.YtdadleamaalhiaaGTx0
import Derived.Test.YtdadleamaalhiaaGTx1
import Derived.Test.YtdadleamaalhiaaGTx2
namespace Go.Proofs.Ytdadleamaalhiaa.GT
open Go.RowKit Go.Proofs.YtdadleamaalhiaaW.PrintWords Go.Proofs.YtdadleamaalhiaaW.PrintLast Go.Proofs.YtdadleamaalhiaaW.PrintMore
attribute [local go_sem] max2_int min2_int max_two min_two max_three min_three max_four min_four   -- for this text's walks alone
set_option linter.unusedVariables false
set_option linter.unusedSimpArgs false

/-! ### arena_change: function 59 -/
/-- A call of a function value. -/
theorem goesV_ {P : Program} {ops : Array Oper} {Q : Exit → Act → World → Prop} {rest : List Oper} {oi : Oper} {a : Act} {w : World} (N : Option Tmp) (hd : oi.dst = N) (hg : oi.guard = none) {f : FuncId} {fn : Func} {s : Operand} {as_ : Array Operand} {ts : Array TypeId} (hf : P.funcs[f]? = some fn) (hname : (fn.name == "runtime.NumGoroutine") = false) (hb : fn.body.isSome = true) (args cap : Array Value)
    (hop : oi.op = .call { callee := .value s, args := as_, argTypes := ts }) (hs : a.eval s = .func (.func f) #[] cap) (hargs : as_.map a.eval = args)
    (h : Calls P f (args ++ cap) w fun e w' => ∃ v, e = .returned v ∧ wpList P ops Q rest (a.put N v) w') : wpList P ops Q (oi :: rest) a w := by
  refine wpList_plain hg fun K hK => ?_
  have he := enters_ hf hname hb (args ++ cap) w
  have hrun : (execOp a.eval oi).run P w = .ok (.enter f (args ++ cap)) w := by
    unfold execOp
    simp [hop, resolve, hs, Deferred.ofValue, invoke, hargs, he]
  unfold Oper.wp
  rw [hrun, Oper.upon_enter]
  refine h.mono fun e w'' hh => ?_
  obtain ⟨v, rfl, hk⟩ := hh
  subst hd
  exact hK _ _ hk
/-- What a function value that is handed over does to a list of words. -/
def DoSpec (w : World) (f : FuncId) (cap : Array Value) (F : List Int → Option (List Int)) : Prop :=
  ∀ (W : World) (A : Option Addr) (c : Nat) (l l' : List Int), Below w.heap.size w W → Kd.R (Kd.int .u64) 25 W w.heap.size (fun _ => True) (.slice A l.length c) l → F l = some l' →
    Calls Try.prog f (#[.slice A l.length c] ++ cap) W fun e W' => e = .returned (.tuple #[]) ∧ Kd.R (Kd.int .u64) 25 W' w.heap.size (fun _ => True) (.slice A l'.length c) l' ∧ l'.length = l.length ∧ W.grownBy W' (Value.slice A l.length c).ownBlock
def storeF (i x : Int) (l : List Int) : Option (List Int) := if 0 ≤ i then (if i < (l.length : Int) then some (l.set i.toNat x) else none) else none
set_option maxHeartbeats 4000000 in
set_option maxRecDepth 100000 in
theorem store_do (w : World) (bw bi : Nat) (i x : Int) (hbw : w.cell? ⟨bw, 0, none⟩ = some (.int .u64 x)) (hbi : w.cell? ⟨bi, 0, none⟩ = some (.int .u64 i)) :
    DoSpec w 64 #[.pointer (some ⟨bw, 0, none⟩), .pointer (some ⟨bi, 0, none⟩)] (storeF i x) := by
  intro W A c l l' hB hR hF
  unfold storeF at hF
  by_cases c1 : 0 ≤ i
  · rw [if_pos c1] at hF
    by_cases c2 : i < (l.length : Int)
    · rw [if_pos c2] at hF
      have hw' := pw_cell_below hB hbw
      have hi' := pw_cell_below hB hbi
      obtain ⟨go, co, eo, gb, gl, cl, HG⟩ := Kd.R_form hR (by omega)
      cases eo
      obtain ⟨hx, hfz⟩ := Kd.R_celln 0 hR i c1 c2
      have HP := Kd.R_putg hR i x
      have HPh := Aside0.mk HP
      have hl' := Aside0.mk (Option.some.inj hF)
      have HRh := Aside0.mk hR
      clear hF HP hR HG hB hbw hbi cl gb gl
      show Calls Try.prog 64 #[.slice (some ⟨go, 0, none⟩) l.length c, .pointer (some ⟨bw, 0, none⟩), .pointer (some ⟨bi, 0, none⟩)] W _
      go_enter Try.func64, Try.ntmps64
      go_wp2
      go_end0
      have hh := HPh.out
      have e1 := hl'.out
      subst e1
      exact ⟨rfl, by rw [List.length_set]; exact hh.1, by simp, by simpa [Value.ownBlock] using hh.2⟩
    · rw [if_neg c2] at hF; cases hF
  · rw [if_neg c1] at hF; cases hF
def setsL (l : List Int) : Nat → List Int → List Int
  | _, [] => l
  | o, x :: r => setsL (l.set o x) (o + 1) r
theorem setsL_length : ∀ (vs : List Int) (l : List Int) (o : Nat), (setsL l o vs).length = l.length
  | [], _, _ => rfl
  | x :: r, l, o => by rw [setsL, setsL_length r]; simp
theorem R_setsL {base g n cap : Nat} {ok : Nat → Prop} : ∀ (vs : List Int) (W : World) (l : List Int) (o : Nat), Kd.R (Kd.int .u64) 25 W base ok (.slice (some ⟨g, 0, none⟩) n cap) l →
    Kd.R (Kd.int .u64) 25 (W.setCells g o (vs.map (Value.int .u64))) base ok (.slice (some ⟨g, 0, none⟩) n cap) (setsL l o vs) ∧ W.grownBy (W.setCells g o (vs.map (Value.int .u64))) (some g)
  | [], W, l, o, h => ⟨h, World.grownBy.refl _ _⟩
  | x :: r, W, l, o, h => by
    have h1 := Kd.R_putg h (o : Int) x
    rw [Int.toNat_natCast] at h1
    have h2 := R_setsL r (W.setCell ⟨g, o, none⟩ (.int .u64 x)) (l.set o x) (o + 1) h1.1
    exact ⟨h2.1, World.grownBy.trans h1.2 h2.2⟩
theorem clear_none (A' : Option Addr) (c' : Nat) (w' : World) : (Builtin.clear_ #[22] 0 #[.slice A' 0 c']).run Try.prog w' = .ok (.tuple #[]) w' := by
  cases A' <;> simp [Builtin.clear_, run_underlying Try.underlying22]
def clearF (i n : Int) (l : List Int) : Option (List Int) := if 0 ≤ i then (if 0 ≤ n then (if i + n ≤ (l.length : Int) then some (setsL l i.toNat (List.replicate n.toNat 0)) else none) else none) else none
set_option maxHeartbeats 4000000 in
set_option maxRecDepth 100000 in
theorem clear_do (w : World) (bi bn : Nat) (i n : Int) (hbi : w.cell? ⟨bi, 0, none⟩ = some (.int .u64 i)) (hbn : w.cell? ⟨bn, 0, none⟩ = some (.int .u64 n)) :
    DoSpec w 62 #[.pointer (some ⟨bi, 0, none⟩), .pointer (some ⟨bn, 0, none⟩)] (clearF i n) := by
  intro W A c l l' hB hR hF
  unfold clearF at hF
  by_cases c1 : 0 ≤ i
  · rw [if_pos c1] at hF
    by_cases c2 : 0 ≤ n
    · rw [if_pos c2] at hF
      by_cases c3 : i + n ≤ (l.length : Int)
      · rw [if_pos c3] at hF
        have hi' := pw_cell_below hB hbi
        have hn' := pw_cell_below hB hbn
        show Calls Try.prog 62 #[.slice A l.length c, .pointer (some ⟨bi, 0, none⟩), .pointer (some ⟨bn, 0, none⟩)] W _
        clear hB hbi hbn
        obtain ⟨_, hcap, hCr⟩ := Kd.R_reads' hR
        have hm : l.length ≤ 9223372036854775807 := hCr.2.1
        have hic : i + n ≤ (c : Int) := by omega
        have hin : 0 ≤ i + n := by omega
        clear hCr
        by_cases hn0 : n = 0
        · subst hn0
          have hl' := Aside0.mk (Option.some.inj hF)
          have HRh := Aside0.mk hR
          clear hF hR
          have hrun : ∀ (A' : Option Addr) (c' : Nat) (w' : World), (Builtin.clear_ #[22] 0 #[.slice A' 0 c']).run Try.prog w' = .ok (.tuple #[]) w' := clear_none
          go_enter Try.func62, Try.ntmps62
          go_wp2
          all_goals
            go_end0
            have e1 := hl'.out
            subst e1
            have hh := HRh.out
            refine ⟨rfl, ?_, rfl, World.grownBy.refl _ _⟩
            first
              | exact hh
              | (have hc_ : c = i.toNat := by assumption
                 rw [hc_] at hh
                 exact hh)
        · obtain ⟨go, co, eo, gb, gl, cl, HG⟩ := Kd.R_form hR (by omega)
          cases eo
          have hl' := Aside0.mk (Option.some.inj hF)
          have hS := Aside0.mk (R_setsL (List.replicate n.toNat 0) W l i.toNat hR)
          have hrun0 := Lib.run_clear_slice (P := Try.prog) W 22 25 0 (.int .u64 0) Try.underlying22 (fun _ => by kernel_rfl) rfl rfl go i.toNat ((i + n).toNat - i.toNat) (c - i.toNat) (by omega)
            (fun j hj => by
              have := (Kd.R_celln 0 hR ((i.toNat + j : Nat) : Int) (by omega) (by omega)).1
              rw [Int.toNat_natCast] at this; rw [this]; rfl)
            (fun j hj => by
              have := (Kd.R_celln 0 hR ((i.toNat + j : Nat) : Int) (by omega) (by omega)).2
              rwa [Int.toNat_natCast] at this)
          rw [show List.replicate ((i + n).toNat - i.toNat) (Value.int .u64 0) = (List.replicate n.toNat (0 : Int)).map (Value.int .u64) by rw [List.map_replicate, show (i + n).toNat - i.toNat = n.toNat by omega]] at hrun0
          obtain ⟨W2, hW2⟩ : ∃ W2, W2 = W.setCells go i.toNat ((List.replicate n.toNat (0 : Int)).map (Value.int .u64)) := ⟨_, rfl⟩
          rw [← hW2] at hrun0
          have hW2h := Aside0.mk hW2
          clear hF hR HG cl gb gl hW2
          go_enter Try.func62, Try.ntmps62
          go_wp2
          go_end0
          have e1 := hl'.out
          have e2 := hW2h.out
          subst e1
          subst e2
          refine ⟨rfl, by rw [setsL_length]; exact hS.out.1, setsL_length _ _ _, hS.out.2⟩
      · rw [if_neg c3] at hF; cases hF
    · rw [if_neg c2] at hF; cases hF
  · rw [if_neg c1] at hF; cases hF

theorem World.grownBy_drew2 {w w' : World} {row : Option Nat} (h : w.grownBy w' row) : w.grownBy w'.drew row := ⟨h.os, h.tape, h.output, h.size, h.block⟩
theorem add_plain' (g o j : Nat) : (⟨g, o, none⟩ : Addr).add j = ⟨g, o + j, none⟩ := by unfold Addr.add; split <;> simp_all
def moveF (tt i n : Int) (l : List Int) : Option (List Int) := if 0 ≤ tt then (if 0 ≤ i then (if 0 ≤ n then (if tt + n ≤ (l.length : Int) then (if i + n ≤ (l.length : Int) then some (setsL l tt.toNat ((l.drop i.toNat).take n.toNat)) else none) else none) else none) else none) else none
theorem copy_info : (Try.prog.info? 25).map (·.size) = some 1 := by kernel_rfl
set_option maxHeartbeats 4000000 in
set_option maxRecDepth 100000 in
theorem move_do (w : World) (bt bn bi : Nat) (tt i n : Int) (hbt : w.cell? ⟨bt, 0, none⟩ = some (.int .u64 tt)) (hbi : w.cell? ⟨bi, 0, none⟩ = some (.int .u64 i)) (hbn : w.cell? ⟨bn, 0, none⟩ = some (.int .u64 n)) :
    DoSpec w 60 #[.pointer (some ⟨bt, 0, none⟩), .pointer (some ⟨bn, 0, none⟩), .pointer (some ⟨bi, 0, none⟩)] (moveF tt i n) := by
  intro W A c l l' hB hR hF
  unfold moveF at hF
  by_cases c0 : 0 ≤ tt
  · rw [if_pos c0] at hF
    by_cases c1 : 0 ≤ i
    · rw [if_pos c1] at hF
      by_cases c2 : 0 ≤ n
      · rw [if_pos c2] at hF
        by_cases c3 : tt + n ≤ (l.length : Int)
        · rw [if_pos c3] at hF
          by_cases c4 : i + n ≤ (l.length : Int)
          · rw [if_pos c4] at hF
            have ht' := pw_cell_below hB hbt
            have hi' := pw_cell_below hB hbi
            have hn' := pw_cell_below hB hbn
            show Calls Try.prog 60 #[.slice A l.length c, .pointer (some ⟨bt, 0, none⟩), .pointer (some ⟨bn, 0, none⟩), .pointer (some ⟨bi, 0, none⟩)] W _
            clear hB hbi hbn hbt
            obtain ⟨_, hcap, hCr⟩ := Kd.R_reads' hR
            have hm : l.length ≤ 9223372036854775807 := hCr.2.1
            have hic : i + n ≤ (c : Int) := by omega
            have hin : 0 ≤ i + n := by omega
            have htc : tt + n ≤ (c : Int) := by omega
            have htn : 0 ≤ tt + n := by omega
            clear hCr
            by_cases hn0 : n = 0
            · subst hn0
              have hl' := Aside0.mk (Option.some.inj hF)
              have HRh := Aside0.mk hR
              clear hF hR
              have hrun : ∀ (A' A'' : Option Addr) (c' c'' : Nat) (w' : World), (Builtin.copy_ #[22, 22] 3 #[.slice A' 0 c', .slice A'' 0 c'']).run Try.prog w' = .ok (goInt 0) w' := fun _ _ _ _ _ => run_copy_none _ _ _ _ _ _ _ _ _ _ _ Try.underlying22 copy_info rfl
              obtain ⟨t, rfl⟩ := Int.eq_ofNat_of_zero_le c0
              obtain ⟨j, rfl⟩ := Int.eq_ofNat_of_zero_le c1
              simp only [Int.toNat_natCast] at hl'
              have htc : t ≤ c := by omega
              have hjc : j ≤ c := by omega
              have hwt : IntKind.u64.wrap (t : Int) = (t : Int) := by rw [IntKind.wrap_u64]; omega
              have hwj : IntKind.u64.wrap (j : Int) = (j : Int) := by rw [IntKind.wrap_u64]; omega
              clear hin htn c0 c1 hic
              by_cases e1 : c = t <;> by_cases e2 : c = j
              · subst e1
                subst e2
                go_enter Try.func60, Try.ntmps60
                go_still_tail 12, (by kernel_rfl)
                change wpList _ _ _ _ _ W.drew
                go_wp2
                go_end0
                have e1 := hl'.out
                subst e1
                exact ⟨rfl, Kd.R_drew HRh.out, rfl, World.grownBy_drew2 (World.grownBy.refl _ _)⟩
              · subst e1
                go_enter Try.func60, Try.ntmps60
                go_still_tail 12, (by kernel_rfl)
                change wpList _ _ _ _ _ W.drew
                go_wp2
                go_end0
                have e1 := hl'.out
                subst e1
                exact ⟨rfl, Kd.R_drew HRh.out, rfl, World.grownBy_drew2 (World.grownBy.refl _ _)⟩
              · subst e2
                go_enter Try.func60, Try.ntmps60
                go_still_tail 12, (by kernel_rfl)
                change wpList _ _ _ _ _ W.drew
                go_wp2
                go_end0
                have e1 := hl'.out
                subst e1
                exact ⟨rfl, Kd.R_drew HRh.out, rfl, World.grownBy_drew2 (World.grownBy.refl _ _)⟩
              · skip
                go_enter Try.func60, Try.ntmps60
                go_still_tail 12, (by kernel_rfl)
                change wpList _ _ _ _ _ W.drew
                go_wp2
                go_end0
                have e1 := hl'.out
                subst e1
                exact ⟨rfl, Kd.R_drew HRh.out, rfl, World.grownBy_drew2 (World.grownBy.refl _ _)⟩
            · obtain ⟨go, co, eo, gb, gl, cl, HG⟩ := Kd.R_form hR (by omega)
              cases eo
              obtain ⟨t, rfl⟩ := Int.eq_ofNat_of_zero_le c0
              obtain ⟨j, rfl⟩ := Int.eq_ofNat_of_zero_le c1
              obtain ⟨m, rfl⟩ := Int.eq_ofNat_of_zero_le c2
              simp only [Int.toNat_natCast] at hF
              have hne1 : ¬ c = t := by omega
              have hne2 : ¬ c = j := by omega
              have htl : t + m ≤ l.length := by omega
              have hjl : j + m ≤ l.length := by omega
              have hwt : IntKind.u64.wrap ((t : Int) + (m : Int)) = ((t + m : Nat) : Int) := by rw [IntKind.wrap_u64]; omega
              have hwj : IntKind.u64.wrap ((j : Int) + (m : Int)) = ((j + m : Nat) : Int) := by rw [IntKind.wrap_u64]; omega
              have htc1 : t + m ≤ c := by omega
              have hjc1 : j + m ≤ c := by omega
              have hl' := Aside0.mk (Option.some.inj hF)
              have hRd := Kd.R_drew hR
              have hS := Aside0.mk (R_setsL ((l.drop j).take m) W.drew l t hRd)
              have hlen : (((l.drop j).take m).map (Value.int .u64)).length = m := by simp; omega
              have hrun0 := run_copy_cells (P := Try.prog) W.drew 22 22 3 25 go t m (c - t) ⟨go, j, none⟩ m (c - j) (((l.drop j).take m).map (Value.int .u64)) Try.underlying22 copy_info
                (by rw [hlen]; simp)
                (fun q v hj => by
                  have hjn : q < m := by
                    have := (List.getElem?_eq_some_iff.1 hj).1
                    rwa [hlen] at this
                  have h1 := (Kd.R_celln 0 hRd ((j + q : Nat) : Int) (by omega) (by omega)).1
                  rw [Int.toNat_natCast] at h1
                  rw [add_plain']
                  rw [h1, ← hj]
                  simp only [List.getElem?_map, List.getElem?_take, hjn, if_true, List.getElem?_drop, rdOf, Int.toNat_natCast, List.getD_eq_getElem?_getD]
                  rw [List.getElem?_eq_getElem (show j + q < l.length by omega)]
                  rfl)
                (fun q hj => by
                  rw [hlen] at hj
                  have := (Kd.R_celln 0 hRd ((t + q : Nat) : Int) (by omega) (by omega)).1
                  rw [Int.toNat_natCast] at this; rw [this]; rfl)
                (fun q hj => by
                  rw [hlen] at hj
                  have := (Kd.R_celln 0 hRd ((t + q : Nat) : Int) (by omega) (by omega)).2
                  rwa [Int.toNat_natCast] at this)
                (fun v hv => by
                  obtain ⟨x, _, rfl⟩ := List.mem_map.1 hv
                  rfl)
              rw [hlen] at hrun0
              obtain ⟨W2, hW2⟩ : ∃ W2, W2 = W.drew.setCells go t (((l.drop j).take m).map (Value.int .u64)) := ⟨_, rfl⟩
              rw [← hW2] at hrun0
              have hW2h := Aside0.mk hW2
              clear hF hR HG cl gb gl hW2 hRd hlen c0 c1 c2 c3 c4 hn0 hic hin htc htn
              have k1 : (0 : Int) ≤ (t : Int) + (m : Int) := by omega
              have k2 : (t : Int) + (m : Int) ≤ (c : Int) := by omega
              have k3 : (0 : Int) ≤ (j : Int) + (m : Int) := by omega
              have k4 : (j : Int) + (m : Int) ≤ (c : Int) := by omega
              have k5 : ((t : Int) + (m : Int)).toNat = t + m := by omega
              have k6 : ((j : Int) + (m : Int)).toNat = j + m := by omega
              go_enter Try.func60, Try.ntmps60
              go_still_tail 12, (by kernel_rfl)
              change wpList _ _ _ _ _ W.drew
              go_wp2
              go_end0
              have e1 := hl'.out
              have e2 := hW2h.out
              subst e1
              subst e2
              refine ⟨rfl, by rw [setsL_length]; exact hS.out.1, setsL_length _ _ _, World.grownBy.trans (World.grownBy_drew2 (World.grownBy.refl _ _)) hS.out.2⟩
          · rw [if_neg c4] at hF; cases hF
        · rw [if_neg c3] at hF; cases hF
      · rw [if_neg c2] at hF; cases hF
    · rw [if_neg c1] at hF; cases hF
  · rw [if_neg c0] at hF; cases hF
theorem below_of_drawn {w w' : World} (h : Drawn0 w w') : Below w.heap.size w w' := h.below
def arena_change.f (k : Nat) (F : List Int → Option (List Int)) (l0 : List Int) (a2 : Int) (l3 : List Int) : Option (List Int × Int) := (arena_Check.f l0).bind fun t1 => if t1 = 0 then ((arena_Own.f l0).bind fun t2 => (arena_there.f k t2 a2 l3).bind fun t3 => if t3 = 0 then ((F t2).bind fun t4 => some (t4, 0)) else some (t2, t3)) else some ([], t1)
theorem arena_change.mono (F : List Int → Option (List Int)) : ∀ a0 a1 a2 k, LeO (arena_change.f k F a0 a1 a2) (arena_change.f (k + 1) F a0 a1 a2) := by
  intro a0 a1 a2 k
  unfold arena_change.f
  refine LeO.bind (LeO.refl _) (fun _ => LeO.ite (LeO.bind (LeO.refl _) (fun _ => LeO.bind (arena_there.mono _ _ _ _) (fun _ => LeO.refl _))) (LeO.refl _))
set_option maxHeartbeats 8000000 in
set_option maxRecDepth 100000 in
theorem arena_change.calls (k : Nat) (F : List Int → Option (List Int)) (fdo : FuncId) (fn : Func) (cap : Array Value) (hf : Try.prog.funcs[fdo]? = some fn) (hname : (fn.name == "runtime.NumGoroutine") = false) (hbs : fn.body.isSome = true)
    (A0_0 : Option Addr) (c0_0 : Nat) (l0_0 : List Int) (a2 : Int) (A3 : Option Addr) (c3 : Nat) (l3 : List Int) (r1 : List Int) (r2 : Int) (w : World) (hdo : DoSpec w fdo cap F)
    (hr0 : Kd.C (Kd.int .u64) w A0_0 l0_0.length l0_0) (hc0 : l0_0.length ≤ c0_0) (hr3 : Kd.C (Kd.int .u64) w A3 l3.length l3) (hc3 : l3.length ≤ c3) (h : arena_change.f k F l0_0 a2 l3 = some (r1, r2)) :
    Calls Try.prog 59 #[.agg #[.slice A0_0 l0_0.length c0_0], .func (.func fdo) #[] cap, .int .u64 a2, .slice A3 l3.length c3] w fun e w' => ∃ v0_ : Value, e = .returned (.tuple #[.agg #[v0_], .int .i64 r2]) ∧ Kd.R (Kd.int .u64) 25 w' w.heap.size (fun _ => True) v0_ r1 ∧ Below w.heap.size w w' := by
  have hu := Try.underlying24
  have HR0 := Aside0.mk hr0
  have HC0 := Aside0.mk hc0
  have HR3 := Aside0.mk hr3
  have HC3 := Aside0.mk hc3
  have HDO := Aside0.mk hdo
  clear hr0 hc0 hr3 hc3 hdo
  have HB := Aside0.mk (Below.refl w.heap.size w)
  have H := h
  clear h
  unfold arena_change.f at H
  replace H := Option.bind_eq_some_iff.mp H
  obtain ⟨t1, A1, H⟩ := H
  replace A1 := Aside0.mk A1
  by_cases c5 : t1 = 0
  · rw [if_pos c5] at H
    have c5b0 : (t1 == 0) = true := beq_iff_eq.mpr c5
    have c5b1 : (t1 != 0) = false := bne_eq_false_iff_eq.mpr c5
    clear c5
    replace H := Option.bind_eq_some_iff.mp H
    obtain ⟨t2, A2, H⟩ := H
    replace A2 := Aside0.mk A2
    replace H := Option.bind_eq_some_iff.mp H
    obtain ⟨t3, A3_, H⟩ := H
    replace A3_ := Aside0.mk A3_
    by_cases c6 : t3 = 0
    · rw [if_pos c6] at H
      subst c6
      replace H := Option.bind_eq_some_iff.mp H
      obtain ⟨t4, A4, H⟩ := H
      replace A4 := Aside0.mk A4
      simp only [Option.some.injEq, Prod.mk.injEq] at H
      obtain ⟨rfl, rfl⟩ := H
      go_enter Try.func59, Try.ntmps59
      go_wp2_with (first | ((with_reducible refine gate_dst (N := 4) rfl ?_); refine box_event ?hg (N := 4) ?hd (cs := #[.slice A0_0 l0_0.length c0_0]) (t := 24) ?hr ?_; (case hd => rfl); (case hg => rfl); (case hr => first | (go_simp; done) | (go_simp; rfl)); intro gb4 hg w_ hbox hb; have n0_ := Aside0.mk (below_step (by repeat (first | (with_reducible first | exact HB.out | apply below_alloc | apply pw_below_drewN | apply below_drew1) | exact HB.out)) hb); have n1_ := Aside0.mk (hbox); have n2_ := Aside0.mk ((by rw [hg]; exact (below_size (by repeat (first | (with_reducible first | exact HB.out | apply below_alloc | apply pw_below_drewN | apply below_drew1) | exact HB.out)))) : w.heap.size ≤ gb4); clear HB; have HB := n0_; have BK4 := n1_; have GE4 := n2_; clear n0_ n1_ n2_; clear hb hbox hg) | ((with_reducible refine gate_dst (N := 8) rfl ?_); refine box_event ?hg (N := 8) ?hd (cs := #[.slice none 0 0]) (t := 24) ?hr ?_; (case hd => rfl); (case hg => rfl); (case hr => first | (go_simp; done) | (go_simp; rfl)); intro gb8 hg w_ hbox hb; have n0_ := Aside0.mk (blk_below (g := gb4) (o := .cells #[.slice A0_0 l0_0.length c0_0] 24 (0, 0)) (by (with_reducible repeat (first | refine blk_drewN ?_ _ | refine blk_drew ?_ | refine blk_alloc ?_ _)); exact BK4.out) hb); have n1_ := Aside0.mk (below_step (by repeat (first | (with_reducible first | exact HB.out | apply below_alloc | apply pw_below_drewN | apply below_drew1 | refine below_set ?_ GE4.out) | exact HB.out)) hb); have n2_ := Aside0.mk (hbox); have n3_ := Aside0.mk ((by rw [hg]; exact (below_size (by repeat (first | (with_reducible first | exact HB.out | apply below_alloc | apply pw_below_drewN | apply below_drew1 | refine below_set ?_ GE4.out) | exact HB.out)))) : w.heap.size ≤ gb8); have n4_ := Aside0.mk ((by rw [hg]; exact Nat.ne_of_gt (blk_lt (g := gb4) (o := .cells #[.slice A0_0 l0_0.length c0_0] 24 (0, 0)) (by (with_reducible repeat (first | refine blk_drewN ?_ _ | refine blk_drew ?_ | refine blk_alloc ?_ _)); exact BK4.out))) : gb8 ≠ gb4); clear BK4; clear HB; have BK4 := n0_; have HB := n1_; have BK8 := n2_; have GE8 := n3_; have NB8_4 := n4_; clear n0_ n1_ n2_ n3_ n4_; clear hb hbox hg; have hcz4 : w_.cell? ⟨gb4, 0, none⟩ = some (.slice A0_0 l0_0.length c0_0) := (blk_cell BK4.out 0).trans rfl; have hfz4 := blk_frozen BK4.out 0) | ((with_reducible refine gate_callee (f := 29) rfl ?_); refine goesL_ (some 13) rfl rfl Try.func29 (by kernel_rfl) rfl #[.agg #[.slice A0_0 l0_0.length c0_0]] rfl (by (try simp only [List.map_toArray, List.map_cons, List.map_nil]); first | done | rfl | (simp only [List.length_drop, List.length_take]; rfl)) ?_; (with_reducible refine (arena_Check.calls _ _ l0_0 t1 _ ?side1 ?side2 A1.out).mono ?_); (case side1 => repeat (first | exact (Kd.C_below HR0.out HB.out) | (with_reducible refine Kd.C_alloc ?_ _) | (with_reducible refine Kd.C_drewN ?_ _) | (with_reducible refine Kd.C_drew ?_))); (case side2 => exact HC0.out); rintro e w16 ⟨rfl, hb⟩; refine ⟨_, rfl, ?_⟩; clear hcz4 hfz4; have n0_ := Aside0.mk (blk_below (g := gb4) (o := .cells #[.slice A0_0 l0_0.length c0_0] 24 (0, 0)) (by (with_reducible repeat (first | refine blk_drewN ?_ _ | refine blk_drew ?_ | refine blk_alloc ?_ _)); exact BK4.out) hb); have n1_ := Aside0.mk (blk_below (g := gb8) (o := .cells #[.slice none 0 0] 24 (0, 0)) (by (with_reducible repeat (first | refine blk_drewN ?_ _ | refine blk_drew ?_ | refine blk_alloc ?_ _)); exact BK8.out) hb); have n2_ := Aside0.mk (below_step (by repeat (first | (with_reducible first | exact HB.out | apply below_alloc | apply pw_below_drewN | apply below_drew1 | refine below_set ?_ GE4.out | refine below_set ?_ GE8.out) | exact HB.out)) hb); clear BK4; clear BK8; clear HB; have BK4 := n0_; have BK8 := n1_; have HB := n2_; clear n0_ n1_ n2_; clear hb; have hcz4 : w16.cell? ⟨gb4, 0, none⟩ = some (.slice A0_0 l0_0.length c0_0) := (blk_cell BK4.out 0).trans rfl; have hfz4 := blk_frozen BK4.out 0) | ((with_reducible refine gate_callee (f := 73) rfl ?_); refine goesL_ (some 19) rfl rfl Try.func73 (by kernel_rfl) rfl #[.agg #[.slice A0_0 l0_0.length c0_0]] rfl (by (try simp only [List.map_toArray, List.map_cons, List.map_nil]); first | done | rfl | (simp only [List.length_drop, List.length_take]; rfl)) ?_; (with_reducible refine (arena_Own.calls _ _ l0_0 t2 _ ?side1 ?side2 A2.out).mono ?_); (case side1 => repeat (first | exact (Kd.C_below HR0.out HB.out) | (with_reducible refine Kd.C_alloc ?_ _) | (with_reducible refine Kd.C_drewN ?_ _) | (with_reducible refine Kd.C_drew ?_))); (case side2 => exact HC0.out); rintro e w18 ⟨v1_, rfl, ho0, hb⟩; refine ⟨_, rfl, ?_⟩; have n0_ := Aside0.mk (Kd.R_lower ho0 (below_size (by repeat (first | (with_reducible first | exact HB.out | apply below_alloc | apply pw_below_drewN | apply below_drew1 | refine below_set ?_ GE4.out | refine below_set ?_ GE8.out) | exact HB.out)))); have n1_ := Aside0.mk (blk_below (g := gb4) (o := .cells #[.slice A0_0 l0_0.length c0_0] 24 (0, 0)) (by (with_reducible repeat (first | refine blk_drewN ?_ _ | refine blk_drew ?_ | refine blk_alloc ?_ _)); exact BK4.out) hb); have n2_ := Aside0.mk (blk_below (g := gb8) (o := .cells #[.slice none 0 0] 24 (0, 0)) (by (with_reducible repeat (first | refine blk_drewN ?_ _ | refine blk_drew ?_ | refine blk_alloc ?_ _)); exact BK8.out) hb); have n3_ := Aside0.mk (below_step (by repeat (first | (with_reducible first | exact HB.out | apply below_alloc | apply pw_below_drewN | apply below_drew1 | refine below_set ?_ GE4.out | refine below_set ?_ GE8.out) | exact HB.out)) hb); clear BK4; clear BK8; clear HB hcz4 hfz4; have HO := n0_; have BK4 := n1_; have BK8 := n2_; have HB := n3_; clear n0_ n1_ n2_ n3_; clear hb ho0; obtain ⟨Ao, co, eo⟩ := Kd.R_slice HO.out; subst eo; have hcz4 : w18.cell? ⟨gb4, 0, none⟩ = some (.slice A0_0 l0_0.length c0_0) := (blk_cell BK4.out 0).trans rfl; have hfz4 := blk_frozen BK4.out 0) | ((with_reducible refine gate_callee (f := 63) rfl ?_); refine goesL_ (some 23) rfl rfl Try.func63 (by kernel_rfl) rfl #[.agg #[.slice Ao t2.length co], .int .u64 a2, .slice A3 l3.length c3] rfl (by (try simp only [List.map_toArray, List.map_cons, List.map_nil]); first | done | rfl | (simp only [List.length_drop, List.length_take]; rfl)) ?_; (with_reducible refine (arena_there.calls k _ _ t2 a2 _ _ l3 0 _ ?side1 ?side2 ?side3 ?side4 A3_.out).mono ?_); (case side1 => refine (Kd.R_reads' (e := 25) (base := w.heap.size) (ok := fun k_ => True) (n := t2.length) (c := co) ?_).2.2; exact (by (with_reducible repeat (first | apply Kd.R_alloc | apply Kd.R_drewN | apply Kd.R_drew)); exact (Kd.R_mono (Kd.R_far (p := ⟨gb4, 0, none⟩) (Kd.R_types HO.out BK4.out (by decide)) (fun _ hk => hk.2) (.slice Ao t2.length co)) (fun _ h_ => h_.1)))); (case side2 => exact (Kd.R_reads' HO.out).2.1); (case side3 => exact (Kd.C_below HR3.out (by repeat (first | (with_reducible first | exact HB.out | apply below_alloc | apply pw_below_drewN | apply below_drew1 | refine below_set ?_ GE4.out | refine below_set ?_ GE8.out) | exact HB.out)))); (case side4 => exact HC3.out); rintro e w21 ⟨rfl, hb0⟩; have hb := id hb0; clear hb0; refine ⟨_, rfl, ?_⟩; have n0_ := Aside0.mk (Kd.R_below (by (with_reducible repeat (first | apply Kd.R_alloc | apply Kd.R_drewN | apply Kd.R_drew)); exact (Kd.R_mono (Kd.R_far (p := ⟨gb4, 0, none⟩) (Kd.R_types HO.out BK4.out (by decide)) (fun _ hk => hk.2) (.slice Ao t2.length co)) (fun _ h_ => h_.1))) hb); have n1_ := Aside0.mk (blk_below (g := gb4) (o := .cells #[.slice Ao t2.length co] 24 (0, 0)) (by (with_reducible repeat (first | refine blk_drewN ?_ _ | refine blk_drew ?_ | refine blk_alloc ?_ _)); refine blk_put (cs := #[.slice A0_0 l0_0.length c0_0]) ?_ 0 _ rfl; (with_reducible repeat (first | refine blk_drewN ?_ _ | refine blk_drew ?_ | refine blk_alloc ?_ _)); exact BK4.out) hb); have n2_ := Aside0.mk (blk_below (g := gb8) (o := .cells #[.slice none 0 0] 24 (0, 0)) (by (with_reducible repeat (first | refine blk_drewN ?_ _ | refine blk_drew ?_ | refine blk_alloc ?_ _)); refine blk_far ?_ NB8_4.out _; (with_reducible repeat (first | refine blk_drewN ?_ _ | refine blk_drew ?_ | refine blk_alloc ?_ _)); exact BK8.out) hb); have n3_ := Aside0.mk (below_step (by repeat (first | (with_reducible first | exact HB.out | apply below_alloc | apply pw_below_drewN | apply below_drew1 | refine below_set ?_ GE4.out | refine below_set ?_ GE8.out) | exact HB.out)) hb); clear HO; clear BK4; clear BK8; clear HB hcz4 hfz4; have HO := n0_; have BK4 := n1_; have BK8 := n2_; have HB := n3_; clear n0_ n1_ n2_ n3_; clear hb; have hcz4 : w21.cell? ⟨gb4, 0, none⟩ = some (.slice Ao t2.length co) := (blk_cell BK4.out 0).trans rfl; have hfz4 := blk_frozen BK4.out 0) | ((with_reducible refine gate_dst (N := 29) rfl ?_); refine goesV_ (some 29) rfl rfl hf hname hbs #[.slice Ao t2.length co] cap rfl (by rfl) (by (try simp only [List.map_toArray, List.map_cons, List.map_nil]); first | done | rfl | (simp only [List.length_drop, List.length_take]; rfl)) ?_; refine (HDO.out _ _ _ t2 t4 HB.out HO.out A4.out).mono ?_; rintro e w24 ⟨rfl, ho, hl_, hg⟩; refine ⟨_, rfl, ?_⟩; have n0_ := Aside0.mk (blk_grown (g := gb4) (o := .cells #[.slice Ao t2.length co] 24 (0, 0)) BK4.out hg (Kd.R_ne HO.out BK4.out (by decide))); have n1_ := Aside0.mk (blk_grown (g := gb8) (o := .cells #[.slice none 0 0] 24 (0, 0)) BK8.out hg (Kd.R_ne HO.out BK8.out (by decide))); rw [hl_] at ho; have n2_ := Aside0.mk ho; have n3_ := Aside0.mk (pw_below_grown HB.out _ (below_size HB.out) hg (fun k_ hk_ => Kd.R_base HO.out k_ hk_)); have n4_ := Aside0.mk hl_; clear BK4; clear BK8; clear HB HO hcz4 hfz4; have BK4 := n0_; have BK8 := n1_; have HO := n2_; have HB := n3_; have HL := n4_; clear n0_ n1_ n2_ n3_ n4_; clear hg ho hl_; have hcz4 : w24.cell? ⟨gb4, 0, none⟩ = some (.slice Ao t2.length co) := (blk_cell BK4.out 0).trans rfl; have hfz4 := blk_frozen BK4.out 0; have hcz8 : w24.cell? ⟨gb8, 0, none⟩ = some (.slice none 0 0) := (blk_cell BK8.out 0).trans rfl; have hfz8 := blk_frozen BK8.out 0))
      refine bodyPost_ret (results_ct rfl _ _ gb8 24 #[.slice Ao t2.length co] (0, 0) _ rfl (by (with_reducible repeat (first | refine blk_drewN ?_ _ | refine blk_drew ?_ | refine blk_alloc ?_ _)); refine blk_put (cs := #[.slice none 0 0]) ?_ 0 _ rfl; (with_reducible repeat (first | refine blk_drewN ?_ _ | refine blk_drew ?_ | refine blk_alloc ?_ _)); exact BK8.out) Try.underlying24 rfl (by kernel_rfl)) rfl ?_
      have ho_ := HO.out
      exact ⟨_, rfl, by (with_reducible repeat (first | apply Kd.R_alloc | apply Kd.R_drewN | apply Kd.R_drew)); exact Kd.R_mono (Kd.R_far (p := ⟨gb8, 0, none⟩) (Kd.R_types ho_ BK8.out (by decide)) (fun _ hk => hk.2) (.slice Ao t2.length co)) (fun _ hk => trivial), by repeat (first | (with_reducible first | exact HB.out | apply below_alloc | apply pw_below_drewN | apply below_drew1 | refine below_set ?_ GE4.out | refine below_set ?_ GE8.out) | exact HB.out)⟩
    · rw [if_neg c6] at H
      have c6b0 : (t3 == 0) = false := beq_eq_false_iff_ne.mpr c6
      have c6b1 : (t3 != 0) = true := bne_iff_ne.mpr c6
      clear c6
      simp only [Option.some.injEq, Prod.mk.injEq] at H
      obtain ⟨rfl, rfl⟩ := H
      go_enter Try.func59, Try.ntmps59
      go_wp2_with (first | ((with_reducible refine gate_dst (N := 4) rfl ?_); refine box_event ?hg (N := 4) ?hd (cs := #[.slice A0_0 l0_0.length c0_0]) (t := 24) ?hr ?_; (case hd => rfl); (case hg => rfl); (case hr => first | (go_simp; done) | (go_simp; rfl)); intro gb4 hg w_ hbox hb; have n0_ := Aside0.mk (below_step (by repeat (first | (with_reducible first | exact HB.out | apply below_alloc | apply pw_below_drewN | apply below_drew1) | exact HB.out)) hb); have n1_ := Aside0.mk (hbox); have n2_ := Aside0.mk ((by rw [hg]; exact (below_size (by repeat (first | (with_reducible first | exact HB.out | apply below_alloc | apply pw_below_drewN | apply below_drew1) | exact HB.out)))) : w.heap.size ≤ gb4); clear HB; have HB := n0_; have BK4 := n1_; have GE4 := n2_; clear n0_ n1_ n2_; clear hb hbox hg) | ((with_reducible refine gate_dst (N := 8) rfl ?_); refine box_event ?hg (N := 8) ?hd (cs := #[.slice none 0 0]) (t := 24) ?hr ?_; (case hd => rfl); (case hg => rfl); (case hr => first | (go_simp; done) | (go_simp; rfl)); intro gb8 hg w_ hbox hb; have n0_ := Aside0.mk (blk_below (g := gb4) (o := .cells #[.slice A0_0 l0_0.length c0_0] 24 (0, 0)) (by (with_reducible repeat (first | refine blk_drewN ?_ _ | refine blk_drew ?_ | refine blk_alloc ?_ _)); exact BK4.out) hb); have n1_ := Aside0.mk (below_step (by repeat (first | (with_reducible first | exact HB.out | apply below_alloc | apply pw_below_drewN | apply below_drew1 | refine below_set ?_ GE4.out) | exact HB.out)) hb); have n2_ := Aside0.mk (hbox); have n3_ := Aside0.mk ((by rw [hg]; exact (below_size (by repeat (first | (with_reducible first | exact HB.out | apply below_alloc | apply pw_below_drewN | apply below_drew1 | refine below_set ?_ GE4.out) | exact HB.out)))) : w.heap.size ≤ gb8); have n4_ := Aside0.mk ((by rw [hg]; exact Nat.ne_of_gt (blk_lt (g := gb4) (o := .cells #[.slice A0_0 l0_0.length c0_0] 24 (0, 0)) (by (with_reducible repeat (first | refine blk_drewN ?_ _ | refine blk_drew ?_ | refine blk_alloc ?_ _)); exact BK4.out))) : gb8 ≠ gb4); clear BK4; clear HB; have BK4 := n0_; have HB := n1_; have BK8 := n2_; have GE8 := n3_; have NB8_4 := n4_; clear n0_ n1_ n2_ n3_ n4_; clear hb hbox hg; have hcz4 : w_.cell? ⟨gb4, 0, none⟩ = some (.slice A0_0 l0_0.length c0_0) := (blk_cell BK4.out 0).trans rfl; have hfz4 := blk_frozen BK4.out 0) | ((with_reducible refine gate_callee (f := 29) rfl ?_); refine goesL_ (some 13) rfl rfl Try.func29 (by kernel_rfl) rfl #[.agg #[.slice A0_0 l0_0.length c0_0]] rfl (by (try simp only [List.map_toArray, List.map_cons, List.map_nil]); first | done | rfl | (simp only [List.length_drop, List.length_take]; rfl)) ?_; (with_reducible refine (arena_Check.calls _ _ l0_0 t1 _ ?side1 ?side2 A1.out).mono ?_); (case side1 => repeat (first | exact (Kd.C_below HR0.out HB.out) | (with_reducible refine Kd.C_alloc ?_ _) | (with_reducible refine Kd.C_drewN ?_ _) | (with_reducible refine Kd.C_drew ?_))); (case side2 => exact HC0.out); rintro e w16 ⟨rfl, hb⟩; refine ⟨_, rfl, ?_⟩; clear hcz4 hfz4; have n0_ := Aside0.mk (blk_below (g := gb4) (o := .cells #[.slice A0_0 l0_0.length c0_0] 24 (0, 0)) (by (with_reducible repeat (first | refine blk_drewN ?_ _ | refine blk_drew ?_ | refine blk_alloc ?_ _)); exact BK4.out) hb); have n1_ := Aside0.mk (blk_below (g := gb8) (o := .cells #[.slice none 0 0] 24 (0, 0)) (by (with_reducible repeat (first | refine blk_drewN ?_ _ | refine blk_drew ?_ | refine blk_alloc ?_ _)); exact BK8.out) hb); have n2_ := Aside0.mk (below_step (by repeat (first | (with_reducible first | exact HB.out | apply below_alloc | apply pw_below_drewN | apply below_drew1 | refine below_set ?_ GE4.out | refine below_set ?_ GE8.out) | exact HB.out)) hb); clear BK4; clear BK8; clear HB; have BK4 := n0_; have BK8 := n1_; have HB := n2_; clear n0_ n1_ n2_; clear hb; have hcz4 : w16.cell? ⟨gb4, 0, none⟩ = some (.slice A0_0 l0_0.length c0_0) := (blk_cell BK4.out 0).trans rfl; have hfz4 := blk_frozen BK4.out 0) | ((with_reducible refine gate_callee (f := 73) rfl ?_); refine goesL_ (some 19) rfl rfl Try.func73 (by kernel_rfl) rfl #[.agg #[.slice A0_0 l0_0.length c0_0]] rfl (by (try simp only [List.map_toArray, List.map_cons, List.map_nil]); first | done | rfl | (simp only [List.length_drop, List.length_take]; rfl)) ?_; (with_reducible refine (arena_Own.calls _ _ l0_0 t2 _ ?side1 ?side2 A2.out).mono ?_); (case side1 => repeat (first | exact (Kd.C_below HR0.out HB.out) | (with_reducible refine Kd.C_alloc ?_ _) | (with_reducible refine Kd.C_drewN ?_ _) | (with_reducible refine Kd.C_drew ?_))); (case side2 => exact HC0.out); rintro e w18 ⟨v1_, rfl, ho0, hb⟩; refine ⟨_, rfl, ?_⟩; have n0_ := Aside0.mk (Kd.R_lower ho0 (below_size (by repeat (first | (with_reducible first | exact HB.out | apply below_alloc | apply pw_below_drewN | apply below_drew1 | refine below_set ?_ GE4.out | refine below_set ?_ GE8.out) | exact HB.out)))); have n1_ := Aside0.mk (blk_below (g := gb4) (o := .cells #[.slice A0_0 l0_0.length c0_0] 24 (0, 0)) (by (with_reducible repeat (first | refine blk_drewN ?_ _ | refine blk_drew ?_ | refine blk_alloc ?_ _)); exact BK4.out) hb); have n2_ := Aside0.mk (blk_below (g := gb8) (o := .cells #[.slice none 0 0] 24 (0, 0)) (by (with_reducible repeat (first | refine blk_drewN ?_ _ | refine blk_drew ?_ | refine blk_alloc ?_ _)); exact BK8.out) hb); have n3_ := Aside0.mk (below_step (by repeat (first | (with_reducible first | exact HB.out | apply below_alloc | apply pw_below_drewN | apply below_drew1 | refine below_set ?_ GE4.out | refine below_set ?_ GE8.out) | exact HB.out)) hb); clear BK4; clear BK8; clear HB hcz4 hfz4; have HO := n0_; have BK4 := n1_; have BK8 := n2_; have HB := n3_; clear n0_ n1_ n2_ n3_; clear hb ho0; obtain ⟨Ao, co, eo⟩ := Kd.R_slice HO.out; subst eo; have hcz4 : w18.cell? ⟨gb4, 0, none⟩ = some (.slice A0_0 l0_0.length c0_0) := (blk_cell BK4.out 0).trans rfl; have hfz4 := blk_frozen BK4.out 0) | ((with_reducible refine gate_callee (f := 63) rfl ?_); refine goesL_ (some 23) rfl rfl Try.func63 (by kernel_rfl) rfl #[.agg #[.slice Ao t2.length co], .int .u64 a2, .slice A3 l3.length c3] rfl (by (try simp only [List.map_toArray, List.map_cons, List.map_nil]); first | done | rfl | (simp only [List.length_drop, List.length_take]; rfl)) ?_; (with_reducible refine (arena_there.calls k _ _ t2 a2 _ _ l3 t3 _ ?side1 ?side2 ?side3 ?side4 A3_.out).mono ?_); (case side1 => refine (Kd.R_reads' (e := 25) (base := w.heap.size) (ok := fun k_ => True) (n := t2.length) (c := co) ?_).2.2; exact (by (with_reducible repeat (first | apply Kd.R_alloc | apply Kd.R_drewN | apply Kd.R_drew)); exact (Kd.R_mono (Kd.R_far (p := ⟨gb4, 0, none⟩) (Kd.R_types HO.out BK4.out (by decide)) (fun _ hk => hk.2) (.slice Ao t2.length co)) (fun _ h_ => h_.1)))); (case side2 => exact (Kd.R_reads' HO.out).2.1); (case side3 => exact (Kd.C_below HR3.out (by repeat (first | (with_reducible first | exact HB.out | apply below_alloc | apply pw_below_drewN | apply below_drew1 | refine below_set ?_ GE4.out | refine below_set ?_ GE8.out) | exact HB.out)))); (case side4 => exact HC3.out); rintro e w21 ⟨rfl, hb0⟩; have hb := id hb0; clear hb0; refine ⟨_, rfl, ?_⟩; have n0_ := Aside0.mk (Kd.R_below (by (with_reducible repeat (first | apply Kd.R_alloc | apply Kd.R_drewN | apply Kd.R_drew)); exact (Kd.R_mono (Kd.R_far (p := ⟨gb4, 0, none⟩) (Kd.R_types HO.out BK4.out (by decide)) (fun _ hk => hk.2) (.slice Ao t2.length co)) (fun _ h_ => h_.1))) hb); have n1_ := Aside0.mk (blk_below (g := gb4) (o := .cells #[.slice Ao t2.length co] 24 (0, 0)) (by (with_reducible repeat (first | refine blk_drewN ?_ _ | refine blk_drew ?_ | refine blk_alloc ?_ _)); refine blk_put (cs := #[.slice A0_0 l0_0.length c0_0]) ?_ 0 _ rfl; (with_reducible repeat (first | refine blk_drewN ?_ _ | refine blk_drew ?_ | refine blk_alloc ?_ _)); exact BK4.out) hb); have n2_ := Aside0.mk (blk_below (g := gb8) (o := .cells #[.slice none 0 0] 24 (0, 0)) (by (with_reducible repeat (first | refine blk_drewN ?_ _ | refine blk_drew ?_ | refine blk_alloc ?_ _)); refine blk_far ?_ NB8_4.out _; (with_reducible repeat (first | refine blk_drewN ?_ _ | refine blk_drew ?_ | refine blk_alloc ?_ _)); exact BK8.out) hb); have n3_ := Aside0.mk (below_step (by repeat (first | (with_reducible first | exact HB.out | apply below_alloc | apply pw_below_drewN | apply below_drew1 | refine below_set ?_ GE4.out | refine below_set ?_ GE8.out) | exact HB.out)) hb); clear HO; clear BK4; clear BK8; clear HB hcz4 hfz4; have HO := n0_; have BK4 := n1_; have BK8 := n2_; have HB := n3_; clear n0_ n1_ n2_ n3_; clear hb; have hcz4 : w21.cell? ⟨gb4, 0, none⟩ = some (.slice Ao t2.length co) := (blk_cell BK4.out 0).trans rfl; have hfz4 := blk_frozen BK4.out 0; have hcz8 : w21.cell? ⟨gb8, 0, none⟩ = some (.slice none 0 0) := (blk_cell BK8.out 0).trans rfl; have hfz8 := blk_frozen BK8.out 0))
      refine bodyPost_ret (results_ct rfl _ _ gb8 24 #[.slice Ao t2.length co] (0, 0) _ rfl (by (with_reducible repeat (first | refine blk_drewN ?_ _ | refine blk_drew ?_ | refine blk_alloc ?_ _)); refine blk_put (cs := #[.slice none 0 0]) ?_ 0 _ rfl; (with_reducible repeat (first | refine blk_drewN ?_ _ | refine blk_drew ?_ | refine blk_alloc ?_ _)); exact BK8.out) Try.underlying24 rfl (by kernel_rfl)) rfl ?_
      exact ⟨_, rfl, by (with_reducible repeat (first | apply Kd.R_alloc | apply Kd.R_drewN | apply Kd.R_drew)); exact Kd.R_mono (Kd.R_far (p := ⟨gb8, 0, none⟩) (Kd.R_types HO.out BK8.out (by decide)) (fun _ hk => hk.2) (.slice Ao t2.length co)) (fun _ hk => trivial), by repeat (first | (with_reducible first | exact HB.out | apply below_alloc | apply pw_below_drewN | apply below_drew1 | refine below_set ?_ GE4.out | refine below_set ?_ GE8.out) | exact HB.out)⟩
  · rw [if_neg c5] at H
    have c5b0 : (t1 == 0) = false := beq_eq_false_iff_ne.mpr c5
    have c5b1 : (t1 != 0) = true := bne_iff_ne.mpr c5
    clear c5
    simp only [Option.some.injEq, Prod.mk.injEq] at H
    obtain ⟨rfl, rfl⟩ := H
    go_enter Try.func59, Try.ntmps59
    go_wp2_with (first | ((with_reducible refine gate_dst (N := 4) rfl ?_); refine box_event ?hg (N := 4) ?hd (cs := #[.slice A0_0 l0_0.length c0_0]) (t := 24) ?hr ?_; (case hd => rfl); (case hg => rfl); (case hr => first | (go_simp; done) | (go_simp; rfl)); intro gb4 hg w_ hbox hb; have n0_ := Aside0.mk (below_step (by repeat (first | (with_reducible first | exact HB.out | apply below_alloc | apply pw_below_drewN | apply below_drew1) | exact HB.out)) hb); have n1_ := Aside0.mk (hbox); have n2_ := Aside0.mk ((by rw [hg]; exact (below_size (by repeat (first | (with_reducible first | exact HB.out | apply below_alloc | apply pw_below_drewN | apply below_drew1) | exact HB.out)))) : w.heap.size ≤ gb4); clear HB; have HB := n0_; have BK4 := n1_; have GE4 := n2_; clear n0_ n1_ n2_; clear hb hbox hg) | ((with_reducible refine gate_dst (N := 8) rfl ?_); refine box_event ?hg (N := 8) ?hd (cs := #[.slice none 0 0]) (t := 24) ?hr ?_; (case hd => rfl); (case hg => rfl); (case hr => first | (go_simp; done) | (go_simp; rfl)); intro gb8 hg w_ hbox hb; have n0_ := Aside0.mk (blk_below (g := gb4) (o := .cells #[.slice A0_0 l0_0.length c0_0] 24 (0, 0)) (by (with_reducible repeat (first | refine blk_drewN ?_ _ | refine blk_drew ?_ | refine blk_alloc ?_ _)); exact BK4.out) hb); have n1_ := Aside0.mk (below_step (by repeat (first | (with_reducible first | exact HB.out | apply below_alloc | apply pw_below_drewN | apply below_drew1 | refine below_set ?_ GE4.out) | exact HB.out)) hb); have n2_ := Aside0.mk (hbox); have n3_ := Aside0.mk ((by rw [hg]; exact (below_size (by repeat (first | (with_reducible first | exact HB.out | apply below_alloc | apply pw_below_drewN | apply below_drew1 | refine below_set ?_ GE4.out) | exact HB.out)))) : w.heap.size ≤ gb8); have n4_ := Aside0.mk ((by rw [hg]; exact Nat.ne_of_gt (blk_lt (g := gb4) (o := .cells #[.slice A0_0 l0_0.length c0_0] 24 (0, 0)) (by (with_reducible repeat (first | refine blk_drewN ?_ _ | refine blk_drew ?_ | refine blk_alloc ?_ _)); exact BK4.out))) : gb8 ≠ gb4); clear BK4; clear HB; have BK4 := n0_; have HB := n1_; have BK8 := n2_; have GE8 := n3_; have NB8_4 := n4_; clear n0_ n1_ n2_ n3_ n4_; clear hb hbox hg; have hcz4 : w_.cell? ⟨gb4, 0, none⟩ = some (.slice A0_0 l0_0.length c0_0) := (blk_cell BK4.out 0).trans rfl; have hfz4 := blk_frozen BK4.out 0) | ((with_reducible refine gate_callee (f := 29) rfl ?_); refine goesL_ (some 13) rfl rfl Try.func29 (by kernel_rfl) rfl #[.agg #[.slice A0_0 l0_0.length c0_0]] rfl (by (try simp only [List.map_toArray, List.map_cons, List.map_nil]); first | done | rfl | (simp only [List.length_drop, List.length_take]; rfl)) ?_; (with_reducible refine (arena_Check.calls _ _ l0_0 t1 _ ?side1 ?side2 A1.out).mono ?_); (case side1 => repeat (first | exact (Kd.C_below HR0.out HB.out) | (with_reducible refine Kd.C_alloc ?_ _) | (with_reducible refine Kd.C_drewN ?_ _) | (with_reducible refine Kd.C_drew ?_))); (case side2 => exact HC0.out); rintro e w16 ⟨rfl, hb⟩; refine ⟨_, rfl, ?_⟩; clear hcz4 hfz4; have n0_ := Aside0.mk (blk_below (g := gb4) (o := .cells #[.slice A0_0 l0_0.length c0_0] 24 (0, 0)) (by (with_reducible repeat (first | refine blk_drewN ?_ _ | refine blk_drew ?_ | refine blk_alloc ?_ _)); exact BK4.out) hb); have n1_ := Aside0.mk (blk_below (g := gb8) (o := .cells #[.slice none 0 0] 24 (0, 0)) (by (with_reducible repeat (first | refine blk_drewN ?_ _ | refine blk_drew ?_ | refine blk_alloc ?_ _)); exact BK8.out) hb); have n2_ := Aside0.mk (below_step (by repeat (first | (with_reducible first | exact HB.out | apply below_alloc | apply pw_below_drewN | apply below_drew1 | refine below_set ?_ GE4.out | refine below_set ?_ GE8.out) | exact HB.out)) hb); clear BK4; clear BK8; clear HB; have BK4 := n0_; have BK8 := n1_; have HB := n2_; clear n0_ n1_ n2_; clear hb; have hcz8 : w16.cell? ⟨gb8, 0, none⟩ = some (.slice none 0 0) := (blk_cell BK8.out 0).trans rfl; have hfz8 := blk_frozen BK8.out 0))
    refine bodyPost_ret (results_ct rfl _ _ gb8 24 #[.slice none 0 0] (0, 0) _ rfl (by (with_reducible repeat (first | refine blk_drewN ?_ _ | refine blk_drew ?_ | refine blk_alloc ?_ _)); refine blk_put (cs := #[.slice none 0 0]) ?_ 0 _ rfl; (with_reducible repeat (first | refine blk_drewN ?_ _ | refine blk_drew ?_ | refine blk_alloc ?_ _)); exact BK8.out) Try.underlying24 rfl (by kernel_rfl)) rfl ?_
    exact ⟨_, rfl, Kd.R_nil _ _ _ _ _, by repeat (first | (with_reducible first | exact HB.out | apply below_alloc | apply pw_below_drewN | apply below_drew1 | refine below_set ?_ GE4.out | refine below_set ?_ GE8.out) | exact HB.out)⟩

end Go.Proofs.Ytdadleamaalhiaa.GT
