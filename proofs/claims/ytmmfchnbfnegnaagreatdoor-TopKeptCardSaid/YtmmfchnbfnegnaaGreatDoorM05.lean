import Derived.Test.YtmmfchnbfnegnaaGreatDoorM04
import Derived.Test.YtmmfchnbfnegnaaGreatDoorM03
section
namespace Go.Proofs.YtmmfchnbfnegnaaGreatDoor.GK
open Go.RowKit Go.Proofs.YtmmfchnbfnegnaaGreatDoorW.PrintWords Go.Proofs.YtmmfchnbfnegnaaGreatDoorW.PrintLast Go.Proofs.YtmmfchnbfnegnaaGreatDoorW.PrintMore
attribute [local go_sem] max2_int min2_int max_two min_two max_three min_three max_four min_four
set_option linter.unusedVariables false
set_option linter.unusedSimpArgs false
def IsS116 (w0 W:World) (g:Nat) (f0:Int) (f1:List Int):Prop:=∃A1 c1,W.heap[g]? =some (.cells #[.int .i64 f0,.slice A1 f1.length c1] 116 (0,0))∧w0.heap.size≤g∧Kd.C (Kd.int .u64) w0 A1 f1.length f1
theorem IsS116.grown {w0 W:World} {g:Nat} {f0:Int} {f1:List Int} {W1:World} {row:Option Nat} (h:IsS116 w0 W g f0 f1) (hw:W.grownBy W1 row) (hne:some g≠row):IsS116 w0 W1 g f0 f1:=by
 obtain⟨A1,c1,hb,hg,hr1⟩:=h
 exact⟨A1,c1,blk_grown hb hw hne,hg,hr1⟩
theorem IsS116.below {w0 W:World} {g:Nat} {f0:Int} {f1:List Int} {W1:World} (h:IsS116 w0 W g f0 f1) (hw:Below W.heap.size W W1):IsS116 w0 W1 g f0 f1:=h.grown (grown_of_below hw none) (by simp)
theorem IsS116.alloc {w0 W:World} {g:Nat} {f0:Int} {f1:List Int} (h:IsS116 w0 W g f0 f1) (o:Obj):IsS116 w0 (W.alloc o) g f0 f1:=h.below (below_alloc (Below.refl _ _) o)
theorem IsS116.drewN {w0 W:World} {g:Nat} {f0:Int} {f1:List Int} (h:IsS116 w0 W g f0 f1) (m:Nat):IsS116 w0 (W.drewN m) g f0 f1:=h
theorem IsS116.drew {w0 W:World} {g:Nat} {f0:Int} {f1:List Int} (h:IsS116 w0 W g f0 f1):IsS116 w0 W.drew g f0 f1:=h
theorem IsS116.ge {w0 W:World} {g:Nat} {f0:Int} {f1:List Int} (h:IsS116 w0 W g f0 f1):w0.heap.size≤g:=by
 obtain⟨A1,c1,hb,hg,hr1⟩:=h
 exact hg
theorem cellS116_0 {W:World} {g:Nat} {A1:Option Addr} {c1:Nat} {f0:Int} {f1:List Int} (h:W.heap[g]? =some (.cells #[.int .i64 f0,.slice A1 f1.length c1] 116 (0,0))):W.cell? ⟨g,0,none⟩=some (.int .i64 f0):=(blk_cell h 0).trans rfl
theorem IsS116.set_0 {w0 W:World} {g:Nat} {f0:Int} {f1:List Int} (h:IsS116 w0 W g f0 f1) (x:Int):IsS116 w0 (W.setCell ⟨g,0,none⟩ (.int .i64 x)) g x f1:=by
 obtain⟨A1,c1,hb,hg,hr1⟩:=h
 exact⟨A1,c1,by simpa using blk_set hb 0 (.int .i64 x),hg,hr1⟩
theorem cellS116_1 {W:World} {g:Nat} {A1:Option Addr} {c1:Nat} {f0:Int} {f1:List Int} (h:W.heap[g]? =some (.cells #[.int .i64 f0,.slice A1 f1.length c1] 116 (0,0))):W.cell? ⟨g,1,none⟩=some (.slice A1 f1.length c1):=(blk_cell h 1).trans rfl
mutual
def bits_list_first.l0:Nat→Int→Bool→Int→Int→List Int→Option (Int×Int)
 |0,_,_,_,_,_=>none
 |k + 1,x1,x2,x7,x1000,x1001=>if x7 < (x1001.length:Int) then (if 0≤x7 then (if x2=true then (bits_list_first.j1 k x1 x2 x7 (rd x1001 x7) x1000 x1001) else (bits_list_first.j1 k x1 x2 x7 (Go.bits .xor .u64 18446744073709551615 (rd x1001 x7)) x1000 x1001)) else (none)) else (some (x1000,x1000))
def bits_list_first.j1:Nat→Int→Bool→Int→Int→Int→List Int→Option (Int×Int)
 |0,_,_,_,_,_,_=>none
 |k + 1,x1,x2,x7,x8,x1000,x1001=>if x7=(wrap64 (Int.tdiv x1 64)) then (if 0≤(Int.tmod x1 64) then (if (Go.bits .and .u64 x8 (shl .u64 18446744073709551615 (Int.tmod x1 64)))=0 then (bits_list_first.l0 k x1 x2 (wrap64 (x7 + 1)) x1000 x1001) else ((bits_TrailingZeros64.f (Go.bits .and .u64 x8 (shl .u64 18446744073709551615 (Int.tmod x1 64)))).bind fun t149=>(some (mn x1000 (wrap64 ((wrap64 (x7 * 64)) + t149)),x1000)))) else (none)) else (if x8=0 then (bits_list_first.l0 k x1 x2 (wrap64 (x7 + 1)) x1000 x1001) else ((bits_TrailingZeros64.f x8).bind fun t150=>(some (mn x1000 (wrap64 ((wrap64 (x7 * 64)) + t150)),x1000))))
end
def bits_list_first.f (k:Nat) (s0_0:Int) (s0_1:List Int) (a1:Int) (a2:Bool):Option (Int×Int):=bits_list_first.l0 k a1 a2 (wrap64 (Int.tdiv a1 64)) s0_0 s0_1
set_option maxHeartbeats 8000000 in
set_option maxRecDepth 100000 in
theorem bits_list_first.calls (k:Nat) (g:Nat) (s0_0:Int) (s0_1:List Int) (a1:Int) (a2:Bool) (r1:Int) (r2:Int) (w0 w:World) (hI:IsS116 w0 w g s0_0 s0_1) (hB:Below w0.heap.size w0 w) (hT:TzOk w0) (h:bits_list_first.f k s0_0 s0_1 a1 a2=some (r1,r2)):
  Calls Tryz.prog 89 #[.pointer (some ⟨g,0,none⟩),.int .i64 a1,.bool a2] w fun e w'=>e=.returned (.int .i64 r1)∧IsS116 w0 w' g r2 s0_1∧Below w0.heap.size w0 w'∧KeepBut w w' g none:=by
 have HI0:=As hI
 have HK:=As (KeepBut.refl w g none)
 have HL:=As hB.size
 clear hI
 have HW0:=As hB.size
 have HB:=As hB
 clear hB
 have H:(bits_list_first.l0 k a1 a2 (wrap64 (Int.tdiv a1 64)) s0_0 s0_1)=some (r1,r2):=h
 clear h
 have HT:=As hT
 clear hT
 have H':=As H
 clear H
 go_enter Tryz.func89,Tryz.ntmps89
 go_wp2
 repeat (go_quiet (fail);try go_wp2)
 go_loopg [7] k (fun kq v7 w'=>∃(x7_1:Int),v7=.int .i64 x7_1∧Aside0 (bits_list_first.l0 kq a1 a2 x7_1 s0_0 s0_1=some (r1,r2))∧Aside0 (kq≤k)∧Aside0 (IsS116 w0 w' g s0_0 s0_1)∧Aside0 (KeepBut w w' g none)∧Aside0 (Below w0.heap.size w0 w'))
 case atStart=>exact⟨(wrap64 (Int.tdiv a1 64)),Z.r_,H',⟨Nat.le_refl _⟩,⟨by repeat (first|(with_reducible first|exact HI0.out|apply IsS116.alloc|apply IsS116.drewN|apply IsS116.drew|apply IsS116.set_0)|exact HI0.out)⟩,⟨by repeat (first|(with_reducible first|exact HK.out|apply KeepBut.set_|apply keep_drewN|apply keep_drew|apply keep_alloc)|exact HK.out)⟩,⟨by repeat (first|(with_reducible first|exact HB.out|apply below_alloc|apply pw_below_drewN|apply below_drew1|refine below_set ?_ (IsS116.ge HI0.out))|exact HB.out)⟩⟩
 case round=>
  clear H'
  try clear p2
  obtain⟨x7_1,rfl,HA,HK1,HI0,HK,HB⟩:=hrel
  cases gk with
  |zero=>exact absurd HA.out (by simp[bits_list_first.l0])
  |succ k1=>
   have H:=HA.out
   clear HA
   simp only[bits_list_first.l0] at H
   by_cases c4:x7_1 < (s0_1.length:Int)
   ·rw[if_pos c4] at H
    have c4b0:decide (x7_1 < (s0_1.length:Int))=true:=decide_eq_true c4
    clear c4
    by_cases c5:0≤x7_1
    ·rw[if_pos c5] at H
     have c5b0:decide (0≤x7_1)=true:=decide_eq_true c5
     clear c5
     have HC6:=As H
     clear H
     obtain⟨ASz7_1,cSz7_1,HGz7,hgz7,HSz7_1⟩:=HI0.out
     have hcz7_0:=cellS116_0 HGz7
     have hcz7_1:=cellS116_1 HGz7
     have hfz7_0:=blk_frozen HGz7 0
     clear HGz7 hgz7
     have p148:0≤(x7_1:Int):=Z.od
     have q148:x7_1 < (s0_1.length:Int):=Z.od
     obtain⟨ad148,e148,hx148_0⟩:=Kd.at_int HSz7_1 x7_1 p148 q148
     cases e148
     replace hx148_0:=pw_cell_below HB.out hx148_0
     replace p148:=eq_true p148
     replace q148:=eq_true q148
     go_upto_if 30 with (fail)
     repeat (go_quiet (fail);go_upto_if 30 with (fail))
     go_cut [8] (fun v8 wc=>∃(kq:Nat) (x8_5:Int),v8=.int .u64 x8_5∧Aside0 (bits_list_first.j1 kq a1 a2 x7_1 x8_5 s0_0 s0_1=some (r1,r2))∧Aside0 (kq≤k1)∧Aside0 (IsS116 w0 wc g s0_0 s0_1)∧Aside0 (KeepBut w wc g none)∧Aside0 (Below w0.heap.size w0 wc))
     case first=>
      have H:=HC6.out
      clear HC6
      by_cases c8:a2=true
      ·subst c8
       have H1:(bits_list_first.j1 k1 a1 true x7_1 (rd s0_1 x7_1) s0_0 s0_1)=some (r1,r2):=by rw[if_pos rfl] at H;exact H
       clear H
       have H:=H1
       clear H1
       have H':=As H
       clear H
       go_wp2
       repeat (go_quiet (fail);try go_wp2)
       go_meet
       case rel=>exact⟨_,(rd s0_1 x7_1),Z.r_,H',⟨by have:=HK1.out;first|omega|exact Nat.le_refl _⟩,⟨by repeat (first|(with_reducible first|exact HI0.out|apply IsS116.alloc|apply IsS116.drewN|apply IsS116.drew|apply IsS116.set_0)|exact HI0.out)⟩,⟨by repeat (first|(with_reducible first|exact HK.out|apply KeepBut.set_|apply keep_drewN|apply keep_drew|apply keep_alloc)|exact HK.out)⟩,⟨by repeat (first|(with_reducible first|exact HB.out|apply below_alloc|apply pw_below_drewN|apply below_drew1|refine below_set ?_ (IsS116.ge HI0.out))|exact HB.out)⟩⟩
      ·replace c8:=Bool.eq_false_iff.mpr c8
       subst c8
       have H1:(bits_list_first.j1 k1 a1 false x7_1 (Go.bits .xor .u64 18446744073709551615 (rd s0_1 x7_1)) s0_0 s0_1)=some (r1,r2):=by rw[if_neg (show ¬(false=true) by decide)] at H;exact H
       clear H
       have H:=H1
       clear H1
       have H':=As H
       clear H
       go_wp2
       repeat (go_quiet (fail);try go_wp2)
       go_meet
       case rel=>exact⟨_,(Go.bits .xor .u64 18446744073709551615 (rd s0_1 x7_1)),Z.r_,H',⟨by have:=HK1.out;first|omega|exact Nat.le_refl _⟩,⟨by repeat (first|(with_reducible first|exact HI0.out|apply IsS116.alloc|apply IsS116.drewN|apply IsS116.drew|apply IsS116.set_0)|exact HI0.out)⟩,⟨by repeat (first|(with_reducible first|exact HK.out|apply KeepBut.set_|apply keep_drewN|apply keep_drew|apply keep_alloc)|exact HK.out)⟩,⟨by repeat (first|(with_reducible first|exact HB.out|apply below_alloc|apply pw_below_drewN|apply below_drew1|refine below_set ?_ (IsS116.ge HI0.out))|exact HB.out)⟩⟩
     case rest=>
      clear HC6
      try clear p1
      try clear q1
      try clear hx1
      try clear p2
      try clear c4
      try clear c4b0
      try clear c5
      try clear c5b0
      try clear p6
      try clear c8
      try clear hcz7_0
      try clear hcz7_1
      try clear hfz7_0
      try clear hx148_0
      try clear p148
      try clear p2
      try clear q148
      obtain⟨kq,x8_5,rfl,HA,HJ5,HI0,HK,HB⟩:=hcut
      cases kq with
      |zero=>exact absurd HA.out (by simp[bits_list_first.j1])
      |succ kj5=>
       have H:=HA.out
       clear HA
       simp only[bits_list_first.j1] at H
       by_cases c9:x7_1=(wrap64 (Int.tdiv a1 64))
       ·rw[if_pos c9] at H
        have c9b0:(x7_1 == (wrap64 (Int.tdiv a1 64)))=true:=beq_iff_eq.mpr c9
        have c9b1:(x7_1 != (wrap64 (Int.tdiv a1 64)))=false:=bne_eq_false_iff_eq.mpr c9
        clear c9
        obtain⟨ji10,hji10⟩:∃j_:Int,(Int.tmod a1 64)=j_:=⟨_,rfl⟩
        replace H:(if 0≤(ji10) then (if (Go.bits .and .u64 x8_5 (shl .u64 18446744073709551615 (ji10)))=0 then (bits_list_first.l0 kj5 a1 a2 (wrap64 (x7_1 + 1)) s0_0 s0_1) else ((bits_TrailingZeros64.f (Go.bits .and .u64 x8_5 (shl .u64 18446744073709551615 (ji10)))).bind fun t149=>(some (mn s0_0 (wrap64 ((wrap64 (x7_1 * 64)) + t149)),s0_0)))) else (none))=some (r1,r2):=by first|(rw[hji10] at H;exact H)|(simp only[hji10] at H ⊢;exact H)
        by_cases c11:0≤(ji10)
        ·rw[if_pos c11] at H
         have c11b0:=eq_true c11
         have c11b1:decide (0≤(ji10))=true:=decide_eq_true c11
         clear c11
         obtain⟨ji12,hji12⟩:∃j_:Int,(shl .u64 18446744073709551615 (ji10))=j_:=⟨_,rfl⟩
         replace H:(if (Go.bits .and .u64 x8_5 (ji12))=0 then (bits_list_first.l0 kj5 a1 a2 (wrap64 (x7_1 + 1)) s0_0 s0_1) else ((bits_TrailingZeros64.f (Go.bits .and .u64 x8_5 (ji12))).bind fun t149=>(some (mn s0_0 (wrap64 ((wrap64 (x7_1 * 64)) + t149)),s0_0))))=some (r1,r2):=by first|(rw[hji12] at H;exact H)|(simp only[hji12] at H ⊢;exact H)
         have hji12_:(IntKind.u64.wrap (18446744073709551615 * 2 ^ min (ji10).toNat 64))=ji12:=hji12
         have hji12z:(ji10)≤64→(IntKind.u64.wrap (18446744073709551615 * 2 ^ (ji10).toNat))=ji12:=shl_small hji12
         by_cases c13:(Go.bits .and .u64 x8_5 (ji12))=0
         ·rw[if_pos c13] at H
          have c13b0:((Go.bits .and .u64 x8_5 (ji12)) == 0)=true:=beq_iff_eq.mpr c13
          have c13b1:((Go.bits .and .u64 x8_5 (ji12)) != 0)=false:=bne_eq_false_iff_eq.mpr c13
          clear c13
          have H':=As H
          clear H
          go_wp2
          repeat (go_quiet (fail);try go_wp2)
          go_roundg kj5
          case measure=>have:=HK1.out;have:=HJ5.out;omega
          case rel=>exact⟨(wrap64 (x7_1 + 1)),Z.r_,H',⟨by have:=HK1.out;have:=HJ5.out;omega⟩,⟨by repeat (first|(with_reducible first|exact HI0.out|apply IsS116.alloc|apply IsS116.drewN|apply IsS116.drew|apply IsS116.set_0)|exact HI0.out)⟩,⟨by repeat (first|(with_reducible first|exact HK.out|apply KeepBut.set_|apply keep_drewN|apply keep_drew|apply keep_alloc)|exact HK.out)⟩,⟨by repeat (first|(with_reducible first|exact HB.out|apply below_alloc|apply pw_below_drewN|apply below_drew1|refine below_set ?_ (IsS116.ge HI0.out))|exact HB.out)⟩⟩
         ·rw[if_neg c13] at H
          have c13b0:((Go.bits .and .u64 x8_5 (ji12)) == 0)=false:=beq_eq_false_iff_ne.mpr c13
          have c13b1:((Go.bits .and .u64 x8_5 (ji12)) != 0)=true:=bne_iff_ne.mpr c13
          replace H:=Option.bind_eq_some_iff.mp H
          obtain⟨t149,A140,H⟩:=H
          replace H:(some (mn s0_0 (wrap64 ((wrap64 (x7_1 * 64)) + t149)),s0_0))=some (r1,r2):=H
          have A14:=As A140
          clear A140
          obtain⟨ji15,hji15⟩:∃j_:Int,(mn s0_0 (wrap64 ((wrap64 (x7_1 * 64)) + t149)))=j_:=⟨_,rfl⟩
          replace H:(some (ji15,s0_0))=some (r1,r2):=by first|(rw[hji15] at H;exact H)|(simp only[hji15] at H ⊢;exact H)
          (try rw[hji15] at A14)
          have hji15_:(if (wrap64 ((wrap64 (x7_1 * 64)) + t149)) < s0_0 then (wrap64 ((wrap64 (x7_1 * 64)) + t149)) else s0_0)=ji15:=hji15
          simp only[Option.some.injEq,Prod.mk.injEq] at H
          obtain⟨rfl,rfl⟩:=H
          obtain⟨ASz16_1,cSz16_1,HGz16,hgz16,HSz16_1⟩:=HI0.out
          have hcz16_0:=cellS116_0 HGz16
          have hcz16_1:=cellS116_1 HGz16
          have hfz16_0:=blk_frozen HGz16 0
          clear HGz16 hgz16
          go_wp2_with (first|(go_at_call 115;(with_reducible refine (bits_TrailingZeros64.calls (Go.bits .and .u64 x8_5 (ji12)) t149 _ ?side1 A14.out).mono ?_);(case side1=>repeat (first|exact HT.out|exact TzOk.below HT.out (by repeat (first|(with_reducible first|exact HB.out|apply below_alloc|apply pw_below_drewN|apply below_drew1|refine below_set ?_ (IsS116.ge HI0.out))|exact HB.out))|(with_reducible refine TzOk.alloc ?_ _)|(with_reducible refine TzOk.drewN ?_ _)|(with_reducible refine TzOk.drew ?_)));rintro e w' ⟨rfl,⟨nd,rfl⟩⟩;(try first|exact⟨rfl,_,World.drewN_drewN _ _ _⟩|exact⟨rfl,_,Eq.trans (World.drewN_drewN _ _ _) (congrArg (World.drewN _) (Nat.add_assoc _ _ _))⟩)))
          repeat (go_quiet (first|(go_at_call 115;(with_reducible refine (bits_TrailingZeros64.calls (Go.bits .and .u64 x8_5 (ji12)) t149 _ ?side1 A14.out).mono ?_);(case side1=>repeat (first|exact HT.out|exact TzOk.below HT.out (by repeat (first|(with_reducible first|exact HB.out|apply below_alloc|apply pw_below_drewN|apply below_drew1|refine below_set ?_ (IsS116.ge HI0.out))|exact HB.out))|(with_reducible refine TzOk.alloc ?_ _)|(with_reducible refine TzOk.drewN ?_ _)|(with_reducible refine TzOk.drew ?_)));rintro e w' ⟨rfl,⟨nd,rfl⟩⟩;(try first|exact⟨rfl,_,World.drewN_drewN _ _ _⟩|exact⟨rfl,_,Eq.trans (World.drewN_drewN _ _ _) (congrArg (World.drewN _) (Nat.add_assoc _ _ _))⟩)));try go_wp2_with (first|(go_at_call 115;(with_reducible refine (bits_TrailingZeros64.calls (Go.bits .and .u64 x8_5 (ji12)) t149 _ ?side1 A14.out).mono ?_);(case side1=>repeat (first|exact HT.out|exact TzOk.below HT.out (by repeat (first|(with_reducible first|exact HB.out|apply below_alloc|apply pw_below_drewN|apply below_drew1|refine below_set ?_ (IsS116.ge HI0.out))|exact HB.out))|(with_reducible refine TzOk.alloc ?_ _)|(with_reducible refine TzOk.drewN ?_ _)|(with_reducible refine TzOk.drew ?_)));rintro e w' ⟨rfl,⟨nd,rfl⟩⟩;(try first|exact⟨rfl,_,World.drewN_drewN _ _ _⟩|exact⟨rfl,_,Eq.trans (World.drewN_drewN _ _ _) (congrArg (World.drewN _) (Nat.add_assoc _ _ _))⟩))))
          go_ret
          exact⟨by first|rfl|(simp[errW_none,errW_some] <;> rfl)|(simp only[←hji10,←hji12,←hji15];first|rfl|(simp[errW_none,errW_some] <;> rfl))|(simp[*,errW_none,errW_some] <;> rfl),by repeat (first|(with_reducible first|exact HI0.out|apply IsS116.alloc|apply IsS116.drewN|apply IsS116.drew|apply IsS116.set_0)|exact HI0.out),by repeat (first|(with_reducible first|exact HB.out|apply below_alloc|apply pw_below_drewN|apply below_drew1|refine below_set ?_ (IsS116.ge HI0.out))|exact HB.out),by repeat (first|(with_reducible first|exact HK.out|apply KeepBut.set_|apply keep_drewN|apply keep_drew|apply keep_alloc)|exact HK.out)⟩
        ·rw[if_neg c11] at H
         exact absurd H (by simp)
       ·rw[if_neg c9] at H
        have c9b0:(x7_1 == (wrap64 (Int.tdiv a1 64)))=false:=beq_eq_false_iff_ne.mpr c9
        have c9b1:(x7_1 != (wrap64 (Int.tdiv a1 64)))=true:=bne_iff_ne.mpr c9
        by_cases c17:x8_5=0
        ·rw[if_pos c17] at H
         have c17b0:(x8_5 == 0)=true:=beq_iff_eq.mpr c17
         have c17b1:(x8_5 != 0)=false:=bne_eq_false_iff_eq.mpr c17
         clear c17
         have H':=As H
         clear H
         go_wp2
         repeat (go_quiet (fail);try go_wp2)
         go_roundg kj5
         case measure=>have:=HK1.out;have:=HJ5.out;omega
         case rel=>exact⟨(wrap64 (x7_1 + 1)),Z.r_,H',⟨by have:=HK1.out;have:=HJ5.out;omega⟩,⟨by repeat (first|(with_reducible first|exact HI0.out|apply IsS116.alloc|apply IsS116.drewN|apply IsS116.drew|apply IsS116.set_0)|exact HI0.out)⟩,⟨by repeat (first|(with_reducible first|exact HK.out|apply KeepBut.set_|apply keep_drewN|apply keep_drew|apply keep_alloc)|exact HK.out)⟩,⟨by repeat (first|(with_reducible first|exact HB.out|apply below_alloc|apply pw_below_drewN|apply below_drew1|refine below_set ?_ (IsS116.ge HI0.out))|exact HB.out)⟩⟩
        ·rw[if_neg c17] at H
         have c17b0:(x8_5 == 0)=false:=beq_eq_false_iff_ne.mpr c17
         have c17b1:(x8_5 != 0)=true:=bne_iff_ne.mpr c17
         replace H:=Option.bind_eq_some_iff.mp H
         obtain⟨t150,A180,H⟩:=H
         replace H:(some (mn s0_0 (wrap64 ((wrap64 (x7_1 * 64)) + t150)),s0_0))=some (r1,r2):=H
         have A18:=As A180
         clear A180
         obtain⟨ji19,hji19⟩:∃j_:Int,(mn s0_0 (wrap64 ((wrap64 (x7_1 * 64)) + t150)))=j_:=⟨_,rfl⟩
         replace H:(some (ji19,s0_0))=some (r1,r2):=by first|(rw[hji19] at H;exact H)|(simp only[hji19] at H ⊢;exact H)
         (try rw[hji19] at A18)
         have hji19_:(if (wrap64 ((wrap64 (x7_1 * 64)) + t150)) < s0_0 then (wrap64 ((wrap64 (x7_1 * 64)) + t150)) else s0_0)=ji19:=hji19
         simp only[Option.some.injEq,Prod.mk.injEq] at H
         obtain⟨rfl,rfl⟩:=H
         obtain⟨ASz20_1,cSz20_1,HGz20,hgz20,HSz20_1⟩:=HI0.out
         have hcz20_0:=cellS116_0 HGz20
         have hcz20_1:=cellS116_1 HGz20
         have hfz20_0:=blk_frozen HGz20 0
         clear HGz20 hgz20
         go_wp2_with (first|(go_at_call 115;(with_reducible refine (bits_TrailingZeros64.calls x8_5 t150 _ ?side1 A18.out).mono ?_);(case side1=>repeat (first|exact HT.out|exact TzOk.below HT.out (by repeat (first|(with_reducible first|exact HB.out|apply below_alloc|apply pw_below_drewN|apply below_drew1|refine below_set ?_ (IsS116.ge HI0.out))|exact HB.out))|(with_reducible refine TzOk.alloc ?_ _)|(with_reducible refine TzOk.drewN ?_ _)|(with_reducible refine TzOk.drew ?_)));rintro e w' ⟨rfl,⟨nd,rfl⟩⟩;(try first|exact⟨rfl,_,World.drewN_drewN _ _ _⟩|exact⟨rfl,_,Eq.trans (World.drewN_drewN _ _ _) (congrArg (World.drewN _) (Nat.add_assoc _ _ _))⟩)))
         repeat (go_quiet (first|(go_at_call 115;(with_reducible refine (bits_TrailingZeros64.calls x8_5 t150 _ ?side1 A18.out).mono ?_);(case side1=>repeat (first|exact HT.out|exact TzOk.below HT.out (by repeat (first|(with_reducible first|exact HB.out|apply below_alloc|apply pw_below_drewN|apply below_drew1|refine below_set ?_ (IsS116.ge HI0.out))|exact HB.out))|(with_reducible refine TzOk.alloc ?_ _)|(with_reducible refine TzOk.drewN ?_ _)|(with_reducible refine TzOk.drew ?_)));rintro e w' ⟨rfl,⟨nd,rfl⟩⟩;(try first|exact⟨rfl,_,World.drewN_drewN _ _ _⟩|exact⟨rfl,_,Eq.trans (World.drewN_drewN _ _ _) (congrArg (World.drewN _) (Nat.add_assoc _ _ _))⟩)));try go_wp2_with (first|(go_at_call 115;(with_reducible refine (bits_TrailingZeros64.calls x8_5 t150 _ ?side1 A18.out).mono ?_);(case side1=>repeat (first|exact HT.out|exact TzOk.below HT.out (by repeat (first|(with_reducible first|exact HB.out|apply below_alloc|apply pw_below_drewN|apply below_drew1|refine below_set ?_ (IsS116.ge HI0.out))|exact HB.out))|(with_reducible refine TzOk.alloc ?_ _)|(with_reducible refine TzOk.drewN ?_ _)|(with_reducible refine TzOk.drew ?_)));rintro e w' ⟨rfl,⟨nd,rfl⟩⟩;(try first|exact⟨rfl,_,World.drewN_drewN _ _ _⟩|exact⟨rfl,_,Eq.trans (World.drewN_drewN _ _ _) (congrArg (World.drewN _) (Nat.add_assoc _ _ _))⟩))))
         go_ret
         exact⟨by first|rfl|(simp[errW_none,errW_some] <;> rfl)|(simp only[←hji19];first|rfl|(simp[errW_none,errW_some] <;> rfl))|(simp[*,errW_none,errW_some] <;> rfl),by repeat (first|(with_reducible first|exact HI0.out|apply IsS116.alloc|apply IsS116.drewN|apply IsS116.drew|apply IsS116.set_0)|exact HI0.out),by repeat (first|(with_reducible first|exact HB.out|apply below_alloc|apply pw_below_drewN|apply below_drew1|refine below_set ?_ (IsS116.ge HI0.out))|exact HB.out),by repeat (first|(with_reducible first|exact HK.out|apply KeepBut.set_|apply keep_drewN|apply keep_drew|apply keep_alloc)|exact HK.out)⟩
    ·rw[if_neg c5] at H
     exact absurd H (by simp)
   ·rw[if_neg c4] at H
    have c4b0:decide (x7_1 < (s0_1.length:Int))=false:=decide_eq_false c4
    clear c4
    simp only[Option.some.injEq,Prod.mk.injEq] at H
    obtain⟨rfl,rfl⟩:=H
    obtain⟨ASz21_1,cSz21_1,HGz21,hgz21,HSz21_1⟩:=HI0.out
    have hcz21_0:=cellS116_0 HGz21
    have hcz21_1:=cellS116_1 HGz21
    have hfz21_0:=blk_frozen HGz21 0
    clear HGz21 hgz21
    go_wp2
    repeat (go_quiet (fail);try go_wp2)
    go_ret
    exact⟨Z.e_,by repeat (first|(with_reducible first|exact HI0.out|apply IsS116.alloc|apply IsS116.drewN|apply IsS116.drew|apply IsS116.set_0)|exact HI0.out),by repeat (first|(with_reducible first|exact HB.out|apply below_alloc|apply pw_below_drewN|apply below_drew1|refine below_set ?_ (IsS116.ge HI0.out))|exact HB.out),by repeat (first|(with_reducible first|exact HK.out|apply KeepBut.set_|apply keep_drewN|apply keep_drew|apply keep_alloc)|exact HK.out)⟩
end Go.Proofs.YtmmfchnbfnegnaaGreatDoor.GK
end
section
namespace Go.Proofs.YtmmfchnbfnegnaaGreatDoor.GK
open Go.RowKit Go.Proofs.YtmmfchnbfnegnaaGreatDoorW.PrintWords Go.Proofs.YtmmfchnbfnegnaaGreatDoorW.PrintLast Go.Proofs.YtmmfchnbfnegnaaGreatDoorW.PrintMore
attribute [local go_sem] max2_int min2_int max_two min_two max_three min_three max_four min_four
set_option linter.unusedVariables false
set_option linter.unusedSimpArgs false
theorem bits_run_state (x1:Int) (x2:Bool) (n:Int) (l:List Int):∀k,(∀x7 r1 r2,bits_list_first.l0 k x1 x2 x7 n l=some (r1,r2)→r2=n)∧(∀x7 x8 r1 r2,bits_list_first.j1 k x1 x2 x7 x8 n l=some (r1,r2)→r2=n)
 |0=>⟨fun _ _ _ h=>by simp[bits_list_first.l0] at h,fun _ _ _ _ h=>by simp[bits_list_first.j1] at h⟩
 |k + 1=>by
  obtain⟨ih0,ih1⟩:=bits_run_state x1 x2 n l k
  refine⟨fun x7 r1 r2 h=>?_,fun x7 x8 r1 r2 h=>?_⟩
  ·simp only[bits_list_first.l0] at h
   repeat' split at h
   all_goals first
    |exact ih1 _ _ _ _ h
    |(simp only[Option.some.injEq,Prod.mk.injEq] at h;exact h.2.symm)
    |cases h
  ·simp only[bits_list_first.j1] at h
   repeat' split at h
   all_goals first
    |exact ih0 _ _ _ h
    |(obtain⟨t,_,h⟩:=Option.bind_eq_some_iff.mp h;simp only[Option.some.injEq,Prod.mk.injEq] at h;exact h.2.symm)
    |cases h
theorem bits_run_first (k g:Nat) (n:Int) (l:List Int) (fr:Int) (v:Bool) (t t':Int) (w0 w:World) (hI:IsS116 w0 w g n l) (hB:Below w0.heap.size w0 w) (hT:TzOk w0) (h:bits_list_first.f k n l fr v=some (t,t')):
  Calls Tryz.prog 89 #[.pointer (some ⟨g,0,none⟩),.int .i64 fr,.bool v] w fun e w'=>e=.returned (.int .i64 t)∧IsS116 w0 w' g n l∧Below w0.heap.size w0 w'∧KeepBut w w' g none:=by
 have e:t'=n:=(bits_run_state fr v n l k).1 _ _ _ h
 subst e
 exact bits_list_first.calls k g _ l fr v t _ w0 w hI hB hT h
def bits_Run.l0 (n:Int) (l:List Int) (ct:Int):Nat→Int→Option (Int×Int)
 |0,_=>none
 |k + 1,x8=>if x8 < n then ((bits_list_first.f k n l x8 true).bind fun b=>if wrap64 (b.1 - x8)≥ct then some (x8,0) else ((bits_list_first.f k n l b.1 false).bind fun b2=>bits_Run.l0 n l ct k b2.1)) else some (0,3)
def bits_Run.f (k:Nat) (n:Int) (l:List Int) (ct:Int):Option (Int×Int):=(bits_Check.f k n l).bind fun t1=>if t1=0 then (if ct < 1 then some (0,1) else (bits_list_first.f k n l 0 false).bind fun b=>bits_Run.l0 n l ct k b.1) else some (0,t1)
set_option maxHeartbeats 8000000 in
set_option maxRecDepth 100000 in
theorem bits_Run.calls (k:Nat) (n:Int) (A:Option Addr) (c:Nat) (l:List Int) (ct:Int) (r1:Int) (r2:Int) (w:World) (hr0:Kd.C (Kd.int .u64) w A l.length l) (hc0:l.length≤c) (hT:TzOk w) (h:bits_Run.f k n l ct=some (r1,r2)):
  Calls Tryz.prog 53 #[.agg #[.int .i64 n,.slice A l.length c],.int .i64 ct] w fun e w'=>e=.returned (.tuple #[.int .i64 r1,.int .i64 r2])∧Below w.heap.size w w':=by
 have hu:=Tryz.underlying29
 have HR0:=As hr0
 have HC0:=As hc0
 have HT:=As hT
 clear hr0 hc0 hT
 have HB:=As (Below.refl w.heap.size w)
 have H:=h
 clear h
 unfold bits_Run.f at H
 replace H:=Option.bind_eq_some_iff.mp H
 obtain⟨t1,A1,H⟩:=H
 replace A1:=As A1
 by_cases c5:t1=0
 ·rw[if_pos c5] at H
  subst c5
  by_cases d0:ct < 1
  ·rw[if_pos d0] at H
   have e0:decide (ct < 1)=true:=decide_eq_true d0
   clear d0
   simp only[Option.some.injEq,Prod.mk.injEq] at H
   obtain⟨rfl,rfl⟩:=H
   go_enter Tryz.func53,Tryz.ntmps53
   go_wp2_with (first|((with_reducible refine gate_dst (N:=2) rfl ?_);refine Z.bx 2 #[.int .i64 n,.slice A l.length c] 29 fun gb2 hg w_ hbox hb=>?_;have BK2:=As hbox;have GE2:=Z.ge hg;replace HB:=Z.sb hb;clear hb hbox hg;obtain⟨hcz2_0,hfz2_0,hcz2_1,hfz2_1⟩:=Z.b2 BK2)|((with_reducible refine gate_callee (f:=47) rfl ?_);refine Z.gl 11 Tryz.func47 #[.agg #[.int .i64 n,.slice A l.length c]] ?_;(with_reducible refine (bits_Check.calls k n _ _ l 0 _ ?side1 ?side2 A1.out).mono ?_);(case side1=>exact (Kd.C_below HR0.out HB.out));(case side2=>exact HC0.out);rintro e w16 ⟨rfl,hb⟩;refine⟨_,rfl,?_⟩;(try clear hcz2_0 hfz2_0 hcz2_1 hfz2_1);replace HB:=Z.sb hb;replace BK2:=Z.kb BK2 hb;clear hb;obtain⟨hcz2_0,hfz2_0,hcz2_1,hfz2_1⟩:=Z.b2 BK2))
   go_ret2
   exact⟨by first|rfl|(simp;done),Z.bl⟩
  rw[if_neg d0] at H
  have e0:decide (ct < 1)=false:=decide_eq_false d0
  clear d0
  replace H:=Option.bind_eq_some_iff.mp H
  obtain⟨⟨t2,t3⟩,A2,H⟩:=H
  replace A2:=As A2
  have H':=As (show bits_Run.l0 n l ct k t2=some (r1,r2) from H)
  clear H
  go_enter Tryz.func53,Tryz.ntmps53
  go_wp2_with (first|((with_reducible refine gate_dst (N:=2) rfl ?_);refine Z.bx 2 #[.int .i64 n,.slice A l.length c] 29 fun gb2 hg w_ hbox hb=>?_;have BK2:=As hbox;have GE2:=Z.ge hg;replace HB:=Z.sb hb;clear hb hbox hg;obtain⟨hcz2_0,hfz2_0,hcz2_1,hfz2_1⟩:=Z.b2 BK2)|((with_reducible refine gate_callee (f:=47) rfl ?_);refine Z.gl 11 Tryz.func47 #[.agg #[.int .i64 n,.slice A l.length c]] ?_;(with_reducible refine (bits_Check.calls k n _ _ l 0 _ ?side1 ?side2 A1.out).mono ?_);(case side1=>exact (Kd.C_below HR0.out HB.out));(case side2=>exact HC0.out);rintro e w16 ⟨rfl,hb⟩;refine⟨_,rfl,?_⟩;(try clear hcz2_0 hfz2_0 hcz2_1 hfz2_1);replace HB:=Z.sb hb;replace BK2:=Z.kb BK2 hb;clear hb;obtain⟨hcz2_0,hfz2_0,hcz2_1,hfz2_1⟩:=Z.b2 BK2)|((with_reducible refine gate_dst (N:=19) rfl ?_);refine Z.bx 19 #[.int .i64 n,.slice A l.length c] 116 fun gb19 hg w_ hbox hb=>?_;clear hcz2_0 hfz2_0 hcz2_1 hfz2_1;have BK19:=As hbox;have GE19:=Z.ge hg;have NB19_2:=Z.ng BK2 hg;replace HB:=Z.sb hb;replace BK2:=Z.kb BK2 hb;clear hb hbox hg;obtain⟨hcz2_0,hfz2_0,hcz2_1,hfz2_1⟩:=Z.b2 BK2)|((with_reducible refine gate_callee (f:=89) rfl ?_);refine Z.gl 21 Tryz.func89 #[.pointer (some ⟨gb19,0,none⟩),.int .i64 0,.bool false] ?_;(with_reducible refine (bits_run_first k gb19 n l 0 false t2 _ w _ ?side1 ?side2 HT.out A2.out).mono ?_);(case side1=>exact⟨A,c,Z.bk,GE19.out,HR0.out⟩);(case side2=>exact Z.bl);rintro e w30 ⟨rfl,hi,hb,hk⟩;refine⟨_,rfl,?_⟩;(try clear hcz2_0 hfz2_0 hcz2_1 hfz2_1);replace BK2:=As ((hk.2 gb2 (blk_lt (g:=gb2) (o:=.cells #[.int .i64 n,.slice A l.length c] 29 (0,0)) Z.bk) (fun e_=>NB19_2.out e_.symm) (by simp)).trans Z.bk);replace HB:=As hb;replace HI:=As hi;clear hb hk hi))
  go_loopg [8] k (fun kq v8 wr=>∃x8:Int,v8=.int .i64 x8∧Aside0 (bits_Run.l0 n l ct kq x8=some (r1,r2))∧Aside0 (kq≤k)∧Aside0 (IsS116 w wr gb19 n l)∧Aside0 (wr.heap[gb2]? =some (.cells #[.int .i64 n,.slice A l.length c] 29 (0,0)))∧Aside0 (Below w.heap.size w wr))
  case atStart=>exact⟨t2,rfl,H',⟨Nat.le_refl _⟩,⟨(by repeat (first|(with_reducible first|exact HI.out|apply IsS116.alloc|apply IsS116.drewN|apply IsS116.drew)|exact HI.out))⟩,⟨Z.bk⟩,⟨Z.bl⟩⟩
  case round=>
   clear H'
   obtain⟨x8,rfl,HA,HK1,HI,BK2,HB⟩:=hrel
   have hcz2_0:=Z.c0 BK2.out
   cases gk with
   |zero=>exact absurd HA.out (by simp[bits_Run.l0])
   |succ k1=>
    have H:=HA.out
    clear HA
    simp only[bits_Run.l0] at H
    by_cases c6:x8 < n
    ·rw[if_pos c6] at H
     have c6b:decide (x8 < n)=true:=decide_eq_true c6
     clear c6
     replace H:=Option.bind_eq_some_iff.mp H
     obtain⟨⟨t4,t5⟩,A4,H⟩:=H
     replace A4:=As A4
     simp only at H
     by_cases c7:wrap64 (t4 - x8)≥ct
     ·rw[if_pos c7] at H
      have c7b:decide (ct≤wrap64 (t4 - x8))=true:=decide_eq_true c7
      clear c7
      simp only[Option.some.injEq,Prod.mk.injEq] at H
      obtain⟨rfl,rfl⟩:=H
      go_wp2_with (first|((with_reducible refine gate_callee (f:=89) rfl ?_);refine Z.gl 28 Tryz.func89 #[.pointer (some ⟨gb19,0,none⟩),.int .i64 x8,.bool true] ?_;(with_reducible refine (bits_run_first k1 gb19 n l x8 true t4 _ w _ ?side1 ?side2 HT.out A4.out).mono ?_);(case side1=>exact by repeat (first|(with_reducible first|exact HI.out|apply IsS116.alloc|apply IsS116.drewN|apply IsS116.drew)|exact HI.out));(case side2=>exact Z.bl);rintro e w40 ⟨rfl,hi,hb,hk⟩;refine⟨_,rfl,?_⟩;(try clear hcz2_0 hfz2_0 hcz2_1 hfz2_1);replace BK2:=As ((hk.2 gb2 (blk_lt (g:=gb2) (o:=.cells #[.int .i64 n,.slice A l.length c] 29 (0,0)) Z.bk) (fun e_=>NB19_2.out e_.symm) (by simp)).trans Z.bk);replace HB:=As hb;replace HI:=As hi;clear hb hk hi;obtain⟨hcz2_0,hfz2_0,hcz2_1,hfz2_1⟩:=Z.b2 BK2))
      go_ret2
      exact⟨by first|rfl|(simp;done),Z.bl⟩
     ·rw[if_neg c7] at H
      have c7b:decide (ct≤wrap64 (t4 - x8))=false:=decide_eq_false c7
      clear c7
      replace H:=Option.bind_eq_some_iff.mp H
      obtain⟨⟨t6,t7⟩,A6,H⟩:=H
      replace A6:=As A6
      have H':=As (show bits_Run.l0 n l ct k1 t6=some (r1,r2) from H)
      clear H
      go_wp2_with (first|((with_reducible refine gate_callee (f:=89) rfl ?_);refine Z.gl 28 Tryz.func89 #[.pointer (some ⟨gb19,0,none⟩),.int .i64 x8,.bool true] ?_;(with_reducible refine (bits_run_first k1 gb19 n l x8 true t4 _ w _ ?side1 ?side2 HT.out A4.out).mono ?_);(case side1=>exact by repeat (first|(with_reducible first|exact HI.out|apply IsS116.alloc|apply IsS116.drewN|apply IsS116.drew)|exact HI.out));(case side2=>exact Z.bl);rintro e w40 ⟨rfl,hi,hb,hk⟩;refine⟨_,rfl,?_⟩;(try clear hcz2_0 hfz2_0 hcz2_1 hfz2_1);replace BK2:=As ((hk.2 gb2 (blk_lt (g:=gb2) (o:=.cells #[.int .i64 n,.slice A l.length c] 29 (0,0)) Z.bk) (fun e_=>NB19_2.out e_.symm) (by simp)).trans Z.bk);replace HB:=As hb;replace HI:=As hi;clear hb hk hi;obtain⟨hcz2_0,hfz2_0,hcz2_1,hfz2_1⟩:=Z.b2 BK2)|((with_reducible refine gate_callee (f:=89) rfl ?_);refine Z.gl 37 Tryz.func89 #[.pointer (some ⟨gb19,0,none⟩),.int .i64 t4,.bool false] ?_;(with_reducible refine (bits_run_first k1 gb19 n l t4 false t6 _ w _ ?side1 ?side2 HT.out A6.out).mono ?_);(case side1=>exact by repeat (first|(with_reducible first|exact HI.out|apply IsS116.alloc|apply IsS116.drewN|apply IsS116.drew)|exact HI.out));(case side2=>exact Z.bl);rintro e w50 ⟨rfl,hi,hb,hk⟩;refine⟨_,rfl,?_⟩;(try clear hcz2_0 hfz2_0 hcz2_1 hfz2_1);replace BK2:=As ((hk.2 gb2 (blk_lt (g:=gb2) (o:=.cells #[.int .i64 n,.slice A l.length c] 29 (0,0)) Z.bk) (fun e_=>NB19_2.out e_.symm) (by simp)).trans Z.bk);replace HB:=As hb;replace HI:=As hi;clear hb hk hi;obtain⟨hcz2_0,hfz2_0,hcz2_1,hfz2_1⟩:=Z.b2 BK2))
      go_roundg k1
      case measure=>have:=HK1.out;omega
      case rel=>exact⟨t6,rfl,H',⟨by have:=HK1.out;omega⟩,⟨(by repeat (first|(with_reducible first|exact HI.out|apply IsS116.alloc|apply IsS116.drewN|apply IsS116.drew)|exact HI.out))⟩,⟨Z.bk⟩,⟨Z.bl⟩⟩
    ·rw[if_neg c6] at H
     have c6b:decide (x8 < n)=false:=decide_eq_false c6
     clear c6
     simp only[Option.some.injEq,Prod.mk.injEq] at H
     obtain⟨rfl,rfl⟩:=H
     go_wp2
     go_ret2
     exact⟨by first|rfl|(simp;done),Z.bl⟩
 ·rw[if_neg c5] at H
  have c5b0:(t1 == 0)=false:=beq_eq_false_iff_ne.mpr c5
  have c5b1:(t1 != 0)=true:=bne_iff_ne.mpr c5
  clear c5
  simp only[Option.some.injEq,Prod.mk.injEq] at H
  obtain⟨rfl,rfl⟩:=H
  go_enter Tryz.func53,Tryz.ntmps53
  go_wp2_with (first|((with_reducible refine gate_dst (N:=2) rfl ?_);refine Z.bx 2 #[.int .i64 n,.slice A l.length c] 29 fun gb2 hg w_ hbox hb=>?_;have BK2:=As hbox;have GE2:=Z.ge hg;replace HB:=Z.sb hb;clear hb hbox hg;obtain⟨hcz2_0,hfz2_0,hcz2_1,hfz2_1⟩:=Z.b2 BK2)|((with_reducible refine gate_callee (f:=47) rfl ?_);refine Z.gl 11 Tryz.func47 #[.agg #[.int .i64 n,.slice A l.length c]] ?_;(with_reducible refine (bits_Check.calls k n _ _ l t1 _ ?side1 ?side2 A1.out).mono ?_);(case side1=>exact (Kd.C_below HR0.out HB.out));(case side2=>exact HC0.out);rintro e w16 ⟨rfl,hb⟩;refine⟨_,rfl,?_⟩;(try clear hcz2_0 hfz2_0 hcz2_1 hfz2_1);replace HB:=Z.sb hb;replace BK2:=Z.kb BK2 hb;clear hb))
  go_ret2
  exact⟨by first|rfl|(simp;done),Z.bl⟩
def fillL (v:Bool) (fr:Nat):Nat→Nat→List Int→Option (List Int)
 |0,_,l=>some l
 |m + 1,x,l=>if (fr + x) / 64 < l.length then fillL v fr m (x + 1) (l.set ((fr + x) / 64) (putW v (rd l (((fr + x) / 64:Nat):Int)) ((fr + x) % 64))) else none
def bits_Fill.f (k:Nat) (n:Int) (l:List Int) (fr:Int) (ct:Int) (v:Bool):Option (Int×List Int×Int):=(bits_Check.f k n l).bind fun t1=>if t1=0 then ((bits_Own.f n l).bind fun b=>if fr < 0 then some (b.1,b.2,1) else if ct < 0 then some (b.1,b.2,1) else if ct > n then some (b.1,b.2,1) else if fr > wrap64 (n - ct) then some (b.1,b.2,1) else if fr + ct≤9223372036854775807 then ((fillL v fr.toNat ct.toNat 0 b.2).bind fun r=>some (b.1,r,0)) else none) else some (0,[],t1)
set_option maxHeartbeats 8000000 in
set_option maxRecDepth 100000 in
theorem bits_Fill.calls (k:Nat) (n:Int) (A:Option Addr) (c:Nat) (l:List Int) (fr:Int) (ct:Int) (v:Bool) (r1:Int) (r2:List Int) (r3:Int) (w:World) (hr0:Kd.C (Kd.int .u64) w A l.length l) (hc0:l.length≤c) (h:bits_Fill.f k n l fr ct v=some (r1,r2,r3)):
  Calls Tryz.prog 90 #[.agg #[.int .i64 n,.slice A l.length c],.int .i64 fr,.int .i64 ct,.bool v] w fun e w'=>∃v1_:Value,e=.returned (.tuple #[.agg #[.int .i64 r1,v1_],.int .i64 r3])∧Kd.R (Kd.int .u64) 39 w' w.heap.size (fun _=>True) v1_ r2∧Below w.heap.size w w':=by
 have hu:=Tryz.underlying29
 have HR0:=As hr0
 have HC0:=As hc0
 clear hr0 hc0
 have HB:=As (Below.refl w.heap.size w)
 have H:=h
 clear h
 unfold bits_Fill.f at H
 replace H:=Option.bind_eq_some_iff.mp H
 obtain⟨t1,A1,H⟩:=H
 replace A1:=As A1
 by_cases c5:t1=0
 ·rw[if_pos c5] at H
  subst c5
  replace H:=Option.bind_eq_some_iff.mp H
  obtain⟨⟨t2,t3⟩,A2,H⟩:=H
  replace A2:=As A2
  simp only at H
  by_cases d9:fr < 0∨ct < 0∨ct > n∨fr > wrap64 (n - ct)
  ·have H1:some (t2,t3,(1:Int))=some (r1,r2,r3):=by
    by_cases d0:fr < 0
    ·rwa [if_pos d0] at H
    by_cases d1:ct < 0
    ·rwa [if_neg d0,if_pos d1] at H
    by_cases d2:ct > n
    ·rwa [if_neg d0,if_neg d1,if_pos d2] at H
    by_cases d3:fr > wrap64 (n - ct)
    ·rwa [if_neg d0,if_neg d1,if_neg d2,if_pos d3] at H
    omega
   clear H
   have D9:=As d9
   clear d9
   have H:=H1
   clear H1
   simp only[Option.some.injEq,Prod.mk.injEq] at H
   obtain⟨rfl,rfl,rfl⟩:=H
   go_enter Tryz.func90,Tryz.ntmps90
   go_wp2_with (first|((with_reducible refine gate_dst (N:=4) rfl ?_);refine Z.bx 4 #[.int .i64 n,.slice A l.length c] 29 fun gb4 hg w_ hbox hb=>?_;have BK4:=As hbox;have GE4:=Z.ge hg;replace HB:=Z.sb hb;clear hb hbox hg)|((with_reducible refine gate_dst (N:=8) rfl ?_);refine Z.bx 8 #[.int .i64 0,.slice none 0 0] 29 fun gb8 hg w_ hbox hb=>?_;have BK8:=As hbox;have GE8:=Z.ge hg;have NB8_4:=Z.ng BK4 hg;replace HB:=Z.sb hb;replace BK4:=Z.kb BK4 hb;clear hb hbox hg;obtain⟨hcz4_0,hfz4_0,hcz4_1,hfz4_1⟩:=Z.b2 BK4)|((with_reducible refine gate_callee (f:=47) rfl ?_);refine Z.gl 14 Tryz.func47 #[.agg #[.int .i64 n,.slice A l.length c]] ?_;(with_reducible refine (bits_Check.calls k n _ _ l 0 _ ?side1 ?side2 A1.out).mono ?_);(case side1=>exact (Kd.C_below HR0.out HB.out));(case side2=>exact HC0.out);rintro e w16 ⟨rfl,hb⟩;refine⟨_,rfl,?_⟩;clear hcz4_0 hfz4_0 hcz4_1 hfz4_1;replace HB:=Z.sb hb;replace BK4:=Z.kb BK4 hb;replace BK8:=Z.kb BK8 hb;clear hb;obtain⟨hcz4_0,hfz4_0,hcz4_1,hfz4_1⟩:=Z.b2 BK4)|((with_reducible refine gate_callee (f:=48) rfl ?_);refine Z.gl 20 Tryz.func48 #[.agg #[.int .i64 n,.slice A l.length c]] ?_;(with_reducible refine (bits_Own.calls n _ _ l t2 t3 _ ?side1 ?side2 A2.out).mono ?_);(case side1=>exact (Kd.C_below HR0.out HB.out));(case side2=>exact HC0.out);rintro e w18 ⟨v1_,rfl,ho0,hb⟩;refine⟨_,rfl,?_⟩;clear hcz4_0 hfz4_0 hcz4_1 hfz4_1;have HO:=As (Kd.R_lower ho0 (below_size Z.bl));replace HB:=Z.sb hb;replace BK4:=Z.kb BK4 hb;replace BK8:=Z.kb BK8 hb;clear hb ho0;obtain⟨Ao,co,eo⟩:=Kd.R_slice HO.out;subst eo)|((with_reducible refine gate_dst (N:=22) rfl ?_);refine Z.bx 22 #[.int .i64 t2,.slice Ao t3.length co] 116 fun gb22 hg w_ hbox hb=>?_;have BK22:=As hbox;have GE22:=Z.ge hg;have NB22_4:=Z.ng BK4 hg;have NB22_8:=Z.ng BK8 hg;replace HO:=As (Kd.R_below (by (with_reducible repeat (first|apply Kd.R_alloc|apply Kd.R_drewN|apply Kd.R_drew));exact HO.out) hb);replace HB:=Z.sb hb;replace BK4:=Z.kb BK4 hb;replace BK8:=Z.kb BK8 hb;clear hb hbox hg;obtain⟨hcz4_0,hfz4_0,hcz4_1,hfz4_1⟩:=Z.b2 BK4;obtain⟨hcz8_0,hfz8_0,hcz8_1,hfz8_1⟩:=Z.b2 BK8;obtain⟨hcz22_0,hfz22_0,hcz22_1,hfz22_1⟩:=Z.b2 BK22))
   all_goals first
    |(refine bodyPost_ret (results_ct rfl _ _ gb8 29 #[.int .i64 t2,.slice Ao t3.length co] (0,0) _ rfl Z.bs Tryz.underlying29 rfl (by kernel_rfl)) rfl ?_;exact⟨_,rfl,by (with_reducible repeat (first|apply Kd.R_alloc|apply Kd.R_drewN|apply Kd.R_drew));exact Kd.R_mono (Kd.R_far (p:=⟨gb8,1,none⟩) (Kd.R_far (p:=⟨gb8,0,none⟩) (Kd.R_types HO.out BK8.out (by decide)) (fun _ hk=>hk.2) (.int .i64 t2)) (fun _ hk=>hk.2) (.slice Ao t3.length co)) (fun _ hk=>trivial),Z.bl⟩)
    |(have:=D9.out;exfalso;omega)
  have d0:¬(fr < 0):=by omega
  rw[if_neg d0] at H
  have e0:decide (fr < 0)=false:=decide_eq_false d0
  have d1:¬(ct < 0):=by omega
  rw[if_neg d1] at H
  have e1:decide (ct < 0)=false:=decide_eq_false d1
  have d2:¬(ct > n):=by omega
  rw[if_neg d2] at H
  have e2:decide (n < ct)=false:=decide_eq_false d2
  have d3:¬(fr > wrap64 (n - ct)):=by omega
  rw[if_neg d3] at H
  have e3:decide (wrap64 (n - ct) < fr)=false:=decide_eq_false d3
  clear d9
  by_cases d5:fr + ct≤9223372036854775807
  ·rw[if_pos d5] at H
   replace H:=Option.bind_eq_some_iff.mp H
   obtain⟨t4,A4,H⟩:=H
   obtain⟨fN,hfN⟩:∃fN:Nat,fr=(fN:Int):=⟨fr.toNat,by omega⟩
   obtain⟨N,hN⟩:∃N:Nat,ct=(N:Int):=⟨ct.toNat,by omega⟩
   subst hfN
   subst hN
   rw[Int.toNat_natCast,Int.toNat_natCast] at A4
   replace A4:=As A4
   have hb1:fN + N≤9223372036854775807:=by omega
   clear d0 d1 d2 d3 d5
   simp only[Option.some.injEq,Prod.mk.injEq] at H
   obtain⟨rfl,rfl,rfl⟩:=H
   go_enter Tryz.func90,Tryz.ntmps90
   go_wp2_with (first|((with_reducible refine gate_dst (N:=4) rfl ?_);refine Z.bx 4 #[.int .i64 n,.slice A l.length c] 29 fun gb4 hg w_ hbox hb=>?_;have BK4:=As hbox;have GE4:=Z.ge hg;replace HB:=Z.sb hb;clear hb hbox hg)|((with_reducible refine gate_dst (N:=8) rfl ?_);refine Z.bx 8 #[.int .i64 0,.slice none 0 0] 29 fun gb8 hg w_ hbox hb=>?_;have BK8:=As hbox;have GE8:=Z.ge hg;have NB8_4:=Z.ng BK4 hg;replace HB:=Z.sb hb;replace BK4:=Z.kb BK4 hb;clear hb hbox hg;obtain⟨hcz4_0,hfz4_0,hcz4_1,hfz4_1⟩:=Z.b2 BK4)|((with_reducible refine gate_callee (f:=47) rfl ?_);refine Z.gl 14 Tryz.func47 #[.agg #[.int .i64 n,.slice A l.length c]] ?_;(with_reducible refine (bits_Check.calls k n _ _ l 0 _ ?side1 ?side2 A1.out).mono ?_);(case side1=>exact (Kd.C_below HR0.out HB.out));(case side2=>exact HC0.out);rintro e w16 ⟨rfl,hb⟩;refine⟨_,rfl,?_⟩;clear hcz4_0 hfz4_0 hcz4_1 hfz4_1;replace HB:=Z.sb hb;replace BK4:=Z.kb BK4 hb;replace BK8:=Z.kb BK8 hb;clear hb;obtain⟨hcz4_0,hfz4_0,hcz4_1,hfz4_1⟩:=Z.b2 BK4)|((with_reducible refine gate_callee (f:=48) rfl ?_);refine Z.gl 20 Tryz.func48 #[.agg #[.int .i64 n,.slice A l.length c]] ?_;(with_reducible refine (bits_Own.calls n _ _ l t2 t3 _ ?side1 ?side2 A2.out).mono ?_);(case side1=>exact (Kd.C_below HR0.out HB.out));(case side2=>exact HC0.out);rintro e w18 ⟨v1_,rfl,ho0,hb⟩;refine⟨_,rfl,?_⟩;clear hcz4_0 hfz4_0 hcz4_1 hfz4_1;have HO:=As (Kd.R_lower ho0 (below_size Z.bl));replace HB:=Z.sb hb;replace BK4:=Z.kb BK4 hb;replace BK8:=Z.kb BK8 hb;clear hb ho0;obtain⟨Ao,co,eo⟩:=Kd.R_slice HO.out;subst eo)|((with_reducible refine gate_dst (N:=22) rfl ?_);refine Z.bx 22 #[.int .i64 t2,.slice Ao t3.length co] 116 fun gb22 hg w_ hbox hb=>?_;have BK22:=As hbox;have GE22:=Z.ge hg;have NB22_4:=Z.ng BK4 hg;have NB22_8:=Z.ng BK8 hg;replace HO:=As (Kd.R_below (by (with_reducible repeat (first|apply Kd.R_alloc|apply Kd.R_drewN|apply Kd.R_drew));exact HO.out) hb);replace HB:=Z.sb hb;replace BK4:=Z.kb BK4 hb;replace BK8:=Z.kb BK8 hb;clear hb hbox hg;obtain⟨hcz4_0,hfz4_0,hcz4_1,hfz4_1⟩:=Z.b2 BK4;obtain⟨hcz8_0,hfz8_0,hcz8_1,hfz8_1⟩:=Z.b2 BK8;obtain⟨hcz22_0,hfz22_0,hcz22_1,hfz22_1⟩:=Z.b2 BK22))
   obtain⟨L,hL⟩:∃L,L=t3.length:=⟨_,rfl⟩
   go_loopw [48] (fun v48 wr=>∃(x:Nat) (l':List Int),v48=.int .i64 (x:Int)∧Aside0 (x≤N)∧Aside0 (fillL v fN (N - x) x l'=some t4)∧Aside0 (l'.length=L)∧Aside0 (Kd.R (Kd.int .u64) 39 wr w.heap.size (fun _=>True) (.slice Ao L co) l')∧Aside0 (wr.heap[gb8]? =some (.cells #[.int .i64 0,.slice none 0 0] 29 (0,0)))∧Aside0 (wr.heap[gb22]? =some (.cells #[.int .i64 t2,.slice Ao L co] 116 (0,0)))∧Aside0 (Below w.heap.size w wr)) (fun v48 _=>N - (intOf v48).toNat)
   case atStart=>exact⟨0,t3,rfl,⟨Nat.zero_le _⟩,⟨A4.out⟩,⟨hL.symm⟩,⟨by rw[hL];(with_reducible repeat (first|apply Kd.R_alloc|apply Kd.R_drewN|apply Kd.R_drew));exact HO.out⟩,⟨Z.bk⟩,⟨by rw[hL];(with_reducible repeat (first|refine blk_drewN ?_ _|refine blk_drew ?_|refine blk_alloc ?_ _));exact BK22.out⟩,⟨Z.bl⟩⟩
   case round=>
    obtain⟨x,l',rfl,HX,HF,HLn,HO,BK8,BK22,HB⟩:=hrel
    by_cases hlt:x < N
    ·obtain⟨m,hm⟩:∃m,N - x=m + 1:=⟨N - x - 1,by omega⟩
     have HF2:=HF.out
     rw[hm] at HF2
     unfold fillL at HF2
     by_cases hin:(fN + x) / 64 < l'.length
     ·rw[if_pos hin] at HF2
      have HF3:=As HF2
      have HQ:=As hin
      have HM:=As (show fN + x≤9223372036854775807 by omega)
      have HJ:=As (show (fN:Int) + (x:Int)=((fN + x:Nat):Int) by omega)
      have HMM:=As hm
      have HL2:=As hL
      obtain⟨go,co_,eo_,gb_,gl_,cl_,HG_⟩:=Kd.R_form HO.out (by have:=HQ.out;omega)
      cases eo_
      have GB:=As gb_
      have hcz22_0:=Z.c0 BK22.out
      clear HF2 hm hin hL gb_ gl_ HG_
      go_wp2_with (first|((with_reducible refine gate_callee (f:=49) rfl ?_);refine Z.gl 56 Tryz.func49 #[.pointer (some ⟨gb22,0,none⟩),.int .i64 ((fN:Int) + (x:Int)),.bool v] ?_;refine (list_put_calls v gb22 go co (fN + x) ((fN + x) / 64) ((fN + x) % 64) _ t2 l' _ _ _ HJ.out rfl rfl HQ.out HM.out BK22.out HO.out).mono ?_;rintro e w30 ⟨rfl,ho,hg⟩;refine⟨_,rfl,?_⟩;replace BK8:=As (blk_grown BK8.out hg (Kd.R_ne HO.out BK8.out (by decide)));replace BK22:=As (blk_grown BK22.out hg (Kd.R_ne HO.out BK22.out (by decide)));replace HB:=As (pw_below_grown HB.out _ (below_size HB.out) hg (fun k_ hk_=>by injection hk_ with hk_;subst hk_;exact GB.out));replace HO:=As ho;clear ho hg))
      go_roundw
      case rel=>
       refine⟨x + 1,l'.set ((fN + x) / 64) (putW v (rd l' (((fN + x) / 64:Nat):Int)) ((fN + x) % 64)),by go_num,⟨by omega⟩,⟨by have e1:=HMM.out;have e2:N - (x + 1)=m:=(by omega);rw[e2];exact HF3.out⟩,⟨by rw[List.length_set];(try exact HLn.out)⟩,HO,BK8,BK22,HB⟩
      case measure=>simp[intOf];omega
     ·rw[if_neg hin] at HF2;cases HF2
    ·have ex:x=N:=by have:=HX.out;omega
     have HF2:=HF.out
     rw[ex,Nat.sub_self] at HF2
     simp only[fillL,Option.some.injEq] at HF2
     have HLL:=As HLn.out
     subst HF2
     have HL2:=As hL
     clear ex hL
     have hcz22_0:=Z.c0 BK22.out
     have hcz22_1:=Z.c1 BK22.out
     have hcz8_0:=Z.c0 BK8.out
     have hcz8_1:=Z.c1 BK8.out
     have hfz8_0:=blk_frozen BK8.out 0
     have hfz8_1:=blk_frozen BK8.out 1
     go_wp2
     refine bodyPost_ret (results_ct rfl _ _ gb8 29 #[.int .i64 t2,.slice Ao L co] (0,0) _ rfl Z.bs Tryz.underlying29 rfl (by kernel_rfl)) rfl ?_
     exact⟨_,rfl,by (with_reducible repeat (first|apply Kd.R_alloc|apply Kd.R_drewN|apply Kd.R_drew));exact Kd.R_mono (Kd.R_far (p:=⟨gb8,1,none⟩) (Kd.R_far (p:=⟨gb8,0,none⟩) (Kd.R_types HO.out BK8.out (by decide)) (fun _ hk=>hk.2) (.int .i64 t2)) (fun _ hk=>hk.2) (.slice Ao L co)) (fun _ hk=>trivial),Z.bl⟩
  ·rw[if_neg d5] at H;cases H
 ·rw[if_neg c5] at H
  have c5b0:(t1 == 0)=false:=beq_eq_false_iff_ne.mpr c5
  have c5b1:(t1 != 0)=true:=bne_iff_ne.mpr c5
  clear c5
  simp only[Option.some.injEq,Prod.mk.injEq] at H
  obtain⟨rfl,rfl,rfl⟩:=H
  go_enter Tryz.func90,Tryz.ntmps90
  go_wp2_with (first|((with_reducible refine gate_dst (N:=4) rfl ?_);refine Z.bx 4 #[.int .i64 n,.slice A l.length c] 29 fun gb4 hg w_ hbox hb=>?_;have BK4:=As hbox;have GE4:=Z.ge hg;replace HB:=Z.sb hb;clear hb hbox hg)|((with_reducible refine gate_dst (N:=8) rfl ?_);refine Z.bx 8 #[.int .i64 0,.slice none 0 0] 29 fun gb8 hg w_ hbox hb=>?_;have BK8:=As hbox;have GE8:=Z.ge hg;have NB8_4:=Z.ng BK4 hg;replace HB:=Z.sb hb;replace BK4:=Z.kb BK4 hb;clear hb hbox hg;obtain⟨hcz4_0,hfz4_0,hcz4_1,hfz4_1⟩:=Z.b2 BK4)|((with_reducible refine gate_callee (f:=47) rfl ?_);refine Z.gl 14 Tryz.func47 #[.agg #[.int .i64 n,.slice A l.length c]] ?_;(with_reducible refine (bits_Check.calls k n _ _ l t1 _ ?side1 ?side2 A1.out).mono ?_);(case side1=>exact (Kd.C_below HR0.out HB.out));(case side2=>exact HC0.out);rintro e w16 ⟨rfl,hb⟩;refine⟨_,rfl,?_⟩;clear hcz4_0 hfz4_0 hcz4_1 hfz4_1;replace HB:=Z.sb hb;replace BK4:=Z.kb BK4 hb;replace BK8:=Z.kb BK8 hb;clear hb;obtain⟨hcz8_0,hfz8_0,hcz8_1,hfz8_1⟩:=Z.b2 BK8))
  refine bodyPost_ret (results_ct rfl _ _ gb8 29 #[.int .i64 0,.slice none 0 0] (0,0) _ rfl Z.bs Tryz.underlying29 rfl (by kernel_rfl)) rfl ?_
  exact⟨_,rfl,Kd.R_nil _ _ _ _ _,Z.bl⟩
theorem pages_RC {e base:Nat} {ok:Nat→Prop} {w:World} {A:Option Addr} {n c:Nat} {xs:List Int} (h:Kd.R (Kd.int .u64) e w base ok (.slice A n c) xs):Kd.C (Kd.int .u64) w A xs.length xs∧xs.length≤c:=by
 obtain⟨A1,c1,e1,hle,hC⟩:=Kd.R_reads h
 cases e1
 exact⟨hC,hle⟩
set_option maxHeartbeats 8000000 in
set_option maxRecDepth 100000 in
theorem book_set_calls (k gb0:Nat) (n:Int) (A:Option Addr) (c:Nat) (l:List Int) (fr ct:Int) (v:Bool) (r1:Int) (r2:List Int) (w0 w:World) (hg:w.heap[gb0]? =some (.cells #[.int .i64 n,.slice A l.length c] 123 (0,0))) (hC:Kd.C (Kd.int .u64) w A l.length l) (hc:l.length≤c) (hGE:w0.heap.size≤gb0) (hB:Below w0.heap.size w0 w) (h:bits_Fill.f k n l fr ct v=some (r1,r2,0)):
  Calls Tryz.prog 54 #[.pointer (some ⟨gb0,0,none⟩),.int .i64 fr,.int .i64 ct,.bool v] w fun e w'=>e=.returned (.int .i64 0)∧∃v1_:Value,Kd.R (Kd.int .u64) 39 w' w.heap.size (fun _=>True) v1_ r2∧w'.heap[gb0]? =some (.cells #[.int .i64 r1,v1_] 123 (0,0))∧Below w0.heap.size w0 w'∧KeepBut w w' gb0 none:=by
 have hu24:=Tryz.underlying29
 have hu44:=Tryz.underlying31
 have hu74:=Tryz.underlying123
 have BK0:=As hg
 have HC:=As hC
 have HCC:=As hc
 have HG:=As hGE
 have HB0:=As hB
 have HF:=As h
 clear hg hC hc hGE hB h
 have HB:=As (Below.refl w.heap.size w)
 obtain⟨hcz0_0,hfz0_0,hcz0_1,hfz0_1⟩:=Z.b2 BK0
 go_enter Tryz.func54,Tryz.ntmps54
 go_wp2_with (first|((with_reducible refine gate_callee (f:=90) rfl ?_);refine Z.gl 20 Tryz.func90 #[.agg #[.int .i64 n,.slice A l.length c],.int .i64 fr,.int .i64 ct,.bool v] ?_;(with_reducible refine (bits_Fill.calls k n _ _ l fr ct v r1 r2 0 _ ?side1 ?side2 HF.out).mono ?_);(case side1=>exact (Kd.C_below HC.out Z.bl));(case side2=>exact HCC.out);rintro e w20 ⟨v1_,rfl,ho0,hb⟩;refine⟨_,rfl,?_⟩;clear hcz0_0 hfz0_0 hcz0_1 hfz0_1;have HO:=As (Kd.R_lower ho0 (below_size Z.bl));replace HB:=Z.sb hb;replace BK0:=Z.kb BK0 hb;clear hb ho0;obtain⟨Ao,co,eo⟩:=Kd.R_slice HO.out;subst eo;obtain⟨hcz0_0,hfz0_0,hcz0_1,hfz0_1⟩:=Z.b2 BK0)|((with_reducible refine gate_dst (N:=9) rfl ?_);refine Z.bx 9 #[.int .i64 0,.slice none 0 0] 29 fun gb9 hg w_ hbox hb=>?_;clear hcz0_0 hfz0_0 hcz0_1 hfz0_1;have BK9:=As hbox;have GE9:=Z.ge hg;have NB9_0:=Z.ng BK0 hg;replace HO:=As (Kd.R_below (by (with_reducible repeat (first|apply Kd.R_alloc|apply Kd.R_drewN|apply Kd.R_drew));exact HO.out) hb);replace HB:=Z.sb hb;replace BK0:=Z.kb BK0 hb;clear hb hbox hg;obtain⟨hcz0_0,hfz0_0,hcz0_1,hfz0_1⟩:=Z.b2 BK0;obtain⟨hcz9_0,hfz9_0,hcz9_1,hfz9_1⟩:=Z.b2 BK9;have hnb9:=NB9_0.out;have hnc9:=NB9_0.out.symm))
 go_ret
 refine⟨by first|rfl|(simp;done),.slice Ao r2.length co,?_,?_,?_,?_⟩
 ·(with_reducible repeat (first|apply Kd.R_alloc|apply Kd.R_drewN|apply Kd.R_drew));exact Kd.R_mono (Kd.R_far (p:=⟨gb0,1,none⟩) (Kd.R_far (p:=⟨gb0,0,none⟩) (Kd.R_far (p:=⟨gb9,1,none⟩) (Kd.R_far (p:=⟨gb9,0,none⟩) (Kd.R_types (Kd.R_types HO.out BK9.out (by decide)) BK0.out (by decide)) (fun _ hk=>hk.1.2) (.int .i64 r1)) (fun _ hk=>hk.1.2) (.slice Ao r2.length co)) (fun _ hk=>hk.2) (.int .i64 r1)) (fun _ hk=>hk.2) (.slice Ao r2.length co)) (fun _ _=>trivial)
 ·(with_reducible repeat (first|refine blk_drewN ?_ _|refine blk_drew ?_|refine blk_alloc ?_ _));refine blk_put (cs:=#[.int .i64 r1,.slice A l.length c]) ?_ 1 _ rfl;(with_reducible repeat (first|refine blk_drewN ?_ _|refine blk_drew ?_|refine blk_alloc ?_ _));refine blk_put (cs:=#[.int .i64 n,.slice A l.length c]) ?_ 0 _ rfl;(with_reducible repeat (first|refine blk_drewN ?_ _|refine blk_drew ?_|refine blk_alloc ?_ _));refine blk_far ?_ NB9_0.out.symm _;(with_reducible repeat (first|refine blk_drewN ?_ _|refine blk_drew ?_|refine blk_alloc ?_ _));refine blk_far ?_ NB9_0.out.symm _;(with_reducible repeat (first|refine blk_drewN ?_ _|refine blk_drew ?_|refine blk_alloc ?_ _));exact BK0.out
 ·repeat (first|exact (Below.trans HB0.out (Below.mono HB.out (below_size HB0.out)))|apply below_alloc|apply pw_below_drewN|apply below_drew1|refine below_set ?_ HG.out|refine below_set ?_ (Nat.le_trans (below_size HB0.out) GE9.out))
 ·repeat (first|apply keep_drewN|refine KeepBut.set_ ?_ _ _|refine KeepBut.of_below ?_ _ _)
  repeat (first|(with_reducible first|exact HB.out|apply below_alloc|apply pw_below_drewN|apply below_drew1|refine below_set ?_ GE9.out)|exact HB.out)
def pages_Take.f (k:Nat) (n:Int) (l:List Int) (ct:Int):Option (Int×List Int×Int×Int):=(pages_Check.f k n l).bind fun t1=>if t1=0 then ((pages_Own.f n l).bind fun b=>(bits_Run.f k b.1 b.2 ct).bind fun r=>if r.2=3 then some (b.1,b.2,0,6) else if r.2=0 then ((bits_Fill.f k b.1 b.2 r.1 ct true).bind fun q=>if q.2.2=0 then some (q.1,q.2.1,r.1,0) else none) else some (b.1,b.2,r.1,r.2)) else some (0,[],0,t1)
set_option maxHeartbeats 8000000 in
set_option maxRecDepth 100000 in
theorem pages_Take.calls (k:Nat) (n:Int) (A:Option Addr) (c:Nat) (l:List Int) (ct:Int) (r1:Int) (r2:List Int) (r3:Int) (r4:Int) (w:World) (hr0:Kd.C (Kd.int .u64) w A l.length l) (hc0:l.length≤c) (hT:TzOk w) (h:pages_Take.f k n l ct=some (r1,r2,r3,r4)):
  Calls Tryz.prog 21 #[.agg #[.int .i64 n,.slice A l.length c],.int .i64 ct] w fun e w'=>∃v1_:Value,e=.returned (.tuple #[.agg #[.int .i64 r1,v1_],.int .i64 r3,.int .i64 r4])∧Kd.R (Kd.int .u64) 39 w' w.heap.size (fun _=>True) v1_ r2∧Below w.heap.size w w':=by
 have hu24:=Tryz.underlying29
 have hu44:=Tryz.underlying31
 have hu74:=Tryz.underlying123
 have HR0:=As hr0
 have HC0:=As hc0
 have HT:=As hT
 clear hr0 hc0 hT
 have HB:=As (Below.refl w.heap.size w)
 have H:=h
 clear h
 unfold pages_Take.f at H
 replace H:=Option.bind_eq_some_iff.mp H
 obtain⟨t1,A1,H⟩:=H
 replace A1:=As A1
 by_cases c5:t1=0
 ·rw[if_pos c5] at H
  subst c5
  replace H:=Option.bind_eq_some_iff.mp H
  obtain⟨⟨t2,t3⟩,A2,H⟩:=H
  replace A2:=As A2
  simp only at H
  replace H:=Option.bind_eq_some_iff.mp H
  obtain⟨⟨t4,t5⟩,A4,H⟩:=H
  replace A4:=As A4
  simp only at H
  by_cases c7:t5=0
  ·subst c7
   rw[if_neg (by decide),if_pos rfl] at H
   replace H:=Option.bind_eq_some_iff.mp H
   obtain⟨⟨t6,t7,t8⟩,A6,H⟩:=H
   simp only at H
   by_cases c8:t8=0
   ·rw[if_pos c8] at H
    subst c8
    replace A6:=As A6
    simp only[Option.some.injEq,Prod.mk.injEq] at H
    obtain⟨rfl,rfl,rfl,rfl⟩:=H
    go_enter Tryz.func21,Tryz.ntmps21
    go_wp2_with (first|((with_reducible refine gate_dst (N:=2) rfl ?_);refine Z.bx 2 #[.int .i64 n,.slice A l.length c] 31 fun gb2 hg w_ hbox hb=>?_;have BK2:=As hbox;have GE2:=Z.ge hg;replace HB:=Z.sb hb;clear hb hbox hg)|((with_reducible refine gate_dst (N:=4) rfl ?_);refine Z.bx 4 #[.int .i64 0,.slice none 0 0] 31 fun gb4 hg w_ hbox hb=>?_;have BK4:=As hbox;have GE4:=Z.ge hg;have NB4_2:=Z.ng BK2 hg;replace HB:=Z.sb hb;replace BK2:=Z.kb BK2 hb;clear hb hbox hg;obtain⟨hcz2_0,hfz2_0,hcz2_1,hfz2_1⟩:=Z.b2 BK2)|((with_reducible refine gate_callee (f:=51) rfl ?_);refine Z.gl 12 Tryz.func51 #[.agg #[.int .i64 n,.slice A l.length c]] ?_;(with_reducible refine (pages_Check.calls k n _ _ l 0 _ ?side1 ?side2 A1.out).mono ?_);(case side1=>exact (Kd.C_below HR0.out HB.out));(case side2=>exact HC0.out);rintro e w16 ⟨rfl,hb⟩;refine⟨_,rfl,?_⟩;clear hcz2_0 hfz2_0 hcz2_1 hfz2_1;replace HB:=Z.sb hb;replace BK2:=Z.kb BK2 hb;replace BK4:=Z.kb BK4 hb;clear hb;obtain⟨hcz2_0,hfz2_0,hcz2_1,hfz2_1⟩:=Z.b2 BK2)|((with_reducible refine gate_callee (f:=52) rfl ?_);refine Z.gl 18 Tryz.func52 #[.agg #[.int .i64 n,.slice A l.length c]] ?_;(with_reducible refine (pages_Own.calls n _ _ l t2 t3 _ ?side1 ?side2 A2.out).mono ?_);(case side1=>exact (Kd.C_below HR0.out HB.out));(case side2=>exact HC0.out);rintro e w18 ⟨v1_,rfl,ho0,hb⟩;refine⟨_,rfl,?_⟩;clear hcz2_0 hfz2_0 hcz2_1 hfz2_1;have HO:=As (Kd.R_lower ho0 (below_size Z.bl));replace HB:=Z.sb hb;replace BK2:=Z.kb BK2 hb;replace BK4:=Z.kb BK4 hb;clear hb ho0;obtain⟨Ao,co,eo⟩:=Kd.R_slice HO.out;subst eo)|((with_reducible refine gate_dst (N:=20) rfl ?_);refine Z.bx 20 #[.int .i64 t2,.slice Ao t3.length co] 123 fun gb20 hg w_ hbox hb=>?_;have BK20:=As hbox;have GE20:=Z.ge hg;have NB20_2:=Z.ng BK2 hg;have NB20_4:=Z.ng BK4 hg;replace HO:=As (Kd.R_below (by (with_reducible repeat (first|apply Kd.R_alloc|apply Kd.R_drewN|apply Kd.R_drew));exact HO.out) hb);replace HB:=Z.sb hb;replace BK2:=Z.kb BK2 hb;replace BK4:=Z.kb BK4 hb;clear hb hbox hg;obtain⟨hcz4_0,hfz4_0,hcz4_1,hfz4_1⟩:=Z.b2 BK4;obtain⟨hcz20_0,hfz20_0,hcz20_1,hfz20_1⟩:=Z.b2 BK20)|((with_reducible refine gate_callee (f:=53) rfl ?_);refine Z.gl 28 Tryz.func53 #[.agg #[.int .i64 t2,.slice Ao t3.length co],.int .i64 ct] ?_;(with_reducible refine (bits_Run.calls k t2 _ _ t3 ct t4 0 _ ?side1 ?side2 ?side3 A4.out).mono ?_);(case side1=>exact (pages_RC (by (with_reducible repeat (first|apply Kd.R_alloc|apply Kd.R_drewN|apply Kd.R_drew));exact HO.out)).1);(case side2=>exact (pages_RC HO.out).2);(case side3=>exact TzOk.it);rintro e w28 ⟨rfl,hb⟩;refine⟨_,rfl,?_⟩;clear hcz4_0 hfz4_0 hcz4_1 hfz4_1 hcz20_0 hfz20_0 hcz20_1 hfz20_1;replace HO:=As (Kd.R_below (by (with_reducible repeat (first|apply Kd.R_alloc|apply Kd.R_drewN|apply Kd.R_drew));exact HO.out) hb);replace HB:=Z.sb hb;replace BK2:=Z.kb BK2 hb;replace BK4:=Z.kb BK4 hb;replace BK20:=Z.kb BK20 hb;clear hb;obtain⟨hcz4_0,hfz4_0,hcz4_1,hfz4_1⟩:=Z.b2 BK4;obtain⟨hcz20_0,hfz20_0,hcz20_1,hfz20_1⟩:=Z.b2 BK20)|((with_reducible refine gate_callee (f:=54) rfl ?_);refine Z.gl 43 Tryz.func54 #[.pointer (some ⟨gb20,0,none⟩),.int .i64 t4,.int .i64 ct,.bool true] ?_;(with_reducible refine (book_set_calls k gb20 t2 Ao co t3 t4 ct true t6 t7 w _ ?side1 ?side2 ?side3 GE20.out ?side4 A6.out).mono ?_);(case side1=>(with_reducible repeat (first|refine blk_drewN ?_ _|refine blk_drew ?_|refine blk_alloc ?_ _));exact BK20.out);(case side2=>exact (pages_RC (by (with_reducible repeat (first|apply Kd.R_alloc|apply Kd.R_drewN|apply Kd.R_drew));exact HO.out)).1);(case side3=>exact (pages_RC HO.out).2);(case side4=>exact Z.bl);rintro e w43 ⟨rfl,v1_,ho0,hbk,hb0,hk⟩;refine⟨_,rfl,?_⟩;clear hcz4_0 hfz4_0 hcz4_1 hfz4_1 hcz20_0 hfz20_0 hcz20_1 hfz20_1;have n0_:=As (KeepBut.blk (o:=.cells #[.int .i64 n,.slice A l.length c] 31 (0,0)) hk Z.bk NB20_2.out.symm (by simp));have n1_:=As (KeepBut.blk (o:=.cells #[.int .i64 0,.slice none 0 0] 31 (0,0)) hk Z.bk NB20_4.out.symm (by simp));have n2_:=As hbk;have n3_:=As hb0;have n4_:=As (Kd.R_lower ho0 (below_size Z.bl));clear BK2 BK4 BK20 HB HO hbk hb0 hk ho0;have BK2:=n0_;have BK4:=n1_;have BK20:=n2_;have HB:=n3_;have HO:=n4_;clear n0_ n1_ n2_ n3_ n4_;obtain⟨Aq,cq,eq⟩:=Kd.R_slice HO.out;subst eq;obtain⟨hcz4_0,hfz4_0,hcz4_1,hfz4_1⟩:=Z.b2 BK4;obtain⟨hcz20_0,hfz20_0,hcz20_1,hfz20_1⟩:=Z.b2 BK20))
    refine bodyPost_ret (results_ctt rfl _ _ gb4 31 #[.int .i64 t6,.slice Aq t7.length cq] (0,0) _ rfl Z.bs Tryz.underlying31 rfl (by kernel_rfl)) rfl ?_
    exact⟨_,rfl,by (with_reducible repeat (first|apply Kd.R_alloc|apply Kd.R_drewN|apply Kd.R_drew));exact Kd.R_mono (Kd.R_far (p:=⟨gb4,1,none⟩) (Kd.R_far (p:=⟨gb4,0,none⟩) (Kd.R_types HO.out BK4.out (by decide)) (fun _ hk=>hk.2) (.int .i64 t6)) (fun _ hk=>hk.2) (.slice Aq t7.length cq)) (fun _ hk=>trivial),Z.bl⟩
   ·rw[if_neg c8] at H;cases H
  ·have H1:some (if t5=3 then (t2,t3,(0:Int),(6:Int)) else (t2,t3,t4,t5))=some (r1,r2,r3,r4):=by
    by_cases c6:t5=3
    ·rw[if_pos c6] at H ⊢;exact H
    ·rw[if_neg c6,if_neg c7] at H;rw[if_neg c6];exact H
   clear H
   have C7:=As c7
   clear c7
   have H:=As (Option.some.inj H1)
   clear H1
   go_enter Tryz.func21,Tryz.ntmps21
   go_wp2_with (first|((with_reducible refine gate_dst (N:=2) rfl ?_);refine Z.bx 2 #[.int .i64 n,.slice A l.length c] 31 fun gb2 hg w_ hbox hb=>?_;have BK2:=As hbox;have GE2:=Z.ge hg;replace HB:=Z.sb hb;clear hb hbox hg)|((with_reducible refine gate_dst (N:=4) rfl ?_);refine Z.bx 4 #[.int .i64 0,.slice none 0 0] 31 fun gb4 hg w_ hbox hb=>?_;have BK4:=As hbox;have GE4:=Z.ge hg;have NB4_2:=Z.ng BK2 hg;replace HB:=Z.sb hb;replace BK2:=Z.kb BK2 hb;clear hb hbox hg;obtain⟨hcz2_0,hfz2_0,hcz2_1,hfz2_1⟩:=Z.b2 BK2)|((with_reducible refine gate_callee (f:=51) rfl ?_);refine Z.gl 12 Tryz.func51 #[.agg #[.int .i64 n,.slice A l.length c]] ?_;(with_reducible refine (pages_Check.calls k n _ _ l 0 _ ?side1 ?side2 A1.out).mono ?_);(case side1=>exact (Kd.C_below HR0.out HB.out));(case side2=>exact HC0.out);rintro e w16 ⟨rfl,hb⟩;refine⟨_,rfl,?_⟩;clear hcz2_0 hfz2_0 hcz2_1 hfz2_1;replace HB:=Z.sb hb;replace BK2:=Z.kb BK2 hb;replace BK4:=Z.kb BK4 hb;clear hb;obtain⟨hcz2_0,hfz2_0,hcz2_1,hfz2_1⟩:=Z.b2 BK2)|((with_reducible refine gate_callee (f:=52) rfl ?_);refine Z.gl 18 Tryz.func52 #[.agg #[.int .i64 n,.slice A l.length c]] ?_;(with_reducible refine (pages_Own.calls n _ _ l t2 t3 _ ?side1 ?side2 A2.out).mono ?_);(case side1=>exact (Kd.C_below HR0.out HB.out));(case side2=>exact HC0.out);rintro e w18 ⟨v1_,rfl,ho0,hb⟩;refine⟨_,rfl,?_⟩;clear hcz2_0 hfz2_0 hcz2_1 hfz2_1;have HO:=As (Kd.R_lower ho0 (below_size Z.bl));replace HB:=Z.sb hb;replace BK2:=Z.kb BK2 hb;replace BK4:=Z.kb BK4 hb;clear hb ho0;obtain⟨Ao,co,eo⟩:=Kd.R_slice HO.out;subst eo)|((with_reducible refine gate_dst (N:=20) rfl ?_);refine Z.bx 20 #[.int .i64 t2,.slice Ao t3.length co] 123 fun gb20 hg w_ hbox hb=>?_;have BK20:=As hbox;have GE20:=Z.ge hg;have NB20_2:=Z.ng BK2 hg;have NB20_4:=Z.ng BK4 hg;replace HO:=As (Kd.R_below (by (with_reducible repeat (first|apply Kd.R_alloc|apply Kd.R_drewN|apply Kd.R_drew));exact HO.out) hb);replace HB:=Z.sb hb;replace BK2:=Z.kb BK2 hb;replace BK4:=Z.kb BK4 hb;clear hb hbox hg;obtain⟨hcz4_0,hfz4_0,hcz4_1,hfz4_1⟩:=Z.b2 BK4;obtain⟨hcz20_0,hfz20_0,hcz20_1,hfz20_1⟩:=Z.b2 BK20)|((with_reducible refine gate_callee (f:=53) rfl ?_);refine Z.gl 28 Tryz.func53 #[.agg #[.int .i64 t2,.slice Ao t3.length co],.int .i64 ct] ?_;(with_reducible refine (bits_Run.calls k t2 _ _ t3 ct t4 t5 _ ?side1 ?side2 ?side3 A4.out).mono ?_);(case side1=>exact (pages_RC (by (with_reducible repeat (first|apply Kd.R_alloc|apply Kd.R_drewN|apply Kd.R_drew));exact HO.out)).1);(case side2=>exact (pages_RC HO.out).2);(case side3=>exact TzOk.it);rintro e w28 ⟨rfl,hb⟩;refine⟨_,rfl,?_⟩;clear hcz4_0 hfz4_0 hcz4_1 hfz4_1 hcz20_0 hfz20_0 hcz20_1 hfz20_1;replace HO:=As (Kd.R_below (by (with_reducible repeat (first|apply Kd.R_alloc|apply Kd.R_drewN|apply Kd.R_drew));exact HO.out) hb);replace HB:=Z.sb hb;replace BK2:=Z.kb BK2 hb;replace BK4:=Z.kb BK4 hb;replace BK20:=Z.kb BK20 hb;clear hb;obtain⟨hcz4_0,hfz4_0,hcz4_1,hfz4_1⟩:=Z.b2 BK4;obtain⟨hcz20_0,hfz20_0,hcz20_1,hfz20_1⟩:=Z.b2 BK20))
   all_goals first
    |(have c6:t5=3:=eq_of_beq (by assumption)
      have e:=H.out
      rw[if_pos c6] at e
      simp only[Prod.mk.injEq] at e
      obtain⟨rfl,rfl,rfl,rfl⟩:=e
      refine bodyPost_ret (results_ctt rfl _ _ gb4 31 #[.int .i64 t2,.slice Ao t3.length co] (0,0) _ rfl Z.bs Tryz.underlying31 rfl (by kernel_rfl)) rfl ?_
      exact⟨_,rfl,by (with_reducible repeat (first|apply Kd.R_alloc|apply Kd.R_drewN|apply Kd.R_drew));exact Kd.R_mono (Kd.R_far (p:=⟨gb4,1,none⟩) (Kd.R_far (p:=⟨gb4,0,none⟩) (Kd.R_types HO.out BK4.out (by decide)) (fun _ hk=>hk.2) (.int .i64 t2)) (fun _ hk=>hk.2) (.slice Ao t3.length co)) (fun _ hk=>trivial),Z.bl⟩)
    |(have c6:¬t5=3:=ne_of_beq_false (by assumption)
      have e:=H.out
      rw[if_neg c6] at e
      simp only[Prod.mk.injEq] at e
      obtain⟨rfl,rfl,rfl,rfl⟩:=e
      refine bodyPost_ret (results_ctt rfl _ _ gb4 31 #[.int .i64 t2,.slice Ao t3.length co] (0,0) _ rfl Z.bs Tryz.underlying31 rfl (by kernel_rfl)) rfl ?_
      exact⟨_,rfl,by (with_reducible repeat (first|apply Kd.R_alloc|apply Kd.R_drewN|apply Kd.R_drew));exact Kd.R_mono (Kd.R_far (p:=⟨gb4,1,none⟩) (Kd.R_far (p:=⟨gb4,0,none⟩) (Kd.R_types HO.out BK4.out (by decide)) (fun _ hk=>hk.2) (.int .i64 t2)) (fun _ hk=>hk.2) (.slice Ao t3.length co)) (fun _ hk=>trivial),Z.bl⟩)
    |exact absurd (eq_of_beq (by assumption)) C7.out
 ·rw[if_neg c5] at H
  have c5b0:(t1 == 0)=false:=beq_eq_false_iff_ne.mpr c5
  have c5b1:(t1 != 0)=true:=bne_iff_ne.mpr c5
  clear c5
  simp only[Option.some.injEq,Prod.mk.injEq] at H
  obtain⟨rfl,rfl,rfl,rfl⟩:=H
  go_enter Tryz.func21,Tryz.ntmps21
  go_wp2_with (first|((with_reducible refine gate_dst (N:=2) rfl ?_);refine Z.bx 2 #[.int .i64 n,.slice A l.length c] 31 fun gb2 hg w_ hbox hb=>?_;have BK2:=As hbox;have GE2:=Z.ge hg;replace HB:=Z.sb hb;clear hb hbox hg)|((with_reducible refine gate_dst (N:=4) rfl ?_);refine Z.bx 4 #[.int .i64 0,.slice none 0 0] 31 fun gb4 hg w_ hbox hb=>?_;have BK4:=As hbox;have GE4:=Z.ge hg;have NB4_2:=Z.ng BK2 hg;replace HB:=Z.sb hb;replace BK2:=Z.kb BK2 hb;clear hb hbox hg;obtain⟨hcz2_0,hfz2_0,hcz2_1,hfz2_1⟩:=Z.b2 BK2)|((with_reducible refine gate_callee (f:=51) rfl ?_);refine Z.gl 12 Tryz.func51 #[.agg #[.int .i64 n,.slice A l.length c]] ?_;(with_reducible refine (pages_Check.calls k n _ _ l t1 _ ?side1 ?side2 A1.out).mono ?_);(case side1=>exact (Kd.C_below HR0.out HB.out));(case side2=>exact HC0.out);rintro e w16 ⟨rfl,hb⟩;refine⟨_,rfl,?_⟩;clear hcz2_0 hfz2_0 hcz2_1 hfz2_1;replace HB:=Z.sb hb;replace BK2:=Z.kb BK2 hb;replace BK4:=Z.kb BK4 hb;clear hb;obtain⟨hcz4_0,hfz4_0,hcz4_1,hfz4_1⟩:=Z.b2 BK4))
  refine bodyPost_ret (results_ctt rfl _ _ gb4 31 #[.int .i64 0,.slice none 0 0] (0,0) _ rfl Z.bs Tryz.underlying31 rfl (by kernel_rfl)) rfl ?_
  exact⟨_,rfl,Kd.R_nil _ _ _ _ _,Z.bl⟩
end Go.Proofs.YtmmfchnbfnegnaaGreatDoor.GK
end
section
namespace Go.Proofs.YtmmfchnbfnegnaaGreatDoor.GK
open Go.RowKit Go.Proofs.YtmmfchnbfnegnaaGreatDoorW.PrintWords Go.Proofs.YtmmfchnbfnegnaaGreatDoorW.PrintLast Go.Proofs.YtmmfchnbfnegnaaGreatDoorW.PrintMore
attribute [local go_sem] max2_int min2_int max_two min_two max_three min_three max_four min_four
set_option linter.unusedVariables false
set_option linter.unusedSimpArgs false
def heap_Make.j0:Nat→Int→Bool→Option (List Int×Int×List Int×(List (S51))×Int)
 |0,_,_=>none
 |k + 1,x0,x13=>if x13=true then (some (([]:List Int),0,([]:List Int),([]:List (S51)),1)) else ((arena_Make.f (wrap64 (x0 * 16))).bind fun bt152=>((pages_Make.f x0).bind fun bt157=>((pages_Take.f k bt157.1 bt157.2.1 1).bind fun bt163=>(some (bt152.1,bt163.1,bt163.2.1,([]:List (S51)),0)))))
def heap_Make.f (k:Nat) (a0:Int):Option (List Int×Int×List Int×(List (S51))×Int):=if a0 < 1 then (heap_Make.j0 k a0 true) else (heap_Make.j0 k a0 (decide (a0 > 1024)))
set_option maxHeartbeats 8000000 in
set_option maxRecDepth 100000 in
theorem heap_Make.calls (k:Nat) (a0:Int) (r1:List Int) (r2:Int) (r3:List Int) (r4:List (S51)) (r5:Int) (w:World) (hT:TzOk w) (h:heap_Make.f k a0=some (r1,r2,r3,r4,r5)):
  Calls Tryz.prog 5 #[.int .i64 a0] w fun e w'=>∃v0_ v2_ v3_:Value,e=.returned (.tuple #[.agg #[v0_,.int .i64 r2,v2_,v3_],.int .i64 r5])∧Kd.R (Kd.int .u64) 39 w' w.heap.size (fun k_=>some k_≠(v2_:Value).ownBlock) v0_ r1∧Kd.R (Kd.int .u64) 39 w' w.heap.size (fun k_=>some k_≠(v0_:Value).ownBlock) v2_ r3∧Kd.S k51 51 w' w.heap.size (fun k_=>some k_≠(v0_:Value).ownBlock∧some k_≠(v2_:Value).ownBlock) v3_ r4∧Below w.heap.size w w':=by
 have hu34:=Tryz.underlying34
 have hu27:=Tryz.underlying27
 have hu31:=Tryz.underlying31
 have HB:=As (Below.refl w.heap.size w)
 have H:(if a0 < 1 then (heap_Make.j0 k a0 true) else (heap_Make.j0 k a0 (decide (a0 > 1024))))=some (r1,r2,r3,r4,r5):=h
 clear h
 have HT:=As hT
 clear hT
 have HC2:=As H
 clear H
 go_enter Tryz.func5,Tryz.ntmps5
 go_upto_region 1 with (first|((with_reducible refine gate_dst (N:=2) rfl ?_);refine Z.bx 2 #[.slice none 0 0,.int .i64 0,.slice none 0 0,.slice none 0 0] 34 fun gb151 hg w3 hbox hb=>?_;have BK151:=As hbox;have GW151:=Z.ge hg;have GE151:=Z.ge hg;replace HB:=Z.sb hb;clear hb hbox hg))
 (try simp only[Act.put,List.setIfInBounds_toArray,List.set_cons_zero,List.set_cons_succ])
 go_cut [13] (fun v13 wc=>∃(kq:Nat) (x13_1:Bool),v13=.bool x13_1∧Aside0 (heap_Make.j0 kq a0 x13_1=some (r1,r2,r3,r4,r5))∧Aside0 (kq≤k)∧Aside0 (wc.heap[gb151]? =some (.cells #[(.slice none 0 0),.int .i64 0,(.slice none 0 0),(.slice none 0 0)] 34 (0,0)))∧Aside0 (Below w.heap.size w wc))
 case first=>
  have H:=HC2.out
  clear HC2
  by_cases c4:a0 < 1
  ·rw[if_pos c4] at H
   have c4b0:decide (a0 < 1)=true:=decide_eq_true c4
   clear c4
   (first|rw[c4b0]|(simp only[i64_w,i32_w];rw[c4b0])|skip)
   have H':=As H
   clear H
   go_wp2
   go_meet
   case rel=>exact⟨_,(true),Z.r_,H',⟨by first|omega|exact Nat.le_refl _⟩,⟨Z.bk⟩,⟨Z.bl⟩⟩
  ·rw[if_neg c4] at H
   have c4b0:decide (a0 < 1)=false:=decide_eq_false c4
   clear c4
   (first|rw[c4b0]|(simp only[i64_w,i32_w];rw[c4b0])|skip)
   have H':=As H
   clear H
   go_wp2
   go_meet
   case rel=>exact⟨_,(decide (a0 > 1024)),Z.r_,H',⟨by first|omega|exact Nat.le_refl _⟩,⟨Z.bk⟩,⟨Z.bl⟩⟩
 case rest=>
  clear HC2
  try clear p2
  try clear c4
  try clear c4b0
  obtain⟨kq,x13_1,rfl,HA,HJ1,BK151,HB⟩:=hcut
  cases kq with
  |zero=>exact absurd HA.out (by simp[heap_Make.j0])
  |succ kj1=>
   have H:=HA.out
   clear HA
   simp only[heap_Make.j0] at H
   by_cases c5:x13_1=true
   ·subst c5
    have H1:(some (([]:List Int),0,([]:List Int),([]:List (S51)),1))=some (r1,r2,r3,r4,r5):=by rw[if_pos rfl] at H;exact H
    clear H
    have H:=H1
    clear H1
    simp only[Option.some.injEq,Prod.mk.injEq] at H
    obtain⟨rfl,rfl,rfl,rfl,rfl⟩:=H
    have hcz6_0:=Z.c0 BK151.out
    have hcz6_1:=Z.c1 BK151.out
    have hcz6_2:=Z.c2 BK151.out
    have hcz6_3:=Z.c3 BK151.out
    have hfz6_0:=blk_frozen BK151.out 0
    have hfz6_1:=blk_frozen BK151.out 1
    have hfz6_2:=blk_frozen BK151.out 2
    have hfz6_3:=blk_frozen BK151.out 3
    go_wp2
    refine bodyPost_ret (results_ct rfl _ _ gb151 34 #[.slice none 0 0,.int .i64 0,.slice none 0 0,.slice none 0 0] (0,0) _ rfl Z.bs Tryz.underlying34 rfl (by kernel_rfl)) rfl ?_
    exact⟨_,_,_,Z.e_,by first|exact Kd.R_nil _ _ _ _ _|exact Kd.N_nil _ _ _ _ _|exact Kd.V_nil _ _ _ _ _|exact Kd.Q_nil _ _ _ _ _|exact Kd.S_nil _ _ _ _ _,by first|exact Kd.R_nil _ _ _ _ _|exact Kd.N_nil _ _ _ _ _|exact Kd.V_nil _ _ _ _ _|exact Kd.Q_nil _ _ _ _ _|exact Kd.S_nil _ _ _ _ _,by first|exact Kd.S_nil _ _ _ _ _|exact Kd.N_nil _ _ _ _ _|exact Kd.V_nil _ _ _ _ _|exact Kd.Q_nil _ _ _ _ _|exact Kd.R_nil _ _ _ _ _,Z.bl⟩
   ·replace c5:=Bool.eq_false_iff.mpr c5
    subst c5
    have H1:((arena_Make.f (wrap64 (a0 * 16))).bind fun bt152=>((pages_Make.f a0).bind fun bt157=>((pages_Take.f kj1 bt157.1 bt157.2.1 1).bind fun bt163=>(some (bt152.1,bt163.1,bt163.2.1,([]:List (S51)),0)))))=some (r1,r2,r3,r4,r5):=by rw[if_neg (show ¬(false=true) by decide)] at H;exact H
    clear H
    have H:=H1
    clear H1
    replace H:=Option.bind_eq_some_iff.mp H
    obtain⟨⟨t152,t155⟩,A70,H⟩:=H
    replace H:((pages_Make.f a0).bind fun bt157=>((pages_Take.f kj1 bt157.1 bt157.2.1 1).bind fun bt163=>(some (t152,bt163.1,bt163.2.1,([]:List (S51)),0))))=some (r1,r2,r3,r4,r5):=H
    have A7:=As A70
    clear A70
    replace H:=Option.bind_eq_some_iff.mp H
    obtain⟨⟨t157,t158,t161⟩,A80,H⟩:=H
    replace H:((pages_Take.f kj1 t157 t158 1).bind fun bt163=>(some (t152,bt163.1,bt163.2.1,([]:List (S51)),0)))=some (r1,r2,r3,r4,r5):=H
    have A8:=As A80
    clear A80
    replace H:=Option.bind_eq_some_iff.mp H
    obtain⟨⟨t163,t164,t167,t168⟩,A90,H⟩:=H
    replace H:(some (t152,t163,t164,([]:List (S51)),0))=some (r1,r2,r3,r4,r5):=H
    have A9:=As A90
    clear A90
    simp only[Option.some.injEq,Prod.mk.injEq] at H
    obtain⟨rfl,rfl,rfl,rfl,rfl⟩:=H
    go_wp2_with (first|((with_reducible refine gate_callee (f:=19) rfl ?_);refine Z.gl 18 Tryz.func19 #[.int .i64 (wrap64 (a0 * 16))] ?_;(with_reducible refine (arena_Make.calls (wrap64 (a0 * 16)) t152 t155 _ A7.out).mono ?_);rintro e w10 ⟨v153,rfl,ho0,hb⟩;refine⟨_,rfl,?_⟩;have HO154:=As (Kd.R_lower ho0 (below_size Z.bl));replace HB:=Z.sb hb;replace BK151:=Z.kb BK151 hb;(try clear hb);(try clear hb2);(try clear hk);(try clear hi);(try clear ho0))|((with_reducible refine gate_dst (N:=4) rfl ?_);refine Z.bx 4 #[.slice none 0 0] 27 fun gb156 hg w11 hbox hb=>?_;have BK156:=As hbox;have GW156:=Z.ge hg;have GE156:=Z.ge hg;have NB151_156:=Z.nl BK151 hg;have NB156_151:=Z.ng BK151 hg;replace HO154:=As (Kd.R_below (by (with_reducible repeat (first|apply Kd.R_alloc|apply Kd.R_drewN|apply Kd.R_drew));exact HO154.out) hb);replace HB:=Z.sb hb;replace BK151:=Z.kb BK151 hb;clear hb hbox hg;obtain⟨Ao12,co12,eo12⟩:=Kd.R_slice HO154.out;subst eo12;have hnb13:=NB156_151.out;have hnc13:=NB151_156.out;obtain⟨hcz14_0,hfz14_0⟩:=Z.b1 BK156)|((with_reducible refine gate_callee (f:=20) rfl ?_);refine Z.gl 23 Tryz.func20 #[.int .i64 a0] ?_;(with_reducible refine (pages_Make.calls a0 t157 t158 t161 _ A8.out).mono ?_);rintro e w15 ⟨v159,rfl,ho0,hb⟩;refine⟨_,rfl,?_⟩;have n0_:=As (Kd.R_elder' (by (with_reducible repeat (first|apply Kd.R_alloc|apply Kd.R_drewN|apply Kd.R_drew));exact (Kd.R_mono (Kd.R_far (p:=⟨gb156,0,none⟩) (Kd.R_types HO154.out BK156.out (by decide)) (fun _ hk=>hk.2) (.slice Ao12 t152.length co12)) (fun _ h_=>h_.1))) (Kd.R_base ho0) hb);have n1_:=As (Kd.R_lower (Kd.R_new' ho0 (Kd.R_lt (by (with_reducible repeat (first|apply Kd.R_alloc|apply Kd.R_drewN|apply Kd.R_drew));exact (Kd.R_mono (Kd.R_far (p:=⟨gb156,0,none⟩) (Kd.R_types HO154.out BK156.out (by decide)) (fun _ hk=>hk.2) (.slice Ao12 t152.length co12)) (fun _ h_=>h_.1))))) (below_size Z.bl));have n2_:=As (blk_below (g:=gb151) (o:=.cells #[.slice none 0 0,.int .i64 0,.slice none 0 0,.slice none 0 0] 34 (0,0)) Z.bs hb);have n3_:=As (blk_below (g:=gb156) (o:=.cells #[.slice Ao12 t152.length co12] 27 (0,0)) Z.bs hb);have n4_:=Z.sb hb;replace HO154:=n0_;have HO160:=n1_;replace BK151:=n2_;replace BK156:=n3_;replace HB:=n4_;clear n0_ n1_ n2_ n3_ n4_;(try clear hb);(try clear hb2);(try clear hk);(try clear hi);(try clear ho0))|((with_reducible refine gate_dst (N:=6) rfl ?_);refine Z.bx 6 #[.int .i64 0,.slice none 0 0] 31 fun gb162 hg w16 hbox hb=>?_;have BK162:=As hbox;have GW162:=Z.ge hg;have GE162:=Z.ge hg;have NB151_162:=Z.nl BK151 hg;have NB162_151:=Z.ng BK151 hg;have NB156_162:=Z.nl BK156 hg;have NB162_156:=Z.ng BK156 hg;replace HO154:=As (Kd.R_below (by (with_reducible repeat (first|apply Kd.R_alloc|apply Kd.R_drewN|apply Kd.R_drew));exact HO154.out) hb);replace HO160:=As (Kd.R_below (by (with_reducible repeat (first|apply Kd.R_alloc|apply Kd.R_drewN|apply Kd.R_drew));exact HO160.out) hb);replace HB:=Z.sb hb;replace BK151:=Z.kb BK151 hb;replace BK156:=Z.kb BK156 hb;clear hb hbox hg;have hnb17:=NB162_151.out;have hnc17:=NB151_162.out;have hnb18:=NB162_156.out;have hnc18:=NB156_162.out;have hcz19_0:=Z.c0 BK162.out;have hcz19_1:=Z.c1 BK162.out;have hfz19_0:=blk_frozen BK162.out 0;have hfz19_1:=blk_frozen BK162.out 1;obtain⟨Ao20,co20,eo20⟩:=Kd.R_slice HO160.out;subst eo20)|((with_reducible refine gate_callee (f:=21) rfl ?_);refine Z.gl 28 Tryz.func21 #[.agg #[.int .i64 t157,.slice Ao20 t158.length co20],.int .i64 1] ?_;(with_reducible refine (pages_Take.calls kj1 t157 _ _ t158 1 t163 t164 t167 t168 _ ?side1 ?side2 ?side3 A9.out).mono ?_);(case side1=>refine (Kd.R_reads' (e:=39) (base:=w.heap.size) (ok:=fun k_=>(True∧some k_≠(.slice Ao12 t152.length co12:Value).ownBlock)) (n:=t158.length) (c:=co20) ?_).2.2;exact (by (with_reducible repeat (first|apply Kd.R_alloc|apply Kd.R_drewN|apply Kd.R_drew));exact (Kd.R_mono (Kd.R_far (p:=⟨gb162,1,none⟩) (Kd.R_far (p:=⟨gb162,0,none⟩) (Kd.R_types HO160.out BK162.out (by decide)) (fun _ hk=>hk.2) (.int .i64 t157)) (fun _ hk=>hk.2) (.slice Ao20 t158.length co20)) (fun _ h_=>h_.1))));(case side2=>exact (Kd.R_reads' HO160.out).2.1);(case side3=>exact TzOk.it);rintro e w21 ⟨v165,rfl,ho0,hb⟩;refine⟨_,rfl,?_⟩;have n0_:=As (Kd.R_elder' (by (with_reducible repeat (first|apply Kd.R_alloc|apply Kd.R_drewN|apply Kd.R_drew));exact (Kd.R_mono (Kd.R_far (p:=⟨gb162,1,none⟩) (Kd.R_far (p:=⟨gb162,0,none⟩) (Kd.R_types HO154.out BK162.out (by decide)) (fun _ hk=>hk.2) (.int .i64 t157)) (fun _ hk=>hk.2) (.slice Ao20 t158.length co20)) (fun _ h_=>h_.1))) (Kd.R_base ho0) hb);have n1_:=As (Kd.R_elder' (by (with_reducible repeat (first|apply Kd.R_alloc|apply Kd.R_drewN|apply Kd.R_drew));exact (Kd.R_mono (Kd.R_far (p:=⟨gb162,1,none⟩) (Kd.R_far (p:=⟨gb162,0,none⟩) (Kd.R_types HO160.out BK162.out (by decide)) (fun _ hk=>hk.2) (.int .i64 t157)) (fun _ hk=>hk.2) (.slice Ao20 t158.length co20)) (fun _ h_=>h_.1))) (Kd.R_base ho0) hb);have n2_:=As (Kd.R_lower (Kd.R_new' (Kd.R_new' ho0 (Kd.R_lt (by (with_reducible repeat (first|apply Kd.R_alloc|apply Kd.R_drewN|apply Kd.R_drew));exact (Kd.R_mono (Kd.R_far (p:=⟨gb162,1,none⟩) (Kd.R_far (p:=⟨gb162,0,none⟩) (Kd.R_types HO154.out BK162.out (by decide)) (fun _ hk=>hk.2) (.int .i64 t157)) (fun _ hk=>hk.2) (.slice Ao20 t158.length co20)) (fun _ h_=>h_.1))))) (Kd.R_lt (by (with_reducible repeat (first|apply Kd.R_alloc|apply Kd.R_drewN|apply Kd.R_drew));exact (Kd.R_mono (Kd.R_far (p:=⟨gb162,1,none⟩) (Kd.R_far (p:=⟨gb162,0,none⟩) (Kd.R_types HO160.out BK162.out (by decide)) (fun _ hk=>hk.2) (.int .i64 t157)) (fun _ hk=>hk.2) (.slice Ao20 t158.length co20)) (fun _ h_=>h_.1))))) (below_size Z.bl));have n3_:=As (blk_below (g:=gb151) (o:=.cells #[.slice none 0 0,.int .i64 0,.slice none 0 0,.slice none 0 0] 34 (0,0)) Z.bs hb);have n4_:=As (blk_below (g:=gb156) (o:=.cells #[.slice Ao12 t152.length co12] 27 (0,0)) Z.bs hb);have n5_:=As (blk_below (g:=gb162) (o:=.cells #[.int .i64 t157,.slice Ao20 t158.length co20] 31 (0,0)) Z.bs hb);have n6_:=Z.sb hb;replace HO154:=n0_;replace HO160:=n1_;have HO166:=n2_;replace BK151:=n3_;replace BK156:=n4_;replace BK162:=n5_;replace HB:=n6_;clear n0_ n1_ n2_ n3_ n4_ n5_ n6_;(try clear hb);(try clear hb2);(try clear hk);(try clear hi);(try clear ho0);have hcz22_0:=Z.c0 BK162.out;have hcz22_1:=Z.c1 BK162.out;have hfz22_0:=blk_frozen BK162.out 0;have hfz22_1:=blk_frozen BK162.out 1;obtain⟨Ao23,co23,eo23⟩:=Kd.R_slice HO166.out;subst eo23;obtain⟨hcz24_0,hfz24_0⟩:=Z.b1 BK156;have hcz25_0:=Z.c0 BK151.out;have hcz25_1:=Z.c1 BK151.out;have hcz25_2:=Z.c2 BK151.out;have hcz25_3:=Z.c3 BK151.out;have hfz25_0:=blk_frozen BK151.out 0;have hfz25_1:=blk_frozen BK151.out 1;have hfz25_2:=blk_frozen BK151.out 2;have hfz25_3:=blk_frozen BK151.out 3))
    refine bodyPost_ret (results_ct rfl _ _ gb151 34 #[.slice Ao12 t152.length co12,.int .i64 t163,.slice Ao23 t164.length co23,.slice none 0 0] (0,0) _ rfl Z.bs Tryz.underlying34 rfl (by kernel_rfl)) rfl ?_
    exact⟨_,_,_,Z.e_,by (with_reducible repeat (first|apply Kd.R_alloc|apply Kd.R_drewN|apply Kd.R_drew));exact Kd.R_mono (Kd.R_far (p:=⟨gb151,3,none⟩) (Kd.R_far (p:=⟨gb151,2,none⟩) (Kd.R_far (p:=⟨gb151,1,none⟩) (Kd.R_far (p:=⟨gb151,0,none⟩) (Kd.R_far (p:=⟨gb162,1,none⟩) (Kd.R_far (p:=⟨gb162,0,none⟩) (Kd.R_types (Kd.R_types HO154.out BK162.out (by decide)) BK151.out (by decide)) (fun _ hk=>hk.1.2) (.int .i64 t163)) (fun _ hk=>hk.1.2) (.slice Ao23 t164.length co23)) (fun _ hk=>hk.2) (.slice Ao12 t152.length co12)) (fun _ hk=>hk.2) (.int .i64 t163)) (fun _ hk=>hk.2) (.slice Ao23 t164.length co23)) (fun _ hk=>hk.2) (.slice none 0 0)) (fun _ hk=>hk.1.1.2),by (with_reducible repeat (first|apply Kd.R_alloc|apply Kd.R_drewN|apply Kd.R_drew));exact Kd.R_mono (Kd.R_far (p:=⟨gb151,3,none⟩) (Kd.R_far (p:=⟨gb151,2,none⟩) (Kd.R_far (p:=⟨gb151,1,none⟩) (Kd.R_far (p:=⟨gb151,0,none⟩) (Kd.R_far (p:=⟨gb162,1,none⟩) (Kd.R_far (p:=⟨gb162,0,none⟩) (Kd.R_types (Kd.R_types HO166.out BK162.out (by decide)) BK151.out (by decide)) (fun _ hk=>hk.1.2) (.int .i64 t163)) (fun _ hk=>hk.1.2) (.slice Ao23 t164.length co23)) (fun _ hk=>hk.2) (.slice Ao12 t152.length co12)) (fun _ hk=>hk.2) (.int .i64 t163)) (fun _ hk=>hk.2) (.slice Ao23 t164.length co23)) (fun _ hk=>hk.2) (.slice none 0 0)) (fun _ hk=>hk.1.1.1.2),by first|exact Kd.S_nil _ _ _ _ _|exact Kd.N_nil _ _ _ _ _|exact Kd.V_nil _ _ _ _ _|exact Kd.Q_nil _ _ _ _ _|exact Kd.R_nil _ _ _ _ _,Z.bl⟩
def span_shaped.f (a0:Int) (a1:Int):Option (Bool):=if a1=0 then (if a0≥2 then (some (decide (a0≤4))) else (some false)) else (if a1=2 then (some (a0 == 1)) else (if a1=4 then (some (a0 == 1)) else (if a1=8 then (some (a0 == 1)) else (if a1=16 then (some (a0 == 1)) else (some false)))))
set_option maxHeartbeats 8000000 in
set_option maxRecDepth 100000 in
theorem span_shaped.calls (a0:Int) (a1:Int) (r:Bool) (w:World) (h:span_shaped.f a0 a1=some r):
  Calls Tryz.prog 95 #[.int .i64 a0,.int .i64 a1] w fun e w'=>e=.returned (.bool r)∧Drawn0 w w':=by
 have H:(if a1=0 then (if a0≥2 then (some (decide (a0≤4))) else (some false)) else (if a1=2 then (some (a0 == 1)) else (if a1=4 then (some (a0 == 1)) else (if a1=8 then (some (a0 == 1)) else (if a1=16 then (some (a0 == 1)) else (some false))))))=some r:=h
 clear h
 by_cases c3:a1=0
 ·rw[if_pos c3] at H
  have c3b0:(a1 == 0)=true:=beq_iff_eq.mpr c3
  have c3b1:(a1 != 0)=false:=bne_eq_false_iff_eq.mpr c3
  clear c3
  by_cases c4:a0≥2
  ·rw[if_pos c4] at H
   have c4b0:decide (2≤a0)=true:=decide_eq_true c4
   clear c4
   obtain rfl:=Option.some.inj H
   go_enter Tryz.func95,Tryz.ntmps95
   go_wp2
   go_ret
   exact⟨Z.r_,Z.dr⟩
  ·rw[if_neg c4] at H
   have c4b0:decide (2≤a0)=false:=decide_eq_false c4
   clear c4
   obtain rfl:=Option.some.inj H
   go_enter Tryz.func95,Tryz.ntmps95
   go_wp2
   go_ret
   exact⟨Z.r_,Z.dr⟩
 ·rw[if_neg c3] at H
  have c3b0:(a1 == 0)=false:=beq_eq_false_iff_ne.mpr c3
  have c3b1:(a1 != 0)=true:=bne_iff_ne.mpr c3
  by_cases c5:a1=2
  ·rw[if_pos c5] at H
   have c5b0:(a1 == 2)=true:=beq_iff_eq.mpr c5
   have c5b1:(a1 != 2)=false:=bne_eq_false_iff_eq.mpr c5
   clear c5
   obtain rfl:=Option.some.inj H
   go_enter Tryz.func95,Tryz.ntmps95
   go_wp2
   go_ret
   exact⟨Z.r_,Z.dr⟩
  ·rw[if_neg c5] at H
   have c5b0:(a1 == 2)=false:=beq_eq_false_iff_ne.mpr c5
   have c5b1:(a1 != 2)=true:=bne_iff_ne.mpr c5
   by_cases c6:a1=4
   ·rw[if_pos c6] at H
    have c6b0:(a1 == 4)=true:=beq_iff_eq.mpr c6
    have c6b1:(a1 != 4)=false:=bne_eq_false_iff_eq.mpr c6
    clear c6
    obtain rfl:=Option.some.inj H
    go_enter Tryz.func95,Tryz.ntmps95
    go_wp2
    go_ret
    exact⟨Z.r_,Z.dr⟩
   ·rw[if_neg c6] at H
    have c6b0:(a1 == 4)=false:=beq_eq_false_iff_ne.mpr c6
    have c6b1:(a1 != 4)=true:=bne_iff_ne.mpr c6
    by_cases c7:a1=8
    ·rw[if_pos c7] at H
     have c7b0:(a1 == 8)=true:=beq_iff_eq.mpr c7
     have c7b1:(a1 != 8)=false:=bne_eq_false_iff_eq.mpr c7
     clear c7
     obtain rfl:=Option.some.inj H
     go_enter Tryz.func95,Tryz.ntmps95
     go_wp2
     go_ret
     exact⟨Z.r_,Z.dr⟩
    ·rw[if_neg c7] at H
     have c7b0:(a1 == 8)=false:=beq_eq_false_iff_ne.mpr c7
     have c7b1:(a1 != 8)=true:=bne_iff_ne.mpr c7
     by_cases c8:a1=16
     ·rw[if_pos c8] at H
      have c8b0:(a1 == 16)=true:=beq_iff_eq.mpr c8
      have c8b1:(a1 != 16)=false:=bne_eq_false_iff_eq.mpr c8
      clear c8
      obtain rfl:=Option.some.inj H
      go_enter Tryz.func95,Tryz.ntmps95
      go_wp2
      go_ret
      exact⟨Z.r_,Z.dr⟩
     ·rw[if_neg c8] at H
      have c8b0:(a1 == 16)=false:=beq_eq_false_iff_ne.mpr c8
      have c8b1:(a1 != 16)=true:=bne_iff_ne.mpr c8
      obtain rfl:=Option.some.inj H
      go_enter Tryz.func95,Tryz.ntmps95
      go_wp2
      go_ret
      exact⟨Z.r_,Z.dr⟩
def span_slots.f (a0:Int):Option (Int):=if a0=0 then (some 1) else (some (wrap64 (Int.tdiv (16:Int) a0)))
set_option maxHeartbeats 8000000 in
set_option maxRecDepth 100000 in
theorem span_slots.calls (a0:Int) (r:Int) (w:World) (h:span_slots.f a0=some r):
  Calls Tryz.prog 96 #[.int .i64 a0] w fun e w'=>e=.returned (.int .i64 r)∧Drawn0 w w':=by
 have H:(if a0=0 then (some 1) else (some (wrap64 (Int.tdiv (16:Int) a0))))=some r:=h
 clear h
 by_cases c2:a0=0
 ·rw[if_pos c2] at H
  have c2b0:(a0 == 0)=true:=beq_iff_eq.mpr c2
  have c2b1:(a0 != 0)=false:=bne_eq_false_iff_eq.mpr c2
  clear c2
  obtain rfl:=Option.some.inj H
  go_enter Tryz.func96,Tryz.ntmps96
  go_wp2
  go_ret
  exact⟨Z.r_,Z.dr⟩
 ·rw[if_neg c2] at H
  have c2b0:(a0 == 0)=false:=beq_eq_false_iff_ne.mpr c2
  have c2b1:(a0 != 0)=true:=bne_iff_ne.mpr c2
  obtain rfl:=Option.some.inj H
  go_enter Tryz.func96,Tryz.ntmps96
  go_wp2
  go_ret
  exact⟨Z.r_,Z.dr⟩
end Go.Proofs.YtmmfchnbfnegnaaGreatDoor.GK
end
section
namespace Go.Proofs.YtmmfchnbfnegnaaGreatDoor.GK
open Go.RowKit Go.Proofs.YtmmfchnbfnegnaaGreatDoorW.PrintWords Go.Proofs.YtmmfchnbfnegnaaGreatDoorW.PrintLast Go.Proofs.YtmmfchnbfnegnaaGreatDoorW.PrintMore
attribute [local go_sem] max2_int min2_int max_two min_two max_three min_three max_four min_four
set_option linter.unusedVariables false
set_option linter.unusedSimpArgs false
def slices_Equal_uint64_uint64.l0:Nat→List Int→List Int→Int→Int→Option (Bool)
 |0,_,_,_,_=>none
 |k + 1,x0,x1,x12,x13=>if x13 < x12 then (if 0≤x13 then (if x13 < (x0.length:Int) then (if x13 < (x1.length:Int) then (if (rd x0 x13)=(rd x1 x13) then (slices_Equal_uint64_uint64.l0 k x0 x1 x12 (wrap64 (x13 + 1))) else (some false)) else (none)) else (none)) else (none)) else (some true)
def slices_Equal_uint64_uint64.f (k:Nat) (l0:List Int) (l1:List Int):Option (Bool):=if (l0.length:Int)=(l1.length:Int) then (slices_Equal_uint64_uint64.l0 k l0 l1 (l0.length:Int) 0) else (some false)
set_option maxHeartbeats 8000000 in
set_option maxRecDepth 100000 in
theorem slices_Equal_uint64_uint64.calls (k:Nat) (A0:Option Addr) (c0:Nat) (l0:List Int) (A1:Option Addr) (c1:Nat) (l1:List Int) (r:Bool) (w:World) (hr0:Kd.C (Kd.int .u64) w A0 l0.length l0) (hc0:l0.length≤c0) (hr1:Kd.C (Kd.int .u64) w A1 l1.length l1) (hc1:l1.length≤c1) (h:slices_Equal_uint64_uint64.f k l0 l1=some r):
  Calls Tryz.prog 109 #[.slice A0 l0.length c0,.slice A1 l1.length c1] w fun e w'=>e=.returned (.bool r)∧Drawn0 w w':=by
 have HR0:=As hr0
 have HC0:=As hc0
 clear hr0 hc0
 have HR1:=As hr1
 have HC1:=As hc1
 clear hr1 hc1
 have H:(if (l0.length:Int)=(l1.length:Int) then (slices_Equal_uint64_uint64.l0 k l0 l1 (l0.length:Int) 0) else (some false))=some r:=h
 clear h
 by_cases c3:(l0.length:Int)=(l1.length:Int)
 ·rw[if_pos c3] at H
  have c3b0:((l0.length:Int) == (l1.length:Int))=true:=beq_iff_eq.mpr c3
  have c3b1:((l0.length:Int) != (l1.length:Int))=false:=bne_eq_false_iff_eq.mpr c3
  have c3b2:(l0.length == l1.length)=true:=by first|simpa using c3|(simp at c3 ⊢;omega)
  clear c3
  have H':=As H
  clear H
  go_enter Tryz.func109,Tryz.ntmps109
  go_wp2
  repeat (go_quiet (fail);try go_wp2)
  go_loopg [13] k (fun kq v13 w'=>∃(x13_1:Int),v13=.int .i64 x13_1∧Aside0 (slices_Equal_uint64_uint64.l0 kq l0 l1 (l0.length:Int) x13_1=some r)∧Aside0 (kq≤k)∧Drawn0 w w')
  case atStart=>exact⟨(0),Z.r_,H',⟨Nat.le_refl _⟩,Z.dr⟩
  case round=>
   clear H'
   try clear c1
   try clear p2
   try clear c3
   try clear c3b0
   try clear c3b1
   try clear c3b2
   obtain⟨x13_1,rfl,HA,HK1,⟨m1,rfl⟩⟩:=hrel
   cases gk with
   |zero=>exact absurd HA.out (by simp[slices_Equal_uint64_uint64.l0])
   |succ k1=>
    have H:=HA.out
    clear HA
    simp only[slices_Equal_uint64_uint64.l0] at H
    by_cases c4:x13_1 < (l0.length:Int)
    ·rw[if_pos c4] at H
     have c4b0:decide (x13_1 < (l0.length:Int))=true:=decide_eq_true c4
     clear c4
     by_cases c5:0≤x13_1
     ·rw[if_pos c5] at H
      replace c5:=decide_eq_true c5
      by_cases c6:x13_1 < (l0.length:Int)
      ·rw[if_pos c6] at H
       replace c6:=decide_eq_true c6
       by_cases c7:x13_1 < (l1.length:Int)
       ·rw[if_pos c7] at H
        replace c7:=decide_eq_true c7
        by_cases c8:(rd l0 x13_1)=(rd l1 x13_1)
        ·rw[if_pos c8] at H
         have c8b0:((rd l0 x13_1) == (rd l1 x13_1))=true:=beq_iff_eq.mpr c8
         have c8b1:((rd l0 x13_1) != (rd l1 x13_1))=false:=bne_eq_false_iff_eq.mpr c8
         clear c8
         have H':=As H
         clear H
         have p169:0≤(x13_1:Int):=Z.od
         have q169:x13_1 < (l0.length:Int):=Z.od
         obtain⟨ad169,e169,hx169_0⟩:=Kd.at_int HR0.out x13_1 p169 q169
         cases e169
         replace p169:=eq_true p169
         replace q169:=eq_true q169
         have p170:0≤(x13_1:Int):=Z.od
         have q170:x13_1 < (l1.length:Int):=Z.od
         obtain⟨ad170,e170,hx170_0⟩:=Kd.at_int HR1.out x13_1 p170 q170
         cases e170
         replace p170:=eq_true p170
         replace q170:=eq_true q170
         go_wp2
         repeat (go_quiet (fail);try go_wp2)
         go_roundg k1
         case measure=>have:=HK1.out;omega
         case rel=>exact⟨(wrap64 (x13_1 + 1)),Z.r_,H',⟨by have:=HK1.out;omega⟩,Z.dr⟩
        ·rw[if_neg c8] at H
         have c8b0:((rd l0 x13_1) == (rd l1 x13_1))=false:=beq_eq_false_iff_ne.mpr c8
         have c8b1:((rd l0 x13_1) != (rd l1 x13_1))=true:=bne_iff_ne.mpr c8
         obtain rfl:=Option.some.inj H
         have p169:0≤(x13_1:Int):=Z.od
         have q169:x13_1 < (l0.length:Int):=Z.od
         obtain⟨ad169,e169,hx169_0⟩:=Kd.at_int HR0.out x13_1 p169 q169
         cases e169
         replace p169:=eq_true p169
         replace q169:=eq_true q169
         have p170:0≤(x13_1:Int):=Z.od
         have q170:x13_1 < (l1.length:Int):=Z.od
         obtain⟨ad170,e170,hx170_0⟩:=Kd.at_int HR1.out x13_1 p170 q170
         cases e170
         replace p170:=eq_true p170
         replace q170:=eq_true q170
         go_wp2
         repeat (go_quiet (fail);try go_wp2)
         go_ret
         exact⟨Z.r_,Z.dr⟩
       ·rw[if_neg c7] at H
        exact absurd H (by simp)
      ·rw[if_neg c6] at H
       exact absurd H (by simp)
     ·rw[if_neg c5] at H
      exact absurd H (by simp)
    ·rw[if_neg c4] at H
     have c4b0:decide (x13_1 < (l0.length:Int))=false:=decide_eq_false c4
     clear c4
     obtain rfl:=Option.some.inj H
     go_wp2
     repeat (go_quiet (fail);try go_wp2)
     go_ret
     exact⟨Z.r_,Z.dr⟩
 ·rw[if_neg c3] at H
  have c3b0:((l0.length:Int) == (l1.length:Int))=false:=beq_eq_false_iff_ne.mpr c3
  have c3b1:((l0.length:Int) != (l1.length:Int))=true:=bne_iff_ne.mpr c3
  have c3b2:(l0.length == l1.length)=false:=by first|simpa using c3|(simp at c3 ⊢;omega)
  obtain rfl:=Option.some.inj H
  go_enter Tryz.func109,Tryz.ntmps109
  go_wp2
  repeat (go_quiet (fail);try go_wp2)
  go_ret
  exact⟨Z.r_,Z.dr⟩
end Go.Proofs.YtmmfchnbfnegnaaGreatDoor.GK
end
