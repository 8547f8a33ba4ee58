import Derived.Test.YtmmfchnbfnegnaaGreatDoorM04
import Derived.Test.YtmmfchnbfnegnaaGreatDoorM07
import Derived.Test.YtmmfchnbfnegnaaGreatDoorM06
import Derived.Test.YtmmfchnbfnegnaaGreatDoorM03
import Derived.Test.YtmmfchnbfnegnaaGreatDoorM05
import Derived.Test.YtmmfchnbfnegnaaGreatDoorM13
import Derived.Test.YtmmfchnbfnegnaaGreatDoorM12
import Derived.Test.YtmmfchnbfnegnaaGreatDoorM08
section
namespace Go.Proofs.YtmmfchnbfnegnaaGreatDoor.GK
open Go.RowKit Go.Proofs.YtmmfchnbfnegnaaGreatDoorW.PrintWords Go.Proofs.YtmmfchnbfnegnaaGreatDoorW.PrintLast Go.Proofs.YtmmfchnbfnegnaaGreatDoorW.PrintMore
attribute [local go_sem] max2_int min2_int max_two min_two max_three min_three max_four min_four
set_option linter.unusedVariables false
set_option linter.unusedSimpArgs false
mutual
def span_Room.l0:Nat→Int→List (S51)→Int→Int→Option (Int×Int×Int)
 |0,_,_,_,_=>none
 |k + 1,x1,x17,x18,x19=>if x19 < x18 then (if 0≤x19 then (if x19 < (x17.length:Int) then (if ((rd_T51 x17 x19).f2)=x1 then (span_Room.j1 k x1 x19 x17 x18 x19 (!((rd_T51 x17 x19).f5)) ((rd_T51 x17 x19).f0) ((rd_T51 x17 x19).f1) ((rd_T51 x17 x19).f2) ((rd_T51 x17 x19).f3.f0) ((rd_T51 x17 x19).f3.f1) ((rd_T51 x17 x19).f4.f0) ((rd_T51 x17 x19).f4.f1) ((rd_T51 x17 x19).f5)) else (span_Room.j1 k x1 x19 x17 x18 x19 true ((rd_T51 x17 x19).f0) ((rd_T51 x17 x19).f1) ((rd_T51 x17 x19).f2) ((rd_T51 x17 x19).f3.f0) ((rd_T51 x17 x19).f3.f1) ((rd_T51 x17 x19).f4.f0) ((rd_T51 x17 x19).f4.f1) ((rd_T51 x17 x19).f5))) else (none)) else (none)) else (some (0,0,3))
def span_Room.j1:Nat→Int→Int→List (S51)→Int→Int→Bool→Int→Int→Int→Int→List Int→Int→List Int→Bool→Option (Int×Int×Int)
 |0,_,_,_,_,_,_,_,_,_,_,_,_,_,_=>none
 |k + 1,x1,x8,x17,x18,x19,x32,x293000,x293001,x293002,x293003,x293004,x293005,x293006,x293007=>if x32=true then (span_Room.l0 k x1 x17 x18 (wrap64 (x19 + 1))) else ((bits_First.f k x293003 x293004 0 false).bind fun bt293=>(if bt293.2=0 then (some (x8,bt293.1,0)) else (span_Room.l0 k x1 x17 x18 (wrap64 (x19 + 1)))))
end
def span_Room.f (k:Nat) (l0:List (S51)) (a1:Int):Option (Int×Int×Int):=(span_Check.f k l0).bind fun t290=>(if t290=0 then (span_Room.l0 k a1 l0 (l0.length:Int) 0) else (some (0,0,t290)))
set_option maxHeartbeats 8000000 in
set_option maxRecDepth 100000 in
theorem span_Room.calls (k:Nat) (A0:Option Addr) (c0:Nat) (l0:List (S51)) (a1:Int) (r1:Int) (r2:Int) (r3:Int) (w:World) (hr0:Kd.C k51 w A0 l0.length l0) (hc0:l0.length≤c0) (hT:TzOk w) (h:span_Room.f k l0 a1=some (r1,r2,r3)):
  Calls Tryz.prog 25 #[.slice A0 l0.length c0,.int .i64 a1] w fun e w'=>e=.returned (.tuple #[.int .i64 r1,.int .i64 r2,.int .i64 r3])∧Below w.heap.size w w':=by
 have hu51:=Tryz.underlying51
 have hu29:=Tryz.underlying29
 have HR0:=As hr0
 have HC0:=As hc0
 clear hr0 hc0
 have HB:=As (Below.refl w.heap.size w)
 have H:((span_Check.f k l0).bind fun t290=>(if t290=0 then (span_Room.l0 k a1 l0 (l0.length:Int) 0) else (some (0,0,t290))))=some (r1,r2,r3):=h
 clear h
 have HT:=As hT
 clear hT
 replace H:=Option.bind_eq_some_iff.mp H
 obtain⟨t290,A30,H⟩:=H
 replace H:(if t290=0 then (span_Room.l0 k a1 l0 (l0.length:Int) 0) else (some (0,0,t290)))=some (r1,r2,r3):=H
 have A3:=As A30
 clear A30
 by_cases c4:t290=0
 ·rw[if_pos c4] at H
  have c4b0:(t290 == 0)=true:=beq_iff_eq.mpr c4
  have c4b1:(t290 != 0)=false:=bne_eq_false_iff_eq.mpr c4
  clear c4
  have H':=As H
  clear H
  go_enter Tryz.func25,Tryz.ntmps25
  go_wp2_with (first|((with_reducible refine gate_callee (f:=60) rfl ?_);refine Z.gl 13 Tryz.func60 #[.slice A0 l0.length c0] ?_;(with_reducible refine (span_Check.calls k _ _ l0 t290 _ ?side1 ?side2 A3.out).mono ?_);(case side1=>repeat (first|exact HR0.out|(with_reducible refine Kd.C_alloc ?_ _)|(with_reducible refine Kd.C_drewN ?_ _)|(with_reducible refine Kd.C_drew ?_)));(case side2=>exact HC0.out);rintro e w5 ⟨rfl,hb⟩;refine⟨_,rfl,?_⟩;replace HB:=Z.sb hb;(try clear hb);(try clear hb2);(try clear hk);(try clear hi)))
  go_loopg [19] k (fun kq v19 w'=>∃(x19_1:Int),v19=.int .i64 x19_1∧Aside0 (span_Room.l0 kq a1 l0 (l0.length:Int) x19_1=some (r1,r2,r3))∧Aside0 (kq≤k)∧Aside0 (Below w.heap.size w w'))
  case atStart=>exact⟨(0),Z.r_,H',⟨Nat.le_refl _⟩,⟨Z.bl⟩⟩
  case round=>
   clear H'
   try clear c2
   try clear p2
   try clear c4
   try clear c4b0
   try clear c4b1
   obtain⟨x19_1,rfl,HA,HK1,HB⟩:=hrel
   cases gk with
   |zero=>exact absurd HA.out (by simp[span_Room.l0])
   |succ k1=>
    have H:=HA.out
    clear HA
    simp only[span_Room.l0] at H
    by_cases c6:x19_1 < (l0.length:Int)
    ·rw[if_pos c6] at H
     have c6b0:decide (x19_1 < (l0.length:Int))=true:=decide_eq_true c6
     clear c6
     by_cases c7:0≤x19_1
     ·rw[if_pos c7] at H
      have c7b0:decide (0≤x19_1)=true:=decide_eq_true c7
      clear c7
      by_cases c8:x19_1 < (l0.length:Int)
      ·rw[if_pos c8] at H
       have c8b0:decide (x19_1 < (l0.length:Int))=true:=decide_eq_true c8
       clear c8
       have HC9:=As H
       clear H
       have p291:0≤(x19_1:Int):=Z.od
       have q291:x19_1 < (l0.length:Int):=Z.od
       obtain⟨ad291,A291_4,c291_4,A291_6,c291_6,e291,hx291_0,hx291_1,hx291_2,hx291_3,hx291_4,hx291_5,hx291_6,hx291_7,hl291_4,hi291_4,hl291_6,hi291_6⟩:=at_T51 HR0.out x19_1 p291 q291
       cases e291
       replace hx291_0:=Z.kc HB hx291_0
       replace hx291_1:=Z.kc HB hx291_1
       replace hx291_2:=Z.kc HB hx291_2
       replace hx291_3:=Z.kc HB hx291_3
       replace hx291_4:=Z.kc HB hx291_4
       replace hx291_5:=Z.kc HB hx291_5
       replace hx291_6:=Z.kc HB hx291_6
       replace hx291_7:=Z.kc HB hx291_7
       have HR291_4:=As hi291_4
       have HC291_4:=As hl291_4
       clear hi291_4 hl291_4
       have HR291_6:=As hi291_6
       have HC291_6:=As hl291_6
       clear hi291_6 hl291_6
       replace p291:=eq_true p291
       replace q291:=eq_true q291
       go_upto_region 7 with (first|((with_reducible refine gate_dst (N:=9) rfl ?_);refine Z.bx 9 #[.int .i64 0,.int .i64 0,.int .i64 0,.int .i64 0,.slice none 0 0,.int .i64 0,.slice none 0 0,.bool false] 51 fun gb292 hg w10 hbox hb=>?_;have BK292:=As hbox;have GW292:=Z.ge hg;have GE292:=Z.ge hg;replace HB:=Z.sb hb;clear hb hbox hg;have hcz11_0:=Z.c0 BK292.out;have hcz11_1:=Z.c1 BK292.out;have hcz11_2:=Z.c2 BK292.out;have hcz11_3:=Z.c3 BK292.out;have hcz11_4:=Z.c4 BK292.out;have hcz11_5:=Z.c5 BK292.out;have hcz11_6:=Z.c6 BK292.out;have hcz11_7:=Z.c7 BK292.out;have hfz11_0:=blk_frozen BK292.out 0;have hfz11_1:=blk_frozen BK292.out 1;have hfz11_2:=blk_frozen BK292.out 2;have hfz11_3:=blk_frozen BK292.out 3;have hfz11_4:=blk_frozen BK292.out 4;have hfz11_5:=blk_frozen BK292.out 5;have hfz11_6:=blk_frozen BK292.out 6;have hfz11_7:=blk_frozen BK292.out 7))
       (try simp only[Act.put,List.setIfInBounds_toArray,List.set_cons_zero,List.set_cons_succ])
       go_cut [32] (fun v32 wc=>∃(kq:Nat) (x32_8:Bool),v32=.bool x32_8∧Aside0 (span_Room.j1 kq a1 x19_1 l0 (l0.length:Int) x19_1 x32_8 ((rd_T51 l0 x19_1).f0) ((rd_T51 l0 x19_1).f1) ((rd_T51 l0 x19_1).f2) ((rd_T51 l0 x19_1).f3.f0) ((rd_T51 l0 x19_1).f3.f1) ((rd_T51 l0 x19_1).f4.f0) ((rd_T51 l0 x19_1).f4.f1) ((rd_T51 l0 x19_1).f5)=some (r1,r2,r3))∧Aside0 (kq≤k1)∧Aside0 (wc.heap[gb292]? =some (.cells #[.int .i64 ((rd_T51 l0 x19_1).f0),.int .i64 ((rd_T51 l0 x19_1).f1),.int .i64 ((rd_T51 l0 x19_1).f2),.int .i64 ((rd_T51 l0 x19_1).f3.f0),(.slice A291_4 ((rd_T51 l0 x19_1).f3.f1).length c291_4),.int .i64 ((rd_T51 l0 x19_1).f4.f0),(.slice A291_6 ((rd_T51 l0 x19_1).f4.f1).length c291_6),.bool ((rd_T51 l0 x19_1).f5)] 51 (0,0)))∧Aside0 (Below w.heap.size w wc))
       case first=>
        have H:=HC9.out
        clear HC9
        by_cases c12:((rd_T51 l0 x19_1).f2)=a1
        ·rw[if_pos c12] at H
         have c12b0:(((rd_T51 l0 x19_1).f2) == a1)=true:=beq_iff_eq.mpr c12
         have c12b1:(((rd_T51 l0 x19_1).f2) != a1)=false:=bne_eq_false_iff_eq.mpr c12
         clear c12
         (first|rw[c12b0]|(simp only[i64_w,i32_w];rw[c12b0])|skip)
         have H':=As H
         clear H
         have hcz13_0:=Z.c0 BK292.out
         have hcz13_1:=Z.c1 BK292.out
         have hcz13_2:=Z.c2 BK292.out
         have hcz13_3:=Z.c3 BK292.out
         have hcz13_4:=Z.c4 BK292.out
         have hcz13_5:=Z.c5 BK292.out
         have hcz13_6:=Z.c6 BK292.out
         have hcz13_7:=Z.c7 BK292.out
         have hfz13_0:=blk_frozen BK292.out 0
         have hfz13_1:=blk_frozen BK292.out 1
         have hfz13_2:=blk_frozen BK292.out 2
         have hfz13_3:=blk_frozen BK292.out 3
         have hfz13_4:=blk_frozen BK292.out 4
         have hfz13_5:=blk_frozen BK292.out 5
         have hfz13_6:=blk_frozen BK292.out 6
         have hfz13_7:=blk_frozen BK292.out 7
         go_wp2
         go_meet
         case rel=>exact⟨_,(!((rd_T51 l0 x19_1).f5)),Z.r_,H',⟨by have:=HK1.out;first|omega|exact Nat.le_refl _⟩,⟨Z.bs⟩,⟨Z.bl⟩⟩
        ·rw[if_neg c12] at H
         have c12b0:(((rd_T51 l0 x19_1).f2) == a1)=false:=beq_eq_false_iff_ne.mpr c12
         have c12b1:(((rd_T51 l0 x19_1).f2) != a1)=true:=bne_iff_ne.mpr c12
         (first|rw[c12b0]|(simp only[i64_w,i32_w];rw[c12b0])|skip)
         have H':=As H
         clear H
         have hcz14_0:=Z.c0 BK292.out
         have hcz14_1:=Z.c1 BK292.out
         have hcz14_2:=Z.c2 BK292.out
         have hcz14_3:=Z.c3 BK292.out
         have hcz14_4:=Z.c4 BK292.out
         have hcz14_5:=Z.c5 BK292.out
         have hcz14_6:=Z.c6 BK292.out
         have hcz14_7:=Z.c7 BK292.out
         have hfz14_0:=blk_frozen BK292.out 0
         have hfz14_1:=blk_frozen BK292.out 1
         have hfz14_2:=blk_frozen BK292.out 2
         have hfz14_3:=blk_frozen BK292.out 3
         have hfz14_4:=blk_frozen BK292.out 4
         have hfz14_5:=blk_frozen BK292.out 5
         have hfz14_6:=blk_frozen BK292.out 6
         have hfz14_7:=blk_frozen BK292.out 7
         go_wp2
         go_meet
         case rel=>exact⟨_,(true),Z.r_,H',⟨by have:=HK1.out;first|omega|exact Nat.le_refl _⟩,⟨Z.bs⟩,⟨Z.bl⟩⟩
       case rest=>
        clear HC9
        try clear c1
        try clear c2
        try clear p2
        try clear q2
        try clear hx2
        try clear c4
        try clear c4b0
        try clear c4b1
        try clear c6
        try clear c6b0
        try clear c7
        try clear c7b0
        try clear c8
        try clear c8b0
        try clear c12
        try clear c12b0
        try clear c12b1
        try clear hcz11_0
        try clear hcz11_1
        try clear hcz11_2
        try clear hcz11_3
        try clear hcz11_4
        try clear hcz11_5
        try clear hcz11_6
        try clear hcz11_7
        try clear hcz13_0
        try clear hcz13_1
        try clear hcz13_2
        try clear hcz13_3
        try clear hcz13_4
        try clear hcz13_5
        try clear hcz13_6
        try clear hcz13_7
        try clear hcz14_0
        try clear hcz14_1
        try clear hcz14_2
        try clear hcz14_3
        try clear hcz14_4
        try clear hcz14_5
        try clear hcz14_6
        try clear hcz14_7
        try clear hfz11_0
        try clear hfz11_1
        try clear hfz11_2
        try clear hfz11_3
        try clear hfz11_4
        try clear hfz11_5
        try clear hfz11_6
        try clear hfz11_7
        try clear hfz13_0
        try clear hfz13_1
        try clear hfz13_2
        try clear hfz13_3
        try clear hfz13_4
        try clear hfz13_5
        try clear hfz13_6
        try clear hfz13_7
        try clear hfz14_0
        try clear hfz14_1
        try clear hfz14_2
        try clear hfz14_3
        try clear hfz14_4
        try clear hfz14_5
        try clear hfz14_6
        try clear hfz14_7
        try clear hx291_0
        try clear hx291_1
        try clear hx291_2
        try clear hx291_3
        try clear hx291_4
        try clear hx291_5
        try clear hx291_6
        try clear hx291_7
        try clear p2
        try clear p291
        try clear q291
        obtain⟨kq,x32_8,rfl,HA,HJ8,BK292,HB⟩:=hcut
        cases kq with
        |zero=>exact absurd HA.out (by simp[span_Room.j1])
        |succ kj8=>
         have H:=HA.out
         clear HA
         simp only[span_Room.j1] at H
         by_cases c15:x32_8=true
         ·subst c15
          have H1:(span_Room.l0 kj8 a1 l0 (l0.length:Int) (wrap64 (x19_1 + 1)))=some (r1,r2,r3):=by rw[if_pos rfl] at H;exact H
          clear H
          have H:=H1
          clear H1
          have H':=As H
          clear H
          go_wp2
          go_roundg kj8
          case measure=>have:=HK1.out;have:=HJ8.out;omega
          case rel=>exact⟨(wrap64 (x19_1 + 1)),Z.r_,H',⟨by have:=HK1.out;have:=HJ8.out;omega⟩,⟨Z.bl⟩⟩
         ·replace c15:=Bool.eq_false_iff.mpr c15
          subst c15
          have H1:((bits_First.f kj8 ((rd_T51 l0 x19_1).f3.f0) ((rd_T51 l0 x19_1).f3.f1) 0 false).bind fun bt293=>(if bt293.2=0 then (some (x19_1,bt293.1,0)) else (span_Room.l0 kj8 a1 l0 (l0.length:Int) (wrap64 (x19_1 + 1)))))=some (r1,r2,r3):=by rw[if_neg (show ¬(false=true) by decide)] at H;exact H
          clear H
          have H:=H1
          clear H1
          replace H:=Option.bind_eq_some_iff.mp H
          obtain⟨⟨t293,t294⟩,A160,H⟩:=H
          replace H:(if t294=0 then (some (x19_1,t293,0)) else (span_Room.l0 kj8 a1 l0 (l0.length:Int) (wrap64 (x19_1 + 1))))=some (r1,r2,r3):=H
          have A16:=As A160
          clear A160
          by_cases c17:t294=0
          ·rw[if_pos c17] at H
           have c17b0:(t294 == 0)=true:=beq_iff_eq.mpr c17
           have c17b1:(t294 != 0)=false:=bne_eq_false_iff_eq.mpr c17
           clear c17
           simp only[Option.some.injEq,Prod.mk.injEq] at H
           obtain⟨rfl,rfl,rfl⟩:=H
           have hcz18_0:=Z.c0 BK292.out
           have hcz18_1:=Z.c1 BK292.out
           have hcz18_2:=Z.c2 BK292.out
           have hcz18_3:=Z.c3 BK292.out
           have hcz18_4:=Z.c4 BK292.out
           have hcz18_5:=Z.c5 BK292.out
           have hcz18_6:=Z.c6 BK292.out
           have hcz18_7:=Z.c7 BK292.out
           have hfz18_0:=blk_frozen BK292.out 0
           have hfz18_1:=blk_frozen BK292.out 1
           have hfz18_2:=blk_frozen BK292.out 2
           have hfz18_3:=blk_frozen BK292.out 3
           have hfz18_4:=blk_frozen BK292.out 4
           have hfz18_5:=blk_frozen BK292.out 5
           have hfz18_6:=blk_frozen BK292.out 6
           have hfz18_7:=blk_frozen BK292.out 7
           go_wp2_with (first|((with_reducible refine gate_callee (f:=61) rfl ?_);refine Z.gl 36 Tryz.func61 #[.agg #[.int .i64 ((rd_T51 l0 x19_1).f3.f0),.slice A291_4 ((rd_T51 l0 x19_1).f3.f1).length c291_4],.int .i64 0,.bool false] ?_;(with_reducible refine (bits_First.calls kj8 ((rd_T51 l0 x19_1).f3.f0) _ _ ((rd_T51 l0 x19_1).f3.f1) 0 false t293 t294 _ ?side1 ?side2 ?side3 A16.out).mono ?_);(case side1=>repeat (first|exact (Kd.C_below HR291_4.out HB.out)|(with_reducible refine Kd.C_alloc ?_ _)|(with_reducible refine Kd.C_drewN ?_ _)|(with_reducible refine Kd.C_drew ?_)));(case side2=>exact HC291_4.out);(case side3=>exact TzOk.it);rintro e w19 ⟨rfl,hb⟩;refine⟨_,rfl,?_⟩;replace HB:=Z.sb hb;replace BK292:=Z.kb BK292 hb;(try clear hb);(try clear hb2);(try clear hk);(try clear hi)))
           go_ret3
           exact⟨Z.e_,Z.bl⟩
          ·rw[if_neg c17] at H
           have c17b0:(t294 == 0)=false:=beq_eq_false_iff_ne.mpr c17
           have c17b1:(t294 != 0)=true:=bne_iff_ne.mpr c17
           have H':=As H
           clear H
           have hcz20_0:=Z.c0 BK292.out
           have hcz20_1:=Z.c1 BK292.out
           have hcz20_2:=Z.c2 BK292.out
           have hcz20_3:=Z.c3 BK292.out
           have hcz20_4:=Z.c4 BK292.out
           have hcz20_5:=Z.c5 BK292.out
           have hcz20_6:=Z.c6 BK292.out
           have hcz20_7:=Z.c7 BK292.out
           have hfz20_0:=blk_frozen BK292.out 0
           have hfz20_1:=blk_frozen BK292.out 1
           have hfz20_2:=blk_frozen BK292.out 2
           have hfz20_3:=blk_frozen BK292.out 3
           have hfz20_4:=blk_frozen BK292.out 4
           have hfz20_5:=blk_frozen BK292.out 5
           have hfz20_6:=blk_frozen BK292.out 6
           have hfz20_7:=blk_frozen BK292.out 7
           go_wp2_with (first|((with_reducible refine gate_callee (f:=61) rfl ?_);refine Z.gl 36 Tryz.func61 #[.agg #[.int .i64 ((rd_T51 l0 x19_1).f3.f0),.slice A291_4 ((rd_T51 l0 x19_1).f3.f1).length c291_4],.int .i64 0,.bool false] ?_;(with_reducible refine (bits_First.calls kj8 ((rd_T51 l0 x19_1).f3.f0) _ _ ((rd_T51 l0 x19_1).f3.f1) 0 false t293 t294 _ ?side1 ?side2 ?side3 A16.out).mono ?_);(case side1=>repeat (first|exact (Kd.C_below HR291_4.out HB.out)|(with_reducible refine Kd.C_alloc ?_ _)|(with_reducible refine Kd.C_drewN ?_ _)|(with_reducible refine Kd.C_drew ?_)));(case side2=>exact HC291_4.out);(case side3=>exact TzOk.it);rintro e w21 ⟨rfl,hb⟩;refine⟨_,rfl,?_⟩;replace HB:=Z.sb hb;replace BK292:=Z.kb BK292 hb;(try clear hb);(try clear hb2);(try clear hk);(try clear hi)))
           go_roundg kj8
           case measure=>have:=HK1.out;have:=HJ8.out;omega
           case rel=>exact⟨(wrap64 (x19_1 + 1)),Z.r_,H',⟨by have:=HK1.out;have:=HJ8.out;omega⟩,⟨Z.bl⟩⟩
      ·rw[if_neg c8] at H
       exact absurd H (by simp)
     ·rw[if_neg c7] at H
      exact absurd H (by simp)
    ·rw[if_neg c6] at H
     have c6b0:decide (x19_1 < (l0.length:Int))=false:=decide_eq_false c6
     clear c6
     simp only[Option.some.injEq,Prod.mk.injEq] at H
     obtain⟨rfl,rfl,rfl⟩:=H
     go_wp2
     go_ret3
     exact⟨Z.e_,Z.bl⟩
 ·rw[if_neg c4] at H
  have c4b0:(t290 == 0)=false:=beq_eq_false_iff_ne.mpr c4
  have c4b1:(t290 != 0)=true:=bne_iff_ne.mpr c4
  simp only[Option.some.injEq,Prod.mk.injEq] at H
  obtain⟨rfl,rfl,rfl⟩:=H
  go_enter Tryz.func25,Tryz.ntmps25
  go_wp2_with (first|((with_reducible refine gate_callee (f:=60) rfl ?_);refine Z.gl 13 Tryz.func60 #[.slice A0 l0.length c0] ?_;(with_reducible refine (span_Check.calls k _ _ l0 t290 _ ?side1 ?side2 A3.out).mono ?_);(case side1=>repeat (first|exact HR0.out|(with_reducible refine Kd.C_alloc ?_ _)|(with_reducible refine Kd.C_drewN ?_ _)|(with_reducible refine Kd.C_drew ?_)));(case side2=>exact HC0.out);rintro e w22 ⟨rfl,hb⟩;refine⟨_,rfl,?_⟩;replace HB:=Z.sb hb;(try clear hb);(try clear hb2);(try clear hk);(try clear hi)))
  go_ret3
  exact⟨Z.e_,Z.bl⟩
end Go.Proofs.YtmmfchnbfnegnaaGreatDoor.GK
end
section
namespace Go.Proofs.YtmmfchnbfnegnaaGreatDoor.GK
open Go.RowKit Go.Proofs.YtmmfchnbfnegnaaGreatDoorW.PrintWords Go.Proofs.YtmmfchnbfnegnaaGreatDoorW.PrintLast Go.Proofs.YtmmfchnbfnegnaaGreatDoorW.PrintMore
attribute [local go_sem] max2_int min2_int max_two min_two max_three min_three max_four min_four
set_option linter.unusedVariables false
set_option linter.unusedSimpArgs false
def span_Make.f (k:Nat) (a0:Int) (a1:Int) (a2:Int):Option (Int×Int×Int×Int×List Int×Int×List Int×Bool×Int):=(span_shaped.f a1 a2).bind fun t296=>(if t296=true then ((span_slots.f a2).bind fun t297=>((bits_Make.f t297).bind fun bt298=>((bits_Own.f bt298.1 bt298.2.1).bind fun bt304=>((span_right.f k a0 a1 a2 bt298.1 bt298.2.1 bt304.1 bt304.2 true).bind fun t309=>(if t309=true then (some (a0,a1,a2,bt298.1,bt298.2.1,bt304.1,bt304.2,true,0)) else (some (0,0,0,0,([]:List Int),0,([]:List Int),false,2))))))) else (some (0,0,0,0,([]:List Int),0,([]:List Int),false,2)))
def span_Make.T4:Bool×List (List Nat×List Nat):=(true,[([],[]),([],[]),([],[]),([],[]),([],[]),([4],[4]),([0,1,2,3,5],[0,1,2,3,5]),([],[]),([7,6,5,0,1,2,3,4,5,6,7],[6,7])])
def span_Make.B4:List Nat:=[0,0,0,0,0,16,63,0,255]
theorem span_Make.tab4:rtab .any (opsOf Tryz.f62 4)=span_Make.T4:=by kernel_rfl
theorem span_Make.bits4:waitsOk span_Make.T4.2 span_Make.B4=true:=by kernel_rfl
set_option maxHeartbeats 8000000 in
set_option maxRecDepth 100000 in
theorem span_Make.calls (k:Nat) (a0:Int) (a1:Int) (a2:Int) (r1:Int) (r2:Int) (r3:Int) (r4:Int) (r5:List Int) (r6:Int) (r7:List Int) (r8:Bool) (r9:Int) (w:World) (h:span_Make.f k a0 a1 a2=some (r1,r2,r3,r4,r5,r6,r7,r8,r9)):
  Calls Tryz.prog 62 #[.int .i64 a0,.int .i64 a1,.int .i64 a2] w fun e w'=>∃v4_ v6_:Value,e=.returned (.tuple #[.agg #[.int .i64 r1,.int .i64 r2,.int .i64 r3,.int .i64 r4,v4_,.int .i64 r6,v6_,.bool r8],.int .i64 r9])∧Kd.R (Kd.int .u64) 39 w' w.heap.size (fun k_=>some k_≠(v6_:Value).ownBlock) v4_ r5∧Kd.R (Kd.int .u64) 39 w' w.heap.size (fun k_=>some k_≠(v4_:Value).ownBlock) v6_ r7∧Below w.heap.size w w':=by
 have hu51:=Tryz.underlying51
 have hu29:=Tryz.underlying29
 have HB:=As (Below.refl w.heap.size w)
 have H:((span_shaped.f a1 a2).bind fun t296=>(if t296=true then ((span_slots.f a2).bind fun t297=>((bits_Make.f t297).bind fun bt298=>((bits_Own.f bt298.1 bt298.2.1).bind fun bt304=>((span_right.f k a0 a1 a2 bt298.1 bt298.2.1 bt304.1 bt304.2 true).bind fun t309=>(if t309=true then (some (a0,a1,a2,bt298.1,bt298.2.1,bt304.1,bt304.2,true,0)) else (some (0,0,0,0,([]:List Int),0,([]:List Int),false,2))))))) else (some (0,0,0,0,([]:List Int),0,([]:List Int),false,2))))=some (r1,r2,r3,r4,r5,r6,r7,r8,r9):=h
 clear h
 replace H:=Option.bind_eq_some_iff.mp H
 obtain⟨t296,A40,H⟩:=H
 replace H:(if t296=true then ((span_slots.f a2).bind fun t297=>((bits_Make.f t297).bind fun bt298=>((bits_Own.f bt298.1 bt298.2.1).bind fun bt304=>((span_right.f k a0 a1 a2 bt298.1 bt298.2.1 bt304.1 bt304.2 true).bind fun t309=>(if t309=true then (some (a0,a1,a2,bt298.1,bt298.2.1,bt304.1,bt304.2,true,0)) else (some (0,0,0,0,([]:List Int),0,([]:List Int),false,2))))))) else (some (0,0,0,0,([]:List Int),0,([]:List Int),false,2)))=some (r1,r2,r3,r4,r5,r6,r7,r8,r9):=H
 have A4:=As A40
 clear A40
 by_cases c5:t296=true
 ·subst c5
  have H1:((span_slots.f a2).bind fun t297=>((bits_Make.f t297).bind fun bt298=>((bits_Own.f bt298.1 bt298.2.1).bind fun bt304=>((span_right.f k a0 a1 a2 bt298.1 bt298.2.1 bt304.1 bt304.2 true).bind fun t309=>(if t309=true then (some (a0,a1,a2,bt298.1,bt298.2.1,bt304.1,bt304.2,true,0)) else (some (0,0,0,0,([]:List Int),0,([]:List Int),false,2)))))))=some (r1,r2,r3,r4,r5,r6,r7,r8,r9):=by rw[if_pos rfl] at H;exact H
  clear H
  have H:=H1
  clear H1
  replace H:=Option.bind_eq_some_iff.mp H
  obtain⟨t297,A60,H⟩:=H
  replace H:((bits_Make.f t297).bind fun bt298=>((bits_Own.f bt298.1 bt298.2.1).bind fun bt304=>((span_right.f k a0 a1 a2 bt298.1 bt298.2.1 bt304.1 bt304.2 true).bind fun t309=>(if t309=true then (some (a0,a1,a2,bt298.1,bt298.2.1,bt304.1,bt304.2,true,0)) else (some (0,0,0,0,([]:List Int),0,([]:List Int),false,2))))))=some (r1,r2,r3,r4,r5,r6,r7,r8,r9):=H
  have A6:=As A60
  clear A60
  replace H:=Option.bind_eq_some_iff.mp H
  obtain⟨⟨t298,t299,t302⟩,A70,H⟩:=H
  replace H:((bits_Own.f t298 t299).bind fun bt304=>((span_right.f k a0 a1 a2 t298 t299 bt304.1 bt304.2 true).bind fun t309=>(if t309=true then (some (a0,a1,a2,t298,t299,bt304.1,bt304.2,true,0)) else (some (0,0,0,0,([]:List Int),0,([]:List Int),false,2)))))=some (r1,r2,r3,r4,r5,r6,r7,r8,r9):=H
  have A7:=As A70
  clear A70
  replace H:=Option.bind_eq_some_iff.mp H
  obtain⟨⟨t304,t305⟩,A80,H⟩:=H
  replace H:((span_right.f k a0 a1 a2 t298 t299 t304 t305 true).bind fun t309=>(if t309=true then (some (a0,a1,a2,t298,t299,t304,t305,true,0)) else (some (0,0,0,0,([]:List Int),0,([]:List Int),false,2))))=some (r1,r2,r3,r4,r5,r6,r7,r8,r9):=H
  have A8:=As A80
  clear A80
  replace H:=Option.bind_eq_some_iff.mp H
  obtain⟨t309,A90,H⟩:=H
  replace H:(if t309=true then (some (a0,a1,a2,t298,t299,t304,t305,true,0)) else (some (0,0,0,0,([]:List Int),0,([]:List Int),false,2)))=some (r1,r2,r3,r4,r5,r6,r7,r8,r9):=H
  have A9:=As A90
  clear A90
  by_cases c10:t309=true
  ·subst c10
   have H1:(some (a0,a1,a2,t298,t299,t304,t305,true,0))=some (r1,r2,r3,r4,r5,r6,r7,r8,r9):=by rw[if_pos rfl] at H;exact H
   clear H
   have H:=H1
   clear H1
   simp only[Option.some.injEq,Prod.mk.injEq] at H
   obtain⟨rfl,rfl,rfl,rfl,rfl,rfl,rfl,rfl,rfl⟩:=H
   go_enter Tryz.func62,Tryz.ntmps62
   try go_wp2_with (first|((with_reducible refine gate_dst (N:=6) rfl ?_);refine Z.bx 6 #[.int .i64 0,.int .i64 0,.int .i64 0,.int .i64 0,.slice none 0 0,.int .i64 0,.slice none 0 0,.bool false] 51 fun gb295 hg w11 hbox hb=>?_;have BK295:=As hbox;have GW295:=Z.ge hg;have GE295:=Z.ge hg;replace HB:=Z.sb hb;clear hb hbox hg)|((with_reducible refine gate_callee (f:=95) rfl ?_);refine Z.gl 13 Tryz.func95 #[.int .i64 a1,.int .i64 a2] ?_;(with_reducible refine (span_shaped.calls a1 a2 true _ A4.out).mono ?_);rintro e w' ⟨rfl,⟨nd,rfl⟩⟩;refine⟨_,rfl,?_⟩;(try (rw[drewN_self w11];generalize hq_:World.drewN w11 _=w11;have n0_:Aside0 (w11.heap[gb295]? =some (.cells #[.int .i64 0,.int .i64 0,.int .i64 0,.int .i64 0,.slice none 0 0,.int .i64 0,.slice none 0 0,.bool false] 51 (0,0))):=⟨by rw[←hq_];exact Z.bk⟩;have n1_:Aside0 (Below w.heap.size w w11):=⟨by rw[←hq_];exact Z.bl⟩;clear BK295 HB hq_;have BK295:=n0_;have HB:=n1_;clear n0_ n1_)))|((with_reducible refine gate_callee (f:=96) rfl ?_);refine Z.gl 18 Tryz.func96 #[.int .i64 a2] ?_;(with_reducible refine (span_slots.calls a2 t297 _ A6.out).mono ?_);rintro e w' ⟨rfl,⟨nd,rfl⟩⟩;refine⟨_,rfl,?_⟩;(try (rw[drewN_self w11];generalize hq_:World.drewN w11 _=w11;have n0_:Aside0 (w11.heap[gb295]? =some (.cells #[.int .i64 0,.int .i64 0,.int .i64 0,.int .i64 0,.slice none 0 0,.int .i64 0,.slice none 0 0,.bool false] 51 (0,0))):=⟨by rw[←hq_];exact Z.bk⟩;have n1_:Aside0 (Below w.heap.size w w11):=⟨by rw[←hq_];exact Z.bl⟩;clear BK295 HB hq_;have BK295:=n0_;have HB:=n1_;clear n0_ n1_)))|((with_reducible refine gate_callee (f:=16) rfl ?_);refine Z.gl 19 Tryz.func16 #[.int .i64 t297] ?_;(with_reducible refine (bits_Make.calls t297 t298 t299 t302 _ A7.out).mono ?_);rintro e w12 ⟨v300,rfl,ho0,hb⟩;refine⟨_,rfl,?_⟩;have HO301:=As (Kd.R_lower ho0 (below_size Z.bl));replace HB:=Z.sb hb;replace BK295:=Z.kb BK295 hb;(try clear hb);(try clear hb2);(try clear hk);(try clear hi);(try clear ho0))|((with_reducible refine gate_dst (N:=8) rfl ?_);refine Z.bx 8 #[.int .i64 0,.slice none 0 0] 29 fun gb303 hg w13 hbox hb=>?_;have BK303:=As hbox;have GW303:=Z.ge hg;have GE303:=Z.ge hg;have NB295_303:=Z.nl BK295 hg;have NB303_295:=Z.ng BK295 hg;replace HO301:=As (Kd.R_below (by (with_reducible repeat (first|apply Kd.R_alloc|apply Kd.R_drewN|apply Kd.R_drew));exact HO301.out) hb);replace HB:=Z.sb hb;replace BK295:=Z.kb BK295 hb;clear hb hbox hg;have hnb14:=NB303_295.out;have hnc14:=NB295_303.out;have hcz15_0:=Z.c0 BK303.out;have hcz15_1:=Z.c1 BK303.out;have hfz15_0:=blk_frozen BK303.out 0;have hfz15_1:=blk_frozen BK303.out 1;obtain⟨Ao16,co16,eo16⟩:=Kd.R_slice HO301.out;subst eo16))
   have n0_:Aside0 (Kd.R (Kd.int .u64) 39 ((w13.setCell ⟨gb303,0,none⟩ (.int .i64 t298)).setCell ⟨gb303,1,none⟩ (.slice Ao16 t299.length co16)) w.heap.size (fun _=>True) (.slice Ao16 t299.length co16) t299):=⟨by (with_reducible repeat (first|apply Kd.R_alloc|apply Kd.R_drewN|apply Kd.R_drew));exact Kd.R_mono (Kd.R_far (p:=⟨gb303,1,none⟩) (Kd.R_far (p:=⟨gb303,0,none⟩) (Kd.R_types HO301.out BK303.out (by decide)) (fun _ hk=>hk.2) (.int .i64 t298)) (fun _ hk=>hk.2) (.slice Ao16 t299.length co16)) (fun _ hk=>trivial)⟩
   have n1_:Aside0 (((w13.setCell ⟨gb303,0,none⟩ (.int .i64 t298)).setCell ⟨gb303,1,none⟩ (.slice Ao16 t299.length co16)).heap[gb295]? =some (.cells #[.int .i64 0,.int .i64 0,.int .i64 0,.int .i64 0,.slice none 0 0,.int .i64 0,.slice none 0 0,.bool false] 51 (0,0))):=⟨Z.bs⟩
   have n2_:Aside0 (((w13.setCell ⟨gb303,0,none⟩ (.int .i64 t298)).setCell ⟨gb303,1,none⟩ (.slice Ao16 t299.length co16)).heap[gb303]? =some (.cells #[.int .i64 t298,.slice Ao16 t299.length co16] 29 (0,0))):=⟨Z.bs⟩
   have n3_:Aside0 (Below w.heap.size w ((w13.setCell ⟨gb303,0,none⟩ (.int .i64 t298)).setCell ⟨gb303,1,none⟩ (.slice Ao16 t299.length co16))):=⟨Z.bl⟩
   (try clear HO301)
   (try clear BK295)
   (try clear BK303)
   (try clear HB)
   generalize ((w13.setCell ⟨gb303,0,none⟩ (.int .i64 t298)).setCell ⟨gb303,1,none⟩ (.slice Ao16 t299.length co16))=w17 at n0_ n1_ n2_ n3_ ⊢
   have HO301:=n0_
   have BK295:=n1_
   have BK303:=n2_
   have HB:=n3_
   clear n0_ n1_ n2_ n3_
   replace HO301:=As (Kd.R_drew HO301.out)
   replace BK295:=As (blk_drew BK295.out)
   replace BK303:=As (blk_drew BK303.out)
   replace HB:=As (below_drew1 HB.out)
   refine start_ (n:=9) (S:=fun w'=>w'.cell? ⟨gb303,0,none⟩=some (.int .i64 t298)∧w'.cell? ⟨gb303,1,none⟩=some (.slice Ao16 t299.length co16)) (ds:=[]) #[false,false,false,false,false,false,false,false,false] (by kernel_rfl) rfl rfl ⟨(blk_cell BK303.out 0).trans rfl,(blk_cell BK303.out 1).trans rfl⟩ (fun hHeld=>?_);refine with_tabW span_Make.tab4 span_Make.bits4 (fun HT_ HW_=>?_)
   generalize w17.drew=w18 at HO301 BK295 BK303 HB hHeld ⊢
   refine Z.q_ 0 22 HT_ ?_
   refine Z.q_ 1 23 HT_ ?_
   refine Z.q_ 2 24 HT_ ?_
   refine Z.u_ 3 25 HT_ HW_ hHeld ?_
   refine Z.u_ 4 26 HT_ HW_ hHeld ?_
   refine join_ (σ:=Value×Nat) 1 #[true,true,true,true,true,true,true,true,false] (fun s_=>[(27,.agg #[.int .i64 t304,s_.1]),(10,.pointer (some ⟨s_.2,0,none⟩)),(28,.agg #[.int .i64 a0,.int .i64 a1,.int .i64 a2,.int .i64 t298,.slice Ao16 t299.length co16,.int .i64 t304,s_.1,.bool true])]) (fun s_ w'=>(w'.cell? ⟨gb303,0,none⟩=some (.int .i64 t298)∧w'.cell? ⟨gb303,1,none⟩=some (.slice Ao16 t299.length co16))∧(Kd.R (Kd.int .u64) 39 w' w.heap.size (fun k_=>some k_≠(s_.1:Value).ownBlock) (.slice Ao16 t299.length co16) t299)∧(Kd.R (Kd.int .u64) 39 w' w.heap.size (fun k_=>some k_≠(.slice Ao16 t299.length co16:Value).ownBlock) s_.1 t305)∧(w'.heap[gb295]? =some (.cells #[.int .i64 0,.int .i64 0,.int .i64 0,.int .i64 0,.slice none 0 0,.int .i64 0,.slice none 0 0,.bool false] 51 (0,0)))∧(w'.heap[gb303]? =some (.cells #[.int .i64 t298,.slice Ao16 t299.length co16] 29 (0,0)))∧(w'.heap[s_.2]? =some (.cells #[.int .i64 0,.int .i64 0,.int .i64 0,.int .i64 0,.slice none 0 0,.int .i64 0,.slice none 0 0,.bool false] 51 (0,0)))∧(w.heap.size≤s_.2)∧(w.heap.size≤s_.2)∧(gb295≠s_.2)∧(s_.2≠gb295)∧(gb303≠s_.2)∧(s_.2≠gb303)∧(Below w.heap.size w w')) ?_ ?_
   rotate_left
   ·intro hCont
    refine two_ (i:=5) (j:=7) (Ni:=some 27) (Nj:=some 10) #[true,true,true,true,true,true,false,false,false] #[true,true,true,true,true,false,false,true,false] rfl rfl rfl rfl (two_of HT_.out (by kernel_rfl)) (by decide) (by decide) (fun K hK=>?_) (fun K hK=>?_)
    ·skip
     refine goes_ Tryz.func48 (by kernel_rfl) rfl #[.agg #[.int .i64 t298,.slice Ao16 t299.length co16]] (by rfl) rfl rfl (by (try simp only[List.map_toArray,List.map_cons,List.map_nil]);first|done|rfl|(simp only[List.length_drop,List.length_take];rfl)) ?_
     with_reducible refine (bits_Own.calls t298 _ _ t299 t304 t305 _ ?side1 ?side2 A8.out).mono ?_
     (case side1=>repeat (first|exact (Kd.R_reads' HO301.out).2.2|(with_reducible refine Kd.C_alloc ?_ _)|(with_reducible refine Kd.C_drewN ?_ _)|(with_reducible refine Kd.C_drew ?_)))
     (case side2=>exact (Kd.R_reads' HO301.out).2.1)
     rintro e w19 ⟨v306,rfl,ho0,hb⟩
     refine⟨_,rfl,?_⟩
     have n0_:=As (Kd.R_elder' (by (with_reducible repeat (first|apply Kd.R_alloc|apply Kd.R_drewN|apply Kd.R_drew));exact HO301.out) (Kd.R_base ho0) hb)
     have n1_:=As (Kd.R_lower (Kd.R_new' ho0 (Kd.R_lt (by (with_reducible repeat (first|apply Kd.R_alloc|apply Kd.R_drewN|apply Kd.R_drew));exact HO301.out))) (below_size Z.bl))
     have n2_:=Z.kb BK295 hb
     have n3_:=Z.kb BK303 hb
     have n4_:=Z.sb hb
     clear HO301
     clear BK295
     clear BK303
     clear HB
     have HO301:=n0_
     have HO307:=n1_
     have BK295:=n2_
     have BK303:=n3_
     have HB:=n4_
     clear n0_ n1_ n2_ n3_ n4_
     (try clear hb)
     (try clear hb2)
     (try clear hk)
     (try clear hi)
     (try clear ho0)
     obtain⟨Ao20,co20,eo20⟩:=Kd.R_slice HO307.out
     (first|subst eo20|(injection eo20 with f1_ f2_ f3_;have f4_:=f1_.symm;have f5_:=f3_.symm;clear f1_ f2_ f3_;subst f4_;subst f5_))
     refine hK.out _ _ ⟨(blk_cell BK303.out 0).trans rfl,(blk_cell BK303.out 1).trans rfl⟩ (fun hHeld=>?_)
     clear hK K
     refine Z.n_ 27 ?_
     refine Z.q_ 6 28 HT_ ?_
     refine one_ (i:=7) (N:=some 10) #[true,true,true,true,true,true,true,true,false] rfl rfl (one_of HT_.out (by kernel_rfl)) (by decide) (fun K hK=>?_)
     refine box_step ?hg (N:=10) ?hd (cs:=#[.int .i64 0,.int .i64 0,.int .i64 0,.int .i64 0,.slice none 0 0,.int .i64 0,.slice none 0 0,.bool false]) (t:=51) ?hr ?_;(case hd=>rfl);(case hg=>rfl);(case hr=>first|(go_simp;done)|(go_simp;rfl))
     intro gb308 hg w21 hbox hb
     have n0_:=As (Kd.R_below (by (with_reducible repeat (first|apply Kd.R_alloc|apply Kd.R_drewN|apply Kd.R_drew));exact HO301.out) hb)
     have n1_:=As (Kd.R_below (by (with_reducible repeat (first|apply Kd.R_alloc|apply Kd.R_drewN|apply Kd.R_drew));exact HO307.out) hb)
     have n2_:=Z.kb BK295 hb
     have n3_:=Z.kb BK303 hb
     have n4_:=Z.sb hb
     have n5_:=As (hbox)
     have n6_:=Z.ge hg
     have n7_:=Z.ge hg
     have n8_:=Z.nl BK295 hg
     have n9_:=Z.ng BK295 hg
     have n10_:=Z.nl BK303 hg
     have n11_:=Z.ng BK303 hg
     clear HO301
     clear HO307
     clear BK295
     clear BK303
     clear HB
     have HO301:=n0_
     have HO307:=n1_
     have BK295:=n2_
     have BK303:=n3_
     have HB:=n4_
     have BK308:=n5_
     have GW308:=n6_
     have GE308:=n7_
     have NB295_308:=n8_
     have NB308_295:=n9_
     have NB303_308:=n10_
     have NB308_303:=n11_
     clear n0_ n1_ n2_ n3_ n4_ n5_ n6_ n7_ n8_ n9_ n10_ n11_
     clear hb hbox hg
     refine hK.out _ _ ⟨(blk_cell BK303.out 0).trans rfl,(blk_cell BK303.out 1).trans rfl⟩ (fun hHeld=>?_)
     clear hK K
     refine Z.n_ 10 ?_
     exact norm_ (by simp only[putAll,Act.put,List.setIfInBounds_toArray,List.set_cons_zero,List.set_cons_succ]) (hCont (.slice Ao20 t305.length co20,gb308) _ ⟨hHeld,(by (with_reducible repeat (first|apply Kd.R_alloc|apply Kd.R_drewN|apply Kd.R_drew));exact Kd.R_mono HO301.out (fun _ hk=>hk.2)),(by (with_reducible repeat (first|apply Kd.R_alloc|apply Kd.R_drewN|apply Kd.R_drew));exact Kd.R_mono HO307.out (fun _ hk=>hk.2)),Z.bk,Z.bk,Z.bk,GW308.out,GE308.out,NB295_308.out,NB308_295.out,NB303_308.out,NB308_303.out,Z.bl⟩)
    ·skip
     refine box_step ?hg (N:=10) ?hd (cs:=#[.int .i64 0,.int .i64 0,.int .i64 0,.int .i64 0,.slice none 0 0,.int .i64 0,.slice none 0 0,.bool false]) (t:=51) ?hr ?_;(case hd=>rfl);(case hg=>rfl);(case hr=>first|(go_simp;done)|(go_simp;rfl))
     intro gb308 hg w19 hbox hb
     have n0_:=As (Kd.R_below (by (with_reducible repeat (first|apply Kd.R_alloc|apply Kd.R_drewN|apply Kd.R_drew));exact HO301.out) hb)
     have n1_:=Z.kb BK295 hb
     have n2_:=Z.kb BK303 hb
     have n3_:=Z.sb hb
     have n4_:=As (hbox)
     have n5_:=Z.ge hg
     have n6_:=Z.ge hg
     have n7_:=Z.nl BK295 hg
     have n8_:=Z.ng BK295 hg
     have n9_:=Z.nl BK303 hg
     have n10_:=Z.ng BK303 hg
     clear HO301
     clear BK295
     clear BK303
     clear HB
     have HO301:=n0_
     have BK295:=n1_
     have BK303:=n2_
     have HB:=n3_
     have BK308:=n4_
     have GW308:=n5_
     have GE308:=n6_
     have NB295_308:=n7_
     have NB308_295:=n8_
     have NB303_308:=n9_
     have NB308_303:=n10_
     clear n0_ n1_ n2_ n3_ n4_ n5_ n6_ n7_ n8_ n9_ n10_
     clear hb hbox hg
     refine hK.out _ _ ⟨(blk_cell BK303.out 0).trans rfl,(blk_cell BK303.out 1).trans rfl⟩ (fun hHeld=>?_)
     clear hK K
     refine Z.n_ 10 ?_
     refine one_ (i:=5) (N:=some 27) #[true,true,true,true,true,true,false,true,false] rfl rfl (one_of HT_.out (by kernel_rfl)) (by decide) (fun K hK=>?_)
     refine goes_ Tryz.func48 (by kernel_rfl) rfl #[.agg #[.int .i64 t298,.slice Ao16 t299.length co16]] (by rfl) rfl rfl (by (try simp only[List.map_toArray,List.map_cons,List.map_nil]);first|done|rfl|(simp only[List.length_drop,List.length_take];rfl)) ?_
     with_reducible refine (bits_Own.calls t298 _ _ t299 t304 t305 _ ?side1 ?side2 A8.out).mono ?_
     (case side1=>repeat (first|exact (Kd.R_reads' HO301.out).2.2|(with_reducible refine Kd.C_alloc ?_ _)|(with_reducible refine Kd.C_drewN ?_ _)|(with_reducible refine Kd.C_drew ?_)))
     (case side2=>exact (Kd.R_reads' HO301.out).2.1)
     rintro e w20 ⟨v306,rfl,ho0,hb⟩
     refine⟨_,rfl,?_⟩
     have n0_:=As (Kd.R_elder' (by (with_reducible repeat (first|apply Kd.R_alloc|apply Kd.R_drewN|apply Kd.R_drew));exact HO301.out) (Kd.R_base ho0) hb)
     have n1_:=As (Kd.R_lower (Kd.R_new' ho0 (Kd.R_lt (by (with_reducible repeat (first|apply Kd.R_alloc|apply Kd.R_drewN|apply Kd.R_drew));exact HO301.out))) (below_size Z.bl))
     have n2_:=Z.kb BK295 hb
     have n3_:=Z.kb BK303 hb
     have n4_:=Z.kb BK308 hb
     have n5_:=Z.sb hb
     clear HO301
     clear BK295
     clear BK303
     clear BK308
     clear HB
     have HO301:=n0_
     have HO307:=n1_
     have BK295:=n2_
     have BK303:=n3_
     have BK308:=n4_
     have HB:=n5_
     clear n0_ n1_ n2_ n3_ n4_ n5_
     (try clear hb)
     (try clear hb2)
     (try clear hk)
     (try clear hi)
     (try clear ho0)
     obtain⟨Ao21,co21,eo21⟩:=Kd.R_slice HO307.out
     (first|subst eo21|(injection eo21 with f1_ f2_ f3_;have f4_:=f1_.symm;have f5_:=f3_.symm;clear f1_ f2_ f3_;subst f4_;subst f5_))
     refine hK.out _ _ ⟨(blk_cell BK303.out 0).trans rfl,(blk_cell BK303.out 1).trans rfl⟩ (fun hHeld=>?_)
     clear hK K
     refine Z.n_ 27 ?_
     refine Z.q_ 6 28 HT_ ?_
     exact norm_ (by simp only[putAll,Act.put,List.setIfInBounds_toArray,List.set_cons_zero,List.set_cons_succ]) (hCont (.slice Ao21 t305.length co21,gb308) _ ⟨hHeld,(by (with_reducible repeat (first|apply Kd.R_alloc|apply Kd.R_drewN|apply Kd.R_drew));exact Kd.R_mono HO301.out (fun _ hk=>hk.2)),(by (with_reducible repeat (first|apply Kd.R_alloc|apply Kd.R_drewN|apply Kd.R_drew));exact Kd.R_mono HO307.out (fun _ hk=>hk.2)),Z.bk,Z.bk,Z.bk,GW308.out,GE308.out,NB295_308.out,NB308_295.out,NB303_308.out,NB308_303.out,Z.bl⟩)
   rintro⟨v306,gb308⟩ w22 ⟨hS_,h0_,h1_,h2_,h3_,h4_,h5_,h6_,h7_,h8_,h9_,h10_,h11_⟩
   have n0_:Aside0 (Kd.R (Kd.int .u64) 39 w22 w.heap.size (fun k_=>some k_≠(v306:Value).ownBlock) (.slice Ao16 t299.length co16) t299):=⟨h0_⟩
   have n1_:Aside0 (Kd.R (Kd.int .u64) 39 w22 w.heap.size (fun k_=>some k_≠(.slice Ao16 t299.length co16:Value).ownBlock) v306 t305):=⟨h1_⟩
   have n2_:Aside0 (w22.heap[gb295]? =some (.cells #[.int .i64 0,.int .i64 0,.int .i64 0,.int .i64 0,.slice none 0 0,.int .i64 0,.slice none 0 0,.bool false] 51 (0,0))):=⟨h2_⟩
   have n3_:Aside0 (w22.heap[gb303]? =some (.cells #[.int .i64 t298,.slice Ao16 t299.length co16] 29 (0,0))):=⟨h3_⟩
   have n4_:Aside0 (w22.heap[gb308]? =some (.cells #[.int .i64 0,.int .i64 0,.int .i64 0,.int .i64 0,.slice none 0 0,.int .i64 0,.slice none 0 0,.bool false] 51 (0,0))):=⟨h4_⟩
   have n5_:Aside0 (w.heap.size≤gb308):=⟨h5_⟩
   have n6_:Aside0 (w.heap.size≤gb308):=⟨h6_⟩
   have n7_:Aside0 (gb295≠gb308):=⟨h7_⟩
   have n8_:Aside0 (gb308≠gb295):=⟨h8_⟩
   have n9_:Aside0 (gb303≠gb308):=⟨h9_⟩
   have n10_:Aside0 (gb308≠gb303):=⟨h10_⟩
   have n11_:Aside0 (Below w.heap.size w w22):=⟨h11_⟩
   clear HO301
   clear BK295
   clear BK303
   clear HB
   clear h0_ h1_ h2_ h3_ h4_ h5_ h6_ h7_ h8_ h9_ h10_ h11_
   have HO301:=n0_
   have HO307:=n1_
   have BK295:=n2_
   have BK303:=n3_
   have BK308:=n4_
   have GW308:=n5_
   have GE308:=n6_
   have NB295_308:=n7_
   have NB308_295:=n8_
   have NB303_308:=n9_
   have NB308_303:=n10_
   have HB:=n11_
   clear n0_ n1_ n2_ n3_ n4_ n5_ n6_ n7_ n8_ n9_ n10_ n11_
   have hHeld:w22.cell? ⟨gb303,0,none⟩=some (.int .i64 t298)∧w22.cell? ⟨gb303,1,none⟩=some (.slice Ao16 t299.length co16):=hS_
   obtain⟨Ao23,co23,eo23⟩:=Kd.R_slice HO307.out
   (first|subst eo23|(injection eo23 with f1_ f2_ f3_;have f4_:=f1_.symm;have f5_:=f3_.symm;clear f1_ f2_ f3_;subst f4_;subst f5_))
   refine norm_ (a':=?_) ?_ ?_
   rotate_left
   ·simp only[putAll,Act.put,List.setIfInBounds_toArray,List.set_cons_zero,List.set_cons_succ]
    rfl
   refine one_ (i:=8) (N:=none) #[true,true,true,true,true,true,true,true,true] rfl rfl (one_of HT_.out (by kernel_rfl)) (by decide) (fun K hK=>?_)
   have hs24:=Z.c0 BK308.out
   have hfs24:=blk_frozen BK308.out 0
   have hns24_0:=NB295_308.out
   have hns24_1:=NB303_308.out
   have hms24_0:=NB308_295.out
   have hms24_1:=NB308_303.out
   have hs25:=Z.c1 BK308.out
   have hfs25:=blk_frozen BK308.out 1
   have hns25_0:=NB295_308.out
   have hns25_1:=NB303_308.out
   have hms25_0:=NB308_295.out
   have hms25_1:=NB308_303.out
   have hs26:=Z.c2 BK308.out
   have hfs26:=blk_frozen BK308.out 2
   have hns26_0:=NB295_308.out
   have hns26_1:=NB303_308.out
   have hms26_0:=NB308_295.out
   have hms26_1:=NB308_303.out
   have hs27:=Z.c3 BK308.out
   have hfs27:=blk_frozen BK308.out 3
   have hns27_0:=NB295_308.out
   have hns27_1:=NB303_308.out
   have hms27_0:=NB308_295.out
   have hms27_1:=NB308_303.out
   have hs28:=Z.c4 BK308.out
   have hfs28:=blk_frozen BK308.out 4
   have hns28_0:=NB295_308.out
   have hns28_1:=NB303_308.out
   have hms28_0:=NB308_295.out
   have hms28_1:=NB308_303.out
   have hs29:=Z.c5 BK308.out
   have hfs29:=blk_frozen BK308.out 5
   have hns29_0:=NB295_308.out
   have hns29_1:=NB303_308.out
   have hms29_0:=NB308_295.out
   have hms29_1:=NB308_303.out
   have hs30:=Z.c6 BK308.out
   have hfs30:=blk_frozen BK308.out 6
   have hns30_0:=NB295_308.out
   have hns30_1:=NB303_308.out
   have hms30_0:=NB308_295.out
   have hms30_1:=NB308_303.out
   have hs31:=Z.c7 BK308.out
   have hfs31:=blk_frozen BK308.out 7
   have hns31_0:=NB295_308.out
   have hns31_1:=NB303_308.out
   have hms31_0:=NB308_295.out
   have hms31_1:=NB308_303.out
   refine skip_ (w1:=?_) (by rfl) rfl ?_ ?_
   rotate_left
   ·go_simp
    rfl
   refine hK.out _ _ ⟨((cell_far (p:=⟨gb308,_,none⟩) NB303_308.out _).trans (((cell_far (p:=⟨gb308,_,none⟩) NB303_308.out _).trans (((cell_far (p:=⟨gb308,_,none⟩) NB303_308.out _).trans (((cell_far (p:=⟨gb308,_,none⟩) NB303_308.out _).trans (((cell_far (p:=⟨gb308,_,none⟩) NB303_308.out _).trans (((cell_far (p:=⟨gb308,_,none⟩) NB303_308.out _).trans (((cell_far (p:=⟨gb308,_,none⟩) NB303_308.out _).trans (((cell_far (p:=⟨gb308,_,none⟩) NB303_308.out _).trans (hHeld.1)))))))))))))))),((cell_far (p:=⟨gb308,_,none⟩) NB303_308.out _).trans (((cell_far (p:=⟨gb308,_,none⟩) NB303_308.out _).trans (((cell_far (p:=⟨gb308,_,none⟩) NB303_308.out _).trans (((cell_far (p:=⟨gb308,_,none⟩) NB303_308.out _).trans (((cell_far (p:=⟨gb308,_,none⟩) NB303_308.out _).trans (((cell_far (p:=⟨gb308,_,none⟩) NB303_308.out _).trans (((cell_far (p:=⟨gb308,_,none⟩) NB303_308.out _).trans (((cell_far (p:=⟨gb308,_,none⟩) NB303_308.out _).trans (hHeld.2))))))))))))))))⟩ (fun hHeld=>?_)
   clear hK K
   refine done_ (done_of HT_.out (by kernel_rfl)) ?_
   have hnb32:=NB308_295.out
   have hnc32:=NB295_308.out
   have hnb33:=NB308_303.out
   have hnc33:=NB303_308.out
   have hcz34_0:=Z.c0 BK308.out
   have hcz34_1:=Z.c1 BK308.out
   have hcz34_2:=Z.c2 BK308.out
   have hcz34_3:=Z.c3 BK308.out
   have hcz34_4:=Z.c4 BK308.out
   have hcz34_5:=Z.c5 BK308.out
   have hcz34_6:=Z.c6 BK308.out
   have hcz34_7:=Z.c7 BK308.out
   have hfz34_0:=blk_frozen BK308.out 0
   have hfz34_1:=blk_frozen BK308.out 1
   have hfz34_2:=blk_frozen BK308.out 2
   have hfz34_3:=blk_frozen BK308.out 3
   have hfz34_4:=blk_frozen BK308.out 4
   have hfz34_5:=blk_frozen BK308.out 5
   have hfz34_6:=blk_frozen BK308.out 6
   have hfz34_7:=blk_frozen BK308.out 7
   try go_wp2_with (first|((with_reducible refine gate_callee (f:=93) rfl ?_);refine Z.gl 30 Tryz.func93 #[.agg #[.int .i64 a0,.int .i64 a1,.int .i64 a2,.int .i64 t298,.slice Ao16 t299.length co16,.int .i64 t304,.slice Ao23 t305.length co23,.bool true]] ?_;(with_reducible refine (span_right.calls k a0 a1 a2 t298 _ _ t299 t304 _ _ t305 true true _ ?side1 ?side2 ?side3 ?side4 A9.out).mono ?_);(case side1=>refine (Kd.R_reads' (e:=39) (base:=w.heap.size) (ok:=fun k_=>some k_≠(.slice Ao23 t305.length co23:Value).ownBlock) (n:=t299.length) (c:=co16) ?_).2.2;exact (by (with_reducible repeat (first|apply Kd.R_alloc|apply Kd.R_drewN|apply Kd.R_drew));exact (Kd.R_mono (Kd.R_far (p:=⟨gb308,7,none⟩) (Kd.R_far (p:=⟨gb308,6,none⟩) (Kd.R_far (p:=⟨gb308,5,none⟩) (Kd.R_far (p:=⟨gb308,4,none⟩) (Kd.R_far (p:=⟨gb308,3,none⟩) (Kd.R_far (p:=⟨gb308,2,none⟩) (Kd.R_far (p:=⟨gb308,1,none⟩) (Kd.R_far (p:=⟨gb308,0,none⟩) (Kd.R_types HO301.out BK308.out (by decide)) (fun _ hk=>hk.2) (.int .i64 a0)) (fun _ hk=>hk.2) (.int .i64 a1)) (fun _ hk=>hk.2) (.int .i64 a2)) (fun _ hk=>hk.2) (.int .i64 t298)) (fun _ hk=>hk.2) (.slice Ao16 t299.length co16)) (fun _ hk=>hk.2) (.int .i64 t304)) (fun _ hk=>hk.2) (.slice Ao23 t305.length co23)) (fun _ hk=>hk.2) (.bool true)) (fun _ h_=>h_.1))));(case side2=>exact (Kd.R_reads' HO301.out).2.1);(case side3=>refine (Kd.R_reads' (e:=39) (base:=w.heap.size) (ok:=fun k_=>some k_≠(.slice Ao16 t299.length co16:Value).ownBlock) (n:=t305.length) (c:=co23) ?_).2.2;exact (by (with_reducible repeat (first|apply Kd.R_alloc|apply Kd.R_drewN|apply Kd.R_drew));exact (Kd.R_mono (Kd.R_far (p:=⟨gb308,7,none⟩) (Kd.R_far (p:=⟨gb308,6,none⟩) (Kd.R_far (p:=⟨gb308,5,none⟩) (Kd.R_far (p:=⟨gb308,4,none⟩) (Kd.R_far (p:=⟨gb308,3,none⟩) (Kd.R_far (p:=⟨gb308,2,none⟩) (Kd.R_far (p:=⟨gb308,1,none⟩) (Kd.R_far (p:=⟨gb308,0,none⟩) (Kd.R_types HO307.out BK308.out (by decide)) (fun _ hk=>hk.2) (.int .i64 a0)) (fun _ hk=>hk.2) (.int .i64 a1)) (fun _ hk=>hk.2) (.int .i64 a2)) (fun _ hk=>hk.2) (.int .i64 t298)) (fun _ hk=>hk.2) (.slice Ao16 t299.length co16)) (fun _ hk=>hk.2) (.int .i64 t304)) (fun _ hk=>hk.2) (.slice Ao23 t305.length co23)) (fun _ hk=>hk.2) (.bool true)) (fun _ h_=>h_.1))));(case side4=>exact (Kd.R_reads' HO307.out).2.1);rintro e w35 ⟨rfl,hb⟩;refine⟨_,rfl,?_⟩;have n0_:=As (Kd.R_below (by (with_reducible repeat (first|apply Kd.R_alloc|apply Kd.R_drewN|apply Kd.R_drew));exact (Kd.R_mono (Kd.R_far (p:=⟨gb308,7,none⟩) (Kd.R_far (p:=⟨gb308,6,none⟩) (Kd.R_far (p:=⟨gb308,5,none⟩) (Kd.R_far (p:=⟨gb308,4,none⟩) (Kd.R_far (p:=⟨gb308,3,none⟩) (Kd.R_far (p:=⟨gb308,2,none⟩) (Kd.R_far (p:=⟨gb308,1,none⟩) (Kd.R_far (p:=⟨gb308,0,none⟩) (Kd.R_types HO301.out BK308.out (by decide)) (fun _ hk=>hk.2) (.int .i64 a0)) (fun _ hk=>hk.2) (.int .i64 a1)) (fun _ hk=>hk.2) (.int .i64 a2)) (fun _ hk=>hk.2) (.int .i64 t298)) (fun _ hk=>hk.2) (.slice Ao16 t299.length co16)) (fun _ hk=>hk.2) (.int .i64 t304)) (fun _ hk=>hk.2) (.slice Ao23 t305.length co23)) (fun _ hk=>hk.2) (.bool true)) (fun _ h_=>h_.1))) hb);have n1_:=As (Kd.R_below (by (with_reducible repeat (first|apply Kd.R_alloc|apply Kd.R_drewN|apply Kd.R_drew));exact (Kd.R_mono (Kd.R_far (p:=⟨gb308,7,none⟩) (Kd.R_far (p:=⟨gb308,6,none⟩) (Kd.R_far (p:=⟨gb308,5,none⟩) (Kd.R_far (p:=⟨gb308,4,none⟩) (Kd.R_far (p:=⟨gb308,3,none⟩) (Kd.R_far (p:=⟨gb308,2,none⟩) (Kd.R_far (p:=⟨gb308,1,none⟩) (Kd.R_far (p:=⟨gb308,0,none⟩) (Kd.R_types HO307.out BK308.out (by decide)) (fun _ hk=>hk.2) (.int .i64 a0)) (fun _ hk=>hk.2) (.int .i64 a1)) (fun _ hk=>hk.2) (.int .i64 a2)) (fun _ hk=>hk.2) (.int .i64 t298)) (fun _ hk=>hk.2) (.slice Ao16 t299.length co16)) (fun _ hk=>hk.2) (.int .i64 t304)) (fun _ hk=>hk.2) (.slice Ao23 t305.length co23)) (fun _ hk=>hk.2) (.bool true)) (fun _ h_=>h_.1))) hb);have n2_:=As (blk_below (g:=gb295) (o:=.cells #[.int .i64 0,.int .i64 0,.int .i64 0,.int .i64 0,.slice none 0 0,.int .i64 0,.slice none 0 0,.bool false] 51 (0,0)) Z.bs hb);have n3_:=As (blk_below (g:=gb303) (o:=.cells #[.int .i64 t298,.slice Ao16 t299.length co16] 29 (0,0)) Z.bs hb);have n4_:=As (blk_below (g:=gb308) (o:=.cells #[.int .i64 a0,.int .i64 a1,.int .i64 a2,.int .i64 t298,.slice Ao16 t299.length co16,.int .i64 t304,.slice Ao23 t305.length co23,.bool true] 51 (0,0)) Z.bs hb);have n5_:=Z.sb hb;replace HO301:=n0_;replace HO307:=n1_;replace BK295:=n2_;replace BK303:=n3_;replace BK308:=n4_;replace HB:=n5_;clear n0_ n1_ n2_ n3_ n4_ n5_;(try clear hb);(try clear hb2);(try clear hk);(try clear hi);have hcz36_0:=Z.c0 BK308.out;have hcz36_1:=Z.c1 BK308.out;have hcz36_2:=Z.c2 BK308.out;have hcz36_3:=Z.c3 BK308.out;have hcz36_4:=Z.c4 BK308.out;have hcz36_5:=Z.c5 BK308.out;have hcz36_6:=Z.c6 BK308.out;have hcz36_7:=Z.c7 BK308.out;have hfz36_0:=blk_frozen BK308.out 0;have hfz36_1:=blk_frozen BK308.out 1;have hfz36_2:=blk_frozen BK308.out 2;have hfz36_3:=blk_frozen BK308.out 3;have hfz36_4:=blk_frozen BK308.out 4;have hfz36_5:=blk_frozen BK308.out 5;have hfz36_6:=blk_frozen BK308.out 6;have hfz36_7:=blk_frozen BK308.out 7;have hcz37_0:=Z.c0 BK295.out;have hcz37_1:=Z.c1 BK295.out;have hcz37_2:=Z.c2 BK295.out;have hcz37_3:=Z.c3 BK295.out;have hcz37_4:=Z.c4 BK295.out;have hcz37_5:=Z.c5 BK295.out;have hcz37_6:=Z.c6 BK295.out;have hcz37_7:=Z.c7 BK295.out;have hfz37_0:=blk_frozen BK295.out 0;have hfz37_1:=blk_frozen BK295.out 1;have hfz37_2:=blk_frozen BK295.out 2;have hfz37_3:=blk_frozen BK295.out 3;have hfz37_4:=blk_frozen BK295.out 4;have hfz37_5:=blk_frozen BK295.out 5;have hfz37_6:=blk_frozen BK295.out 6;have hfz37_7:=blk_frozen BK295.out 7))
   refine bodyPost_ret (results_ct rfl _ _ gb295 51 #[.int .i64 a0,.int .i64 a1,.int .i64 a2,.int .i64 t298,.slice Ao16 t299.length co16,.int .i64 t304,.slice Ao23 t305.length co23,.bool true] (0,0) _ rfl Z.bs Tryz.underlying51 rfl (by kernel_rfl)) rfl ?_
   exact⟨_,_,Z.e_,by (with_reducible repeat (first|apply Kd.R_alloc|apply Kd.R_drewN|apply Kd.R_drew));exact Kd.R_mono (Kd.R_far (p:=⟨gb295,7,none⟩) (Kd.R_far (p:=⟨gb295,6,none⟩) (Kd.R_far (p:=⟨gb295,5,none⟩) (Kd.R_far (p:=⟨gb295,4,none⟩) (Kd.R_far (p:=⟨gb295,3,none⟩) (Kd.R_far (p:=⟨gb295,2,none⟩) (Kd.R_far (p:=⟨gb295,1,none⟩) (Kd.R_far (p:=⟨gb295,0,none⟩) (Kd.R_types HO301.out BK295.out (by decide)) (fun _ hk=>hk.2) (.int .i64 a0)) (fun _ hk=>hk.2) (.int .i64 a1)) (fun _ hk=>hk.2) (.int .i64 a2)) (fun _ hk=>hk.2) (.int .i64 t298)) (fun _ hk=>hk.2) (.slice Ao16 t299.length co16)) (fun _ hk=>hk.2) (.int .i64 t304)) (fun _ hk=>hk.2) (.slice Ao23 t305.length co23)) (fun _ hk=>hk.2) (.bool true)) (fun _ hk=>hk.1),by (with_reducible repeat (first|apply Kd.R_alloc|apply Kd.R_drewN|apply Kd.R_drew));exact Kd.R_mono (Kd.R_far (p:=⟨gb295,7,none⟩) (Kd.R_far (p:=⟨gb295,6,none⟩) (Kd.R_far (p:=⟨gb295,5,none⟩) (Kd.R_far (p:=⟨gb295,4,none⟩) (Kd.R_far (p:=⟨gb295,3,none⟩) (Kd.R_far (p:=⟨gb295,2,none⟩) (Kd.R_far (p:=⟨gb295,1,none⟩) (Kd.R_far (p:=⟨gb295,0,none⟩) (Kd.R_types HO307.out BK295.out (by decide)) (fun _ hk=>hk.2) (.int .i64 a0)) (fun _ hk=>hk.2) (.int .i64 a1)) (fun _ hk=>hk.2) (.int .i64 a2)) (fun _ hk=>hk.2) (.int .i64 t298)) (fun _ hk=>hk.2) (.slice Ao16 t299.length co16)) (fun _ hk=>hk.2) (.int .i64 t304)) (fun _ hk=>hk.2) (.slice Ao23 t305.length co23)) (fun _ hk=>hk.2) (.bool true)) (fun _ hk=>hk.1),Z.bl⟩
  ·replace c10:=Bool.eq_false_iff.mpr c10
   subst c10
   have H1:(some (0,0,0,0,([]:List Int),0,([]:List Int),false,2))=some (r1,r2,r3,r4,r5,r6,r7,r8,r9):=by rw[if_neg (show ¬(false=true) by decide)] at H;exact H
   clear H
   have H:=H1
   clear H1
   simp only[Option.some.injEq,Prod.mk.injEq] at H
   obtain⟨rfl,rfl,rfl,rfl,rfl,rfl,rfl,rfl,rfl⟩:=H
   go_enter Tryz.func62,Tryz.ntmps62
   try go_wp2_with (first|((with_reducible refine gate_dst (N:=6) rfl ?_);refine Z.bx 6 #[.int .i64 0,.int .i64 0,.int .i64 0,.int .i64 0,.slice none 0 0,.int .i64 0,.slice none 0 0,.bool false] 51 fun gb295 hg w38 hbox hb=>?_;have BK295:=As hbox;have GW295:=Z.ge hg;have GE295:=Z.ge hg;replace HB:=Z.sb hb;clear hb hbox hg)|((with_reducible refine gate_callee (f:=95) rfl ?_);refine Z.gl 13 Tryz.func95 #[.int .i64 a1,.int .i64 a2] ?_;(with_reducible refine (span_shaped.calls a1 a2 true _ A4.out).mono ?_);rintro e w' ⟨rfl,⟨nd,rfl⟩⟩;refine⟨_,rfl,?_⟩;(try (rw[drewN_self w38];generalize hq_:World.drewN w38 _=w38;have n0_:Aside0 (w38.heap[gb295]? =some (.cells #[.int .i64 0,.int .i64 0,.int .i64 0,.int .i64 0,.slice none 0 0,.int .i64 0,.slice none 0 0,.bool false] 51 (0,0))):=⟨by rw[←hq_];exact Z.bk⟩;have n1_:Aside0 (Below w.heap.size w w38):=⟨by rw[←hq_];exact Z.bl⟩;clear BK295 HB hq_;have BK295:=n0_;have HB:=n1_;clear n0_ n1_)))|((with_reducible refine gate_callee (f:=96) rfl ?_);refine Z.gl 18 Tryz.func96 #[.int .i64 a2] ?_;(with_reducible refine (span_slots.calls a2 t297 _ A6.out).mono ?_);rintro e w' ⟨rfl,⟨nd,rfl⟩⟩;refine⟨_,rfl,?_⟩;(try (rw[drewN_self w38];generalize hq_:World.drewN w38 _=w38;have n0_:Aside0 (w38.heap[gb295]? =some (.cells #[.int .i64 0,.int .i64 0,.int .i64 0,.int .i64 0,.slice none 0 0,.int .i64 0,.slice none 0 0,.bool false] 51 (0,0))):=⟨by rw[←hq_];exact Z.bk⟩;have n1_:Aside0 (Below w.heap.size w w38):=⟨by rw[←hq_];exact Z.bl⟩;clear BK295 HB hq_;have BK295:=n0_;have HB:=n1_;clear n0_ n1_)))|((with_reducible refine gate_callee (f:=16) rfl ?_);refine Z.gl 19 Tryz.func16 #[.int .i64 t297] ?_;(with_reducible refine (bits_Make.calls t297 t298 t299 t302 _ A7.out).mono ?_);rintro e w39 ⟨v300,rfl,ho0,hb⟩;refine⟨_,rfl,?_⟩;have HO301:=As (Kd.R_lower ho0 (below_size Z.bl));replace HB:=Z.sb hb;replace BK295:=Z.kb BK295 hb;(try clear hb);(try clear hb2);(try clear hk);(try clear hi);(try clear ho0))|((with_reducible refine gate_dst (N:=8) rfl ?_);refine Z.bx 8 #[.int .i64 0,.slice none 0 0] 29 fun gb303 hg w40 hbox hb=>?_;have BK303:=As hbox;have GW303:=Z.ge hg;have GE303:=Z.ge hg;have NB295_303:=Z.nl BK295 hg;have NB303_295:=Z.ng BK295 hg;replace HO301:=As (Kd.R_below (by (with_reducible repeat (first|apply Kd.R_alloc|apply Kd.R_drewN|apply Kd.R_drew));exact HO301.out) hb);replace HB:=Z.sb hb;replace BK295:=Z.kb BK295 hb;clear hb hbox hg;have hnb41:=NB303_295.out;have hnc41:=NB295_303.out;have hcz42_0:=Z.c0 BK303.out;have hcz42_1:=Z.c1 BK303.out;have hfz42_0:=blk_frozen BK303.out 0;have hfz42_1:=blk_frozen BK303.out 1;obtain⟨Ao43,co43,eo43⟩:=Kd.R_slice HO301.out;subst eo43))
   have n0_:Aside0 (Kd.R (Kd.int .u64) 39 ((w40.setCell ⟨gb303,0,none⟩ (.int .i64 t298)).setCell ⟨gb303,1,none⟩ (.slice Ao43 t299.length co43)) w.heap.size (fun _=>True) (.slice Ao43 t299.length co43) t299):=⟨by (with_reducible repeat (first|apply Kd.R_alloc|apply Kd.R_drewN|apply Kd.R_drew));exact Kd.R_mono (Kd.R_far (p:=⟨gb303,1,none⟩) (Kd.R_far (p:=⟨gb303,0,none⟩) (Kd.R_types HO301.out BK303.out (by decide)) (fun _ hk=>hk.2) (.int .i64 t298)) (fun _ hk=>hk.2) (.slice Ao43 t299.length co43)) (fun _ hk=>trivial)⟩
   have n1_:Aside0 (((w40.setCell ⟨gb303,0,none⟩ (.int .i64 t298)).setCell ⟨gb303,1,none⟩ (.slice Ao43 t299.length co43)).heap[gb295]? =some (.cells #[.int .i64 0,.int .i64 0,.int .i64 0,.int .i64 0,.slice none 0 0,.int .i64 0,.slice none 0 0,.bool false] 51 (0,0))):=⟨Z.bs⟩
   have n2_:Aside0 (((w40.setCell ⟨gb303,0,none⟩ (.int .i64 t298)).setCell ⟨gb303,1,none⟩ (.slice Ao43 t299.length co43)).heap[gb303]? =some (.cells #[.int .i64 t298,.slice Ao43 t299.length co43] 29 (0,0))):=⟨Z.bs⟩
   have n3_:Aside0 (Below w.heap.size w ((w40.setCell ⟨gb303,0,none⟩ (.int .i64 t298)).setCell ⟨gb303,1,none⟩ (.slice Ao43 t299.length co43))):=⟨Z.bl⟩
   (try clear HO301)
   (try clear BK295)
   (try clear BK303)
   (try clear HB)
   generalize ((w40.setCell ⟨gb303,0,none⟩ (.int .i64 t298)).setCell ⟨gb303,1,none⟩ (.slice Ao43 t299.length co43))=w44 at n0_ n1_ n2_ n3_ ⊢
   have HO301:=n0_
   have BK295:=n1_
   have BK303:=n2_
   have HB:=n3_
   clear n0_ n1_ n2_ n3_
   replace HO301:=As (Kd.R_drew HO301.out)
   replace BK295:=As (blk_drew BK295.out)
   replace BK303:=As (blk_drew BK303.out)
   replace HB:=As (below_drew1 HB.out)
   refine start_ (n:=9) (S:=fun w'=>w'.cell? ⟨gb303,0,none⟩=some (.int .i64 t298)∧w'.cell? ⟨gb303,1,none⟩=some (.slice Ao43 t299.length co43)) (ds:=[]) #[false,false,false,false,false,false,false,false,false] (by kernel_rfl) rfl rfl ⟨(blk_cell BK303.out 0).trans rfl,(blk_cell BK303.out 1).trans rfl⟩ (fun hHeld=>?_);refine with_tabW span_Make.tab4 span_Make.bits4 (fun HT_ HW_=>?_)
   generalize w44.drew=w45 at HO301 BK295 BK303 HB hHeld ⊢
   refine Z.q_ 0 22 HT_ ?_
   refine Z.q_ 1 23 HT_ ?_
   refine Z.q_ 2 24 HT_ ?_
   refine Z.u_ 3 25 HT_ HW_ hHeld ?_
   refine Z.u_ 4 26 HT_ HW_ hHeld ?_
   refine join_ (σ:=Value×Nat) 1 #[true,true,true,true,true,true,true,true,false] (fun s_=>[(27,.agg #[.int .i64 t304,s_.1]),(10,.pointer (some ⟨s_.2,0,none⟩)),(28,.agg #[.int .i64 a0,.int .i64 a1,.int .i64 a2,.int .i64 t298,.slice Ao43 t299.length co43,.int .i64 t304,s_.1,.bool true])]) (fun s_ w'=>(w'.cell? ⟨gb303,0,none⟩=some (.int .i64 t298)∧w'.cell? ⟨gb303,1,none⟩=some (.slice Ao43 t299.length co43))∧(Kd.R (Kd.int .u64) 39 w' w.heap.size (fun k_=>some k_≠(s_.1:Value).ownBlock) (.slice Ao43 t299.length co43) t299)∧(Kd.R (Kd.int .u64) 39 w' w.heap.size (fun k_=>some k_≠(.slice Ao43 t299.length co43:Value).ownBlock) s_.1 t305)∧(w'.heap[gb295]? =some (.cells #[.int .i64 0,.int .i64 0,.int .i64 0,.int .i64 0,.slice none 0 0,.int .i64 0,.slice none 0 0,.bool false] 51 (0,0)))∧(w'.heap[gb303]? =some (.cells #[.int .i64 t298,.slice Ao43 t299.length co43] 29 (0,0)))∧(w'.heap[s_.2]? =some (.cells #[.int .i64 0,.int .i64 0,.int .i64 0,.int .i64 0,.slice none 0 0,.int .i64 0,.slice none 0 0,.bool false] 51 (0,0)))∧(w.heap.size≤s_.2)∧(w.heap.size≤s_.2)∧(gb295≠s_.2)∧(s_.2≠gb295)∧(gb303≠s_.2)∧(s_.2≠gb303)∧(Below w.heap.size w w')) ?_ ?_
   rotate_left
   ·intro hCont
    refine two_ (i:=5) (j:=7) (Ni:=some 27) (Nj:=some 10) #[true,true,true,true,true,true,false,false,false] #[true,true,true,true,true,false,false,true,false] rfl rfl rfl rfl (two_of HT_.out (by kernel_rfl)) (by decide) (by decide) (fun K hK=>?_) (fun K hK=>?_)
    ·skip
     refine goes_ Tryz.func48 (by kernel_rfl) rfl #[.agg #[.int .i64 t298,.slice Ao43 t299.length co43]] (by rfl) rfl rfl (by (try simp only[List.map_toArray,List.map_cons,List.map_nil]);first|done|rfl|(simp only[List.length_drop,List.length_take];rfl)) ?_
     with_reducible refine (bits_Own.calls t298 _ _ t299 t304 t305 _ ?side1 ?side2 A8.out).mono ?_
     (case side1=>repeat (first|exact (Kd.R_reads' HO301.out).2.2|(with_reducible refine Kd.C_alloc ?_ _)|(with_reducible refine Kd.C_drewN ?_ _)|(with_reducible refine Kd.C_drew ?_)))
     (case side2=>exact (Kd.R_reads' HO301.out).2.1)
     rintro e w46 ⟨v306,rfl,ho0,hb⟩
     refine⟨_,rfl,?_⟩
     have n0_:=As (Kd.R_elder' (by (with_reducible repeat (first|apply Kd.R_alloc|apply Kd.R_drewN|apply Kd.R_drew));exact HO301.out) (Kd.R_base ho0) hb)
     have n1_:=As (Kd.R_lower (Kd.R_new' ho0 (Kd.R_lt (by (with_reducible repeat (first|apply Kd.R_alloc|apply Kd.R_drewN|apply Kd.R_drew));exact HO301.out))) (below_size Z.bl))
     have n2_:=Z.kb BK295 hb
     have n3_:=Z.kb BK303 hb
     have n4_:=Z.sb hb
     clear HO301
     clear BK295
     clear BK303
     clear HB
     have HO301:=n0_
     have HO307:=n1_
     have BK295:=n2_
     have BK303:=n3_
     have HB:=n4_
     clear n0_ n1_ n2_ n3_ n4_
     (try clear hb)
     (try clear hb2)
     (try clear hk)
     (try clear hi)
     (try clear ho0)
     obtain⟨Ao47,co47,eo47⟩:=Kd.R_slice HO307.out
     (first|subst eo47|(injection eo47 with f1_ f2_ f3_;have f4_:=f1_.symm;have f5_:=f3_.symm;clear f1_ f2_ f3_;subst f4_;subst f5_))
     refine hK.out _ _ ⟨(blk_cell BK303.out 0).trans rfl,(blk_cell BK303.out 1).trans rfl⟩ (fun hHeld=>?_)
     clear hK K
     refine Z.n_ 27 ?_
     refine Z.q_ 6 28 HT_ ?_
     refine one_ (i:=7) (N:=some 10) #[true,true,true,true,true,true,true,true,false] rfl rfl (one_of HT_.out (by kernel_rfl)) (by decide) (fun K hK=>?_)
     refine box_step ?hg (N:=10) ?hd (cs:=#[.int .i64 0,.int .i64 0,.int .i64 0,.int .i64 0,.slice none 0 0,.int .i64 0,.slice none 0 0,.bool false]) (t:=51) ?hr ?_;(case hd=>rfl);(case hg=>rfl);(case hr=>first|(go_simp;done)|(go_simp;rfl))
     intro gb308 hg w48 hbox hb
     have n0_:=As (Kd.R_below (by (with_reducible repeat (first|apply Kd.R_alloc|apply Kd.R_drewN|apply Kd.R_drew));exact HO301.out) hb)
     have n1_:=As (Kd.R_below (by (with_reducible repeat (first|apply Kd.R_alloc|apply Kd.R_drewN|apply Kd.R_drew));exact HO307.out) hb)
     have n2_:=Z.kb BK295 hb
     have n3_:=Z.kb BK303 hb
     have n4_:=Z.sb hb
     have n5_:=As (hbox)
     have n6_:=Z.ge hg
     have n7_:=Z.ge hg
     have n8_:=Z.nl BK295 hg
     have n9_:=Z.ng BK295 hg
     have n10_:=Z.nl BK303 hg
     have n11_:=Z.ng BK303 hg
     clear HO301
     clear HO307
     clear BK295
     clear BK303
     clear HB
     have HO301:=n0_
     have HO307:=n1_
     have BK295:=n2_
     have BK303:=n3_
     have HB:=n4_
     have BK308:=n5_
     have GW308:=n6_
     have GE308:=n7_
     have NB295_308:=n8_
     have NB308_295:=n9_
     have NB303_308:=n10_
     have NB308_303:=n11_
     clear n0_ n1_ n2_ n3_ n4_ n5_ n6_ n7_ n8_ n9_ n10_ n11_
     clear hb hbox hg
     refine hK.out _ _ ⟨(blk_cell BK303.out 0).trans rfl,(blk_cell BK303.out 1).trans rfl⟩ (fun hHeld=>?_)
     clear hK K
     refine Z.n_ 10 ?_
     exact norm_ (by simp only[putAll,Act.put,List.setIfInBounds_toArray,List.set_cons_zero,List.set_cons_succ]) (hCont (.slice Ao47 t305.length co47,gb308) _ ⟨hHeld,(by (with_reducible repeat (first|apply Kd.R_alloc|apply Kd.R_drewN|apply Kd.R_drew));exact Kd.R_mono HO301.out (fun _ hk=>hk.2)),(by (with_reducible repeat (first|apply Kd.R_alloc|apply Kd.R_drewN|apply Kd.R_drew));exact Kd.R_mono HO307.out (fun _ hk=>hk.2)),Z.bk,Z.bk,Z.bk,GW308.out,GE308.out,NB295_308.out,NB308_295.out,NB303_308.out,NB308_303.out,Z.bl⟩)
    ·skip
     refine box_step ?hg (N:=10) ?hd (cs:=#[.int .i64 0,.int .i64 0,.int .i64 0,.int .i64 0,.slice none 0 0,.int .i64 0,.slice none 0 0,.bool false]) (t:=51) ?hr ?_;(case hd=>rfl);(case hg=>rfl);(case hr=>first|(go_simp;done)|(go_simp;rfl))
     intro gb308 hg w46 hbox hb
     have n0_:=As (Kd.R_below (by (with_reducible repeat (first|apply Kd.R_alloc|apply Kd.R_drewN|apply Kd.R_drew));exact HO301.out) hb)
     have n1_:=Z.kb BK295 hb
     have n2_:=Z.kb BK303 hb
     have n3_:=Z.sb hb
     have n4_:=As (hbox)
     have n5_:=Z.ge hg
     have n6_:=Z.ge hg
     have n7_:=Z.nl BK295 hg
     have n8_:=Z.ng BK295 hg
     have n9_:=Z.nl BK303 hg
     have n10_:=Z.ng BK303 hg
     clear HO301
     clear BK295
     clear BK303
     clear HB
     have HO301:=n0_
     have BK295:=n1_
     have BK303:=n2_
     have HB:=n3_
     have BK308:=n4_
     have GW308:=n5_
     have GE308:=n6_
     have NB295_308:=n7_
     have NB308_295:=n8_
     have NB303_308:=n9_
     have NB308_303:=n10_
     clear n0_ n1_ n2_ n3_ n4_ n5_ n6_ n7_ n8_ n9_ n10_
     clear hb hbox hg
     refine hK.out _ _ ⟨(blk_cell BK303.out 0).trans rfl,(blk_cell BK303.out 1).trans rfl⟩ (fun hHeld=>?_)
     clear hK K
     refine Z.n_ 10 ?_
     refine one_ (i:=5) (N:=some 27) #[true,true,true,true,true,true,false,true,false] rfl rfl (one_of HT_.out (by kernel_rfl)) (by decide) (fun K hK=>?_)
     refine goes_ Tryz.func48 (by kernel_rfl) rfl #[.agg #[.int .i64 t298,.slice Ao43 t299.length co43]] (by rfl) rfl rfl (by (try simp only[List.map_toArray,List.map_cons,List.map_nil]);first|done|rfl|(simp only[List.length_drop,List.length_take];rfl)) ?_
     with_reducible refine (bits_Own.calls t298 _ _ t299 t304 t305 _ ?side1 ?side2 A8.out).mono ?_
     (case side1=>repeat (first|exact (Kd.R_reads' HO301.out).2.2|(with_reducible refine Kd.C_alloc ?_ _)|(with_reducible refine Kd.C_drewN ?_ _)|(with_reducible refine Kd.C_drew ?_)))
     (case side2=>exact (Kd.R_reads' HO301.out).2.1)
     rintro e w47 ⟨v306,rfl,ho0,hb⟩
     refine⟨_,rfl,?_⟩
     have n0_:=As (Kd.R_elder' (by (with_reducible repeat (first|apply Kd.R_alloc|apply Kd.R_drewN|apply Kd.R_drew));exact HO301.out) (Kd.R_base ho0) hb)
     have n1_:=As (Kd.R_lower (Kd.R_new' ho0 (Kd.R_lt (by (with_reducible repeat (first|apply Kd.R_alloc|apply Kd.R_drewN|apply Kd.R_drew));exact HO301.out))) (below_size Z.bl))
     have n2_:=Z.kb BK295 hb
     have n3_:=Z.kb BK303 hb
     have n4_:=Z.kb BK308 hb
     have n5_:=Z.sb hb
     clear HO301
     clear BK295
     clear BK303
     clear BK308
     clear HB
     have HO301:=n0_
     have HO307:=n1_
     have BK295:=n2_
     have BK303:=n3_
     have BK308:=n4_
     have HB:=n5_
     clear n0_ n1_ n2_ n3_ n4_ n5_
     (try clear hb)
     (try clear hb2)
     (try clear hk)
     (try clear hi)
     (try clear ho0)
     obtain⟨Ao48,co48,eo48⟩:=Kd.R_slice HO307.out
     (first|subst eo48|(injection eo48 with f1_ f2_ f3_;have f4_:=f1_.symm;have f5_:=f3_.symm;clear f1_ f2_ f3_;subst f4_;subst f5_))
     refine hK.out _ _ ⟨(blk_cell BK303.out 0).trans rfl,(blk_cell BK303.out 1).trans rfl⟩ (fun hHeld=>?_)
     clear hK K
     refine Z.n_ 27 ?_
     refine Z.q_ 6 28 HT_ ?_
     exact norm_ (by simp only[putAll,Act.put,List.setIfInBounds_toArray,List.set_cons_zero,List.set_cons_succ]) (hCont (.slice Ao48 t305.length co48,gb308) _ ⟨hHeld,(by (with_reducible repeat (first|apply Kd.R_alloc|apply Kd.R_drewN|apply Kd.R_drew));exact Kd.R_mono HO301.out (fun _ hk=>hk.2)),(by (with_reducible repeat (first|apply Kd.R_alloc|apply Kd.R_drewN|apply Kd.R_drew));exact Kd.R_mono HO307.out (fun _ hk=>hk.2)),Z.bk,Z.bk,Z.bk,GW308.out,GE308.out,NB295_308.out,NB308_295.out,NB303_308.out,NB308_303.out,Z.bl⟩)
   rintro⟨v306,gb308⟩ w49 ⟨hS_,h0_,h1_,h2_,h3_,h4_,h5_,h6_,h7_,h8_,h9_,h10_,h11_⟩
   have n0_:Aside0 (Kd.R (Kd.int .u64) 39 w49 w.heap.size (fun k_=>some k_≠(v306:Value).ownBlock) (.slice Ao43 t299.length co43) t299):=⟨h0_⟩
   have n1_:Aside0 (Kd.R (Kd.int .u64) 39 w49 w.heap.size (fun k_=>some k_≠(.slice Ao43 t299.length co43:Value).ownBlock) v306 t305):=⟨h1_⟩
   have n2_:Aside0 (w49.heap[gb295]? =some (.cells #[.int .i64 0,.int .i64 0,.int .i64 0,.int .i64 0,.slice none 0 0,.int .i64 0,.slice none 0 0,.bool false] 51 (0,0))):=⟨h2_⟩
   have n3_:Aside0 (w49.heap[gb303]? =some (.cells #[.int .i64 t298,.slice Ao43 t299.length co43] 29 (0,0))):=⟨h3_⟩
   have n4_:Aside0 (w49.heap[gb308]? =some (.cells #[.int .i64 0,.int .i64 0,.int .i64 0,.int .i64 0,.slice none 0 0,.int .i64 0,.slice none 0 0,.bool false] 51 (0,0))):=⟨h4_⟩
   have n5_:Aside0 (w.heap.size≤gb308):=⟨h5_⟩
   have n6_:Aside0 (w.heap.size≤gb308):=⟨h6_⟩
   have n7_:Aside0 (gb295≠gb308):=⟨h7_⟩
   have n8_:Aside0 (gb308≠gb295):=⟨h8_⟩
   have n9_:Aside0 (gb303≠gb308):=⟨h9_⟩
   have n10_:Aside0 (gb308≠gb303):=⟨h10_⟩
   have n11_:Aside0 (Below w.heap.size w w49):=⟨h11_⟩
   clear HO301
   clear BK295
   clear BK303
   clear HB
   clear h0_ h1_ h2_ h3_ h4_ h5_ h6_ h7_ h8_ h9_ h10_ h11_
   have HO301:=n0_
   have HO307:=n1_
   have BK295:=n2_
   have BK303:=n3_
   have BK308:=n4_
   have GW308:=n5_
   have GE308:=n6_
   have NB295_308:=n7_
   have NB308_295:=n8_
   have NB303_308:=n9_
   have NB308_303:=n10_
   have HB:=n11_
   clear n0_ n1_ n2_ n3_ n4_ n5_ n6_ n7_ n8_ n9_ n10_ n11_
   have hHeld:w49.cell? ⟨gb303,0,none⟩=some (.int .i64 t298)∧w49.cell? ⟨gb303,1,none⟩=some (.slice Ao43 t299.length co43):=hS_
   obtain⟨Ao50,co50,eo50⟩:=Kd.R_slice HO307.out
   (first|subst eo50|(injection eo50 with f1_ f2_ f3_;have f4_:=f1_.symm;have f5_:=f3_.symm;clear f1_ f2_ f3_;subst f4_;subst f5_))
   refine norm_ (a':=?_) ?_ ?_
   rotate_left
   ·simp only[putAll,Act.put,List.setIfInBounds_toArray,List.set_cons_zero,List.set_cons_succ]
    rfl
   refine one_ (i:=8) (N:=none) #[true,true,true,true,true,true,true,true,true] rfl rfl (one_of HT_.out (by kernel_rfl)) (by decide) (fun K hK=>?_)
   have hs51:=Z.c0 BK308.out
   have hfs51:=blk_frozen BK308.out 0
   have hns51_0:=NB295_308.out
   have hns51_1:=NB303_308.out
   have hms51_0:=NB308_295.out
   have hms51_1:=NB308_303.out
   have hs52:=Z.c1 BK308.out
   have hfs52:=blk_frozen BK308.out 1
   have hns52_0:=NB295_308.out
   have hns52_1:=NB303_308.out
   have hms52_0:=NB308_295.out
   have hms52_1:=NB308_303.out
   have hs53:=Z.c2 BK308.out
   have hfs53:=blk_frozen BK308.out 2
   have hns53_0:=NB295_308.out
   have hns53_1:=NB303_308.out
   have hms53_0:=NB308_295.out
   have hms53_1:=NB308_303.out
   have hs54:=Z.c3 BK308.out
   have hfs54:=blk_frozen BK308.out 3
   have hns54_0:=NB295_308.out
   have hns54_1:=NB303_308.out
   have hms54_0:=NB308_295.out
   have hms54_1:=NB308_303.out
   have hs55:=Z.c4 BK308.out
   have hfs55:=blk_frozen BK308.out 4
   have hns55_0:=NB295_308.out
   have hns55_1:=NB303_308.out
   have hms55_0:=NB308_295.out
   have hms55_1:=NB308_303.out
   have hs56:=Z.c5 BK308.out
   have hfs56:=blk_frozen BK308.out 5
   have hns56_0:=NB295_308.out
   have hns56_1:=NB303_308.out
   have hms56_0:=NB308_295.out
   have hms56_1:=NB308_303.out
   have hs57:=Z.c6 BK308.out
   have hfs57:=blk_frozen BK308.out 6
   have hns57_0:=NB295_308.out
   have hns57_1:=NB303_308.out
   have hms57_0:=NB308_295.out
   have hms57_1:=NB308_303.out
   have hs58:=Z.c7 BK308.out
   have hfs58:=blk_frozen BK308.out 7
   have hns58_0:=NB295_308.out
   have hns58_1:=NB303_308.out
   have hms58_0:=NB308_295.out
   have hms58_1:=NB308_303.out
   refine skip_ (w1:=?_) (by rfl) rfl ?_ ?_
   rotate_left
   ·go_simp
    rfl
   refine hK.out _ _ ⟨((cell_far (p:=⟨gb308,_,none⟩) NB303_308.out _).trans (((cell_far (p:=⟨gb308,_,none⟩) NB303_308.out _).trans (((cell_far (p:=⟨gb308,_,none⟩) NB303_308.out _).trans (((cell_far (p:=⟨gb308,_,none⟩) NB303_308.out _).trans (((cell_far (p:=⟨gb308,_,none⟩) NB303_308.out _).trans (((cell_far (p:=⟨gb308,_,none⟩) NB303_308.out _).trans (((cell_far (p:=⟨gb308,_,none⟩) NB303_308.out _).trans (((cell_far (p:=⟨gb308,_,none⟩) NB303_308.out _).trans (hHeld.1)))))))))))))))),((cell_far (p:=⟨gb308,_,none⟩) NB303_308.out _).trans (((cell_far (p:=⟨gb308,_,none⟩) NB303_308.out _).trans (((cell_far (p:=⟨gb308,_,none⟩) NB303_308.out _).trans (((cell_far (p:=⟨gb308,_,none⟩) NB303_308.out _).trans (((cell_far (p:=⟨gb308,_,none⟩) NB303_308.out _).trans (((cell_far (p:=⟨gb308,_,none⟩) NB303_308.out _).trans (((cell_far (p:=⟨gb308,_,none⟩) NB303_308.out _).trans (((cell_far (p:=⟨gb308,_,none⟩) NB303_308.out _).trans (hHeld.2))))))))))))))))⟩ (fun hHeld=>?_)
   clear hK K
   refine done_ (done_of HT_.out (by kernel_rfl)) ?_
   have hnb59:=NB308_295.out
   have hnc59:=NB295_308.out
   have hnb60:=NB308_303.out
   have hnc60:=NB303_308.out
   have hcz61_0:=Z.c0 BK308.out
   have hcz61_1:=Z.c1 BK308.out
   have hcz61_2:=Z.c2 BK308.out
   have hcz61_3:=Z.c3 BK308.out
   have hcz61_4:=Z.c4 BK308.out
   have hcz61_5:=Z.c5 BK308.out
   have hcz61_6:=Z.c6 BK308.out
   have hcz61_7:=Z.c7 BK308.out
   have hfz61_0:=blk_frozen BK308.out 0
   have hfz61_1:=blk_frozen BK308.out 1
   have hfz61_2:=blk_frozen BK308.out 2
   have hfz61_3:=blk_frozen BK308.out 3
   have hfz61_4:=blk_frozen BK308.out 4
   have hfz61_5:=blk_frozen BK308.out 5
   have hfz61_6:=blk_frozen BK308.out 6
   have hfz61_7:=blk_frozen BK308.out 7
   try go_wp2_with (first|((with_reducible refine gate_callee (f:=93) rfl ?_);refine Z.gl 30 Tryz.func93 #[.agg #[.int .i64 a0,.int .i64 a1,.int .i64 a2,.int .i64 t298,.slice Ao43 t299.length co43,.int .i64 t304,.slice Ao50 t305.length co50,.bool true]] ?_;(with_reducible refine (span_right.calls k a0 a1 a2 t298 _ _ t299 t304 _ _ t305 true false _ ?side1 ?side2 ?side3 ?side4 A9.out).mono ?_);(case side1=>refine (Kd.R_reads' (e:=39) (base:=w.heap.size) (ok:=fun k_=>some k_≠(.slice Ao50 t305.length co50:Value).ownBlock) (n:=t299.length) (c:=co43) ?_).2.2;exact (by (with_reducible repeat (first|apply Kd.R_alloc|apply Kd.R_drewN|apply Kd.R_drew));exact (Kd.R_mono (Kd.R_far (p:=⟨gb308,7,none⟩) (Kd.R_far (p:=⟨gb308,6,none⟩) (Kd.R_far (p:=⟨gb308,5,none⟩) (Kd.R_far (p:=⟨gb308,4,none⟩) (Kd.R_far (p:=⟨gb308,3,none⟩) (Kd.R_far (p:=⟨gb308,2,none⟩) (Kd.R_far (p:=⟨gb308,1,none⟩) (Kd.R_far (p:=⟨gb308,0,none⟩) (Kd.R_types HO301.out BK308.out (by decide)) (fun _ hk=>hk.2) (.int .i64 a0)) (fun _ hk=>hk.2) (.int .i64 a1)) (fun _ hk=>hk.2) (.int .i64 a2)) (fun _ hk=>hk.2) (.int .i64 t298)) (fun _ hk=>hk.2) (.slice Ao43 t299.length co43)) (fun _ hk=>hk.2) (.int .i64 t304)) (fun _ hk=>hk.2) (.slice Ao50 t305.length co50)) (fun _ hk=>hk.2) (.bool true)) (fun _ h_=>h_.1))));(case side2=>exact (Kd.R_reads' HO301.out).2.1);(case side3=>refine (Kd.R_reads' (e:=39) (base:=w.heap.size) (ok:=fun k_=>some k_≠(.slice Ao43 t299.length co43:Value).ownBlock) (n:=t305.length) (c:=co50) ?_).2.2;exact (by (with_reducible repeat (first|apply Kd.R_alloc|apply Kd.R_drewN|apply Kd.R_drew));exact (Kd.R_mono (Kd.R_far (p:=⟨gb308,7,none⟩) (Kd.R_far (p:=⟨gb308,6,none⟩) (Kd.R_far (p:=⟨gb308,5,none⟩) (Kd.R_far (p:=⟨gb308,4,none⟩) (Kd.R_far (p:=⟨gb308,3,none⟩) (Kd.R_far (p:=⟨gb308,2,none⟩) (Kd.R_far (p:=⟨gb308,1,none⟩) (Kd.R_far (p:=⟨gb308,0,none⟩) (Kd.R_types HO307.out BK308.out (by decide)) (fun _ hk=>hk.2) (.int .i64 a0)) (fun _ hk=>hk.2) (.int .i64 a1)) (fun _ hk=>hk.2) (.int .i64 a2)) (fun _ hk=>hk.2) (.int .i64 t298)) (fun _ hk=>hk.2) (.slice Ao43 t299.length co43)) (fun _ hk=>hk.2) (.int .i64 t304)) (fun _ hk=>hk.2) (.slice Ao50 t305.length co50)) (fun _ hk=>hk.2) (.bool true)) (fun _ h_=>h_.1))));(case side4=>exact (Kd.R_reads' HO307.out).2.1);rintro e w62 ⟨rfl,hb⟩;refine⟨_,rfl,?_⟩;have n0_:=As (Kd.R_below (by (with_reducible repeat (first|apply Kd.R_alloc|apply Kd.R_drewN|apply Kd.R_drew));exact (Kd.R_mono (Kd.R_far (p:=⟨gb308,7,none⟩) (Kd.R_far (p:=⟨gb308,6,none⟩) (Kd.R_far (p:=⟨gb308,5,none⟩) (Kd.R_far (p:=⟨gb308,4,none⟩) (Kd.R_far (p:=⟨gb308,3,none⟩) (Kd.R_far (p:=⟨gb308,2,none⟩) (Kd.R_far (p:=⟨gb308,1,none⟩) (Kd.R_far (p:=⟨gb308,0,none⟩) (Kd.R_types HO301.out BK308.out (by decide)) (fun _ hk=>hk.2) (.int .i64 a0)) (fun _ hk=>hk.2) (.int .i64 a1)) (fun _ hk=>hk.2) (.int .i64 a2)) (fun _ hk=>hk.2) (.int .i64 t298)) (fun _ hk=>hk.2) (.slice Ao43 t299.length co43)) (fun _ hk=>hk.2) (.int .i64 t304)) (fun _ hk=>hk.2) (.slice Ao50 t305.length co50)) (fun _ hk=>hk.2) (.bool true)) (fun _ h_=>h_.1))) hb);have n1_:=As (Kd.R_below (by (with_reducible repeat (first|apply Kd.R_alloc|apply Kd.R_drewN|apply Kd.R_drew));exact (Kd.R_mono (Kd.R_far (p:=⟨gb308,7,none⟩) (Kd.R_far (p:=⟨gb308,6,none⟩) (Kd.R_far (p:=⟨gb308,5,none⟩) (Kd.R_far (p:=⟨gb308,4,none⟩) (Kd.R_far (p:=⟨gb308,3,none⟩) (Kd.R_far (p:=⟨gb308,2,none⟩) (Kd.R_far (p:=⟨gb308,1,none⟩) (Kd.R_far (p:=⟨gb308,0,none⟩) (Kd.R_types HO307.out BK308.out (by decide)) (fun _ hk=>hk.2) (.int .i64 a0)) (fun _ hk=>hk.2) (.int .i64 a1)) (fun _ hk=>hk.2) (.int .i64 a2)) (fun _ hk=>hk.2) (.int .i64 t298)) (fun _ hk=>hk.2) (.slice Ao43 t299.length co43)) (fun _ hk=>hk.2) (.int .i64 t304)) (fun _ hk=>hk.2) (.slice Ao50 t305.length co50)) (fun _ hk=>hk.2) (.bool true)) (fun _ h_=>h_.1))) hb);have n2_:=As (blk_below (g:=gb295) (o:=.cells #[.int .i64 0,.int .i64 0,.int .i64 0,.int .i64 0,.slice none 0 0,.int .i64 0,.slice none 0 0,.bool false] 51 (0,0)) Z.bs hb);have n3_:=As (blk_below (g:=gb303) (o:=.cells #[.int .i64 t298,.slice Ao43 t299.length co43] 29 (0,0)) Z.bs hb);have n4_:=As (blk_below (g:=gb308) (o:=.cells #[.int .i64 a0,.int .i64 a1,.int .i64 a2,.int .i64 t298,.slice Ao43 t299.length co43,.int .i64 t304,.slice Ao50 t305.length co50,.bool true] 51 (0,0)) Z.bs hb);have n5_:=Z.sb hb;replace HO301:=n0_;replace HO307:=n1_;replace BK295:=n2_;replace BK303:=n3_;replace BK308:=n4_;replace HB:=n5_;clear n0_ n1_ n2_ n3_ n4_ n5_;(try clear hb);(try clear hb2);(try clear hk);(try clear hi);have hcz63_0:=Z.c0 BK295.out;have hcz63_1:=Z.c1 BK295.out;have hcz63_2:=Z.c2 BK295.out;have hcz63_3:=Z.c3 BK295.out;have hcz63_4:=Z.c4 BK295.out;have hcz63_5:=Z.c5 BK295.out;have hcz63_6:=Z.c6 BK295.out;have hcz63_7:=Z.c7 BK295.out;have hfz63_0:=blk_frozen BK295.out 0;have hfz63_1:=blk_frozen BK295.out 1;have hfz63_2:=blk_frozen BK295.out 2;have hfz63_3:=blk_frozen BK295.out 3;have hfz63_4:=blk_frozen BK295.out 4;have hfz63_5:=blk_frozen BK295.out 5;have hfz63_6:=blk_frozen BK295.out 6;have hfz63_7:=blk_frozen BK295.out 7))
   refine bodyPost_ret (results_ct rfl _ _ gb295 51 #[.int .i64 0,.int .i64 0,.int .i64 0,.int .i64 0,.slice none 0 0,.int .i64 0,.slice none 0 0,.bool false] (0,0) _ rfl Z.bs Tryz.underlying51 rfl (by kernel_rfl)) rfl ?_
   exact⟨_,_,Z.e_,by first|exact Kd.R_nil _ _ _ _ _|exact Kd.N_nil _ _ _ _ _|exact Kd.V_nil _ _ _ _ _|exact Kd.Q_nil _ _ _ _ _|exact Kd.S_nil _ _ _ _ _,by first|exact Kd.R_nil _ _ _ _ _|exact Kd.N_nil _ _ _ _ _|exact Kd.V_nil _ _ _ _ _|exact Kd.Q_nil _ _ _ _ _|exact Kd.S_nil _ _ _ _ _,Z.bl⟩
 ·replace c5:=Bool.eq_false_iff.mpr c5
  subst c5
  have H1:(some (0,0,0,0,([]:List Int),0,([]:List Int),false,2))=some (r1,r2,r3,r4,r5,r6,r7,r8,r9):=by rw[if_neg (show ¬(false=true) by decide)] at H;exact H
  clear H
  have H:=H1
  clear H1
  simp only[Option.some.injEq,Prod.mk.injEq] at H
  obtain⟨rfl,rfl,rfl,rfl,rfl,rfl,rfl,rfl,rfl⟩:=H
  go_enter Tryz.func62,Tryz.ntmps62
  go_wp2_with (first|((with_reducible refine gate_dst (N:=6) rfl ?_);refine Z.bx 6 #[.int .i64 0,.int .i64 0,.int .i64 0,.int .i64 0,.slice none 0 0,.int .i64 0,.slice none 0 0,.bool false] 51 fun gb295 hg w64 hbox hb=>?_;have BK295:=As hbox;have GW295:=Z.ge hg;have GE295:=Z.ge hg;replace HB:=Z.sb hb;clear hb hbox hg)|((with_reducible refine gate_callee (f:=95) rfl ?_);refine Z.gl 13 Tryz.func95 #[.int .i64 a1,.int .i64 a2] ?_;(with_reducible refine (span_shaped.calls a1 a2 false _ A4.out).mono ?_);rintro e w' ⟨rfl,⟨nd,rfl⟩⟩;refine⟨_,rfl,?_⟩;(try (rw[drewN_self w64];generalize hq_:World.drewN w64 _=w64;have n0_:Aside0 (w64.heap[gb295]? =some (.cells #[.int .i64 0,.int .i64 0,.int .i64 0,.int .i64 0,.slice none 0 0,.int .i64 0,.slice none 0 0,.bool false] 51 (0,0))):=⟨by rw[←hq_];exact Z.bk⟩;have n1_:Aside0 (Below w.heap.size w w64):=⟨by rw[←hq_];exact Z.bl⟩;clear BK295 HB hq_;have BK295:=n0_;have HB:=n1_;clear n0_ n1_));have hcz65_0:=Z.c0 BK295.out;have hcz65_1:=Z.c1 BK295.out;have hcz65_2:=Z.c2 BK295.out;have hcz65_3:=Z.c3 BK295.out;have hcz65_4:=Z.c4 BK295.out;have hcz65_5:=Z.c5 BK295.out;have hcz65_6:=Z.c6 BK295.out;have hcz65_7:=Z.c7 BK295.out;have hfz65_0:=blk_frozen BK295.out 0;have hfz65_1:=blk_frozen BK295.out 1;have hfz65_2:=blk_frozen BK295.out 2;have hfz65_3:=blk_frozen BK295.out 3;have hfz65_4:=blk_frozen BK295.out 4;have hfz65_5:=blk_frozen BK295.out 5;have hfz65_6:=blk_frozen BK295.out 6;have hfz65_7:=blk_frozen BK295.out 7))
  refine bodyPost_ret (results_ct rfl _ _ gb295 51 #[.int .i64 0,.int .i64 0,.int .i64 0,.int .i64 0,.slice none 0 0,.int .i64 0,.slice none 0 0,.bool false] (0,0) _ rfl Z.bs Tryz.underlying51 rfl (by kernel_rfl)) rfl ?_
  exact⟨_,_,Z.e_,by first|exact Kd.R_nil _ _ _ _ _|exact Kd.N_nil _ _ _ _ _|exact Kd.V_nil _ _ _ _ _|exact Kd.Q_nil _ _ _ _ _|exact Kd.S_nil _ _ _ _ _,by first|exact Kd.R_nil _ _ _ _ _|exact Kd.N_nil _ _ _ _ _|exact Kd.V_nil _ _ _ _ _|exact Kd.Q_nil _ _ _ _ _|exact Kd.S_nil _ _ _ _ _,Z.bl⟩
end Go.Proofs.YtmmfchnbfnegnaaGreatDoor.GK
end
section
namespace Go.Proofs.YtmmfchnbfnegnaaGreatDoor.GK
open Go.RowKit Go.Proofs.YtmmfchnbfnegnaaGreatDoorW.PrintWords Go.Proofs.YtmmfchnbfnegnaaGreatDoorW.PrintLast Go.Proofs.YtmmfchnbfnegnaaGreatDoorW.PrintMore
attribute [local go_sem] max2_int min2_int max_two min_two max_three min_three max_four min_four
set_option linter.unusedVariables false
set_option linter.unusedSimpArgs false
theorem gate_calleeV77 {P:Program} {ops:Array Oper} {rest:List Oper} {o:Oper} {a:Act} {Q:Exit→Act→World→Prop} {W:World} {t:Tmp} {os_:Array Operand} {ts:Array TypeId} (_ho:o.op=.call {callee:=.value (.tmp t),args:=os_,argTypes:=ts}) (h:wpList P ops Q (o::rest) a W):wpList P ops Q (o::rest) a W:=h
theorem goesV77_ {P:Program} {ops:Array Oper} {Q:Exit→Act→World→Prop} {rest:List Oper} {oi:Oper} {a:Act} {w:World} (N:Option Tmp) (hd:oi.dst=N) (hg:oi.guard=none) {f:FuncId} {fn:Func} {t:Tmp} {os_:Array Operand} {ts:Array TypeId} (hf:P.funcs[f]? =some fn) (hname:(fn.name == "runtime.NumGoroutine")=false) (hb:fn.body.isSome=true) (args:Array Value)
  (hop:oi.op=.call {callee:=.value (.tmp t),args:=os_,argTypes:=ts}) (hv:a.eval (.tmp t)=.func (.func f) #[] #[]) (hargs:os_.map a.eval=args)
  (h:Calls P f args w fun e w'=>∃v,e=.returned v∧wpList P ops Q rest (a.put N v) w'):wpList P ops Q (oi::rest) a w:=by
 refine wpList_plain hg fun K hK=>?_
 have he:=enters_ hf hname hb args w
 have hrun:(execOp a.eval oi).run P w=.ok (.enter f args) w:=by
  unfold execOp
  simp[hop,resolve,Deferred.ofValue,invoke,hv,hargs,he]
 unfold Oper.wp
 rw[hrun,Oper.upon_enter]
 refine h.mono fun e w'' hh=>?_
 obtain⟨v,rfl,hk⟩:=hh
 subst hd
 exact hK _ _ hk
def heap_object_uint64.l0:Nat→List (S92)→Int→Int→Int→Int→Option (Int×Bool)
 |0,_,_,_,_,_=>none
 |k + 1,x0,x1,x8,x9,x10=>if x9 < x10 then (if 0≤(wrap64 ((IntKind.u64.wrap (wrap64 (x9 + x10))) / 2)) then (if (wrap64 ((IntKind.u64.wrap (wrap64 (x9 + x10))) / 2)) < (x0.length:Int) then ((heap_store_find_1.f ((rd_T92 x0 (wrap64 ((IntKind.u64.wrap (wrap64 (x9 + x10))) / 2))).f0) ((rd_T92 x0 (wrap64 ((IntKind.u64.wrap (wrap64 (x9 + x10))) / 2))).f1) ((rd_T92 x0 (wrap64 ((IntKind.u64.wrap (wrap64 (x9 + x10))) / 2))).f2) ((rd_T92 x0 (wrap64 ((IntKind.u64.wrap (wrap64 (x9 + x10))) / 2))).f3.f0) ((rd_T92 x0 (wrap64 ((IntKind.u64.wrap (wrap64 (x9 + x10))) / 2))).f3.f1) ((rd_T92 x0 (wrap64 ((IntKind.u64.wrap (wrap64 (x9 + x10))) / 2))).f4) x1).bind fun t258=>(if t258 < 0 then (heap_object_uint64.l0 k x0 x1 x8 (wrap64 ((wrap64 ((IntKind.u64.wrap (wrap64 (x9 + x10))) / 2)) + 1)) x10) else (heap_object_uint64.l0 k x0 x1 x8 x9 (wrap64 ((IntKind.u64.wrap (wrap64 (x9 + x10))) / 2))))) else (none)) else (none)) else (if x9 < x8 then (if 0≤x9 then (if x9 < (x0.length:Int) then ((heap_store_find_1.f ((rd_T92 x0 x9).f0) ((rd_T92 x0 x9).f1) ((rd_T92 x0 x9).f2) ((rd_T92 x0 x9).f3.f0) ((rd_T92 x0 x9).f3.f1) ((rd_T92 x0 x9).f4) x1).bind fun t260=>(some (x9,(t260 == 0)))) else (none)) else (none)) else (some (x9,false)))
def heap_object_uint64.f (k:Nat) (l0:List (S92)) (a1:Int):Option (Int×Bool):=heap_object_uint64.l0 k l0 a1 (l0.length:Int) 0 (l0.length:Int)
set_option maxHeartbeats 8000000 in
set_option maxRecDepth 100000 in
theorem heap_object_uint64.calls (k:Nat) (A0:Option Addr) (c0:Nat) (l0:List (S92)) (a1:Int) (r1:Int) (r2:Bool) (w:World) (hr0:Kd.C k92 w A0 l0.length l0) (hc0:l0.length≤c0) (h:heap_object_uint64.f k l0 a1=some (r1,r2)):
  Calls Tryz.prog 77 #[.slice A0 l0.length c0,.int .u64 a1,.func (.func 78) #[] #[]] w fun e w'=>e=.returned (.tuple #[.int .i64 r1,.bool r2])∧Below w.heap.size w w':=by
 have hu92:=Tryz.underlying92
 have HR0:=As hr0
 have HC0:=As hc0
 clear hr0 hc0
 have HB:=As (Below.refl w.heap.size w)
 have H:(heap_object_uint64.l0 k l0 a1 (l0.length:Int) 0 (l0.length:Int))=some (r1,r2):=h
 clear h
 have H':=As H
 clear H
 go_enter Tryz.func77,Tryz.ntmps77
 go_wp2
 go_loopg [9,10] k (fun kq v9 v10 w'=>∃(x9_1:Int) (x10_1:Int),v9=.int .i64 x9_1∧v10=.int .i64 x10_1∧Aside0 (heap_object_uint64.l0 kq l0 a1 (l0.length:Int) x9_1 x10_1=some (r1,r2))∧Aside0 (kq≤k)∧Aside0 (Below w.heap.size w w'))
 case atStart=>exact⟨(0),((l0.length:Int)),Z.r_,Z.r_,H',⟨Nat.le_refl _⟩,⟨Z.bl⟩⟩
 case round=>
  clear H'
  try clear p2
  obtain⟨x9_1,x10_1,rfl,rfl,HA,HK1,HB⟩:=hrel
  cases gk with
  |zero=>exact absurd HA.out (by simp[heap_object_uint64.l0])
  |succ k1=>
   have H:=HA.out
   clear HA
   simp only[heap_object_uint64.l0] at H
   by_cases c3:x9_1 < x10_1
   ·rw[if_pos c3] at H
    have c3b0:decide (x9_1 < x10_1)=true:=decide_eq_true c3
    clear c3
    obtain⟨ji4,hji4⟩:∃j_:Int,(wrap64 ((IntKind.u64.wrap (wrap64 (x9_1 + x10_1))) / 2))=j_:=⟨_,rfl⟩
    replace H:(if 0≤(ji4) then (if (ji4) < (l0.length:Int) then ((heap_store_find_1.f ((rd_T92 l0 (ji4)).f0) ((rd_T92 l0 (ji4)).f1) ((rd_T92 l0 (ji4)).f2) ((rd_T92 l0 (ji4)).f3.f0) ((rd_T92 l0 (ji4)).f3.f1) ((rd_T92 l0 (ji4)).f4) a1).bind fun t258=>(if t258 < 0 then (heap_object_uint64.l0 k1 l0 a1 (l0.length:Int) (wrap64 ((ji4) + 1)) x10_1) else (heap_object_uint64.l0 k1 l0 a1 (l0.length:Int) x9_1 ji4))) else (none)) else (none))=some (r1,r2):=by first|(rw[hji4] at H;exact H)|(simp only[hji4] at H ⊢;exact H)
    have hji4w:(IntKind.i64.wrap ((IntKind.u64.wrap (wrap64 (x9_1 + x10_1))) / 2))=ji4:=(i64_w _).trans hji4
    by_cases c5:0≤(ji4)
    ·rw[if_pos c5] at H
     replace c5:=decide_eq_true c5
     by_cases c6:(ji4) < (l0.length:Int)
     ·rw[if_pos c6] at H
      replace c6:=decide_eq_true c6
      replace H:=Option.bind_eq_some_iff.mp H
      obtain⟨t258,A70,H⟩:=H
      replace H:(if t258 < 0 then (heap_object_uint64.l0 k1 l0 a1 (l0.length:Int) (wrap64 ((ji4) + 1)) x10_1) else (heap_object_uint64.l0 k1 l0 a1 (l0.length:Int) x9_1 ji4))=some (r1,r2):=H
      have A7:=As A70
      clear A70
      by_cases c8:t258 < 0
      ·rw[if_pos c8] at H
       have c8b0:decide (t258 < 0)=true:=decide_eq_true c8
       clear c8
       have H':=As H
       clear H
       have p257:0≤((ji4):Int):=Z.od
       have q257:(ji4) < (l0.length:Int):=Z.od
       obtain⟨ad257,e257,hx257_0,hx257_1,hx257_2,hx257_3,hx257_4,hx257_5⟩:=at_T92 HR0.out (ji4) p257 q257
       cases e257
       replace hx257_0:=Z.kc HB hx257_0
       replace hx257_1:=Z.kc HB hx257_1
       replace hx257_2:=Z.kc HB hx257_2
       replace hx257_3:=Z.kc HB hx257_3
       replace hx257_4:=Z.kc HB hx257_4
       replace hx257_5:=Z.kc HB hx257_5
       replace p257:=eq_true p257
       replace q257:=eq_true q257
       go_wp2_with (first|((with_reducible refine gate_calleeV77 rfl ?_);refine goesV77_ (some 30) rfl rfl Tryz.func78 (by kernel_rfl) rfl #[.agg #[.int .i64 ((rd_T92 l0 (ji4)).f0),.int .i64 ((rd_T92 l0 (ji4)).f1),.int .u64 ((rd_T92 l0 (ji4)).f2),.int .i64 ((rd_T92 l0 (ji4)).f3.f0),.int .u64 ((rd_T92 l0 (ji4)).f3.f1),.bool ((rd_T92 l0 (ji4)).f4)],.int .u64 a1] rfl (by rfl) (by (try simp only[List.map_toArray,List.map_cons,List.map_nil]);first|done|(simp only[hji4];rfl)|rfl|(simp only[List.length_drop,List.length_take];rfl)) ?_;(with_reducible refine (heap_store_find_1.calls ((rd_T92 l0 (ji4)).f0) ((rd_T92 l0 (ji4)).f1) ((rd_T92 l0 (ji4)).f2) ((rd_T92 l0 (ji4)).f3.f0) ((rd_T92 l0 (ji4)).f3.f1) ((rd_T92 l0 (ji4)).f4) a1 t258 _ A7.out).mono ?_);rintro e w9 ⟨rfl,hb⟩;refine⟨_,rfl,?_⟩;replace HB:=Z.sb hb;(try clear hb);(try clear hb2);(try clear hk);(try clear hi)))
       go_roundg k1
       case measure=>have:=HK1.out;omega
       case rel=>exact⟨(wrap64 ((ji4) + 1)),(x10_1),(by first|rfl|(simp;done)|(simp only[←hji4] <;> (first|rfl|simp))|(simp[*];done)),Z.r_,H',⟨by have:=HK1.out;omega⟩,⟨Z.bl⟩⟩
      ·rw[if_neg c8] at H
       have c8b0:decide (t258 < 0)=false:=decide_eq_false c8
       clear c8
       have H':=As H
       clear H
       have p257:0≤((ji4):Int):=Z.od
       have q257:(ji4) < (l0.length:Int):=Z.od
       obtain⟨ad257,e257,hx257_0,hx257_1,hx257_2,hx257_3,hx257_4,hx257_5⟩:=at_T92 HR0.out (ji4) p257 q257
       cases e257
       replace hx257_0:=Z.kc HB hx257_0
       replace hx257_1:=Z.kc HB hx257_1
       replace hx257_2:=Z.kc HB hx257_2
       replace hx257_3:=Z.kc HB hx257_3
       replace hx257_4:=Z.kc HB hx257_4
       replace hx257_5:=Z.kc HB hx257_5
       replace p257:=eq_true p257
       replace q257:=eq_true q257
       go_wp2_with (first|((with_reducible refine gate_calleeV77 rfl ?_);refine goesV77_ (some 30) rfl rfl Tryz.func78 (by kernel_rfl) rfl #[.agg #[.int .i64 ((rd_T92 l0 (ji4)).f0),.int .i64 ((rd_T92 l0 (ji4)).f1),.int .u64 ((rd_T92 l0 (ji4)).f2),.int .i64 ((rd_T92 l0 (ji4)).f3.f0),.int .u64 ((rd_T92 l0 (ji4)).f3.f1),.bool ((rd_T92 l0 (ji4)).f4)],.int .u64 a1] rfl (by rfl) (by (try simp only[List.map_toArray,List.map_cons,List.map_nil]);first|done|(simp only[hji4];rfl)|rfl|(simp only[List.length_drop,List.length_take];rfl)) ?_;(with_reducible refine (heap_store_find_1.calls ((rd_T92 l0 (ji4)).f0) ((rd_T92 l0 (ji4)).f1) ((rd_T92 l0 (ji4)).f2) ((rd_T92 l0 (ji4)).f3.f0) ((rd_T92 l0 (ji4)).f3.f1) ((rd_T92 l0 (ji4)).f4) a1 t258 _ A7.out).mono ?_);rintro e w10 ⟨rfl,hb⟩;refine⟨_,rfl,?_⟩;replace HB:=Z.sb hb;(try clear hb);(try clear hb2);(try clear hk);(try clear hi)))
       go_roundg k1
       case measure=>have:=HK1.out;omega
       case rel=>exact⟨(x9_1),(ji4),Z.r_,(by first|rfl|(simp;done)|(simp only[←hji4] <;> (first|rfl|simp))|(simp[*];done)),H',⟨by have:=HK1.out;omega⟩,⟨Z.bl⟩⟩
     ·rw[if_neg c6] at H
      exact absurd H (by simp)
    ·rw[if_neg c5] at H
     exact absurd H (by simp)
   ·rw[if_neg c3] at H
    have c3b0:decide (x9_1 < x10_1)=false:=decide_eq_false c3
    clear c3
    by_cases c11:x9_1 < (l0.length:Int)
    ·rw[if_pos c11] at H
     have c11b0:decide (x9_1 < (l0.length:Int))=true:=decide_eq_true c11
     clear c11
     by_cases c12:0≤x9_1
     ·rw[if_pos c12] at H
      replace c12:=decide_eq_true c12
      by_cases c13:x9_1 < (l0.length:Int)
      ·rw[if_pos c13] at H
       replace c13:=decide_eq_true c13
       replace H:=Option.bind_eq_some_iff.mp H
       obtain⟨t260,A140,H⟩:=H
       replace H:(some (x9_1,(t260 == 0)))=some (r1,r2):=H
       have A14:=As A140
       clear A140
       simp only[Option.some.injEq,Prod.mk.injEq] at H
       obtain⟨rfl,rfl⟩:=H
       have p259:0≤(x9_1:Int):=Z.od
       have q259:x9_1 < (l0.length:Int):=Z.od
       obtain⟨ad259,e259,hx259_0,hx259_1,hx259_2,hx259_3,hx259_4,hx259_5⟩:=at_T92 HR0.out x9_1 p259 q259
       cases e259
       replace hx259_0:=Z.kc HB hx259_0
       replace hx259_1:=Z.kc HB hx259_1
       replace hx259_2:=Z.kc HB hx259_2
       replace hx259_3:=Z.kc HB hx259_3
       replace hx259_4:=Z.kc HB hx259_4
       replace hx259_5:=Z.kc HB hx259_5
       replace p259:=eq_true p259
       replace q259:=eq_true q259
       go_wp2_with (first|(go_at_call 78;(with_reducible refine (heap_store_find_1.calls ((rd_T92 l0 x9_1).f0) ((rd_T92 l0 x9_1).f1) ((rd_T92 l0 x9_1).f2) ((rd_T92 l0 x9_1).f3.f0) ((rd_T92 l0 x9_1).f3.f1) ((rd_T92 l0 x9_1).f4) a1 t260 _ A14.out).mono ?_);rintro e w15 ⟨rfl,hb⟩;replace HB:=Z.sb hb;(try clear hb);(try clear hb2);(try clear hk);(try clear hi)))
       go_ret2
       exact⟨Z.e_,Z.bl⟩
      ·rw[if_neg c13] at H
       exact absurd H (by simp)
     ·rw[if_neg c12] at H
      exact absurd H (by simp)
    ·rw[if_neg c11] at H
     have c11b0:decide (x9_1 < (l0.length:Int))=false:=decide_eq_false c11
     clear c11
     simp only[Option.some.injEq,Prod.mk.injEq] at H
     obtain⟨rfl,rfl⟩:=H
     go_wp2
     go_ret2
     exact⟨Z.e_,Z.bl⟩
end Go.Proofs.YtmmfchnbfnegnaaGreatDoor.GK
end
section
namespace Go.Proofs.YtmmfchnbfnegnaaGreatDoor.K
open Go.RowKit Go.Proofs.YtmmfchnbfnegnaaGreatDoorW.PrintWords Go.Proofs.YtmmfchnbfnegnaaGreatDoorW.PrintLast Go.Proofs.YtmmfchnbfnegnaaGreatDoorW.PrintMore Go.Proofs.YtmmfchnbfnegnaaGreatDoor.GK Go.Proofs.YtmmfchnbfnegnaaGreatDoor.Pu Go.Proofs.YtmmfchnbfnegnaaGreatDoor.PuBitW Go.Proofs.YtmmfchnbfnegnaaGreatDoor.PuBits Go.Proofs.YtmmfchnbfnegnaaGreatDoor.PuBitsLay Go.Proofs.YtmmfchnbfnegnaaGreatDoor.PuBitsBoth
set_option linter.unusedVariables false
structure BRel (W:List Int) (n:Nat) (f:Nat→Bool):Prop where
 wf:Words W
 fit:BFit n W
 bit:∀k,bitAt W k=f k
structure XRel (x:S51) (p:Sp):Prop where
 f0:x.f0=p.first
 f1:x.f1=p.pages
 f2:x.f2=p.size
 n3:x.f3.f0=p.slots
 n4:x.f4.f0=p.slots
 al:BRel x.f3.f1 p.slots (fun k=>(p.ob k).isSome)
 mb:BRel x.f4.f1 p.slots (fun k=>(p.ob k).any (·.b))
 f5:x.f5=p.swept
def inSp (ps:List Sp) (j:Nat):Bool:=j == 0 || ps.any fun p=>decide (p.first≤j) && decide (j < p.first + p.pages)
structure HRel (ps:List Sp) (ws us:List Int) (xs:List S51):Prop where
 good:Good ps
 w:WRel ps ws
 u:BRel us 30 (inSp ps)
 xl:xs.length=ps.length
 x:∀(j:Nat) (x:S51) (p:Sp),xs[j]? =some x→ps[j]? =some p→XRel x p
theorem bits_ext {l m:List Int} (hl:Words l) (hm:Words m) (h:l.length=m.length) (hb:∀k,k < 64 * l.length→bitAt l k=bitAt m k):l=m:=by
 refine list_ext h fun j j0 j1=>?_
 obtain⟨q,rfl⟩:∃q:Nat,j=(q:Int):=⟨j.toNat,by omega⟩
 obtain⟨e1,h1⟩:=hl.rd_nat q
 obtain⟨e2,h2⟩:=hm.rd_nat q
 rw[e1,e2]
 congr 1
 apply Nat.eq_of_testBit_eq
 intro i
 by_cases hi:i < 64
 ·have:=hb (64 * q + i) (by omega)
  unfold bitAt at this
  rwa [show (64 * q + i) / 64=q by omega,show (64 * q + i) % 64=i by omega] at this
 ·rw[high _ _ h1 (by omega),high _ _ h2 (by omega)]
theorem BRel.len {W:List Int} {n:Nat} {f:Nat→Bool} (h:BRel W n f):(W.length:Int)=((n:Int) + 63) / 64:=h.fit.2.2.1
theorem BRel.small {W:List Int} {n:Nat} {f:Nat→Bool} (h:BRel W n f):W.length < 17592186044416:=by have:=h.len;have:=h.fit.2.1;omega
theorem equal_ev (l:List Int) (hl:l.length < 1000000):Ev (fun k=>slices_Equal_uint64_uint64.f k l l) true:=by
 have step:∀(d:Nat) (i:Int),0≤i→(l.length:Int) - i=d→Ev (fun k=>slices_Equal_uint64_uint64.l0 k l l (l.length:Int) i) true:=by
  intro d
  induction d with
  |zero=>
   intro i h0 hd
   refine ev_of (K:=1) fun k hk=>?_
   obtain⟨k,rfl⟩:∃m,k=m + 1:=⟨k - 1,by omega⟩
   simp only[slices_Equal_uint64_uint64.l0];rw[if_neg (by omega)]
  |succ d ih=>
   intro i h0 hd
   refine ev_succ (f:=fun k=>slices_Equal_uint64_uint64.l0 k l l (l.length:Int) (i + 1)) (fun k=>?_) (ih (i + 1) (by omega) (by omega))
   simp only[slices_Equal_uint64_uint64.l0]
   rw[if_pos (by omega),w64 (by omega) (by omega)]
   simp[h0,show i < (l.length:Int) by omega]
 unfold slices_Equal_uint64_uint64.f
 simp only[if_true]
 exact step l.length 0 (by omega) (by omega)
theorem XRel.right {x:S51} {p:Sp} (h:XRel x p) (hg:SpGood p):Ev (fun k=>span_right.f k x.f0 x.f1 x.f2 x.f3.f0 x.f3.f1 x.f4.f0 x.f4.f1 x.f5) true:=by
 have hsl:=hg.slots_pos
 have hlo:=hg.lo
 have hhi:=hg.hi
 have hpg:p.pages≤4:=by rcases hg.shaped with⟨_,_,c⟩|⟨_,c⟩ <;> omega
 have hsh:span_shaped.f x.f1 x.f2=some true:=by
  rw[h.f1,h.f2]
  unfold span_shaped.f
  rcases hg.shaped with⟨e,e1,e2⟩|⟨e|e|e|e,e1⟩ <;> rw[e]
  ·simp[show (2:Int)≤(p.pages:Int) by omega,show (p.pages:Int)≤4 by omega]
  all_goals simp[e1]
 have hslots:span_slots.f x.f2=some (p.slots:Int):=by
  rw[h.f2]
  unfold span_slots.f Sp.slots slotsOf
  rcases hg.shaped with⟨e,e1,e2⟩|⟨e|e|e|e,e1⟩ <;> rw[e] <;> decide +kernel
 unfold span_right.f
 rw[hsh]
 simp only[Option.bind_some,if_true]
 have e0:¬x.f0 < 0:=by rw[h.f0];omega
 have e1:¬x.f0 > wrap64 (1024 - x.f1):=by rw[h.f0,h.f1,w64 (by omega) (by omega)];omega
 simp only[e0,e1,if_false,decide_false]
 have hb:=both_ev (n:=x.f3.f0) (q:=x.f4.f0) h.al.wf h.al.small h.mb.wf h.mb.small
 have h3:BFit x.f3.f0 x.f3.f1:=by rw[h.n3];exact h.al.fit
 have h4:BFit x.f4.f0 x.f4.f1:=by rw[h.n4];exact h.mb.fit
 have he:x.f3.f1.length=x.f4.f1.length:=by have:=h.al.len;have:=h.mb.len;omega
 have ea:andF x.f4.f1 x.f4.f1.length 0 x.f3.f1=x.f4.f1:=by
  refine bits_ext (both_words h.al.wf h.mb.wf he) h.mb.wf (by rw[andF_len];exact he) fun k hk=>?_
  rw[andF_len] at hk
  rw[both_bit h.al.wf h.mb.wf he k hk,h.al.bit,h.mb.bit]
  cases p.ob k <;> simp
 have hbe:bothS x.f3.f0 x.f3.f1 x.f4.f0 x.f4.f1=(x.f3.f0,x.f4.f1,0):=by unfold bothS;rw[if_pos ⟨h3,h4,by rw[h.n3,h.n4]⟩,ea]
 rw[hbe] at hb
 have heq:=equal_ev x.f4.f1 (by have:=h.mb.len;have:=h.mb.fit.2.1;omega)
 refine ev_succ (f:=fun k=>(bits_Both.f k x.f3.f0 x.f3.f1 x.f4.f0 x.f4.f1).bind fun bt187=>(if bt187.2.2=0 then (if x.f3.f0=(p.slots:Int) then (if x.f4.f0=(p.slots:Int) then ((slices_Equal_uint64_uint64.f k bt187.2.1 x.f4.f1).bind fun t193=>(some t193)) else (some false)) else (some false)) else (some false))) (fun k=>by simp only[span_right.j0,hslots,Option.bind_some];rfl) ?_
 refine Ev.bind hb ?_
 simp only[h.n3,h.n4,if_true]
 exact Ev.bind heq (ev_const rfl)
theorem XRel.ss {x:S51} {p:Sp} (h:XRel x p):x.f3.f1.length < 1000000∧x.f4.f1.length < 1000000:=by
 have:=h.al.len;have:=h.al.fit.2.1;have:=h.mb.len;have:=h.mb.fit.2.1;omega
theorem rd51 {l:List S51} {i:Int} (h0:0≤i) (h1:i < (l.length:Int)):rd_T51 l i=l[i.toNat]:=by
 simp[rd_T51,List.getD_eq_getElem?_getD,List.getElem?_eq_getElem (show i.toNat < l.length by omega)]
theorem HRel.at {ps:List Sp} {ws us:List Int} {xs:List S51} (h:HRel ps ws us xs) {i:Nat} (hi:i < xs.length):XRel xs[i] (ps[i]'(by have:=h.xl;omega))∧SpGood (ps[i]'(by have:=h.xl;omega)):=
 ⟨h.x i _ _ (List.getElem?_eq_getElem hi) (List.getElem?_eq_getElem _),h.good.sp _ (List.getElem_mem _)⟩
theorem HRel.check {ps:List Sp} {ws us:List Int} {xs:List S51} (h:HRel ps ws us xs) (hl:xs.length≤256):Ev (fun k=>span_Check.f k xs) 0:=by
 have step:∀(d:Nat) (i:Int),0≤i→(xs.length:Int) - i=d→Ev (fun k=>span_Check.l0 k xs xs (xs.length:Int) i) 0:=by
  intro d
  induction d with
  |zero=>
   intro i h0 hd
   refine ev_of (K:=1) fun k hk=>?_
   obtain⟨k,rfl⟩:∃m,k=m + 1:=⟨k - 1,by omega⟩
   simp only[span_Check.l0];rw[if_neg (by omega)]
  |succ d ih=>
   intro i h0 hd
   have hlt:i < (xs.length:Int):=by omega
   obtain⟨hx,hg⟩:=h.at (i:=i.toNat) (by omega)
   have hr:=hx.right hg
   have e:=rd51 h0 hlt
   have nx:=ih (i + 1) (by omega) (by omega)
   have hord:i > 0→wrap64 ((rd_T51 xs (wrap64 (i - 1))).f0 + (rd_T51 xs (wrap64 (i - 1))).f1)≤(rd_T51 xs i).f0:=by
    intro hi
    rw[w64 (a:=i - 1) (by omega) (by omega),e,rd51 (l:=xs) (i:=i - 1) (by omega) (by omega)]
    obtain⟨hy,hgy⟩:=h.at (i:=(i - 1).toNat) (by omega)
    have:=h.good.lt (List.getElem?_eq_getElem (show (i - 1).toNat < ps.length by have:=h.xl;omega)) (List.getElem?_eq_getElem (show i.toNat < ps.length by have:=h.xl;omega)) (by omega)
    have:=hgy.hi
    rw[hy.f0,hy.f1,hx.f0,w64 (by omega) (by omega)]
    omega
   rw[←e] at hr
   refine ev_succ (f:=fun k=>(span_right.f k ((rd_T51 xs i).f0) ((rd_T51 xs i).f1) ((rd_T51 xs i).f2) ((rd_T51 xs i).f3.f0) ((rd_T51 xs i).f3.f1) ((rd_T51 xs i).f4.f0) ((rd_T51 xs i).f4.f1) ((rd_T51 xs i).f5)).bind fun t197=>(if t197=true then (if i > 0 then (if 0≤(wrap64 (i - 1)) then (if (wrap64 (i - 1)) < (xs.length:Int) then (if wrap64 ((rd_T51 xs (wrap64 (i - 1))).f0 + (rd_T51 xs (wrap64 (i - 1))).f1) > ((rd_T51 xs i).f0) then (some 2) else (span_Check.l0 k xs xs (xs.length:Int) (wrap64 (i + 1)))) else (none)) else (none)) else (span_Check.l0 k xs xs (xs.length:Int) (wrap64 (i + 1)))) else (some 2))) (fun k=>by rw[span_Check.l0,if_pos hlt,if_pos h0,if_pos hlt];rfl) (Ev.bind hr ?_)
   simp only[if_true]
   rw[w64 (a:=i + 1) (by omega) (by omega)]
   by_cases hi:i > 0
   ·have h1:=hord hi
    rw[w64 (a:=i - 1) (by omega) (by omega)] at h1 ⊢
    simp only[hi,if_true,show (0:Int)≤i - 1 by omega,show i - 1 < (xs.length:Int) by omega,show ¬(wrap64 ((rd_T51 xs (i - 1)).f0 + (rd_T51 xs (i - 1)).f1) > (rd_T51 xs i).f0) by omega,if_false]
    exact nx
   ·simp only[hi,if_false]
    exact nx
 unfold span_Check.f
 simp only[show ¬((xs.length:Int) > 256) by omega,if_false]
 exact step xs.length 0 (by omega) (by omega)
end Go.Proofs.YtmmfchnbfnegnaaGreatDoor.K
end
