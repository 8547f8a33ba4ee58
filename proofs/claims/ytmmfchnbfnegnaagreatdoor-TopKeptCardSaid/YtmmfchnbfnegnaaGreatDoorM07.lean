import Derived.Test.YtmmfchnbfnegnaaGreatDoorM04
import Derived.Test.YtmmfchnbfnegnaaGreatDoorM06
import Derived.Test.YtmmfchnbfnegnaaGreatDoorM03
section
namespace Go.Proofs.YtmmfchnbfnegnaaGreatDoor.GK
open Go.RowKit Go.Proofs.YtmmfchnbfnegnaaGreatDoorW.PrintWords Go.Proofs.YtmmfchnbfnegnaaGreatDoorW.PrintLast Go.Proofs.YtmmfchnbfnegnaaGreatDoorW.PrintMore
attribute [local go_sem] max2_int min2_int max_two min_two max_three min_three max_four min_four
set_option linter.unusedVariables false
set_option linter.unusedSimpArgs false
def span_Check.l0:Nat→List (S51)→List (S51)→Int→Int→Option (Int)
 |0,_,_,_,_=>none
 |k + 1,x0,x8,x9,x10=>if x10 < x9 then (if 0≤x10 then (if x10 < (x8.length:Int) then ((span_right.f k ((rd_T51 x8 x10).f0) ((rd_T51 x8 x10).f1) ((rd_T51 x8 x10).f2) ((rd_T51 x8 x10).f3.f0) ((rd_T51 x8 x10).f3.f1) ((rd_T51 x8 x10).f4.f0) ((rd_T51 x8 x10).f4.f1) ((rd_T51 x8 x10).f5)).bind fun t197=>(if t197=true then (if x10 > 0 then (if 0≤(wrap64 (x10 - 1)) then (if (wrap64 (x10 - 1)) < (x0.length:Int) then ((span_end.f ((rd_T51 x0 (wrap64 (x10 - 1))).f0) ((rd_T51 x0 (wrap64 (x10 - 1))).f1) ((rd_T51 x0 (wrap64 (x10 - 1))).f2) ((rd_T51 x0 (wrap64 (x10 - 1))).f3.f0) ((rd_T51 x0 (wrap64 (x10 - 1))).f3.f1) ((rd_T51 x0 (wrap64 (x10 - 1))).f4.f0) ((rd_T51 x0 (wrap64 (x10 - 1))).f4.f1) ((rd_T51 x0 (wrap64 (x10 - 1))).f5)).bind fun t199=>(if t199 > ((rd_T51 x8 x10).f0) then (some 2) else (span_Check.l0 k x0 x8 x9 (wrap64 (x10 + 1))))) else (none)) else (none)) else (span_Check.l0 k x0 x8 x9 (wrap64 (x10 + 1)))) else (some 2))) else (none)) else (none)) else (some 0)
def span_Check.f (k:Nat) (l0:List (S51)):Option (Int):=if (l0.length:Int) > 256 then (some 2) else (span_Check.l0 k l0 l0 (l0.length:Int) 0)
def span_Check.T6:Bool×List (List Nat×List Nat):=(true,[([],[]),([0],[0]),([1],[1]),([2,1],[2]),([3],[3]),([4,3],[3,4]),([5,3,3],[3,5]),([6],[6]),([6],[6]),([8,6],[6,8]),([7,9,6],[6,7,9]),([10,6],[6,10]),([11,6,6],[6,11]),([6],[6]),([13,6],[6,13]),([12,14,6],[6,12,14]),([6,15,3],[3,6,15]),([3,16],[3,16])])
def span_Check.B6:List Nat:=[0,1,3,7,15,31,63,127,127,383,1023,2047,4095,127,8319,32767,65535,131071]
theorem span_Check.tab6:rtab .any (opsOf Tryz.f60 6)=span_Check.T6:=by kernel_rfl
theorem span_Check.bits6:waitsOk span_Check.T6.2 span_Check.B6=true:=by kernel_rfl
set_option maxHeartbeats 8000000 in
set_option maxRecDepth 100000 in
theorem span_Check.calls (k:Nat) (A0:Option Addr) (c0:Nat) (l0:List (S51)) (r:Int) (w:World) (hr0:Kd.C k51 w A0 l0.length l0) (hc0:l0.length≤c0) (h:span_Check.f k l0=some r):
  Calls Tryz.prog 60 #[.slice A0 l0.length c0] w fun e w'=>e=.returned (.int .i64 r)∧Below w.heap.size w w':=by
 have hu51:=Tryz.underlying51
 have HR0:=As hr0
 have HC0:=As hc0
 clear hr0 hc0
 have HB:=As (Below.refl w.heap.size w)
 have H:(if (l0.length:Int) > 256 then (some 2) else (span_Check.l0 k l0 l0 (l0.length:Int) 0))=some r:=h
 clear h
 by_cases c2:(l0.length:Int) > 256
 ·rw[if_pos c2] at H
  have c2b0:decide (256 < (l0.length:Int))=true:=decide_eq_true c2
  have c2b1:decide (256 < l0.length)=true:=decide_eq_true (by omega)
  clear c2
  obtain rfl:=Option.some.inj H
  go_enter Tryz.func60,Tryz.ntmps60
  go_wp2
  go_ret
  exact⟨Z.e_,Z.bl⟩
 ·rw[if_neg c2] at H
  have c2b0:decide (256 < (l0.length:Int))=false:=decide_eq_false c2
  have c2b1:decide (256 < l0.length)=false:=decide_eq_false (by omega)
  clear c2
  have H':=As H
  clear H
  go_enter Tryz.func60,Tryz.ntmps60
  go_wp2
  go_loopg [10] k (fun kq v10 w'=>∃(x10_1:Int),v10=.int .i64 x10_1∧Aside0 (span_Check.l0 kq l0 l0 (l0.length:Int) x10_1=some r)∧Aside0 (kq≤k)∧Aside0 (Below w.heap.size w w'))
  case atStart=>exact⟨(0),Z.r_,H',⟨Nat.le_refl _⟩,⟨Z.bl⟩⟩
  case round=>
   clear H'
   try clear c2
   try clear c2b0
   try clear c2b1
   try clear p2
   obtain⟨x10_1,rfl,HA,HK1,HB⟩:=hrel
   cases gk with
   |zero=>exact absurd HA.out (by simp[span_Check.l0])
   |succ k1=>
    have H:=HA.out
    clear HA
    simp only[span_Check.l0] at H
    by_cases c3:x10_1 < (l0.length:Int)
    ·rw[if_pos c3] at H
     have c3b0:decide (x10_1 < (l0.length:Int))=true:=decide_eq_true c3
     clear c3
     by_cases c4:0≤x10_1
     ·rw[if_pos c4] at H
      replace c4:=decide_eq_true c4
      by_cases c5:x10_1 < (l0.length:Int)
      ·rw[if_pos c5] at H
       replace c5:=decide_eq_true c5
       replace H:=Option.bind_eq_some_iff.mp H
       obtain⟨t197,A60,H⟩:=H
       replace H:(if t197=true then (if x10_1 > 0 then (if 0≤(wrap64 (x10_1 - 1)) then (if (wrap64 (x10_1 - 1)) < (l0.length:Int) then ((span_end.f ((rd_T51 l0 (wrap64 (x10_1 - 1))).f0) ((rd_T51 l0 (wrap64 (x10_1 - 1))).f1) ((rd_T51 l0 (wrap64 (x10_1 - 1))).f2) ((rd_T51 l0 (wrap64 (x10_1 - 1))).f3.f0) ((rd_T51 l0 (wrap64 (x10_1 - 1))).f3.f1) ((rd_T51 l0 (wrap64 (x10_1 - 1))).f4.f0) ((rd_T51 l0 (wrap64 (x10_1 - 1))).f4.f1) ((rd_T51 l0 (wrap64 (x10_1 - 1))).f5)).bind fun t199=>(if t199 > ((rd_T51 l0 x10_1).f0) then (some 2) else (span_Check.l0 k1 l0 l0 (l0.length:Int) (wrap64 (x10_1 + 1))))) else (none)) else (none)) else (span_Check.l0 k1 l0 l0 (l0.length:Int) (wrap64 (x10_1 + 1)))) else (some 2))=some r:=H
       have A6:=As A60
       clear A60
       by_cases c7:t197=true
       ·subst c7
        have H1:(if x10_1 > 0 then (if 0≤(wrap64 (x10_1 - 1)) then (if (wrap64 (x10_1 - 1)) < (l0.length:Int) then ((span_end.f ((rd_T51 l0 (wrap64 (x10_1 - 1))).f0) ((rd_T51 l0 (wrap64 (x10_1 - 1))).f1) ((rd_T51 l0 (wrap64 (x10_1 - 1))).f2) ((rd_T51 l0 (wrap64 (x10_1 - 1))).f3.f0) ((rd_T51 l0 (wrap64 (x10_1 - 1))).f3.f1) ((rd_T51 l0 (wrap64 (x10_1 - 1))).f4.f0) ((rd_T51 l0 (wrap64 (x10_1 - 1))).f4.f1) ((rd_T51 l0 (wrap64 (x10_1 - 1))).f5)).bind fun t199=>(if t199 > ((rd_T51 l0 x10_1).f0) then (some 2) else (span_Check.l0 k1 l0 l0 (l0.length:Int) (wrap64 (x10_1 + 1))))) else (none)) else (none)) else (span_Check.l0 k1 l0 l0 (l0.length:Int) (wrap64 (x10_1 + 1))))=some r:=by rw[if_pos rfl] at H;exact H
        clear H
        have H:=H1
        clear H1
        by_cases c8:x10_1 > 0
        ·rw[if_pos c8] at H
         have c8b0:decide (0 < x10_1)=true:=decide_eq_true c8
         clear c8
         obtain⟨ji9,hji9⟩:∃j_:Int,(wrap64 (x10_1 - 1))=j_:=⟨_,rfl⟩
         replace H:(if 0≤(ji9) then (if (ji9) < (l0.length:Int) then ((span_end.f ((rd_T51 l0 (ji9)).f0) ((rd_T51 l0 (ji9)).f1) ((rd_T51 l0 (ji9)).f2) ((rd_T51 l0 (ji9)).f3.f0) ((rd_T51 l0 (ji9)).f3.f1) ((rd_T51 l0 (ji9)).f4.f0) ((rd_T51 l0 (ji9)).f4.f1) ((rd_T51 l0 (ji9)).f5)).bind fun t199=>(if t199 > ((rd_T51 l0 x10_1).f0) then (some 2) else (span_Check.l0 k1 l0 l0 (l0.length:Int) (wrap64 (x10_1 + 1))))) else (none)) else (none))=some r:=by first|(rw[hji9] at H;exact H)|(simp only[hji9] at H ⊢;exact H)
         (try rw[hji9] at A6)
         have hji9w:(IntKind.i64.wrap (x10_1 - 1))=ji9:=(i64_w _).trans hji9
         by_cases c10:0≤(ji9)
         ·rw[if_pos c10] at H
          replace c10:=decide_eq_true c10
          by_cases c11:(ji9) < (l0.length:Int)
          ·rw[if_pos c11] at H
           replace c11:=decide_eq_true c11
           replace H:=Option.bind_eq_some_iff.mp H
           obtain⟨t199,A120,H⟩:=H
           replace H:(if t199 > ((rd_T51 l0 x10_1).f0) then (some 2) else (span_Check.l0 k1 l0 l0 (l0.length:Int) (wrap64 (x10_1 + 1))))=some r:=H
           have A12:=As A120
           clear A120
           by_cases c13:t199 > ((rd_T51 l0 x10_1).f0)
           ·rw[if_pos c13] at H
            have c13b0:decide (((rd_T51 l0 x10_1).f0) < t199)=true:=decide_eq_true c13
            clear c13
            obtain rfl:=Option.some.inj H
            have p195:0≤(x10_1:Int):=Z.od
            have q195:x10_1 < (l0.length:Int):=Z.od
            obtain⟨ad195,A195_4,c195_4,A195_6,c195_6,e195,hx195_0,hx195_1,hx195_2,hx195_3,hx195_4,hx195_5,hx195_6,hx195_7,hl195_4,hi195_4,hl195_6,hi195_6⟩:=at_T51 HR0.out x10_1 p195 q195
            cases e195
            replace hx195_0:=Z.kc HB hx195_0
            replace hx195_1:=Z.kc HB hx195_1
            replace hx195_2:=Z.kc HB hx195_2
            replace hx195_3:=Z.kc HB hx195_3
            replace hx195_4:=Z.kc HB hx195_4
            replace hx195_5:=Z.kc HB hx195_5
            replace hx195_6:=Z.kc HB hx195_6
            replace hx195_7:=Z.kc HB hx195_7
            have HR195_4:=As hi195_4
            have HC195_4:=As hl195_4
            clear hi195_4 hl195_4
            have HR195_6:=As hi195_6
            have HC195_6:=As hl195_6
            clear hi195_6 hl195_6
            replace p195:=eq_true p195
            replace q195:=eq_true q195
            try go_wp2_with (first|((with_reducible refine gate_dst (N:=4) rfl ?_);refine Z.bx 4 #[.int .i64 0,.int .i64 0,.int .i64 0,.int .i64 0,.slice none 0 0,.int .i64 0,.slice none 0 0,.bool false] 51 fun gb196 hg w14 hbox hb=>?_;have BK196:=As hbox;have GW196:=Z.ge hg;have GE196:=Z.ge hg;replace HB:=Z.sb hb;clear hb hbox hg;have hcz15_0:=Z.c0 BK196.out;have hcz15_1:=Z.c1 BK196.out;have hcz15_2:=Z.c2 BK196.out;have hcz15_3:=Z.c3 BK196.out;have hcz15_4:=Z.c4 BK196.out;have hcz15_5:=Z.c5 BK196.out;have hcz15_6:=Z.c6 BK196.out;have hcz15_7:=Z.c7 BK196.out;have hfz15_0:=blk_frozen BK196.out 0;have hfz15_1:=blk_frozen BK196.out 1;have hfz15_2:=blk_frozen BK196.out 2;have hfz15_3:=blk_frozen BK196.out 3;have hfz15_4:=blk_frozen BK196.out 4;have hfz15_5:=blk_frozen BK196.out 5;have hfz15_6:=blk_frozen BK196.out 6;have hfz15_7:=blk_frozen BK196.out 7))
            have n0_:Aside0 (((((((((w14.setCell ⟨gb196,0,none⟩ (.int .i64 ((rd_T51 l0 x10_1).f0))).setCell ⟨gb196,1,none⟩ (.int .i64 ((rd_T51 l0 x10_1).f1))).setCell ⟨gb196,2,none⟩ (.int .i64 ((rd_T51 l0 x10_1).f2))).setCell ⟨gb196,3,none⟩ (.int .i64 ((rd_T51 l0 x10_1).f3.f0))).setCell ⟨gb196,4,none⟩ (.slice A195_4 ((rd_T51 l0 x10_1).f3.f1).length c195_4)).setCell ⟨gb196,5,none⟩ (.int .i64 ((rd_T51 l0 x10_1).f4.f0))).setCell ⟨gb196,6,none⟩ (.slice A195_6 ((rd_T51 l0 x10_1).f4.f1).length c195_6)).setCell ⟨gb196,7,none⟩ (.bool ((rd_T51 l0 x10_1).f5))).heap[gb196]? =some (.cells #[.int .i64 ((rd_T51 l0 x10_1).f0),.int .i64 ((rd_T51 l0 x10_1).f1),.int .i64 ((rd_T51 l0 x10_1).f2),.int .i64 ((rd_T51 l0 x10_1).f3.f0),.slice A195_4 ((rd_T51 l0 x10_1).f3.f1).length c195_4,.int .i64 ((rd_T51 l0 x10_1).f4.f0),.slice A195_6 ((rd_T51 l0 x10_1).f4.f1).length c195_6,.bool ((rd_T51 l0 x10_1).f5)] 51 (0,0))):=⟨Z.bs⟩
            have n1_:Aside0 (Below w.heap.size w ((((((((w14.setCell ⟨gb196,0,none⟩ (.int .i64 ((rd_T51 l0 x10_1).f0))).setCell ⟨gb196,1,none⟩ (.int .i64 ((rd_T51 l0 x10_1).f1))).setCell ⟨gb196,2,none⟩ (.int .i64 ((rd_T51 l0 x10_1).f2))).setCell ⟨gb196,3,none⟩ (.int .i64 ((rd_T51 l0 x10_1).f3.f0))).setCell ⟨gb196,4,none⟩ (.slice A195_4 ((rd_T51 l0 x10_1).f3.f1).length c195_4)).setCell ⟨gb196,5,none⟩ (.int .i64 ((rd_T51 l0 x10_1).f4.f0))).setCell ⟨gb196,6,none⟩ (.slice A195_6 ((rd_T51 l0 x10_1).f4.f1).length c195_6)).setCell ⟨gb196,7,none⟩ (.bool ((rd_T51 l0 x10_1).f5)))):=⟨Z.bl⟩
            (try clear BK196)
            (try clear HB)
            generalize ((((((((w14.setCell ⟨gb196,0,none⟩ (.int .i64 ((rd_T51 l0 x10_1).f0))).setCell ⟨gb196,1,none⟩ (.int .i64 ((rd_T51 l0 x10_1).f1))).setCell ⟨gb196,2,none⟩ (.int .i64 ((rd_T51 l0 x10_1).f2))).setCell ⟨gb196,3,none⟩ (.int .i64 ((rd_T51 l0 x10_1).f3.f0))).setCell ⟨gb196,4,none⟩ (.slice A195_4 ((rd_T51 l0 x10_1).f3.f1).length c195_4)).setCell ⟨gb196,5,none⟩ (.int .i64 ((rd_T51 l0 x10_1).f4.f0))).setCell ⟨gb196,6,none⟩ (.slice A195_6 ((rd_T51 l0 x10_1).f4.f1).length c195_6)).setCell ⟨gb196,7,none⟩ (.bool ((rd_T51 l0 x10_1).f5)))=w16 at n0_ n1_ ⊢
            have BK196:=n0_
            have HB:=n1_
            clear n0_ n1_
            replace BK196:=As (blk_drew BK196.out)
            replace HB:=As (below_drew1 HB.out)
            have p198:0≤((ji9):Int):=Z.od
            have q198:(ji9) < (l0.length:Int):=Z.od
            obtain⟨ad198,A198_4,c198_4,A198_6,c198_6,e198,hx198_0,hx198_1,hx198_2,hx198_3,hx198_4,hx198_5,hx198_6,hx198_7,hl198_4,hi198_4,hl198_6,hi198_6⟩:=at_T51 HR0.out (ji9) p198 q198
            have hw198_7:=hx198_7
            have hw198_6:=hx198_6
            have hw198_5:=hx198_5
            have hw198_4:=hx198_4
            have hw198_3:=hx198_3
            have hw198_2:=hx198_2
            have hw198_1:=hx198_1
            have hw198_0:=hx198_0
            obtain rfl:ad195=ad198:=(by injection e198)
            replace hx198_0:=Z.kc HB hx198_0
            replace hx198_1:=Z.kc HB hx198_1
            replace hx198_2:=Z.kc HB hx198_2
            replace hx198_3:=Z.kc HB hx198_3
            replace hx198_4:=Z.kc HB hx198_4
            replace hx198_5:=Z.kc HB hx198_5
            replace hx198_6:=Z.kc HB hx198_6
            replace hx198_7:=Z.kc HB hx198_7
            have HR198_4:=As hi198_4
            have HC198_4:=As hl198_4
            clear hi198_4 hl198_4
            have HR198_6:=As hi198_6
            have HC198_6:=As hl198_6
            clear hi198_6 hl198_6
            replace p198:=eq_true p198
            replace q198:=eq_true q198
            refine start_ (n:=18) (S:=fun w'=>w'.cell? ⟨gb196,0,none⟩=some (.int .i64 ((rd_T51 l0 x10_1).f0))∧w'.cell? ⟨gb196,1,none⟩=some (.int .i64 ((rd_T51 l0 x10_1).f1))∧w'.cell? ⟨gb196,2,none⟩=some (.int .i64 ((rd_T51 l0 x10_1).f2))∧w'.cell? ⟨gb196,3,none⟩=some (.int .i64 ((rd_T51 l0 x10_1).f3.f0))∧w'.cell? ⟨gb196,4,none⟩=some (.slice A195_4 ((rd_T51 l0 x10_1).f3.f1).length c195_4)∧w'.cell? ⟨gb196,5,none⟩=some (.int .i64 ((rd_T51 l0 x10_1).f4.f0))∧w'.cell? ⟨gb196,6,none⟩=some (.slice A195_6 ((rd_T51 l0 x10_1).f4.f1).length c195_6)∧w'.cell? ⟨gb196,7,none⟩=some (.bool ((rd_T51 l0 x10_1).f5))∧w'.cell? (ad195.add (((ji9)).toNat * 8))=some (.int .i64 ((rd_T51 l0 (ji9)).f0))∧w'.cell? ⟨(ad195.add (((ji9)).toNat * 8)).block,(ad195.add (((ji9)).toNat * 8)).off + 1,none⟩=some (.int .i64 ((rd_T51 l0 (ji9)).f1))∧w'.cell? ⟨(ad195.add (((ji9)).toNat * 8)).block,(ad195.add (((ji9)).toNat * 8)).off + 2,none⟩=some (.int .i64 ((rd_T51 l0 (ji9)).f2))∧w'.cell? ⟨(ad195.add (((ji9)).toNat * 8)).block,(ad195.add (((ji9)).toNat * 8)).off + 3,none⟩=some (.int .i64 ((rd_T51 l0 (ji9)).f3.f0))∧w'.cell? ⟨(ad195.add (((ji9)).toNat * 8)).block,(ad195.add (((ji9)).toNat * 8)).off + 4,none⟩=some (.slice A198_4 ((rd_T51 l0 (ji9)).f3.f1).length c198_4)∧w'.cell? ⟨(ad195.add (((ji9)).toNat * 8)).block,(ad195.add (((ji9)).toNat * 8)).off + 5,none⟩=some (.int .i64 ((rd_T51 l0 (ji9)).f4.f0))∧w'.cell? ⟨(ad195.add (((ji9)).toNat * 8)).block,(ad195.add (((ji9)).toNat * 8)).off + 6,none⟩=some (.slice A198_6 ((rd_T51 l0 (ji9)).f4.f1).length c198_6)∧w'.cell? ⟨(ad195.add (((ji9)).toNat * 8)).block,(ad195.add (((ji9)).toNat * 8)).off + 7,none⟩=some (.bool ((rd_T51 l0 (ji9)).f5))) (ds:=[]) #[false,false,false,false,false,false,false,false,false,false,false,false,false,false,false,false,false,false] (by kernel_rfl) rfl rfl ⟨(blk_cell BK196.out 0).trans rfl,(blk_cell BK196.out 1).trans rfl,(blk_cell BK196.out 2).trans rfl,(blk_cell BK196.out 3).trans rfl,(blk_cell BK196.out 4).trans rfl,(blk_cell BK196.out 5).trans rfl,(blk_cell BK196.out 6).trans rfl,(blk_cell BK196.out 7).trans rfl,(Z.kc HB hw198_0),(Z.kc HB hw198_1),(Z.kc HB hw198_2),(Z.kc HB hw198_3),(Z.kc HB hw198_4),(Z.kc HB hw198_5),(Z.kc HB hw198_6),(Z.kc HB hw198_7)⟩ (fun hHeld=>?_);refine with_tabW span_Check.tab6 span_Check.bits6 (fun HT_ HW_=>?_)
            generalize w16.drew=w17 at BK196 HB HR198_4 HR198_6 hx198_0 hx198_1 hx198_2 hx198_3 hx198_4 hx198_5 hx198_6 hx198_7 hHeld ⊢
            refine Z.u_ 0 15 HT_ HW_ hHeld ?_
            refine one_ (i:=1) (N:=some 16) #[true,true,false,false,false,false,false,false,false,false,false,false,false,false,false,false,false,false] rfl rfl (one_of HT_.out (by kernel_rfl)) (by decide) (fun K hK=>?_)
            refine goes_ Tryz.func93 (by kernel_rfl) rfl #[.agg #[.int .i64 ((rd_T51 l0 x10_1).f0),.int .i64 ((rd_T51 l0 x10_1).f1),.int .i64 ((rd_T51 l0 x10_1).f2),.int .i64 ((rd_T51 l0 x10_1).f3.f0),.slice A195_4 ((rd_T51 l0 x10_1).f3.f1).length c195_4,.int .i64 ((rd_T51 l0 x10_1).f4.f0),.slice A195_6 ((rd_T51 l0 x10_1).f4.f1).length c195_6,.bool ((rd_T51 l0 x10_1).f5)]] (by rfl) rfl rfl (by (try simp only[List.map_toArray,List.map_cons,List.map_nil]);first|done|rfl|(simp only[List.length_drop,List.length_take];rfl)) ?_
            with_reducible refine (span_right.calls k1 ((rd_T51 l0 x10_1).f0) ((rd_T51 l0 x10_1).f1) ((rd_T51 l0 x10_1).f2) ((rd_T51 l0 x10_1).f3.f0) _ _ ((rd_T51 l0 x10_1).f3.f1) ((rd_T51 l0 x10_1).f4.f0) _ _ ((rd_T51 l0 x10_1).f4.f1) ((rd_T51 l0 x10_1).f5) true _ ?side1 ?side2 ?side3 ?side4 A6.out).mono ?_
            (case side1=>repeat (first|exact (Kd.C_below HR195_4.out HB.out)|(with_reducible refine Kd.C_alloc ?_ _)|(with_reducible refine Kd.C_drewN ?_ _)|(with_reducible refine Kd.C_drew ?_)))
            (case side2=>exact HC195_4.out)
            (case side3=>repeat (first|exact (Kd.C_below HR195_6.out HB.out)|(with_reducible refine Kd.C_alloc ?_ _)|(with_reducible refine Kd.C_drewN ?_ _)|(with_reducible refine Kd.C_drew ?_)))
            (case side4=>exact HC195_6.out)
            rintro e w18 ⟨rfl,hb⟩
            refine⟨_,rfl,?_⟩
            replace HB:=Z.sb hb
            replace BK196:=Z.kb BK196 hb
            (try clear hb)
            (try clear hb2)
            (try clear hk)
            (try clear hi)
            refine hK.out _ _ ⟨(blk_cell BK196.out 0).trans rfl,(blk_cell BK196.out 1).trans rfl,(blk_cell BK196.out 2).trans rfl,(blk_cell BK196.out 3).trans rfl,(blk_cell BK196.out 4).trans rfl,(blk_cell BK196.out 5).trans rfl,(blk_cell BK196.out 6).trans rfl,(blk_cell BK196.out 7).trans rfl,(Z.kc HB hw198_0),(Z.kc HB hw198_1),(Z.kc HB hw198_2),(Z.kc HB hw198_3),(Z.kc HB hw198_4),(Z.kc HB hw198_5),(Z.kc HB hw198_6),(Z.kc HB hw198_7)⟩ (fun hHeld=>?_)
            clear hK K
            refine Z.n_ 16 ?_
            refine Z.q_ 2 17 HT_ ?_
            refine Z.q_ 3 18 HT_ ?_
            refine Z.q_ 4 19 HT_ ?_
            refine Z.q_ 5 20 HT_ ?_
            refine Z.q_ 6 21 HT_ ?_
            refine Z.q_ 7 22 HT_ ?_
            refine Z.q_ 8 23 HT_ ?_
            refine Z.q_ 9 24 HT_ ?_
            refine Z.q_ 10 25 HT_ ?_
            refine Z.q_ 13 28 HT_ ?_
            refine Z.u_ 11 26 HT_ HW_ hHeld ?_
            refine Z.u_ 14 29 HT_ HW_ hHeld ?_
            refine one_ (i:=12) (N:=some 27) #[true,true,true,true,true,true,true,true,true,true,true,true,true,true,true,false,false,false] rfl rfl (one_of HT_.out (by kernel_rfl)) (by decide) (fun K hK=>?_)
            refine goes_ Tryz.func94 (by kernel_rfl) rfl #[.agg #[.int .i64 ((rd_T51 l0 (ji9)).f0),.int .i64 ((rd_T51 l0 (ji9)).f1),.int .i64 ((rd_T51 l0 (ji9)).f2),.int .i64 ((rd_T51 l0 (ji9)).f3.f0),.slice A198_4 ((rd_T51 l0 (ji9)).f3.f1).length c198_4,.int .i64 ((rd_T51 l0 (ji9)).f4.f0),.slice A198_6 ((rd_T51 l0 (ji9)).f4.f1).length c198_6,.bool ((rd_T51 l0 (ji9)).f5)]] (by rfl) rfl rfl (by (try simp only[List.map_toArray,List.map_cons,List.map_nil]);first|done|(simp only[hji9];rfl)|rfl|(simp only[List.length_drop,List.length_take];rfl)) ?_
            with_reducible refine (span_end.calls ((rd_T51 l0 (ji9)).f0) ((rd_T51 l0 (ji9)).f1) ((rd_T51 l0 (ji9)).f2) ((rd_T51 l0 (ji9)).f3.f0) _ _ ((rd_T51 l0 (ji9)).f3.f1) ((rd_T51 l0 (ji9)).f4.f0) _ _ ((rd_T51 l0 (ji9)).f4.f1) ((rd_T51 l0 (ji9)).f5) t199 _ ?side1 ?side2 ?side3 ?side4 A12.out).mono ?_
            (case side1=>repeat (first|exact (Kd.C_below HR198_4.out HB.out)|(with_reducible refine Kd.C_alloc ?_ _)|(with_reducible refine Kd.C_drewN ?_ _)|(with_reducible refine Kd.C_drew ?_)))
            (case side2=>exact HC198_4.out)
            (case side3=>repeat (first|exact (Kd.C_below HR198_6.out HB.out)|(with_reducible refine Kd.C_alloc ?_ _)|(with_reducible refine Kd.C_drewN ?_ _)|(with_reducible refine Kd.C_drew ?_)))
            (case side4=>exact HC198_6.out)
            rintro e w19 ⟨rfl,hb⟩
            refine⟨_,rfl,?_⟩
            replace HB:=Z.sb hb
            replace BK196:=Z.kb BK196 hb
            (try clear hb)
            (try clear hb2)
            (try clear hk)
            (try clear hi)
            refine hK.out _ _ ⟨(blk_cell BK196.out 0).trans rfl,(blk_cell BK196.out 1).trans rfl,(blk_cell BK196.out 2).trans rfl,(blk_cell BK196.out 3).trans rfl,(blk_cell BK196.out 4).trans rfl,(blk_cell BK196.out 5).trans rfl,(blk_cell BK196.out 6).trans rfl,(blk_cell BK196.out 7).trans rfl,(Z.kc HB hw198_0),(Z.kc HB hw198_1),(Z.kc HB hw198_2),(Z.kc HB hw198_3),(Z.kc HB hw198_4),(Z.kc HB hw198_5),(Z.kc HB hw198_6),(Z.kc HB hw198_7)⟩ (fun hHeld=>?_)
            clear hK K
            refine Z.n_ 27 ?_
            refine Z.q_ 15 30 HT_ ?_
            refine Z.q_ 16 31 HT_ ?_
            refine Z.q_ 17 32 HT_ ?_
            refine done_ (done_of HT_.out (by kernel_rfl)) ?_
            try go_wp2
            go_ret
            exact⟨by first|rfl|(simp[errW_none,errW_some] <;> rfl)|(simp only[←hji9];first|rfl|(simp[errW_none,errW_some] <;> rfl))|(simp[*,errW_none,errW_some] <;> rfl),Z.bl⟩
           ·rw[if_neg c13] at H
            have c13b0:decide (((rd_T51 l0 x10_1).f0) < t199)=false:=decide_eq_false c13
            clear c13
            have H':=As H
            clear H
            have p195:0≤(x10_1:Int):=Z.od
            have q195:x10_1 < (l0.length:Int):=Z.od
            obtain⟨ad195,A195_4,c195_4,A195_6,c195_6,e195,hx195_0,hx195_1,hx195_2,hx195_3,hx195_4,hx195_5,hx195_6,hx195_7,hl195_4,hi195_4,hl195_6,hi195_6⟩:=at_T51 HR0.out x10_1 p195 q195
            cases e195
            replace hx195_0:=Z.kc HB hx195_0
            replace hx195_1:=Z.kc HB hx195_1
            replace hx195_2:=Z.kc HB hx195_2
            replace hx195_3:=Z.kc HB hx195_3
            replace hx195_4:=Z.kc HB hx195_4
            replace hx195_5:=Z.kc HB hx195_5
            replace hx195_6:=Z.kc HB hx195_6
            replace hx195_7:=Z.kc HB hx195_7
            have HR195_4:=As hi195_4
            have HC195_4:=As hl195_4
            clear hi195_4 hl195_4
            have HR195_6:=As hi195_6
            have HC195_6:=As hl195_6
            clear hi195_6 hl195_6
            replace p195:=eq_true p195
            replace q195:=eq_true q195
            try go_wp2_with (first|((with_reducible refine gate_dst (N:=4) rfl ?_);refine Z.bx 4 #[.int .i64 0,.int .i64 0,.int .i64 0,.int .i64 0,.slice none 0 0,.int .i64 0,.slice none 0 0,.bool false] 51 fun gb196 hg w20 hbox hb=>?_;have BK196:=As hbox;have GW196:=Z.ge hg;have GE196:=Z.ge hg;replace HB:=Z.sb hb;clear hb hbox hg;have hcz21_0:=Z.c0 BK196.out;have hcz21_1:=Z.c1 BK196.out;have hcz21_2:=Z.c2 BK196.out;have hcz21_3:=Z.c3 BK196.out;have hcz21_4:=Z.c4 BK196.out;have hcz21_5:=Z.c5 BK196.out;have hcz21_6:=Z.c6 BK196.out;have hcz21_7:=Z.c7 BK196.out;have hfz21_0:=blk_frozen BK196.out 0;have hfz21_1:=blk_frozen BK196.out 1;have hfz21_2:=blk_frozen BK196.out 2;have hfz21_3:=blk_frozen BK196.out 3;have hfz21_4:=blk_frozen BK196.out 4;have hfz21_5:=blk_frozen BK196.out 5;have hfz21_6:=blk_frozen BK196.out 6;have hfz21_7:=blk_frozen BK196.out 7))
            have n0_:Aside0 (((((((((w20.setCell ⟨gb196,0,none⟩ (.int .i64 ((rd_T51 l0 x10_1).f0))).setCell ⟨gb196,1,none⟩ (.int .i64 ((rd_T51 l0 x10_1).f1))).setCell ⟨gb196,2,none⟩ (.int .i64 ((rd_T51 l0 x10_1).f2))).setCell ⟨gb196,3,none⟩ (.int .i64 ((rd_T51 l0 x10_1).f3.f0))).setCell ⟨gb196,4,none⟩ (.slice A195_4 ((rd_T51 l0 x10_1).f3.f1).length c195_4)).setCell ⟨gb196,5,none⟩ (.int .i64 ((rd_T51 l0 x10_1).f4.f0))).setCell ⟨gb196,6,none⟩ (.slice A195_6 ((rd_T51 l0 x10_1).f4.f1).length c195_6)).setCell ⟨gb196,7,none⟩ (.bool ((rd_T51 l0 x10_1).f5))).heap[gb196]? =some (.cells #[.int .i64 ((rd_T51 l0 x10_1).f0),.int .i64 ((rd_T51 l0 x10_1).f1),.int .i64 ((rd_T51 l0 x10_1).f2),.int .i64 ((rd_T51 l0 x10_1).f3.f0),.slice A195_4 ((rd_T51 l0 x10_1).f3.f1).length c195_4,.int .i64 ((rd_T51 l0 x10_1).f4.f0),.slice A195_6 ((rd_T51 l0 x10_1).f4.f1).length c195_6,.bool ((rd_T51 l0 x10_1).f5)] 51 (0,0))):=⟨Z.bs⟩
            have n1_:Aside0 (Below w.heap.size w ((((((((w20.setCell ⟨gb196,0,none⟩ (.int .i64 ((rd_T51 l0 x10_1).f0))).setCell ⟨gb196,1,none⟩ (.int .i64 ((rd_T51 l0 x10_1).f1))).setCell ⟨gb196,2,none⟩ (.int .i64 ((rd_T51 l0 x10_1).f2))).setCell ⟨gb196,3,none⟩ (.int .i64 ((rd_T51 l0 x10_1).f3.f0))).setCell ⟨gb196,4,none⟩ (.slice A195_4 ((rd_T51 l0 x10_1).f3.f1).length c195_4)).setCell ⟨gb196,5,none⟩ (.int .i64 ((rd_T51 l0 x10_1).f4.f0))).setCell ⟨gb196,6,none⟩ (.slice A195_6 ((rd_T51 l0 x10_1).f4.f1).length c195_6)).setCell ⟨gb196,7,none⟩ (.bool ((rd_T51 l0 x10_1).f5)))):=⟨Z.bl⟩
            (try clear BK196)
            (try clear HB)
            generalize ((((((((w20.setCell ⟨gb196,0,none⟩ (.int .i64 ((rd_T51 l0 x10_1).f0))).setCell ⟨gb196,1,none⟩ (.int .i64 ((rd_T51 l0 x10_1).f1))).setCell ⟨gb196,2,none⟩ (.int .i64 ((rd_T51 l0 x10_1).f2))).setCell ⟨gb196,3,none⟩ (.int .i64 ((rd_T51 l0 x10_1).f3.f0))).setCell ⟨gb196,4,none⟩ (.slice A195_4 ((rd_T51 l0 x10_1).f3.f1).length c195_4)).setCell ⟨gb196,5,none⟩ (.int .i64 ((rd_T51 l0 x10_1).f4.f0))).setCell ⟨gb196,6,none⟩ (.slice A195_6 ((rd_T51 l0 x10_1).f4.f1).length c195_6)).setCell ⟨gb196,7,none⟩ (.bool ((rd_T51 l0 x10_1).f5)))=w22 at n0_ n1_ ⊢
            have BK196:=n0_
            have HB:=n1_
            clear n0_ n1_
            replace BK196:=As (blk_drew BK196.out)
            replace HB:=As (below_drew1 HB.out)
            have p198:0≤((ji9):Int):=Z.od
            have q198:(ji9) < (l0.length:Int):=Z.od
            obtain⟨ad198,A198_4,c198_4,A198_6,c198_6,e198,hx198_0,hx198_1,hx198_2,hx198_3,hx198_4,hx198_5,hx198_6,hx198_7,hl198_4,hi198_4,hl198_6,hi198_6⟩:=at_T51 HR0.out (ji9) p198 q198
            have hw198_7:=hx198_7
            have hw198_6:=hx198_6
            have hw198_5:=hx198_5
            have hw198_4:=hx198_4
            have hw198_3:=hx198_3
            have hw198_2:=hx198_2
            have hw198_1:=hx198_1
            have hw198_0:=hx198_0
            obtain rfl:ad195=ad198:=(by injection e198)
            replace hx198_0:=Z.kc HB hx198_0
            replace hx198_1:=Z.kc HB hx198_1
            replace hx198_2:=Z.kc HB hx198_2
            replace hx198_3:=Z.kc HB hx198_3
            replace hx198_4:=Z.kc HB hx198_4
            replace hx198_5:=Z.kc HB hx198_5
            replace hx198_6:=Z.kc HB hx198_6
            replace hx198_7:=Z.kc HB hx198_7
            have HR198_4:=As hi198_4
            have HC198_4:=As hl198_4
            clear hi198_4 hl198_4
            have HR198_6:=As hi198_6
            have HC198_6:=As hl198_6
            clear hi198_6 hl198_6
            replace p198:=eq_true p198
            replace q198:=eq_true q198
            refine start_ (n:=18) (S:=fun w'=>w'.cell? ⟨gb196,0,none⟩=some (.int .i64 ((rd_T51 l0 x10_1).f0))∧w'.cell? ⟨gb196,1,none⟩=some (.int .i64 ((rd_T51 l0 x10_1).f1))∧w'.cell? ⟨gb196,2,none⟩=some (.int .i64 ((rd_T51 l0 x10_1).f2))∧w'.cell? ⟨gb196,3,none⟩=some (.int .i64 ((rd_T51 l0 x10_1).f3.f0))∧w'.cell? ⟨gb196,4,none⟩=some (.slice A195_4 ((rd_T51 l0 x10_1).f3.f1).length c195_4)∧w'.cell? ⟨gb196,5,none⟩=some (.int .i64 ((rd_T51 l0 x10_1).f4.f0))∧w'.cell? ⟨gb196,6,none⟩=some (.slice A195_6 ((rd_T51 l0 x10_1).f4.f1).length c195_6)∧w'.cell? ⟨gb196,7,none⟩=some (.bool ((rd_T51 l0 x10_1).f5))∧w'.cell? (ad195.add (((ji9)).toNat * 8))=some (.int .i64 ((rd_T51 l0 (ji9)).f0))∧w'.cell? ⟨(ad195.add (((ji9)).toNat * 8)).block,(ad195.add (((ji9)).toNat * 8)).off + 1,none⟩=some (.int .i64 ((rd_T51 l0 (ji9)).f1))∧w'.cell? ⟨(ad195.add (((ji9)).toNat * 8)).block,(ad195.add (((ji9)).toNat * 8)).off + 2,none⟩=some (.int .i64 ((rd_T51 l0 (ji9)).f2))∧w'.cell? ⟨(ad195.add (((ji9)).toNat * 8)).block,(ad195.add (((ji9)).toNat * 8)).off + 3,none⟩=some (.int .i64 ((rd_T51 l0 (ji9)).f3.f0))∧w'.cell? ⟨(ad195.add (((ji9)).toNat * 8)).block,(ad195.add (((ji9)).toNat * 8)).off + 4,none⟩=some (.slice A198_4 ((rd_T51 l0 (ji9)).f3.f1).length c198_4)∧w'.cell? ⟨(ad195.add (((ji9)).toNat * 8)).block,(ad195.add (((ji9)).toNat * 8)).off + 5,none⟩=some (.int .i64 ((rd_T51 l0 (ji9)).f4.f0))∧w'.cell? ⟨(ad195.add (((ji9)).toNat * 8)).block,(ad195.add (((ji9)).toNat * 8)).off + 6,none⟩=some (.slice A198_6 ((rd_T51 l0 (ji9)).f4.f1).length c198_6)∧w'.cell? ⟨(ad195.add (((ji9)).toNat * 8)).block,(ad195.add (((ji9)).toNat * 8)).off + 7,none⟩=some (.bool ((rd_T51 l0 (ji9)).f5))) (ds:=[]) #[false,false,false,false,false,false,false,false,false,false,false,false,false,false,false,false,false,false] (by kernel_rfl) rfl rfl ⟨(blk_cell BK196.out 0).trans rfl,(blk_cell BK196.out 1).trans rfl,(blk_cell BK196.out 2).trans rfl,(blk_cell BK196.out 3).trans rfl,(blk_cell BK196.out 4).trans rfl,(blk_cell BK196.out 5).trans rfl,(blk_cell BK196.out 6).trans rfl,(blk_cell BK196.out 7).trans rfl,(Z.kc HB hw198_0),(Z.kc HB hw198_1),(Z.kc HB hw198_2),(Z.kc HB hw198_3),(Z.kc HB hw198_4),(Z.kc HB hw198_5),(Z.kc HB hw198_6),(Z.kc HB hw198_7)⟩ (fun hHeld=>?_);refine with_tabW span_Check.tab6 span_Check.bits6 (fun HT_ HW_=>?_)
            generalize w22.drew=w23 at BK196 HB HR198_4 HR198_6 hx198_0 hx198_1 hx198_2 hx198_3 hx198_4 hx198_5 hx198_6 hx198_7 hHeld ⊢
            refine Z.u_ 0 15 HT_ HW_ hHeld ?_
            refine one_ (i:=1) (N:=some 16) #[true,true,false,false,false,false,false,false,false,false,false,false,false,false,false,false,false,false] rfl rfl (one_of HT_.out (by kernel_rfl)) (by decide) (fun K hK=>?_)
            refine goes_ Tryz.func93 (by kernel_rfl) rfl #[.agg #[.int .i64 ((rd_T51 l0 x10_1).f0),.int .i64 ((rd_T51 l0 x10_1).f1),.int .i64 ((rd_T51 l0 x10_1).f2),.int .i64 ((rd_T51 l0 x10_1).f3.f0),.slice A195_4 ((rd_T51 l0 x10_1).f3.f1).length c195_4,.int .i64 ((rd_T51 l0 x10_1).f4.f0),.slice A195_6 ((rd_T51 l0 x10_1).f4.f1).length c195_6,.bool ((rd_T51 l0 x10_1).f5)]] (by rfl) rfl rfl (by (try simp only[List.map_toArray,List.map_cons,List.map_nil]);first|done|rfl|(simp only[List.length_drop,List.length_take];rfl)) ?_
            with_reducible refine (span_right.calls k1 ((rd_T51 l0 x10_1).f0) ((rd_T51 l0 x10_1).f1) ((rd_T51 l0 x10_1).f2) ((rd_T51 l0 x10_1).f3.f0) _ _ ((rd_T51 l0 x10_1).f3.f1) ((rd_T51 l0 x10_1).f4.f0) _ _ ((rd_T51 l0 x10_1).f4.f1) ((rd_T51 l0 x10_1).f5) true _ ?side1 ?side2 ?side3 ?side4 A6.out).mono ?_
            (case side1=>repeat (first|exact (Kd.C_below HR195_4.out HB.out)|(with_reducible refine Kd.C_alloc ?_ _)|(with_reducible refine Kd.C_drewN ?_ _)|(with_reducible refine Kd.C_drew ?_)))
            (case side2=>exact HC195_4.out)
            (case side3=>repeat (first|exact (Kd.C_below HR195_6.out HB.out)|(with_reducible refine Kd.C_alloc ?_ _)|(with_reducible refine Kd.C_drewN ?_ _)|(with_reducible refine Kd.C_drew ?_)))
            (case side4=>exact HC195_6.out)
            rintro e w24 ⟨rfl,hb⟩
            refine⟨_,rfl,?_⟩
            replace HB:=Z.sb hb
            replace BK196:=Z.kb BK196 hb
            (try clear hb)
            (try clear hb2)
            (try clear hk)
            (try clear hi)
            refine hK.out _ _ ⟨(blk_cell BK196.out 0).trans rfl,(blk_cell BK196.out 1).trans rfl,(blk_cell BK196.out 2).trans rfl,(blk_cell BK196.out 3).trans rfl,(blk_cell BK196.out 4).trans rfl,(blk_cell BK196.out 5).trans rfl,(blk_cell BK196.out 6).trans rfl,(blk_cell BK196.out 7).trans rfl,(Z.kc HB hw198_0),(Z.kc HB hw198_1),(Z.kc HB hw198_2),(Z.kc HB hw198_3),(Z.kc HB hw198_4),(Z.kc HB hw198_5),(Z.kc HB hw198_6),(Z.kc HB hw198_7)⟩ (fun hHeld=>?_)
            clear hK K
            refine Z.n_ 16 ?_
            refine Z.q_ 2 17 HT_ ?_
            refine Z.q_ 3 18 HT_ ?_
            refine Z.q_ 4 19 HT_ ?_
            refine Z.q_ 5 20 HT_ ?_
            refine Z.q_ 6 21 HT_ ?_
            refine Z.q_ 7 22 HT_ ?_
            refine Z.q_ 8 23 HT_ ?_
            refine Z.q_ 9 24 HT_ ?_
            refine Z.q_ 10 25 HT_ ?_
            refine Z.q_ 13 28 HT_ ?_
            refine Z.u_ 11 26 HT_ HW_ hHeld ?_
            refine Z.u_ 14 29 HT_ HW_ hHeld ?_
            refine one_ (i:=12) (N:=some 27) #[true,true,true,true,true,true,true,true,true,true,true,true,true,true,true,false,false,false] rfl rfl (one_of HT_.out (by kernel_rfl)) (by decide) (fun K hK=>?_)
            refine goes_ Tryz.func94 (by kernel_rfl) rfl #[.agg #[.int .i64 ((rd_T51 l0 (ji9)).f0),.int .i64 ((rd_T51 l0 (ji9)).f1),.int .i64 ((rd_T51 l0 (ji9)).f2),.int .i64 ((rd_T51 l0 (ji9)).f3.f0),.slice A198_4 ((rd_T51 l0 (ji9)).f3.f1).length c198_4,.int .i64 ((rd_T51 l0 (ji9)).f4.f0),.slice A198_6 ((rd_T51 l0 (ji9)).f4.f1).length c198_6,.bool ((rd_T51 l0 (ji9)).f5)]] (by rfl) rfl rfl (by (try simp only[List.map_toArray,List.map_cons,List.map_nil]);first|done|(simp only[hji9];rfl)|rfl|(simp only[List.length_drop,List.length_take];rfl)) ?_
            with_reducible refine (span_end.calls ((rd_T51 l0 (ji9)).f0) ((rd_T51 l0 (ji9)).f1) ((rd_T51 l0 (ji9)).f2) ((rd_T51 l0 (ji9)).f3.f0) _ _ ((rd_T51 l0 (ji9)).f3.f1) ((rd_T51 l0 (ji9)).f4.f0) _ _ ((rd_T51 l0 (ji9)).f4.f1) ((rd_T51 l0 (ji9)).f5) t199 _ ?side1 ?side2 ?side3 ?side4 A12.out).mono ?_
            (case side1=>repeat (first|exact (Kd.C_below HR198_4.out HB.out)|(with_reducible refine Kd.C_alloc ?_ _)|(with_reducible refine Kd.C_drewN ?_ _)|(with_reducible refine Kd.C_drew ?_)))
            (case side2=>exact HC198_4.out)
            (case side3=>repeat (first|exact (Kd.C_below HR198_6.out HB.out)|(with_reducible refine Kd.C_alloc ?_ _)|(with_reducible refine Kd.C_drewN ?_ _)|(with_reducible refine Kd.C_drew ?_)))
            (case side4=>exact HC198_6.out)
            rintro e w25 ⟨rfl,hb⟩
            refine⟨_,rfl,?_⟩
            replace HB:=Z.sb hb
            replace BK196:=Z.kb BK196 hb
            (try clear hb)
            (try clear hb2)
            (try clear hk)
            (try clear hi)
            refine hK.out _ _ ⟨(blk_cell BK196.out 0).trans rfl,(blk_cell BK196.out 1).trans rfl,(blk_cell BK196.out 2).trans rfl,(blk_cell BK196.out 3).trans rfl,(blk_cell BK196.out 4).trans rfl,(blk_cell BK196.out 5).trans rfl,(blk_cell BK196.out 6).trans rfl,(blk_cell BK196.out 7).trans rfl,(Z.kc HB hw198_0),(Z.kc HB hw198_1),(Z.kc HB hw198_2),(Z.kc HB hw198_3),(Z.kc HB hw198_4),(Z.kc HB hw198_5),(Z.kc HB hw198_6),(Z.kc HB hw198_7)⟩ (fun hHeld=>?_)
            clear hK K
            refine Z.n_ 27 ?_
            refine Z.q_ 15 30 HT_ ?_
            refine Z.q_ 16 31 HT_ ?_
            refine Z.q_ 17 32 HT_ ?_
            refine done_ (done_of HT_.out (by kernel_rfl)) ?_
            try go_wp2
            go_roundg k1
            case measure=>have:=HK1.out;omega
            case rel=>exact⟨(wrap64 (x10_1 + 1)),Z.r_,H',⟨by have:=HK1.out;omega⟩,⟨Z.bl⟩⟩
          ·rw[if_neg c11] at H
           exact absurd H (by simp)
         ·rw[if_neg c10] at H
          exact absurd H (by simp)
        ·rw[if_neg c8] at H
         have c8b0:decide (0 < x10_1)=false:=decide_eq_false c8
         clear c8
         have H':=As H
         clear H
         have p195:0≤(x10_1:Int):=Z.od
         have q195:x10_1 < (l0.length:Int):=Z.od
         obtain⟨ad195,A195_4,c195_4,A195_6,c195_6,e195,hx195_0,hx195_1,hx195_2,hx195_3,hx195_4,hx195_5,hx195_6,hx195_7,hl195_4,hi195_4,hl195_6,hi195_6⟩:=at_T51 HR0.out x10_1 p195 q195
         cases e195
         replace hx195_0:=Z.kc HB hx195_0
         replace hx195_1:=Z.kc HB hx195_1
         replace hx195_2:=Z.kc HB hx195_2
         replace hx195_3:=Z.kc HB hx195_3
         replace hx195_4:=Z.kc HB hx195_4
         replace hx195_5:=Z.kc HB hx195_5
         replace hx195_6:=Z.kc HB hx195_6
         replace hx195_7:=Z.kc HB hx195_7
         have HR195_4:=As hi195_4
         have HC195_4:=As hl195_4
         clear hi195_4 hl195_4
         have HR195_6:=As hi195_6
         have HC195_6:=As hl195_6
         clear hi195_6 hl195_6
         replace p195:=eq_true p195
         replace q195:=eq_true q195
         try go_wp2_with (first|((with_reducible refine gate_dst (N:=4) rfl ?_);refine Z.bx 4 #[.int .i64 0,.int .i64 0,.int .i64 0,.int .i64 0,.slice none 0 0,.int .i64 0,.slice none 0 0,.bool false] 51 fun gb196 hg w26 hbox hb=>?_;have BK196:=As hbox;have GW196:=Z.ge hg;have GE196:=Z.ge hg;replace HB:=Z.sb hb;clear hb hbox hg;have hcz27_0:=Z.c0 BK196.out;have hcz27_1:=Z.c1 BK196.out;have hcz27_2:=Z.c2 BK196.out;have hcz27_3:=Z.c3 BK196.out;have hcz27_4:=Z.c4 BK196.out;have hcz27_5:=Z.c5 BK196.out;have hcz27_6:=Z.c6 BK196.out;have hcz27_7:=Z.c7 BK196.out;have hfz27_0:=blk_frozen BK196.out 0;have hfz27_1:=blk_frozen BK196.out 1;have hfz27_2:=blk_frozen BK196.out 2;have hfz27_3:=blk_frozen BK196.out 3;have hfz27_4:=blk_frozen BK196.out 4;have hfz27_5:=blk_frozen BK196.out 5;have hfz27_6:=blk_frozen BK196.out 6;have hfz27_7:=blk_frozen BK196.out 7))
         have n0_:Aside0 (((((((((w26.setCell ⟨gb196,0,none⟩ (.int .i64 ((rd_T51 l0 x10_1).f0))).setCell ⟨gb196,1,none⟩ (.int .i64 ((rd_T51 l0 x10_1).f1))).setCell ⟨gb196,2,none⟩ (.int .i64 ((rd_T51 l0 x10_1).f2))).setCell ⟨gb196,3,none⟩ (.int .i64 ((rd_T51 l0 x10_1).f3.f0))).setCell ⟨gb196,4,none⟩ (.slice A195_4 ((rd_T51 l0 x10_1).f3.f1).length c195_4)).setCell ⟨gb196,5,none⟩ (.int .i64 ((rd_T51 l0 x10_1).f4.f0))).setCell ⟨gb196,6,none⟩ (.slice A195_6 ((rd_T51 l0 x10_1).f4.f1).length c195_6)).setCell ⟨gb196,7,none⟩ (.bool ((rd_T51 l0 x10_1).f5))).heap[gb196]? =some (.cells #[.int .i64 ((rd_T51 l0 x10_1).f0),.int .i64 ((rd_T51 l0 x10_1).f1),.int .i64 ((rd_T51 l0 x10_1).f2),.int .i64 ((rd_T51 l0 x10_1).f3.f0),.slice A195_4 ((rd_T51 l0 x10_1).f3.f1).length c195_4,.int .i64 ((rd_T51 l0 x10_1).f4.f0),.slice A195_6 ((rd_T51 l0 x10_1).f4.f1).length c195_6,.bool ((rd_T51 l0 x10_1).f5)] 51 (0,0))):=⟨Z.bs⟩
         have n1_:Aside0 (Below w.heap.size w ((((((((w26.setCell ⟨gb196,0,none⟩ (.int .i64 ((rd_T51 l0 x10_1).f0))).setCell ⟨gb196,1,none⟩ (.int .i64 ((rd_T51 l0 x10_1).f1))).setCell ⟨gb196,2,none⟩ (.int .i64 ((rd_T51 l0 x10_1).f2))).setCell ⟨gb196,3,none⟩ (.int .i64 ((rd_T51 l0 x10_1).f3.f0))).setCell ⟨gb196,4,none⟩ (.slice A195_4 ((rd_T51 l0 x10_1).f3.f1).length c195_4)).setCell ⟨gb196,5,none⟩ (.int .i64 ((rd_T51 l0 x10_1).f4.f0))).setCell ⟨gb196,6,none⟩ (.slice A195_6 ((rd_T51 l0 x10_1).f4.f1).length c195_6)).setCell ⟨gb196,7,none⟩ (.bool ((rd_T51 l0 x10_1).f5)))):=⟨Z.bl⟩
         (try clear BK196)
         (try clear HB)
         generalize ((((((((w26.setCell ⟨gb196,0,none⟩ (.int .i64 ((rd_T51 l0 x10_1).f0))).setCell ⟨gb196,1,none⟩ (.int .i64 ((rd_T51 l0 x10_1).f1))).setCell ⟨gb196,2,none⟩ (.int .i64 ((rd_T51 l0 x10_1).f2))).setCell ⟨gb196,3,none⟩ (.int .i64 ((rd_T51 l0 x10_1).f3.f0))).setCell ⟨gb196,4,none⟩ (.slice A195_4 ((rd_T51 l0 x10_1).f3.f1).length c195_4)).setCell ⟨gb196,5,none⟩ (.int .i64 ((rd_T51 l0 x10_1).f4.f0))).setCell ⟨gb196,6,none⟩ (.slice A195_6 ((rd_T51 l0 x10_1).f4.f1).length c195_6)).setCell ⟨gb196,7,none⟩ (.bool ((rd_T51 l0 x10_1).f5)))=w28 at n0_ n1_ ⊢
         have BK196:=n0_
         have HB:=n1_
         clear n0_ n1_
         replace BK196:=As (blk_drew BK196.out)
         replace HB:=As (below_drew1 HB.out)
         refine start_ (n:=18) (S:=fun w'=>w'.cell? ⟨gb196,0,none⟩=some (.int .i64 ((rd_T51 l0 x10_1).f0))∧w'.cell? ⟨gb196,1,none⟩=some (.int .i64 ((rd_T51 l0 x10_1).f1))∧w'.cell? ⟨gb196,2,none⟩=some (.int .i64 ((rd_T51 l0 x10_1).f2))∧w'.cell? ⟨gb196,3,none⟩=some (.int .i64 ((rd_T51 l0 x10_1).f3.f0))∧w'.cell? ⟨gb196,4,none⟩=some (.slice A195_4 ((rd_T51 l0 x10_1).f3.f1).length c195_4)∧w'.cell? ⟨gb196,5,none⟩=some (.int .i64 ((rd_T51 l0 x10_1).f4.f0))∧w'.cell? ⟨gb196,6,none⟩=some (.slice A195_6 ((rd_T51 l0 x10_1).f4.f1).length c195_6)∧w'.cell? ⟨gb196,7,none⟩=some (.bool ((rd_T51 l0 x10_1).f5))) (ds:=[]) #[false,false,false,false,false,false,false,false,false,false,false,false,false,false,false,false,false,false] (by kernel_rfl) rfl rfl ⟨(blk_cell BK196.out 0).trans rfl,(blk_cell BK196.out 1).trans rfl,(blk_cell BK196.out 2).trans rfl,(blk_cell BK196.out 3).trans rfl,(blk_cell BK196.out 4).trans rfl,(blk_cell BK196.out 5).trans rfl,(blk_cell BK196.out 6).trans rfl,(blk_cell BK196.out 7).trans rfl⟩ (fun hHeld=>?_);refine with_tabW span_Check.tab6 span_Check.bits6 (fun HT_ HW_=>?_)
         generalize w28.drew=w29 at BK196 HB hHeld ⊢
         refine Z.u_ 0 15 HT_ HW_ hHeld ?_
         refine one_ (i:=1) (N:=some 16) #[true,true,false,false,false,false,false,false,false,false,false,false,false,false,false,false,false,false] rfl rfl (one_of HT_.out (by kernel_rfl)) (by decide) (fun K hK=>?_)
         refine goes_ Tryz.func93 (by kernel_rfl) rfl #[.agg #[.int .i64 ((rd_T51 l0 x10_1).f0),.int .i64 ((rd_T51 l0 x10_1).f1),.int .i64 ((rd_T51 l0 x10_1).f2),.int .i64 ((rd_T51 l0 x10_1).f3.f0),.slice A195_4 ((rd_T51 l0 x10_1).f3.f1).length c195_4,.int .i64 ((rd_T51 l0 x10_1).f4.f0),.slice A195_6 ((rd_T51 l0 x10_1).f4.f1).length c195_6,.bool ((rd_T51 l0 x10_1).f5)]] (by rfl) rfl rfl (by (try simp only[List.map_toArray,List.map_cons,List.map_nil]);first|done|rfl|(simp only[List.length_drop,List.length_take];rfl)) ?_
         with_reducible refine (span_right.calls k1 ((rd_T51 l0 x10_1).f0) ((rd_T51 l0 x10_1).f1) ((rd_T51 l0 x10_1).f2) ((rd_T51 l0 x10_1).f3.f0) _ _ ((rd_T51 l0 x10_1).f3.f1) ((rd_T51 l0 x10_1).f4.f0) _ _ ((rd_T51 l0 x10_1).f4.f1) ((rd_T51 l0 x10_1).f5) true _ ?side1 ?side2 ?side3 ?side4 A6.out).mono ?_
         (case side1=>repeat (first|exact (Kd.C_below HR195_4.out HB.out)|(with_reducible refine Kd.C_alloc ?_ _)|(with_reducible refine Kd.C_drewN ?_ _)|(with_reducible refine Kd.C_drew ?_)))
         (case side2=>exact HC195_4.out)
         (case side3=>repeat (first|exact (Kd.C_below HR195_6.out HB.out)|(with_reducible refine Kd.C_alloc ?_ _)|(with_reducible refine Kd.C_drewN ?_ _)|(with_reducible refine Kd.C_drew ?_)))
         (case side4=>exact HC195_6.out)
         rintro e w30 ⟨rfl,hb⟩
         refine⟨_,rfl,?_⟩
         replace HB:=Z.sb hb
         replace BK196:=Z.kb BK196 hb
         (try clear hb)
         (try clear hb2)
         (try clear hk)
         (try clear hi)
         refine hK.out _ _ ⟨(blk_cell BK196.out 0).trans rfl,(blk_cell BK196.out 1).trans rfl,(blk_cell BK196.out 2).trans rfl,(blk_cell BK196.out 3).trans rfl,(blk_cell BK196.out 4).trans rfl,(blk_cell BK196.out 5).trans rfl,(blk_cell BK196.out 6).trans rfl,(blk_cell BK196.out 7).trans rfl⟩ (fun hHeld=>?_)
         clear hK K
         refine Z.n_ 16 ?_
         refine Z.q_ 2 17 HT_ ?_
         refine Z.q_ 3 18 HT_ ?_
         refine Z.q_ 4 19 HT_ ?_
         refine Z.q_ 5 20 HT_ ?_
         refine Z.q_ 6 21 HT_ ?_
         refine Z.y_ 7 22 HT_ ?_
         refine Z.y_ 8 23 HT_ ?_
         refine Z.y_ 9 24 HT_ ?_
         refine Z.y_ 10 25 HT_ ?_
         refine Z.y_ 11 26 HT_ ?_
         refine Z.y_ 12 27 HT_ ?_
         refine Z.y_ 13 28 HT_ ?_
         refine Z.y_ 14 29 HT_ ?_
         refine Z.y_ 15 30 HT_ ?_
         refine Z.q_ 16 31 HT_ ?_
         refine Z.q_ 17 32 HT_ ?_
         refine done_ (done_of HT_.out (by kernel_rfl)) ?_
         try go_wp2
         go_roundg k1
         case measure=>have:=HK1.out;omega
         case rel=>exact⟨(wrap64 (x10_1 + 1)),Z.r_,H',⟨by have:=HK1.out;omega⟩,⟨Z.bl⟩⟩
       ·replace c7:=Bool.eq_false_iff.mpr c7
        subst c7
        have H1:(some 2)=some r:=by rw[if_neg (show ¬(false=true) by decide)] at H;exact H
        clear H
        have H:=H1
        clear H1
        obtain rfl:=Option.some.inj H
        have p195:0≤(x10_1:Int):=Z.od
        have q195:x10_1 < (l0.length:Int):=Z.od
        obtain⟨ad195,A195_4,c195_4,A195_6,c195_6,e195,hx195_0,hx195_1,hx195_2,hx195_3,hx195_4,hx195_5,hx195_6,hx195_7,hl195_4,hi195_4,hl195_6,hi195_6⟩:=at_T51 HR0.out x10_1 p195 q195
        cases e195
        replace hx195_0:=Z.kc HB hx195_0
        replace hx195_1:=Z.kc HB hx195_1
        replace hx195_2:=Z.kc HB hx195_2
        replace hx195_3:=Z.kc HB hx195_3
        replace hx195_4:=Z.kc HB hx195_4
        replace hx195_5:=Z.kc HB hx195_5
        replace hx195_6:=Z.kc HB hx195_6
        replace hx195_7:=Z.kc HB hx195_7
        have HR195_4:=As hi195_4
        have HC195_4:=As hl195_4
        clear hi195_4 hl195_4
        have HR195_6:=As hi195_6
        have HC195_6:=As hl195_6
        clear hi195_6 hl195_6
        replace p195:=eq_true p195
        replace q195:=eq_true q195
        try go_wp2_with (first|((with_reducible refine gate_dst (N:=4) rfl ?_);refine Z.bx 4 #[.int .i64 0,.int .i64 0,.int .i64 0,.int .i64 0,.slice none 0 0,.int .i64 0,.slice none 0 0,.bool false] 51 fun gb196 hg w31 hbox hb=>?_;have BK196:=As hbox;have GW196:=Z.ge hg;have GE196:=Z.ge hg;replace HB:=Z.sb hb;clear hb hbox hg;have hcz32_0:=Z.c0 BK196.out;have hcz32_1:=Z.c1 BK196.out;have hcz32_2:=Z.c2 BK196.out;have hcz32_3:=Z.c3 BK196.out;have hcz32_4:=Z.c4 BK196.out;have hcz32_5:=Z.c5 BK196.out;have hcz32_6:=Z.c6 BK196.out;have hcz32_7:=Z.c7 BK196.out;have hfz32_0:=blk_frozen BK196.out 0;have hfz32_1:=blk_frozen BK196.out 1;have hfz32_2:=blk_frozen BK196.out 2;have hfz32_3:=blk_frozen BK196.out 3;have hfz32_4:=blk_frozen BK196.out 4;have hfz32_5:=blk_frozen BK196.out 5;have hfz32_6:=blk_frozen BK196.out 6;have hfz32_7:=blk_frozen BK196.out 7))
        have n0_:Aside0 (((((((((w31.setCell ⟨gb196,0,none⟩ (.int .i64 ((rd_T51 l0 x10_1).f0))).setCell ⟨gb196,1,none⟩ (.int .i64 ((rd_T51 l0 x10_1).f1))).setCell ⟨gb196,2,none⟩ (.int .i64 ((rd_T51 l0 x10_1).f2))).setCell ⟨gb196,3,none⟩ (.int .i64 ((rd_T51 l0 x10_1).f3.f0))).setCell ⟨gb196,4,none⟩ (.slice A195_4 ((rd_T51 l0 x10_1).f3.f1).length c195_4)).setCell ⟨gb196,5,none⟩ (.int .i64 ((rd_T51 l0 x10_1).f4.f0))).setCell ⟨gb196,6,none⟩ (.slice A195_6 ((rd_T51 l0 x10_1).f4.f1).length c195_6)).setCell ⟨gb196,7,none⟩ (.bool ((rd_T51 l0 x10_1).f5))).heap[gb196]? =some (.cells #[.int .i64 ((rd_T51 l0 x10_1).f0),.int .i64 ((rd_T51 l0 x10_1).f1),.int .i64 ((rd_T51 l0 x10_1).f2),.int .i64 ((rd_T51 l0 x10_1).f3.f0),.slice A195_4 ((rd_T51 l0 x10_1).f3.f1).length c195_4,.int .i64 ((rd_T51 l0 x10_1).f4.f0),.slice A195_6 ((rd_T51 l0 x10_1).f4.f1).length c195_6,.bool ((rd_T51 l0 x10_1).f5)] 51 (0,0))):=⟨Z.bs⟩
        have n1_:Aside0 (Below w.heap.size w ((((((((w31.setCell ⟨gb196,0,none⟩ (.int .i64 ((rd_T51 l0 x10_1).f0))).setCell ⟨gb196,1,none⟩ (.int .i64 ((rd_T51 l0 x10_1).f1))).setCell ⟨gb196,2,none⟩ (.int .i64 ((rd_T51 l0 x10_1).f2))).setCell ⟨gb196,3,none⟩ (.int .i64 ((rd_T51 l0 x10_1).f3.f0))).setCell ⟨gb196,4,none⟩ (.slice A195_4 ((rd_T51 l0 x10_1).f3.f1).length c195_4)).setCell ⟨gb196,5,none⟩ (.int .i64 ((rd_T51 l0 x10_1).f4.f0))).setCell ⟨gb196,6,none⟩ (.slice A195_6 ((rd_T51 l0 x10_1).f4.f1).length c195_6)).setCell ⟨gb196,7,none⟩ (.bool ((rd_T51 l0 x10_1).f5)))):=⟨Z.bl⟩
        (try clear BK196)
        (try clear HB)
        generalize ((((((((w31.setCell ⟨gb196,0,none⟩ (.int .i64 ((rd_T51 l0 x10_1).f0))).setCell ⟨gb196,1,none⟩ (.int .i64 ((rd_T51 l0 x10_1).f1))).setCell ⟨gb196,2,none⟩ (.int .i64 ((rd_T51 l0 x10_1).f2))).setCell ⟨gb196,3,none⟩ (.int .i64 ((rd_T51 l0 x10_1).f3.f0))).setCell ⟨gb196,4,none⟩ (.slice A195_4 ((rd_T51 l0 x10_1).f3.f1).length c195_4)).setCell ⟨gb196,5,none⟩ (.int .i64 ((rd_T51 l0 x10_1).f4.f0))).setCell ⟨gb196,6,none⟩ (.slice A195_6 ((rd_T51 l0 x10_1).f4.f1).length c195_6)).setCell ⟨gb196,7,none⟩ (.bool ((rd_T51 l0 x10_1).f5)))=w33 at n0_ n1_ ⊢
        have BK196:=n0_
        have HB:=n1_
        clear n0_ n1_
        replace BK196:=As (blk_drew BK196.out)
        replace HB:=As (below_drew1 HB.out)
        refine start_ (n:=18) (S:=fun w'=>w'.cell? ⟨gb196,0,none⟩=some (.int .i64 ((rd_T51 l0 x10_1).f0))∧w'.cell? ⟨gb196,1,none⟩=some (.int .i64 ((rd_T51 l0 x10_1).f1))∧w'.cell? ⟨gb196,2,none⟩=some (.int .i64 ((rd_T51 l0 x10_1).f2))∧w'.cell? ⟨gb196,3,none⟩=some (.int .i64 ((rd_T51 l0 x10_1).f3.f0))∧w'.cell? ⟨gb196,4,none⟩=some (.slice A195_4 ((rd_T51 l0 x10_1).f3.f1).length c195_4)∧w'.cell? ⟨gb196,5,none⟩=some (.int .i64 ((rd_T51 l0 x10_1).f4.f0))∧w'.cell? ⟨gb196,6,none⟩=some (.slice A195_6 ((rd_T51 l0 x10_1).f4.f1).length c195_6)∧w'.cell? ⟨gb196,7,none⟩=some (.bool ((rd_T51 l0 x10_1).f5))) (ds:=[]) #[false,false,false,false,false,false,false,false,false,false,false,false,false,false,false,false,false,false] (by kernel_rfl) rfl rfl ⟨(blk_cell BK196.out 0).trans rfl,(blk_cell BK196.out 1).trans rfl,(blk_cell BK196.out 2).trans rfl,(blk_cell BK196.out 3).trans rfl,(blk_cell BK196.out 4).trans rfl,(blk_cell BK196.out 5).trans rfl,(blk_cell BK196.out 6).trans rfl,(blk_cell BK196.out 7).trans rfl⟩ (fun hHeld=>?_);refine with_tabW span_Check.tab6 span_Check.bits6 (fun HT_ HW_=>?_)
        generalize w33.drew=w34 at BK196 HB hHeld ⊢
        refine Z.u_ 0 15 HT_ HW_ hHeld ?_
        refine one_ (i:=1) (N:=some 16) #[true,true,false,false,false,false,false,false,false,false,false,false,false,false,false,false,false,false] rfl rfl (one_of HT_.out (by kernel_rfl)) (by decide) (fun K hK=>?_)
        refine goes_ Tryz.func93 (by kernel_rfl) rfl #[.agg #[.int .i64 ((rd_T51 l0 x10_1).f0),.int .i64 ((rd_T51 l0 x10_1).f1),.int .i64 ((rd_T51 l0 x10_1).f2),.int .i64 ((rd_T51 l0 x10_1).f3.f0),.slice A195_4 ((rd_T51 l0 x10_1).f3.f1).length c195_4,.int .i64 ((rd_T51 l0 x10_1).f4.f0),.slice A195_6 ((rd_T51 l0 x10_1).f4.f1).length c195_6,.bool ((rd_T51 l0 x10_1).f5)]] (by rfl) rfl rfl (by (try simp only[List.map_toArray,List.map_cons,List.map_nil]);first|done|rfl|(simp only[List.length_drop,List.length_take];rfl)) ?_
        with_reducible refine (span_right.calls k1 ((rd_T51 l0 x10_1).f0) ((rd_T51 l0 x10_1).f1) ((rd_T51 l0 x10_1).f2) ((rd_T51 l0 x10_1).f3.f0) _ _ ((rd_T51 l0 x10_1).f3.f1) ((rd_T51 l0 x10_1).f4.f0) _ _ ((rd_T51 l0 x10_1).f4.f1) ((rd_T51 l0 x10_1).f5) false _ ?side1 ?side2 ?side3 ?side4 A6.out).mono ?_
        (case side1=>repeat (first|exact (Kd.C_below HR195_4.out HB.out)|(with_reducible refine Kd.C_alloc ?_ _)|(with_reducible refine Kd.C_drewN ?_ _)|(with_reducible refine Kd.C_drew ?_)))
        (case side2=>exact HC195_4.out)
        (case side3=>repeat (first|exact (Kd.C_below HR195_6.out HB.out)|(with_reducible refine Kd.C_alloc ?_ _)|(with_reducible refine Kd.C_drewN ?_ _)|(with_reducible refine Kd.C_drew ?_)))
        (case side4=>exact HC195_6.out)
        rintro e w35 ⟨rfl,hb⟩
        refine⟨_,rfl,?_⟩
        replace HB:=Z.sb hb
        replace BK196:=Z.kb BK196 hb
        (try clear hb)
        (try clear hb2)
        (try clear hk)
        (try clear hi)
        refine hK.out _ _ ⟨(blk_cell BK196.out 0).trans rfl,(blk_cell BK196.out 1).trans rfl,(blk_cell BK196.out 2).trans rfl,(blk_cell BK196.out 3).trans rfl,(blk_cell BK196.out 4).trans rfl,(blk_cell BK196.out 5).trans rfl,(blk_cell BK196.out 6).trans rfl,(blk_cell BK196.out 7).trans rfl⟩ (fun hHeld=>?_)
        clear hK K
        refine Z.n_ 16 ?_
        refine Z.q_ 2 17 HT_ ?_
        refine Z.q_ 3 18 HT_ ?_
        refine Z.y_ 4 19 HT_ ?_
        refine Z.y_ 5 20 HT_ ?_
        refine Z.y_ 6 21 HT_ ?_
        refine Z.y_ 7 22 HT_ ?_
        refine Z.y_ 8 23 HT_ ?_
        refine Z.y_ 9 24 HT_ ?_
        refine Z.y_ 10 25 HT_ ?_
        refine Z.y_ 11 26 HT_ ?_
        refine Z.y_ 12 27 HT_ ?_
        refine Z.y_ 13 28 HT_ ?_
        refine Z.y_ 14 29 HT_ ?_
        refine Z.y_ 15 30 HT_ ?_
        refine Z.y_ 16 31 HT_ ?_
        refine Z.q_ 17 32 HT_ ?_
        refine done_ (done_of HT_.out (by kernel_rfl)) ?_
        try go_wp2
        go_ret
        exact⟨Z.e_,Z.bl⟩
      ·rw[if_neg c5] at H
       exact absurd H (by simp)
     ·rw[if_neg c4] at H
      exact absurd H (by simp)
    ·rw[if_neg c3] at H
     have c3b0:decide (x10_1 < (l0.length:Int))=false:=decide_eq_false c3
     clear c3
     obtain rfl:=Option.some.inj H
     go_wp2
     go_ret
     exact⟨Z.e_,Z.bl⟩
end Go.Proofs.YtmmfchnbfnegnaaGreatDoor.GK
end
section
namespace Go.Proofs.YtmmfchnbfnegnaaGreatDoor.GK
open Go.RowKit Go.Proofs.YtmmfchnbfnegnaaGreatDoorW.PrintWords Go.Proofs.YtmmfchnbfnegnaaGreatDoorW.PrintLast Go.Proofs.YtmmfchnbfnegnaaGreatDoorW.PrintMore
attribute [local go_sem] max2_int min2_int max_two min_two max_three min_three max_four min_four
set_option linter.unusedVariables false
set_option linter.unusedSimpArgs false
def arena_Check.f (l0_0:List Int):Option (Int):=if (l0_0.length:Int) > 16384 then (some 2) else (some 0)
set_option maxHeartbeats 8000000 in
set_option maxRecDepth 100000 in
theorem arena_Check.calls (A0_0:Option Addr) (c0_0:Nat) (l0_0:List Int) (r:Int) (w:World) (hr0_0:Kd.C (Kd.int .u64) w A0_0 l0_0.length l0_0) (hc0_0:l0_0.length≤c0_0) (h:arena_Check.f l0_0=some r):
  Calls Tryz.prog 108 #[.agg #[.slice A0_0 l0_0.length c0_0]] w fun e w'=>e=.returned (.int .i64 r)∧Below w.heap.size w w':=by
 have hu27:=Tryz.underlying27
 have HR0_0:=As hr0_0
 have HC0_0:=As hc0_0
 clear hr0_0 hc0_0
 have HB:=As (Below.refl w.heap.size w)
 have H:(if (l0_0.length:Int) > 16384 then (some 2) else (some 0))=some r:=h
 clear h
 by_cases c2:(l0_0.length:Int) > 16384
 ·rw[if_pos c2] at H
  have c2b0:decide (16384 < (l0_0.length:Int))=true:=decide_eq_true c2
  have c2b1:decide (16384 < l0_0.length)=true:=decide_eq_true (by omega)
  clear c2
  obtain rfl:=Option.some.inj H
  go_enter Tryz.func108,Tryz.ntmps108
  go_wp2_with (first|((with_reducible refine gate_dst (N:=1) rfl ?_);refine Z.bx 1 #[.slice A0_0 l0_0.length c0_0] 27 fun gb200 hg w3 hbox hb=>?_;have BK200:=As hbox;have GW200:=Z.ge hg;have GE200:=Z.ge hg;replace HB:=Z.sb hb;clear hb hbox hg;obtain⟨hcz4_0,hfz4_0⟩:=Z.b1 BK200))
  go_ret
  exact⟨Z.e_,Z.bl⟩
 ·rw[if_neg c2] at H
  have c2b0:decide (16384 < (l0_0.length:Int))=false:=decide_eq_false c2
  have c2b1:decide (16384 < l0_0.length)=false:=decide_eq_false (by omega)
  clear c2
  obtain rfl:=Option.some.inj H
  go_enter Tryz.func108,Tryz.ntmps108
  go_wp2_with (first|((with_reducible refine gate_dst (N:=1) rfl ?_);refine Z.bx 1 #[.slice A0_0 l0_0.length c0_0] 27 fun gb200 hg w5 hbox hb=>?_;have BK200:=As hbox;have GW200:=Z.ge hg;have GE200:=Z.ge hg;replace HB:=Z.sb hb;clear hb hbox hg;obtain⟨hcz6_0,hfz6_0⟩:=Z.b1 BK200))
  go_ret
  exact⟨Z.e_,Z.bl⟩
def bits_Len64.f (a0:Int):Option (Int):=if 0≤a0 then (if a0≤18446744073709551615 then some ((Lib.bitLen a0.toNat:Nat):Int) else none) else none
theorem bits_Len64.calls (a0:Int) (r:Int) (w:World) (h:bits_Len64.f a0=some r):
  Calls Tryz.prog 56 #[.int .u64 a0] w fun e w'=>e=.returned (.int .i64 r)∧Drawn0 w w':=by
 unfold bits_Len64.f at h
 by_cases c1:0≤a0
 ·rw[if_pos c1] at h
  by_cases c2:a0≤18446744073709551615
  ·rw[if_pos c2] at h
   cases h
   exact (Tryz.bits_Len64 a0 w c1 c2).mono fun e w' ⟨he,hw⟩=>⟨he,hw▸Drawn0.refl _⟩
  ·rw[if_neg c2] at h;cases h
 ·rw[if_neg c1] at h;cases h
def bits_Len.f (a0:Int):Option (Int):=if 0≤a0 then (if a0≤18446744073709551615 then some ((Lib.bitLen a0.toNat:Nat):Int) else none) else none
theorem bits_Len.calls (a0:Int) (r:Int) (w:World) (h:bits_Len.f a0=some r):
  Calls Tryz.prog 92 #[.int .u64 a0] w fun e w'=>e=.returned (.int .i64 r)∧Drawn0 w w':=by
 unfold bits_Len.f at h
 by_cases c1:0≤a0
 ·rw[if_pos c1] at h
  by_cases c2:a0≤18446744073709551615
  ·rw[if_pos c2] at h
   cases h
   exact (Tryz.bits_Len a0 w c1 c2).mono fun e w' ⟨he,hw⟩=>⟨he,hw▸Drawn0.refl _⟩
  ·rw[if_neg c2] at h;cases h
 ·rw[if_neg c1] at h;cases h
def class_Of.j0:Nat→Int→Bool→Option (Int×Int)
 |0,_,_=>none
 |k + 1,x0,x4=>if x4=true then (some (0,1)) else (if x0 > 16 then (some ((-1),0)) else ((bits_Len.f (IntKind.u64.wrap (wrap64 (x0 - 1)))).bind fun t224=>(some (mx 0 (wrap64 (t224 - 1)),0))))
def class_Of.f (k:Nat) (a0:Int):Option (Int×Int):=if a0 < 1 then (class_Of.j0 k a0 true) else (class_Of.j0 k a0 (decide (a0 > 49)))
set_option maxHeartbeats 8000000 in
set_option maxRecDepth 100000 in
theorem class_Of.calls (k:Nat) (a0:Int) (r1:Int) (r2:Int) (w:World) (h:class_Of.f k a0=some (r1,r2)):
  Calls Tryz.prog 57 #[.int .i64 a0] w fun e w'=>e=.returned (.tuple #[.int .i64 r1,.int .i64 r2])∧Below w.heap.size w w':=by
 have HB:=As (Below.refl w.heap.size w)
 have H:(if a0 < 1 then (class_Of.j0 k a0 true) else (class_Of.j0 k a0 (decide (a0 > 49))))=some (r1,r2):=h
 clear h
 have HC2:=As H
 clear H
 go_enter Tryz.func57,Tryz.ntmps57
 go_upto_region 1 with (fail)
 go_cut [4] (fun v4 wc=>∃(kq:Nat) (x4_1:Bool),v4=.bool x4_1∧Aside0 (class_Of.j0 kq a0 x4_1=some (r1,r2))∧Aside0 (kq≤k)∧Aside0 (Below w.heap.size w wc))
 case first=>
  have H:=HC2.out
  clear HC2
  by_cases c3:a0 < 1
  ·rw[if_pos c3] at H
   have c3b0:decide (a0 < 1)=true:=decide_eq_true c3
   clear c3
   (first|rw[c3b0]|(simp only[i64_w,i32_w];rw[c3b0])|skip)
   have H':=As H
   clear H
   go_wp2
   go_meet
   case rel=>exact⟨_,(true),Z.r_,H',⟨by first|omega|exact Nat.le_refl _⟩,⟨Z.bl⟩⟩
  ·rw[if_neg c3] at H
   have c3b0:decide (a0 < 1)=false:=decide_eq_false c3
   clear c3
   (first|rw[c3b0]|(simp only[i64_w,i32_w];rw[c3b0])|skip)
   have H':=As H
   clear H
   go_wp2
   go_meet
   case rel=>exact⟨_,(decide (a0 > 49)),Z.r_,H',⟨by first|omega|exact Nat.le_refl _⟩,⟨Z.bl⟩⟩
 case rest=>
  clear HC2
  try clear p2
  try clear c3
  try clear c3b0
  obtain⟨kq,x4_1,rfl,HA,HJ1,HB⟩:=hcut
  cases kq with
  |zero=>exact absurd HA.out (by simp[class_Of.j0])
  |succ kj1=>
   have H:=HA.out
   clear HA
   simp only[class_Of.j0] at H
   by_cases c4:x4_1=true
   ·subst c4
    have H1:(some (0,1))=some (r1,r2):=by rw[if_pos rfl] at H;exact H
    clear H
    have H:=H1
    clear H1
    simp only[Option.some.injEq,Prod.mk.injEq] at H
    obtain⟨rfl,rfl⟩:=H
    go_wp2
    go_ret2
    exact⟨Z.e_,Z.bl⟩
   ·replace c4:=Bool.eq_false_iff.mpr c4
    subst c4
    have H1:(if a0 > 16 then (some ((-1),0)) else ((bits_Len.f (IntKind.u64.wrap (wrap64 (a0 - 1)))).bind fun t224=>(some (mx 0 (wrap64 (t224 - 1)),0))))=some (r1,r2):=by rw[if_neg (show ¬(false=true) by decide)] at H;exact H
    clear H
    have H:=H1
    clear H1
    by_cases c5:a0 > 16
    ·rw[if_pos c5] at H
     have c5b0:decide (16 < a0)=true:=decide_eq_true c5
     clear c5
     simp only[Option.some.injEq,Prod.mk.injEq] at H
     obtain⟨rfl,rfl⟩:=H
     go_wp2
     go_ret2
     exact⟨Z.e_,Z.bl⟩
    ·rw[if_neg c5] at H
     have c5b0:decide (16 < a0)=false:=decide_eq_false c5
     clear c5
     replace H:=Option.bind_eq_some_iff.mp H
     obtain⟨t224,A60,H⟩:=H
     replace H:(some (mx 0 (wrap64 (t224 - 1)),0))=some (r1,r2):=H
     have A6:=As A60
     clear A60
     obtain⟨ji7,hji7⟩:∃j_:Int,(mx 0 (wrap64 (t224 - 1)))=j_:=⟨_,rfl⟩
     replace H:(some (ji7,0))=some (r1,r2):=by first|(rw[hji7] at H;exact H)|(simp only[hji7] at H ⊢;exact H)
     (try rw[hji7] at A6)
     (try (have hji7l:0≤ji7:=by (rw[←hji7];unfold mx;(repeat' split) <;> omega)))
     (try (have hji7m:0≤ji7:=by omega))
     have hji7_:(if 0 < (wrap64 (t224 - 1)) then (wrap64 (t224 - 1)) else 0)=ji7:=hji7
     simp only[Option.some.injEq,Prod.mk.injEq] at H
     obtain⟨rfl,rfl⟩:=H
     go_wp2_with (first|((with_reducible refine gate_callee (f:=92) rfl ?_);refine Z.gl 17 Tryz.func92 #[.int .u64 (IntKind.u64.wrap (wrap64 (a0 - 1)))] ?_;(with_reducible refine (bits_Len.calls (IntKind.u64.wrap (wrap64 (a0 - 1))) t224 _ A6.out).mono ?_);rintro e w' ⟨rfl,⟨nd,rfl⟩⟩;refine⟨_,rfl,?_⟩))
     go_ret2
     exact⟨by first|rfl|(simp[errW_none,errW_some] <;> rfl)|(simp only[←hji7];first|rfl|(simp[errW_none,errW_some] <;> rfl))|(simp[*,errW_none,errW_some] <;> rfl),Z.bl⟩
def class_Size.f (a0:Int):Option (Int×Int):=if a0=0 then some (2,0) else if a0=1 then some (4,0) else if a0=2 then some (8,0) else if a0=3 then some (16,0) else some (0,1)
set_option maxHeartbeats 8000000 in
set_option maxRecDepth 100000 in
theorem class_Size.calls (a0:Int) (r1:Int) (r2:Int) (w:World) (h:class_Size.f a0=some (r1,r2)):
  Calls Tryz.prog 58 #[.int .i64 a0] w fun e w'=>e=.returned (.tuple #[.int .i64 r1,.int .i64 r2])∧Below w.heap.size w w':=by
 have hB:=Below.refl w.heap.size w
 unfold class_Size.f at h
 by_cases c0:a0=0
 ·rw[if_pos c0] at h;simp only[Option.some.injEq,Prod.mk.injEq] at h;obtain⟨rfl,rfl⟩:=h;subst c0
  go_enter Tryz.func58,Tryz.ntmps58
  go_wp2
  go_ret2
  exact⟨rfl,hB.alloc (Nat.le_refl _) _⟩
 rw[if_neg c0] at h
 by_cases c1:a0=1
 ·rw[if_pos c1] at h;simp only[Option.some.injEq,Prod.mk.injEq] at h;obtain⟨rfl,rfl⟩:=h;subst c1
  go_enter Tryz.func58,Tryz.ntmps58
  go_wp2
  go_ret2
  exact⟨rfl,hB.alloc (Nat.le_refl _) _⟩
 rw[if_neg c1] at h
 by_cases c2:a0=2
 ·rw[if_pos c2] at h;simp only[Option.some.injEq,Prod.mk.injEq] at h;obtain⟨rfl,rfl⟩:=h;subst c2
  go_enter Tryz.func58,Tryz.ntmps58
  go_wp2
  go_ret2
  exact⟨rfl,hB.alloc (Nat.le_refl _) _⟩
 rw[if_neg c2] at h
 by_cases c3:a0=3
 ·rw[if_pos c3] at h;simp only[Option.some.injEq,Prod.mk.injEq] at h;obtain⟨rfl,rfl⟩:=h;subst c3
  go_enter Tryz.func58,Tryz.ntmps58
  go_wp2
  go_ret2
  exact⟨rfl,hB.alloc (Nat.le_refl _) _⟩
 rw[if_neg c3] at h;simp only[Option.some.injEq,Prod.mk.injEq] at h;obtain⟨rfl,rfl⟩:=h
 by_cases c4:a0 < 0
 ·have c4b:=decide_eq_true c4
  clear c0 c1 c2 c3 c4
  go_enter Tryz.func58,Tryz.ntmps58
  go_wp2
  go_ret2
  exact⟨rfl,hB⟩
 ·have c4b:=decide_eq_false c4
  have c5:4≤a0:=by omega
  have c5b:=decide_eq_true c5
  clear c0 c1 c2 c3 c4 c5
  go_enter Tryz.func58,Tryz.ntmps58
  go_wp2
  go_ret2
  exact⟨rfl,hB⟩
def class_Pages.f (k:Nat) (a0:Int):Option (Int×Int):=(class_Of.f k a0).bind fun bt225=>(if bt225.2=0 then (some (wrap64 (Int.tdiv (wrap64 ((wrap64 (a0 + 16)) - 1)) 16),0)) else (some (0,bt225.2)))
set_option maxHeartbeats 8000000 in
set_option maxRecDepth 100000 in
theorem class_Pages.calls (k:Nat) (a0:Int) (r1:Int) (r2:Int) (w:World) (h:class_Pages.f k a0=some (r1,r2)):
  Calls Tryz.prog 59 #[.int .i64 a0] w fun e w'=>e=.returned (.tuple #[.int .i64 r1,.int .i64 r2])∧Below w.heap.size w w':=by
 have HB:=As (Below.refl w.heap.size w)
 have H:((class_Of.f k a0).bind fun bt225=>(if bt225.2=0 then (some (wrap64 (Int.tdiv (wrap64 ((wrap64 (a0 + 16)) - 1)) 16),0)) else (some (0,bt225.2))))=some (r1,r2):=h
 clear h
 replace H:=Option.bind_eq_some_iff.mp H
 obtain⟨⟨t225,t226⟩,A20,H⟩:=H
 replace H:(if t226=0 then (some (wrap64 (Int.tdiv (wrap64 ((wrap64 (a0 + 16)) - 1)) 16),0)) else (some (0,t226)))=some (r1,r2):=H
 have A2:=As A20
 clear A20
 by_cases c3:t226=0
 ·rw[if_pos c3] at H
  have c3b0:(t226 == 0)=true:=beq_iff_eq.mpr c3
  have c3b1:(t226 != 0)=false:=bne_eq_false_iff_eq.mpr c3
  clear c3
  simp only[Option.some.injEq,Prod.mk.injEq] at H
  obtain⟨rfl,rfl⟩:=H
  go_enter Tryz.func59,Tryz.ntmps59
  go_wp2_with (first|((with_reducible refine gate_callee (f:=57) rfl ?_);refine Z.gl 8 Tryz.func57 #[.int .i64 a0] ?_;(with_reducible refine (class_Of.calls k a0 t225 t226 _ A2.out).mono ?_);rintro e w4 ⟨rfl,hb⟩;refine⟨_,rfl,?_⟩;replace HB:=Z.sb hb;(try clear hb);(try clear hb2);(try clear hk);(try clear hi)))
  go_ret2
  exact⟨Z.e_,Z.bl⟩
 ·rw[if_neg c3] at H
  have c3b0:(t226 == 0)=false:=beq_eq_false_iff_ne.mpr c3
  have c3b1:(t226 != 0)=true:=bne_iff_ne.mpr c3
  simp only[Option.some.injEq,Prod.mk.injEq] at H
  obtain⟨rfl,rfl⟩:=H
  go_enter Tryz.func59,Tryz.ntmps59
  go_wp2_with (first|((with_reducible refine gate_callee (f:=57) rfl ?_);refine Z.gl 8 Tryz.func57 #[.int .i64 a0] ?_;(with_reducible refine (class_Of.calls k a0 t225 t226 _ A2.out).mono ?_);rintro e w5 ⟨rfl,hb⟩;refine⟨_,rfl,?_⟩;replace HB:=Z.sb hb;(try clear hb);(try clear hb2);(try clear hk);(try clear hi)))
  go_ret2
  exact⟨Z.e_,Z.bl⟩
def heap_sizes.f (k:Nat) (a0:Int):Option (Int×Int):=(class_Of.f k a0).bind fun bt227=>((class_Size.f bt227.1).bind fun bt229=>((class_Pages.f k a0).bind fun bt231=>(some (bt229.1,bt231.1))))
set_option maxHeartbeats 8000000 in
set_option maxRecDepth 100000 in
theorem heap_sizes.calls (k:Nat) (a0:Int) (r1:Int) (r2:Int) (w:World) (h:heap_sizes.f k a0=some (r1,r2)):
  Calls Tryz.prog 24 #[.int .i64 a0] w fun e w'=>e=.returned (.tuple #[.int .i64 r1,.int .i64 r2])∧Below w.heap.size w w':=by
 have HB:=As (Below.refl w.heap.size w)
 have H:((class_Of.f k a0).bind fun bt227=>((class_Size.f bt227.1).bind fun bt229=>((class_Pages.f k a0).bind fun bt231=>(some (bt229.1,bt231.1)))))=some (r1,r2):=h
 clear h
 replace H:=Option.bind_eq_some_iff.mp H
 obtain⟨⟨t227,t228⟩,A20,H⟩:=H
 replace H:((class_Size.f t227).bind fun bt229=>((class_Pages.f k a0).bind fun bt231=>(some (bt229.1,bt231.1))))=some (r1,r2):=H
 have A2:=As A20
 clear A20
 replace H:=Option.bind_eq_some_iff.mp H
 obtain⟨⟨t229,t230⟩,A30,H⟩:=H
 replace H:((class_Pages.f k a0).bind fun bt231=>(some (t229,bt231.1)))=some (r1,r2):=H
 have A3:=As A30
 clear A30
 replace H:=Option.bind_eq_some_iff.mp H
 obtain⟨⟨t231,t232⟩,A40,H⟩:=H
 replace H:(some (t229,t231))=some (r1,r2):=H
 have A4:=As A40
 clear A40
 simp only[Option.some.injEq,Prod.mk.injEq] at H
 obtain⟨rfl,rfl⟩:=H
 go_enter Tryz.func24,Tryz.ntmps24
 go_wp2_with (first|((with_reducible refine gate_callee (f:=57) rfl ?_);refine Z.gl 12 Tryz.func57 #[.int .i64 a0] ?_;(with_reducible refine (class_Of.calls k a0 t227 t228 _ A2.out).mono ?_);rintro e w5 ⟨rfl,hb⟩;refine⟨_,rfl,?_⟩;replace HB:=Z.sb hb;(try clear hb);(try clear hb2);(try clear hk);(try clear hi))|((with_reducible refine gate_callee (f:=58) rfl ?_);refine Z.gl 17 Tryz.func58 #[.int .i64 t227] ?_;(with_reducible refine (class_Size.calls t227 t229 t230 _ A3.out).mono ?_);rintro e w6 ⟨rfl,hb⟩;refine⟨_,rfl,?_⟩;replace HB:=Z.sb hb;(try clear hb);(try clear hb2);(try clear hk);(try clear hi))|((with_reducible refine gate_callee (f:=59) rfl ?_);refine Z.gl 22 Tryz.func59 #[.int .i64 a0] ?_;(with_reducible refine (class_Pages.calls k a0 t231 t232 _ A4.out).mono ?_);rintro e w7 ⟨rfl,hb⟩;refine⟨_,rfl,?_⟩;replace HB:=Z.sb hb;(try clear hb);(try clear hb2);(try clear hk);(try clear hi)))
 go_ret2
 exact⟨Z.e_,Z.bl⟩
def span_Base.f (a0_0:Int) (a0_1:Int) (a0_2:Int) (a0_3:Int) (l0_4:List Int) (a0_5:Int) (l0_6:List Int) (a0_7:Bool):Option (Int):=some (IntKind.u64.wrap (wrap64 (a0_0 * 16)))
set_option maxHeartbeats 8000000 in
set_option maxRecDepth 100000 in
theorem span_Base.calls (a0_0:Int) (a0_1:Int) (a0_2:Int) (a0_3:Int) (A0_4:Option Addr) (c0_4:Nat) (l0_4:List Int) (a0_5:Int) (A0_6:Option Addr) (c0_6:Nat) (l0_6:List Int) (a0_7:Bool) (r:Int) (w:World) (hr0_4:Kd.C (Kd.int .u64) w A0_4 l0_4.length l0_4) (hc0_4:l0_4.length≤c0_4) (hr0_6:Kd.C (Kd.int .u64) w A0_6 l0_6.length l0_6) (hc0_6:l0_6.length≤c0_6) (h:span_Base.f a0_0 a0_1 a0_2 a0_3 l0_4 a0_5 l0_6 a0_7=some r):
  Calls Tryz.prog 65 #[.agg #[.int .i64 a0_0,.int .i64 a0_1,.int .i64 a0_2,.int .i64 a0_3,.slice A0_4 l0_4.length c0_4,.int .i64 a0_5,.slice A0_6 l0_6.length c0_6,.bool a0_7]] w fun e w'=>e=.returned (.int .u64 r)∧Below w.heap.size w w':=by
 have hu51:=Tryz.underlying51
 have HR0_4:=As hr0_4
 have HC0_4:=As hc0_4
 clear hr0_4 hc0_4
 have HR0_6:=As hr0_6
 have HC0_6:=As hc0_6
 clear hr0_6 hc0_6
 have HB:=As (Below.refl w.heap.size w)
 have H:(some (IntKind.u64.wrap (wrap64 (a0_0 * 16))))=some r:=h
 clear h
 obtain rfl:=Option.some.inj H
 go_enter Tryz.func65,Tryz.ntmps65
 go_wp2_with (first|((with_reducible refine gate_dst (N:=1) rfl ?_);refine Z.bx 1 #[.int .i64 a0_0,.int .i64 a0_1,.int .i64 a0_2,.int .i64 a0_3,.slice A0_4 l0_4.length c0_4,.int .i64 a0_5,.slice A0_6 l0_6.length c0_6,.bool a0_7] 51 fun gb233 hg w2 hbox hb=>?_;have BK233:=As hbox;have GW233:=Z.ge hg;have GE233:=Z.ge hg;replace HB:=Z.sb hb;clear hb hbox hg;have hcz3_0:=Z.c0 BK233.out;have hcz3_1:=Z.c1 BK233.out;have hcz3_2:=Z.c2 BK233.out;have hcz3_3:=Z.c3 BK233.out;have hcz3_4:=Z.c4 BK233.out;have hcz3_5:=Z.c5 BK233.out;have hcz3_6:=Z.c6 BK233.out;have hcz3_7:=Z.c7 BK233.out;have hfz3_0:=blk_frozen BK233.out 0;have hfz3_1:=blk_frozen BK233.out 1;have hfz3_2:=blk_frozen BK233.out 2;have hfz3_3:=blk_frozen BK233.out 3;have hfz3_4:=blk_frozen BK233.out 4;have hfz3_5:=blk_frozen BK233.out 5;have hfz3_6:=blk_frozen BK233.out 6;have hfz3_7:=blk_frozen BK233.out 7))
 go_ret
 exact⟨Z.e_,Z.bl⟩
end Go.Proofs.YtmmfchnbfnegnaaGreatDoor.GK
end
section
namespace Go.Proofs.YtmmfchnbfnegnaaGreatDoor.GK
open Go.RowKit Go.Proofs.YtmmfchnbfnegnaaGreatDoorW.PrintWords Go.Proofs.YtmmfchnbfnegnaaGreatDoorW.PrintLast Go.Proofs.YtmmfchnbfnegnaaGreatDoorW.PrintMore
attribute [local go_sem] max2_int min2_int max_two min_two max_three min_three max_four min_four
set_option linter.unusedVariables false
set_option linter.unusedSimpArgs false
def bits_Is.f (a0_0:Int) (l0_1:List Int) (a1:Int):Option (Bool):=if 0≤(wrap64 (Int.tdiv a1 64)) then (if (wrap64 (Int.tdiv a1 64)) < (l0_1.length:Int) then (if 0≤(Int.tmod a1 64) then (some ((Go.bits .and .u64 (shr .u64 (rd l0_1 (wrap64 (Int.tdiv a1 64))) (Int.tmod a1 64)) 1) == 1)) else (none)) else (none)) else (none)
set_option maxHeartbeats 8000000 in
set_option maxRecDepth 100000 in
theorem bits_Is.calls (a0_0:Int) (A0_1:Option Addr) (c0_1:Nat) (l0_1:List Int) (a1:Int) (r:Bool) (w:World) (hr0_1:Kd.C (Kd.int .u64) w A0_1 l0_1.length l0_1) (hc0_1:l0_1.length≤c0_1) (h:bits_Is.f a0_0 l0_1 a1=some r):
  Calls Tryz.prog 79 #[.agg #[.int .i64 a0_0,.slice A0_1 l0_1.length c0_1],.int .i64 a1] w fun e w'=>e=.returned (.bool r)∧Below w.heap.size w w':=by
 have hu29:=Tryz.underlying29
 have HR0_1:=As hr0_1
 have HC0_1:=As hc0_1
 clear hr0_1 hc0_1
 have HB:=As (Below.refl w.heap.size w)
 have H:(if 0≤(wrap64 (Int.tdiv a1 64)) then (if (wrap64 (Int.tdiv a1 64)) < (l0_1.length:Int) then (if 0≤(Int.tmod a1 64) then (some ((Go.bits .and .u64 (shr .u64 (rd l0_1 (wrap64 (Int.tdiv a1 64))) (Int.tmod a1 64)) 1) == 1)) else (none)) else (none)) else (none))=some r:=h
 clear h
 obtain⟨ji3,hji3⟩:∃j_:Int,(wrap64 (Int.tdiv a1 64))=j_:=⟨_,rfl⟩
 replace H:(if 0≤(ji3) then (if (ji3) < (l0_1.length:Int) then (if 0≤(Int.tmod a1 64) then (some ((Go.bits .and .u64 (shr .u64 (rd l0_1 (ji3)) (Int.tmod a1 64)) 1) == 1)) else (none)) else (none)) else (none))=some r:=by first|(rw[hji3] at H;exact H)|(simp only[hji3] at H ⊢;exact H)
 have hji3w:(IntKind.i64.wrap (Int.tdiv a1 64))=ji3:=(i64_w _).trans hji3
 by_cases c4:0≤(ji3)
 ·rw[if_pos c4] at H
  replace c4:=decide_eq_true c4
  by_cases c5:(ji3) < (l0_1.length:Int)
  ·rw[if_pos c5] at H
   replace c5:=decide_eq_true c5
   obtain⟨ji6,hji6⟩:∃j_:Int,(Int.tmod a1 64)=j_:=⟨_,rfl⟩
   replace H:(if 0≤(ji6) then (some ((Go.bits .and .u64 (shr .u64 (rd l0_1 (ji3)) (ji6)) 1) == 1)) else (none))=some r:=by first|(rw[hji6] at H;exact H)|(simp only[hji6] at H ⊢;exact H)
   by_cases c7:0≤(ji6)
   ·rw[if_pos c7] at H
    have c7b0:=eq_true c7
    have c7b1:decide (0≤(ji6))=true:=decide_eq_true c7
    clear c7
    obtain⟨ji8,hji8⟩:∃j_:Int,(shr .u64 (rd l0_1 (ji3)) (ji6))=j_:=⟨_,rfl⟩
    replace H:(some ((Go.bits .and .u64 (ji8) 1) == 1))=some r:=by first|(rw[hji8] at H;exact H)|(simp only[hji8] at H ⊢;exact H)
    have hji8_:((rd l0_1 (ji3)) / 2 ^ min (ji6).toNat 64)=ji8:=hji8
    have hji8z:(ji6)≤64→((rd l0_1 (ji3)) / 2 ^ (ji6).toNat)=ji8:=shr_small hji8
    obtain rfl:=Option.some.inj H
    go_enter Tryz.func79,Tryz.ntmps79
    go_wp2_with (first|((with_reducible refine gate_dst (N:=2) rfl ?_);refine Z.bx 2 #[.int .i64 a0_0,.slice A0_1 l0_1.length c0_1] 29 fun gb234 hg w9 hbox hb=>?_;have BK234:=As hbox;have GW234:=Z.ge hg;have GE234:=Z.ge hg;replace HB:=Z.sb hb;clear hb hbox hg;have hcz10_0:=Z.c0 BK234.out;have hcz10_1:=Z.c1 BK234.out;have hfz10_0:=blk_frozen BK234.out 0;have hfz10_1:=blk_frozen BK234.out 1;have p235:0≤((ji3):Int):=Z.od;have q235:(ji3) < (l0_1.length:Int):=Z.od;obtain⟨ad235,e235,hx235_0⟩:=Kd.at_int HR0_1.out (ji3) p235 q235;cases e235;replace hx235_0:=(HB.out.cell (World.block_lt_of_cell? w _ hx235_0)).trans hx235_0;replace p235:=eq_true p235;replace q235:=eq_true q235))
    go_ret
    exact⟨by first|rfl|(simp[errW_none,errW_some] <;> rfl)|(simp only[←hji3,←hji6,←hji8];first|rfl|(simp[errW_none,errW_some] <;> rfl))|(simp[*,errW_none,errW_some] <;> rfl),Z.bl⟩
   ·rw[if_neg c7] at H
    exact absurd H (by simp)
  ·rw[if_neg c5] at H
   exact absurd H (by simp)
 ·rw[if_neg c4] at H
  exact absurd H (by simp)
def head_Check.f (a0_0:Int) (a0_1:Int):Option (Int):=if a0_0 < 0 then (some 2) else (if a0_0 > 48 then (some 2) else ((bits_Len64.f a0_1).bind fun t237=>(if t237 > a0_0 then (some 2) else (some 0))))
set_option maxHeartbeats 8000000 in
set_option maxRecDepth 100000 in
theorem head_Check.calls (a0_0:Int) (a0_1:Int) (r:Int) (w:World) (h:head_Check.f a0_0 a0_1=some r):
  Calls Tryz.prog 23 #[.agg #[.int .i64 a0_0,.int .u64 a0_1]] w fun e w'=>e=.returned (.int .i64 r)∧Below w.heap.size w w':=by
 have hu41:=Tryz.underlying41
 have HB:=As (Below.refl w.heap.size w)
 have H:(if a0_0 < 0 then (some 2) else (if a0_0 > 48 then (some 2) else ((bits_Len64.f a0_1).bind fun t237=>(if t237 > a0_0 then (some 2) else (some 0)))))=some r:=h
 clear h
 by_cases c2:a0_0 < 0
 ·rw[if_pos c2] at H
  have c2b0:decide (a0_0 < 0)=true:=decide_eq_true c2
  clear c2
  obtain rfl:=Option.some.inj H
  go_enter Tryz.func23,Tryz.ntmps23
  go_wp2_with (first|((with_reducible refine gate_dst (N:=1) rfl ?_);refine Z.bx 1 #[.int .i64 a0_0,.int .u64 a0_1] 41 fun gb236 hg w3 hbox hb=>?_;have BK236:=As hbox;have GW236:=Z.ge hg;have GE236:=Z.ge hg;replace HB:=Z.sb hb;clear hb hbox hg;have hcz4_0:=Z.c0 BK236.out;have hcz4_1:=Z.c1 BK236.out;have hfz4_0:=blk_frozen BK236.out 0;have hfz4_1:=blk_frozen BK236.out 1))
  repeat (go_quiet (first|((with_reducible refine gate_dst (N:=1) rfl ?_);refine Z.bx 1 #[.int .i64 a0_0,.int .u64 a0_1] 41 fun gb236 hg w3 hbox hb=>?_;have BK236:=As hbox;have GW236:=Z.ge hg;have GE236:=Z.ge hg;replace HB:=Z.sb hb;clear hb hbox hg;have hcz4_0:=Z.c0 BK236.out;have hcz4_1:=Z.c1 BK236.out;have hfz4_0:=blk_frozen BK236.out 0;have hfz4_1:=blk_frozen BK236.out 1));try go_wp2_with (first|((with_reducible refine gate_dst (N:=1) rfl ?_);refine Z.bx 1 #[.int .i64 a0_0,.int .u64 a0_1] 41 fun gb236 hg w3 hbox hb=>?_;have BK236:=As hbox;have GW236:=Z.ge hg;have GE236:=Z.ge hg;replace HB:=Z.sb hb;clear hb hbox hg;have hcz4_0:=Z.c0 BK236.out;have hcz4_1:=Z.c1 BK236.out;have hfz4_0:=blk_frozen BK236.out 0;have hfz4_1:=blk_frozen BK236.out 1)))
  go_ret
  exact⟨Z.e_,Z.bl⟩
 ·rw[if_neg c2] at H
  have c2b0:decide (a0_0 < 0)=false:=decide_eq_false c2
  clear c2
  by_cases c5:a0_0 > 48
  ·rw[if_pos c5] at H
   have c5b0:decide (48 < a0_0)=true:=decide_eq_true c5
   clear c5
   obtain rfl:=Option.some.inj H
   go_enter Tryz.func23,Tryz.ntmps23
   go_wp2_with (first|((with_reducible refine gate_dst (N:=1) rfl ?_);refine Z.bx 1 #[.int .i64 a0_0,.int .u64 a0_1] 41 fun gb236 hg w6 hbox hb=>?_;have BK236:=As hbox;have GW236:=Z.ge hg;have GE236:=Z.ge hg;replace HB:=Z.sb hb;clear hb hbox hg;have hcz7_0:=Z.c0 BK236.out;have hcz7_1:=Z.c1 BK236.out;have hfz7_0:=blk_frozen BK236.out 0;have hfz7_1:=blk_frozen BK236.out 1))
   repeat (go_quiet (first|((with_reducible refine gate_dst (N:=1) rfl ?_);refine Z.bx 1 #[.int .i64 a0_0,.int .u64 a0_1] 41 fun gb236 hg w6 hbox hb=>?_;have BK236:=As hbox;have GW236:=Z.ge hg;have GE236:=Z.ge hg;replace HB:=Z.sb hb;clear hb hbox hg;have hcz7_0:=Z.c0 BK236.out;have hcz7_1:=Z.c1 BK236.out;have hfz7_0:=blk_frozen BK236.out 0;have hfz7_1:=blk_frozen BK236.out 1));try go_wp2_with (first|((with_reducible refine gate_dst (N:=1) rfl ?_);refine Z.bx 1 #[.int .i64 a0_0,.int .u64 a0_1] 41 fun gb236 hg w6 hbox hb=>?_;have BK236:=As hbox;have GW236:=Z.ge hg;have GE236:=Z.ge hg;replace HB:=Z.sb hb;clear hb hbox hg;have hcz7_0:=Z.c0 BK236.out;have hcz7_1:=Z.c1 BK236.out;have hfz7_0:=blk_frozen BK236.out 0;have hfz7_1:=blk_frozen BK236.out 1)))
   go_ret
   exact⟨Z.e_,Z.bl⟩
  ·rw[if_neg c5] at H
   have c5b0:decide (48 < a0_0)=false:=decide_eq_false c5
   clear c5
   replace H:=Option.bind_eq_some_iff.mp H
   obtain⟨t237,A80,H⟩:=H
   replace H:(if t237 > a0_0 then (some 2) else (some 0))=some r:=H
   have A8:=As A80
   clear A80
   by_cases c9:t237 > a0_0
   ·rw[if_pos c9] at H
    have c9b0:decide (a0_0 < t237)=true:=decide_eq_true c9
    clear c9
    obtain rfl:=Option.some.inj H
    go_enter Tryz.func23,Tryz.ntmps23
    go_wp2_with (first|((with_reducible refine gate_dst (N:=1) rfl ?_);refine Z.bx 1 #[.int .i64 a0_0,.int .u64 a0_1] 41 fun gb236 hg w10 hbox hb=>?_;have BK236:=As hbox;have GW236:=Z.ge hg;have GE236:=Z.ge hg;replace HB:=Z.sb hb;clear hb hbox hg;have hcz11_0:=Z.c0 BK236.out;have hcz11_1:=Z.c1 BK236.out;have hfz11_0:=blk_frozen BK236.out 0;have hfz11_1:=blk_frozen BK236.out 1)|(go_at_call 56;(with_reducible refine (bits_Len64.calls a0_1 t237 _ A8.out).mono ?_);rintro e w' ⟨rfl,⟨nd,rfl⟩⟩;(try first|exact⟨rfl,_,World.drewN_drewN _ _ _⟩|exact⟨rfl,_,Eq.trans (World.drewN_drewN _ _ _) (congrArg (World.drewN _) (Nat.add_assoc _ _ _))⟩)))
    repeat (go_quiet (first|((with_reducible refine gate_dst (N:=1) rfl ?_);refine Z.bx 1 #[.int .i64 a0_0,.int .u64 a0_1] 41 fun gb236 hg w10 hbox hb=>?_;have BK236:=As hbox;have GW236:=Z.ge hg;have GE236:=Z.ge hg;replace HB:=Z.sb hb;clear hb hbox hg;have hcz11_0:=Z.c0 BK236.out;have hcz11_1:=Z.c1 BK236.out;have hfz11_0:=blk_frozen BK236.out 0;have hfz11_1:=blk_frozen BK236.out 1)|(go_at_call 56;(with_reducible refine (bits_Len64.calls a0_1 t237 _ A8.out).mono ?_);rintro e w' ⟨rfl,⟨nd,rfl⟩⟩;(try first|exact⟨rfl,_,World.drewN_drewN _ _ _⟩|exact⟨rfl,_,Eq.trans (World.drewN_drewN _ _ _) (congrArg (World.drewN _) (Nat.add_assoc _ _ _))⟩)));try go_wp2_with (first|((with_reducible refine gate_dst (N:=1) rfl ?_);refine Z.bx 1 #[.int .i64 a0_0,.int .u64 a0_1] 41 fun gb236 hg w10 hbox hb=>?_;have BK236:=As hbox;have GW236:=Z.ge hg;have GE236:=Z.ge hg;replace HB:=Z.sb hb;clear hb hbox hg;have hcz11_0:=Z.c0 BK236.out;have hcz11_1:=Z.c1 BK236.out;have hfz11_0:=blk_frozen BK236.out 0;have hfz11_1:=blk_frozen BK236.out 1)|(go_at_call 56;(with_reducible refine (bits_Len64.calls a0_1 t237 _ A8.out).mono ?_);rintro e w' ⟨rfl,⟨nd,rfl⟩⟩;(try first|exact⟨rfl,_,World.drewN_drewN _ _ _⟩|exact⟨rfl,_,Eq.trans (World.drewN_drewN _ _ _) (congrArg (World.drewN _) (Nat.add_assoc _ _ _))⟩))))
    go_ret
    exact⟨Z.e_,Z.bl⟩
   ·rw[if_neg c9] at H
    have c9b0:decide (a0_0 < t237)=false:=decide_eq_false c9
    clear c9
    obtain rfl:=Option.some.inj H
    go_enter Tryz.func23,Tryz.ntmps23
    go_wp2_with (first|((with_reducible refine gate_dst (N:=1) rfl ?_);refine Z.bx 1 #[.int .i64 a0_0,.int .u64 a0_1] 41 fun gb236 hg w12 hbox hb=>?_;have BK236:=As hbox;have GW236:=Z.ge hg;have GE236:=Z.ge hg;replace HB:=Z.sb hb;clear hb hbox hg;have hcz13_0:=Z.c0 BK236.out;have hcz13_1:=Z.c1 BK236.out;have hfz13_0:=blk_frozen BK236.out 0;have hfz13_1:=blk_frozen BK236.out 1)|(go_at_call 56;(with_reducible refine (bits_Len64.calls a0_1 t237 _ A8.out).mono ?_);rintro e w' ⟨rfl,⟨nd,rfl⟩⟩;(try first|exact⟨rfl,_,World.drewN_drewN _ _ _⟩|exact⟨rfl,_,Eq.trans (World.drewN_drewN _ _ _) (congrArg (World.drewN _) (Nat.add_assoc _ _ _))⟩)))
    repeat (go_quiet (first|((with_reducible refine gate_dst (N:=1) rfl ?_);refine Z.bx 1 #[.int .i64 a0_0,.int .u64 a0_1] 41 fun gb236 hg w12 hbox hb=>?_;have BK236:=As hbox;have GW236:=Z.ge hg;have GE236:=Z.ge hg;replace HB:=Z.sb hb;clear hb hbox hg;have hcz13_0:=Z.c0 BK236.out;have hcz13_1:=Z.c1 BK236.out;have hfz13_0:=blk_frozen BK236.out 0;have hfz13_1:=blk_frozen BK236.out 1)|(go_at_call 56;(with_reducible refine (bits_Len64.calls a0_1 t237 _ A8.out).mono ?_);rintro e w' ⟨rfl,⟨nd,rfl⟩⟩;(try first|exact⟨rfl,_,World.drewN_drewN _ _ _⟩|exact⟨rfl,_,Eq.trans (World.drewN_drewN _ _ _) (congrArg (World.drewN _) (Nat.add_assoc _ _ _))⟩)));try go_wp2_with (first|((with_reducible refine gate_dst (N:=1) rfl ?_);refine Z.bx 1 #[.int .i64 a0_0,.int .u64 a0_1] 41 fun gb236 hg w12 hbox hb=>?_;have BK236:=As hbox;have GW236:=Z.ge hg;have GE236:=Z.ge hg;replace HB:=Z.sb hb;clear hb hbox hg;have hcz13_0:=Z.c0 BK236.out;have hcz13_1:=Z.c1 BK236.out;have hfz13_0:=blk_frozen BK236.out 0;have hfz13_1:=blk_frozen BK236.out 1)|(go_at_call 56;(with_reducible refine (bits_Len64.calls a0_1 t237 _ A8.out).mono ?_);rintro e w' ⟨rfl,⟨nd,rfl⟩⟩;(try first|exact⟨rfl,_,World.drewN_drewN _ _ _⟩|exact⟨rfl,_,Eq.trans (World.drewN_drewN _ _ _) (congrArg (World.drewN _) (Nat.add_assoc _ _ _))⟩))))
    go_ret
    exact⟨Z.e_,Z.bl⟩
def head_Unpack.f (a0:Int):Option (Int×Int×Int):=if (a0 / 72057594037927936)=165 then ((head_Check.f (wrap64 (Go.bits .and .u64 a0 255)) ((IntKind.u64.wrap (a0 * 256)) / 65536)).bind fun t240=>(if t240=0 then (some (wrap64 (Go.bits .and .u64 a0 255),(IntKind.u64.wrap (a0 * 256)) / 65536,0)) else (some (0,0,2)))) else (some (0,0,2))
set_option maxHeartbeats 8000000 in
set_option maxRecDepth 100000 in
theorem head_Unpack.calls (a0:Int) (r1:Int) (r2:Int) (r3:Int) (w:World) (h:head_Unpack.f a0=some (r1,r2,r3)):
  Calls Tryz.prog 110 #[.int .u64 a0] w fun e w'=>e=.returned (.tuple #[.agg #[.int .i64 r1,.int .u64 r2],.int .i64 r3])∧Below w.heap.size w w':=by
 have hu41:=Tryz.underlying41
 have HB:=As (Below.refl w.heap.size w)
 have H:(if (a0 / 72057594037927936)=165 then ((head_Check.f (wrap64 (Go.bits .and .u64 a0 255)) ((IntKind.u64.wrap (a0 * 256)) / 65536)).bind fun t240=>(if t240=0 then (some (wrap64 (Go.bits .and .u64 a0 255),(IntKind.u64.wrap (a0 * 256)) / 65536,0)) else (some (0,0,2)))) else (some (0,0,2)))=some (r1,r2,r3):=h
 clear h
 by_cases c2:(a0 / 72057594037927936)=165
 ·rw[if_pos c2] at H
  have c2b0:((a0 / 72057594037927936) == 165)=true:=beq_iff_eq.mpr c2
  have c2b1:((a0 / 72057594037927936) != 165)=false:=bne_eq_false_iff_eq.mpr c2
  clear c2
  replace H:=Option.bind_eq_some_iff.mp H
  obtain⟨t240,A30,H⟩:=H
  replace H:(if t240=0 then (some (wrap64 (Go.bits .and .u64 a0 255),(IntKind.u64.wrap (a0 * 256)) / 65536,0)) else (some (0,0,2)))=some (r1,r2,r3):=H
  have A3:=As A30
  clear A30
  by_cases c4:t240=0
  ·rw[if_pos c4] at H
   have c4b0:(t240 == 0)=true:=beq_iff_eq.mpr c4
   have c4b1:(t240 != 0)=false:=bne_eq_false_iff_eq.mpr c4
   clear c4
   simp only[Option.some.injEq,Prod.mk.injEq] at H
   obtain⟨rfl,rfl,rfl⟩:=H
   go_enter Tryz.func110,Tryz.ntmps110
   go_wp2_with (first|((with_reducible refine gate_dst (N:=2) rfl ?_);refine Z.bx 2 #[.int .i64 0,.int .u64 0] 41 fun gb238 hg w5 hbox hb=>?_;have BK238:=As hbox;have GW238:=Z.ge hg;have GE238:=Z.ge hg;replace HB:=Z.sb hb;clear hb hbox hg)|((with_reducible refine gate_dst (N:=4) rfl ?_);refine Z.bx 4 #[.int .i64 0,.int .u64 0] 41 fun gb239 hg w6 hbox hb=>?_;have BK239:=As hbox;have GW239:=Z.ge hg;have GE239:=Z.ge hg;have NB238_239:=Z.nl BK238 hg;have NB239_238:=Z.ng BK238 hg;replace HB:=Z.sb hb;replace BK238:=Z.kb BK238 hb;clear hb hbox hg;have hnb7:=NB239_238.out;have hnc7:=NB238_239.out;have hcz8_0:=Z.c0 BK239.out;have hcz8_1:=Z.c1 BK239.out;have hfz8_0:=blk_frozen BK239.out 0;have hfz8_1:=blk_frozen BK239.out 1)|(go_at_call 23;(with_reducible refine (head_Check.calls (wrap64 (Go.bits .and .u64 a0 255)) ((IntKind.u64.wrap (a0 * 256)) / 65536) t240 _ A3.out).mono ?_);rintro e w9 ⟨rfl,hb⟩;have n0_:=As (blk_below (g:=gb238) (o:=.cells #[.int .i64 0,.int .u64 0] 41 (0,0)) Z.bs hb);have n1_:=As (blk_below (g:=gb239) (o:=.cells #[.int .i64 (wrap64 (Go.bits .and .u64 a0 255)),.int .u64 ((IntKind.u64.wrap (a0 * 256)) / 65536)] 41 (0,0)) Z.bs hb);have n2_:=Z.sb hb;replace BK238:=n0_;replace BK239:=n1_;replace HB:=n2_;clear n0_ n1_ n2_;(try clear hb);(try clear hb2);(try clear hk);(try clear hi);have hcz10_0:=Z.c0 BK239.out;have hcz10_1:=Z.c1 BK239.out;have hfz10_0:=blk_frozen BK239.out 0;have hfz10_1:=blk_frozen BK239.out 1;have hcz11_0:=Z.c0 BK238.out;have hcz11_1:=Z.c1 BK238.out;have hfz11_0:=blk_frozen BK238.out 0;have hfz11_1:=blk_frozen BK238.out 1))
   refine bodyPost_ret (results_ct rfl _ _ gb238 41 #[.int .i64 (wrap64 (Go.bits .and .u64 a0 255)),.int .u64 ((IntKind.u64.wrap (a0 * 256)) / 65536)] (0,0) _ rfl Z.bs Tryz.underlying41 rfl (by kernel_rfl)) rfl ?_
   exact⟨Z.e_,Z.bl⟩
  ·rw[if_neg c4] at H
   have c4b0:(t240 == 0)=false:=beq_eq_false_iff_ne.mpr c4
   have c4b1:(t240 != 0)=true:=bne_iff_ne.mpr c4
   simp only[Option.some.injEq,Prod.mk.injEq] at H
   obtain⟨rfl,rfl,rfl⟩:=H
   go_enter Tryz.func110,Tryz.ntmps110
   go_wp2_with (first|((with_reducible refine gate_dst (N:=2) rfl ?_);refine Z.bx 2 #[.int .i64 0,.int .u64 0] 41 fun gb238 hg w12 hbox hb=>?_;have BK238:=As hbox;have GW238:=Z.ge hg;have GE238:=Z.ge hg;replace HB:=Z.sb hb;clear hb hbox hg)|((with_reducible refine gate_dst (N:=4) rfl ?_);refine Z.bx 4 #[.int .i64 0,.int .u64 0] 41 fun gb239 hg w13 hbox hb=>?_;have BK239:=As hbox;have GW239:=Z.ge hg;have GE239:=Z.ge hg;have NB238_239:=Z.nl BK238 hg;have NB239_238:=Z.ng BK238 hg;replace HB:=Z.sb hb;replace BK238:=Z.kb BK238 hb;clear hb hbox hg;have hnb14:=NB239_238.out;have hnc14:=NB238_239.out;have hcz15_0:=Z.c0 BK239.out;have hcz15_1:=Z.c1 BK239.out;have hfz15_0:=blk_frozen BK239.out 0;have hfz15_1:=blk_frozen BK239.out 1)|(go_at_call 23;(with_reducible refine (head_Check.calls (wrap64 (Go.bits .and .u64 a0 255)) ((IntKind.u64.wrap (a0 * 256)) / 65536) t240 _ A3.out).mono ?_);rintro e w16 ⟨rfl,hb⟩;have n0_:=As (blk_below (g:=gb238) (o:=.cells #[.int .i64 0,.int .u64 0] 41 (0,0)) Z.bs hb);have n1_:=As (blk_below (g:=gb239) (o:=.cells #[.int .i64 (wrap64 (Go.bits .and .u64 a0 255)),.int .u64 ((IntKind.u64.wrap (a0 * 256)) / 65536)] 41 (0,0)) Z.bs hb);have n2_:=Z.sb hb;replace BK238:=n0_;replace BK239:=n1_;replace HB:=n2_;clear n0_ n1_ n2_;(try clear hb);(try clear hb2);(try clear hk);(try clear hi);have hcz17_0:=Z.c0 BK238.out;have hcz17_1:=Z.c1 BK238.out;have hfz17_0:=blk_frozen BK238.out 0;have hfz17_1:=blk_frozen BK238.out 1))
   refine bodyPost_ret (results_ct rfl _ _ gb238 41 #[.int .i64 0,.int .u64 0] (0,0) _ rfl Z.bs Tryz.underlying41 rfl (by kernel_rfl)) rfl ?_
   exact⟨Z.e_,Z.bl⟩
 ·rw[if_neg c2] at H
  have c2b0:((a0 / 72057594037927936) == 165)=false:=beq_eq_false_iff_ne.mpr c2
  have c2b1:((a0 / 72057594037927936) != 165)=true:=bne_iff_ne.mpr c2
  simp only[Option.some.injEq,Prod.mk.injEq] at H
  obtain⟨rfl,rfl,rfl⟩:=H
  go_enter Tryz.func110,Tryz.ntmps110
  go_wp2_with (first|((with_reducible refine gate_dst (N:=2) rfl ?_);refine Z.bx 2 #[.int .i64 0,.int .u64 0] 41 fun gb238 hg w18 hbox hb=>?_;have BK238:=As hbox;have GW238:=Z.ge hg;have GE238:=Z.ge hg;replace HB:=Z.sb hb;clear hb hbox hg)|((with_reducible refine gate_dst (N:=4) rfl ?_);refine Z.bx 4 #[.int .i64 0,.int .u64 0] 41 fun gb239 hg w19 hbox hb=>?_;have BK239:=As hbox;have GW239:=Z.ge hg;have GE239:=Z.ge hg;have NB238_239:=Z.nl BK238 hg;have NB239_238:=Z.ng BK238 hg;replace HB:=Z.sb hb;replace BK238:=Z.kb BK238 hb;clear hb hbox hg;have hnb20:=NB239_238.out;have hnc20:=NB238_239.out;have hcz21_0:=Z.c0 BK239.out;have hcz21_1:=Z.c1 BK239.out;have hfz21_0:=blk_frozen BK239.out 0;have hfz21_1:=blk_frozen BK239.out 1;have hcz22_0:=Z.c0 BK238.out;have hcz22_1:=Z.c1 BK238.out;have hfz22_0:=blk_frozen BK238.out 0;have hfz22_1:=blk_frozen BK238.out 1))
  refine bodyPost_ret (results_ct rfl _ _ gb238 41 #[.int .i64 0,.int .u64 0] (0,0) _ rfl Z.bs Tryz.underlying41 rfl (by kernel_rfl)) rfl ?_
  exact⟨Z.e_,Z.bl⟩
def head_Is.f (a0_0:Int) (a0_1:Int) (a1:Int):Option (Bool):=if 0≤a1 then (some ((Go.bits .and .u64 (shr .u64 a0_1 a1) 1) == 1)) else (none)
set_option maxHeartbeats 8000000 in
set_option maxRecDepth 100000 in
theorem head_Is.calls (a0_0:Int) (a0_1:Int) (a1:Int) (r:Bool) (w:World) (h:head_Is.f a0_0 a0_1 a1=some r):
  Calls Tryz.prog 80 #[.agg #[.int .i64 a0_0,.int .u64 a0_1],.int .i64 a1] w fun e w'=>e=.returned (.bool r)∧Below w.heap.size w w':=by
 have hu41:=Tryz.underlying41
 have HB:=As (Below.refl w.heap.size w)
 have H:(if 0≤a1 then (some ((Go.bits .and .u64 (shr .u64 a0_1 a1) 1) == 1)) else (none))=some r:=h
 clear h
 by_cases c3:0≤a1
 ·rw[if_pos c3] at H
  have c3b0:=eq_true c3
  have c3b1:decide (0≤a1)=true:=decide_eq_true c3
  clear c3
  obtain⟨ji4,hji4⟩:∃j_:Int,(shr .u64 a0_1 a1)=j_:=⟨_,rfl⟩
  replace H:(some ((Go.bits .and .u64 (ji4) 1) == 1))=some r:=by first|(rw[hji4] at H;exact H)|(simp only[hji4] at H ⊢;exact H)
  have hji4_:(a0_1 / 2 ^ min a1.toNat 64)=ji4:=hji4
  have hji4z:a1≤64→(a0_1 / 2 ^ a1.toNat)=ji4:=shr_small hji4
  obtain rfl:=Option.some.inj H
  go_enter Tryz.func80,Tryz.ntmps80
  go_wp2_with (first|((with_reducible refine gate_dst (N:=2) rfl ?_);refine Z.bx 2 #[.int .i64 a0_0,.int .u64 a0_1] 41 fun gb252 hg w5 hbox hb=>?_;have BK252:=As hbox;have GW252:=Z.ge hg;have GE252:=Z.ge hg;replace HB:=Z.sb hb;clear hb hbox hg;have hcz6_0:=Z.c0 BK252.out;have hcz6_1:=Z.c1 BK252.out;have hfz6_0:=blk_frozen BK252.out 0;have hfz6_1:=blk_frozen BK252.out 1))
  go_ret
  exact⟨by first|rfl|(simp[errW_none,errW_some] <;> rfl)|(simp only[←hji4];first|rfl|(simp[errW_none,errW_some] <;> rfl))|(simp[*,errW_none,errW_some] <;> rfl),Z.bl⟩
 ·rw[if_neg c3] at H
  exact absurd H (by simp)
def cmp_isNaN_uint64.f (a0:Int):Option (Bool):=some (a0 != a0)
set_option maxHeartbeats 8000000 in
set_option maxRecDepth 100000 in
theorem cmp_isNaN_uint64.calls (a0:Int) (r:Bool) (w:World) (h:cmp_isNaN_uint64.f a0=some r):
  Calls Tryz.prog 102 #[.int .u64 a0] w fun e w'=>e=.returned (.bool r)∧Drawn0 w w':=by
 have H:(some (a0 != a0))=some r:=h
 clear h
 obtain rfl:=Option.some.inj H
 go_enter Tryz.func102,Tryz.ntmps102
 go_wp2
 go_ret
 exact⟨Z.r_,Z.dr⟩
def cmp_Compare_uint64.f (a0:Int) (a1:Int):Option (Int):=(cmp_isNaN_uint64.f a0).bind fun t253=>((cmp_isNaN_uint64.f a1).bind fun t254=>(if t253=true then (if t254=true then (some 0) else (some (-1))) else (if t254=true then (some 1) else (if a0 < a1 then (some (-1)) else (if a0 > a1 then (some 1) else (some 0))))))
set_option maxHeartbeats 8000000 in
set_option maxRecDepth 100000 in
theorem cmp_Compare_uint64.calls (a0:Int) (a1:Int) (r:Int) (w:World) (h:cmp_Compare_uint64.f a0 a1=some r):
  Calls Tryz.prog 69 #[.int .u64 a0,.int .u64 a1] w fun e w'=>e=.returned (.int .i64 r)∧Drawn0 w w':=by
 have H:((cmp_isNaN_uint64.f a0).bind fun t253=>((cmp_isNaN_uint64.f a1).bind fun t254=>(if t253=true then (if t254=true then (some 0) else (some (-1))) else (if t254=true then (some 1) else (if a0 < a1 then (some (-1)) else (if a0 > a1 then (some 1) else (some 0)))))))=some r:=h
 clear h
 replace H:=Option.bind_eq_some_iff.mp H
 obtain⟨t253,A30,H⟩:=H
 replace H:((cmp_isNaN_uint64.f a1).bind fun t254=>(if t253=true then (if t254=true then (some 0) else (some (-1))) else (if t254=true then (some 1) else (if a0 < a1 then (some (-1)) else (if a0 > a1 then (some 1) else (some 0))))))=some r:=H
 have A3:=As A30
 clear A30
 replace H:=Option.bind_eq_some_iff.mp H
 obtain⟨t254,A40,H⟩:=H
 replace H:(if t253=true then (if t254=true then (some 0) else (some (-1))) else (if t254=true then (some 1) else (if a0 < a1 then (some (-1)) else (if a0 > a1 then (some 1) else (some 0)))))=some r:=H
 have A4:=As A40
 clear A40
 by_cases c5:t253=true
 ·subst c5
  have H1:(if t254=true then (some 0) else (some (-1)))=some r:=by rw[if_pos rfl] at H;exact H
  clear H
  have H:=H1
  clear H1
  by_cases c6:t254=true
  ·subst c6
   have H1:(some 0)=some r:=by rw[if_pos rfl] at H;exact H
   clear H
   have H:=H1
   clear H1
   obtain rfl:=Option.some.inj H
   go_enter Tryz.func69,Tryz.ntmps69
   go_wp2_with (first|((with_reducible refine gate_callee (f:=102) rfl ?_);refine Z.gl 8 Tryz.func102 #[.int .u64 a0] ?_;(with_reducible refine (cmp_isNaN_uint64.calls a0 true _ A3.out).mono ?_);rintro e w' ⟨rfl,⟨nd,rfl⟩⟩;refine⟨_,rfl,?_⟩)|((with_reducible refine gate_callee (f:=102) rfl ?_);refine Z.gl 10 Tryz.func102 #[.int .u64 a1] ?_;(with_reducible refine (cmp_isNaN_uint64.calls a1 true _ A4.out).mono ?_);rintro e w' ⟨rfl,⟨nd,rfl⟩⟩;refine⟨_,rfl,?_⟩))
   go_ret
   exact⟨Z.r_,Z.dr⟩
  ·replace c6:=Bool.eq_false_iff.mpr c6
   subst c6
   have H1:(some (-1))=some r:=by rw[if_neg (show ¬(false=true) by decide)] at H;exact H
   clear H
   have H:=H1
   clear H1
   obtain rfl:=Option.some.inj H
   go_enter Tryz.func69,Tryz.ntmps69
   go_wp2_with (first|((with_reducible refine gate_callee (f:=102) rfl ?_);refine Z.gl 8 Tryz.func102 #[.int .u64 a0] ?_;(with_reducible refine (cmp_isNaN_uint64.calls a0 true _ A3.out).mono ?_);rintro e w' ⟨rfl,⟨nd,rfl⟩⟩;refine⟨_,rfl,?_⟩)|((with_reducible refine gate_callee (f:=102) rfl ?_);refine Z.gl 10 Tryz.func102 #[.int .u64 a1] ?_;(with_reducible refine (cmp_isNaN_uint64.calls a1 false _ A4.out).mono ?_);rintro e w' ⟨rfl,⟨nd,rfl⟩⟩;refine⟨_,rfl,?_⟩))
   go_ret
   exact⟨Z.r_,Z.dr⟩
 ·replace c5:=Bool.eq_false_iff.mpr c5
  subst c5
  have H1:(if t254=true then (some 1) else (if a0 < a1 then (some (-1)) else (if a0 > a1 then (some 1) else (some 0))))=some r:=by rw[if_neg (show ¬(false=true) by decide)] at H;exact H
  clear H
  have H:=H1
  clear H1
  by_cases c7:t254=true
  ·subst c7
   have H1:(some 1)=some r:=by rw[if_pos rfl] at H;exact H
   clear H
   have H:=H1
   clear H1
   obtain rfl:=Option.some.inj H
   go_enter Tryz.func69,Tryz.ntmps69
   go_wp2_with (first|((with_reducible refine gate_callee (f:=102) rfl ?_);refine Z.gl 8 Tryz.func102 #[.int .u64 a0] ?_;(with_reducible refine (cmp_isNaN_uint64.calls a0 false _ A3.out).mono ?_);rintro e w' ⟨rfl,⟨nd,rfl⟩⟩;refine⟨_,rfl,?_⟩)|((with_reducible refine gate_callee (f:=102) rfl ?_);refine Z.gl 10 Tryz.func102 #[.int .u64 a1] ?_;(with_reducible refine (cmp_isNaN_uint64.calls a1 true _ A4.out).mono ?_);rintro e w' ⟨rfl,⟨nd,rfl⟩⟩;refine⟨_,rfl,?_⟩))
   go_ret
   exact⟨Z.r_,Z.dr⟩
  ·replace c7:=Bool.eq_false_iff.mpr c7
   subst c7
   have H1:(if a0 < a1 then (some (-1)) else (if a0 > a1 then (some 1) else (some 0)))=some r:=by rw[if_neg (show ¬(false=true) by decide)] at H;exact H
   clear H
   have H:=H1
   clear H1
   by_cases c8:a0 < a1
   ·rw[if_pos c8] at H
    have c8b0:decide (a0 < a1)=true:=decide_eq_true c8
    clear c8
    obtain rfl:=Option.some.inj H
    go_enter Tryz.func69,Tryz.ntmps69
    go_wp2_with (first|((with_reducible refine gate_callee (f:=102) rfl ?_);refine Z.gl 8 Tryz.func102 #[.int .u64 a0] ?_;(with_reducible refine (cmp_isNaN_uint64.calls a0 false _ A3.out).mono ?_);rintro e w' ⟨rfl,⟨nd,rfl⟩⟩;refine⟨_,rfl,?_⟩)|((with_reducible refine gate_callee (f:=102) rfl ?_);refine Z.gl 10 Tryz.func102 #[.int .u64 a1] ?_;(with_reducible refine (cmp_isNaN_uint64.calls a1 false _ A4.out).mono ?_);rintro e w' ⟨rfl,⟨nd,rfl⟩⟩;refine⟨_,rfl,?_⟩))
    go_ret
    exact⟨Z.r_,Z.dr⟩
   ·rw[if_neg c8] at H
    have c8b0:decide (a0 < a1)=false:=decide_eq_false c8
    clear c8
    by_cases c9:a0 > a1
    ·rw[if_pos c9] at H
     have c9b0:decide (a1 < a0)=true:=decide_eq_true c9
     clear c9
     obtain rfl:=Option.some.inj H
     go_enter Tryz.func69,Tryz.ntmps69
     go_wp2_with (first|((with_reducible refine gate_callee (f:=102) rfl ?_);refine Z.gl 8 Tryz.func102 #[.int .u64 a0] ?_;(with_reducible refine (cmp_isNaN_uint64.calls a0 false _ A3.out).mono ?_);rintro e w' ⟨rfl,⟨nd,rfl⟩⟩;refine⟨_,rfl,?_⟩)|((with_reducible refine gate_callee (f:=102) rfl ?_);refine Z.gl 10 Tryz.func102 #[.int .u64 a1] ?_;(with_reducible refine (cmp_isNaN_uint64.calls a1 false _ A4.out).mono ?_);rintro e w' ⟨rfl,⟨nd,rfl⟩⟩;refine⟨_,rfl,?_⟩))
     go_ret
     exact⟨Z.r_,Z.dr⟩
    ·rw[if_neg c9] at H
     have c9b0:decide (a1 < a0)=false:=decide_eq_false c9
     clear c9
     obtain rfl:=Option.some.inj H
     go_enter Tryz.func69,Tryz.ntmps69
     go_wp2_with (first|((with_reducible refine gate_callee (f:=102) rfl ?_);refine Z.gl 8 Tryz.func102 #[.int .u64 a0] ?_;(with_reducible refine (cmp_isNaN_uint64.calls a0 false _ A3.out).mono ?_);rintro e w' ⟨rfl,⟨nd,rfl⟩⟩;refine⟨_,rfl,?_⟩)|((with_reducible refine gate_callee (f:=102) rfl ?_);refine Z.gl 10 Tryz.func102 #[.int .u64 a1] ?_;(with_reducible refine (cmp_isNaN_uint64.calls a1 false _ A4.out).mono ?_);rintro e w' ⟨rfl,⟨nd,rfl⟩⟩;refine⟨_,rfl,?_⟩))
     go_ret
     exact⟨Z.r_,Z.dr⟩
def heap_store_find_1.f (a0_0:Int) (a0_1:Int) (a0_2:Int) (a0_3:Int) (a0_4:Int) (a0_5:Bool) (a1:Int):Option (Int):=(cmp_Compare_uint64.f a0_2 a1).bind fun t256=>(some t256)
set_option maxHeartbeats 8000000 in
set_option maxRecDepth 100000 in
theorem heap_store_find_1.calls (a0_0:Int) (a0_1:Int) (a0_2:Int) (a0_3:Int) (a0_4:Int) (a0_5:Bool) (a1:Int) (r:Int) (w:World) (h:heap_store_find_1.f a0_0 a0_1 a0_2 a0_3 a0_4 a0_5 a1=some r):
  Calls Tryz.prog 78 #[.agg #[.int .i64 a0_0,.int .i64 a0_1,.int .u64 a0_2,.int .i64 a0_3,.int .u64 a0_4,.bool a0_5],.int .u64 a1] w fun e w'=>e=.returned (.int .i64 r)∧Below w.heap.size w w':=by
 have hu92:=Tryz.underlying92
 have HB:=As (Below.refl w.heap.size w)
 have H:((cmp_Compare_uint64.f a0_2 a1).bind fun t256=>(some t256))=some r:=h
 clear h
 replace H:=Option.bind_eq_some_iff.mp H
 obtain⟨t256,A30,H⟩:=H
 replace H:(some t256)=some r:=H
 have A3:=As A30
 clear A30
 obtain rfl:=Option.some.inj H
 go_enter Tryz.func78,Tryz.ntmps78
 go_wp2_with (first|((with_reducible refine gate_dst (N:=2) rfl ?_);refine Z.bx 2 #[.int .i64 a0_0,.int .i64 a0_1,.int .u64 a0_2,.int .i64 a0_3,.int .u64 a0_4,.bool a0_5] 92 fun gb255 hg w4 hbox hb=>?_;have BK255:=As hbox;have GW255:=Z.ge hg;have GE255:=Z.ge hg;replace HB:=Z.sb hb;clear hb hbox hg;have hcz5_0:=Z.c0 BK255.out;have hcz5_1:=Z.c1 BK255.out;have hcz5_2:=Z.c2 BK255.out;have hcz5_3:=Z.c3 BK255.out;have hcz5_4:=Z.c4 BK255.out;have hcz5_5:=Z.c5 BK255.out;have hfz5_0:=blk_frozen BK255.out 0;have hfz5_1:=blk_frozen BK255.out 1;have hfz5_2:=blk_frozen BK255.out 2;have hfz5_3:=blk_frozen BK255.out 3;have hfz5_4:=blk_frozen BK255.out 4;have hfz5_5:=blk_frozen BK255.out 5)|((with_reducible refine gate_callee (f:=69) rfl ?_);refine Z.gl 8 Tryz.func69 #[.int .u64 a0_2,.int .u64 a1] ?_;(with_reducible refine (cmp_Compare_uint64.calls a0_2 a1 t256 _ A3.out).mono ?_);rintro e w' ⟨rfl,⟨nd,rfl⟩⟩;refine⟨_,rfl,?_⟩))
 go_ret
 exact⟨Z.e_,Z.bl⟩
end Go.Proofs.YtmmfchnbfnegnaaGreatDoor.GK
end
