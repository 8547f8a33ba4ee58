import Derived.Test.YtmmfchnbfnegnaaGreatDoorM04
import Derived.Test.YtmmfchnbfnegnaaGreatDoorM03
namespace Go.Proofs.YtmmfchnbfnegnaaGreatDoor.GK
open Go.RowKit Go.Proofs.YtmmfchnbfnegnaaGreatDoorW.PrintWords Go.Proofs.YtmmfchnbfnegnaaGreatDoorW.PrintLast Go.Proofs.YtmmfchnbfnegnaaGreatDoorW.PrintMore
attribute [local go_sem] max2_int min2_int max_two min_two max_three min_three max_four min_four
set_option linter.unusedVariables false
set_option linter.unusedSimpArgs false
def besomtop_same.l0:Nat→List Int→List Int→Int→Int→Option (Bool)
 |0,_,_,_,_=>none
 |k + 1,x0,x1,x12,x13=>if x13 < x12 then (if 0≤x13 then (if x13 < (x0.length:Int) then (if x13 < (x1.length:Int) then (if (rd x0 x13)=(rd x1 x13) then (besomtop_same.l0 k x0 x1 x12 (wrap64 (x13 + 1))) else (some false)) else (none)) else (none)) else (none)) else (some true)
def besomtop_same.f (k:Nat) (l0:List Int) (l1:List Int):Option (Bool):=if (l0.length:Int)=(l1.length:Int) then (besomtop_same.l0 k l0 l1 (l0.length:Int) 0) else (some false)
set_option maxHeartbeats 8000000 in
set_option maxRecDepth 100000 in
theorem besomtop_same.calls (k:Nat) (A0:Option Addr) (c0:Nat) (l0:List Int) (A1:Option Addr) (c1:Nat) (l1:List Int) (r:Bool) (w:World) (hr0:Kd.C (Kd.int .u64) w A0 l0.length l0) (hc0:l0.length≤c0) (hr1:Kd.C (Kd.int .u64) w A1 l1.length l1) (hc1:l1.length≤c1) (h:besomtop_same.f k l0 l1=some r):
  Calls Tryz.prog 15 #[.slice A0 l0.length c0,.slice A1 l1.length c1] w fun e w'=>e=.returned (.bool r)∧Drawn0 w w':=by
 have HR0:=As hr0
 have HC0:=As hc0
 clear hr0 hc0
 have HR1:=As hr1
 have HC1:=As hc1
 clear hr1 hc1
 have H:(if (l0.length:Int)=(l1.length:Int) then (besomtop_same.l0 k l0 l1 (l0.length:Int) 0) else (some false))=some r:=h
 clear h
 by_cases c3:(l0.length:Int)=(l1.length:Int)
 ·rw[if_pos c3] at H
  have c3b0:((l0.length:Int) == (l1.length:Int))=true:=beq_iff_eq.mpr c3
  have c3b1:((l0.length:Int) != (l1.length:Int))=false:=bne_eq_false_iff_eq.mpr c3
  have c3b2:(l0.length == l1.length)=true:=by first|simpa using c3|(simp at c3 ⊢;omega)
  clear c3
  have H':=As H
  clear H
  go_enter Tryz.func15,Tryz.ntmps15
  go_wp2
  repeat (go_quiet (fail);try go_wp2)
  go_loopg [13] k (fun kq v13 w'=>∃(x13_1:Int),v13=.int .i64 x13_1∧Aside0 (besomtop_same.l0 kq l0 l1 (l0.length:Int) x13_1=some r)∧Aside0 (kq≤k)∧Drawn0 w w')
  case atStart=>exact⟨(0),Z.r_,H',⟨Nat.le_refl _⟩,Z.dr⟩
  case round=>
   clear H'
   try clear c1
   try clear p2
   try clear c3
   try clear c3b0
   try clear c3b1
   try clear c3b2
   obtain⟨x13_1,rfl,HA,HK1,⟨m1,rfl⟩⟩:=hrel
   cases gk with
   |zero=>exact absurd HA.out (by simp[besomtop_same.l0])
   |succ k1=>
    have H:=HA.out
    clear HA
    simp only[besomtop_same.l0] at H
    by_cases c4:x13_1 < (l0.length:Int)
    ·rw[if_pos c4] at H
     have c4b0:decide (x13_1 < (l0.length:Int))=true:=decide_eq_true c4
     clear c4
     by_cases c5:0≤x13_1
     ·rw[if_pos c5] at H
      replace c5:=decide_eq_true c5
      by_cases c6:x13_1 < (l0.length:Int)
      ·rw[if_pos c6] at H
       replace c6:=decide_eq_true c6
       by_cases c7:x13_1 < (l1.length:Int)
       ·rw[if_pos c7] at H
        replace c7:=decide_eq_true c7
        by_cases c8:(rd l0 x13_1)=(rd l1 x13_1)
        ·rw[if_pos c8] at H
         have c8b0:((rd l0 x13_1) == (rd l1 x13_1))=true:=beq_iff_eq.mpr c8
         have c8b1:((rd l0 x13_1) != (rd l1 x13_1))=false:=bne_eq_false_iff_eq.mpr c8
         clear c8
         have H':=As H
         clear H
         have p397:0≤(x13_1:Int):=Z.od
         have q397:x13_1 < (l0.length:Int):=Z.od
         obtain⟨ad397,e397,hx397_0⟩:=Kd.at_int HR0.out x13_1 p397 q397
         cases e397
         replace p397:=eq_true p397
         replace q397:=eq_true q397
         have p398:0≤(x13_1:Int):=Z.od
         have q398:x13_1 < (l1.length:Int):=Z.od
         obtain⟨ad398,e398,hx398_0⟩:=Kd.at_int HR1.out x13_1 p398 q398
         cases e398
         replace p398:=eq_true p398
         replace q398:=eq_true q398
         go_wp2
         repeat (go_quiet (fail);try go_wp2)
         go_roundg k1
         case measure=>have:=HK1.out;omega
         case rel=>exact⟨(wrap64 (x13_1 + 1)),Z.r_,H',⟨by have:=HK1.out;omega⟩,Z.dr⟩
        ·rw[if_neg c8] at H
         have c8b0:((rd l0 x13_1) == (rd l1 x13_1))=false:=beq_eq_false_iff_ne.mpr c8
         have c8b1:((rd l0 x13_1) != (rd l1 x13_1))=true:=bne_iff_ne.mpr c8
         obtain rfl:=Option.some.inj H
         have p397:0≤(x13_1:Int):=Z.od
         have q397:x13_1 < (l0.length:Int):=Z.od
         obtain⟨ad397,e397,hx397_0⟩:=Kd.at_int HR0.out x13_1 p397 q397
         cases e397
         replace p397:=eq_true p397
         replace q397:=eq_true q397
         have p398:0≤(x13_1:Int):=Z.od
         have q398:x13_1 < (l1.length:Int):=Z.od
         obtain⟨ad398,e398,hx398_0⟩:=Kd.at_int HR1.out x13_1 p398 q398
         cases e398
         replace p398:=eq_true p398
         replace q398:=eq_true q398
         go_wp2
         repeat (go_quiet (fail);try go_wp2)
         go_ret
         exact⟨Z.r_,Z.dr⟩
       ·rw[if_neg c7] at H
        exact absurd H (by simp)
      ·rw[if_neg c6] at H
       exact absurd H (by simp)
     ·rw[if_neg c5] at H
      exact absurd H (by simp)
    ·rw[if_neg c4] at H
     have c4b0:decide (x13_1 < (l0.length:Int))=false:=decide_eq_false c4
     clear c4
     obtain rfl:=Option.some.inj H
     go_wp2
     repeat (go_quiet (fail);try go_wp2)
     go_ret
     exact⟨Z.r_,Z.dr⟩
 ·rw[if_neg c3] at H
  have c3b0:((l0.length:Int) == (l1.length:Int))=false:=beq_eq_false_iff_ne.mpr c3
  have c3b1:((l0.length:Int) != (l1.length:Int))=true:=bne_iff_ne.mpr c3
  have c3b2:(l0.length == l1.length)=false:=by first|simpa using c3|(simp at c3 ⊢;omega)
  obtain rfl:=Option.some.inj H
  go_enter Tryz.func15,Tryz.ntmps15
  go_wp2
  repeat (go_quiet (fail);try go_wp2)
  go_ret
  exact⟨Z.r_,Z.dr⟩
end Go.Proofs.YtmmfchnbfnegnaaGreatDoor.GK
