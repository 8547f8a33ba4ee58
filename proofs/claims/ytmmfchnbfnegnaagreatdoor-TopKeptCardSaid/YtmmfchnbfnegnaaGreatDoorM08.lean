import Derived.Test.YtmmfchnbfnegnaaGreatDoorM04
import Derived.Test.YtmmfchnbfnegnaaGreatDoorM07
import Derived.Test.YtmmfchnbfnegnaaGreatDoorM03
import Derived.Laws.CopyRow
section
namespace Go.Proofs.YtmmfchnbfnegnaaGreatDoor.GK
open Go.RowKit Go.Proofs.YtmmfchnbfnegnaaGreatDoorW.PrintWords Go.Proofs.YtmmfchnbfnegnaaGreatDoorW.PrintLast Go.Proofs.YtmmfchnbfnegnaaGreatDoorW.PrintMore
attribute [local go_sem] max2_int min2_int max_two min_two max_three min_three max_four min_four
set_option linter.unusedVariables false
set_option linter.unusedSimpArgs false
def cmp_isNaN_int.f (a0:Int):Option (Bool):=some (a0 != a0)
set_option maxHeartbeats 8000000 in
set_option maxRecDepth 100000 in
theorem cmp_isNaN_int.calls (a0:Int) (r:Bool) (w:World) (h:cmp_isNaN_int.f a0=some r):
  Calls Tryz.prog 118 #[.int .i64 a0] w fun e w'=>e=.returned (.bool r)∧Drawn0 w w':=by
 have H:(some (a0 != a0))=some r:=h
 clear h
 obtain rfl:=Option.some.inj H
 go_enter Tryz.func118,Tryz.ntmps118
 go_wp2
 go_ret
 exact⟨Z.r_,Z.dr⟩
def cmp_Compare_int.f (a0:Int) (a1:Int):Option (Int):=(cmp_isNaN_int.f a0).bind fun t310=>((cmp_isNaN_int.f a1).bind fun t311=>(if t310=true then (if t311=true then (some 0) else (some (-1))) else (if t311=true then (some 1) else (if a0 < a1 then (some (-1)) else (if a0 > a1 then (some 1) else (some 0))))))
set_option maxHeartbeats 8000000 in
set_option maxRecDepth 100000 in
theorem cmp_Compare_int.calls (a0:Int) (a1:Int) (r:Int) (w:World) (h:cmp_Compare_int.f a0 a1=some r):
  Calls Tryz.prog 99 #[.int .i64 a0,.int .i64 a1] w fun e w'=>e=.returned (.int .i64 r)∧Drawn0 w w':=by
 have H:((cmp_isNaN_int.f a0).bind fun t310=>((cmp_isNaN_int.f a1).bind fun t311=>(if t310=true then (if t311=true then (some 0) else (some (-1))) else (if t311=true then (some 1) else (if a0 < a1 then (some (-1)) else (if a0 > a1 then (some 1) else (some 0)))))))=some r:=h
 clear h
 replace H:=Option.bind_eq_some_iff.mp H
 obtain⟨t310,A30,H⟩:=H
 replace H:((cmp_isNaN_int.f a1).bind fun t311=>(if t310=true then (if t311=true then (some 0) else (some (-1))) else (if t311=true then (some 1) else (if a0 < a1 then (some (-1)) else (if a0 > a1 then (some 1) else (some 0))))))=some r:=H
 have A3:=As A30
 clear A30
 replace H:=Option.bind_eq_some_iff.mp H
 obtain⟨t311,A40,H⟩:=H
 replace H:(if t310=true then (if t311=true then (some 0) else (some (-1))) else (if t311=true then (some 1) else (if a0 < a1 then (some (-1)) else (if a0 > a1 then (some 1) else (some 0)))))=some r:=H
 have A4:=As A40
 clear A40
 by_cases c5:t310=true
 ·subst c5
  have H1:(if t311=true then (some 0) else (some (-1)))=some r:=by rw[if_pos rfl] at H;exact H
  clear H
  have H:=H1
  clear H1
  by_cases c6:t311=true
  ·subst c6
   have H1:(some 0)=some r:=by rw[if_pos rfl] at H;exact H
   clear H
   have H:=H1
   clear H1
   obtain rfl:=Option.some.inj H
   go_enter Tryz.func99,Tryz.ntmps99
   go_wp2_with (first|((with_reducible refine gate_callee (f:=118) rfl ?_);refine Z.gl 8 Tryz.func118 #[.int .i64 a0] ?_;(with_reducible refine (cmp_isNaN_int.calls a0 true _ A3.out).mono ?_);rintro e w' ⟨rfl,⟨nd,rfl⟩⟩;refine⟨_,rfl,?_⟩)|((with_reducible refine gate_callee (f:=118) rfl ?_);refine Z.gl 10 Tryz.func118 #[.int .i64 a1] ?_;(with_reducible refine (cmp_isNaN_int.calls a1 true _ A4.out).mono ?_);rintro e w' ⟨rfl,⟨nd,rfl⟩⟩;refine⟨_,rfl,?_⟩))
   go_ret
   exact⟨Z.r_,Z.dr⟩
  ·replace c6:=Bool.eq_false_iff.mpr c6
   subst c6
   have H1:(some (-1))=some r:=by rw[if_neg (show ¬(false=true) by decide)] at H;exact H
   clear H
   have H:=H1
   clear H1
   obtain rfl:=Option.some.inj H
   go_enter Tryz.func99,Tryz.ntmps99
   go_wp2_with (first|((with_reducible refine gate_callee (f:=118) rfl ?_);refine Z.gl 8 Tryz.func118 #[.int .i64 a0] ?_;(with_reducible refine (cmp_isNaN_int.calls a0 true _ A3.out).mono ?_);rintro e w' ⟨rfl,⟨nd,rfl⟩⟩;refine⟨_,rfl,?_⟩)|((with_reducible refine gate_callee (f:=118) rfl ?_);refine Z.gl 10 Tryz.func118 #[.int .i64 a1] ?_;(with_reducible refine (cmp_isNaN_int.calls a1 false _ A4.out).mono ?_);rintro e w' ⟨rfl,⟨nd,rfl⟩⟩;refine⟨_,rfl,?_⟩))
   go_ret
   exact⟨Z.r_,Z.dr⟩
 ·replace c5:=Bool.eq_false_iff.mpr c5
  subst c5
  have H1:(if t311=true then (some 1) else (if a0 < a1 then (some (-1)) else (if a0 > a1 then (some 1) else (some 0))))=some r:=by rw[if_neg (show ¬(false=true) by decide)] at H;exact H
  clear H
  have H:=H1
  clear H1
  by_cases c7:t311=true
  ·subst c7
   have H1:(some 1)=some r:=by rw[if_pos rfl] at H;exact H
   clear H
   have H:=H1
   clear H1
   obtain rfl:=Option.some.inj H
   go_enter Tryz.func99,Tryz.ntmps99
   go_wp2_with (first|((with_reducible refine gate_callee (f:=118) rfl ?_);refine Z.gl 8 Tryz.func118 #[.int .i64 a0] ?_;(with_reducible refine (cmp_isNaN_int.calls a0 false _ A3.out).mono ?_);rintro e w' ⟨rfl,⟨nd,rfl⟩⟩;refine⟨_,rfl,?_⟩)|((with_reducible refine gate_callee (f:=118) rfl ?_);refine Z.gl 10 Tryz.func118 #[.int .i64 a1] ?_;(with_reducible refine (cmp_isNaN_int.calls a1 true _ A4.out).mono ?_);rintro e w' ⟨rfl,⟨nd,rfl⟩⟩;refine⟨_,rfl,?_⟩))
   go_ret
   exact⟨Z.r_,Z.dr⟩
  ·replace c7:=Bool.eq_false_iff.mpr c7
   subst c7
   have H1:(if a0 < a1 then (some (-1)) else (if a0 > a1 then (some 1) else (some 0)))=some r:=by rw[if_neg (show ¬(false=true) by decide)] at H;exact H
   clear H
   have H:=H1
   clear H1
   by_cases c8:a0 < a1
   ·rw[if_pos c8] at H
    have c8b0:decide (a0 < a1)=true:=decide_eq_true c8
    clear c8
    obtain rfl:=Option.some.inj H
    go_enter Tryz.func99,Tryz.ntmps99
    go_wp2_with (first|((with_reducible refine gate_callee (f:=118) rfl ?_);refine Z.gl 8 Tryz.func118 #[.int .i64 a0] ?_;(with_reducible refine (cmp_isNaN_int.calls a0 false _ A3.out).mono ?_);rintro e w' ⟨rfl,⟨nd,rfl⟩⟩;refine⟨_,rfl,?_⟩)|((with_reducible refine gate_callee (f:=118) rfl ?_);refine Z.gl 10 Tryz.func118 #[.int .i64 a1] ?_;(with_reducible refine (cmp_isNaN_int.calls a1 false _ A4.out).mono ?_);rintro e w' ⟨rfl,⟨nd,rfl⟩⟩;refine⟨_,rfl,?_⟩))
    go_ret
    exact⟨Z.r_,Z.dr⟩
   ·rw[if_neg c8] at H
    have c8b0:decide (a0 < a1)=false:=decide_eq_false c8
    clear c8
    by_cases c9:a0 > a1
    ·rw[if_pos c9] at H
     have c9b0:decide (a1 < a0)=true:=decide_eq_true c9
     clear c9
     obtain rfl:=Option.some.inj H
     go_enter Tryz.func99,Tryz.ntmps99
     go_wp2_with (first|((with_reducible refine gate_callee (f:=118) rfl ?_);refine Z.gl 8 Tryz.func118 #[.int .i64 a0] ?_;(with_reducible refine (cmp_isNaN_int.calls a0 false _ A3.out).mono ?_);rintro e w' ⟨rfl,⟨nd,rfl⟩⟩;refine⟨_,rfl,?_⟩)|((with_reducible refine gate_callee (f:=118) rfl ?_);refine Z.gl 10 Tryz.func118 #[.int .i64 a1] ?_;(with_reducible refine (cmp_isNaN_int.calls a1 false _ A4.out).mono ?_);rintro e w' ⟨rfl,⟨nd,rfl⟩⟩;refine⟨_,rfl,?_⟩))
     go_ret
     exact⟨Z.r_,Z.dr⟩
    ·rw[if_neg c9] at H
     have c9b0:decide (a1 < a0)=false:=decide_eq_false c9
     clear c9
     obtain rfl:=Option.some.inj H
     go_enter Tryz.func99,Tryz.ntmps99
     go_wp2_with (first|((with_reducible refine gate_callee (f:=118) rfl ?_);refine Z.gl 8 Tryz.func118 #[.int .i64 a0] ?_;(with_reducible refine (cmp_isNaN_int.calls a0 false _ A3.out).mono ?_);rintro e w' ⟨rfl,⟨nd,rfl⟩⟩;refine⟨_,rfl,?_⟩)|((with_reducible refine gate_callee (f:=118) rfl ?_);refine Z.gl 10 Tryz.func118 #[.int .i64 a1] ?_;(with_reducible refine (cmp_isNaN_int.calls a1 false _ A4.out).mono ?_);rintro e w' ⟨rfl,⟨nd,rfl⟩⟩;refine⟨_,rfl,?_⟩))
     go_ret
     exact⟨Z.r_,Z.dr⟩
def span_Add_1.f (a0_0:Int) (a0_1:Int) (a0_2:Int) (a0_3:Int) (l0_4:List Int) (a0_5:Int) (l0_6:List Int) (a0_7:Bool) (a1:Int):Option (Int):=(cmp_Compare_int.f a0_0 a1).bind fun t313=>(some t313)
set_option maxHeartbeats 8000000 in
set_option maxRecDepth 100000 in
theorem span_Add_1.calls (a0_0:Int) (a0_1:Int) (a0_2:Int) (a0_3:Int) (A0_4:Option Addr) (c0_4:Nat) (l0_4:List Int) (a0_5:Int) (A0_6:Option Addr) (c0_6:Nat) (l0_6:List Int) (a0_7:Bool) (a1:Int) (r:Int) (w:World) (hr0_4:Kd.C (Kd.int .u64) w A0_4 l0_4.length l0_4) (hc0_4:l0_4.length≤c0_4) (hr0_6:Kd.C (Kd.int .u64) w A0_6 l0_6.length l0_6) (hc0_6:l0_6.length≤c0_6) (h:span_Add_1.f a0_0 a0_1 a0_2 a0_3 l0_4 a0_5 l0_6 a0_7 a1=some r):
  Calls Tryz.prog 98 #[.agg #[.int .i64 a0_0,.int .i64 a0_1,.int .i64 a0_2,.int .i64 a0_3,.slice A0_4 l0_4.length c0_4,.int .i64 a0_5,.slice A0_6 l0_6.length c0_6,.bool a0_7],.int .i64 a1] w fun e w'=>e=.returned (.int .i64 r)∧Below w.heap.size w w':=by
 have hu51:=Tryz.underlying51
 have HR0_4:=As hr0_4
 have HC0_4:=As hc0_4
 clear hr0_4 hc0_4
 have HR0_6:=As hr0_6
 have HC0_6:=As hc0_6
 clear hr0_6 hc0_6
 have HB:=As (Below.refl w.heap.size w)
 have H:((cmp_Compare_int.f a0_0 a1).bind fun t313=>(some t313))=some r:=h
 clear h
 replace H:=Option.bind_eq_some_iff.mp H
 obtain⟨t313,A30,H⟩:=H
 replace H:(some t313)=some r:=H
 have A3:=As A30
 clear A30
 obtain rfl:=Option.some.inj H
 go_enter Tryz.func98,Tryz.ntmps98
 go_wp2_with (first|((with_reducible refine gate_dst (N:=2) rfl ?_);refine Z.bx 2 #[.int .i64 a0_0,.int .i64 a0_1,.int .i64 a0_2,.int .i64 a0_3,.slice A0_4 l0_4.length c0_4,.int .i64 a0_5,.slice A0_6 l0_6.length c0_6,.bool a0_7] 51 fun gb312 hg w4 hbox hb=>?_;have BK312:=As hbox;have GW312:=Z.ge hg;have GE312:=Z.ge hg;replace HB:=Z.sb hb;clear hb hbox hg;have hcz5_0:=Z.c0 BK312.out;have hcz5_1:=Z.c1 BK312.out;have hcz5_2:=Z.c2 BK312.out;have hcz5_3:=Z.c3 BK312.out;have hcz5_4:=Z.c4 BK312.out;have hcz5_5:=Z.c5 BK312.out;have hcz5_6:=Z.c6 BK312.out;have hcz5_7:=Z.c7 BK312.out;have hfz5_0:=blk_frozen BK312.out 0;have hfz5_1:=blk_frozen BK312.out 1;have hfz5_2:=blk_frozen BK312.out 2;have hfz5_3:=blk_frozen BK312.out 3;have hfz5_4:=blk_frozen BK312.out 4;have hfz5_5:=blk_frozen BK312.out 5;have hfz5_6:=blk_frozen BK312.out 6;have hfz5_7:=blk_frozen BK312.out 7)|((with_reducible refine gate_callee (f:=99) rfl ?_);refine Z.gl 8 Tryz.func99 #[.int .i64 a0_0,.int .i64 a1] ?_;(with_reducible refine (cmp_Compare_int.calls a0_0 a1 t313 _ A3.out).mono ?_);rintro e w' ⟨rfl,⟨nd,rfl⟩⟩;refine⟨_,rfl,?_⟩))
 go_ret
 exact⟨Z.e_,Z.bl⟩
theorem gate_calleeV97 {P:Program} {ops:Array Oper} {rest:List Oper} {o:Oper} {a:Act} {Q:Exit→Act→World→Prop} {W:World} {t:Tmp} {os_:Array Operand} {ts:Array TypeId} (_ho:o.op=.call {callee:=.value (.tmp t),args:=os_,argTypes:=ts}) (h:wpList P ops Q (o::rest) a W):wpList P ops Q (o::rest) a W:=h
theorem goesV97_ {P:Program} {ops:Array Oper} {Q:Exit→Act→World→Prop} {rest:List Oper} {oi:Oper} {a:Act} {w:World} (N:Option Tmp) (hd:oi.dst=N) (hg:oi.guard=none) {f:FuncId} {fn:Func} {t:Tmp} {os_:Array Operand} {ts:Array TypeId} (hf:P.funcs[f]? =some fn) (hname:(fn.name == "runtime.NumGoroutine")=false) (hb:fn.body.isSome=true) (args:Array Value)
  (hop:oi.op=.call {callee:=.value (.tmp t),args:=os_,argTypes:=ts}) (hv:a.eval (.tmp t)=.func (.func f) #[] #[]) (hargs:os_.map a.eval=args)
  (h:Calls P f args w fun e w'=>∃v,e=.returned v∧wpList P ops Q rest (a.put N v) w'):wpList P ops Q (oi::rest) a w:=by
 refine wpList_plain hg fun K hK=>?_
 have he:=enters_ hf hname hb args w
 have hrun:(execOp a.eval oi).run P w=.ok (.enter f args) w:=by
  unfold execOp
  simp[hop,resolve,Deferred.ofValue,invoke,hv,hargs,he]
 unfold Oper.wp
 rw[hrun,Oper.upon_enter]
 refine h.mono fun e w'' hh=>?_
 obtain⟨v,rfl,hk⟩:=hh
 subst hd
 exact hK _ _ hk
def api_Span_int.l0:Nat→List (S51)→Int→Int→Int→Int→Option (Int×Bool)
 |0,_,_,_,_,_=>none
 |k + 1,x0,x1,x8,x9,x10=>if x9 < x10 then (if 0≤(wrap64 ((IntKind.u64.wrap (wrap64 (x9 + x10))) / 2)) then (if (wrap64 ((IntKind.u64.wrap (wrap64 (x9 + x10))) / 2)) < (x0.length:Int) then ((span_Add_1.f ((rd_T51 x0 (wrap64 ((IntKind.u64.wrap (wrap64 (x9 + x10))) / 2))).f0) ((rd_T51 x0 (wrap64 ((IntKind.u64.wrap (wrap64 (x9 + x10))) / 2))).f1) ((rd_T51 x0 (wrap64 ((IntKind.u64.wrap (wrap64 (x9 + x10))) / 2))).f2) ((rd_T51 x0 (wrap64 ((IntKind.u64.wrap (wrap64 (x9 + x10))) / 2))).f3.f0) ((rd_T51 x0 (wrap64 ((IntKind.u64.wrap (wrap64 (x9 + x10))) / 2))).f3.f1) ((rd_T51 x0 (wrap64 ((IntKind.u64.wrap (wrap64 (x9 + x10))) / 2))).f4.f0) ((rd_T51 x0 (wrap64 ((IntKind.u64.wrap (wrap64 (x9 + x10))) / 2))).f4.f1) ((rd_T51 x0 (wrap64 ((IntKind.u64.wrap (wrap64 (x9 + x10))) / 2))).f5) x1).bind fun t315=>(if t315 < 0 then (api_Span_int.l0 k x0 x1 x8 (wrap64 ((wrap64 ((IntKind.u64.wrap (wrap64 (x9 + x10))) / 2)) + 1)) x10) else (api_Span_int.l0 k x0 x1 x8 x9 (wrap64 ((IntKind.u64.wrap (wrap64 (x9 + x10))) / 2))))) else (none)) else (none)) else (if x9 < x8 then (if 0≤x9 then (if x9 < (x0.length:Int) then ((span_Add_1.f ((rd_T51 x0 x9).f0) ((rd_T51 x0 x9).f1) ((rd_T51 x0 x9).f2) ((rd_T51 x0 x9).f3.f0) ((rd_T51 x0 x9).f3.f1) ((rd_T51 x0 x9).f4.f0) ((rd_T51 x0 x9).f4.f1) ((rd_T51 x0 x9).f5) x1).bind fun t317=>(some (x9,(t317 == 0)))) else (none)) else (none)) else (some (x9,false)))
def api_Span_int.f (k:Nat) (l0:List (S51)) (a1:Int):Option (Int×Bool):=api_Span_int.l0 k l0 a1 (l0.length:Int) 0 (l0.length:Int)
set_option maxHeartbeats 8000000 in
set_option maxRecDepth 100000 in
theorem api_Span_int.calls (k:Nat) (A0:Option Addr) (c0:Nat) (l0:List (S51)) (a1:Int) (r1:Int) (r2:Bool) (w:World) (hr0:Kd.C k51 w A0 l0.length l0) (hc0:l0.length≤c0) (h:api_Span_int.f k l0 a1=some (r1,r2)):
  Calls Tryz.prog 97 #[.slice A0 l0.length c0,.int .i64 a1,.func (.func 98) #[] #[]] w fun e w'=>e=.returned (.tuple #[.int .i64 r1,.bool r2])∧Below w.heap.size w w':=by
 have hu51:=Tryz.underlying51
 have HR0:=As hr0
 have HC0:=As hc0
 clear hr0 hc0
 have HB:=As (Below.refl w.heap.size w)
 have H:(api_Span_int.l0 k l0 a1 (l0.length:Int) 0 (l0.length:Int))=some (r1,r2):=h
 clear h
 have H':=As H
 clear H
 go_enter Tryz.func97,Tryz.ntmps97
 go_wp2
 go_loopg [9,10] k (fun kq v9 v10 w'=>∃(x9_1:Int) (x10_1:Int),v9=.int .i64 x9_1∧v10=.int .i64 x10_1∧Aside0 (api_Span_int.l0 kq l0 a1 (l0.length:Int) x9_1 x10_1=some (r1,r2))∧Aside0 (kq≤k)∧Aside0 (Below w.heap.size w w'))
 case atStart=>exact⟨(0),((l0.length:Int)),Z.r_,Z.r_,H',⟨Nat.le_refl _⟩,⟨Z.bl⟩⟩
 case round=>
  clear H'
  try clear p2
  obtain⟨x9_1,x10_1,rfl,rfl,HA,HK1,HB⟩:=hrel
  cases gk with
  |zero=>exact absurd HA.out (by simp[api_Span_int.l0])
  |succ k1=>
   have H:=HA.out
   clear HA
   simp only[api_Span_int.l0] at H
   by_cases c3:x9_1 < x10_1
   ·rw[if_pos c3] at H
    have c3b0:decide (x9_1 < x10_1)=true:=decide_eq_true c3
    clear c3
    obtain⟨ji4,hji4⟩:∃j_:Int,(wrap64 ((IntKind.u64.wrap (wrap64 (x9_1 + x10_1))) / 2))=j_:=⟨_,rfl⟩
    replace H:(if 0≤(ji4) then (if (ji4) < (l0.length:Int) then ((span_Add_1.f ((rd_T51 l0 (ji4)).f0) ((rd_T51 l0 (ji4)).f1) ((rd_T51 l0 (ji4)).f2) ((rd_T51 l0 (ji4)).f3.f0) ((rd_T51 l0 (ji4)).f3.f1) ((rd_T51 l0 (ji4)).f4.f0) ((rd_T51 l0 (ji4)).f4.f1) ((rd_T51 l0 (ji4)).f5) a1).bind fun t315=>(if t315 < 0 then (api_Span_int.l0 k1 l0 a1 (l0.length:Int) (wrap64 ((ji4) + 1)) x10_1) else (api_Span_int.l0 k1 l0 a1 (l0.length:Int) x9_1 ji4))) else (none)) else (none))=some (r1,r2):=by first|(rw[hji4] at H;exact H)|(simp only[hji4] at H ⊢;exact H)
    have hji4w:(IntKind.i64.wrap ((IntKind.u64.wrap (wrap64 (x9_1 + x10_1))) / 2))=ji4:=(i64_w _).trans hji4
    by_cases c5:0≤(ji4)
    ·rw[if_pos c5] at H
     replace c5:=decide_eq_true c5
     by_cases c6:(ji4) < (l0.length:Int)
     ·rw[if_pos c6] at H
      replace c6:=decide_eq_true c6
      replace H:=Option.bind_eq_some_iff.mp H
      obtain⟨t315,A70,H⟩:=H
      replace H:(if t315 < 0 then (api_Span_int.l0 k1 l0 a1 (l0.length:Int) (wrap64 ((ji4) + 1)) x10_1) else (api_Span_int.l0 k1 l0 a1 (l0.length:Int) x9_1 ji4))=some (r1,r2):=H
      have A7:=As A70
      clear A70
      by_cases c8:t315 < 0
      ·rw[if_pos c8] at H
       have c8b0:decide (t315 < 0)=true:=decide_eq_true c8
       clear c8
       have H':=As H
       clear H
       have p314:0≤((ji4):Int):=Z.od
       have q314:(ji4) < (l0.length:Int):=Z.od
       obtain⟨ad314,A314_4,c314_4,A314_6,c314_6,e314,hx314_0,hx314_1,hx314_2,hx314_3,hx314_4,hx314_5,hx314_6,hx314_7,hl314_4,hi314_4,hl314_6,hi314_6⟩:=at_T51 HR0.out (ji4) p314 q314
       cases e314
       replace hx314_0:=Z.kc HB hx314_0
       replace hx314_1:=Z.kc HB hx314_1
       replace hx314_2:=Z.kc HB hx314_2
       replace hx314_3:=Z.kc HB hx314_3
       replace hx314_4:=Z.kc HB hx314_4
       replace hx314_5:=Z.kc HB hx314_5
       replace hx314_6:=Z.kc HB hx314_6
       replace hx314_7:=Z.kc HB hx314_7
       have HR314_4:=As hi314_4
       have HC314_4:=As hl314_4
       clear hi314_4 hl314_4
       have HR314_6:=As hi314_6
       have HC314_6:=As hl314_6
       clear hi314_6 hl314_6
       replace p314:=eq_true p314
       replace q314:=eq_true q314
       go_wp2_with (first|((with_reducible refine gate_calleeV97 rfl ?_);refine goesV97_ (some 30) rfl rfl Tryz.func98 (by kernel_rfl) rfl #[.agg #[.int .i64 ((rd_T51 l0 (ji4)).f0),.int .i64 ((rd_T51 l0 (ji4)).f1),.int .i64 ((rd_T51 l0 (ji4)).f2),.int .i64 ((rd_T51 l0 (ji4)).f3.f0),.slice A314_4 ((rd_T51 l0 (ji4)).f3.f1).length c314_4,.int .i64 ((rd_T51 l0 (ji4)).f4.f0),.slice A314_6 ((rd_T51 l0 (ji4)).f4.f1).length c314_6,.bool ((rd_T51 l0 (ji4)).f5)],.int .i64 a1] rfl (by rfl) (by (try simp only[List.map_toArray,List.map_cons,List.map_nil]);first|done|(simp only[hji4];rfl)|rfl|(simp only[List.length_drop,List.length_take];rfl)) ?_;(with_reducible refine (span_Add_1.calls ((rd_T51 l0 (ji4)).f0) ((rd_T51 l0 (ji4)).f1) ((rd_T51 l0 (ji4)).f2) ((rd_T51 l0 (ji4)).f3.f0) _ _ ((rd_T51 l0 (ji4)).f3.f1) ((rd_T51 l0 (ji4)).f4.f0) _ _ ((rd_T51 l0 (ji4)).f4.f1) ((rd_T51 l0 (ji4)).f5) a1 t315 _ ?side1 ?side2 ?side3 ?side4 A7.out).mono ?_);(case side1=>repeat (first|exact (Kd.C_below HR314_4.out HB.out)|(with_reducible refine Kd.C_alloc ?_ _)|(with_reducible refine Kd.C_drewN ?_ _)|(with_reducible refine Kd.C_drew ?_)));(case side2=>exact HC314_4.out);(case side3=>repeat (first|exact (Kd.C_below HR314_6.out HB.out)|(with_reducible refine Kd.C_alloc ?_ _)|(with_reducible refine Kd.C_drewN ?_ _)|(with_reducible refine Kd.C_drew ?_)));(case side4=>exact HC314_6.out);rintro e w9 ⟨rfl,hb⟩;refine⟨_,rfl,?_⟩;replace HB:=Z.sb hb;(try clear hb);(try clear hb2);(try clear hk);(try clear hi)))
       go_roundg k1
       case measure=>have:=HK1.out;omega
       case rel=>exact⟨(wrap64 ((ji4) + 1)),(x10_1),(by first|rfl|(simp;done)|(simp only[←hji4] <;> (first|rfl|simp))|(simp[*];done)),Z.r_,H',⟨by have:=HK1.out;omega⟩,⟨Z.bl⟩⟩
      ·rw[if_neg c8] at H
       have c8b0:decide (t315 < 0)=false:=decide_eq_false c8
       clear c8
       have H':=As H
       clear H
       have p314:0≤((ji4):Int):=Z.od
       have q314:(ji4) < (l0.length:Int):=Z.od
       obtain⟨ad314,A314_4,c314_4,A314_6,c314_6,e314,hx314_0,hx314_1,hx314_2,hx314_3,hx314_4,hx314_5,hx314_6,hx314_7,hl314_4,hi314_4,hl314_6,hi314_6⟩:=at_T51 HR0.out (ji4) p314 q314
       cases e314
       replace hx314_0:=Z.kc HB hx314_0
       replace hx314_1:=Z.kc HB hx314_1
       replace hx314_2:=Z.kc HB hx314_2
       replace hx314_3:=Z.kc HB hx314_3
       replace hx314_4:=Z.kc HB hx314_4
       replace hx314_5:=Z.kc HB hx314_5
       replace hx314_6:=Z.kc HB hx314_6
       replace hx314_7:=Z.kc HB hx314_7
       have HR314_4:=As hi314_4
       have HC314_4:=As hl314_4
       clear hi314_4 hl314_4
       have HR314_6:=As hi314_6
       have HC314_6:=As hl314_6
       clear hi314_6 hl314_6
       replace p314:=eq_true p314
       replace q314:=eq_true q314
       go_wp2_with (first|((with_reducible refine gate_calleeV97 rfl ?_);refine goesV97_ (some 30) rfl rfl Tryz.func98 (by kernel_rfl) rfl #[.agg #[.int .i64 ((rd_T51 l0 (ji4)).f0),.int .i64 ((rd_T51 l0 (ji4)).f1),.int .i64 ((rd_T51 l0 (ji4)).f2),.int .i64 ((rd_T51 l0 (ji4)).f3.f0),.slice A314_4 ((rd_T51 l0 (ji4)).f3.f1).length c314_4,.int .i64 ((rd_T51 l0 (ji4)).f4.f0),.slice A314_6 ((rd_T51 l0 (ji4)).f4.f1).length c314_6,.bool ((rd_T51 l0 (ji4)).f5)],.int .i64 a1] rfl (by rfl) (by (try simp only[List.map_toArray,List.map_cons,List.map_nil]);first|done|(simp only[hji4];rfl)|rfl|(simp only[List.length_drop,List.length_take];rfl)) ?_;(with_reducible refine (span_Add_1.calls ((rd_T51 l0 (ji4)).f0) ((rd_T51 l0 (ji4)).f1) ((rd_T51 l0 (ji4)).f2) ((rd_T51 l0 (ji4)).f3.f0) _ _ ((rd_T51 l0 (ji4)).f3.f1) ((rd_T51 l0 (ji4)).f4.f0) _ _ ((rd_T51 l0 (ji4)).f4.f1) ((rd_T51 l0 (ji4)).f5) a1 t315 _ ?side1 ?side2 ?side3 ?side4 A7.out).mono ?_);(case side1=>repeat (first|exact (Kd.C_below HR314_4.out HB.out)|(with_reducible refine Kd.C_alloc ?_ _)|(with_reducible refine Kd.C_drewN ?_ _)|(with_reducible refine Kd.C_drew ?_)));(case side2=>exact HC314_4.out);(case side3=>repeat (first|exact (Kd.C_below HR314_6.out HB.out)|(with_reducible refine Kd.C_alloc ?_ _)|(with_reducible refine Kd.C_drewN ?_ _)|(with_reducible refine Kd.C_drew ?_)));(case side4=>exact HC314_6.out);rintro e w10 ⟨rfl,hb⟩;refine⟨_,rfl,?_⟩;replace HB:=Z.sb hb;(try clear hb);(try clear hb2);(try clear hk);(try clear hi)))
       go_roundg k1
       case measure=>have:=HK1.out;omega
       case rel=>exact⟨(x9_1),(ji4),Z.r_,(by first|rfl|(simp;done)|(simp only[←hji4] <;> (first|rfl|simp))|(simp[*];done)),H',⟨by have:=HK1.out;omega⟩,⟨Z.bl⟩⟩
     ·rw[if_neg c6] at H
      exact absurd H (by simp)
    ·rw[if_neg c5] at H
     exact absurd H (by simp)
   ·rw[if_neg c3] at H
    have c3b0:decide (x9_1 < x10_1)=false:=decide_eq_false c3
    clear c3
    by_cases c11:x9_1 < (l0.length:Int)
    ·rw[if_pos c11] at H
     have c11b0:decide (x9_1 < (l0.length:Int))=true:=decide_eq_true c11
     clear c11
     by_cases c12:0≤x9_1
     ·rw[if_pos c12] at H
      replace c12:=decide_eq_true c12
      by_cases c13:x9_1 < (l0.length:Int)
      ·rw[if_pos c13] at H
       replace c13:=decide_eq_true c13
       replace H:=Option.bind_eq_some_iff.mp H
       obtain⟨t317,A140,H⟩:=H
       replace H:(some (x9_1,(t317 == 0)))=some (r1,r2):=H
       have A14:=As A140
       clear A140
       simp only[Option.some.injEq,Prod.mk.injEq] at H
       obtain⟨rfl,rfl⟩:=H
       have p316:0≤(x9_1:Int):=Z.od
       have q316:x9_1 < (l0.length:Int):=Z.od
       obtain⟨ad316,A316_4,c316_4,A316_6,c316_6,e316,hx316_0,hx316_1,hx316_2,hx316_3,hx316_4,hx316_5,hx316_6,hx316_7,hl316_4,hi316_4,hl316_6,hi316_6⟩:=at_T51 HR0.out x9_1 p316 q316
       cases e316
       replace hx316_0:=Z.kc HB hx316_0
       replace hx316_1:=Z.kc HB hx316_1
       replace hx316_2:=Z.kc HB hx316_2
       replace hx316_3:=Z.kc HB hx316_3
       replace hx316_4:=Z.kc HB hx316_4
       replace hx316_5:=Z.kc HB hx316_5
       replace hx316_6:=Z.kc HB hx316_6
       replace hx316_7:=Z.kc HB hx316_7
       have HR316_4:=As hi316_4
       have HC316_4:=As hl316_4
       clear hi316_4 hl316_4
       have HR316_6:=As hi316_6
       have HC316_6:=As hl316_6
       clear hi316_6 hl316_6
       replace p316:=eq_true p316
       replace q316:=eq_true q316
       go_wp2_with (first|(go_at_call 98;(with_reducible refine (span_Add_1.calls ((rd_T51 l0 x9_1).f0) ((rd_T51 l0 x9_1).f1) ((rd_T51 l0 x9_1).f2) ((rd_T51 l0 x9_1).f3.f0) _ _ ((rd_T51 l0 x9_1).f3.f1) ((rd_T51 l0 x9_1).f4.f0) _ _ ((rd_T51 l0 x9_1).f4.f1) ((rd_T51 l0 x9_1).f5) a1 t317 _ ?side1 ?side2 ?side3 ?side4 A14.out).mono ?_);(case side1=>repeat (first|exact (Kd.C_below HR316_4.out HB.out)|(with_reducible refine Kd.C_alloc ?_ _)|(with_reducible refine Kd.C_drewN ?_ _)|(with_reducible refine Kd.C_drew ?_)));(case side2=>exact HC316_4.out);(case side3=>repeat (first|exact (Kd.C_below HR316_6.out HB.out)|(with_reducible refine Kd.C_alloc ?_ _)|(with_reducible refine Kd.C_drewN ?_ _)|(with_reducible refine Kd.C_drew ?_)));(case side4=>exact HC316_6.out);rintro e w15 ⟨rfl,hb⟩;replace HB:=Z.sb hb;(try clear hb);(try clear hb2);(try clear hk);(try clear hi)))
       go_ret2
       exact⟨Z.e_,Z.bl⟩
      ·rw[if_neg c13] at H
       exact absurd H (by simp)
     ·rw[if_neg c12] at H
      exact absurd H (by simp)
    ·rw[if_neg c11] at H
     have c11b0:decide (x9_1 < (l0.length:Int))=false:=decide_eq_false c11
     clear c11
     simp only[Option.some.injEq,Prod.mk.injEq] at H
     obtain⟨rfl,rfl⟩:=H
     go_wp2
     go_ret2
     exact⟨Z.e_,Z.bl⟩
def head_Pack.f (a0_0:Int) (a0_1:Int):Option (Int×Int):=(head_Check.f a0_0 a0_1).bind fun t333=>(if t333=0 then (some (Go.bits .or .u64 (Go.bits .or .u64 11889503016258109440 (IntKind.u64.wrap (a0_1 * 256))) (IntKind.u64.wrap (a0_0)),0)) else (some (0,t333)))
set_option maxHeartbeats 8000000 in
set_option maxRecDepth 100000 in
theorem head_Pack.calls (a0_0:Int) (a0_1:Int) (r1:Int) (r2:Int) (w:World) (h:head_Pack.f a0_0 a0_1=some (r1,r2)):
  Calls Tryz.prog 66 #[.agg #[.int .i64 a0_0,.int .u64 a0_1]] w fun e w'=>e=.returned (.tuple #[.int .u64 r1,.int .i64 r2])∧Below w.heap.size w w':=by
 have hu41:=Tryz.underlying41
 have HB:=As (Below.refl w.heap.size w)
 have H:((head_Check.f a0_0 a0_1).bind fun t333=>(if t333=0 then (some (Go.bits .or .u64 (Go.bits .or .u64 11889503016258109440 (IntKind.u64.wrap (a0_1 * 256))) (IntKind.u64.wrap (a0_0)),0)) else (some (0,t333))))=some (r1,r2):=h
 clear h
 replace H:=Option.bind_eq_some_iff.mp H
 obtain⟨t333,A20,H⟩:=H
 replace H:(if t333=0 then (some (Go.bits .or .u64 (Go.bits .or .u64 11889503016258109440 (IntKind.u64.wrap (a0_1 * 256))) (IntKind.u64.wrap (a0_0)),0)) else (some (0,t333)))=some (r1,r2):=H
 have A2:=As A20
 clear A20
 by_cases c3:t333=0
 ·rw[if_pos c3] at H
  have c3b0:(t333 == 0)=true:=beq_iff_eq.mpr c3
  have c3b1:(t333 != 0)=false:=bne_eq_false_iff_eq.mpr c3
  clear c3
  simp only[Option.some.injEq,Prod.mk.injEq] at H
  obtain⟨rfl,rfl⟩:=H
  go_enter Tryz.func66,Tryz.ntmps66
  go_wp2_with (first|((with_reducible refine gate_dst (N:=1) rfl ?_);refine Z.bx 1 #[.int .i64 a0_0,.int .u64 a0_1] 41 fun gb332 hg w4 hbox hb=>?_;have BK332:=As hbox;have GW332:=Z.ge hg;have GE332:=Z.ge hg;replace HB:=Z.sb hb;clear hb hbox hg;have hcz5_0:=Z.c0 BK332.out;have hcz5_1:=Z.c1 BK332.out;have hfz5_0:=blk_frozen BK332.out 0;have hfz5_1:=blk_frozen BK332.out 1)|((with_reducible refine gate_callee (f:=23) rfl ?_);refine Z.gl 6 Tryz.func23 #[.agg #[.int .i64 a0_0,.int .u64 a0_1]] ?_;(with_reducible refine (head_Check.calls a0_0 a0_1 t333 _ A2.out).mono ?_);rintro e w6 ⟨rfl,hb⟩;refine⟨_,rfl,?_⟩;replace HB:=Z.sb hb;replace BK332:=Z.kb BK332 hb;(try clear hb);(try clear hb2);(try clear hk);(try clear hi);have hcz7_0:=Z.c0 BK332.out;have hcz7_1:=Z.c1 BK332.out;have hfz7_0:=blk_frozen BK332.out 0;have hfz7_1:=blk_frozen BK332.out 1))
  go_ret2
  exact⟨Z.e_,Z.bl⟩
 ·rw[if_neg c3] at H
  have c3b0:(t333 == 0)=false:=beq_eq_false_iff_ne.mpr c3
  have c3b1:(t333 != 0)=true:=bne_iff_ne.mpr c3
  simp only[Option.some.injEq,Prod.mk.injEq] at H
  obtain⟨rfl,rfl⟩:=H
  go_enter Tryz.func66,Tryz.ntmps66
  go_wp2_with (first|((with_reducible refine gate_dst (N:=1) rfl ?_);refine Z.bx 1 #[.int .i64 a0_0,.int .u64 a0_1] 41 fun gb332 hg w8 hbox hb=>?_;have BK332:=As hbox;have GW332:=Z.ge hg;have GE332:=Z.ge hg;replace HB:=Z.sb hb;clear hb hbox hg;have hcz9_0:=Z.c0 BK332.out;have hcz9_1:=Z.c1 BK332.out;have hfz9_0:=blk_frozen BK332.out 0;have hfz9_1:=blk_frozen BK332.out 1)|((with_reducible refine gate_callee (f:=23) rfl ?_);refine Z.gl 6 Tryz.func23 #[.agg #[.int .i64 a0_0,.int .u64 a0_1]] ?_;(with_reducible refine (head_Check.calls a0_0 a0_1 t333 _ A2.out).mono ?_);rintro e w10 ⟨rfl,hb⟩;refine⟨_,rfl,?_⟩;replace HB:=Z.sb hb;replace BK332:=Z.kb BK332 hb;(try clear hb);(try clear hb2);(try clear hk);(try clear hi)))
  go_ret2
  exact⟨Z.e_,Z.bl⟩
end Go.Proofs.YtmmfchnbfnegnaaGreatDoor.GK
end
section
namespace Go.Proofs.YtmmfchnbfnegnaaGreatDoor.K
open Go.RowKit Go.Proofs.YtmmfchnbfnegnaaGreatDoorW.PrintWords Go.Proofs.YtmmfchnbfnegnaaGreatDoorW.PrintLast Go.Proofs.YtmmfchnbfnegnaaGreatDoorW.PrintMore Go.Proofs.YtmmfchnbfnegnaaGreatDoor.GK
structure FnIs (P:Program) (f:FuncId):Prop where
 ex:∃fn:Func,P.funcs[f]? =some fn∧(fn.name == "runtime.NumGoroutine")=false∧fn.body.isSome=true
section
variable {P:Program} {ops:Array Oper} {rest:List Oper} {oi:Oper} {a:Act} {Q:Exit→Act→World→Prop} {w:World}
theorem gateF_ {t:Tmp} {os_:Array Operand} {ts:Array TypeId} (_ho:oi.op=.call {callee:=.value (.tmp t),args:=os_,argTypes:=ts}) (h:wpList P ops Q (oi::rest) a w):wpList P ops Q (oi::rest) a w:=h
theorem goesF_ (N:Option Tmp) (hd:oi.dst=N) (hg:oi.guard=none) {f:FuncId} {t:Tmp} {os_:Array Operand} {ts:Array TypeId} (hf:FnIs P f) (first args cap:Array Value)
  (hop:oi.op=.call {callee:=.value (.tmp t),args:=os_,argTypes:=ts}) (hv:a.eval (.tmp t)=.func (.func f) first cap) (hargs:os_.map a.eval=args)
  (h:Calls P f (first ++ args ++ cap) w fun e w'=>∃v,e=.returned v∧wpList P ops Q rest (a.put N v) w'):wpList P ops Q (oi::rest) a w:=by
 obtain⟨fn,hf1,hf2,hf3⟩:=hf.ex
 refine wpList_plain hg fun K hK=>?_
 have he:=enters_ hf1 hf2 hf3 (first ++ args ++ cap) w
 have hrun:(execOp a.eval oi).run P w=.ok (.enter f (first ++ args ++ cap)) w:=by
  unfold execOp
  simp only[hop,resolve,Sem.run_bind,Sem.run_pure,Result.andThen_ok,hv,Deferred.ofValue,hargs,invoke]
  exact he
 unfold Oper.wp
 rw[hrun,Oper.upon_enter]
 refine h.mono fun e w'' hh=>?_
 obtain⟨v,rfl,hk⟩:=hh
 subst hd
 exact hK _ _ hk
end
def ixP {α:Type} (p:α→Bool):List α→Int→Int
 | [],_=> -1
 |x::r,i=>if p x=true then i else ixP p r (i + 1)
theorem ixP_drop {α:Type} (p:α→Bool) (l:List α) {i:Nat} (h:i < l.length):ixP p (l.drop i) i=if p l[i]=true then (i:Int) else ixP p (l.drop (i + 1)) ((i + 1:Nat):Int):=by
 rw[List.drop_eq_getElem_cons h,ixP];rfl
theorem raw_at {sz:Nat} {w:World} {A:Option Addr} {n:Nat} {xs:List (List Value)} (h:Kd.C (Kd.raw sz) w A n xs) {i:Nat} (hi:i < xs.length):
  ∃ad,A=some ad∧xs[i].length=sz∧(∀u,xs[i][0]? =some u→w.cell? (ad.add (i * sz))=some u)∧∀j u,0 < j→xs[i][j]? =some u→w.cell? ⟨(ad.add (i * sz)).block,(ad.add (i * sz)).off + j,none⟩=some u:=by
 obtain⟨h1,_,h3⟩:=h
 obtain⟨ad,e,hc⟩:=h3 (by omega)
 obtain⟨c,hs,hr,hcell⟩:=hc i xs[i] (List.getElem?_eq_getElem hi)
 have hcx:c=xs[i]:=hr.1
 rw[←hcx]
 refine⟨ad,e,hs,fun u hu=>?_,fun j u hj hu=>?_⟩
 ·have:=hcell 0 u hu
  rwa [Nat.add_zero] at this
 ·rw[←add_field _ _ j hj]
  exact hcell j u hu
def FormSp (x:List Value):Prop:=∃a0 a1 a2:Int,x=[.int .u64 a0,.int .u8 a1,.int .u64 a2]
def FormSn (x:List Value):Prop:=∃(a0 a1 a2 a3:Int) (A4:Option Addr) (n4 c4:Nat) (a5:Int) (A6:Option Addr) (n6 c6:Nat) (a7:Bool),x=[.int .i64 a0,.int .i64 a1,.int .i64 a2,.int .i64 a3,.slice A4 n4 c4,.int .i64 a5,.slice A6 n6 c6,.bool a7]
theorem three {l:List Value} (h:l.length=3):∃a b c,l=[a,b,c]:=by
 match l,h with
 | [a,b,c],_=>exact⟨a,b,c,rfl⟩
theorem eight {l:List Value} (h:l.length=8):∃a b c d e f g i,l=[a,b,c,d,e,f,g,i]:=by
 match l,h with
 | [a,b,c,d,e,f,g,i],_=>exact⟨a,b,c,d,e,f,g,i,rfl⟩
end Go.Proofs.YtmmfchnbfnegnaaGreatDoor.K
end
section
namespace Go.Proofs.YtmmfchnbfnegnaaGreatDoor.K
open Go.RowKit Go.Proofs.YtmmfchnbfnegnaaGreatDoorW.PrintWords Go.Proofs.YtmmfchnbfnegnaaGreatDoorW.PrintLast Go.Proofs.YtmmfchnbfnegnaaGreatDoorW.PrintMore Go.Proofs.YtmmfchnbfnegnaaGreatDoor.GK
theorem flat_len {sz:Nat}:∀{l:List (List Value)},(∀x∈l,x.length=sz)→l.flatten.length=l.length * sz
 | [],_=>by simp
 |x::r,h=>by
  rw[List.flatten_cons,List.length_append,flat_len (fun y hy=>h y (List.mem_cons_of_mem _ hy)),h x (by simp),List.length_cons,Nat.succ_mul,Nat.add_comm]
theorem flat_take {sz:Nat}:∀{l:List (List Value)} (i:Nat),(∀x∈l,x.length=sz)→(l.take i).flatten=l.flatten.take (i * sz)
 | [],_,_=>by simp
 |x::r,0,_=>by simp
 |x::r,i + 1,h=>by
  have hx:=h x (by simp)
  rw[List.take_succ_cons,List.flatten_cons,List.flatten_cons,flat_take i (fun y hy=>h y (List.mem_cons_of_mem _ hy)),List.take_append,hx,show (i + 1) * sz - sz=i * sz by rw[Nat.succ_mul];omega,List.take_of_length_le (show x.length≤(i + 1) * sz by rw[hx,Nat.succ_mul];omega)]
theorem flat_drop {sz:Nat}:∀{l:List (List Value)} (i:Nat),(∀x∈l,x.length=sz)→(l.drop i).flatten=l.flatten.drop (i * sz)
 | [],_,_=>by simp
 |x::r,0,_=>by simp
 |x::r,i + 1,h=>by
  have hx:=h x (by simp)
  rw[List.drop_succ_cons,List.flatten_cons,flat_drop i (fun y hy=>h y (List.mem_cons_of_mem _ hy)),List.drop_append,hx,show (i + 1) * sz - sz=i * sz by rw[Nat.succ_mul];omega,List.drop_eq_nil_of_le (show x.length≤(i + 1) * sz by rw[hx,Nat.succ_mul];omega),List.nil_append]
theorem flat_of {sz:Nat} (h0:0 < sz):∀(l:List (List Value)) (c:List Value),c.length=l.length * sz→(∀j p,l[j]? =some p→(c.drop (j * sz)).take sz=p)→c=l.flatten
 | [],c,hl,_=>by simpa using hl
 |x::r,c,hl,h=>by
  have h1:=h 0 x rfl
  rw[Nat.zero_mul,List.drop_zero] at h1
  have h2:=flat_of h0 r (c.drop sz) (by rw[List.length_drop,hl,List.length_cons,Nat.succ_mul];omega) (fun j p hj=>by
   have:=h (j + 1) p hj
   rw[List.drop_drop,show sz + j * sz=(j + 1) * sz by rw[Nat.succ_mul];omega];exact this)
  rw[List.flatten_cons,←h1,←h2,List.take_append_drop]
theorem flat_at {sz:Nat}:∀(l:List (List Value)),(∀x∈l,x.length=sz)→∀j p,l[j]? =some p→(l.flatten.drop (j * sz)).take sz=p
 | [],_,j,p,hj=>by simp at hj
 |x::r,h,0,p,hj=>by
  have hx:=h x (by simp)
  have:x=p:=by simpa using hj
  subst this
  rw[Nat.zero_mul,List.drop_zero,List.flatten_cons,List.take_append,hx,Nat.sub_self,List.take_zero,List.append_nil,List.take_of_length_le (by omega)]
 |x::r,h,j + 1,p,hj=>by
  have hx:=h x (by simp)
  rw[List.flatten_cons,List.drop_append,hx,show (j + 1) * sz - sz=j * sz by rw[Nat.succ_mul];omega,List.drop_eq_nil_of_le (show x.length≤(j + 1) * sz by rw[hx,Nat.succ_mul];omega),List.nil_append]
  exact flat_at r (fun y hy=>h y (List.mem_cons_of_mem _ hy)) j p hj
def Cells (sz:Nat) (rows:List (List Value)):Prop:=∀x∈rows,x.length=sz∧∀u∈x,u.oneCell'=true
theorem Cells.len {sz:Nat} {rows:List (List Value)} (h:Cells sz rows):∀x∈rows,x.length=sz:=fun x hx=>(h x hx).1
theorem Cells.one {sz:Nat} {rows:List (List Value)} (h:Cells sz rows):∀u∈rows.flatten,u.oneCell'=true:=fun u hu=>by
 obtain⟨x,hx,hux⟩:=List.mem_flatten.1 hu
 exact (h x hx).2 u hux
theorem Cells.sub {sz:Nat} {r s:List (List Value)} (h:Cells sz s) (hs:∀x∈r,x∈s):Cells sz r:=fun x hx=>h x (hs x hx)
section
variable {sz e base g n c:Nat} {W:World} {ok:Nat→Prop} {rows:List (List Value)}
theorem raw_cells {v:Value} (h:Kd.R (Kd.raw sz) e W base ok v rows):Cells sz rows:=fun x hx=>by
 obtain⟨j,hj,e1⟩:=List.mem_iff_getElem.1 hx
 obtain⟨_,inner,ho,hr⟩:=h
 have h2:_=x∧_:=hr.2 j x (by rw[List.getElem?_eq_getElem hj,e1])
 obtain⟨e2,h3,h4⟩:=h2
 rw[←e2];exact⟨h3,h4⟩
theorem raw_open (h0:0 < sz) (h:Kd.R (Kd.raw sz) e W base ok (.slice (some ⟨g,0,none⟩) n c) rows):
  ∃cur:Array Value,W.heap[g]? =some (.cells cur e (0,0))∧n=rows.length∧n≤c∧c≤maxLen∧cur.size=c * sz∧cur.toList.take (n * sz)=rows.flatten∧base≤g∧ok g:=by
 obtain⟨hok,inner,⟨h1,h2⟩,hr⟩:=h
 rcases h2 with⟨hv,_⟩|⟨g',cap',cur,hv,hb,hh,hnc,hcm,hcs,ht⟩
 ·cases hv
 injection hv with ha hn hc
 injection ha with ha
 injection ha with hg
 subst hg;subst hc;subst hn
 refine⟨cur,hh,rfl,hnc,hcm,hcs,?_,hb,hok g (by simp[Value.ownBlock])⟩
 have ht':cur.toList.take (rows.length * sz)=inner:=ht
 rw[ht']
 exact flat_of h0 rows inner hr.1 (fun j p hj=>(hr.2 j p hj).1)
theorem raw_close {cur:Array Value} (hc:Cells sz rows) (hb:W.heap[g]? =some (.cells cur e (0,0))) (hn:rows.length≤c) (hcm:c≤maxLen) (hcs:cur.size=c * sz) (ht:cur.toList.take (rows.length * sz)=rows.flatten) (hg:base≤g) (hok:ok g):
  Kd.R (Kd.raw sz) e W base ok (.slice (some ⟨g,0,none⟩) rows.length c) rows:=by
 refine⟨fun k hk=>?_,rows.flatten,⟨flat_len hc.len,.inr ⟨g,c,cur,rfl,hg,hb,hn,hcm,hcs,ht⟩⟩,flat_len hc.len,fun j p hj=>?_⟩
 ·have:g=k:=by simpa[Value.ownBlock] using hk
  rw[←this];exact hok
 ·have hm:=hc p (List.mem_of_getElem? hj)
  exact⟨flat_at rows hc.len j p hj,by rw[show (Kd.raw sz).sz=sz from rfl,flat_at rows hc.len j p hj];exact hm.1,by rw[show (Kd.raw sz).sz=sz from rfl,flat_at rows hc.len j p hj];exact hm.2⟩
end
theorem setRow_far (W:World) (g:Nat) (cs:Array Value) (k:Nat) (hk:k≠g):(W.setRow g cs).heap[k]? =W.heap[k]? :=by
 unfold World.setRow
 rw[Array.getElem?_modify,if_neg (Ne.symm hk)]
theorem setRow_grown (W:World) (g:Nat) (cs:Array Value):W.grownBy (W.setRow g cs) (some g):=
 ⟨rfl,rfl,rfl,by simp[World.setRow],fun k _ hne=>setRow_far W g cs k (fun e=>hne (by rw[e]))⟩
section
variable {P:Program} {ops:Array Oper} {rest:List Oper} {o:Oper} {a:Act} {Q:Exit→Act→World→Prop} {W w1:World}
theorem clear_event (hgd:o.guard=none) (x:Operand) (t:TypeId) (ho:o.op=.call {callee:=.builtin .clear,args:=#[x],argTypes:=#[t]}) (v:Value) (hx:a.eval x=v)
  (hr:∀ty,(Builtin.clear_ #[t] ty #[v]).run P W=.ok (.tuple #[]) w1) (h:wpList P ops Q rest (a.put o.dst (.tuple #[])) w1):wpList P ops Q (o::rest) a W:=by
 refine wpList_plain hgd fun K hK=>?_
 unfold Oper.wp execOp
 simp only[ho,resolve,invoke,builtin,Sem.run_bind,Sem.run_pure,Result.andThen_ok,List.map_toArray,List.map_cons,List.map_nil,hx,hr]
 exact hK _ _ h
end
theorem zeroCells_len (z:Array Value) (n:Nat):(Builtin.zeroCells z n).size=n * z.size:=by simp[Builtin.zeroCells]
theorem zeroCells_one (z:Array Value) (n:Nat) (hz:∀u∈z,u.oneCell'=true):∀u∈(Builtin.zeroCells z n).toList,u.oneCell'=true:=by
 intro u hu
 simp only[Builtin.zeroCells,Array.toList_map,List.mem_map] at hu
 obtain⟨i,hi,rfl⟩:=hu
 have hi':i < n * z.size:=by simpa using hi
 have hz0:0 < z.size:=by
  rcases Nat.eq_zero_or_pos z.size with h|h
  ·rw[h] at hi';omega
  ·exact h
 have hm:i % z.size < z.size:=Nat.mod_lt _ hz0
 rw[getElem!_pos z _ hm]
 exact hz _ (Array.getElem_mem hm)
theorem clear_run {P:Program} {W:World} {t e t':TypeId} {z:Value} (ht:P.underlying t=some (.slice e)) (hv:∀w,(zeroValue e).run P w=.ok z w) (hz:∀u∈z.cells,u.oneCell'=true) {g off n c:Nat} {cur:Array Value} (hn:0 < n)
  (hb:W.heap[g]? =some (.cells cur t' (0,0))) (hl:off + n * z.cells.size≤cur.size) (ty:TypeId):
  (Builtin.clear_ #[t] ty #[.slice (some ⟨g,off,none⟩) n c]).run P W=.ok (.tuple #[]) (W.setRow g (cur.toList.take off ++ (Builtin.zeroCells z.cells n).toList ++ cur.toList.drop (off + n * z.cells.size)).toArray):=by
 have hst:=run_storeCells_at (P:=P) g off t' (Builtin.zeroCells z.cells n).toList 0 cur W hb (by rw[Array.length_toList,zeroCells_len];omega) (zeroCells_one _ _ hz)
 rw[Array.length_toList,zeroCells_len] at hst
 simp only[Nat.add_zero] at hst
 obtain⟨m,rfl⟩:∃m,n=m + 1:=⟨n - 1,by omega⟩
 simp[Builtin.clear_,run_underlying ht,hv,hst]
end Go.Proofs.YtmmfchnbfnegnaaGreatDoor.K
end
section
namespace Go.Proofs.YtmmfchnbfnegnaaGreatDoor.K
open Go.RowKit Go.Proofs.YtmmfchnbfnegnaaGreatDoorW.PrintWords Go.Proofs.YtmmfchnbfnegnaaGreatDoorW.PrintLast Go.Proofs.YtmmfchnbfnegnaaGreatDoorW.PrintMore Go.Proofs.YtmmfchnbfnegnaaGreatDoor.GK
attribute [local go_sem] max2_int min2_int max_two min_two max_three min_three max_four min_four
theorem nil_eqSp (w:World) (a:Option Addr) (n c:Nat):(binOp .eql 38 (.slice a n c) (.slice none 0 0)).run Tryz.prog w=.ok (.bool a.isNone) w:=Lib.run_eql_slice_nil w 38 48 a n c 0 0 Tryz.underlying38
theorem infoSp:(Tryz.prog.info? 48).map (fun i=>(i.zero,i.size,i.bytes))=some (some (.agg #[.int .u64 0,.int .u8 0,.int .u64 0]),3,24):=by kernel_rfl
set_option maxHeartbeats 8000000 in
set_option maxRecDepth 100000 in
theorem cloneSp (A0:Option Addr) (c0:Nat) (rows:List (List Value)) (w:World) (hr0:Kd.C (Kd.raw 3) w A0 rows.length rows) (hl:rows.length < 1000000):
  Calls Tryz.prog 29 #[.slice A0 rows.length c0] w fun e w'=>∃v0_:Value,e=.returned (v0_)∧Kd.R (Kd.raw 3) 48 w' w.heap.size (fun _=>True) v0_ rows∧Below w.heap.size w w':=by
 have hcmp:=nil_eqSp
 have LM:=As hl
 have HB:=As (Below.refl w.heap.size w)
 have HR0:=As hr0
 clear hl
 cases A0 with
 |none=>
  have e0:rows=[]:=by
   rcases Nat.eq_zero_or_pos rows.length with h0|h0
   ·exact List.eq_nil_of_length_eq_zero h0
   ·obtain⟨ad,e,_⟩:=hr0.2.2 h0;cases e
  subst e0
  clear hr0 HR0
  go_enter Tryz.func29,Tryz.ntmps29
  go_wp2_with (simp only[hcmp])
  go_ret
  exact⟨_,rfl,Kd.R_nil _ _ _ _ _,HB.out⟩
 |some ad=>
  clear hr0
  go_enter Tryz.func29,Tryz.ntmps29
  go_wp2_with (first|(simp only[hcmp];done)|((with_reducible refine gate_dst (N:=5) rfl ?_);refine Kd.R_lit (Kd.raw 3) _ 48 ?hg (N:=5) ?hd (xs:=([]:List (List Value))) (inner:=[]) (ok:=fun _=>True) (okp:=fun _=>True) ?hr ?hp (fun _ hk=>hk) trivial (Below.refl _ _) (Nat.le_refl _) (by simp) ?_;(case hd=>rfl);(case hg=>rfl);(case hr=>first|(go_simp;done)|(go_simp;rfl));(case hp=>exact (Reps.none _ _));intro v1 w1 ho1 hb1 hg1 hn1;clear hg1 hn1;have HO1:=As (Kd.R_lower ho1 (below_size HB.out));have n1:=As (below_step HB.out hb1);clear HB;have HB:=n1;clear n1 hb1 ho1)|((with_reducible refine gate_builtin (b:=.append) (xs:=#[.tmp 5,.tmp 6]) rfl ?_);at_builtin;refine Kd.R_append_rows (Kd.raw 3) (w0:=w) w.heap.size rfl (.tmp 5) (.tmp 6) 38 48 (.agg #[.int .u64 0,.int .u8 0,.int .u64 0]) 24 rfl Tryz.underlying38 infoSp rfl (by decide) (by omega) v1 [] rows _ _ _ (fun _=>True) (fun _=>False) rfl rfl ?aO ?aR (fun _ _ h=>h) (fun _ h=>h.elim) ?aF ?aB ?aS ?aL ?_;(case aR=>exact Kd.C_below HR0.out HB.out);(case aB=>exact HB.out);(case aF=>exact (fun _ _=>trivial));(case aO=>exact HO1.out);(case aS=>exact (below_size HB.out));(case aL=>have:=LM.out;simp only[List.length_nil];omega);intro v2 w2 ho2 hb2 hg2 hat2;clear hg2 hat2;have HO2:=As ho2;have HB2:=As hb2;clear ho2 hb2))
  go_ret
  exact⟨_,rfl,by simpa using HO2.out,HB2.out⟩
theorem nil_eqSn (w:World) (a:Option Addr) (n c:Nat):(binOp .eql 32 (.slice a n c) (.slice none 0 0)).run Tryz.prog w=.ok (.bool a.isNone) w:=Lib.run_eql_slice_nil w 32 51 a n c 0 0 Tryz.underlying32
theorem infoSn:(Tryz.prog.info? 51).map (fun i=>(i.zero,i.size,i.bytes))=some (some (.agg #[.int .i64 0,.int .i64 0,.int .i64 0,.int .i64 0,.slice none 0 0,.int .i64 0,.slice none 0 0,.bool false]),8,96):=by kernel_rfl
set_option maxHeartbeats 8000000 in
set_option maxRecDepth 100000 in
theorem cloneSn (A0:Option Addr) (c0:Nat) (rows:List (List Value)) (w:World) (hr0:Kd.C (Kd.raw 8) w A0 rows.length rows) (hl:rows.length < 1000000):
  Calls Tryz.prog 107 #[.slice A0 rows.length c0] w fun e w'=>∃v0_:Value,e=.returned (v0_)∧Kd.R (Kd.raw 8) 51 w' w.heap.size (fun _=>True) v0_ rows∧Below w.heap.size w w':=by
 have hcmp:=nil_eqSn
 have LM:=As hl
 have HB:=As (Below.refl w.heap.size w)
 have HR0:=As hr0
 clear hl
 cases A0 with
 |none=>
  have e0:rows=[]:=by
   rcases Nat.eq_zero_or_pos rows.length with h0|h0
   ·exact List.eq_nil_of_length_eq_zero h0
   ·obtain⟨ad,e,_⟩:=hr0.2.2 h0;cases e
  subst e0
  clear hr0 HR0
  go_enter Tryz.func107,Tryz.ntmps107
  go_wp2_with (simp only[hcmp])
  go_ret
  exact⟨_,rfl,Kd.R_nil _ _ _ _ _,HB.out⟩
 |some ad=>
  clear hr0
  go_enter Tryz.func107,Tryz.ntmps107
  go_wp2_with (first|(simp only[hcmp];done)|((with_reducible refine gate_dst (N:=5) rfl ?_);refine Kd.R_lit (Kd.raw 8) _ 51 ?hg (N:=5) ?hd (xs:=([]:List (List Value))) (inner:=[]) (ok:=fun _=>True) (okp:=fun _=>True) ?hr ?hp (fun _ hk=>hk) trivial (Below.refl _ _) (Nat.le_refl _) (by simp) ?_;(case hd=>rfl);(case hg=>rfl);(case hr=>first|(go_simp;done)|(go_simp;rfl));(case hp=>exact (Reps.none _ _));intro v1 w1 ho1 hb1 hg1 hn1;clear hg1 hn1;have HO1:=As (Kd.R_lower ho1 (below_size HB.out));have n1:=As (below_step HB.out hb1);clear HB;have HB:=n1;clear n1 hb1 ho1)|((with_reducible refine gate_builtin (b:=.append) (xs:=#[.tmp 5,.tmp 6]) rfl ?_);at_builtin;refine Kd.R_append_rows (Kd.raw 8) (w0:=w) w.heap.size rfl (.tmp 5) (.tmp 6) 32 51 (.agg #[.int .i64 0,.int .i64 0,.int .i64 0,.int .i64 0,.slice none 0 0,.int .i64 0,.slice none 0 0,.bool false]) 96 rfl Tryz.underlying32 infoSn rfl (by decide) (by omega) v1 [] rows _ _ _ (fun _=>True) (fun _=>False) rfl rfl ?aO ?aR (fun _ _ h=>h) (fun _ h=>h.elim) ?aF ?aB ?aS ?aL ?_;(case aR=>exact Kd.C_below HR0.out HB.out);(case aB=>exact HB.out);(case aF=>exact (fun _ _=>trivial));(case aO=>exact HO1.out);(case aS=>exact (below_size HB.out));(case aL=>have:=LM.out;simp only[List.length_nil];omega);intro v2 w2 ho2 hb2 hg2 hat2;clear hg2 hat2;have HO2:=As ho2;have HB2:=As hb2;clear ho2 hb2))
  go_ret
  exact⟨_,rfl,by simpa using HO2.out,HB2.out⟩
end Go.Proofs.YtmmfchnbfnegnaaGreatDoor.K
end
