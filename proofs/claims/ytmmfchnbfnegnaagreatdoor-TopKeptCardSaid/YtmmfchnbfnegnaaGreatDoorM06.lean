import Derived.Test.YtmmfchnbfnegnaaGreatDoorM04
import Derived.Test.YtmmfchnbfnegnaaGreatDoorM03
import Derived.Test.YtmmfchnbfnegnaaGreatDoorM05
section
namespace Go.Proofs.YtmmfchnbfnegnaaGreatDoor.GK
open Go.RowKit Go.Proofs.YtmmfchnbfnegnaaGreatDoorW.PrintWords Go.Proofs.YtmmfchnbfnegnaaGreatDoorW.PrintLast Go.Proofs.YtmmfchnbfnegnaaGreatDoorW.PrintMore
attribute [local go_sem] max2_int min2_int max_two min_two max_three min_three max_four min_four
set_option linter.unusedVariables false
set_option linter.unusedSimpArgs false
mutual
def bits_Both.j0:Nat→Bool→Int→List Int→Int→List Int→Option (Int×List Int×Int)
 |0,_,_,_,_,_=>none
 |k + 1,x23,x172000,x172001,x173000,x173001=>if x23=true then (some (0,([]:List Int),2)) else ((bits_Own.f x172000 x172001).bind fun bt176=>(bits_Both.l0 k x173001 (x173001.length:Int) 0 bt176.1 bt176.2))
def bits_Both.l0:Nat→List Int→Int→Int→Int→List Int→Option (Int×List Int×Int)
 |0,_,_,_,_,_=>none
 |k + 1,x28,x29,x30,x181000,x181001=>if x30 < x29 then (if 0≤x30 then (if x30 < (x28.length:Int) then (if x30 < (x181001.length:Int) then (bits_Both.l0 k x28 x29 (wrap64 (x30 + 1)) x181000 (x181001.set (x30:Int).toNat (Go.bits .and .u64 (rd x181001 x30) (rd x28 x30)))) else (none)) else (none)) else (none)) else (some (x181000,x181001,0))
end
def bits_Both.f (k:Nat) (a0_0:Int) (l0_1:List Int) (a1_0:Int) (l1_1:List Int):Option (Int×List Int×Int):=(bits_Check.f k a0_0 l0_1).bind fun t174=>(if t174=0 then ((bits_Check.f k a1_0 l1_1).bind fun t175=>(if t175=0 then (bits_Both.j0 k (a0_0 != a1_0) a0_0 l0_1 a1_0 l1_1) else (bits_Both.j0 k true a0_0 l0_1 a1_0 l1_1))) else (bits_Both.j0 k true a0_0 l0_1 a1_0 l1_1))
set_option maxHeartbeats 8000000 in
set_option maxRecDepth 100000 in
theorem bits_Both.calls (k:Nat) (a0_0:Int) (A0_1:Option Addr) (c0_1:Nat) (l0_1:List Int) (a1_0:Int) (A1_1:Option Addr) (c1_1:Nat) (l1_1:List Int) (r1:Int) (r2:List Int) (r3:Int) (w:World) (hr0_1:Kd.C (Kd.int .u64) w A0_1 l0_1.length l0_1) (hc0_1:l0_1.length≤c0_1) (hr1_1:Kd.C (Kd.int .u64) w A1_1 l1_1.length l1_1) (hc1_1:l1_1.length≤c1_1) (h:bits_Both.f k a0_0 l0_1 a1_0 l1_1=some (r1,r2,r3)):
  Calls Tryz.prog 117 #[.agg #[.int .i64 a0_0,.slice A0_1 l0_1.length c0_1],.agg #[.int .i64 a1_0,.slice A1_1 l1_1.length c1_1]] w fun e w'=>∃v1_:Value,e=.returned (.tuple #[.agg #[.int .i64 r1,v1_],.int .i64 r3])∧Kd.R (Kd.int .u64) 39 w' w.heap.size (fun _=>True) v1_ r2∧Below w.heap.size w w':=by
 have hu29:=Tryz.underlying29
 have HR0_1:=As hr0_1
 have HC0_1:=As hc0_1
 clear hr0_1 hc0_1
 have HR1_1:=As hr1_1
 have HC1_1:=As hc1_1
 clear hr1_1 hc1_1
 have HB:=As (Below.refl w.heap.size w)
 have H:((bits_Check.f k a0_0 l0_1).bind fun t174=>(if t174=0 then ((bits_Check.f k a1_0 l1_1).bind fun t175=>(if t175=0 then (bits_Both.j0 k (a0_0 != a1_0) a0_0 l0_1 a1_0 l1_1) else (bits_Both.j0 k true a0_0 l0_1 a1_0 l1_1))) else (bits_Both.j0 k true a0_0 l0_1 a1_0 l1_1)))=some (r1,r2,r3):=h
 clear h
 have HC3:=As H
 clear H
 go_enter Tryz.func117,Tryz.ntmps117
 go_upto_region 1 with (first|((with_reducible refine gate_dst (N:=2) rfl ?_);refine Z.bx 2 #[.int .i64 a0_0,.slice A0_1 l0_1.length c0_1] 29 fun gb171 hg w4 hbox hb=>?_;have BK171:=As hbox;have GW171:=Z.ge hg;have GE171:=Z.ge hg;replace HB:=Z.sb hb;clear hb hbox hg)|((with_reducible refine gate_dst (N:=3) rfl ?_);refine Z.bx 3 #[.int .i64 a1_0,.slice A1_1 l1_1.length c1_1] 29 fun gb172 hg w5 hbox hb=>?_;have BK172:=As hbox;have GW172:=Z.ge hg;have GE172:=Z.ge hg;have NB171_172:=Z.nl BK171 hg;have NB172_171:=Z.ng BK171 hg;replace HB:=Z.sb hb;replace BK171:=Z.kb BK171 hb;clear hb hbox hg)|((with_reducible refine gate_dst (N:=4) rfl ?_);refine Z.bx 4 #[.int .i64 0,.slice none 0 0] 29 fun gb173 hg w6 hbox hb=>?_;have BK173:=As hbox;have GW173:=Z.ge hg;have GE173:=Z.ge hg;have NB171_173:=Z.nl BK171 hg;have NB173_171:=Z.ng BK171 hg;have NB172_173:=Z.nl BK172 hg;have NB173_172:=Z.ng BK172 hg;replace HB:=Z.sb hb;replace BK171:=Z.kb BK171 hb;replace BK172:=Z.kb BK172 hb;clear hb hbox hg))
 (try simp only[Act.put,List.setIfInBounds_toArray,List.set_cons_zero,List.set_cons_succ])
 go_cut [23] (fun v23 wc=>∃(kq:Nat) (x23_2:Bool),v23=.bool x23_2∧Aside0 (bits_Both.j0 kq x23_2 a0_0 l0_1 a1_0 l1_1=some (r1,r2,r3))∧Aside0 (kq≤k)∧Aside0 (wc.heap[gb171]? =some (.cells #[.int .i64 a0_0,(.slice A0_1 l0_1.length c0_1)] 29 (0,0)))∧Aside0 (wc.heap[gb172]? =some (.cells #[.int .i64 a1_0,(.slice A1_1 l1_1.length c1_1)] 29 (0,0)))∧Aside0 (wc.heap[gb173]? =some (.cells #[.int .i64 0,(.slice none 0 0)] 29 (0,0)))∧Aside0 (Below w.heap.size w wc))
 case first=>
  have H:=HC3.out
  clear HC3
  replace H:=Option.bind_eq_some_iff.mp H
  obtain⟨t174,A70,H⟩:=H
  replace H:(if t174=0 then ((bits_Check.f k a1_0 l1_1).bind fun t175=>(if t175=0 then (bits_Both.j0 k (a0_0 != a1_0) a0_0 l0_1 a1_0 l1_1) else (bits_Both.j0 k true a0_0 l0_1 a1_0 l1_1))) else (bits_Both.j0 k true a0_0 l0_1 a1_0 l1_1))=some (r1,r2,r3):=H
  have A7:=As A70
  clear A70
  by_cases c8:t174=0
  ·rw[if_pos c8] at H
   have c8b0:(t174 == 0)=true:=beq_iff_eq.mpr c8
   have c8b1:(t174 != 0)=false:=bne_eq_false_iff_eq.mpr c8
   clear c8
   (first|rw[c8b0]|(simp only[i64_w,i32_w];rw[c8b0])|skip)
   replace H:=Option.bind_eq_some_iff.mp H
   obtain⟨t175,A90,H⟩:=H
   replace H:(if t175=0 then (bits_Both.j0 k (a0_0 != a1_0) a0_0 l0_1 a1_0 l1_1) else (bits_Both.j0 k true a0_0 l0_1 a1_0 l1_1))=some (r1,r2,r3):=H
   have A9:=As A90
   clear A90
   by_cases c10:t175=0
   ·rw[if_pos c10] at H
    have c10b0:(t175 == 0)=true:=beq_iff_eq.mpr c10
    have c10b1:(t175 != 0)=false:=bne_eq_false_iff_eq.mpr c10
    clear c10
    have H':=As H
    clear H
    have hnb11:=NB171_172.out
    have hnc11:=NB172_171.out
    have hnb12:=NB171_173.out
    have hnc12:=NB173_171.out
    have hcz13_0:=Z.c0 BK171.out
    have hcz13_1:=Z.c1 BK171.out
    have hfz13_0:=blk_frozen BK171.out 0
    have hfz13_1:=blk_frozen BK171.out 1
    go_wp2_with (first|((with_reducible refine gate_callee (f:=47) rfl ?_);refine Z.gl 10 Tryz.func47 #[.agg #[.int .i64 a0_0,.slice A0_1 l0_1.length c0_1]] ?_;(with_reducible refine (bits_Check.calls k a0_0 _ _ l0_1 t174 _ ?side1 ?side2 A7.out).mono ?_);(case side1=>repeat (first|exact (Kd.C_below HR0_1.out HB.out)|(with_reducible refine Kd.C_alloc ?_ _)|(with_reducible refine Kd.C_drewN ?_ _)|(with_reducible refine Kd.C_drew ?_)));(case side2=>exact HC0_1.out);rintro e w14 ⟨rfl,hb⟩;refine⟨_,rfl,?_⟩;replace HB:=Z.sb hb;replace BK171:=Z.kb BK171 hb;replace BK172:=Z.kb BK172 hb;replace BK173:=Z.kb BK173 hb;(try clear hb);(try clear hb2);(try clear hk);(try clear hi);have hnb15:=NB172_173.out;have hnc15:=NB173_172.out;have hcz16_0:=Z.c0 BK172.out;have hcz16_1:=Z.c1 BK172.out;have hfz16_0:=blk_frozen BK172.out 0;have hfz16_1:=blk_frozen BK172.out 1)|(go_at_call 47;(with_reducible refine (bits_Check.calls k a1_0 _ _ l1_1 t175 _ ?side1 ?side2 A9.out).mono ?_);(case side1=>repeat (first|exact (Kd.C_below HR1_1.out HB.out)|(with_reducible refine Kd.C_alloc ?_ _)|(with_reducible refine Kd.C_drewN ?_ _)|(with_reducible refine Kd.C_drew ?_)));(case side2=>exact HC1_1.out);rintro e w17 ⟨rfl,hb⟩;replace HB:=Z.sb hb;replace BK171:=Z.kb BK171 hb;replace BK172:=Z.kb BK172 hb;replace BK173:=Z.kb BK173 hb;(try clear hb);(try clear hb2);(try clear hk);(try clear hi);have hcz18_0:=Z.c0 BK171.out;have hcz18_1:=Z.c1 BK171.out;have hfz18_0:=blk_frozen BK171.out 0;have hfz18_1:=blk_frozen BK171.out 1;have hcz19_0:=Z.c0 BK172.out;have hcz19_1:=Z.c1 BK172.out;have hfz19_0:=blk_frozen BK172.out 0;have hfz19_1:=blk_frozen BK172.out 1))
    go_meet
    case rel=>exact⟨_,((a0_0 != a1_0)),Z.r_,H',⟨by first|omega|exact Nat.le_refl _⟩,⟨Z.bk⟩,⟨Z.bk⟩,⟨Z.bk⟩,⟨Z.bl⟩⟩
   ·rw[if_neg c10] at H
    have c10b0:(t175 == 0)=false:=beq_eq_false_iff_ne.mpr c10
    have c10b1:(t175 != 0)=true:=bne_iff_ne.mpr c10
    have H':=As H
    clear H
    have hnb20:=NB171_172.out
    have hnc20:=NB172_171.out
    have hnb21:=NB171_173.out
    have hnc21:=NB173_171.out
    have hcz22_0:=Z.c0 BK171.out
    have hcz22_1:=Z.c1 BK171.out
    have hfz22_0:=blk_frozen BK171.out 0
    have hfz22_1:=blk_frozen BK171.out 1
    go_wp2_with (first|((with_reducible refine gate_callee (f:=47) rfl ?_);refine Z.gl 10 Tryz.func47 #[.agg #[.int .i64 a0_0,.slice A0_1 l0_1.length c0_1]] ?_;(with_reducible refine (bits_Check.calls k a0_0 _ _ l0_1 t174 _ ?side1 ?side2 A7.out).mono ?_);(case side1=>repeat (first|exact (Kd.C_below HR0_1.out HB.out)|(with_reducible refine Kd.C_alloc ?_ _)|(with_reducible refine Kd.C_drewN ?_ _)|(with_reducible refine Kd.C_drew ?_)));(case side2=>exact HC0_1.out);rintro e w23 ⟨rfl,hb⟩;refine⟨_,rfl,?_⟩;replace HB:=Z.sb hb;replace BK171:=Z.kb BK171 hb;replace BK172:=Z.kb BK172 hb;replace BK173:=Z.kb BK173 hb;(try clear hb);(try clear hb2);(try clear hk);(try clear hi);have hnb24:=NB172_173.out;have hnc24:=NB173_172.out;have hcz25_0:=Z.c0 BK172.out;have hcz25_1:=Z.c1 BK172.out;have hfz25_0:=blk_frozen BK172.out 0;have hfz25_1:=blk_frozen BK172.out 1)|(go_at_call 47;(with_reducible refine (bits_Check.calls k a1_0 _ _ l1_1 t175 _ ?side1 ?side2 A9.out).mono ?_);(case side1=>repeat (first|exact (Kd.C_below HR1_1.out HB.out)|(with_reducible refine Kd.C_alloc ?_ _)|(with_reducible refine Kd.C_drewN ?_ _)|(with_reducible refine Kd.C_drew ?_)));(case side2=>exact HC1_1.out);rintro e w26 ⟨rfl,hb⟩;replace HB:=Z.sb hb;replace BK171:=Z.kb BK171 hb;replace BK172:=Z.kb BK172 hb;replace BK173:=Z.kb BK173 hb;(try clear hb);(try clear hb2);(try clear hk);(try clear hi)))
    go_meet
    case rel=>exact⟨_,(true),Z.r_,H',⟨by first|omega|exact Nat.le_refl _⟩,⟨Z.bk⟩,⟨Z.bk⟩,⟨Z.bk⟩,⟨Z.bl⟩⟩
  ·rw[if_neg c8] at H
   have c8b0:(t174 == 0)=false:=beq_eq_false_iff_ne.mpr c8
   have c8b1:(t174 != 0)=true:=bne_iff_ne.mpr c8
   (first|rw[c8b0]|(simp only[i64_w,i32_w];rw[c8b0])|skip)
   have H':=As H
   clear H
   have hnb27:=NB171_172.out
   have hnc27:=NB172_171.out
   have hnb28:=NB171_173.out
   have hnc28:=NB173_171.out
   have hcz29_0:=Z.c0 BK171.out
   have hcz29_1:=Z.c1 BK171.out
   have hfz29_0:=blk_frozen BK171.out 0
   have hfz29_1:=blk_frozen BK171.out 1
   go_wp2_with (first|((with_reducible refine gate_callee (f:=47) rfl ?_);refine Z.gl 10 Tryz.func47 #[.agg #[.int .i64 a0_0,.slice A0_1 l0_1.length c0_1]] ?_;(with_reducible refine (bits_Check.calls k a0_0 _ _ l0_1 t174 _ ?side1 ?side2 A7.out).mono ?_);(case side1=>repeat (first|exact (Kd.C_below HR0_1.out HB.out)|(with_reducible refine Kd.C_alloc ?_ _)|(with_reducible refine Kd.C_drewN ?_ _)|(with_reducible refine Kd.C_drew ?_)));(case side2=>exact HC0_1.out);rintro e w30 ⟨rfl,hb⟩;refine⟨_,rfl,?_⟩;replace HB:=Z.sb hb;replace BK171:=Z.kb BK171 hb;replace BK172:=Z.kb BK172 hb;replace BK173:=Z.kb BK173 hb;(try clear hb);(try clear hb2);(try clear hk);(try clear hi)))
   go_meet
   case rel=>exact⟨_,(true),Z.r_,H',⟨by first|omega|exact Nat.le_refl _⟩,⟨Z.bk⟩,⟨Z.bk⟩,⟨Z.bk⟩,⟨Z.bl⟩⟩
 case rest=>
  clear HC3
  try clear c1
  try clear c2
  try clear p2
  try clear c4
  try clear c8
  try clear c8b0
  try clear c8b1
  try clear c10
  try clear c10b0
  try clear c10b1
  try clear c11
  try clear c12
  try clear c15
  try clear c20
  try clear c21
  try clear c24
  try clear c27
  try clear c28
  try clear hcz13_0
  try clear hcz13_1
  try clear hcz16_0
  try clear hcz16_1
  try clear hcz18_0
  try clear hcz18_1
  try clear hcz19_0
  try clear hcz19_1
  try clear hcz22_0
  try clear hcz22_1
  try clear hcz25_0
  try clear hcz25_1
  try clear hcz29_0
  try clear hcz29_1
  try clear hfz13_0
  try clear hfz13_1
  try clear hfz16_0
  try clear hfz16_1
  try clear hfz18_0
  try clear hfz18_1
  try clear hfz19_0
  try clear hfz19_1
  try clear hfz22_0
  try clear hfz22_1
  try clear hfz25_0
  try clear hfz25_1
  try clear hfz29_0
  try clear hfz29_1
  obtain⟨kq,x23_2,rfl,HA,HJ2,BK171,BK172,BK173,HB⟩:=hcut
  cases kq with
  |zero=>exact absurd HA.out (by simp[bits_Both.j0])
  |succ kj2=>
   have H:=HA.out
   clear HA
   simp only[bits_Both.j0] at H
   by_cases c31:x23_2=true
   ·subst c31
    have H1:(some (0,([]:List Int),2))=some (r1,r2,r3):=by rw[if_pos rfl] at H;exact H
    clear H
    have H:=H1
    clear H1
    simp only[Option.some.injEq,Prod.mk.injEq] at H
    obtain⟨rfl,rfl,rfl⟩:=H
    have hnb32:=NB173_171.out
    have hnc32:=NB171_173.out
    have hnb33:=NB173_172.out
    have hnc33:=NB172_173.out
    have hcz34_0:=Z.c0 BK173.out
    have hcz34_1:=Z.c1 BK173.out
    have hfz34_0:=blk_frozen BK173.out 0
    have hfz34_1:=blk_frozen BK173.out 1
    go_wp2
    refine bodyPost_ret (results_ct rfl _ _ gb173 29 #[.int .i64 0,.slice none 0 0] (0,0) _ rfl Z.bs Tryz.underlying29 rfl (by kernel_rfl)) rfl ?_
    exact⟨_,Z.e_,by first|exact Kd.R_nil _ _ _ _ _|exact Kd.N_nil _ _ _ _ _|exact Kd.V_nil _ _ _ _ _|exact Kd.Q_nil _ _ _ _ _|exact Kd.S_nil _ _ _ _ _,Z.bl⟩
   ·replace c31:=Bool.eq_false_iff.mpr c31
    subst c31
    have H1:((bits_Own.f a0_0 l0_1).bind fun bt176=>(bits_Both.l0 kj2 l1_1 (l1_1.length:Int) 0 bt176.1 bt176.2))=some (r1,r2,r3):=by rw[if_neg (show ¬(false=true) by decide)] at H;exact H
    clear H
    have H:=H1
    clear H1
    replace H:=Option.bind_eq_some_iff.mp H
    obtain⟨⟨t176,t177⟩,A350,H⟩:=H
    replace H:(bits_Both.l0 kj2 l1_1 (l1_1.length:Int) 0 t176 t177)=some (r1,r2,r3):=H
    have A35:=As A350
    clear A350
    have H':=As H
    clear H
    have hnb36:=NB171_172.out
    have hnc36:=NB172_171.out
    have hnb37:=NB171_173.out
    have hnc37:=NB173_171.out
    have hcz38_0:=Z.c0 BK171.out
    have hcz38_1:=Z.c1 BK171.out
    have hfz38_0:=blk_frozen BK171.out 0
    have hfz38_1:=blk_frozen BK171.out 1
    go_wp2_with (first|((with_reducible refine gate_callee (f:=48) rfl ?_);refine Z.gl 26 Tryz.func48 #[.agg #[.int .i64 a0_0,.slice A0_1 l0_1.length c0_1]] ?_;(with_reducible refine (bits_Own.calls a0_0 _ _ l0_1 t176 t177 _ ?side1 ?side2 A35.out).mono ?_);(case side1=>repeat (first|exact (Kd.C_below HR0_1.out HB.out)|(with_reducible refine Kd.C_alloc ?_ _)|(with_reducible refine Kd.C_drewN ?_ _)|(with_reducible refine Kd.C_drew ?_)));(case side2=>exact HC0_1.out);rintro e w39 ⟨v178,rfl,ho0,hb⟩;refine⟨_,rfl,?_⟩;have HO179:=As (Kd.R_lower ho0 (below_size Z.bl));replace HB:=Z.sb hb;replace BK171:=Z.kb BK171 hb;replace BK172:=Z.kb BK172 hb;replace BK173:=Z.kb BK173 hb;(try clear hb);(try clear hb2);(try clear hk);(try clear hi);(try clear ho0))|((with_reducible refine gate_dst (N:=6) rfl ?_);refine Z.bx 6 #[.int .i64 0,.slice none 0 0] 29 fun gb180 hg w40 hbox hb=>?_;have BK180:=As hbox;have GW180:=Z.ge hg;have GE180:=Z.ge hg;have NB171_180:=Z.nl BK171 hg;have NB180_171:=Z.ng BK171 hg;have NB172_180:=Z.nl BK172 hg;have NB180_172:=Z.ng BK172 hg;have NB173_180:=Z.nl BK173 hg;have NB180_173:=Z.ng BK173 hg;replace HO179:=As (Kd.R_below (by (with_reducible repeat (first|apply Kd.R_alloc|apply Kd.R_drewN|apply Kd.R_drew));exact HO179.out) hb);replace HB:=Z.sb hb;replace BK171:=Z.kb BK171 hb;replace BK172:=Z.kb BK172 hb;replace BK173:=Z.kb BK173 hb;clear hb hbox hg;have hnb41:=NB180_171.out;have hnc41:=NB171_180.out;have hnb42:=NB180_172.out;have hnc42:=NB172_180.out;have hnb43:=NB180_173.out;have hnc43:=NB173_180.out;have hcz44_0:=Z.c0 BK180.out;have hcz44_1:=Z.c1 BK180.out;have hfz44_0:=blk_frozen BK180.out 0;have hfz44_1:=blk_frozen BK180.out 1;obtain⟨Ao45,co45,eo45⟩:=Kd.R_slice HO179.out;subst eo45;have hnb46:=NB172_173.out;have hnc46:=NB173_172.out;have hcz47_0:=Z.c0 BK172.out;have hcz47_1:=Z.c1 BK172.out;have hfz47_0:=blk_frozen BK172.out 0;have hfz47_1:=blk_frozen BK172.out 1))
    go_loopg [30] kj2 (fun kq v30 w'=>∃(x30_2:Int) (x181001_2:List Int) (u181001:Value),v30=.int .i64 x30_2∧Aside0 (bits_Both.l0 kq l1_1 (l1_1.length:Int) x30_2 t176 x181001_2=some (r1,r2,r3))∧Aside0 (kq≤kj2)∧Aside0 (Kd.R (Kd.int .u64) 39 w' w.heap.size (fun _=>True) u181001 x181001_2)∧Aside0 (w'.heap[gb171]? =some (.cells #[.int .i64 a0_0,(.slice A0_1 l0_1.length c0_1)] 29 (0,0)))∧Aside0 (w'.heap[gb172]? =some (.cells #[.int .i64 a1_0,(.slice A1_1 l1_1.length c1_1)] 29 (0,0)))∧Aside0 (w'.heap[gb173]? =some (.cells #[.int .i64 0,(.slice none 0 0)] 29 (0,0)))∧Aside0 (w'.heap[gb180]? =some (.cells #[.int .i64 t176,u181001] 29 (0,0)))∧Aside0 (Below w.heap.size w w'))
    case atStart=>exact⟨(0),(t177),(.slice Ao45 t177.length co45),Z.r_,H',⟨Nat.le_refl _⟩,⟨by (with_reducible repeat (first|apply Kd.R_alloc|apply Kd.R_drewN|apply Kd.R_drew));exact Kd.R_mono (Kd.R_far (p:=⟨gb180,1,none⟩) (Kd.R_far (p:=⟨gb180,0,none⟩) (Kd.R_types HO179.out BK180.out (by decide)) (fun _ hk=>hk.2) (.int .i64 t176)) (fun _ hk=>hk.2) (.slice Ao45 t177.length co45)) (fun _ hk=>trivial)⟩,⟨Z.bs⟩,⟨Z.bs⟩,⟨Z.bs⟩,⟨Z.bs⟩,⟨Z.bl⟩⟩
    case round=>
     clear H'
     try clear c1
     try clear c2
     try clear p2
     try clear c3
     try clear c4
     try clear c8
     try clear c8b0
     try clear c8b1
     try clear c10
     try clear c10b0
     try clear c10b1
     try clear c11
     try clear c12
     try clear c15
     try clear c20
     try clear c21
     try clear c24
     try clear c27
     try clear c28
     try clear c31
     try clear c32
     try clear c33
     try clear c36
     try clear c37
     try clear c41
     try clear c42
     try clear c43
     try clear c46
     try clear c47
     try clear hcz13_0
     try clear hcz13_1
     try clear hcz16_0
     try clear hcz16_1
     try clear hcz18_0
     try clear hcz18_1
     try clear hcz19_0
     try clear hcz19_1
     try clear hcz22_0
     try clear hcz22_1
     try clear hcz25_0
     try clear hcz25_1
     try clear hcz29_0
     try clear hcz29_1
     try clear hcz34_0
     try clear hcz34_1
     try clear hcz38_0
     try clear hcz38_1
     try clear hcz44_0
     try clear hcz44_1
     try clear hcz47_0
     try clear hcz47_1
     try clear hfz13_0
     try clear hfz13_1
     try clear hfz16_0
     try clear hfz16_1
     try clear hfz18_0
     try clear hfz18_1
     try clear hfz19_0
     try clear hfz19_1
     try clear hfz22_0
     try clear hfz22_1
     try clear hfz25_0
     try clear hfz25_1
     try clear hfz29_0
     try clear hfz29_1
     try clear hfz34_0
     try clear hfz34_1
     try clear hfz38_0
     try clear hfz38_1
     try clear hfz44_0
     try clear hfz44_1
     try clear hfz47_0
     try clear hfz47_1
     try clear p2
     obtain⟨x30_2,x181001_2,u181001,rfl,HA,HK2,HO_181001,BK171,BK172,BK173,BK180,HB⟩:=hrel
     cases gk with
     |zero=>exact absurd HA.out (by simp[bits_Both.l0])
     |succ k2=>
      have H:=HA.out
      clear HA
      simp only[bits_Both.l0] at H
      by_cases c48:x30_2 < (l1_1.length:Int)
      ·rw[if_pos c48] at H
       have c48b0:decide (x30_2 < (l1_1.length:Int))=true:=decide_eq_true c48
       clear c48
       by_cases c49:0≤x30_2
       ·rw[if_pos c49] at H
        replace c49:=decide_eq_true c49
        by_cases c50:x30_2 < (l1_1.length:Int)
        ·rw[if_pos c50] at H
         replace c50:=decide_eq_true c50
         by_cases c51:x30_2 < (x181001_2.length:Int)
         ·rw[if_pos c51] at H
          replace c51:=decide_eq_true c51
          obtain⟨y183,hy183⟩:∃y_:List Int,y_=(x181001_2.set (x30_2:Int).toNat (Go.bits .and .u64 (rd x181001_2 x30_2) (rd l1_1 x30_2))):=⟨_,rfl⟩
          replace H:(bits_Both.l0 k2 l1_1 (l1_1.length:Int) (wrap64 (x30_2 + 1)) t176 y183)=some (r1,r2,r3):=by first|(rw[hy183];with_reducible exact H)|(have H2_:=(Option.bind_some _ _).symm.trans H;rw[hy183];with_reducible exact H2_)|(have H2_:=(Option.bind_some _ _).symm.trans H;with_reducible exact H2_)|with_reducible exact H|(rw[hy183];exact H)|exact H
          have Ny183:=As hy183
          clear hy183
          have H':=As H
          clear H
          have p181:0≤(x30_2:Int):=Z.od
          have q181:x30_2 < (l1_1.length:Int):=Z.od
          obtain⟨ad181,e181,hx181_0⟩:=Kd.at_int HR1_1.out x30_2 p181 q181
          cases e181
          replace hx181_0:=Z.kc HB hx181_0
          replace p181:=eq_true p181
          replace q181:=eq_true q181
          have hnb53:=NB180_171.out
          have hnc53:=NB171_180.out
          have hnb54:=NB180_172.out
          have hnc54:=NB172_180.out
          have hnb55:=NB180_173.out
          have hnc55:=NB173_180.out
          have hcz56_0:=Z.c0 BK180.out
          have hcz56_1:=Z.c1 BK180.out
          have hfz56_0:=blk_frozen BK180.out 0
          have hfz56_1:=blk_frozen BK180.out 1
          obtain⟨Ao57,co57,eo57⟩:=Kd.R_slice HO_181001.out
          subst eo57
          have p182:0≤(x30_2:Int):=Z.od
          have q182:x30_2 < (x181001_2.length:Int):=Z.od
          obtain⟨ad182,e182,hx182_0⟩:=Kd.at_int (Kd.R_reads' HO_181001.out).2.2 x30_2 p182 q182
          cases e182
          replace p182:=eq_true p182
          replace q182:=eq_true q182
          have p52:0≤(x30_2:Int):=Z.od
          have q52:(x30_2:Int) < ((x181001_2.length:Int):Int):=Z.od
          obtain⟨go52,co52,eo52,gb52,gl52,cl52,HG52⟩:=Kd.R_form HO_181001.out (by omega)
          (first|cases eo52|(injection eo52 with ea_ en_ ec_;(first|subst ea_|(injection ea_ with ea_;subst ea_));subst ec_;clear en_))
          have GB52:=As gb52
          have GG52:=As HG52
          clear gb52 gl52 HG52
          (first|simp only[add_plain] at hx182_0|skip)
          obtain⟨hx52_0,hf52_0⟩:=Kd.R_celln 0 HO_181001.out (x30_2:Int) p52 q52
          replace p52:=eq_true p52
          replace q52:=eq_true q52
          have HP58:=Kd.R_putg HO_181001.out (x30_2:Int) (Go.bits .and .u64 (rd x181001_2 x30_2) (rd l1_1 x30_2))
          go_wp2_with (first|((with_reducible refine gate_store (t:=39) (p:=42) rfl ?_);refine store_event (t:=39) (p:=42) (v:= ?vo_w59) (w1:=(wr.setCell ⟨go52,(x30_2:Int).toNat,none⟩ (.int .u64 (Go.bits .and .u64 (rd x181001_2 x30_2) (rd l1_1 x30_2))))) ?hg ?ho ?hn ?hr ?_;(case ho=>rfl);(case hg=>rfl);(case hn=>rfl);(case hr=>first|(go_simp;done)|(go_simp;rfl));intro w59 hw;have hg:wr.grownBy w59 (some go52):=(by rw[hw];exact HP58.2);have hp_:Kd.R (Kd.int .u64) 39 w59 w.heap.size (fun _=>True) (.slice (some ⟨go52,0,none⟩) x181001_2.length co57) y183:=(by rw[hw,Ny183.out];exact HP58.1);clear HP58;have n0_:=As hp_;have n1_:=As (blk_grown (g:=gb171) (o:=.cells #[.int .i64 a0_0,.slice A0_1 l0_1.length c0_1] 29 (0,0)) Z.bk hg (Kd.R_ne HO_181001.out BK171.out (by decide)));have n2_:=As (blk_grown (g:=gb172) (o:=.cells #[.int .i64 a1_0,.slice (some ad181) l1_1.length c1_1] 29 (0,0)) Z.bk hg (Kd.R_ne HO_181001.out BK172.out (by decide)));have n3_:=As (blk_grown (g:=gb173) (o:=.cells #[.int .i64 0,.slice none 0 0] 29 (0,0)) Z.bk hg (Kd.R_ne HO_181001.out BK173.out (by decide)));have n4_:=As (blk_grown (g:=gb180) (o:=.cells #[.int .i64 t176,.slice (some ⟨go52,0,none⟩) x181001_2.length co57] 29 (0,0)) Z.bk hg (Kd.R_ne HO_181001.out BK180.out (by decide)));have n5_:=As ((by rw[hw];exact below_set (HB.out) GB52.out:Below w.heap.size w w59));replace HO_181001:=n0_;replace BK171:=n1_;replace BK172:=n2_;replace BK173:=n3_;replace BK180:=n4_;replace HB:=n5_;clear n0_ n1_ n2_ n3_ n4_ n5_ hg hw hp_))
          go_roundg k2
          case measure=>have:=HJ2.out;have:=HK2.out;omega
          case rel=>exact⟨(wrap64 (x30_2 + 1)),(y183),(.slice (some ⟨go52,0,none⟩) x181001_2.length co57),Z.r_,H',⟨by have:=HJ2.out;have:=HK2.out;omega⟩,⟨by (with_reducible repeat (first|apply Kd.R_alloc|apply Kd.R_drewN|apply Kd.R_drew));exact HO_181001.out⟩,⟨Z.bk⟩,⟨Z.bk⟩,⟨Z.bk⟩,⟨Z.bk⟩,⟨Z.bl⟩⟩
         ·rw[if_neg c51] at H
          exact absurd H (by simp)
        ·rw[if_neg c50] at H
         exact absurd H (by simp)
       ·rw[if_neg c49] at H
        exact absurd H (by simp)
      ·rw[if_neg c48] at H
       have c48b0:decide (x30_2 < (l1_1.length:Int))=false:=decide_eq_false c48
       clear c48
       simp only[Option.some.injEq,Prod.mk.injEq] at H
       obtain⟨rfl,rfl,rfl⟩:=H
       have hnb60:=NB180_171.out
       have hnc60:=NB171_180.out
       have hnb61:=NB180_172.out
       have hnc61:=NB172_180.out
       have hnb62:=NB180_173.out
       have hnc62:=NB173_180.out
       have hcz63_0:=Z.c0 BK180.out
       have hcz63_1:=Z.c1 BK180.out
       have hfz63_0:=blk_frozen BK180.out 0
       have hfz63_1:=blk_frozen BK180.out 1
       have hnb64:=NB173_171.out
       have hnc64:=NB171_173.out
       have hnb65:=NB173_172.out
       have hnc65:=NB172_173.out
       have hcz66_0:=Z.c0 BK173.out
       have hcz66_1:=Z.c1 BK173.out
       have hfz66_0:=blk_frozen BK173.out 0
       have hfz66_1:=blk_frozen BK173.out 1
       obtain⟨Ao67,co67,eo67⟩:=Kd.R_slice HO_181001.out
       subst eo67
       go_wp2
       refine bodyPost_ret (results_ct rfl _ _ gb173 29 #[.int .i64 t176,.slice Ao67 x181001_2.length co67] (0,0) _ rfl Z.bs Tryz.underlying29 rfl (by kernel_rfl)) rfl ?_
       exact⟨_,Z.e_,by (with_reducible repeat (first|apply Kd.R_alloc|apply Kd.R_drewN|apply Kd.R_drew));exact Kd.R_mono (Kd.R_far (p:=⟨gb173,1,none⟩) (Kd.R_far (p:=⟨gb173,0,none⟩) (Kd.R_types HO_181001.out BK173.out (by decide)) (fun _ hk=>hk.2) (.int .i64 t176)) (fun _ hk=>hk.2) (.slice Ao67 x181001_2.length co67)) (fun _ hk=>trivial),Z.bl⟩
end Go.Proofs.YtmmfchnbfnegnaaGreatDoor.GK
end
section
namespace Go.Proofs.YtmmfchnbfnegnaaGreatDoor.GK
open Go.RowKit Go.Proofs.YtmmfchnbfnegnaaGreatDoorW.PrintWords Go.Proofs.YtmmfchnbfnegnaaGreatDoorW.PrintLast Go.Proofs.YtmmfchnbfnegnaaGreatDoorW.PrintMore
attribute [local go_sem] max2_int min2_int max_two min_two max_three min_three max_four min_four
set_option linter.unusedVariables false
set_option linter.unusedSimpArgs false
def span_right.j0:Nat→Bool→Int→Int→Int→Int→List Int→Int→List Int→Bool→Option (Bool)
 |0,_,_,_,_,_,_,_,_,_=>none
 |k + 1,x24,x185000,x185001,x185002,x185003,x185004,x185005,x185006,x185007=>if x24=true then (some false) else ((span_slots.f x185002).bind fun t186=>((bits_Both.f k x185003 x185004 x185005 x185006).bind fun bt187=>(if bt187.2.2=0 then (if x185003=t186 then (if x185005=t186 then ((slices_Equal_uint64_uint64.f k bt187.2.1 x185006).bind fun t193=>(some t193)) else (some false)) else (some false)) else (some false))))
def span_right.f (k:Nat) (a0_0:Int) (a0_1:Int) (a0_2:Int) (a0_3:Int) (l0_4:List Int) (a0_5:Int) (l0_6:List Int) (a0_7:Bool):Option (Bool):=(span_shaped.f a0_1 a0_2).bind fun t185=>(if t185=true then (if a0_0 < 0 then (span_right.j0 k true a0_0 a0_1 a0_2 a0_3 l0_4 a0_5 l0_6 a0_7) else (span_right.j0 k (decide (a0_0 > (wrap64 (1024 - a0_1)))) a0_0 a0_1 a0_2 a0_3 l0_4 a0_5 l0_6 a0_7)) else (span_right.j0 k true a0_0 a0_1 a0_2 a0_3 l0_4 a0_5 l0_6 a0_7))
set_option maxHeartbeats 8000000 in
set_option maxRecDepth 100000 in
theorem span_right.calls (k:Nat) (a0_0:Int) (a0_1:Int) (a0_2:Int) (a0_3:Int) (A0_4:Option Addr) (c0_4:Nat) (l0_4:List Int) (a0_5:Int) (A0_6:Option Addr) (c0_6:Nat) (l0_6:List Int) (a0_7:Bool) (r:Bool) (w:World) (hr0_4:Kd.C (Kd.int .u64) w A0_4 l0_4.length l0_4) (hc0_4:l0_4.length≤c0_4) (hr0_6:Kd.C (Kd.int .u64) w A0_6 l0_6.length l0_6) (hc0_6:l0_6.length≤c0_6) (h:span_right.f k a0_0 a0_1 a0_2 a0_3 l0_4 a0_5 l0_6 a0_7=some r):
  Calls Tryz.prog 93 #[.agg #[.int .i64 a0_0,.int .i64 a0_1,.int .i64 a0_2,.int .i64 a0_3,.slice A0_4 l0_4.length c0_4,.int .i64 a0_5,.slice A0_6 l0_6.length c0_6,.bool a0_7]] w fun e w'=>e=.returned (.bool r)∧Below w.heap.size w w':=by
 have hu51:=Tryz.underlying51
 have hu29:=Tryz.underlying29
 have HR0_4:=As hr0_4
 have HC0_4:=As hc0_4
 clear hr0_4 hc0_4
 have HR0_6:=As hr0_6
 have HC0_6:=As hc0_6
 clear hr0_6 hc0_6
 have HB:=As (Below.refl w.heap.size w)
 have H:((span_shaped.f a0_1 a0_2).bind fun t185=>(if t185=true then (if a0_0 < 0 then (span_right.j0 k true a0_0 a0_1 a0_2 a0_3 l0_4 a0_5 l0_6 a0_7) else (span_right.j0 k (decide (a0_0 > (wrap64 (1024 - a0_1)))) a0_0 a0_1 a0_2 a0_3 l0_4 a0_5 l0_6 a0_7)) else (span_right.j0 k true a0_0 a0_1 a0_2 a0_3 l0_4 a0_5 l0_6 a0_7)))=some r:=h
 clear h
 have HC2:=As H
 clear H
 go_enter Tryz.func93,Tryz.ntmps93
 go_upto_region 1 with (first|((with_reducible refine gate_dst (N:=1) rfl ?_);refine Z.bx 1 #[.int .i64 a0_0,.int .i64 a0_1,.int .i64 a0_2,.int .i64 a0_3,.slice A0_4 l0_4.length c0_4,.int .i64 a0_5,.slice A0_6 l0_6.length c0_6,.bool a0_7] 51 fun gb184 hg w3 hbox hb=>?_;have BK184:=As hbox;have GW184:=Z.ge hg;have GE184:=Z.ge hg;replace HB:=Z.sb hb;clear hb hbox hg))
 (try simp only[Act.put,List.setIfInBounds_toArray,List.set_cons_zero,List.set_cons_succ])
 go_cut [24] (fun v24 wc=>∃(kq:Nat) (x24_1:Bool),v24=.bool x24_1∧Aside0 (span_right.j0 kq x24_1 a0_0 a0_1 a0_2 a0_3 l0_4 a0_5 l0_6 a0_7=some r)∧Aside0 (kq≤k)∧Aside0 (wc.heap[gb184]? =some (.cells #[.int .i64 a0_0,.int .i64 a0_1,.int .i64 a0_2,.int .i64 a0_3,(.slice A0_4 l0_4.length c0_4),.int .i64 a0_5,(.slice A0_6 l0_6.length c0_6),.bool a0_7] 51 (0,0)))∧Aside0 (Below w.heap.size w wc))
 case first=>
  have H:=HC2.out
  clear HC2
  replace H:=Option.bind_eq_some_iff.mp H
  obtain⟨t185,A40,H⟩:=H
  replace H:(if t185=true then (if a0_0 < 0 then (span_right.j0 k true a0_0 a0_1 a0_2 a0_3 l0_4 a0_5 l0_6 a0_7) else (span_right.j0 k (decide (a0_0 > (wrap64 (1024 - a0_1)))) a0_0 a0_1 a0_2 a0_3 l0_4 a0_5 l0_6 a0_7)) else (span_right.j0 k true a0_0 a0_1 a0_2 a0_3 l0_4 a0_5 l0_6 a0_7))=some r:=H
  have A4:=As A40
  clear A40
  by_cases c5:t185=true
  ·subst c5
   have H1:(if a0_0 < 0 then (span_right.j0 k true a0_0 a0_1 a0_2 a0_3 l0_4 a0_5 l0_6 a0_7) else (span_right.j0 k (decide (a0_0 > (wrap64 (1024 - a0_1)))) a0_0 a0_1 a0_2 a0_3 l0_4 a0_5 l0_6 a0_7))=some r:=by rw[if_pos rfl] at H;exact H
   clear H
   have H:=H1
   clear H1
   by_cases c6:a0_0 < 0
   ·rw[if_pos c6] at H
    have c6b0:decide (a0_0 < 0)=true:=decide_eq_true c6
    clear c6
    (first|rw[c6b0]|(simp only[i64_w,i32_w];rw[c6b0])|skip)
    have H':=As H
    clear H
    have hcz7_0:=Z.c0 BK184.out
    have hcz7_1:=Z.c1 BK184.out
    have hcz7_2:=Z.c2 BK184.out
    have hcz7_3:=Z.c3 BK184.out
    have hcz7_4:=Z.c4 BK184.out
    have hcz7_5:=Z.c5 BK184.out
    have hcz7_6:=Z.c6 BK184.out
    have hcz7_7:=Z.c7 BK184.out
    have hfz7_0:=blk_frozen BK184.out 0
    have hfz7_1:=blk_frozen BK184.out 1
    have hfz7_2:=blk_frozen BK184.out 2
    have hfz7_3:=blk_frozen BK184.out 3
    have hfz7_4:=blk_frozen BK184.out 4
    have hfz7_5:=blk_frozen BK184.out 5
    have hfz7_6:=blk_frozen BK184.out 6
    have hfz7_7:=blk_frozen BK184.out 7
    go_wp2_with (first|((with_reducible refine gate_callee (f:=95) rfl ?_);refine Z.gl 10 Tryz.func95 #[.int .i64 a0_1,.int .i64 a0_2] ?_;(with_reducible refine (span_shaped.calls a0_1 a0_2 true _ A4.out).mono ?_);rintro e w' ⟨rfl,⟨nd,rfl⟩⟩;refine⟨_,rfl,?_⟩))
    go_meet
    case rel=>exact⟨_,(true),Z.r_,H',⟨by first|omega|exact Nat.le_refl _⟩,⟨Z.bk⟩,⟨Z.bl⟩⟩
   ·rw[if_neg c6] at H
    have c6b0:decide (a0_0 < 0)=false:=decide_eq_false c6
    clear c6
    (first|rw[c6b0]|(simp only[i64_w,i32_w];rw[c6b0])|skip)
    have H':=As H
    clear H
    have hcz8_0:=Z.c0 BK184.out
    have hcz8_1:=Z.c1 BK184.out
    have hcz8_2:=Z.c2 BK184.out
    have hcz8_3:=Z.c3 BK184.out
    have hcz8_4:=Z.c4 BK184.out
    have hcz8_5:=Z.c5 BK184.out
    have hcz8_6:=Z.c6 BK184.out
    have hcz8_7:=Z.c7 BK184.out
    have hfz8_0:=blk_frozen BK184.out 0
    have hfz8_1:=blk_frozen BK184.out 1
    have hfz8_2:=blk_frozen BK184.out 2
    have hfz8_3:=blk_frozen BK184.out 3
    have hfz8_4:=blk_frozen BK184.out 4
    have hfz8_5:=blk_frozen BK184.out 5
    have hfz8_6:=blk_frozen BK184.out 6
    have hfz8_7:=blk_frozen BK184.out 7
    go_wp2_with (first|((with_reducible refine gate_callee (f:=95) rfl ?_);refine Z.gl 10 Tryz.func95 #[.int .i64 a0_1,.int .i64 a0_2] ?_;(with_reducible refine (span_shaped.calls a0_1 a0_2 true _ A4.out).mono ?_);rintro e w' ⟨rfl,⟨nd,rfl⟩⟩;refine⟨_,rfl,?_⟩))
    go_meet
    case rel=>exact⟨_,(decide (a0_0 > (wrap64 (1024 - a0_1)))),Z.r_,H',⟨by first|omega|exact Nat.le_refl _⟩,⟨Z.bk⟩,⟨Z.bl⟩⟩
  ·replace c5:=Bool.eq_false_iff.mpr c5
   subst c5
   have H1:(span_right.j0 k true a0_0 a0_1 a0_2 a0_3 l0_4 a0_5 l0_6 a0_7)=some r:=by rw[if_neg (show ¬(false=true) by decide)] at H;exact H
   clear H
   have H:=H1
   clear H1
   have H':=As H
   clear H
   have hcz9_0:=Z.c0 BK184.out
   have hcz9_1:=Z.c1 BK184.out
   have hcz9_2:=Z.c2 BK184.out
   have hcz9_3:=Z.c3 BK184.out
   have hcz9_4:=Z.c4 BK184.out
   have hcz9_5:=Z.c5 BK184.out
   have hcz9_6:=Z.c6 BK184.out
   have hcz9_7:=Z.c7 BK184.out
   have hfz9_0:=blk_frozen BK184.out 0
   have hfz9_1:=blk_frozen BK184.out 1
   have hfz9_2:=blk_frozen BK184.out 2
   have hfz9_3:=blk_frozen BK184.out 3
   have hfz9_4:=blk_frozen BK184.out 4
   have hfz9_5:=blk_frozen BK184.out 5
   have hfz9_6:=blk_frozen BK184.out 6
   have hfz9_7:=blk_frozen BK184.out 7
   go_wp2_with (first|((with_reducible refine gate_callee (f:=95) rfl ?_);refine Z.gl 10 Tryz.func95 #[.int .i64 a0_1,.int .i64 a0_2] ?_;(with_reducible refine (span_shaped.calls a0_1 a0_2 false _ A4.out).mono ?_);rintro e w' ⟨rfl,⟨nd,rfl⟩⟩;refine⟨_,rfl,?_⟩))
   go_meet
   case rel=>exact⟨_,(true),Z.r_,H',⟨by first|omega|exact Nat.le_refl _⟩,⟨Z.bk⟩,⟨Z.bl⟩⟩
 case rest=>
  clear HC2
  try clear p2
  try clear c5
  try clear c6
  try clear c6b0
  try clear p6
  try clear c9
  try clear hcz7_0
  try clear hcz7_1
  try clear hcz7_2
  try clear hcz7_3
  try clear hcz7_4
  try clear hcz7_5
  try clear hcz7_6
  try clear hcz7_7
  try clear hcz8_0
  try clear hcz8_1
  try clear hcz8_2
  try clear hcz8_3
  try clear hcz8_4
  try clear hcz8_5
  try clear hcz8_6
  try clear hcz8_7
  try clear hcz9_0
  try clear hcz9_1
  try clear hcz9_2
  try clear hcz9_3
  try clear hcz9_4
  try clear hcz9_5
  try clear hcz9_6
  try clear hcz9_7
  try clear hfz7_0
  try clear hfz7_1
  try clear hfz7_2
  try clear hfz7_3
  try clear hfz7_4
  try clear hfz7_5
  try clear hfz7_6
  try clear hfz7_7
  try clear hfz8_0
  try clear hfz8_1
  try clear hfz8_2
  try clear hfz8_3
  try clear hfz8_4
  try clear hfz8_5
  try clear hfz8_6
  try clear hfz8_7
  try clear hfz9_0
  try clear hfz9_1
  try clear hfz9_2
  try clear hfz9_3
  try clear hfz9_4
  try clear hfz9_5
  try clear hfz9_6
  try clear hfz9_7
  obtain⟨kq,x24_1,rfl,HA,HJ1,BK184,HB⟩:=hcut
  cases kq with
  |zero=>exact absurd HA.out (by simp[span_right.j0])
  |succ kj1=>
   have H:=HA.out
   clear HA
   simp only[span_right.j0] at H
   by_cases c10:x24_1=true
   ·subst c10
    have H1:(some false)=some r:=by rw[if_pos rfl] at H;exact H
    clear H
    have H:=H1
    clear H1
    obtain rfl:=Option.some.inj H
    go_wp2
    go_ret
    exact⟨Z.e_,Z.bl⟩
   ·replace c10:=Bool.eq_false_iff.mpr c10
    subst c10
    have H1:((span_slots.f a0_2).bind fun t186=>((bits_Both.f kj1 a0_3 l0_4 a0_5 l0_6).bind fun bt187=>(if bt187.2.2=0 then (if a0_3=t186 then (if a0_5=t186 then ((slices_Equal_uint64_uint64.f kj1 bt187.2.1 l0_6).bind fun t193=>(some t193)) else (some false)) else (some false)) else (some false))))=some r:=by rw[if_neg (show ¬(false=true) by decide)] at H;exact H
    clear H
    have H:=H1
    clear H1
    replace H:=Option.bind_eq_some_iff.mp H
    obtain⟨t186,A110,H⟩:=H
    replace H:((bits_Both.f kj1 a0_3 l0_4 a0_5 l0_6).bind fun bt187=>(if bt187.2.2=0 then (if a0_3=t186 then (if a0_5=t186 then ((slices_Equal_uint64_uint64.f kj1 bt187.2.1 l0_6).bind fun t193=>(some t193)) else (some false)) else (some false)) else (some false)))=some r:=H
    have A11:=As A110
    clear A110
    replace H:=Option.bind_eq_some_iff.mp H
    obtain⟨⟨t187,t188,t191⟩,A120,H⟩:=H
    replace H:(if t191=0 then (if a0_3=t186 then (if a0_5=t186 then ((slices_Equal_uint64_uint64.f kj1 t188 l0_6).bind fun t193=>(some t193)) else (some false)) else (some false)) else (some false))=some r:=H
    have A12:=As A120
    clear A120
    by_cases c13:t191=0
    ·rw[if_pos c13] at H
     have c13b0:(t191 == 0)=true:=beq_iff_eq.mpr c13
     have c13b1:(t191 != 0)=false:=bne_eq_false_iff_eq.mpr c13
     clear c13
     by_cases c14:a0_3=t186
     ·rw[if_pos c14] at H
      have c14b0:(a0_3 == t186)=true:=beq_iff_eq.mpr c14
      have c14b1:(a0_3 != t186)=false:=bne_eq_false_iff_eq.mpr c14
      clear c14
      by_cases c15:a0_5=t186
      ·rw[if_pos c15] at H
       have c15b0:(a0_5 == t186)=true:=beq_iff_eq.mpr c15
       have c15b1:(a0_5 != t186)=false:=bne_eq_false_iff_eq.mpr c15
       clear c15
       replace H:=Option.bind_eq_some_iff.mp H
       obtain⟨t193,A160,H⟩:=H
       replace H:(some t193)=some r:=H
       have A16:=As A160
       clear A160
       obtain rfl:=Option.some.inj H
       have hcz17_0:=Z.c0 BK184.out
       have hcz17_1:=Z.c1 BK184.out
       have hcz17_2:=Z.c2 BK184.out
       have hcz17_3:=Z.c3 BK184.out
       have hcz17_4:=Z.c4 BK184.out
       have hcz17_5:=Z.c5 BK184.out
       have hcz17_6:=Z.c6 BK184.out
       have hcz17_7:=Z.c7 BK184.out
       have hfz17_0:=blk_frozen BK184.out 0
       have hfz17_1:=blk_frozen BK184.out 1
       have hfz17_2:=blk_frozen BK184.out 2
       have hfz17_3:=blk_frozen BK184.out 3
       have hfz17_4:=blk_frozen BK184.out 4
       have hfz17_5:=blk_frozen BK184.out 5
       have hfz17_6:=blk_frozen BK184.out 6
       have hfz17_7:=blk_frozen BK184.out 7
       go_wp2_with (first|((with_reducible refine gate_callee (f:=96) rfl ?_);refine Z.gl 27 Tryz.func96 #[.int .i64 a0_2] ?_;(with_reducible refine (span_slots.calls a0_2 t186 _ A11.out).mono ?_);rintro e w' ⟨rfl,⟨nd,rfl⟩⟩;refine⟨_,rfl,?_⟩)|((with_reducible refine gate_callee (f:=117) rfl ?_);refine Z.gl 33 Tryz.func117 #[.agg #[.int .i64 a0_3,.slice A0_4 l0_4.length c0_4],.agg #[.int .i64 a0_5,.slice A0_6 l0_6.length c0_6]] ?_;(with_reducible refine (bits_Both.calls kj1 a0_3 _ _ l0_4 a0_5 _ _ l0_6 t187 t188 t191 _ ?side1 ?side2 ?side3 ?side4 A12.out).mono ?_);(case side1=>repeat (first|exact (Kd.C_below HR0_4.out HB.out)|(with_reducible refine Kd.C_alloc ?_ _)|(with_reducible refine Kd.C_drewN ?_ _)|(with_reducible refine Kd.C_drew ?_)));(case side2=>exact HC0_4.out);(case side3=>repeat (first|exact (Kd.C_below HR0_6.out HB.out)|(with_reducible refine Kd.C_alloc ?_ _)|(with_reducible refine Kd.C_drewN ?_ _)|(with_reducible refine Kd.C_drew ?_)));(case side4=>exact HC0_6.out);rintro e w18 ⟨v189,rfl,ho0,hb⟩;refine⟨_,rfl,?_⟩;have HO190:=As (Kd.R_lower ho0 (below_size Z.bl));replace HB:=Z.sb hb;replace BK184:=Z.kb BK184 hb;(try clear hb);(try clear hb2);(try clear hk);(try clear hi);(try clear ho0))|((with_reducible refine gate_dst (N:=4) rfl ?_);refine Z.bx 4 #[.int .i64 0,.slice none 0 0] 29 fun gb192 hg w19 hbox hb=>?_;have BK192:=As hbox;have GW192:=Z.ge hg;have GE192:=Z.ge hg;have NB184_192:=Z.nl BK184 hg;have NB192_184:=Z.ng BK184 hg;replace HO190:=As (Kd.R_below (by (with_reducible repeat (first|apply Kd.R_alloc|apply Kd.R_drewN|apply Kd.R_drew));exact HO190.out) hb);replace HB:=Z.sb hb;replace BK184:=Z.kb BK184 hb;clear hb hbox hg;have hnb20:=NB192_184.out;have hnc20:=NB184_192.out;have hcz21_0:=Z.c0 BK192.out;have hcz21_1:=Z.c1 BK192.out;have hfz21_0:=blk_frozen BK192.out 0;have hfz21_1:=blk_frozen BK192.out 1;obtain⟨Ao22,co22,eo22⟩:=Kd.R_slice HO190.out;subst eo22;have hcz23_0:=Z.c0 BK184.out;have hcz23_1:=Z.c1 BK184.out;have hcz23_2:=Z.c2 BK184.out;have hcz23_3:=Z.c3 BK184.out;have hcz23_4:=Z.c4 BK184.out;have hcz23_5:=Z.c5 BK184.out;have hcz23_6:=Z.c6 BK184.out;have hcz23_7:=Z.c7 BK184.out;have hfz23_0:=blk_frozen BK184.out 0;have hfz23_1:=blk_frozen BK184.out 1;have hfz23_2:=blk_frozen BK184.out 2;have hfz23_3:=blk_frozen BK184.out 3;have hfz23_4:=blk_frozen BK184.out 4;have hfz23_5:=blk_frozen BK184.out 5;have hfz23_6:=blk_frozen BK184.out 6;have hfz23_7:=blk_frozen BK184.out 7)|(go_at_call 109;(with_reducible refine (slices_Equal_uint64_uint64.calls kj1 _ _ t188 _ _ l0_6 t193 _ ?side1 ?side2 ?side3 ?side4 A16.out).mono ?_);(case side1=>refine (Kd.R_reads' (e:=39) (base:=w.heap.size) (ok:=fun k_=>True) (n:=t188.length) (c:=co22) ?_).2.2;exact (by (with_reducible repeat (first|apply Kd.R_alloc|apply Kd.R_drewN|apply Kd.R_drew));exact (Kd.R_mono (Kd.R_far (p:=⟨gb192,1,none⟩) (Kd.R_far (p:=⟨gb192,0,none⟩) (Kd.R_types HO190.out BK192.out (by decide)) (fun _ hk=>hk.2) (.int .i64 t187)) (fun _ hk=>hk.2) (.slice Ao22 t188.length co22)) (fun _ h_=>h_.1))));(case side2=>exact (Kd.R_reads' HO190.out).2.1);(case side3=>exact Kd.C_below HR0_6.out Z.bl);(case side4=>exact HC0_6.out);rintro e w' ⟨rfl,⟨nd,rfl⟩⟩))
       go_ret
       exact⟨Z.e_,Z.bl⟩
      ·rw[if_neg c15] at H
       have c15b0:(a0_5 == t186)=false:=beq_eq_false_iff_ne.mpr c15
       have c15b1:(a0_5 != t186)=true:=bne_iff_ne.mpr c15
       obtain rfl:=Option.some.inj H
       have hcz24_0:=Z.c0 BK184.out
       have hcz24_1:=Z.c1 BK184.out
       have hcz24_2:=Z.c2 BK184.out
       have hcz24_3:=Z.c3 BK184.out
       have hcz24_4:=Z.c4 BK184.out
       have hcz24_5:=Z.c5 BK184.out
       have hcz24_6:=Z.c6 BK184.out
       have hcz24_7:=Z.c7 BK184.out
       have hfz24_0:=blk_frozen BK184.out 0
       have hfz24_1:=blk_frozen BK184.out 1
       have hfz24_2:=blk_frozen BK184.out 2
       have hfz24_3:=blk_frozen BK184.out 3
       have hfz24_4:=blk_frozen BK184.out 4
       have hfz24_5:=blk_frozen BK184.out 5
       have hfz24_6:=blk_frozen BK184.out 6
       have hfz24_7:=blk_frozen BK184.out 7
       go_wp2_with (first|((with_reducible refine gate_callee (f:=96) rfl ?_);refine Z.gl 27 Tryz.func96 #[.int .i64 a0_2] ?_;(with_reducible refine (span_slots.calls a0_2 t186 _ A11.out).mono ?_);rintro e w' ⟨rfl,⟨nd,rfl⟩⟩;refine⟨_,rfl,?_⟩)|((with_reducible refine gate_callee (f:=117) rfl ?_);refine Z.gl 33 Tryz.func117 #[.agg #[.int .i64 a0_3,.slice A0_4 l0_4.length c0_4],.agg #[.int .i64 a0_5,.slice A0_6 l0_6.length c0_6]] ?_;(with_reducible refine (bits_Both.calls kj1 a0_3 _ _ l0_4 a0_5 _ _ l0_6 t187 t188 t191 _ ?side1 ?side2 ?side3 ?side4 A12.out).mono ?_);(case side1=>repeat (first|exact (Kd.C_below HR0_4.out HB.out)|(with_reducible refine Kd.C_alloc ?_ _)|(with_reducible refine Kd.C_drewN ?_ _)|(with_reducible refine Kd.C_drew ?_)));(case side2=>exact HC0_4.out);(case side3=>repeat (first|exact (Kd.C_below HR0_6.out HB.out)|(with_reducible refine Kd.C_alloc ?_ _)|(with_reducible refine Kd.C_drewN ?_ _)|(with_reducible refine Kd.C_drew ?_)));(case side4=>exact HC0_6.out);rintro e w25 ⟨v189,rfl,ho0,hb⟩;refine⟨_,rfl,?_⟩;have HO190:=As (Kd.R_lower ho0 (below_size Z.bl));replace HB:=Z.sb hb;replace BK184:=Z.kb BK184 hb;(try clear hb);(try clear hb2);(try clear hk);(try clear hi);(try clear ho0))|((with_reducible refine gate_dst (N:=4) rfl ?_);refine Z.bx 4 #[.int .i64 0,.slice none 0 0] 29 fun gb192 hg w26 hbox hb=>?_;have BK192:=As hbox;have GW192:=Z.ge hg;have GE192:=Z.ge hg;have NB184_192:=Z.nl BK184 hg;have NB192_184:=Z.ng BK184 hg;replace HO190:=As (Kd.R_below (by (with_reducible repeat (first|apply Kd.R_alloc|apply Kd.R_drewN|apply Kd.R_drew));exact HO190.out) hb);replace HB:=Z.sb hb;replace BK184:=Z.kb BK184 hb;clear hb hbox hg;have hnb27:=NB192_184.out;have hnc27:=NB184_192.out;have hcz28_0:=Z.c0 BK192.out;have hcz28_1:=Z.c1 BK192.out;have hfz28_0:=blk_frozen BK192.out 0;have hfz28_1:=blk_frozen BK192.out 1;obtain⟨Ao29,co29,eo29⟩:=Kd.R_slice HO190.out;subst eo29;have hcz30_0:=Z.c0 BK184.out;have hcz30_1:=Z.c1 BK184.out;have hcz30_2:=Z.c2 BK184.out;have hcz30_3:=Z.c3 BK184.out;have hcz30_4:=Z.c4 BK184.out;have hcz30_5:=Z.c5 BK184.out;have hcz30_6:=Z.c6 BK184.out;have hcz30_7:=Z.c7 BK184.out;have hfz30_0:=blk_frozen BK184.out 0;have hfz30_1:=blk_frozen BK184.out 1;have hfz30_2:=blk_frozen BK184.out 2;have hfz30_3:=blk_frozen BK184.out 3;have hfz30_4:=blk_frozen BK184.out 4;have hfz30_5:=blk_frozen BK184.out 5;have hfz30_6:=blk_frozen BK184.out 6;have hfz30_7:=blk_frozen BK184.out 7))
       go_ret
       exact⟨Z.e_,Z.bl⟩
     ·rw[if_neg c14] at H
      have c14b0:(a0_3 == t186)=false:=beq_eq_false_iff_ne.mpr c14
      have c14b1:(a0_3 != t186)=true:=bne_iff_ne.mpr c14
      obtain rfl:=Option.some.inj H
      have hcz31_0:=Z.c0 BK184.out
      have hcz31_1:=Z.c1 BK184.out
      have hcz31_2:=Z.c2 BK184.out
      have hcz31_3:=Z.c3 BK184.out
      have hcz31_4:=Z.c4 BK184.out
      have hcz31_5:=Z.c5 BK184.out
      have hcz31_6:=Z.c6 BK184.out
      have hcz31_7:=Z.c7 BK184.out
      have hfz31_0:=blk_frozen BK184.out 0
      have hfz31_1:=blk_frozen BK184.out 1
      have hfz31_2:=blk_frozen BK184.out 2
      have hfz31_3:=blk_frozen BK184.out 3
      have hfz31_4:=blk_frozen BK184.out 4
      have hfz31_5:=blk_frozen BK184.out 5
      have hfz31_6:=blk_frozen BK184.out 6
      have hfz31_7:=blk_frozen BK184.out 7
      go_wp2_with (first|((with_reducible refine gate_callee (f:=96) rfl ?_);refine Z.gl 27 Tryz.func96 #[.int .i64 a0_2] ?_;(with_reducible refine (span_slots.calls a0_2 t186 _ A11.out).mono ?_);rintro e w' ⟨rfl,⟨nd,rfl⟩⟩;refine⟨_,rfl,?_⟩)|((with_reducible refine gate_callee (f:=117) rfl ?_);refine Z.gl 33 Tryz.func117 #[.agg #[.int .i64 a0_3,.slice A0_4 l0_4.length c0_4],.agg #[.int .i64 a0_5,.slice A0_6 l0_6.length c0_6]] ?_;(with_reducible refine (bits_Both.calls kj1 a0_3 _ _ l0_4 a0_5 _ _ l0_6 t187 t188 t191 _ ?side1 ?side2 ?side3 ?side4 A12.out).mono ?_);(case side1=>repeat (first|exact (Kd.C_below HR0_4.out HB.out)|(with_reducible refine Kd.C_alloc ?_ _)|(with_reducible refine Kd.C_drewN ?_ _)|(with_reducible refine Kd.C_drew ?_)));(case side2=>exact HC0_4.out);(case side3=>repeat (first|exact (Kd.C_below HR0_6.out HB.out)|(with_reducible refine Kd.C_alloc ?_ _)|(with_reducible refine Kd.C_drewN ?_ _)|(with_reducible refine Kd.C_drew ?_)));(case side4=>exact HC0_6.out);rintro e w32 ⟨v189,rfl,ho0,hb⟩;refine⟨_,rfl,?_⟩;have HO190:=As (Kd.R_lower ho0 (below_size Z.bl));replace HB:=Z.sb hb;replace BK184:=Z.kb BK184 hb;(try clear hb);(try clear hb2);(try clear hk);(try clear hi);(try clear ho0))|((with_reducible refine gate_dst (N:=4) rfl ?_);refine Z.bx 4 #[.int .i64 0,.slice none 0 0] 29 fun gb192 hg w33 hbox hb=>?_;have BK192:=As hbox;have GW192:=Z.ge hg;have GE192:=Z.ge hg;have NB184_192:=Z.nl BK184 hg;have NB192_184:=Z.ng BK184 hg;replace HO190:=As (Kd.R_below (by (with_reducible repeat (first|apply Kd.R_alloc|apply Kd.R_drewN|apply Kd.R_drew));exact HO190.out) hb);replace HB:=Z.sb hb;replace BK184:=Z.kb BK184 hb;clear hb hbox hg;have hnb34:=NB192_184.out;have hnc34:=NB184_192.out;have hcz35_0:=Z.c0 BK192.out;have hcz35_1:=Z.c1 BK192.out;have hfz35_0:=blk_frozen BK192.out 0;have hfz35_1:=blk_frozen BK192.out 1;obtain⟨Ao36,co36,eo36⟩:=Kd.R_slice HO190.out;subst eo36;have hcz37_0:=Z.c0 BK184.out;have hcz37_1:=Z.c1 BK184.out;have hcz37_2:=Z.c2 BK184.out;have hcz37_3:=Z.c3 BK184.out;have hcz37_4:=Z.c4 BK184.out;have hcz37_5:=Z.c5 BK184.out;have hcz37_6:=Z.c6 BK184.out;have hcz37_7:=Z.c7 BK184.out;have hfz37_0:=blk_frozen BK184.out 0;have hfz37_1:=blk_frozen BK184.out 1;have hfz37_2:=blk_frozen BK184.out 2;have hfz37_3:=blk_frozen BK184.out 3;have hfz37_4:=blk_frozen BK184.out 4;have hfz37_5:=blk_frozen BK184.out 5;have hfz37_6:=blk_frozen BK184.out 6;have hfz37_7:=blk_frozen BK184.out 7))
      go_ret
      exact⟨Z.e_,Z.bl⟩
    ·rw[if_neg c13] at H
     have c13b0:(t191 == 0)=false:=beq_eq_false_iff_ne.mpr c13
     have c13b1:(t191 != 0)=true:=bne_iff_ne.mpr c13
     obtain rfl:=Option.some.inj H
     have hcz38_0:=Z.c0 BK184.out
     have hcz38_1:=Z.c1 BK184.out
     have hcz38_2:=Z.c2 BK184.out
     have hcz38_3:=Z.c3 BK184.out
     have hcz38_4:=Z.c4 BK184.out
     have hcz38_5:=Z.c5 BK184.out
     have hcz38_6:=Z.c6 BK184.out
     have hcz38_7:=Z.c7 BK184.out
     have hfz38_0:=blk_frozen BK184.out 0
     have hfz38_1:=blk_frozen BK184.out 1
     have hfz38_2:=blk_frozen BK184.out 2
     have hfz38_3:=blk_frozen BK184.out 3
     have hfz38_4:=blk_frozen BK184.out 4
     have hfz38_5:=blk_frozen BK184.out 5
     have hfz38_6:=blk_frozen BK184.out 6
     have hfz38_7:=blk_frozen BK184.out 7
     go_wp2_with (first|((with_reducible refine gate_callee (f:=96) rfl ?_);refine Z.gl 27 Tryz.func96 #[.int .i64 a0_2] ?_;(with_reducible refine (span_slots.calls a0_2 t186 _ A11.out).mono ?_);rintro e w' ⟨rfl,⟨nd,rfl⟩⟩;refine⟨_,rfl,?_⟩)|((with_reducible refine gate_callee (f:=117) rfl ?_);refine Z.gl 33 Tryz.func117 #[.agg #[.int .i64 a0_3,.slice A0_4 l0_4.length c0_4],.agg #[.int .i64 a0_5,.slice A0_6 l0_6.length c0_6]] ?_;(with_reducible refine (bits_Both.calls kj1 a0_3 _ _ l0_4 a0_5 _ _ l0_6 t187 t188 t191 _ ?side1 ?side2 ?side3 ?side4 A12.out).mono ?_);(case side1=>repeat (first|exact (Kd.C_below HR0_4.out HB.out)|(with_reducible refine Kd.C_alloc ?_ _)|(with_reducible refine Kd.C_drewN ?_ _)|(with_reducible refine Kd.C_drew ?_)));(case side2=>exact HC0_4.out);(case side3=>repeat (first|exact (Kd.C_below HR0_6.out HB.out)|(with_reducible refine Kd.C_alloc ?_ _)|(with_reducible refine Kd.C_drewN ?_ _)|(with_reducible refine Kd.C_drew ?_)));(case side4=>exact HC0_6.out);rintro e w39 ⟨v189,rfl,ho0,hb⟩;refine⟨_,rfl,?_⟩;have HO190:=As (Kd.R_lower ho0 (below_size Z.bl));replace HB:=Z.sb hb;replace BK184:=Z.kb BK184 hb;(try clear hb);(try clear hb2);(try clear hk);(try clear hi);(try clear ho0))|((with_reducible refine gate_dst (N:=4) rfl ?_);refine Z.bx 4 #[.int .i64 0,.slice none 0 0] 29 fun gb192 hg w40 hbox hb=>?_;have BK192:=As hbox;have GW192:=Z.ge hg;have GE192:=Z.ge hg;have NB184_192:=Z.nl BK184 hg;have NB192_184:=Z.ng BK184 hg;replace HO190:=As (Kd.R_below (by (with_reducible repeat (first|apply Kd.R_alloc|apply Kd.R_drewN|apply Kd.R_drew));exact HO190.out) hb);replace HB:=Z.sb hb;replace BK184:=Z.kb BK184 hb;clear hb hbox hg;have hnb41:=NB192_184.out;have hnc41:=NB184_192.out;have hcz42_0:=Z.c0 BK192.out;have hcz42_1:=Z.c1 BK192.out;have hfz42_0:=blk_frozen BK192.out 0;have hfz42_1:=blk_frozen BK192.out 1;obtain⟨Ao43,co43,eo43⟩:=Kd.R_slice HO190.out;subst eo43))
     go_ret
     exact⟨Z.e_,Z.bl⟩
def span_end.f (a0_0:Int) (a0_1:Int) (a0_2:Int) (a0_3:Int) (l0_4:List Int) (a0_5:Int) (l0_6:List Int) (a0_7:Bool):Option (Int):=some (wrap64 (a0_0 + a0_1))
set_option maxHeartbeats 8000000 in
set_option maxRecDepth 100000 in
theorem span_end.calls (a0_0:Int) (a0_1:Int) (a0_2:Int) (a0_3:Int) (A0_4:Option Addr) (c0_4:Nat) (l0_4:List Int) (a0_5:Int) (A0_6:Option Addr) (c0_6:Nat) (l0_6:List Int) (a0_7:Bool) (r:Int) (w:World) (hr0_4:Kd.C (Kd.int .u64) w A0_4 l0_4.length l0_4) (hc0_4:l0_4.length≤c0_4) (hr0_6:Kd.C (Kd.int .u64) w A0_6 l0_6.length l0_6) (hc0_6:l0_6.length≤c0_6) (h:span_end.f a0_0 a0_1 a0_2 a0_3 l0_4 a0_5 l0_6 a0_7=some r):
  Calls Tryz.prog 94 #[.agg #[.int .i64 a0_0,.int .i64 a0_1,.int .i64 a0_2,.int .i64 a0_3,.slice A0_4 l0_4.length c0_4,.int .i64 a0_5,.slice A0_6 l0_6.length c0_6,.bool a0_7]] w fun e w'=>e=.returned (.int .i64 r)∧Below w.heap.size w w':=by
 have hu51:=Tryz.underlying51
 have HR0_4:=As hr0_4
 have HC0_4:=As hc0_4
 clear hr0_4 hc0_4
 have HR0_6:=As hr0_6
 have HC0_6:=As hc0_6
 clear hr0_6 hc0_6
 have HB:=As (Below.refl w.heap.size w)
 have H:(some (wrap64 (a0_0 + a0_1)))=some r:=h
 clear h
 obtain rfl:=Option.some.inj H
 go_enter Tryz.func94,Tryz.ntmps94
 go_wp2_with (first|((with_reducible refine gate_dst (N:=1) rfl ?_);refine Z.bx 1 #[.int .i64 a0_0,.int .i64 a0_1,.int .i64 a0_2,.int .i64 a0_3,.slice A0_4 l0_4.length c0_4,.int .i64 a0_5,.slice A0_6 l0_6.length c0_6,.bool a0_7] 51 fun gb194 hg w2 hbox hb=>?_;have BK194:=As hbox;have GW194:=Z.ge hg;have GE194:=Z.ge hg;replace HB:=Z.sb hb;clear hb hbox hg;have hcz3_0:=Z.c0 BK194.out;have hcz3_1:=Z.c1 BK194.out;have hcz3_2:=Z.c2 BK194.out;have hcz3_3:=Z.c3 BK194.out;have hcz3_4:=Z.c4 BK194.out;have hcz3_5:=Z.c5 BK194.out;have hcz3_6:=Z.c6 BK194.out;have hcz3_7:=Z.c7 BK194.out;have hfz3_0:=blk_frozen BK194.out 0;have hfz3_1:=blk_frozen BK194.out 1;have hfz3_2:=blk_frozen BK194.out 2;have hfz3_3:=blk_frozen BK194.out 3;have hfz3_4:=blk_frozen BK194.out 4;have hfz3_5:=blk_frozen BK194.out 5;have hfz3_6:=blk_frozen BK194.out 6;have hfz3_7:=blk_frozen BK194.out 7))
 go_ret
 exact⟨Z.e_,Z.bl⟩
end Go.Proofs.YtmmfchnbfnegnaaGreatDoor.GK
end
section
namespace Go.Proofs.YtmmfchnbfnegnaaGreatDoor.GK
open Go.RowKit Go.Proofs.YtmmfchnbfnegnaaGreatDoorW.PrintWords Go.Proofs.YtmmfchnbfnegnaaGreatDoorW.PrintLast Go.Proofs.YtmmfchnbfnegnaaGreatDoorW.PrintMore
attribute [local go_sem] max2_int min2_int max_two min_two max_three min_three max_four min_four
set_option linter.unusedVariables false
set_option linter.unusedSimpArgs false
def span_One.f (a0_0:Int) (a0_1:Int) (a0_2:Int) (a0_3:Int) (l0_4:List Int) (a0_5:Int) (l0_6:List Int) (a0_7:Bool):Option (Int×Int×Int×Int×List Int×Int×List Int×Bool):=(bits_Own.f a0_3 l0_4).bind fun bt268=>((bits_Own.f a0_5 l0_6).bind fun bt272=>(some (a0_0,a0_1,a0_2,bt268.1,bt268.2,bt272.1,bt272.2,a0_7)))
def span_One.T1:Bool×List (List Nat×List Nat):=(true,[([],[]),([0],[0]),([1],[1]),([],[]),([3],[3]),([4,2],[4]),([0,1,2,3,4],[]),([6,2,5,0,1,2,3,4],[2,6]),([0,1,2,3,4,5,6,7],[]),([8,5,7,0,1,2,3,4,5,6,7],[5,8])])
def span_One.B1:List Nat:=[0,1,3,0,8,31,31,127,255,511]
theorem span_One.tab1:rtab .any (opsOf Tryz.f101 1)=span_One.T1:=by kernel_rfl
theorem span_One.bits1:waitsOk span_One.T1.2 span_One.B1=true:=by kernel_rfl
set_option maxHeartbeats 8000000 in
set_option maxRecDepth 100000 in
theorem span_One.calls (a0_0:Int) (a0_1:Int) (a0_2:Int) (a0_3:Int) (A0_4:Option Addr) (c0_4:Nat) (l0_4:List Int) (a0_5:Int) (A0_6:Option Addr) (c0_6:Nat) (l0_6:List Int) (a0_7:Bool) (r1:Int) (r2:Int) (r3:Int) (r4:Int) (r5:List Int) (r6:Int) (r7:List Int) (r8:Bool) (w:World) (hr0_4:Kd.C (Kd.int .u64) w A0_4 l0_4.length l0_4) (hc0_4:l0_4.length≤c0_4) (hr0_6:Kd.C (Kd.int .u64) w A0_6 l0_6.length l0_6) (hc0_6:l0_6.length≤c0_6) (h:span_One.f a0_0 a0_1 a0_2 a0_3 l0_4 a0_5 l0_6 a0_7=some (r1,r2,r3,r4,r5,r6,r7,r8)):
  Calls Tryz.prog 101 #[.agg #[.int .i64 a0_0,.int .i64 a0_1,.int .i64 a0_2,.int .i64 a0_3,.slice A0_4 l0_4.length c0_4,.int .i64 a0_5,.slice A0_6 l0_6.length c0_6,.bool a0_7]] w fun e w'=>∃v4_ v6_:Value,e=.returned (.agg #[.int .i64 r1,.int .i64 r2,.int .i64 r3,.int .i64 r4,v4_,.int .i64 r6,v6_,.bool r8])∧Kd.R (Kd.int .u64) 39 w' w.heap.size (fun k_=>some k_≠(v6_:Value).ownBlock) v4_ r5∧Kd.R (Kd.int .u64) 39 w' w.heap.size (fun k_=>some k_≠(v4_:Value).ownBlock) v6_ r7∧Below w.heap.size w w':=by
 have hu51:=Tryz.underlying51
 have hu29:=Tryz.underlying29
 have HR0_4:=As hr0_4
 have HC0_4:=As hc0_4
 clear hr0_4 hc0_4
 have HR0_6:=As hr0_6
 have HC0_6:=As hc0_6
 clear hr0_6 hc0_6
 have HB:=As (Below.refl w.heap.size w)
 have H:((bits_Own.f a0_3 l0_4).bind fun bt268=>((bits_Own.f a0_5 l0_6).bind fun bt272=>(some (a0_0,a0_1,a0_2,bt268.1,bt268.2,bt272.1,bt272.2,a0_7))))=some (r1,r2,r3,r4,r5,r6,r7,r8):=h
 clear h
 replace H:=Option.bind_eq_some_iff.mp H
 obtain⟨⟨t268,t269⟩,A20,H⟩:=H
 replace H:((bits_Own.f a0_5 l0_6).bind fun bt272=>(some (a0_0,a0_1,a0_2,t268,t269,bt272.1,bt272.2,a0_7)))=some (r1,r2,r3,r4,r5,r6,r7,r8):=H
 have A2:=As A20
 clear A20
 replace H:=Option.bind_eq_some_iff.mp H
 obtain⟨⟨t272,t273⟩,A30,H⟩:=H
 replace H:(some (a0_0,a0_1,a0_2,t268,t269,t272,t273,a0_7))=some (r1,r2,r3,r4,r5,r6,r7,r8):=H
 have A3:=As A30
 clear A30
 simp only[Option.some.injEq,Prod.mk.injEq] at H
 obtain⟨rfl,rfl,rfl,rfl,rfl,rfl,rfl,rfl⟩:=H
 go_enter Tryz.func101,Tryz.ntmps101
 try go_wp2_with (first|((with_reducible refine gate_dst (N:=1) rfl ?_);refine Z.bx 1 #[.int .i64 a0_0,.int .i64 a0_1,.int .i64 a0_2,.int .i64 a0_3,.slice A0_4 l0_4.length c0_4,.int .i64 a0_5,.slice A0_6 l0_6.length c0_6,.bool a0_7] 51 fun gb266 hg w4 hbox hb=>?_;have BK266:=As hbox;have GW266:=Z.ge hg;have GE266:=Z.ge hg;replace HB:=Z.sb hb;clear hb hbox hg)|((with_reducible refine gate_dst (N:=2) rfl ?_);refine Z.bx 2 #[.int .i64 0,.int .i64 0,.int .i64 0,.int .i64 0,.slice none 0 0,.int .i64 0,.slice none 0 0,.bool false] 51 fun gb267 hg w5 hbox hb=>?_;have BK267:=As hbox;have GW267:=Z.ge hg;have GE267:=Z.ge hg;have NB266_267:=Z.nl BK266 hg;have NB267_266:=Z.ng BK266 hg;replace HB:=Z.sb hb;replace BK266:=Z.kb BK266 hb;clear hb hbox hg))
 replace BK266:=As (blk_drew BK266.out)
 replace BK267:=As (blk_drew BK267.out)
 replace HB:=As (below_drew1 HB.out)
 refine start_ (n:=10) (S:=fun w'=>w'.cell? ⟨gb266,0,none⟩=some (.int .i64 a0_0)∧w'.cell? ⟨gb266,1,none⟩=some (.int .i64 a0_1)∧w'.cell? ⟨gb266,2,none⟩=some (.int .i64 a0_2)∧w'.cell? ⟨gb266,3,none⟩=some (.int .i64 a0_3)∧w'.cell? ⟨gb266,4,none⟩=some (.slice A0_4 l0_4.length c0_4)∧w'.cell? ⟨gb266,5,none⟩=some (.int .i64 a0_5)∧w'.cell? ⟨gb266,6,none⟩=some (.slice A0_6 l0_6.length c0_6)∧w'.cell? ⟨gb266,7,none⟩=some (.bool a0_7)) (ds:=[7,9]) #[false,false,false,false,false,false,false,false,false,false] (by kernel_rfl) rfl rfl ⟨(blk_cell BK266.out 0).trans rfl,(blk_cell BK266.out 1).trans rfl,(blk_cell BK266.out 2).trans rfl,(blk_cell BK266.out 3).trans rfl,(blk_cell BK266.out 4).trans rfl,(blk_cell BK266.out 5).trans rfl,(blk_cell BK266.out 6).trans rfl,(blk_cell BK266.out 7).trans rfl⟩ (fun hHeld=>?_);refine with_tabW span_One.tab1 span_One.bits1 (fun HT_ HW_=>?_)
 generalize w5.drew=w6 at BK266 BK267 HB hHeld ⊢
 refine Z.q_ 0 3 HT_ ?_
 refine Z.q_ 3 6 HT_ ?_
 refine Z.u_ 1 4 HT_ HW_ hHeld ?_
 refine Z.u_ 4 7 HT_ HW_ hHeld ?_
 refine one_ (i:=2) (N:=some 5) #[true,true,true,true,true,false,false,false,false,false] rfl rfl (one_of HT_.out (by kernel_rfl)) (by decide) (fun K hK=>?_)
 refine goes_ Tryz.func48 (by kernel_rfl) rfl #[.agg #[.int .i64 a0_3,.slice A0_4 l0_4.length c0_4]] (by rfl) rfl rfl (by (try simp only[List.map_toArray,List.map_cons,List.map_nil]);first|done|rfl|(simp only[List.length_drop,List.length_take];rfl)) ?_
 with_reducible refine (bits_Own.calls a0_3 _ _ l0_4 t268 t269 _ ?side1 ?side2 A2.out).mono ?_
 (case side1=>repeat (first|exact (Kd.C_below HR0_4.out HB.out)|(with_reducible refine Kd.C_alloc ?_ _)|(with_reducible refine Kd.C_drewN ?_ _)|(with_reducible refine Kd.C_drew ?_)))
 (case side2=>exact HC0_4.out)
 rintro e w7 ⟨v270,rfl,ho0,hb⟩
 refine⟨_,rfl,?_⟩
 have HO271:=As (Kd.R_lower ho0 (below_size Z.bl))
 replace HB:=Z.sb hb
 replace BK266:=Z.kb BK266 hb
 replace BK267:=Z.kb BK267 hb
 (try clear hb)
 (try clear hb2)
 (try clear hk)
 (try clear hi)
 (try clear ho0)
 refine hK.out _ _ ⟨(blk_cell BK266.out 0).trans rfl,(blk_cell BK266.out 1).trans rfl,(blk_cell BK266.out 2).trans rfl,(blk_cell BK266.out 3).trans rfl,(blk_cell BK266.out 4).trans rfl,(blk_cell BK266.out 5).trans rfl,(blk_cell BK266.out 6).trans rfl,(blk_cell BK266.out 7).trans rfl⟩ (fun hHeld=>?_)
 clear hK K
 refine Z.n_ 5 ?_
 refine Z.q_ 6 9 HT_ ?_
 refine one_ (i:=5) (N:=some 8) #[true,true,true,true,true,true,true,false,false,false] rfl rfl (one_of HT_.out (by kernel_rfl)) (by decide) (fun K hK=>?_)
 refine goes_ Tryz.func48 (by kernel_rfl) rfl #[.agg #[.int .i64 a0_5,.slice A0_6 l0_6.length c0_6]] (by rfl) rfl rfl (by (try simp only[List.map_toArray,List.map_cons,List.map_nil]);first|done|rfl|(simp only[List.length_drop,List.length_take];rfl)) ?_
 with_reducible refine (bits_Own.calls a0_5 _ _ l0_6 t272 t273 _ ?side1 ?side2 A3.out).mono ?_
 (case side1=>repeat (first|exact (Kd.C_below HR0_6.out HB.out)|(with_reducible refine Kd.C_alloc ?_ _)|(with_reducible refine Kd.C_drewN ?_ _)|(with_reducible refine Kd.C_drew ?_)))
 (case side2=>exact HC0_6.out)
 rintro e w8 ⟨v274,rfl,ho0,hb⟩
 refine⟨_,rfl,?_⟩
 have n0_:=As (Kd.R_elder' (by (with_reducible repeat (first|apply Kd.R_alloc|apply Kd.R_drewN|apply Kd.R_drew));exact HO271.out) (Kd.R_base ho0) hb)
 have n1_:=As (Kd.R_lower (Kd.R_new' ho0 (Kd.R_lt (by (with_reducible repeat (first|apply Kd.R_alloc|apply Kd.R_drewN|apply Kd.R_drew));exact HO271.out))) (below_size Z.bl))
 have n2_:=Z.kb BK266 hb
 have n3_:=Z.kb BK267 hb
 have n4_:=Z.sb hb
 clear HO271
 clear BK266
 clear BK267
 clear HB
 have HO271:=n0_
 have HO275:=n1_
 have BK266:=n2_
 have BK267:=n3_
 have HB:=n4_
 clear n0_ n1_ n2_ n3_ n4_
 (try clear hb)
 (try clear hb2)
 (try clear hk)
 (try clear hi)
 (try clear ho0)
 obtain⟨Ao10,co10,eo10⟩:=Kd.R_slice HO271.out
 (first|subst eo10|(injection eo10 with f1_ f2_ f3_;have f4_:=f1_.symm;have f5_:=f3_.symm;clear f1_ f2_ f3_;subst f4_;subst f5_))
 obtain⟨Ao13,co13,eo13⟩:=Kd.R_slice HO275.out
 (first|subst eo13|(injection eo13 with f1_ f2_ f3_;have f4_:=f1_.symm;have f5_:=f3_.symm;clear f1_ f2_ f3_;subst f4_;subst f5_))
 refine hK.out _ _ ⟨(blk_cell BK266.out 0).trans rfl,(blk_cell BK266.out 1).trans rfl,(blk_cell BK266.out 2).trans rfl,(blk_cell BK266.out 3).trans rfl,(blk_cell BK266.out 4).trans rfl,(blk_cell BK266.out 5).trans rfl,(blk_cell BK266.out 6).trans rfl,(blk_cell BK266.out 7).trans rfl⟩ (fun hHeld=>?_)
 clear hK K
 refine Z.n_ 8 ?_
 refine last_ (i:=7) (N:=none) #[true,true,true,true,true,true,true,true,false,false] rfl rfl (one_of HT_.out (by kernel_rfl)) (by decide) (fun K hK=>?_)
 have hs9:=Z.c3 BK266.out
 have hfs9:=blk_frozen BK266.out 3
 have hns9_1:=NB267_266.out
 have hms9_1:=NB266_267.out
 have hs11:=Z.c4 BK266.out
 have hfs11:=blk_frozen BK266.out 4
 have hns11_1:=NB267_266.out
 have hms11_1:=NB266_267.out
 refine skip_ (w1:=?_) (by rfl) rfl ?_ ?_
 rotate_left
 ·go_simp
  rfl
 refine hK.out _ _ ?_
 clear hK K
 refine Z.q_ 8 10 HT_ ?_
 refine last_ (i:=9) (N:=none) #[true,true,true,true,true,true,true,true,true,true] rfl rfl (one_of HT_.out (by kernel_rfl)) (by decide) (fun K hK=>?_)
 have hs12:=Z.c5 BK266.out
 have hfs12:=blk_frozen BK266.out 5
 have hns12_1:=NB267_266.out
 have hms12_1:=NB266_267.out
 have hs14:=Z.c6 BK266.out
 have hfs14:=blk_frozen BK266.out 6
 have hns14_1:=NB267_266.out
 have hms14_1:=NB266_267.out
 refine skip_ (w1:=?_) (by rfl) rfl ?_ ?_
 rotate_left
 ·go_simp
  rfl
 refine hK.out _ _ ?_
 clear hK K
 refine done_ (done_of HT_.out (by kernel_rfl)) ?_
 have hnb15:=NB266_267.out
 have hnc15:=NB267_266.out
 have hcz16_0:=Z.c0 BK266.out
 have hcz16_1:=Z.c1 BK266.out
 have hcz16_2:=Z.c2 BK266.out
 have hcz16_3:=Z.c3 BK266.out
 have hcz16_4:=Z.c4 BK266.out
 have hcz16_5:=Z.c5 BK266.out
 have hcz16_6:=Z.c6 BK266.out
 have hcz16_7:=Z.c7 BK266.out
 have hfz16_0:=blk_frozen BK266.out 0
 have hfz16_1:=blk_frozen BK266.out 1
 have hfz16_2:=blk_frozen BK266.out 2
 have hfz16_3:=blk_frozen BK266.out 3
 have hfz16_4:=blk_frozen BK266.out 4
 have hfz16_5:=blk_frozen BK266.out 5
 have hfz16_6:=blk_frozen BK266.out 6
 have hfz16_7:=blk_frozen BK266.out 7
 have hcz17_0:=Z.c0 BK267.out
 have hcz17_1:=Z.c1 BK267.out
 have hcz17_2:=Z.c2 BK267.out
 have hcz17_3:=Z.c3 BK267.out
 have hcz17_4:=Z.c4 BK267.out
 have hcz17_5:=Z.c5 BK267.out
 have hcz17_6:=Z.c6 BK267.out
 have hcz17_7:=Z.c7 BK267.out
 have hfz17_0:=blk_frozen BK267.out 0
 have hfz17_1:=blk_frozen BK267.out 1
 have hfz17_2:=blk_frozen BK267.out 2
 have hfz17_3:=blk_frozen BK267.out 3
 have hfz17_4:=blk_frozen BK267.out 4
 have hfz17_5:=blk_frozen BK267.out 5
 have hfz17_6:=blk_frozen BK267.out 6
 have hfz17_7:=blk_frozen BK267.out 7
 try go_wp2
 refine bodyPost_ret (results_cell_row rfl _ _ gb267 51 #[.int .i64 a0_0,.int .i64 a0_1,.int .i64 a0_2,.int .i64 t268,.slice Ao10 t269.length co10,.int .i64 t272,.slice Ao13 t273.length co13,.bool a0_7] (0,0) _ rfl Z.bs Tryz.underlying51 rfl (by kernel_rfl)) rfl ?_
 exact⟨_,_,Z.e_,by (with_reducible repeat (first|apply Kd.R_alloc|apply Kd.R_drewN|apply Kd.R_drew));exact Kd.R_mono (Kd.R_far (p:=⟨gb267,7,none⟩) (Kd.R_far (p:=⟨gb267,6,none⟩) (Kd.R_far (p:=⟨gb267,5,none⟩) (Kd.R_far (p:=⟨gb267,4,none⟩) (Kd.R_far (p:=⟨gb267,3,none⟩) (Kd.R_far (p:=⟨gb267,2,none⟩) (Kd.R_far (p:=⟨gb267,1,none⟩) (Kd.R_far (p:=⟨gb267,0,none⟩) (Kd.R_far (p:=⟨gb266,6,none⟩) (Kd.R_far (p:=⟨gb266,5,none⟩) (Kd.R_far (p:=⟨gb266,4,none⟩) (Kd.R_far (p:=⟨gb266,3,none⟩) (Kd.R_types (Kd.R_types HO271.out BK266.out (by decide)) BK267.out (by decide)) (fun _ hk=>hk.1.2) (.int .i64 t268)) (fun _ hk=>hk.1.2) (.slice Ao10 t269.length co10)) (fun _ hk=>hk.1.2) (.int .i64 t272)) (fun _ hk=>hk.1.2) (.slice Ao13 t273.length co13)) (fun _ hk=>hk.2) (.int .i64 a0_0)) (fun _ hk=>hk.2) (.int .i64 a0_1)) (fun _ hk=>hk.2) (.int .i64 a0_2)) (fun _ hk=>hk.2) (.int .i64 t268)) (fun _ hk=>hk.2) (.slice Ao10 t269.length co10)) (fun _ hk=>hk.2) (.int .i64 t272)) (fun _ hk=>hk.2) (.slice Ao13 t273.length co13)) (fun _ hk=>hk.2) (.bool a0_7)) (fun _ hk=>hk.1.1.2),by (with_reducible repeat (first|apply Kd.R_alloc|apply Kd.R_drewN|apply Kd.R_drew));exact Kd.R_mono (Kd.R_far (p:=⟨gb267,7,none⟩) (Kd.R_far (p:=⟨gb267,6,none⟩) (Kd.R_far (p:=⟨gb267,5,none⟩) (Kd.R_far (p:=⟨gb267,4,none⟩) (Kd.R_far (p:=⟨gb267,3,none⟩) (Kd.R_far (p:=⟨gb267,2,none⟩) (Kd.R_far (p:=⟨gb267,1,none⟩) (Kd.R_far (p:=⟨gb267,0,none⟩) (Kd.R_far (p:=⟨gb266,6,none⟩) (Kd.R_far (p:=⟨gb266,5,none⟩) (Kd.R_far (p:=⟨gb266,4,none⟩) (Kd.R_far (p:=⟨gb266,3,none⟩) (Kd.R_types (Kd.R_types HO275.out BK266.out (by decide)) BK267.out (by decide)) (fun _ hk=>hk.1.2) (.int .i64 t268)) (fun _ hk=>hk.1.2) (.slice Ao10 t269.length co10)) (fun _ hk=>hk.1.2) (.int .i64 t272)) (fun _ hk=>hk.1.2) (.slice Ao13 t273.length co13)) (fun _ hk=>hk.2) (.int .i64 a0_0)) (fun _ hk=>hk.2) (.int .i64 a0_1)) (fun _ hk=>hk.2) (.int .i64 a0_2)) (fun _ hk=>hk.2) (.int .i64 t268)) (fun _ hk=>hk.2) (.slice Ao10 t269.length co10)) (fun _ hk=>hk.2) (.int .i64 t272)) (fun _ hk=>hk.2) (.slice Ao13 t273.length co13)) (fun _ hk=>hk.2) (.bool a0_7)) (fun _ hk=>hk.1.1.2),Z.bl⟩
def arena_Own.f (l0_0:List Int):Option (List Int):=(slices_Clone_uint64_uint64.f l0_0).bind fun t278=>(some t278)
set_option maxHeartbeats 8000000 in
set_option maxRecDepth 100000 in
theorem arena_Own.calls (A0_0:Option Addr) (c0_0:Nat) (l0_0:List Int) (r:List Int) (w:World) (hr0_0:Kd.C (Kd.int .u64) w A0_0 l0_0.length l0_0) (hc0_0:l0_0.length≤c0_0) (h:arena_Own.f l0_0=some r):
  Calls Tryz.prog 91 #[.agg #[.slice A0_0 l0_0.length c0_0]] w fun e w'=>∃v0_:Value,e=.returned (.agg #[v0_])∧Kd.R (Kd.int .u64) 39 w' w.heap.size (fun _=>True) v0_ r∧Below w.heap.size w w':=by
 have hu27:=Tryz.underlying27
 have HR0_0:=As hr0_0
 have HC0_0:=As hc0_0
 clear hr0_0 hc0_0
 have HB:=As (Below.refl w.heap.size w)
 have H:((slices_Clone_uint64_uint64.f l0_0).bind fun t278=>(some t278))=some r:=h
 clear h
 replace H:=Option.bind_eq_some_iff.mp H
 obtain⟨t278,A20,H⟩:=H
 replace H:(some t278)=some r:=H
 have A2:=As A20
 clear A20
 obtain rfl:=Option.some.inj H
 go_enter Tryz.func91,Tryz.ntmps91
 go_wp2_with (first|((with_reducible refine gate_dst (N:=1) rfl ?_);refine Z.bx 1 #[.slice A0_0 l0_0.length c0_0] 27 fun gb276 hg w3 hbox hb=>?_;have BK276:=As hbox;have GW276:=Z.ge hg;have GE276:=Z.ge hg;replace HB:=Z.sb hb;clear hb hbox hg)|((with_reducible refine gate_dst (N:=2) rfl ?_);refine Z.bx 2 #[.slice none 0 0] 27 fun gb277 hg w4 hbox hb=>?_;have BK277:=As hbox;have GW277:=Z.ge hg;have GE277:=Z.ge hg;have NB276_277:=Z.nl BK276 hg;have NB277_276:=Z.ng BK276 hg;replace HB:=Z.sb hb;replace BK276:=Z.kb BK276 hb;clear hb hbox hg;have hnb5:=NB276_277.out;have hnc5:=NB277_276.out;obtain⟨hcz6_0,hfz6_0⟩:=Z.b1 BK276)|((with_reducible refine gate_callee (f:=88) rfl ?_);refine Z.gl 5 Tryz.func88 #[.slice A0_0 l0_0.length c0_0] ?_;(with_reducible refine (slices_Clone_uint64_uint64.calls _ _ l0_0 t278 _ ?side1 ?side2 A2.out).mono ?_);(case side1=>repeat (first|exact (Kd.C_below HR0_0.out HB.out)|(with_reducible refine Kd.C_alloc ?_ _)|(with_reducible refine Kd.C_drewN ?_ _)|(with_reducible refine Kd.C_drew ?_)));(case side2=>exact HC0_0.out);rintro e w7 ⟨v279,rfl,ho0,hb⟩;refine⟨_,rfl,?_⟩;have HO280:=As (Kd.R_lower ho0 (below_size Z.bl));replace HB:=Z.sb hb;replace BK276:=Z.kb BK276 hb;replace BK277:=Z.kb BK277 hb;(try clear hb);(try clear hb2);(try clear hk);(try clear hi);(try clear ho0);obtain⟨Ao8,co8,eo8⟩:=Kd.R_slice HO280.out;subst eo8;obtain⟨hcz9_0,hfz9_0⟩:=Z.b1 BK276;obtain⟨hcz10_0,hfz10_0⟩:=Z.b1 BK277))
 refine bodyPost_ret (results_cell_row rfl _ _ gb277 27 #[.slice Ao8 t278.length co8] (0,0) _ rfl Z.bs Tryz.underlying27 rfl (by kernel_rfl)) rfl ?_
 exact⟨_,Z.e_,by (with_reducible repeat (first|apply Kd.R_alloc|apply Kd.R_drewN|apply Kd.R_drew));exact Kd.R_mono (Kd.R_far (p:=⟨gb277,0,none⟩) (Kd.R_far (p:=⟨gb276,0,none⟩) (Kd.R_types (Kd.R_types HO280.out BK276.out (by decide)) BK277.out (by decide)) (fun _ hk=>hk.1.2) (.slice Ao8 t278.length co8)) (fun _ hk=>hk.2) (.slice Ao8 t278.length co8)) (fun _ hk=>trivial),Z.bl⟩
theorem bits_first_state (x1:Int) (x2:Bool) (n:Int) (l:List Int):∀k,(∀x7 r1 r2,bits_list_first.l0 k x1 x2 x7 n l=some (r1,r2)→r2=n)∧(∀x7 x8 r1 r2,bits_list_first.j1 k x1 x2 x7 x8 n l=some (r1,r2)→r2=n)
 |0=>⟨fun _ _ _ h=>by simp[bits_list_first.l0] at h,fun _ _ _ _ h=>by simp[bits_list_first.j1] at h⟩
 |k + 1=>by
  obtain⟨ih0,ih1⟩:=bits_first_state x1 x2 n l k
  refine⟨fun x7 r1 r2 h=>?_,fun x7 x8 r1 r2 h=>?_⟩
  ·simp only[bits_list_first.l0] at h
   repeat' split at h
   all_goals first
    |exact ih1 _ _ _ _ h
    |(simp only[Option.some.injEq,Prod.mk.injEq] at h;exact h.2.symm)
    |cases h
  ·simp only[bits_list_first.j1] at h
   repeat' split at h
   all_goals first
    |exact ih0 _ _ _ h
    |(obtain⟨t,_,h⟩:=Option.bind_eq_some_iff.mp h;simp only[Option.some.injEq,Prod.mk.injEq] at h;exact h.2.symm)
    |cases h
theorem bits_first_calls (k g:Nat) (n:Int) (l:List Int) (fr:Int) (v:Bool) (t t':Int) (w0 w:World) (hI:IsS116 w0 w g n l) (hB:Below w0.heap.size w0 w) (hT:TzOk w0) (h:bits_list_first.f k n l fr v=some (t,t')):
  Calls Tryz.prog 89 #[.pointer (some ⟨g,0,none⟩),.int .i64 fr,.bool v] w fun e w'=>e=.returned (.int .i64 t)∧IsS116 w0 w' g n l∧Below w0.heap.size w0 w'∧KeepBut w w' g none:=by
 have e:t'=n:=(bits_first_state fr v n l k).1 _ _ _ h
 subst e
 exact bits_list_first.calls k g _ l fr v t _ w0 w hI hB hT h
def bits_First.f (k:Nat) (n:Int) (l:List Int) (fr:Int) (v:Bool):Option (Int×Int):=(bits_Check.f k n l).bind fun t1=>if t1=0 then (if fr < 0 then some (0,1) else if fr > n then some (0,1) else (bits_list_first.f k n l fr v).bind fun b=>if b.1=n then some (0,3) else some (b.1,0)) else some (0,t1)
set_option maxHeartbeats 8000000 in
set_option maxRecDepth 100000 in
theorem bits_First.calls (k:Nat) (n:Int) (A:Option Addr) (c:Nat) (l:List Int) (fr:Int) (v:Bool) (r1:Int) (r2:Int) (w:World) (hr0:Kd.C (Kd.int .u64) w A l.length l) (hc0:l.length≤c) (hT:TzOk w) (h:bits_First.f k n l fr v=some (r1,r2)):
  Calls Tryz.prog 61 #[.agg #[.int .i64 n,.slice A l.length c],.int .i64 fr,.bool v] w fun e w'=>e=.returned (.tuple #[.int .i64 r1,.int .i64 r2])∧Below w.heap.size w w':=by
 have hu:=Tryz.underlying29
 have HR0:=As hr0
 have HC0:=As hc0
 have HT:=As hT
 clear hr0 hc0 hT
 have HB:=As (Below.refl w.heap.size w)
 have H:=h
 clear h
 unfold bits_First.f at H
 replace H:=Option.bind_eq_some_iff.mp H
 obtain⟨t1,A1,H⟩:=H
 replace A1:=As A1
 by_cases c5:t1=0
 ·rw[if_pos c5] at H
  subst c5
  by_cases d0:fr < 0
  ·rw[if_pos d0] at H
   have e0:decide (fr < 0)=true:=decide_eq_true d0
   clear d0
   simp only[Option.some.injEq,Prod.mk.injEq] at H
   obtain⟨rfl,rfl⟩:=H
   go_enter Tryz.func61,Tryz.ntmps61
   go_wp2_with (first|((with_reducible refine gate_dst (N:=3) rfl ?_);refine Z.bx 3 #[.int .i64 n,.slice A l.length c] 29 fun gb3 hg w_ hbox hb=>?_;have BK3:=As hbox;have GE3:=Z.ge hg;replace HB:=Z.sb hb;clear hb hbox hg;obtain⟨hcz3_0,hfz3_0,hcz3_1,hfz3_1⟩:=Z.b2 BK3)|((with_reducible refine gate_callee (f:=47) rfl ?_);refine Z.gl 11 Tryz.func47 #[.agg #[.int .i64 n,.slice A l.length c]] ?_;(with_reducible refine (bits_Check.calls k n _ _ l 0 _ ?side1 ?side2 A1.out).mono ?_);(case side1=>exact (Kd.C_below HR0.out HB.out));(case side2=>exact HC0.out);rintro e w16 ⟨rfl,hb⟩;refine⟨_,rfl,?_⟩;(try clear hcz3_0 hfz3_0 hcz3_1 hfz3_1);replace HB:=Z.sb hb;replace BK3:=Z.kb BK3 hb;clear hb;obtain⟨hcz3_0,hfz3_0,hcz3_1,hfz3_1⟩:=Z.b2 BK3))
   go_ret2
   exact⟨by first|rfl|(simp;done),Z.bl⟩
  rw[if_neg d0] at H
  have e0:decide (fr < 0)=false:=decide_eq_false d0
  clear d0
  by_cases d1:fr > n
  ·rw[if_pos d1] at H
   have e1:decide (n < fr)=true:=decide_eq_true d1
   clear d1
   simp only[Option.some.injEq,Prod.mk.injEq] at H
   obtain⟨rfl,rfl⟩:=H
   go_enter Tryz.func61,Tryz.ntmps61
   go_wp2_with (first|((with_reducible refine gate_dst (N:=3) rfl ?_);refine Z.bx 3 #[.int .i64 n,.slice A l.length c] 29 fun gb3 hg w_ hbox hb=>?_;have BK3:=As hbox;have GE3:=Z.ge hg;replace HB:=Z.sb hb;clear hb hbox hg;obtain⟨hcz3_0,hfz3_0,hcz3_1,hfz3_1⟩:=Z.b2 BK3)|((with_reducible refine gate_callee (f:=47) rfl ?_);refine Z.gl 11 Tryz.func47 #[.agg #[.int .i64 n,.slice A l.length c]] ?_;(with_reducible refine (bits_Check.calls k n _ _ l 0 _ ?side1 ?side2 A1.out).mono ?_);(case side1=>exact (Kd.C_below HR0.out HB.out));(case side2=>exact HC0.out);rintro e w16 ⟨rfl,hb⟩;refine⟨_,rfl,?_⟩;(try clear hcz3_0 hfz3_0 hcz3_1 hfz3_1);replace HB:=Z.sb hb;replace BK3:=Z.kb BK3 hb;clear hb;obtain⟨hcz3_0,hfz3_0,hcz3_1,hfz3_1⟩:=Z.b2 BK3))
   go_ret2
   exact⟨by first|rfl|(simp;done),Z.bl⟩
  rw[if_neg d1] at H
  have e1:decide (n < fr)=false:=decide_eq_false d1
  clear d1
  replace H:=Option.bind_eq_some_iff.mp H
  obtain⟨⟨t2,t3⟩,A2,H⟩:=H
  replace A2:=As A2
  simp only at H
  by_cases c6:t2=n
  ·rw[if_pos c6] at H
   have c6b:(t2 == n)=true:=beq_iff_eq.mpr c6
   clear c6
   simp only[Option.some.injEq,Prod.mk.injEq] at H
   obtain⟨rfl,rfl⟩:=H
   go_enter Tryz.func61,Tryz.ntmps61
   go_wp2_with (first|((with_reducible refine gate_dst (N:=3) rfl ?_);refine Z.bx 3 #[.int .i64 n,.slice A l.length c] 29 fun gb3 hg w_ hbox hb=>?_;have BK3:=As hbox;have GE3:=Z.ge hg;replace HB:=Z.sb hb;clear hb hbox hg;obtain⟨hcz3_0,hfz3_0,hcz3_1,hfz3_1⟩:=Z.b2 BK3)|((with_reducible refine gate_callee (f:=47) rfl ?_);refine Z.gl 11 Tryz.func47 #[.agg #[.int .i64 n,.slice A l.length c]] ?_;(with_reducible refine (bits_Check.calls k n _ _ l 0 _ ?side1 ?side2 A1.out).mono ?_);(case side1=>exact (Kd.C_below HR0.out HB.out));(case side2=>exact HC0.out);rintro e w16 ⟨rfl,hb⟩;refine⟨_,rfl,?_⟩;(try clear hcz3_0 hfz3_0 hcz3_1 hfz3_1);replace HB:=Z.sb hb;replace BK3:=Z.kb BK3 hb;clear hb;obtain⟨hcz3_0,hfz3_0,hcz3_1,hfz3_1⟩:=Z.b2 BK3)|((with_reducible refine gate_dst (N:=25) rfl ?_);refine Z.bx 25 #[.int .i64 n,.slice A l.length c] 116 fun gb25 hg w_ hbox hb=>?_;clear hcz3_0 hfz3_0 hcz3_1 hfz3_1;have BK25:=As hbox;have GE25:=Z.ge hg;have NB25_3:=Z.ng BK3 hg;replace HB:=Z.sb hb;replace BK3:=Z.kb BK3 hb;clear hb hbox hg;obtain⟨hcz3_0,hfz3_0,hcz3_1,hfz3_1⟩:=Z.b2 BK3)|((with_reducible refine gate_callee (f:=89) rfl ?_);refine Z.gl 28 Tryz.func89 #[.pointer (some ⟨gb25,0,none⟩),.int .i64 fr,.bool v] ?_;(with_reducible refine (bits_first_calls k gb25 n l fr v t2 _ w _ ?side1 ?side2 HT.out A2.out).mono ?_);(case side1=>exact⟨A,c,Z.bk,GE25.out,HR0.out⟩);(case side2=>exact Z.bl);rintro e w30 ⟨rfl,hi,hb,hk⟩;refine⟨_,rfl,?_⟩;(try clear hcz3_0 hfz3_0 hcz3_1 hfz3_1);replace BK3:=As ((hk.2 gb3 (blk_lt (g:=gb3) (o:=.cells #[.int .i64 n,.slice A l.length c] 29 (0,0)) Z.bk) (fun e_=>NB25_3.out e_.symm) (by simp)).trans Z.bk);replace HB:=As hb;replace HI:=As hi;clear hb hk hi;obtain⟨hcz3_0,hfz3_0,hcz3_1,hfz3_1⟩:=Z.b2 BK3))
   go_ret2
   exact⟨by first|rfl|(simp;done),Z.bl⟩
  ·rw[if_neg c6] at H
   have c6b:(t2 == n)=false:=beq_eq_false_iff_ne.mpr c6
   clear c6
   simp only[Option.some.injEq,Prod.mk.injEq] at H
   obtain⟨rfl,rfl⟩:=H
   go_enter Tryz.func61,Tryz.ntmps61
   go_wp2_with (first|((with_reducible refine gate_dst (N:=3) rfl ?_);refine Z.bx 3 #[.int .i64 n,.slice A l.length c] 29 fun gb3 hg w_ hbox hb=>?_;have BK3:=As hbox;have GE3:=Z.ge hg;replace HB:=Z.sb hb;clear hb hbox hg;obtain⟨hcz3_0,hfz3_0,hcz3_1,hfz3_1⟩:=Z.b2 BK3)|((with_reducible refine gate_callee (f:=47) rfl ?_);refine Z.gl 11 Tryz.func47 #[.agg #[.int .i64 n,.slice A l.length c]] ?_;(with_reducible refine (bits_Check.calls k n _ _ l 0 _ ?side1 ?side2 A1.out).mono ?_);(case side1=>exact (Kd.C_below HR0.out HB.out));(case side2=>exact HC0.out);rintro e w16 ⟨rfl,hb⟩;refine⟨_,rfl,?_⟩;(try clear hcz3_0 hfz3_0 hcz3_1 hfz3_1);replace HB:=Z.sb hb;replace BK3:=Z.kb BK3 hb;clear hb;obtain⟨hcz3_0,hfz3_0,hcz3_1,hfz3_1⟩:=Z.b2 BK3)|((with_reducible refine gate_dst (N:=25) rfl ?_);refine Z.bx 25 #[.int .i64 n,.slice A l.length c] 116 fun gb25 hg w_ hbox hb=>?_;clear hcz3_0 hfz3_0 hcz3_1 hfz3_1;have BK25:=As hbox;have GE25:=Z.ge hg;have NB25_3:=Z.ng BK3 hg;replace HB:=Z.sb hb;replace BK3:=Z.kb BK3 hb;clear hb hbox hg;obtain⟨hcz3_0,hfz3_0,hcz3_1,hfz3_1⟩:=Z.b2 BK3)|((with_reducible refine gate_callee (f:=89) rfl ?_);refine Z.gl 28 Tryz.func89 #[.pointer (some ⟨gb25,0,none⟩),.int .i64 fr,.bool v] ?_;(with_reducible refine (bits_first_calls k gb25 n l fr v t2 _ w _ ?side1 ?side2 HT.out A2.out).mono ?_);(case side1=>exact⟨A,c,Z.bk,GE25.out,HR0.out⟩);(case side2=>exact Z.bl);rintro e w30 ⟨rfl,hi,hb,hk⟩;refine⟨_,rfl,?_⟩;(try clear hcz3_0 hfz3_0 hcz3_1 hfz3_1);replace BK3:=As ((hk.2 gb3 (blk_lt (g:=gb3) (o:=.cells #[.int .i64 n,.slice A l.length c] 29 (0,0)) Z.bk) (fun e_=>NB25_3.out e_.symm) (by simp)).trans Z.bk);replace HB:=As hb;replace HI:=As hi;clear hb hk hi;obtain⟨hcz3_0,hfz3_0,hcz3_1,hfz3_1⟩:=Z.b2 BK3))
   go_ret2
   exact⟨by first|rfl|(simp;done),Z.bl⟩
 ·rw[if_neg c5] at H
  have c5b0:(t1 == 0)=false:=beq_eq_false_iff_ne.mpr c5
  have c5b1:(t1 != 0)=true:=bne_iff_ne.mpr c5
  clear c5
  simp only[Option.some.injEq,Prod.mk.injEq] at H
  obtain⟨rfl,rfl⟩:=H
  go_enter Tryz.func61,Tryz.ntmps61
  go_wp2_with (first|((with_reducible refine gate_dst (N:=3) rfl ?_);refine Z.bx 3 #[.int .i64 n,.slice A l.length c] 29 fun gb3 hg w_ hbox hb=>?_;have BK3:=As hbox;have GE3:=Z.ge hg;replace HB:=Z.sb hb;clear hb hbox hg;obtain⟨hcz3_0,hfz3_0,hcz3_1,hfz3_1⟩:=Z.b2 BK3)|((with_reducible refine gate_callee (f:=47) rfl ?_);refine Z.gl 11 Tryz.func47 #[.agg #[.int .i64 n,.slice A l.length c]] ?_;(with_reducible refine (bits_Check.calls k n _ _ l t1 _ ?side1 ?side2 A1.out).mono ?_);(case side1=>exact (Kd.C_below HR0.out HB.out));(case side2=>exact HC0.out);rintro e w16 ⟨rfl,hb⟩;refine⟨_,rfl,?_⟩;(try clear hcz3_0 hfz3_0 hcz3_1 hfz3_1);replace HB:=Z.sb hb;replace BK3:=Z.kb BK3 hb;clear hb))
  go_ret2
  exact⟨by first|rfl|(simp;done),Z.bl⟩
end Go.Proofs.YtmmfchnbfnegnaaGreatDoor.GK
end
