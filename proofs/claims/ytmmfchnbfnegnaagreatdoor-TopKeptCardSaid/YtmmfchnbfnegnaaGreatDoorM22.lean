import Derived.Test.YtmmfchnbfnegnaaGreatDoorM21
import Derived.RangeFuncNested
import Derived.RangeFuncBound
import Derived.RangeFuncCalls
import Derived.RangeFuncLeaves
import Derived.Shelf.Abstract
import Derived.Shelf.RegionOpen
import Derived.WalkKit
import Derived.OwnWalkIn
import Derived.TacticsInMore
import Derived.LoopNIn
import Derived.LoopIn
import Derived.Maps.AppendAt
import Derived.Test.YtmmfchnbfnegnaaGreatDoorM03
import Derived.Test.YtmmfchnbfnegnaaGreatDoorM19
import Derived.Test.YtmmfchnbfnegnaaGreatDoorM13
section
namespace Go.Proofs.YtmmfchnbfnegnaaGreatDoor.K
open Go.RowKit Go.Shelf Go.Proofs.YtmmfchnbfnegnaaGreatDoorW.PrintWords Go.Proofs.YtmmfchnbfnegnaaGreatDoorW.PrintLast Go.Proofs.YtmmfchnbfnegnaaGreatDoorW.PrintMore Go.Proofs.YtmmfchnbfnegnaaGreatDoor.GK Go.Proofs.YtmmfchnbfnegnaaGreatDoor.Pu Go.Proofs.YtmmfchnbfnegnaaGreatDoor.PuBitW Go.Proofs.YtmmfchnbfnegnaaGreatDoor.PuBits
set_option linter.unusedVariables false
set_option linter.unusedSimpArgs false
attribute [local go_sem] Oper.semAt_some
set_option maxRecDepth 100000 in
set_option maxHeartbeats 2000000 in
theorem hpCur1 (n:Nat) (hn:1≤n) (l Bs sb:Nat) (A5:Option Addr) (c5:Nat) (os:List S92) (hcur:∀x∈os,x.f4=true) (hlen:os.length < 500000) (w1:World) (hC:Kd.C k92 w1 A5 os.length os) (J Jx:List S92→World→Prop) (hJ:∀s W o,J s W→J s (W.alloc o))
  (hY:∀pre x W,J pre W→pre.length < os.length→YieldAt Fence.wide (n - 1) Tryz.prog l #[obV x] W fun e W'=>
   (e=.returned (.bool true)∧J (pre ++ [x]) W'∧Below w1.heap.size W W')∨(e=.returned (.bool false)∧Jx (pre ++ [x]) W'))
  (W:World) (hBs:W.cell? ⟨Bs,0,none⟩=some (.pointer (some ⟨sb,0,none⟩))) (hs4:W.cell? ⟨sb,4,none⟩=some (.slice A5 os.length c5)) (hB:Below w1.heap.size w1 W) (h0:J [] W):
  CallsIn Fence.wide n Tryz.prog 87 #[.func (.yield l) #[] #[],.pointer (some ⟨Bs,0,none⟩)] W fun e W'=>(∃v,e=.returned v)∧
   ((∃ys,ys=os∧J ys W')∨(∃pre,pre <+:os∧Jx pre W')):=by
 have hue:=Tryz.underlying81
 have hu92:=Tryz.underlying92
 refine callsIn_of_wp Tryz.func87 rfl trivial ?_ rfl
 simp only[Tryz.ntmps87,List.size_toArray,List.length_cons,List.length_nil,Nat.reduceAdd,Nat.reduceSub,Array.replicate_succ,Array.replicate_zero,List.push_toArray,List.append_toArray,List.nil_append,List.cons_append]
 gi_wp2
 gi_loopw [10] (fun v10 wr=>∃k:Nat,k≤os.length∧v10=.int .i64 (k:Int)∧Aside0 (J (os.take k) wr)∧Aside0 (Below w1.heap.size w1 wr)) (fun v10 _=>os.length - (intOf v10).toNat)
 case atStart=>exact⟨0,Nat.zero_le _,rfl,⟨h0⟩,⟨hB⟩⟩
 case round=>
  obtain⟨k,hk,rfl,HJ,HB⟩:=hrel
  by_cases hlt:k < os.length
  ·obtain⟨ad,eA,hx0,hx1,hx2,hx3,hx4,hx5⟩:=at_T92 (Kd.C_below hC HB.out) (k:Int) (by omega) (by omega)
   subst eA
   rw[Int.toNat_natCast] at hx0 hx1 hx2 hx3 hx4 hx5
   rw[rd92 hlt] at hx0 hx1 hx2 hx3 hx4 hx5
   have h4:=hcur _ (List.getElem_mem hlt)
   have HTK:=As (show os.take (k + 1)=os.take k ++ [os[k]] from List.take_succ_eq_append_getElem hlt)
   obtain⟨x,hx⟩:∃x,x=os[k]:=⟨_,rfl⟩
   rw[←hx] at hx0 hx1 hx2 hx3 hx4 hx5 h4 HTK
   rw[h4] at hx5
   obtain⟨fn,tmps,assign,body,hy,hR⟩:=hY (os.take k) x (wr.alloc (Obj.cells #[.int .i64 x.f0,.int .i64 x.f1,.int .u64 x.f2,.int .i64 x.f3.f0,.int .u64 x.f3.f1,.bool true] 92)) (hJ _ _ _ HJ.out) (by rw[List.length_take];omega)
   unfold obV at hy
   rw[h4] at hy
   clear hx h4 hY hcur
   gi_wp2
   refine hR.mono ?_
   rintro e W3 (⟨rfl,hJ3,hk3⟩|⟨rfl,hJx3⟩)
   ·have HB3:=As (HB.out.trans ((Below.refl w1.heap.size wr).alloc HB.out.size (Obj.cells #[.int .i64 x.f0,.int .i64 x.f1,.int .u64 x.f2,.int .i64 x.f3.f0,.int .u64 x.f3.f1,.bool true] 92) |>.trans hk3))
    have HJ3:=As hJ3
    clear hk3 hJ3
    gi_wp2
    go_roundw
    case rel=>exact⟨k + 1,hlt,by go_num,⟨by rw[HTK.out];exact HJ3.out⟩,HB3⟩
    case measure=>simp[intOf];omega
   ·gi_wp2
    refine bodyPost_ret (results_none rfl _ _ _) rfl ?_
    exact⟨⟨_,rfl⟩,.inr ⟨os.take (k + 1),List.take_prefix _ _,by rw[HTK.out];exact hJx3⟩⟩
  ·obtain rfl:k=os.length:=by omega
   gi_wp2
   go_end0
   exact⟨⟨_,rfl⟩,.inl ⟨_,List.take_length,HJ.out⟩⟩
theorem hpCurs (n:Nat) (hn:1≤n) (Bs sb:Nat) (A5:Option Addr) (c5:Nat) (os:List S92) (hcur:∀x∈os,x.f4=true) (hlen:os.length < 500000) (w1:World) (hC:Kd.C k92 w1 A5 os.length os) (w:World) (hB:Below w1.heap.size w1 w) (hBs:w.cell? ⟨Bs,0,none⟩=some (.pointer (some ⟨sb,0,none⟩))) (hs4:w.cell? ⟨sb,4,none⟩=some (.slice A5 os.length c5)):
  SeqStopsK Fence.wide n Tryz.prog 87 #[.pointer (some ⟨Bs,0,none⟩)] (fun x:S92=>#[obV x]) (Below w1.heap.size) (fun ys=>ys=os) (fun pre=>pre <+:os) os.length w:=fun l J Jx W hW hJ _ hY h0=>
 hpCur1 n hn l Bs sb A5 c5 os hcur hlen w1 hC J Jx (fun s W o h=>hJ s W _ none h (World.grownBy_alloc W o none) (fun r e=>by cases e)) hY W (keepc hW hBs) (keepc hW hs4) (hB.trans (hW.mono hB.size)) h0
set_option maxRecDepth 100000 in
set_option maxHeartbeats 2000000 in
theorem hpCur0 (F:Fence) (n:Nat) (hF:F.fn 44) (hro:F.round=none) (sb:Nat) (w:World):
  CallsIn F n Tryz.prog 44 #[.pointer (some ⟨sb,0,none⟩)] w fun e w'=>e=.returned (.func (.func 87) #[] #[.pointer (some ⟨w.heap.size,0,none⟩)])∧w'=w.alloc (.cells #[.pointer (some ⟨sb,0,none⟩)] 75):=by
 refine callsIn_of_wp Tryz.func44 rfl hF ?_ hro
 simp only[Tryz.ntmps44,List.size_toArray,List.length_cons,List.length_nil,Nat.reduceAdd,Nat.reduceSub,Array.replicate_succ,Array.replicate_zero,List.push_toArray,List.append_toArray,List.nil_append,List.cons_append]
 gi_wp2
 go_ret
 exact⟨rfl,rfl⟩
end Go.Proofs.YtmmfchnbfnegnaaGreatDoor.K
end
section
namespace Go.Proofs.YtmmfchnbfnegnaaGreatDoor.K
open Go.RowKit Go.Shelf Go.Proofs.YtmmfchnbfnegnaaGreatDoorW.PrintWords Go.Proofs.YtmmfchnbfnegnaaGreatDoorW.PrintLast Go.Proofs.YtmmfchnbfnegnaaGreatDoorW.PrintMore Go.Proofs.YtmmfchnbfnegnaaGreatDoor.GK Go.Proofs.YtmmfchnbfnegnaaGreatDoor.Pu Go.Proofs.YtmmfchnbfnegnaaGreatDoor.PuBitW Go.Proofs.YtmmfchnbfnegnaaGreatDoor.PuBits
set_option linter.unusedVariables false
set_option linter.unusedSimpArgs false
attribute [local go_sem] Oper.semAt_some
set_option maxRecDepth 100000 in
set_option maxHeartbeats 3000000 in
theorem hpObjects (ps:List Sp) (A1 A2 A3:Option Addr) (c1 c2 c3:Nat) (ws us:List Int) (xs:List S51) (w:World) (hr:HRel ps ws us xs) (hm:HMem w A1 A2 A3 c1 c2 c3 ws us xs) (os:List S92) (hos:os=objsF 0 ps) (hcur:∀x∈os,x.f4=true):
  Calls Tryz.prog 12 #[.agg #[.slice A1 ws.length c1,.int .i64 30,.slice A2 us.length c2,.slice A3 xs.length c3]] w fun e w'=>∃(A:Option Addr) (c:Nat),e=.returned (.tuple #[.slice A os.length c,.int .i64 0])∧os.length≤c∧Kd.C (Kd.int .u64) w' A os.length (os.map (·.f2))∧Below w.heap.size w w':=by
 have hue:=Tryz.underlying81
 have hu34:=Tryz.underlying34
 have hu92:=Tryz.underlying92
 have HM:=As hm
 have HR:=As hr
 have HOE:=As hos
 have HCU:=As hcur
 clear hm hr hcur hos
 refine (callsIn_wide (n:=4)).1 ?_
 refine callsIn_of_wp_marks Tryz.func12 rfl trivial ?_ rfl
 simp only[Tryz.ntmps12,List.size_toArray,List.length_cons,List.length_nil,Nat.reduceAdd,Nat.reduceSub,Array.replicate_succ,Array.replicate_zero,List.push_toArray,List.append_toArray,List.nil_append,List.cons_append]
 gi_wp2_with (fail)
 refine⟨trivial,(callsIn_wide.2 (hpOpen ps A1 A2 A3 c1 c2 c3 ws us xs _ HR.out (HM.out.below (below_alloc (Below.refl _ _) _)))).mono ?_⟩
 rintro e w10 ⟨sb,A5,c5,rfl,hsb,hbx,ho,hb⟩
 rw[←HOE.out] at hbx ho
 have HBX:=As hbx
 have HO:=As ho
 have HB:=As (below_step (below_alloc (Below.refl w.heap.size w) _) hb)
 clear hb hbx ho hsb
 dsimp only
 gi_wp2_with (fail)
 refine⟨trivial,(hpCur0 Fence.wide 3 trivial rfl sb _).mono ?_⟩
 rintro e w' ⟨rfl,rfl⟩
 dsimp only
 gi_wp2_with (fail)
 have HOS:=As (show os.length < 500000 from HOE.out▸HR.out.good.few 0)
 have bO:=(Boxed.new w10 25 (.slice none 0 0)).alloc (.cells #[.pointer (some ⟨sb,0,none⟩)] 75)
 have bN:=Boxed.new (w10.alloc (.cells #[.slice none 0 0] 25)) 75 (.pointer (some ⟨sb,0,none⟩))
 rw[World.size_alloc] at bN
 have hB0:Below w10.heap.size w10 ((w10.alloc (.cells #[.slice none 0 0] 25)).alloc (.cells #[.pointer (some ⟨sb,0,none⟩)] 75)):=((Below.refl _ w10).alloc (Nat.le_refl _) _).alloc (by simp) _
 have hsz:((w10.alloc (.cells #[.slice none 0 0] 25)).alloc (.cells #[.pointer (some ⟨sb,0,none⟩)] 75)).heap.size=w10.heap.size + 2:=by simp
 rw[World.size_alloc]
 have hC:=(Kd.R_reads' HO.out).2.2
 have hs4:=Z.c4 HBX.out
 obtain⟨W0,hW0⟩:∃W0,(w10.alloc (.cells #[.slice none 0 0] 25)).alloc (.cells #[.pointer (some ⟨sb,0,none⟩)] 75)=W0:=⟨_,rfl⟩
 rw[hW0] at bO bN hB0 hsz ⊢
 clear hW0
 obtain⟨i0,hi,hz0,hz1,hz2⟩:=info_parts info39
 refine wpIn_rangeFunc_ownH rfl (by decide) (gf:=87) (lb:=#[.pointer (some ⟨w10.heap.size + 1,0,none⟩)]) rfl trivial (enters_of Tryz.func87 (by kernel_rfl) rfl)
  (hpCurs 3 (by decide) (w10.heap.size + 1) sb A5 c5 os HCU.out HOS.out w10 hC W0 hB0 bN.cell (keepc hB0 hs4)) belowK_t (belowK_b (by omega)) (Below.refl _ _) (fun _=>rfl)
  (fun pre W=>(∃v,Boxed W w10.heap.size 25 v∧W.ownsRow w10.heap.size 39 1 v pre.length ((pre.map (·.f2)).map (Value.int .u64))∧True)∧Below w10.heap.size w10 W)
  (fun _ _ _=>False)
  (OwnFrom.and (Own.from (holdsRow_own w10.heap.size w10.heap.size 25 39 1 (fun pre:List S92=>pre.length) (fun pre=>(pre.map (·.f2)).map (Value.int .u64)) (fun _ _=>True)) _) (ownFrom_below (Nat.le_refl _) (by omega)))
  (fun _ _ _ _ _ hs _ _=>hs)
  ⟨⟨_,bO,World.ownsRow_nil _ _ _ _,trivial⟩,hB0⟩
  (fun x a' W=>∃Bx,w10.heap.size < Bx∧W.heap[Bx]? =some (.cells #[.int .i64 x.f0,.int .i64 x.f1,.int .u64 x.f2,.int .i64 x.f3.f0,.int .u64 x.f3.f1,.bool x.f4] 92 (0,0))∧a'={tmps:=#[.agg #[.slice A1 ws.length c1,.int .i64 30,.slice A2 us.length c2,.slice A3 xs.length c3],.pointer (some ⟨w.heap.size,0,none⟩),.slice none 0 0,.int .i64 0,.pointer (some ⟨sb,0,none⟩),.int .i64 0,.pointer (some ⟨w10.heap.size,0,none⟩),.pointer (some ⟨Bx,0,none⟩),.tuple #[.pointer (some ⟨sb,0,none⟩),.int .i64 0],.agg #[.slice A1 ws.length c1,.int .i64 30,.slice A2 us.length c2,.slice A3 xs.length c3],.tuple #[.pointer (some ⟨sb,0,none⟩),.int .i64 0],.pointer (some ⟨sb,0,none⟩),.int .i64 0,.int .i64 0,.bool false,undef,.pointer (some ⟨sb,0,none⟩),.func (.func 87) #[] #[.pointer (some ⟨w10.heap.size + 1,0,none⟩)],obV x,undef,undef,undef,undef,undef,undef],defers:=[]})
  (fun x a' _ X Y row hs hg hr=>by
   obtain⟨Bx,h1,h2,h3⟩:=hs
   refine⟨Bx,h1,(hg.block Bx (Array.getElem?_eq_some_iff.1 h2).1 (fun e=>?_)).trans h2,h3⟩
   obtain⟨o,ho,hc⟩:=(hr Bx e.symm).2
   rw[h2] at ho
   injection ho with ho
   subst ho
   cases hc)
  ?assign ?body ?done ?stop
 case assign=>
  rintro l pre x W K ⟨⟨v,hv,hrow, -⟩,hB1⟩ hK
  unfold obV at *
  gi_wp2
  exact hK _ _ ((KeepsOthers.alloc _ _).from _) ((Below.refl _ W).alloc hB1.size _) ⟨⟨v,hv.alloc _,hrow.alloc _,trivial⟩,hB1.alloc hB1.size _⟩ ⟨W.heap.size,hv.lt,World.alloc_heap_new W _,rfl⟩
 case body=>
  rintro l pre x a' W hl ⟨r,hr⟩ ⟨⟨v,hv,hrow, -⟩,hB1⟩ ⟨Bx,hBx,bX,rfl⟩ hlt
  have hc:=hv.cell
  have hx2:=Z.c2 bX
  have HLT:=As (show pre.length < 500000 from Nat.lt_trans hlt HOS.out)
  clear hlt
  unfold obV
  gi_wp2_with (gi_at_builtin;refine wpListIn_append_own _ rfl _ _ 25 rfl w10.heap.size 39 i0 (.int .u64 0) 1 8 Tryz.underlying25 hi hz0 hz1 hz2 rfl (by decide) _ _ _ rfl (hrow.alloc _) ⟨W.heap.size,0,none⟩ 1 1 [.int .u64 x.f2] rfl rfl (cell_one_new _ _ _) (by simp[Value.oneCell']) (by have:=HLT.out;unfold maxLen;omega) (by have:=HLT.out;omega) (by have:=hB1.size;simp;omega) ?_;intro v' w1 hown' hgrow _;obtain⟨g',cap',rfl⟩:=ownsRow_succ hown';obtain⟨hv1,hv2,hr2,hk2,hb2⟩:=hv.appended (by decide) hrow hB1.size (Nat.le_refl _) hown' hgrow;have hc1:=hv1.cell;have hf1:=hv1.frozen)
  exact⟨hk2.from _,hb2,⟨⟨_,hv2,by simpa using hr2,trivial⟩,hB1.trans hb2⟩⟩
 case done=>
  rintro D ys W hD rfl ⟨⟨v,hv,hrow, -⟩,hB1⟩ hK
  have hc:=hv.cell
  gi_wp2
  refine⟨by simp,.inl ⟨_,_,rfl,run_takeDeferred hK,?_⟩⟩
  have hrow2:=Kd.R_of_own (ok:=fun _=>True) (h1:=fun _=>rfl) (enc:=Value.int .u64) (xs:=ys.map (·.f2)) (by rw[List.length_map];exact ownsRow_putObj hrow (.deferred none) hK rfl) (fun _ _=>trivial)
  obtain⟨A,c,rfl⟩:=Kd.R_slice hrow2
  obtain⟨-,hcc,hCC⟩:=Kd.R_reads' hrow2
  rw[List.length_map] at hcc hCC
  refine⟨_,results_tmp2 rfl _ _ _,A,c,?_,hcc,hCC,HB.out.trans ((hB1.trans (belowK_b (w:=w10) (Nat.le_refl _) W D _ _ (by omega) hK rfl rfl)).mono HB.out.size)⟩
  simp
 case stop=>
  rintro D c pre W _ _ h _
  exact h.elim
end Go.Proofs.YtmmfchnbfnegnaaGreatDoor.K
end
section
namespace Go.Proofs.YtmmfchnbfnegnaaGreatDoor.K
open Go.RowKit Go.Proofs.YtmmfchnbfnegnaaGreatDoorW.PrintWords Go.Proofs.YtmmfchnbfnegnaaGreatDoorW.PrintLast Go.Proofs.YtmmfchnbfnegnaaGreatDoorW.PrintMore Go.Proofs.YtmmfchnbfnegnaaGreatDoor.GK Go.Proofs.YtmmfchnbfnegnaaGreatDoor.Pu Go.Proofs.YtmmfchnbfnegnaaGreatDoor.PuBitW Go.Proofs.YtmmfchnbfnegnaaGreatDoor.PuBits
set_option linter.unusedVariables false
section
variable {P:Nat→Prop} {w:World} {v:Value} {ps:List Sp}
theorem hpNewI (h:HpIs P w v ps) (hnew:∀k,w.heap.size≤k→P k) (hT:TzOk w) (n:Int) (M:Nat) (hM64:M < 18446744073709551616) (black:Bool):
  Calls Tryz.prog 6 #[v,.agg #[.int .i64 n,.int .u64 (M:Int)],.bool black] w fun e w'=>
   ∃(g:Value) (a:Nat) (why:Int),e=.returned (.tuple #[g,.int .u64 (a:Int),.int .i64 why])∧Below w.heap.size w w'∧(∃B1 B2 B3 d1 d2 d3 m1 m2 m3,g=hpV B1 B2 B3 d1 d2 d3 m1 m2 m3)∧(why≠0∨why=0∧∃(ps':List Sp) (n0:Nat),n=(n0:Int)∧HpIs P w' g ps'∧More ps ps' a ⟨n0,M,black⟩):=by
 obtain⟨A1,A2,A3,c1,c2,c3,ws,us,xs,rfl,hr,hl,h1,h2,h3⟩:=h
 refine (hpNew ps A1 A2 A3 c1 c2 c3 ws us xs w hr ⟨Kd.F_now h1,hl.1,Kd.F_now h2,hl.2.1,Kd.F_now h3,hl.2.2⟩ _ (Kd.F_bound h3) (fun k hk=>hk.2) hT n M hM64 black).mono ?_
 rintro e w' ⟨g,a,why,he,hb,hg,hc⟩
 refine⟨g,a,why,he,hb,hg,?_⟩
 rcases hc with hc|⟨hc,ps',n0,hn,hi,hm⟩
 ·exact .inl hc
 ·exact .inr ⟨hc,ps',n0,hn,hi.mono (fun k hk=>hk.elim (fun h=>h.1) (hnew k)),hm⟩
theorem hpTurnI (h:HpIs P w v ps) (hnew:∀k,w.heap.size≤k→P k) (hsw:∀p∈ps,p.swept=true):
  Calls Tryz.prog 8 #[v] w fun e w'=>∃g:Value,e=.returned (.tuple #[g,.int .i64 0])∧Below w.heap.size w w'∧HpIs P w' g (ps.map Sp.un):=by
 obtain⟨A1,A2,A3,c1,c2,c3,ws,us,xs,rfl,hr,hl,h1,h2,h3⟩:=h
 refine (hpTurn ps A1 A2 A3 c1 c2 c3 ws us xs w hr ⟨Kd.F_now h1,hl.1,Kd.F_now h2,hl.2.1,Kd.F_now h3,hl.2.2⟩ _ (Kd.F_bound h3) (fun k hk=>hk.2) hsw).mono ?_
 rintro e w' ⟨g,he,hb,hi⟩
 exact⟨g,he,hb,hi.mono (fun k hk=>hk.elim (fun h=>h.1) (hnew k))⟩
theorem hpCleanI (h:HpIs P w v ps) (hnew:∀k,w.heap.size≤k→P k) (hT:TzOk w) (p:Sp) (hp:p∈ps) (hs:p.swept=false):
  Calls Tryz.prog 9 #[v,.int .i64 (p.first:Int)] w fun e w'=>
   ∃(g:Value) (A:Option Addr) (c:Nat) (gone:List Int) (ps':List Sp),e=.returned (.tuple #[g,.slice A gone.length c,.int .i64 0])∧gone.length≤c∧Kd.C (Kd.int .u64) w' A gone.length gone∧Below w.heap.size w w'∧HpIs P w' g ps'∧Cl ps ps' p gone:=by
 obtain⟨A1,A2,A3,c1,c2,c3,ws,us,xs,rfl,hr,hl,h1,h2,h3⟩:=h
 obtain⟨i,hi⟩:=List.mem_iff_getElem?.1 hp
 refine (hpClean ps A1 A2 A3 c1 c2 c3 ws us xs w hr ⟨Kd.F_now h1,hl.1,Kd.F_now h2,hl.2.1,Kd.F_now h3,hl.2.2⟩ _ (Kd.F_bound h3) (fun k hk=>hk.2) hT i p hi hs).mono ?_
 rintro e w' ⟨g,A,c,gone,ps',he,hc,hC,hb,hi,hcl⟩
 exact⟨g,A,c,gone,ps',he,hc,hC,hb,hi.mono (fun k hk=>hk.elim (fun h=>h.1) (hnew k)),hcl⟩
theorem hpObjectsI (h:HpIs P w v ps) (os:List S92) (hos:os=objsF 0 ps) (hcur:∀x∈os,x.f4=true):
  Calls Tryz.prog 12 #[v] w fun e w'=>∃(A:Option Addr) (c:Nat),e=.returned (.tuple #[.slice A os.length c,.int .i64 0])∧os.length≤c∧Kd.C (Kd.int .u64) w' A os.length (os.map (·.f2))∧Below w.heap.size w w':=by
 obtain⟨A1,A2,A3,c1,c2,c3,ws,us,xs,rfl,hr,hl,h1,h2,h3⟩:=h
 exact hpObjects ps A1 A2 A3 c1 c2 c3 ws us xs w hr ⟨Kd.F_now h1,hl.1,Kd.F_now h2,hl.2.1,Kd.F_now h3,hl.2.2⟩ os hos hcur
theorem hpAtI (h:HpIs P w v ps) (a:Nat) (o:Ob) (hh:∃p∈ps,∃k,p.ob k=some o∧p.ad k=a∧(p.swept || o.b)=true):
  Calls Tryz.prog 14 #[v,.int .u64 (a:Int)] w fun e w'=>e=.returned (.tuple #[.agg #[.int .i64 (o.n:Int),.int .u64 (o.m:Int)],.int .i64 0])∧Below w.heap.size w w':=by
 obtain⟨A1,A2,A3,c1,c2,c3,ws,us,xs,rfl,hr,hl,h1,h2,h3⟩:=h
 exact hpAt ps A1 A2 A3 c1 c2 c3 ws us xs w hr ⟨Kd.F_now h1,hl.1,Kd.F_now h2,hl.2.1,Kd.F_now h3,hl.2.2⟩ a o hh
theorem HpIs.good (h:HpIs P w v ps):Good ps:=by
 obtain⟨A1,A2,A3,c1,c2,c3,ws,us,xs,rfl,hr,hl,h1,h2,h3⟩:=h
 exact hr.good
end
end Go.Proofs.YtmmfchnbfnegnaaGreatDoor.K
end
section
namespace Go.Proofs.YtmmfchnbfnegnaaGreatDoor.K
open Go.RowKit Go.Proofs.YtmmfchnbfnegnaaGreatDoorW.PrintWords Go.Proofs.YtmmfchnbfnegnaaGreatDoorW.PrintLast Go.Proofs.YtmmfchnbfnegnaaGreatDoorW.PrintMore Go.Proofs.YtmmfchnbfnegnaaGreatDoor.GK Go.Proofs.YtmmfchnbfnegnaaGreatDoor.Pu Go.Proofs.YtmmfchnbfnegnaaGreatDoor.PuBitW Go.Proofs.YtmmfchnbfnegnaaGreatDoor.PuBits
set_option linter.unusedVariables false
structure St1 (ps:List Sp) (all kept:List Int) (ls:List S48):Prop where
 sw:∀p∈ps,p.swept=true
 mall:∀a:Int,a∈all↔∃(n:Nat) (u:Ob),a=(n:Int)∧Has ps n u
 mkept:∀a:Int,a∈kept↔∃(n:Nat) (u:Ob),a=(n:Int)∧Has ps n u∧u.b=true
 nd:kept.Nodup
 sp:SpOk ls
 mls:∀a:Int,a∈ls.map (·.f0)↔a∈all
theorem St1.nil:St1 [] [] [] []:=by
 have no:∀a u,¬Has [] a u:=fun a u ⟨p,hp,_⟩=>by cases hp
 exact⟨fun p hp=>(by cases hp),fun a=>⟨fun h=>(by cases h),fun ⟨n,u,_,h⟩=>absurd h (no n u)⟩,fun a=>⟨fun h=>(by cases h),fun ⟨n,u,_,h,_⟩=>absurd h (no n u)⟩,List.nodup_nil,⟨List.Pairwise.nil,fun x hx=>(by cases hx)⟩,fun a=>Iff.rfl⟩
theorem Has.ge {ps:List Sp} (h:Good ps) {a:Nat} {o:Ob} (ho:Has ps a o):16≤a:=by
 obtain⟨p,hp,k,_,rfl⟩:=ho
 exact (h.sp p hp).lo16 k
theorem St1.more {ps ps':List Sp} {all kept:List Int} {ls:List S48} (h:St1 ps all kept ls) (hg:Good ps') {a:Nat} {o:Ob} (hm:More ps ps' a o) (t:Int):St1 ps' (all ++ [(a:Int)]) (if o.b=true then kept ++ [(a:Int)] else kept) (insS ⟨(a:Int),2,t⟩ ls):=by
 have hnew:(a:Int) ∉ all:=fun hc=>by
  obtain⟨n,u,e,hu⟩:=(h.mall _).1 hc
  have:n=a:=by omega
  exact hm.new u (this▸hu)
 have hall:∀b:Int,b∈all ++ [(a:Int)]↔∃(n:Nat) (u:Ob),b=(n:Int)∧Has ps' n u:=fun b=>by
  rw[List.mem_append,List.mem_singleton,h.mall]
  constructor
  ·rintro (⟨n,u,e,hu⟩|e)
   ·exact⟨n,u,e,(hm.has n u).2 (.inr hu)⟩
   ·exact⟨a,o,e,(hm.has a o).2 (.inl ⟨rfl,rfl⟩)⟩
  ·rintro⟨n,u,e,hu⟩
   rcases (hm.has n u).1 hu with⟨rfl,rfl⟩|hu
   ·exact .inr e
   ·exact .inl ⟨n,u,e,hu⟩
 refine⟨hm.sw h.sw,hall,fun b=>?_,?_,h.sp.ins rfl ?_ (fun hc=>hnew ((h.mls _).1 hc)),fun b=>?_⟩
 ·by_cases hb:o.b=true
  ·rw[if_pos hb,List.mem_append,List.mem_singleton,h.mkept]
   constructor
   ·rintro (⟨n,u,e,hu,hub⟩|e)
    ·exact⟨n,u,e,(hm.has n u).2 (.inr hu),hub⟩
    ·exact⟨a,o,e,(hm.has a o).2 (.inl ⟨rfl,rfl⟩),hb⟩
   ·rintro⟨n,u,e,hu,hub⟩
    rcases (hm.has n u).1 hu with⟨rfl,rfl⟩|hu
    ·exact .inr e
    ·exact .inl ⟨n,u,e,hu,hub⟩
  ·rw[if_neg hb,h.mkept]
   constructor
   ·rintro⟨n,u,e,hu,hub⟩
    exact⟨n,u,e,(hm.has n u).2 (.inr hu),hub⟩
   ·rintro⟨n,u,e,hu,hub⟩
    rcases (hm.has n u).1 hu with⟨rfl,rfl⟩|hu
    ·exact absurd hub hb
    ·exact⟨n,u,e,hu,hub⟩
 ·split
  ·rw[List.nodup_append]
   refine⟨h.nd,by simp,fun x hx y hy e=>?_⟩
   rw[List.mem_singleton] at hy
   subst hy;subst e
   obtain⟨n,u,e,hu,_⟩:=(h.mkept _).1 hx
   exact hnew ((h.mall _).2 ⟨n,u,e,hu⟩)
  ·exact h.nd
 ·have:=Has.ge hg ((hm.has a o).2 (.inl ⟨rfl,rfl⟩))
  show (16:Int)≤(a:Int)
  omega
 ·rw[List.mem_append,List.mem_singleton,←h.mls b,List.mem_map,List.mem_map]
  constructor
  ·rintro⟨x,hx,rfl⟩
   rcases (insS_mem _ ls x).1 hx with rfl|hx
   ·exact .inr rfl
   ·exact .inl ⟨x,hx,rfl⟩
  ·rintro (⟨x,hx,rfl⟩|e)
   ·exact⟨x,(insS_mem _ ls x).2 (.inr hx),rfl⟩
   ·exact⟨⟨(a:Int),2,t⟩,(insS_mem _ ls _).2 (.inl rfl),e.symm⟩
structure St2 (ps:List Sp) (j:Nat) (qs:List Sp):Prop where
 keep:∀m p,j≤m→ps[m]? =some p→p.un∈qs
 sw:∀q∈qs,(q.swept=true∧∀k o,q.ob k=some o→o.b=true)∨∃m p,j≤m∧ps[m]? =some p∧q=p.un
 sub:∀a u,Has qs a u→Has ps a u
 mkd:∀a u,Has ps a u→u.b=true→Has qs a u
theorem St2.start (ps:List Sp):St2 ps 0 (ps.map Sp.un):=by
 refine⟨fun m p _ hp=>List.mem_map.2 ⟨p,List.mem_of_getElem? hp,rfl⟩,fun q hq=>?_,fun a u h=>(un_has a u).1 h,fun a u h _=>(un_has a u).2 h⟩
 obtain⟨p,hp,rfl⟩:=List.mem_map.1 hq
 obtain⟨m,hm⟩:=List.mem_iff_getElem?.1 hp
 exact .inr ⟨m,p,Nat.zero_le _,hm,rfl⟩
theorem St2.step {ps:List Sp} (hg:Good ps) {j:Nat} {qs qs':List Sp} (h:St2 ps j qs) {p:Sp} (hp:ps[j]? =some p) {gone:List Int} (hc:Cl qs qs' p.un gone):St2 ps (j + 1) qs':=by
 have hpq:=h.keep j p (Nat.le_refl _) hp
 refine⟨fun m r hm hr=>hc.keep _ (h.keep m r (by omega) hr) (fun e=>?_),fun q hq=>?_,fun a u hu=>h.sub a u ((hc.has a u).1 hu).1,fun a u hu hub=>(hc.has a u).2 ⟨h.mkd a u hu hub,fun hgo=>?_⟩⟩
 ·have:=hg.firsts hr hp e;omega
 ·rcases hc.sw q hq with h1|⟨h1,h2⟩
  ·exact .inl h1
  ·rcases h.sw q h1 with h3|⟨m,r,hm,hr,rfl⟩
   ·exact .inl h3
   ·refine .inr ⟨m,r,?_,hr,rfl⟩
    rcases Nat.lt_or_ge j m with c|c
    ·exact c
    ·have:m=j:=by omega
     subst this
     rw[hp] at hr
     injection hr with hr
     subst hr
     exact absurd rfl h2
 ·obtain⟨k,o,ho,hb,e⟩:=(hc.mem _).1 hgo
  have:Has ps a o:=h.sub a o ⟨p.un,hpq,k,ho,by omega⟩
  rw[Has.one hg hu this,hb] at hub
  cases hub
theorem gone_facts {ps:List Sp} (hg:Good ps) {all kept:List Int} {ls:List S48} (h1:St1 ps all kept ls) {j:Nat} {qs qs':List Sp} (h:St2 ps j qs) {p:Sp} (hp:ps[j]? =some p) {gone:List Int} (hc:Cl qs qs' p.un gone) {a:Int} (ha:a∈gone):a ∉ kept∧a∈all∧∃(n:Nat) (u:Ob),a=(n:Int)∧Has qs n u:=by
 obtain⟨k,o,ho,hb,rfl⟩:=(hc.mem _).1 ha
 have hq:Has qs (p.un.ad k) o:=⟨p.un,h.keep j p (Nat.le_refl _) hp,k,ho,rfl⟩
 refine⟨fun hk=>?_,(h1.mall _).2 ⟨_,o,rfl,h.sub _ _ hq⟩,_,o,rfl,hq⟩
 obtain⟨n,u,e,hu,hub⟩:=(h1.mkept _).1 hk
 have en:n=p.un.ad k:=by omega
 subst en
 rw[Has.one hg hu (h.sub _ _ hq),hb] at hub
 cases hub
structure Sp2 (qs:List Sp) (out:List Int) (ls:List S48):Prop where
 sp:SpOk ls
 mls:∀a:Int,a∈ls.map (·.f0)↔(∃(n:Nat) (u:Ob),a=(n:Int)∧Has qs n u)∧a ∉ out
theorem Sp2.start {ps:List Sp} {all kept:List Int} {ls:List S48} (h:St1 ps all kept ls):Sp2 (ps.map Sp.un) [] ls:=by
 refine⟨h.sp,fun a=>?_⟩
 rw[h.mls,h.mall]
 constructor
 ·rintro⟨n,u,e,hu⟩
  exact⟨⟨n,u,e,(un_has n u).2 hu⟩,by simp⟩
 ·rintro⟨⟨n,u,e,hu⟩,_⟩
  exact⟨n,u,e,(un_has n u).1 hu⟩
theorem Sp2.take {qs:List Sp} {out:List Int} {ls:List S48} (h:Sp2 qs out ls) (a:Int):Sp2 qs (out ++ [a]) (ls.filter fun x=>!decide (x.f0=a)):=by
 refine⟨h.sp.filter _,fun b=>?_⟩
 have:b∈(ls.filter fun x=>!decide (x.f0=a)).map (·.f0)↔b∈ls.map (·.f0)∧b≠a:=by
  rw[List.mem_map,List.mem_map]
  constructor
  ·rintro⟨x,hx,rfl⟩
   obtain⟨h1,h2⟩:=List.mem_filter.1 hx
   exact⟨⟨x,h1,rfl⟩,by simpa using h2⟩
  ·rintro⟨⟨x,hx,rfl⟩,hne⟩
   exact⟨x,List.mem_filter.2 ⟨hx,by simpa using hne⟩,rfl⟩
 rw[this,h.mls,List.mem_append,List.mem_singleton]
 constructor
 ·rintro⟨⟨h1,h2⟩,h3⟩
  exact⟨h1,fun hc=>hc.elim h2 h3⟩
 ·rintro⟨h1,h2⟩
  exact⟨⟨h1,fun hc=>h2 (.inl hc)⟩,fun hc=>h2 (.inr hc)⟩
theorem Sp2.done {qs qs':List Sp} {p:Sp} {gone:List Int} {ls:List S48} (h:Sp2 qs gone ls) (hc:Cl qs qs' p gone):Sp2 qs' [] ls:=by
 refine⟨h.sp,fun a=>(h.mls a).trans ?_⟩
 constructor
 ·rintro⟨⟨n,u,rfl,hu⟩,hg⟩
  exact⟨⟨n,u,rfl,(hc.has n u).2 ⟨hu,hg⟩⟩,by simp⟩
 ·rintro⟨⟨n,u,rfl,hu⟩,_⟩
  obtain⟨h1,h2⟩:=(hc.has n u).1 hu
  exact⟨⟨n,u,rfl,h1⟩,h2⟩
theorem objsF_lt {qs:List Sp} (h:Good qs):((objsF 0 qs).map (·.f2)).Pairwise (· < ·):=by
 rw[List.pairwise_map]
 have hs:=objsF_sorted h 0
 rw[List.pairwise_iff_getElem] at hs ⊢
 intro a b ha hb hab
 have h1:=hs a b ha hb hab
 have h3:=(objsF_bounds h (List.getElem_mem ha)).2.2.1
 unfold Behind at h1
 omega
theorem now_mem {qs:List Sp} (h:Good qs) (a:Int):a∈(objsF 0 qs).map (·.f2)↔∃(n:Nat) (u:Ob),a=(n:Int)∧Has qs n u:=by
 rw[List.mem_map]
 constructor
 ·rintro⟨x,hx,rfl⟩
  obtain⟨n,o,e1,_,e3⟩:=obj_has hx
  exact⟨n,o,e1,e3⟩
 ·rintro⟨n,u,rfl,hu⟩
  obtain⟨x,hx,e⟩:=has_obj h hu 0
  exact⟨x,hx,e⟩
structure End (ps qs:List Sp) (kept:List Int) (ls:List S48):Prop where
 cur:∀x∈objsF 0 qs,x.f4=true
 now:(objsF 0 qs).map (·.f2)=ls.map (·.f0)
 len:(objsF 0 qs).length=kept.length
 at_:∀a∈kept,∃(n:Nat) (u:Ob),a=(n:Int)∧(∃p∈ps,∃k,p.ob k=some u∧p.ad k=n∧(p.swept || u.b)=true)∧(∃p∈qs,∃k,p.ob k=some u∧p.ad k=n∧(p.swept || u.b)=true)∧a∈(objsF 0 qs).map (·.f2)
theorem St2.fin {ps qs:List Sp} (hgq:Good qs) {all kept:List Int} {ls0 ls:List S48} (h1:St1 ps all kept ls0) (h:St2 ps ps.length qs) (hs:Sp2 qs [] ls):End ps qs kept ls:=by
 have hsw:∀q∈qs,q.swept=true∧∀k o,q.ob k=some o→o.b=true:=fun q hq=>by
  rcases h.sw q hq with h2|⟨m,p,hm,hp,_⟩
  ·exact h2
  ·have:=(List.getElem?_eq_some_iff.1 hp).1;omega
 have hb:∀a u,Has qs a u→u.b=true:=fun a u ⟨q,hq,k,hk,_⟩=>(hsw q hq).2 k u hk
 refine⟨fun x hx=>?_,sorted_eq (objsF_lt hgq) hs.sp.sorted (fun a=>?_),?_,fun a ha=>?_⟩
 ·obtain⟨j,p,k,o,hp,hk,ho,rfl⟩:=mem_objsF.1 hx
  show (p.swept || o.b)=true
  rw[(hsw p (List.mem_of_getElem? hp)).1];rfl
 ·rw[now_mem hgq,hs.mls]
  exact⟨fun h=>⟨h,by simp⟩,fun h=>h.1⟩
 ·have e:=nodup_len (sorted_nodup (objsF_lt hgq)) h1.nd (fun a=>by
   rw[now_mem hgq,h1.mkept]
   constructor
   ·rintro⟨n,u,e,hu⟩
    exact⟨n,u,e,h.sub n u hu,hb n u hu⟩
   ·rintro⟨n,u,e,hu,hub⟩
    exact⟨n,u,e,h.mkd n u hu hub⟩)
  rw[List.length_map] at e
  exact e
 ·obtain⟨n,u,e,⟨p,hp,k,hk1,hk2⟩,hub⟩:=(h1.mkept a).1 ha
  obtain⟨q,hq,l,hl1,hl2⟩:=h.mkd n u ⟨p,hp,k,hk1,hk2⟩ hub
  exact⟨n,u,e,⟨p,hp,k,hk1,hk2,by rw[hub];simp⟩,⟨q,hq,l,hl1,hl2,by rw[hub];simp⟩,(now_mem hgq a).2 ⟨n,u,e,q,hq,l,hl1,hl2⟩⟩
end Go.Proofs.YtmmfchnbfnegnaaGreatDoor.K
end
section
namespace Go.Proofs.YtmmfchnbfnegnaaGreatDoor.K
open Go.RowKit Go.Proofs.YtmmfchnbfnegnaaGreatDoorW.PrintWords Go.Proofs.YtmmfchnbfnegnaaGreatDoorW.PrintLast Go.Proofs.YtmmfchnbfnegnaaGreatDoorW.PrintMore Go.Proofs.YtmmfchnbfnegnaaGreatDoor.GK Go.Proofs.YtmmfchnbfnegnaaGreatDoor.Pu Go.Proofs.YtmmfchnbfnegnaaGreatDoor.PuBitW Go.Proofs.YtmmfchnbfnegnaaGreatDoor.PuBits
set_option linter.unusedVariables false
set_option linter.unusedSimpArgs false
attribute [local go_sem] max2_int min2_int max_two min_two max_three min_three max_four min_four
theorem meas {n i:Nat} (h:i < n) {z:Int} (hz:z=((i + 1:Nat):Int)):n - (intOf (.int .i64 z)).toNat < n - (intOf (.int .i64 (i:Int))).toNat:=by
 subst hz
 show n - ((i + 1:Nat):Int).toNat < n - ((i:Nat):Int).toNat
 rw[Int.toNat_natCast,Int.toNat_natCast]
 omega
structure HpF (P:Nat→Prop) (w:World) (A1 A2 A3:Option Addr) (c1 c2 c3:Nat) (ws us:List Int) (xs:List S51) (ps:List Sp):Prop where
 r:HRel ps ws us xs
 l:ws.length≤c1∧us.length≤c2∧xs.length≤c3
 f1:Kd.F (Kd.int .u64) w P A1 ws.length ws
 f2:Kd.F (Kd.int .u64) w P A2 us.length us
 f3:Kd.F k51 w P A3 xs.length xs
section
variable {P P':Nat→Prop} {w w':World} {A1 A2 A3:Option Addr} {c1 c2 c3:Nat} {ws us:List Int} {xs:List S51} {ps:List Sp} {v:Value}
theorem HpF.is (h:HpF P w A1 A2 A3 c1 c2 c3 ws us xs ps):HpIs P w (.agg #[.slice A1 ws.length c1,.int .i64 30,.slice A2 us.length c2,.slice A3 xs.length c3]) ps:=⟨A1,A2,A3,c1,c2,c3,ws,us,xs,rfl,h.r,h.l,h.f1,h.f2,h.f3⟩
theorem HpIs.op (h:HpIs P w v ps):∃A1 A2 A3 c1 c2 c3 ws us xs,v=.agg #[.slice A1 ws.length c1,.int .i64 30,.slice A2 us.length c2,.slice A3 xs.length c3]∧HpF P w A1 A2 A3 c1 c2 c3 ws us xs ps:=by
 obtain⟨A1,A2,A3,c1,c2,c3,ws,us,xs,e,hr,hl,h1,h2,h3⟩:=h
 exact⟨A1,A2,A3,c1,c2,c3,ws,us,xs,e,hr,hl,h1,h2,h3⟩
theorem HpF.mono (h:HpF P w A1 A2 A3 c1 c2 c3 ws us xs ps) (hp:∀k,P k→P' k):HpF P' w A1 A2 A3 c1 c2 c3 ws us xs ps:=⟨h.r,h.l,Kd.F_mono h.f1 hp,Kd.F_mono h.f2 hp,Kd.F_mono h.f3 hp⟩
theorem HpF.step (h:HpF P w A1 A2 A3 c1 c2 c3 ws us xs ps) (hs:∀k,P k→k < w.heap.size→w'.heap[k]? =w.heap[k]?):HpF P w' A1 A2 A3 c1 c2 c3 ws us xs ps:=⟨h.r,h.l,Kd.F_step h.f1 hs,Kd.F_step h.f2 hs,Kd.F_step h.f3 hs⟩
theorem HpF.below (h:HpF P w A1 A2 A3 c1 c2 c3 ws us xs ps) (hb:Below w.heap.size w w'):HpF P w' A1 A2 A3 c1 c2 c3 ws us xs ps:=h.step (fun k _ hk=>hb.block k hk)
theorem HpF.bound (h:HpF P w A1 A2 A3 c1 c2 c3 ws us xs ps):HpF (fun k=>P k∧k < w.heap.size) w A1 A2 A3 c1 c2 c3 ws us xs ps:=⟨h.r,h.l,Kd.F_bound h.f1,Kd.F_bound h.f2,Kd.F_bound h.f3⟩
theorem HpIs.far4 (h:HpIs P w v ps) {g:Nat} (hg:¬P g) (x0 x1 x2 x3:Value):HpIs P ((((w.setCell ⟨g,0,none⟩ x0).setCell ⟨g,1,none⟩ x1).setCell ⟨g,2,none⟩ x2).setCell ⟨g,3,none⟩ x3) v ps:=h.step (fun k hk _=>by
 have hne:k≠g:=fun e=>hg (e▸hk)
 rw[Below.heap_setCell _ ⟨g,3,none⟩ x3 k hne,Below.heap_setCell _ ⟨g,2,none⟩ x2 k hne,Below.heap_setCell _ ⟨g,1,none⟩ x1 k hne,Below.heap_setCell _ ⟨g,0,none⟩ x0 k hne])
theorem HpF.far4 (h:HpF P w A1 A2 A3 c1 c2 c3 ws us xs ps) {g:Nat} (hg:¬P g) (x0 x1 x2 x3:Value):HpF P ((((w.setCell ⟨g,0,none⟩ x0).setCell ⟨g,1,none⟩ x1).setCell ⟨g,2,none⟩ x2).setCell ⟨g,3,none⟩ x3) A1 A2 A3 c1 c2 c3 ws us xs ps:=h.step (fun k hk _=>by
 have hne:k≠g:=fun e=>hg (e▸hk)
 rw[Below.heap_setCell _ ⟨g,3,none⟩ x3 k hne,Below.heap_setCell _ ⟨g,2,none⟩ x2 k hne,Below.heap_setCell _ ⟨g,1,none⟩ x1 k hne,Below.heap_setCell _ ⟨g,0,none⟩ x0 k hne])
theorem HpIs.after {u u1:Value} {w1:World} (h:HpIs (fun k=>P k∧some k≠u.ownBlock) w v ps) (hg:w.grownBy w1 u.ownBlock) (hat:u1.ownBlock=u.ownBlock∨∃b,u1.ownBlock=some b∧w.heap.size≤b):HpIs (fun k=>P k∧some k≠u1.ownBlock) w1 v ps:=by
 obtain⟨A1,A2,A3,c1,c2,c3,ws,us,xs,e,hr,hl,h1,h2,h3⟩:=h
 exact⟨A1,A2,A3,c1,c2,c3,ws,us,xs,e,hr,hl,Kd.F_after h1 hg hat,Kd.F_after h2 hg hat,Kd.F_after h3 hg hat⟩
end
section
variable {w w0:World} {g t k:Nat} {a0 a1 a2 a3:Value} {o:Obj}
theorem set4_blk (h:w.heap[g]? =some (.cells #[a0,a1,a2,a3] t (0,0))) (x0 x1 x2 x3:Value):((((w.setCell ⟨g,0,none⟩ x0).setCell ⟨g,1,none⟩ x1).setCell ⟨g,2,none⟩ x2).setCell ⟨g,3,none⟩ x3).heap[g]? =some (.cells #[x0,x1,x2,x3] t (0,0)):=
 blk_put (cs:=#[x0,x1,x2,a3]) (cs':=#[x0,x1,x2,x3]) (blk_put (cs:=#[x0,x1,a2,a3]) (cs':=#[x0,x1,x2,a3]) (blk_put (cs:=#[x0,a1,a2,a3]) (cs':=#[x0,x1,a2,a3]) (blk_put (cs:=#[a0,a1,a2,a3]) (cs':=#[x0,a1,a2,a3]) h 0 x0 rfl) 1 x1 rfl) 2 x2 rfl) 3 x3 rfl
theorem set4_below (h:Below w0.heap.size w0 w) (hg:w0.heap.size≤g) (x0 x1 x2 x3:Value):Below w0.heap.size w0 ((((w.setCell ⟨g,0,none⟩ x0).setCell ⟨g,1,none⟩ x1).setCell ⟨g,2,none⟩ x2).setCell ⟨g,3,none⟩ x3):=below_set (below_set (below_set (below_set h hg) hg) hg) hg
theorem R_far4 {α:Type} {d:Kd α} {e base:Nat} {ok:Nat→Prop} {v:Value} {xs:List α} (h:d.R e w base ok v xs) (hok:∀k,ok k→k≠g) (x0 x1 x2 x3:Value):d.R e ((((w.setCell ⟨g,0,none⟩ x0).setCell ⟨g,1,none⟩ x1).setCell ⟨g,2,none⟩ x2).setCell ⟨g,3,none⟩ x3) base ok v xs:=
 Kd.R_far (p:=⟨g,3,none⟩) (Kd.R_far (p:=⟨g,2,none⟩) (Kd.R_far (p:=⟨g,1,none⟩) (Kd.R_far (p:=⟨g,0,none⟩) h hok x0) hok x1) hok x2) hok x3
theorem sp_far4 {base:Nat} {v:Value} {xs:List (List Value)} (h:Kd.R (Kd.raw 3) 48 w base (fun _=>True) v xs) {cells:Array Value} (hb:w.heap[g]? =some (.cells cells 34 (0,0))) (x0 x1 x2 x3:Value):Kd.R (Kd.raw 3) 48 ((((w.setCell ⟨g,0,none⟩ x0).setCell ⟨g,1,none⟩ x1).setCell ⟨g,2,none⟩ x2).setCell ⟨g,3,none⟩ x3) base (fun _=>True) v xs:=by
 have hne:=Kd.R_ne h hb (by decide)
 exact Kd.R_mono (R_far4 (Kd.R_mono (ok':=fun k=>some k=v.ownBlock) (Kd.R_tight rfl h) (fun k hk=>hk)) (fun k hk e=>hne (by rw[←e];exact hk)) x0 x1 x2 x3) (fun _ _=>trivial)
theorem sp_grown {w1:World} {base base':Nat} {v u:Value} {xs:List (List Value)} {ys:List Int} {ok:Nat→Prop} (h:Kd.R (Kd.raw 3) 48 w base (fun _=>True) v xs) (hu:Kd.R (Kd.int .u64) 39 w base' ok u ys) (hg:w.grownBy w1 u.ownBlock):Kd.R (Kd.raw 3) 48 w1 base (fun _=>True) v xs:=
 Kd.R_grown2 h rfl hg (fun k hk=>by
  obtain⟨cells,hc⟩:=Kd.R_typed hu k hk
  exact Kd.R_ne h hc (by decide))
end
theorem one_sp (w:World) (s:S48):Kd.C k48 (w.alloc (.cells #[.int .u64 s.f0,.int .u8 s.f1,.int .u64 s.f2] 48)) (some ⟨w.heap.size,0,none⟩) 1 [s]:=by
 have hb:=blk_new w (.cells #[.int .u64 s.f0,.int .u8 s.f1,.int .u64 s.f2] 48)
 refine⟨rfl,by decide,fun _=>⟨_,rfl,fun j p hj=>?_⟩⟩
 have hj0:j=0:=by
  have:=(List.getElem?_eq_some_iff.1 hj).1
  simpa using this
 subst hj0
 have hp:p=s:=by simpa using hj.symm
 subst hp
 refine⟨[.int .u64 p.f0,.int .u8 p.f1,.int .u64 p.f2],rfl,k48_mk _ p,fun i u hi=>?_⟩
 match i,hi with
 |0,hi=>rw[show u=.int .u64 p.f0 by simpa using hi.symm];exact (blk_cell hb 0).trans rfl
 |1,hi=>rw[show u=.int .u8 p.f1 by simpa using hi.symm];exact (blk_cell hb 1).trans rfl
 |2,hi=>rw[show u=.int .u64 p.f2 by simpa using hi.symm];exact (blk_cell hb 2).trans rfl
set_option maxHeartbeats 3000000 in
set_option maxRecDepth 100000 in
theorem topKept (A0 A1:Option Addr) (c0 c1:Nat) (l0:List S41) (l1:List Bool) (w:World) (h0:Kd.C k41 w A0 l0.length l0) (h1:Kd.C Kd.bool w A1 l1.length l1) (hcap0:l0.length≤c0) (hcap1:l1.length≤c1) (hwf:∀x∈l0,0≤x.f1∧x.f1 < 18446744073709551616) (hT:TzOk w):
  Calls Tryz.prog 3 #[.slice A0 l0.length c0,.slice A1 l1.length c1] w fun e w'=>e=.returned (.bool true)∧Below w.heap.size w w':=by
 have hu34:=Tryz.underlying34
 have hu41:=Tryz.underlying41
 have hu51:=Tryz.underlying51
 have hu48:=Tryz.underlying48
 have HA0:=As h0
 have HA1:=As h1
 have HWF:=As hwf
 have HT:=As hT
 have hml0:l0.length≤9223372036854775807:=h0.2.1
 have hml1:l1.length≤9223372036854775807:=h1.2.1
 clear h0 h1 hwf hT
 go_enter Tryz.func3,Tryz.ntmps3
 go_wp2_with (fail)
 refine (besomtop_begins.calls 20 true w begins_ev).mono ?_
 rintro e wA ⟨rfl,hb⟩
 have HBA:=As hb
 clear hb
 dsimp only
 go_wp2_with (fail)
 obtain⟨ws0,hmk,hrel0⟩:∃ws0,heap_Make.f 40 30=some (ws0,30,[1],[],0)∧HRel [] ws0 [1] []:=⟨_,make0,rel0⟩
 refine (heap_Make.calls 40 30 _ _ _ _ _ wA (TzOk.below HT.out HBA.out) hmk).mono ?_
 rintro e wB ⟨v0,v2,v3,rfl,hr0,hr2,hs3,hb⟩
 have hn3:=Kd.S_N hs3
 obtain⟨C1,d1,rfl⟩:=Kd.R_slice hr0
 obtain⟨C2,d2,rfl⟩:∃A c,v2=.slice A 1 c:=Kd.R_slice hr2
 obtain⟨C3,d3,rfl⟩:∃A c,v3=.slice A 0 c:=Kd.N_slice hn3
 have HF0:=As (HpF.bound (P:=fun _=>True) (⟨hrel0,⟨(Kd.R_reads' hr0).2.1,(Kd.R_reads' hr2).2.1,(Kd.N_reads' hn3).2.1⟩,Kd.F_mono (Kd.R_F hr0) (fun _ _=>trivial),Kd.F_mono (Kd.R_F hr2) (fun _ _=>trivial),Kd.F_mono (Kd.N_F hn3) (fun _ _=>trivial)⟩:HpF (fun _=>True) wB C1 C2 C3 d1 d2 d3 ws0 [1] [] []))
 have HBB:=As (below_step HBA.out hb)
 clear hr0 hr2 hs3 hn3 hb hmk hrel0 HBA
 dsimp only
 go_wp2_with (fail)
 have hgB:=HBB.out.size
 have HBC:=As (below_alloc HBB.out (Obj.cells #[.slice C1 ws0.length d1,.int .i64 30,.slice C2 1 d2,.slice C3 0 d3] 34))
 have HGH:=As (blk_new wB (Obj.cells #[.slice C1 ws0.length d1,.int .i64 30,.slice C2 1 d2,.slice C3 0 d3] 34))
 have HFC:=As (HpF.mono (P':=fun k=>(k≠wB.heap.size∧some k≠(Value.slice none 0 0).ownBlock)∧some k≠(Value.slice none 0 0).ownBlock) (HF0.out.below (below_alloc (Below.refl _ _) (Obj.cells #[.slice C1 ws0.length d1,.int .i64 30,.slice C2 1 d2,.slice C3 0 d3] 34))) (fun k hk=>⟨⟨Nat.ne_of_lt hk.2,by simp[Value.ownBlock]⟩,by simp[Value.ownBlock]⟩))
 clear HBB HF0
 generalize wB.alloc (Obj.cells #[.slice C1 ws0.length d1,.int .i64 30,.slice C2 1 d2,.slice C3 0 d3] 34)=wC at HBC HGH HFC ⊢
 generalize wB.heap.size=gh at hgB HGH HFC ⊢
 rename_i K17 hK17
 have REST:∀(x2 x3 x10 x11 x12 x13 x14 x15 x16 x17 x18 x19 x20 x21 x22 x23 x24 x25 x26 x27 x28 x29 x30 x31 x32 x33 x34 x35 x36 x37 x38 x39 x40 x41 x42 x43 x44 x45 x46 x47 x48 x49 x50 x51 x52 x53 x54 x55 x56 x57 x58 x59 x60 x61 x62 x63 x64 x65 x66 x67 x68 x69 x70 x71 x72 x73 x74 x75 x76 x77 x78 x79 x80 x81 x82 x83 x84 x85 x86 x87 x88 x89 x90 x91 x92 x93 x94 x95 x96 x97 x98 x99 x100 x101 x102 x103 x104 x105 x106 x107 x108 x109 x110 x111 x112 x113 x114 x115 x116 x117 x118 x119 x120 x121 x122 x123 x124 x125 x126 x127 x128 x129 x130 x131 x132 x133 x134 x135 x136 x137 x138 x139 x140 x141 x142 x143 x144 x145 x146 x147 x148 x149 x150 x151 x152 x153 x154 x155 x156 x157 x158 x159 x160 x161 x162 x163 x164 x165 x166 x167 x168 x169 x170 x171 x172 x173 x174 x175 x176 x177 x178 x179 x180 x181 x182 x183 x184 x185 x186 x187 x188 x189 x190 x191 x192 x193 x194 x195 x196 x197 x198 x199 x200 x201 x202 x203 x204 x205 x206 x207 x208 x209 x210 x211 x212 x213 x214 x215 x216 x217 x218 x219 x220 x221 x222 x223 x224 x225 x226 x227 x228 x229 x230 x231 x232 x233:Value) (u7 u8 u9:Value) (B1 B2 B3:Option Addr) (d1 d2 d3:Nat) (ws us:List Int) (xs:List S51) (ps:List Sp) (all kept:List Int) (ls:List S48) (wx:World),Aside0 (HpF (fun k=>(k≠gh∧some k≠u7.ownBlock)∧some k≠u8.ownBlock) wx B1 B2 B3 d1 d2 d3 ws us xs ps)→Aside0 (wx.heap[gh]? =some (.cells #[.slice B1 ws.length d1,.int .i64 30,.slice B2 us.length d2,.slice B3 xs.length d3] 34 (0,0)))→Aside0 (Kd.R (Kd.int .u64) 39 wx w.heap.size (fun k=>k≠gh∧some k≠u8.ownBlock) u7 all)→Aside0 (Kd.R (Kd.int .u64) 39 wx w.heap.size (fun k=>k≠gh∧some k≠u7.ownBlock) u8 kept)→Aside0 (Kd.R (Kd.raw 3) 48 wx w.heap.size (fun _=>True) u9 (ls.map encS))→Aside0 (St1 ps all kept ls)→Aside0 (all.length≤20∧kept.length≤20∧ls.length≤20)→Aside0 (Below w.heap.size w wx)→K17 {tmps:=#[.slice A0 l0.length c0,.slice A1 l1.length c1,x2,x3,.bool false,.pointer (some ⟨gh,0,none⟩),.int .i64 0,u7,u8,u9,x10,x11,x12,x13,x14,x15,x16,x17,x18,x19,x20,x21,x22,x23,x24,x25,x26,x27,x28,x29,x30,x31,x32,x33,x34,x35,x36,x37,x38,x39,x40,x41,x42,x43,x44,x45,x46,x47,x48,x49,x50,x51,x52,x53,x54,x55,x56,x57,x58,x59,x60,x61,x62,x63,x64,x65,x66,x67,x68,x69,x70,x71,x72,x73,x74,x75,x76,x77,x78,x79,x80,x81,x82,x83,x84,x85,x86,x87,x88,x89,x90,x91,x92,x93,x94,x95,x96,x97,x98,x99,x100,x101,x102,x103,x104,x105,x106,x107,x108,x109,x110,x111,x112,x113,x114,x115,x116,x117,x118,x119,x120,x121,x122,x123,x124,x125,x126,x127,x128,x129,x130,x131,x132,x133,x134,x135,x136,x137,x138,x139,x140,x141,x142,x143,x144,x145,x146,x147,x148,x149,x150,x151,x152,x153,x154,x155,x156,x157,x158,x159,x160,x161,x162,x163,x164,x165,x166,x167,x168,x169,x170,x171,x172,x173,x174,x175,x176,x177,x178,x179,x180,x181,x182,x183,x184,x185,x186,x187,x188,x189,x190,x191,x192,x193,x194,x195,x196,x197,x198,x199,x200,x201,x202,x203,x204,x205,x206,x207,x208,x209,x210,x211,x212,x213,x214,x215,x216,x217,x218,x219,x220,x221,x222,x223,x224,x225,x226,x227,x228,x229,x230,x231,x232,x233],defers:=[]} wx:=by
  intro x2 x3 x10 x11 x12 x13 x14 x15 x16 x17 x18 x19 x20 x21 x22 x23 x24 x25 x26 x27 x28 x29 x30 x31 x32 x33 x34 x35 x36 x37 x38 x39 x40 x41 x42 x43 x44 x45 x46 x47 x48 x49 x50 x51 x52 x53 x54 x55 x56 x57 x58 x59 x60 x61 x62 x63 x64 x65 x66 x67 x68 x69 x70 x71 x72 x73 x74 x75 x76 x77 x78 x79 x80 x81 x82 x83 x84 x85 x86 x87 x88 x89 x90 x91 x92 x93 x94 x95 x96 x97 x98 x99 x100 x101 x102 x103 x104 x105 x106 x107 x108 x109 x110 x111 x112 x113 x114 x115 x116 x117 x118 x119 x120 x121 x122 x123 x124 x125 x126 x127 x128 x129 x130 x131 x132 x133 x134 x135 x136 x137 x138 x139 x140 x141 x142 x143 x144 x145 x146 x147 x148 x149 x150 x151 x152 x153 x154 x155 x156 x157 x158 x159 x160 x161 x162 x163 x164 x165 x166 x167 x168 x169 x170 x171 x172 x173 x174 x175 x176 x177 x178 x179 x180 x181 x182 x183 x184 x185 x186 x187 x188 x189 x190 x191 x192 x193 x194 x195 x196 x197 x198 x199 x200 x201 x202 x203 x204 x205 x206 x207 x208 x209 x210 x211 x212 x213 x214 x215 x216 x217 x218 x219 x220 x221 x222 x223 x224 x225 x226 x227 x228 x229 x230 x231 x232 x233 u7 u8 u9 B1 B2 B3 d1 d2 d3 ws us xs ps all kept ls wx HF HGH H7 H8 H9 HS HL HB
  refine hK17 _ _ ?_
  clear hK17 HBC HFC
  obtain⟨A7,c7,rfl⟩:=Kd.R_slice H7.out
  obtain⟨A8,c8,rfl⟩:=Kd.R_slice H8.out
  have HC7:=As (Kd.R_reads' H7.out).2
  have HC8:=As (Kd.R_reads' H8.out).2
  have hghl:=blk_lt HGH.out
  have hh0:=Z.c0 HGH.out
  have hh1:=Z.c1 HGH.out
  have hh2:=Z.c2 HGH.out
  have hh3:=Z.c3 HGH.out
  go_wp2_with (fail)
  refine (hpTurnI (P:=fun _=>True) (HF.out.is.mono (fun _ _=>trivial)) (fun _ _=>trivial) HS.out.sw).mono ?_
  rintro e w107 ⟨g,rfl,hb,hi⟩
  obtain⟨G1,G2,G3,e1,e2,e3,gws,gus,gxs,rfl,hgf⟩:=hi.op
  have hq:=below_alloc (Below.refl w107.heap.size w107) (Obj.cells #[.slice G1 gws.length e1,.int .i64 30,.slice G2 gus.length e2,.slice G3 gxs.length e3] 34)
  have hh3:=keepc hq (keepc hb hh3)
  have hgh7:gh < w107.heap.size:=Nat.lt_of_lt_of_le hghl hb.size
  have HGG:=As (blk_new w107 (Obj.cells #[.slice G1 gws.length e1,.int .i64 30,.slice G2 gus.length e2,.slice G3 gxs.length e3] 34))
  have HGF:=As ((hgf.bound.mono (P':=fun k=>k≠w107.heap.size) (fun k hk=>Nat.ne_of_lt hk.2)).below hq)
  have HXX:=As (below_step hb hq)
  have H99:=As (Kd.R_below H9.out (below_step hb hq))
  have hgx:=hb.size
  clear hb hi hgf hh0 hh1 hh2 hq
  dsimp only
  go_wp2_with (fail)
  generalize w107.alloc (Obj.cells #[.slice G1 gws.length e1,.int .i64 30,.slice G2 gus.length e2,.slice G3 gxs.length e3] 34)=w108 at HGG HGF HXX H99 ⊢
  generalize w107.heap.size=gg at HGG HGF hgx ⊢
  clear hh3
  have hxl:xs.length≤29:=by have:=HF.out.r.good.len;have:=HF.out.r.xl;omega
  go_loopw [9,113] (fun v9 v113 wr=>∃(j:Nat) (u9:Value) (G1 G2 G3:Option Addr) (e1 e2 e3:Nat) (gws gus:List Int) (gxs:List S51) (qs:List Sp) (ls:List S48),u9=v9∧v113=.int .i64 (j:Int)∧Aside0 (j≤xs.length)∧Aside0 (HpF (fun k=>k≠gg) wr G1 G2 G3 e1 e2 e3 gws gus gxs qs)∧Aside0 (wr.heap[gg]? =some (.cells #[.slice G1 gws.length e1,.int .i64 30,.slice G2 gus.length e2,.slice G3 gxs.length e3] 34 (0,0)))∧Aside0 (Kd.R (Kd.raw 3) 48 wr w.heap.size (fun _=>True) u9 (ls.map encS))∧Aside0 (St2 ps j qs)∧Aside0 (Sp2 qs [] ls)∧Aside0 (ls.length≤20)∧Aside0 (Below wx.heap.size wx wr)) (fun v9 v113 _=>xs.length - (intOf v113).toNat)
  case atStart=>exact⟨0,_,G1,G2,G3,e1,e2,e3,gws,gus,gxs,_,ls,rfl,rfl,⟨Nat.zero_le _⟩,HGF,HGG,H99,⟨St2.start ps⟩,⟨Sp2.start HS.out⟩,⟨HL.out.2.2⟩,HXX⟩
  case round=>
   clear HGG HGF HXX H99
   obtain⟨j,u9,G1,G2,G3,e1,e2,e3,gws,gus,gxs,qs,ls2,rfl,rfl,HJ,HG,HGG,H9,HS2,HSP,HLS,HBX⟩:=hrel
   have hggl:=blk_lt HGG.out
   by_cases hlt:j < xs.length
   ·obtain⟨ad,A4,k4,A6,k6,eA,hx0,hx1,hx2,hx3,hx4,hx5,hx6,hx7, -⟩:=at_T51 (Kd.C_below (Kd.F_now HF.out.f3) HBX.out) (j:Int) (by omega) (by omega)
    rw[Int.toNat_natCast] at hx0 hx1 hx2 hx3 hx4 hx5 hx6 hx7
    rw[rd51 (by omega) (by omega)] at hx0 hx1 hx2 hx3 hx4 hx5 hx6 hx7
    obtain⟨hxr,hpg⟩:=HF.out.r.at hlt
    simp only[Int.toNat_natCast] at hx0 hx1 hx2 hx3 hx4 hx5 hx6 hx7
    have hpj:ps[j]? =some (ps[j]'(by have:=HF.out.r.xl;omega)):=List.getElem?_eq_getElem _
    obtain⟨x,hx⟩:∃x,x=xs[j]:=⟨_,rfl⟩
    obtain⟨p,hp⟩:∃p,p=ps[j]'(by have:=HF.out.r.xl;omega):=⟨_,rfl⟩
    rw[←hx] at hx0 hx1 hx2 hx3 hx4 hx5 hx6 hx7 hxr
    rw[←hp] at hxr hpj
    rw[hxr.f0] at hx0
    have HPJ:=As hpj
    have hltd:(j < xs.length)=True:=eq_true hlt
    have HLT:=As hlt
    have hgg0:=Z.c0 HGG.out
    have hgg1:=Z.c1 HGG.out
    have hgg2:=Z.c2 HGG.out
    have hgg3:=Z.c3 HGG.out
    have hB3:(some ad:Option Addr)=B3:=eA.symm
    clear hx hp hxr hpg hpj eA
    subst hB3
    go_wp2_with (fail)
    have hq:=below_alloc (Below.refl wr.heap.size wr) (Obj.cells #[.int .i64 (p.first:Int),.int .i64 x.f1,.int .i64 x.f2,.int .i64 x.f3.f0,.slice A4 x.f3.f1.length k4,.int .i64 x.f4.f0,.slice A6 x.f4.f1.length k6,.bool x.f5] 51)
    have HGD:=As HF.out.r.good
    refine (hpCleanI (P:=fun k=>k≠gg) (HG.out.below hq).is (fun k hk=>Nat.ne_of_gt (Nat.lt_of_lt_of_le hggl (Nat.le_trans hq.size hk))) (TzOk.below HT.out (below_step HB.out (below_step HBX.out hq))) p.un (HS2.out.keep j p (Nat.le_refl _) HPJ.out) rfl).mono ?_
    rintro e w121 ⟨gv,AG,cG,gone,qs',rfl,hcg,hCG,hb,hi,hcl⟩
    obtain⟨D1,D2,D3,q1,q2,q3,hws,hus,hxs,rfl,hgf⟩:=hi.op
    have hq2:=below_alloc (Below.refl w121.heap.size w121) (Obj.cells #[.slice D1 hws.length q1,.int .i64 30,.slice D2 hus.length q2,.slice D3 hxs.length q3] 34)
    have HZZ:=As (blk_new w121 (Obj.cells #[.slice D1 hws.length q1,.int .i64 30,.slice D2 hus.length q2,.slice D3 hxs.length q3] 34))
    have hqx:=below_step hq (below_step hb hq2)
    have HQX:=As hqx
    have HCL:=As hcl
    have HCG:=As (Kd.C_below hCG hq2)
    have HCC:=As (show gone.length≤cG∧gone.length≤9223372036854775807 from⟨hcg,hCG.2.1⟩)
    have HGZ:=As (hgf.below hq2)
    have HG2:=As (blk_below HGG.out hqx)
    have H92:=As (Kd.R_below H9.out hqx)
    have HBX2:=As (below_step HBX.out hqx)
    clear hq hq2 hqx hb hi hgf hcl hCG hcg hgg0 hgg1 hgg2 hgg3 hx0 hx1 hx2 hx3 hx4 hx5 hx6 hx7
    dsimp only
    go_wp2_with (fail)
    generalize w121.alloc (Obj.cells #[.slice D1 hws.length q1,.int .i64 30,.slice D2 hus.length q2,.slice D3 hxs.length q3] 34)=w122 at HZZ HQX HCG HGZ HG2 H92 HBX2 ⊢
    generalize w121.heap.size=gz at HZZ ⊢
    have hggl2:=blk_lt HG2.out
    have hgzl2:=blk_lt HZZ.out
    clear hltd
    go_loopw [9,129] (fun v9 v129 wy=>∃(m:Nat) (u9:Value) (ls:List S48),u9=v9∧v129=.int .i64 (m:Int)∧Aside0 (m≤gone.length)∧Aside0 (Kd.R (Kd.raw 3) 48 wy w.heap.size (fun _=>True) u9 (ls.map encS))∧Aside0 (Sp2 qs (gone.take m) ls)∧Aside0 (ls.length≤20)∧Aside0 (Below w122.heap.size w122 wy)) (fun v9 v129 _=>gone.length - (intOf v129).toNat)
    case atStart=>exact⟨0,_,ls2,rfl,rfl,⟨Nat.zero_le _⟩,H92,HSP,HLS,⟨Below.refl _ _⟩⟩
    case round=>
     clear H92
     obtain⟨m,u9,ls3,rfl,rfl,HM,H9,HSP3,HLS3,HBY⟩:=hrel
     by_cases hlt:m < gone.length
     ·obtain⟨ad,eA,hx⟩:=Kd.at_int (Kd.C_below HCG.out HBY.out) (m:Int) (by omega) (by omega)
      subst eA
      rw[rd_nth hlt,Int.toNat_natCast] at hx
      obtain⟨hnk,hin,hqa⟩:=gone_facts HGD.out HS.out HS2.out HPJ.out HCL.out (List.getElem_mem hlt)
      have hnt:gone[m] ∉ gone.take m:=fun h=>by
       obtain⟨i,hi,e⟩:=List.mem_take_iff_getElem.1 h
       exact List.pairwise_iff_getElem.1 HCL.out.nd i m (by omega) hlt (by omega) e
      have htk:gone.take (m + 1)=gone.take m ++ [gone[m]]:=by rw[List.take_add_one,List.getElem?_eq_getElem hlt];rfl
      have hml:=(HSP3.out.mls gone[m]).2 ⟨hqa,hnt⟩
      obtain⟨a,ha⟩:∃a,a=gone[m]:=⟨_,rfl⟩
      rw[←ha] at hx hnk hin hml htk
      have HON:=As (one_of HSP3.out.sp.srt hml)
      have HNK:=As hnk
      have HIN:=As hin
      have HTK:=As htk
      have HMLT:=As hlt
      have hltd:(m < gone.length)=True:=eq_true hlt
      have HW1:=As (show wrap64 ((m:Int) + 1)=((m + 1:Nat):Int) by have:=HCC.out.2;rw[w64 (by omega) (by omega)];omega)
      obtain⟨A9,c9,hu9⟩:=Kd.R_slice H9.out
      rw[List.length_map] at hu9
      subst hu9
      clear hnk hin hqa hnt htk hml ha
      go_wp2_with (fail)
      obtain⟨kc,hkc⟩:=HSP3.out.sp.check (by have:=HLS3.out;omega)
      refine (spTake kc a 2 A9 c9 ls3 wr (encS_back (by have:=(Kd.R_reads' H9.out).2.2;rw[List.length_map] at this;exact this)) (Kd.R_reads' H9.out).2.1 (hkc kc (Nat.le_refl _)) (by have:=HLS3.out;omega)).mono ?_
      rintro e w136 ⟨E1,f1,E2,f2,he, -, -,hb,hR⟩
      have hts:=takeS_eq a ls3 (fun x hx=>(HSP3.out.sp.k x hx).1)
      rw[hts.2,hts.1,List.length_map,List.length_map,HON.out] at he
      rw[hts.1,List.length_map] at hR
      obtain⟨ls4,hl4⟩:∃l,l=ls3.filter (fun x=>!decide (x.f0=a)):=⟨_,rfl⟩
      have HSP4:=As (HSP3.out.take a)
      have hle4:ls4.length≤ls3.length:=by rw[hl4];exact List.length_filter_le _ _
      rw[←hl4] at he hR HSP4
      rw[←HTK.out] at HSP4
      subst he
      have H94:=As (Kd.R_lower hR (Nat.le_trans HB.out.size (Nat.le_trans HBX2.out.size HBY.out.size)))
      have HBY4:=As (below_step HBY.out hb)
      have HLS4:=As (Nat.le_trans hle4 HLS3.out)
      clear hb hR hl4 hle4 hts hkc H9 HBY HSP3 HLS3
      dsimp only
      go_wp2_with (fail)
      obtain⟨kh,hkh⟩:=has_ev kept a (by have:=HL.out;omega)
      have hev:=hkh kh (Nat.le_refl _)
      rw[decide_eq_false HNK.out] at hev
      refine (besomtop_has.calls kh A8 c8 kept a false w136 (Kd.C_below HC8.out.2 (below_step HBX2.out HBY4.out)) HC8.out.1 hev).mono ?_
      rintro e w150 ⟨rfl,hd⟩
      have HBY5:=As (below_step HBY4.out (Drawn0.below hd))
      have H95:=As (Kd.R_below H94.out (Drawn0.below hd))
      clear hd hev hkh H94 HBY4
      dsimp only
      go_wp2_with (fail)
      obtain⟨kh,hkh⟩:=has_ev all a (by have:=HL.out;omega)
      have hev:=hkh kh (Nat.le_refl _)
      rw[decide_eq_true HIN.out] at hev
      refine (besomtop_has.calls kh A7 c7 all a true w150 (Kd.C_below HC7.out.2 (below_step HBX2.out HBY5.out)) HC7.out.1 hev).mono ?_
      rintro e w155 ⟨rfl,hd⟩
      have HBY6:=As (below_step HBY5.out (Drawn0.below hd))
      have H96:=As (Kd.R_below H95.out (Drawn0.below hd))
      clear hd hev hkh H95 HBY5
      dsimp only
      go_wp2_with (fail)
      go_roundw
      case rel=>exact⟨m + 1,_,ls4,rfl,(by first|rw[HW1.out]|rfl),⟨HMLT.out⟩,H96,HSP4,HLS4,HBY6⟩
      case measure=>exact meas HMLT.out (by first|exact HW1.out|rfl)
     ·have hm:m=gone.length:=by have:=HM.out;omega
      have hnl:decide (m < gone.length)=false:=decide_eq_false hlt
      have hz:=blk_below HZZ.out HBY.out
      have hG:=blk_below HG2.out HBY.out
      have hz0:=Z.c0 hz
      have hz1:=Z.c1 hz
      have hz2:=Z.c2 hz
      have hz3:=Z.c3 hz
      have hG0:=Z.c0 hG
      have hG1:=Z.c1 hG
      have hG2:=Z.c2 hG
      have hG3:=Z.c3 hG
      have hf0:=blk_frozen hG 0
      have hf1:=blk_frozen hG 1
      have hf2:=blk_frozen hG 2
      have hf3:=blk_frozen hG 3
      have HG7:=As hG
      have HW1:=As (show wrap64 ((j:Int) + 1)=((j + 1:Nat):Int) by rw[w64 (by omega) (by omega)];omega)
      clear hz hG
      go_wp2_with (fail)
      go_roundw
      case rel=>exact⟨j + 1,u9,D1,D2,D3,q1,q2,q3,hws,hus,hxs,qs',ls3,rfl,(by first|rw[HW1.out]|rfl),⟨HLT.out⟩,⟨(HGZ.out.below HBY.out).far4 (fun h=>h rfl) _ _ _ _⟩,⟨set4_blk HG7.out _ _ _ _⟩,⟨sp_far4 H9.out HG7.out _ _ _ _⟩,⟨HS2.out.step HGD.out HPJ.out HCL.out⟩,⟨by have h:=HSP3.out;rw[hm,List.take_length] at h;exact h.done HCL.out⟩,HLS3,⟨set4_below (below_step HBX2.out HBY.out) hgx _ _ _ _⟩⟩
      case measure=>exact meas HLT.out (by first|exact HW1.out|rfl)
   ·have hj:j=ps.length:=by have:=HJ.out;have:=HF.out.r.xl;omega
    have hnl:decide (j < xs.length)=false:=decide_eq_false hlt
    have HE:=As (St2.fin HG.out.r.good HS.out (by have h:=HS2.out;rw[hj] at h;exact h) HSP.out)
    have hgg0:=Z.c0 HGG.out
    have hgg1:=Z.c1 HGG.out
    have hgg2:=Z.c2 HGG.out
    have hgg3:=Z.c3 HGG.out
    clear hj hlt hxl
    go_wp2_with (fail)
    refine (hpObjectsI HG.out.is (objsF 0 qs) rfl HE.out.cur).mono ?_
    rintro e w164 ⟨AN,cN,rfl,hcn,hCN,hb⟩
    obtain⟨now,hnow⟩:∃now,now=(objsF 0 qs).map (·.f2):=⟨_,rfl⟩
    have hnl0:(objsF 0 qs).length=now.length:=by rw[hnow,List.length_map]
    rw[←hnow,hnl0] at hCN
    rw[hnl0] at hcn
    have HNOW:=As hnow
    have HCN:=As hCN
    have HCNL:=As hcn
    have HNL:=As hnl0
    rw[hnl0]
    have HBX3:=As (below_step HBX.out hb)
    have HG3:=As (HG.out.below hb)
    have HGG3:=As (blk_below HGG.out hb)
    have H93:=As (Kd.R_below H9.out hb)
    clear hb hCN hcn hnow hnl0 hgg0 hgg1 hgg2 hgg3 HBX HG HGG H9 hnl
    obtain⟨A9,c9,hu9⟩:=Kd.R_slice H93.out
    rw[List.length_map] at hu9
    subst hu9
    dsimp only
    go_wp2_with (fail)
    obtain⟨kc,hkc⟩:=HSP.out.sp.check (by have:=HLS.out;omega)
    refine (spAddrs kc A9 c9 ls2 w164 (encS_back (by have:=(Kd.R_reads' H93.out).2.2;rw[List.length_map] at this;exact this)) (by have:=(Kd.R_reads' H93.out).2.1;exact this) (hkc kc (Nat.le_refl _)) (by have:=HLS.out;omega) (fun x hx=>(HSP.out.sp.k x hx).1) (fun k hk hkl=>by
     rw[rd48 hkl,show (k:Int) - 1=((k - 1:Nat):Int) by omega,rd48 (show k - 1 < ls2.length by omega)]
     have:=List.pairwise_iff_getElem.1 HSP.out.sp.srt (k - 1) k (by omega) hkl (by omega)
     omega)).mono ?_
    rintro e w169 ⟨AA,cA,rfl,hca,hCA,hb⟩
    have hl2:ls2.length=now.length:=by rw[HNOW.out,HE.out.now,List.length_map]
    rw[←HE.out.now,←HNOW.out,hl2] at hCA
    rw[hl2] at hca ⊢
    have HCA:=As hCA
    have HCAL:=As hca
    have HNC:=As (Kd.C_below HCN.out hb)
    have HBX4:=As (below_step HBX3.out hb)
    have HG4:=As (HG3.out.below hb)
    have HGG4:=As (blk_below HGG3.out hb)
    have HF4:=As (HF.out.below HBX4.out)
    have HGH4:=As (blk_below HGH.out HBX4.out)
    have HC84:=As (Kd.C_below HC8.out.2 HBX4.out)
    have HNLE:=As (show now.length=kept.length by have:=HE.out.len;have:=HNL.out;omega)
    have HAT:=As (show ∀a∈kept,∃(n:Nat) (u:Ob),a=(n:Int)∧(∃p∈ps,∃k,p.ob k=some u∧p.ad k=n∧(p.swept || u.b)=true)∧(∃p∈qs,∃k,p.ob k=some u∧p.ad k=n∧(p.swept || u.b)=true)∧a∈now from by rw[HNOW.out];exact HE.out.at_)
    clear hb hCA hca hl2 hkc HBX3 HG3 HGG3 H93 HCN HE HNOW HSP HS2 HNL
    dsimp only
    go_wp2_with (fail)
    go_loopw [174] (fun v174 wy=>∃(m:Nat),v174=.int .i64 (m:Int)∧Aside0 (m≤kept.length)∧Aside0 (Below w169.heap.size w169 wy)) (fun v174 _=>kept.length - (intOf v174).toNat)
    case atStart=>exact⟨0,rfl,⟨Nat.zero_le _⟩,⟨Below.refl _ _⟩⟩
    case round=>
     obtain⟨m,rfl,HM,HBY⟩:=hrel
     by_cases hlt:m < kept.length
     ·obtain⟨ad,eA,hx⟩:=Kd.at_int (Kd.C_below HC84.out HBY.out) (m:Int) (by omega) (by omega)
      subst eA
      rw[rd_nth hlt,Int.toNat_natCast] at hx
      obtain⟨n,u,ha,hps,hqs,hin⟩:=HAT.out _ (List.getElem_mem hlt)
      have HPS:=As hps
      have HQS:=As hqs
      obtain⟨a,hea⟩:∃a,a=kept[m]:=⟨_,rfl⟩
      rw[←hea] at hx ha hin
      subst ha
      have HIN:=As hin
      have HMLT:=As hlt
      have hltd:(m < kept.length)=True:=eq_true hlt
      have HW1:=As (show wrap64 ((m:Int) + 1)=((m + 1:Nat):Int) by have:=HL.out;rw[w64 (by omega) (by omega)];omega)
      have hG:=blk_below HGH4.out HBY.out
      have hh0:=Z.c0 hG
      have hh1:=Z.c1 hG
      have hh2:=Z.c2 hG
      have hh3:=Z.c3 hG
      clear hps hqs hea hin hG
      go_wp2_with (fail)
      refine (hpAtI (HF4.out.below HBY.out).is n u HPS.out).mono ?_
      rintro e w181 ⟨rfl,hb⟩
      have hq:=below_alloc (Below.refl w181.heap.size w181) (Obj.cells #[.int .i64 (u.n:Int),.int .u64 (u.m:Int)] 41)
      have HS1:=As (blk_new w181 (Obj.cells #[.int .i64 (u.n:Int),.int .u64 (u.m:Int)] 41))
      have HBY2:=As (below_step HBY.out (below_step hb hq))
      have hG:=blk_below HGG4.out HBY2.out
      have hg0:(w181.alloc (Obj.cells #[.int .i64 (u.n:Int),.int .u64 (u.m:Int)] 41)).cell? ⟨gg,0,none⟩=some (.slice G1 gws.length e1):=(blk_cell hG 0).trans rfl
      have hg1:(w181.alloc (Obj.cells #[.int .i64 (u.n:Int),.int .u64 (u.m:Int)] 41)).cell? ⟨gg,1,none⟩=some (.int .i64 30):=(blk_cell hG 1).trans rfl
      have hg2:(w181.alloc (Obj.cells #[.int .i64 (u.n:Int),.int .u64 (u.m:Int)] 41)).cell? ⟨gg,2,none⟩=some (.slice G2 gus.length e2):=(blk_cell hG 2).trans rfl
      have hg3:(w181.alloc (Obj.cells #[.int .i64 (u.n:Int),.int .u64 (u.m:Int)] 41)).cell? ⟨gg,3,none⟩=some (.slice G3 gxs.length e3):=(blk_cell hG 3).trans rfl
      have hgl:gg < w181.heap.size:=Nat.lt_of_lt_of_le (blk_lt HGG4.out) (Nat.le_trans HBY.out.size hb.size)
      clear hb hq hG hh0 hh1 hh2 hh3
      dsimp only
      go_wp2_with (fail)
      generalize w181.alloc (Obj.cells #[.int .i64 (u.n:Int),.int .u64 (u.m:Int)] 41)=w182 at HS1 HBY2 hg0 hg1 hg2 hg3 ⊢
      generalize w181.heap.size=s1 at HS1 hgl ⊢
      refine (hpAtI (HG4.out.below HBY2.out).is n u HQS.out).mono ?_
      rintro e w187 ⟨rfl,hb⟩
      have hq:=below_alloc (Below.refl w187.heap.size w187) (Obj.cells #[.int .i64 (u.n:Int),.int .u64 (u.m:Int)] 41)
      have hS2:=blk_new w187 (Obj.cells #[.int .i64 (u.n:Int),.int .u64 (u.m:Int)] 41)
      have HBY3:=As (below_step HBY2.out (below_step hb hq))
      have hS1:=blk_below HS1.out (below_step hb hq)
      have hsl:s1 < w187.heap.size:=Nat.lt_of_lt_of_le (blk_lt HS1.out) hb.size
      have ha0:(w187.alloc (Obj.cells #[.int .i64 (u.n:Int),.int .u64 (u.m:Int)] 41)).cell? ⟨s1,0,none⟩=some (.int .i64 (u.n:Int)):=(blk_cell hS1 0).trans rfl
      have ha1:(w187.alloc (Obj.cells #[.int .i64 (u.n:Int),.int .u64 (u.m:Int)] 41)).cell? ⟨s1,1,none⟩=some (.int .u64 (u.m:Int)):=(blk_cell hS1 1).trans rfl
      have hb0:(w187.alloc (Obj.cells #[.int .i64 (u.n:Int),.int .u64 (u.m:Int)] 41)).cell? ⟨w187.heap.size,0,none⟩=some (.int .i64 (u.n:Int)):=(blk_cell hS2 0).trans rfl
      have hb1:(w187.alloc (Obj.cells #[.int .i64 (u.n:Int),.int .u64 (u.m:Int)] 41)).cell? ⟨w187.heap.size,1,none⟩=some (.int .u64 (u.m:Int)):=(blk_cell hS2 1).trans rfl
      clear hb hq hS1 hS2 hg0 hg1 hg2 hg3
      dsimp only
      go_wp2_with (fail)
      obtain⟨kh,hkh⟩:=has_ev now (n:Int) (by have:=HNLE.out;have:=HL.out;omega)
      have hev:=hkh kh (Nat.le_refl _)
      rw[decide_eq_true HIN.out] at hev
      refine (besomtop_has.calls kh AN cN now (n:Int) true _ (Kd.C_below HNC.out HBY3.out) HCNL.out hev).mono ?_
      rintro e w204 ⟨rfl,hd⟩
      have HBY4:=As (below_step HBY3.out (Drawn0.below hd))
      clear hd hev hkh ha0 ha1 hb0 hb1
      dsimp only
      go_wp2_with (fail)
      go_roundw
      case rel=>exact⟨m + 1,(by first|rw[HW1.out]|rfl),⟨HMLT.out⟩,HBY4⟩
      case measure=>exact meas HMLT.out (by first|exact HW1.out|rfl)
     ·have hm:m=kept.length:=by have:=HM.out;omega
      have hnl:decide (m < kept.length)=false:=decide_eq_false hlt
      have hnlk:((now.length:Int) == (kept.length:Int))=true:=by rw[HNLE.out];simp
      go_wp2_with (fail)
      obtain⟨ks,hks⟩:=same_ev now (by have:=HNLE.out;have:=HL.out;omega)
      refine (besomtop_same.calls ks AN cN now AA cA now true wr (Kd.C_below HNC.out HBY.out) HCNL.out (Kd.C_below HCA.out HBY.out) HCAL.out (hks ks (Nat.le_refl _))).mono ?_
      rintro e w232 ⟨rfl,hd⟩
      have HEND:=As (below_step HB.out (below_step HBX4.out (below_step HBY.out (Drawn0.below hd))))
      clear hd hks
      dsimp only
      go_wp2_with (fail)
      go_ret
      exact⟨rfl,HEND.out⟩
 clear hK17
 go_loopw [7,8,9,45] (fun v7 v8 v9 v45 wr=>∃(i:Nat) (u7 u8 u9:Value) (B1 B2 B3:Option Addr) (d1 d2 d3:Nat) (ws us:List Int) (xs:List S51) (ps:List Sp) (all kept:List Int) (ls:List S48),u7=v7∧u8=v8∧u9=v9∧v45=.int .i64 (i:Int)∧Aside0 (i≤l0.length∧i≤20)∧Aside0 (HpF (fun k=>(k≠gh∧some k≠u7.ownBlock)∧some k≠u8.ownBlock) wr B1 B2 B3 d1 d2 d3 ws us xs ps)∧Aside0 (wr.heap[gh]? =some (.cells #[.slice B1 ws.length d1,.int .i64 30,.slice B2 us.length d2,.slice B3 xs.length d3] 34 (0,0)))∧Aside0 (Kd.R (Kd.int .u64) 39 wr w.heap.size (fun k=>k≠gh∧some k≠u8.ownBlock) u7 all)∧Aside0 (Kd.R (Kd.int .u64) 39 wr w.heap.size (fun k=>k≠gh∧some k≠u7.ownBlock) u8 kept)∧Aside0 (Kd.R (Kd.raw 3) 48 wr w.heap.size (fun _=>True) u9 (ls.map encS))∧Aside0 (St1 ps all kept ls)∧Aside0 (all.length≤i∧kept.length≤i∧ls.length≤i)∧Aside0 (Below w.heap.size w wr)) (fun v7 v8 v9 v45 _=>l0.length - (intOf v45).toNat)
 case atStart=>exact⟨0,_,_,_,C1,C2,C3,d1,d2,d3,ws0,[1],[],[],[],[],[],rfl,rfl,rfl,rfl,⟨Nat.zero_le _,Nat.zero_le _⟩,HFC,HGH,⟨Kd.R_nil _ _ _ _ _⟩,⟨Kd.R_nil _ _ _ _ _⟩,⟨Kd.R_nil _ _ _ _ _⟩,⟨St1.nil⟩,⟨Nat.zero_le _,Nat.zero_le _,Nat.zero_le _⟩,HBC⟩
 case round=>
  clear HBC HGH HFC
  obtain⟨i,u7,u8,u9,B1,B2,B3,d1,d2,d3,ws,us,xs,ps,all,kept,ls,rfl,rfl,rfl,rfl,HI,HF,HGH,H7,H8,H9,HS,HL,HB⟩:=hrel
  by_cases hex:i < l0.length∧i≠20
  ·obtain⟨ad,eA,hx0,hx1⟩:=at_T41 (Kd.C_below HA0.out HB.out) (i:Int) (by omega) (by omega)
   subst eA
   have hrd:rd_T41 l0 (i:Int)=l0[i]'(hex.1):=by simp[rd_T41,hex.1]
   rw[hrd,Int.toNat_natCast] at hx0 hx1
   have hwf:=HWF.out _ (List.getElem_mem hex.1)
   obtain⟨x,hx⟩:∃x,x=l0[i]'(hex.1):=⟨_,rfl⟩
   rw[←hx] at hx0 hx1 hwf
   obtain⟨M,hM⟩:∃M:Nat,x.f1=(M:Int):=⟨x.f1.toNat,by omega⟩
   rw[hM] at hx1 hwf
   have HM64:=As (show M < 18446744073709551616 by omega)
   have hltd:(i < l0.length)=True:=eq_true hex.1
   have hn20:((i:Int) == 20)=false:=by have:=hex.2;simp;omega
   have HI2:=As (show i < 20 by have:=HI.out.2;have:=hex.2;omega)
   have HEX:=As hex.1
   have HW1:=As (show wrap64 ((i:Int) + 1)=((i + 1:Nat):Int) by have:=HI2.out;rw[w64 (by omega) (by omega)];omega)
   clear hrd hx hM hwf hex
   go_wp2_with (fail)
   have hq1:=below_alloc (Below.refl wr.heap.size wr) (Obj.cells #[.int .i64 x.f0,.int .u64 (M:Int)] 41)
   have hqs:=blk_new wr (Obj.cells #[.int .i64 x.f0,.int .u64 (M:Int)] 41)
   generalize wr.alloc (Obj.cells #[.int .i64 x.f0,.int .u64 (M:Int)] 41)=w1 at hq1 hqs ⊢
   have hg0:w1.drew.cell? ⟨gh,0,none⟩=some (.slice B1 ws.length d1):=(blk_cell (blk_drew (blk_below HGH.out hq1)) 0).trans rfl
   have hg1:w1.drew.cell? ⟨gh,1,none⟩=some (.int .i64 30):=(blk_cell (blk_drew (blk_below HGH.out hq1)) 1).trans rfl
   have hg2:w1.drew.cell? ⟨gh,2,none⟩=some (.slice B2 us.length d2):=(blk_cell (blk_drew (blk_below HGH.out hq1)) 2).trans rfl
   have hg3:w1.drew.cell? ⟨gh,3,none⟩=some (.slice B3 xs.length d3):=(blk_cell (blk_drew (blk_below HGH.out hq1)) 3).trans rfl
   have hs0:w1.drew.cell? ⟨wr.heap.size,0,none⟩=some (.int .i64 x.f0):=(blk_cell (blk_drew hqs) 0).trans rfl
   have hs1:w1.drew.cell? ⟨wr.heap.size,1,none⟩=some (.int .u64 (M:Int)):=(blk_cell (blk_drew hqs) 1).trans rfl
   have HQ1:=As (below_drew1 hq1)
   have HBQ:=As (below_step HB.out (below_drew1 hq1))
   have hA1:=Kd.C_below HA1.out (below_step HB.out (below_drew1 hq1))
   obtain⟨bk,am,hbk⟩:∃(bk:Bool) (am:Addr),(i < l1.length∧A1=some am∧w1.drew.cell? (am.add i)=some (.bool bk)∧bk=rdOf false l1 (i:Int))∨(¬i < l1.length∧bk=false∧w1.drew.cell? ⟨gh,1,none⟩=some (.int .i64 30)):=by
    by_cases hb:i < l1.length
    ·obtain⟨am,eA,hx⟩:=Kd.at_bool hA1 (i:Int) (by omega) (by omega)
     rw[Int.toNat_natCast] at hx
     exact⟨_,am,.inl ⟨hb,eA,hx,rfl⟩⟩
    ·exact⟨false,⟨0,0,none⟩,.inr ⟨hb,rfl,hg1⟩⟩
   have HBK:=As hbk
   have HBKP:=As (hbk.imp (fun h=>And.intro h.1 h.2.2.2) (fun h=>And.intro h.1 h.2.1))
   clear hq1 hqs hA1 hbk
   refine start_ (n:=21) (S:=fun w'=>w'.cell? ⟨gh,0,none⟩=some (.slice B1 ws.length d1)∧w'.cell? ⟨gh,1,none⟩=some (.int .i64 30)∧w'.cell? ⟨gh,2,none⟩=some (.slice B2 us.length d2)∧w'.cell? ⟨gh,3,none⟩=some (.slice B3 xs.length d3)∧w'.cell? ⟨wr.heap.size,0,none⟩=some (.int .i64 x.f0)∧w'.cell? ⟨wr.heap.size,1,none⟩=some (.int .u64 (M:Int))∧(i < l1.length→w'.cell? (am.add i)=some (.bool bk))) (ds:=[18]) #[false,false,false,false,false,false,false,false,false,false,false,false,false,false,false,false,false,false,false,false,false] (by kernel_rfl) rfl rfl ⟨hg0,hg1,hg2,hg3,hs0,hs1,fun h=>(HBK.out.elim (fun h=>h.2.2.1) (fun h'=>absurd h h'.1))⟩ (fun hHeld=>?_)
   clear hg0 hg1 hg2 hg3 hs0 hs1
   generalize w1.drew=wq at HQ1 HBQ HBK hHeld ⊢
   refine Z.t_ 0 57 hHeld ?_
   refine Z.t_ 1 58 hHeld ?_
   refine Z.p_ 2 59 ?_
   refine Z.p_ 3 60 ?_
   refine Z.p_ 4 61 ?_
   refine join_ (σ:=Value×Value×Value×Value×Value×Value) 9 #[true,true,true,true,true,true,true,true,true,true,true,true,false,false,false,false,false,false,false,false,false] (fun s_=>[(62,s_.1),(63,s_.2.1),(64,s_.2.2.1),(65,s_.2.2.2.1),(66,s_.2.2.2.2.1),(67,s_.2.2.2.2.2),(68,.bool bk)]) (fun s_ w'=>w'=wq) ?_ ?_
   rotate_left
   ·intro hCont
    rcases HBK.out with⟨hb1,eA1, -⟩|⟨hb1,hbk, -⟩
    ·subst eA1
     have hltb:(i < l1.length)=True:=eq_true hb1
     refine Z.p_ 5 62 ?_
     refine Z.p_ 6 63 ?_
     refine Z.p_ 7 64 ?_
     refine Z.p_ 8 65 ?_
     refine Z.p_ 9 66 ?_
     refine Z.t_ 10 67 hHeld ?_
     refine Z.p_ 11 68 ?_
     exact norm_ (by simp only[putAll,Act.put,List.setIfInBounds_toArray,List.set_cons_zero,List.set_cons_succ]) (hCont (.bool true,.bool true,.slice (some am) l1.length c1,.int .i64 (i:Int),.pointer (some (am.add i)),.bool bk) _ rfl)
    ·subst hbk
     have hltb:(i < l1.length)=False:=eq_false hb1
     refine Z.p_ 5 62 ?_
     refine Z.p_ 6 63 ?_
     refine Z.x_ 7 64 ?_
     refine Z.x_ 8 65 ?_
     refine Z.x_ 9 66 ?_
     refine Z.x_ 10 67 ?_
     refine Z.p_ 11 68 ?_
     exact norm_ (by simp only[putAll,Act.put,List.setIfInBounds_toArray,List.set_cons_zero,List.set_cons_succ]) (hCont (.bool false,.bool false,undef,undef,undef,undef) _ rfl)
   rintro⟨v62,v63,v64,v65,v66,v67⟩ wq' rfl
   dsimp only
   refine norm_ (a':=?_) ?_ ?_
   rotate_left
   ·simp only[putAll,Act.put,List.setIfInBounds_toArray,List.set_cons_zero,List.set_cons_succ]
    rfl
   have hPN:∀k,wq'.heap.size≤k→(k≠gh∧some k≠u7.ownBlock)∧some k≠u8.ownBlock:=fun k hk=>by
    have e1:=Nat.lt_of_lt_of_le (blk_lt HGH.out) (Nat.le_trans HQ1.out.size hk)
    exact⟨⟨Nat.ne_of_gt e1,fun e=>Nat.not_lt.2 hk (Nat.lt_of_lt_of_le (Kd.R_lt H7.out k e.symm) HQ1.out.size)⟩,fun e=>Nat.not_lt.2 hk (Nat.lt_of_lt_of_le (Kd.R_lt H8.out k e.symm) HQ1.out.size)⟩
   have HPN:=As hPN
   have HTQ:=As (TzOk.below HT.out HBQ.out)
   have HFQ:=As (HF.out.below HQ1.out)
   clear hPN
   refine join_ (σ:=Value×Nat×Int×Nat) 3 #[true,true,true,true,true,true,true,true,true,true,true,true,true,true,true,true,true,true,false,false,false] (fun s_=>[(69,.tuple #[s_.1,.int .u64 (s_.2.1:Int),.int .i64 s_.2.2.1]),(56,.tuple #[s_.1,.int .u64 (s_.2.1:Int),.int .i64 s_.2.2.1]),(70,s_.1),(71,.int .u64 (s_.2.1:Int)),(72,.int .i64 s_.2.2.1),(12,.pointer (some ⟨s_.2.2.2,0,none⟩))]) (fun s_ w'=>(∃B1 B2 B3 d1 d2 d3 m1 m2 m3,s_.1=hpV B1 B2 B3 d1 d2 d3 m1 m2 m3)∧(s_.2.2.1≠0∨s_.2.2.1=0∧∃(ps':List Sp) (n0:Nat),x.f0=(n0:Int)∧HpIs (fun k=>((k≠gh∧some k≠u7.ownBlock)∧some k≠u8.ownBlock)∧k≠s_.2.2.2) w' s_.1 ps'∧More ps ps' s_.2.1 ⟨n0,M,bk⟩)∧w'.heap[s_.2.2.2]? =some (.cells #[.slice none 0 0,.int .i64 0,.slice none 0 0,.slice none 0 0] 34 (0,0))∧wq'.heap.size≤s_.2.2.2∧Below wq'.heap.size wq' w') ?_ ?_
   rotate_left
   ·intro hCont
    refine two_ (i:=12) (j:=17) (Ni:=some 69) (Nj:=some 12) #[true,true,true,true,true,true,true,true,true,true,true,true,true,false,false,false,false,false,false,false,false] #[true,true,true,true,true,true,true,true,true,true,true,true,false,false,false,false,false,true,false,false,false] rfl rfl rfl rfl (by kernel_rfl) (by decide) (by decide) (fun K hK=>?_) (fun K hK=>?_)
    ·skip
     refine Z.gs Tryz.func6 #[.agg #[.slice B1 ws.length d1,.int .i64 30,.slice B2 us.length d2,.slice B3 xs.length d3],.agg #[.int .i64 x.f0,.int .u64 (M:Int)],.bool bk] ?_
     refine (hpNewI HFQ.out.is HPN.out HTQ.out x.f0 M HM64.out bk).mono ?_
     rintro e w69 ⟨g,a,why,rfl,hb,hg,hc⟩
     refine⟨_,rfl,?_⟩
     have HB69:=As hb
     have HC69:=As hc
     have HG69:=As hg
     refine hK.out _ _ ⟨keepc hb hHeld.1,keepc hb hHeld.2.1,keepc hb hHeld.2.2.1,keepc hb hHeld.2.2.2.1,keepc hb hHeld.2.2.2.2.1,keepc hb hHeld.2.2.2.2.2.1,fun h=>keepc hb (hHeld.2.2.2.2.2.2 h)⟩ (fun hHeld=>?_)
     clear hb hc hg
     clear hK K
     refine Z.n_ 69 ?_
     refine Z.p_ 13 56 ?_
     refine Z.p_ 14 70 ?_
     refine Z.p_ 15 71 ?_
     refine Z.p_ 16 72 ?_
     refine Z.on 17 (some 12) fun K hK=>?_
     refine box_step ?hg (N:=12) ?hd (cs:=#[.slice none 0 0,.int .i64 0,.slice none 0 0,.slice none 0 0]) (t:=34) ?hr ?_
     case hd=>rfl
     case hg=>rfl
     case hr=>first|(go_simp;done)|(go_simp;rfl)
     intro gb hg w21 hbox hb
     have HB21:=As hb
     have HBX:=As hbox
     refine hK.out _ _ ⟨keepc hb hHeld.1,keepc hb hHeld.2.1,keepc hb hHeld.2.2.1,keepc hb hHeld.2.2.2.1,keepc hb hHeld.2.2.2.2.1,keepc hb hHeld.2.2.2.2.2.1,fun h=>keepc hb (hHeld.2.2.2.2.2.2 h)⟩ (fun hHeld=>?_)
     clear hb hbox
     clear hK K
     refine Z.n_ 12 ?_
     exact norm_ (by simp only[putAll,Act.put,List.setIfInBounds_toArray,List.set_cons_zero,List.set_cons_succ]) (hCont (g,a,why,gb) w21 ⟨HG69.out,HC69.out.imp id (fun h=>⟨h.1,h.2.imp (fun ps' h=>h.imp (fun n0 h=>⟨h.1,(h.2.1.bound.mono (fun k hk=>⟨hk.1,by rw[hg];exact Nat.ne_of_lt hk.2⟩)).below HB21.out,h.2.2⟩))⟩),HBX.out,by rw[hg];exact HB69.out.size,below_step HB69.out HB21.out⟩)
    ·skip
     refine box_step ?hg (N:=12) ?hd (cs:=#[.slice none 0 0,.int .i64 0,.slice none 0 0,.slice none 0 0]) (t:=34) ?hr ?_
     case hd=>rfl
     case hg=>rfl
     case hr=>first|(go_simp;done)|(go_simp;rfl)
     intro gb hg w20 hbox hb
     have HB20:=As hb
     have HBX:=As hbox
     refine hK.out _ _ ⟨keepc hb hHeld.1,keepc hb hHeld.2.1,keepc hb hHeld.2.2.1,keepc hb hHeld.2.2.2.1,keepc hb hHeld.2.2.2.2.1,keepc hb hHeld.2.2.2.2.2.1,fun h=>keepc hb (hHeld.2.2.2.2.2.2 h)⟩ (fun hHeld=>?_)
     clear hb hbox
     clear hK K
     refine Z.n_ 12 ?_
     refine Z.on 12 (some 69) fun K hK=>?_
     refine Z.gs Tryz.func6 #[.agg #[.slice B1 ws.length d1,.int .i64 30,.slice B2 us.length d2,.slice B3 xs.length d3],.agg #[.int .i64 x.f0,.int .u64 (M:Int)],.bool bk] ?_
     refine (hpNewI (P:=fun k=>((k≠gh∧some k≠u7.ownBlock)∧some k≠u8.ownBlock)∧k≠gb) ((HFQ.out.bound.mono (fun k hk=>⟨hk.1,by rw[hg];exact Nat.ne_of_lt hk.2⟩)).below HB20.out).is (fun k hk=>⟨HPN.out k (Nat.le_trans HB20.out.size hk),Nat.ne_of_gt (Nat.lt_of_lt_of_le (blk_lt HBX.out) hk)⟩) (TzOk.below HTQ.out HB20.out) x.f0 M HM64.out bk).mono ?_
     rintro e w21 ⟨g,a,why,rfl,hb,hgv,hc⟩
     refine⟨_,rfl,?_⟩
     have HB21:=As hb
     have HC21:=As hc
     have HG21:=As hgv
     refine hK.out _ _ ⟨keepc hb hHeld.1,keepc hb hHeld.2.1,keepc hb hHeld.2.2.1,keepc hb hHeld.2.2.2.1,keepc hb hHeld.2.2.2.2.1,keepc hb hHeld.2.2.2.2.2.1,fun h=>keepc hb (hHeld.2.2.2.2.2.2 h)⟩ (fun hHeld=>?_)
     clear hb hc hgv
     clear hK K
     refine Z.n_ 69 ?_
     refine Z.p_ 13 56 ?_
     refine Z.p_ 14 70 ?_
     refine Z.p_ 15 71 ?_
     refine Z.p_ 16 72 ?_
     exact norm_ (by simp only[putAll,Act.put,List.setIfInBounds_toArray,List.set_cons_zero,List.set_cons_succ]) (hCont (g,a,why,gb) w21 ⟨HG21.out,HC21.out,blk_below HBX.out HB21.out,by rw[hg];exact Nat.le_refl _,below_step HB20.out HB21.out⟩)
   rintro⟨gv,a,why,g12⟩ w21 ⟨⟨D1,D2,D3,e1,e2,e3,n1,n2,n3,hgv⟩,hc,hbk12,hge,hb⟩
   dsimp only at hgv hc hbk12 hge
   subst hgv
   have HC:=As hc
   have HK12:=As hbk12
   have HGE:=As hge
   have HBN:=As hb
   clear hc hbk12 hge hb hHeld
   dsimp only
   refine norm_ (a':=?_) ?_ ?_
   rotate_left
   ·simp only[putAll,Act.put,List.setIfInBounds_toArray,List.set_cons_zero,List.set_cons_succ]
    rfl
   unfold hpV
   have hk0:=Z.c0 HK12.out
   have hk1:=Z.c1 HK12.out
   have hk2:=Z.c2 HK12.out
   have hk3:=Z.c3 HK12.out
   have hfk0:=blk_frozen HK12.out 0
   have hfk1:=blk_frozen HK12.out 1
   have hfk2:=blk_frozen HK12.out 2
   have hfk3:=blk_frozen HK12.out 3
   refine Z.la 18 none fun K hK=>?_
   refine skip_ (w1:=?_) (by rfl) rfl ?_ ?_
   rotate_left
   ·go_simp
    rfl
   refine hK.out _ _ ?_
   clear hK K
   clear hk0 hk1 hk2 hk3 hfk0 hfk1 hfk2 hfk3
   refine Z.p_ 19 13 ?_
   refine Z.p_ 20 14 ?_
   refine done_ (by kernel_rfl) ?_
   have hle12:=Nat.le_trans HQ1.out.size HGE.out
   have HX:=As (below_set (j:=3) (v:=.slice D3 n3 e3) (below_set (j:=2) (v:=.slice D2 n2 e2) (below_set (j:=1) (v:=.int .i64 30) (below_set (j:=0) (v:=.slice D1 n1 e1) (below_step HQ1.out HBN.out) hle12) hle12) hle12) hle12)
   have HK22:=As (blk_put (cs:=#[.slice D1 n1 e1,.int .i64 30,.slice D2 n2 e2,.slice none 0 0]) (cs':=#[.slice D1 n1 e1,.int .i64 30,.slice D2 n2 e2,.slice D3 n3 e3]) (blk_put (cs:=#[.slice D1 n1 e1,.int .i64 30,.slice none 0 0,.slice none 0 0]) (cs':=#[.slice D1 n1 e1,.int .i64 30,.slice D2 n2 e2,.slice none 0 0]) (blk_put (cs:=#[.slice D1 n1 e1,.int .i64 0,.slice none 0 0,.slice none 0 0]) (cs':=#[.slice D1 n1 e1,.int .i64 30,.slice none 0 0,.slice none 0 0]) (blk_put (cs:=#[.slice none 0 0,.int .i64 0,.slice none 0 0,.slice none 0 0]) (cs':=#[.slice D1 n1 e1,.int .i64 0,.slice none 0 0,.slice none 0 0]) HK12.out 0 (.slice D1 n1 e1) rfl) 1 (.int .i64 30) rfl) 2 (.slice D2 n2 e2) rfl) 3 (.slice D3 n3 e3) rfl)
   have HC22:=As (HC.out.imp id (fun h=>And.intro h.1 (h.2.imp (fun ps' h=>h.imp (fun n0 h=>And.intro h.1 (And.intro (h.2.1.far4 (g:=g12) (fun h=>h.2 rfl) (.slice D1 n1 e1) (.int .i64 30) (.slice D2 n2 e2) (.slice D3 n3 e3)) h.2.2))))))
   clear HC HK12 HBN HQ1 HFQ HTQ HPN HBK
   generalize (((w21.setCell ⟨g12,0,none⟩ (.slice D1 n1 e1)).setCell ⟨g12,1,none⟩ (.int .i64 30)).setCell ⟨g12,2,none⟩ (.slice D2 n2 e2)).setCell ⟨g12,3,none⟩ (.slice D3 n3 e3)=w22 at HX HK22 HC22 ⊢
   have HF2:=As (HF.out.below HX.out)
   have HGH2:=As (blk_below HGH.out HX.out)
   have H72:=As (Kd.R_below H7.out HX.out)
   have H82:=As (Kd.R_below H8.out HX.out)
   have H92:=As (Kd.R_below H9.out HX.out)
   have HB2:=As (below_step HB.out HX.out)
   clear HF HGH H7 H8 H9 HB HX
   rcases HC22.out with hne|⟨he0,ps',n0,hxn,hhp,hmore⟩
   ·have hwh:(why != 0)=true:=by simpa using hne
    clear HC22
    go_wp2_with (fail)
    go_roundw
    case rel=>exact⟨i + 1,u7,u8,u9,B1,B2,B3,d1,d2,d3,ws,us,xs,ps,all,kept,ls,rfl,rfl,rfl,(by first|rw[HW1.out]|rfl),⟨HEX.out,HI2.out⟩,HF2,HGH2,H72,H82,H92,HS,⟨Nat.le_succ_of_le HL.out.1,Nat.le_succ_of_le HL.out.2.1,Nat.le_succ_of_le HL.out.2.2⟩,HB2⟩
    case measure=>exact meas HEX.out (by first|exact HW1.out|rfl)
   ·subst he0
    clear HC22
    go_wp2_with (fail)
    have hk0:w22.drew.cell? ⟨g12,0,none⟩=some (.slice D1 n1 e1):=(blk_cell (blk_drew HK22.out) 0).trans rfl
    have hk1:w22.drew.cell? ⟨g12,1,none⟩=some (.int .i64 30):=(blk_cell (blk_drew HK22.out) 1).trans rfl
    have hk2:w22.drew.cell? ⟨g12,2,none⟩=some (.slice D2 n2 e2):=(blk_cell (blk_drew HK22.out) 2).trans rfl
    have hk3:w22.drew.cell? ⟨g12,3,none⟩=some (.slice D3 n3 e3):=(blk_cell (blk_drew HK22.out) 3).trans rfl
    have HHP:=As (hhp.below (below_drew1 (Below.refl _ _)))
    have HMO:=As (And.intro hxn hmore)
    clear hxn hhp hmore
    refine start_ (n:=7) (S:=fun w'=>w'.cell? ⟨g12,0,none⟩=some (.slice D1 n1 e1)∧w'.cell? ⟨g12,1,none⟩=some (.int .i64 30)∧w'.cell? ⟨g12,2,none⟩=some (.slice D2 n2 e2)∧w'.cell? ⟨g12,3,none⟩=some (.slice D3 n3 e3)) (ds:=[5]) #[false,false,false,false,false,false,false] (by kernel_rfl) rfl rfl ⟨hk0,hk1,hk2,hk3⟩ (fun hHeld=>?_)
    have hq:=below_drew1 (Below.refl w22.heap.size w22)
    have HGH3:=As (blk_below HGH2.out hq)
    have H73:=As (Kd.R_below H72.out hq)
    have H83:=As (Kd.R_below H82.out hq)
    have H93:=As (Kd.R_below H92.out hq)
    have HB3:=As (below_step HB2.out hq)
    have HK23:=As (blk_below HK22.out hq)
    clear HGH2 H72 H82 H92 HB2 HK22 hq hk0 hk1 hk2 hk3 HF2
    generalize w22.drew=w23 at HGH3 H73 H83 H93 HB3 HK23 HHP hHeld ⊢
    refine Z.t_ 0 75 hHeld ?_
    refine Z.p_ 1 76 ?_
    refine Z.p_ 2 77 ?_
    refine Z.on 3 (some 78) fun K hK=>?_
    refine event_step (v:=.slice (some ⟨w23.heap.size,0,none⟩) 1 1) (w1:=w23.alloc (.cells #[.int .u64 (a:Int)] 39)) (by rfl) ?hr ?_
    case hr=>first|(go_simp;done)|(go_simp;rfl)
    have hq:=below_alloc (Below.refl w23.heap.size w23) (.cells #[.int .u64 (a:Int)] 39)
    refine hK.out _ _ ⟨keepc hq hHeld.1,keepc hq hHeld.2.1,keepc hq hHeld.2.2.1,keepc hq hHeld.2.2.2⟩ (fun hHeld=>?_)
    clear hK K
    refine Z.n_ 78 ?_
    have hg7:∀k,w23.heap.size≤k→k≠gh∧some k≠u8.ownBlock:=fun k hk=>⟨Nat.ne_of_gt (Nat.lt_of_lt_of_le (blk_lt HGH3.out) hk),fun e=>Nat.not_lt.2 hk (Kd.R_lt H83.out k e.symm)⟩
    have hgh7:some gh≠u7.ownBlock:=fun e=>(H73.out.1 gh e.symm).1 rfl
    refine Z.on 4 (some 79) fun K hK=>?_
    refine Kd.R_append_step (Kd.int .u64) (w0:=w) w.heap.size (by rfl) (.tmp 76) (.tmp 78) 25 39 (.int .u64 0) 8 rfl Tryz.underlying25 info39 rfl (by decide) (by decide) u7 all (a:Int) [.int .u64 (a:Int)] (fun k=>k≠gh∧some k≠u8.ownBlock) (fun _=>False) (by rfl) (by rfl) rfl (fun _ hk=>hk.elim) hg7 H73.out HB3.out HB3.out.size (by have:=HL.out.1;have:=HI2.out;omega) ?_
    intro u7n w79 ho hb hg hat
    have hg12:some g12≠u7.ownBlock:=Kd.R_ne H73.out HK23.out (by decide)
    have HK79:=As (blk_grown HK23.out hg hg12)
    have HGH79:=As (blk_grown HGH3.out hg hgh7)
    have H77:=As ho
    have H87:=As (Kd.R_mono (ok':=fun k=>k≠gh∧some k≠u7n.ownBlock) (Kd.R_after H83.out hg hat) (fun k hk=>hk))
    have H97:=As (sp_grown H93.out H73.out hg)
    have HB7:=As hb
    have HH7:=As (HpIs.after (P:=fun k=>k≠gh∧some k≠u8.ownBlock) (HHP.out.mono (fun k hk=>⟨⟨hk.1.1.1,hk.1.2⟩,hk.1.1.2⟩)) hg hat)
    refine hK.out _ _ ⟨(blk_cell HK79.out 0).trans rfl,(blk_cell HK79.out 1).trans rfl,(blk_cell HK79.out 2).trans rfl,(blk_cell HK79.out 3).trans rfl⟩ (fun hHeld=>?_)
    clear ho hb hg hat hg12 hgh7 hg7 hq HGH3 H73 H83 H93 HB3 HK23 HHP hHeld
    clear hK K
    refine Z.n_ 79 ?_
    have hy0:=Z.c0 HGH79.out
    have hy1:=Z.c1 HGH79.out
    have hy2:=Z.c2 HGH79.out
    have hy3:=Z.c3 HGH79.out
    have hf0:=blk_frozen HGH79.out 0
    have hf1:=blk_frozen HGH79.out 1
    have hf2:=blk_frozen HGH79.out 2
    have hf3:=blk_frozen HGH79.out 3
    refine Z.la 5 none fun K hK=>?_
    refine skip_ (w1:=?_) (by rfl) rfl ?_ ?_
    rotate_left
    ·go_simp
     rfl
    refine hK.out _ _ ?_
    clear hK K
    refine Z.p_ 6 7 ?_
    refine done_ (by kernel_rfl) ?_
    clear hy0 hy1 hy2 hy3 hf0 hf1 hf2 hf3
    have HGH4:=As (set4_blk HGH79.out (.slice D1 n1 e1) (.int .i64 30) (.slice D2 n2 e2) (.slice D3 n3 e3))
    have H74:=As (R_far4 (g:=gh) H77.out (fun k hk=>hk.1) (.slice D1 n1 e1) (.int .i64 30) (.slice D2 n2 e2) (.slice D3 n3 e3))
    have H84:=As (R_far4 (g:=gh) H87.out (fun k hk=>hk.1) (.slice D1 n1 e1) (.int .i64 30) (.slice D2 n2 e2) (.slice D3 n3 e3))
    have H94:=As (sp_far4 H97.out HGH79.out (.slice D1 n1 e1) (.int .i64 30) (.slice D2 n2 e2) (.slice D3 n3 e3))
    have HB4:=As (set4_below HB7.out hgB (.slice D1 n1 e1) (.int .i64 30) (.slice D2 n2 e2) (.slice D3 n3 e3))
    have HH4:=As (HH7.out.far4 (g:=gh) (fun h=>h.1.1 rfl) (.slice D1 n1 e1) (.int .i64 30) (.slice D2 n2 e2) (.slice D3 n3 e3))
    clear HK79 HGH79 H77 H87 H97 HB7 HH7
    generalize (((w79.setCell ⟨gh,0,none⟩ (.slice D1 n1 e1)).setCell ⟨gh,1,none⟩ (.int .i64 30)).setCell ⟨gh,2,none⟩ (.slice D2 n2 e2)).setCell ⟨gh,3,none⟩ (.slice D3 n3 e3)=w80 at HGH4 H74 H84 H94 HB4 HH4 ⊢
    obtain⟨hxn,hmore⟩:=HMO.out
    have hgood:=HH4.out.good
    have HGD:=As hgood
    have HA16:=As (show 0 < (a:Int) by have:=Has.ge hgood ((hmore.has a _).2 (.inl ⟨rfl,rfl⟩));omega)
    obtain⟨A9,c9,hu9⟩:=Kd.R_slice H94.out
    rw[List.length_map] at hu9
    subst hu9
    have hwi:IntKind.u64.wrap (i:Int)=(i:Int):=wu64' (by omega) (by have:=HI2.out;omega)
    have hg8:∀k,w80.heap.size≤k→k≠gh∧some k≠u7n.ownBlock:=fun k hk=>⟨Nat.ne_of_gt (Nat.lt_of_lt_of_le (blk_lt HGH4.out) hk),fun e=>Nat.not_lt.2 hk (Kd.R_lt H74.out k e.symm)⟩
    have HG8:=As hg8
    have HL8:=As (show (kept.length + 1) * 8≤140737488355328 by have:=HL.out.2.1;have:=HI2.out;omega)
    clear hxn hgood hg8 hmore
    rcases HBKP.out with⟨hb1,hbv⟩|⟨hb1,hbf⟩
    ·obtain⟨am2,eA,hxb⟩:=Kd.at_bool (Kd.C_below HA1.out HB4.out) (i:Int) (by omega) (by omega)
     rw[←hbv,Int.toNat_natCast] at hxb
     subst eA
     have hltb:(i < l1.length)=True:=eq_true hb1
     clear hbv HBKP
     cases bk with
     |true=>
      have hgh8:some gh≠u8.ownBlock:=fun e=>(H84.out.1 gh e.symm).1 rfl
      have HGE8:=As hgh8
      clear hgh8
      go_wp2_with ((with_reducible refine gate_builtin (b:=.append) (xs:=#[.tmp 90,.tmp 92]) rfl ?_);at_builtin;refine Kd.R_append (Kd.int .u64) (w0:=w) w.heap.size rfl (.tmp 90) (.tmp 92) 25 39 (.int .u64 0) 8 rfl Tryz.underlying25 info39 rfl (by decide) (by decide) _ kept (a:Int) [.int .u64 (a:Int)] (fun k=>k≠gh∧some k≠u7n.ownBlock) (fun _=>False) rfl (by first|(go_simp;done)|(go_simp;rfl)) rfl (fun _ hk=>hk.elim) HG8.out H84.out HB4.out HB4.out.size HL8.out ?_;intro u8n w93 ho hb hg hat;obtain⟨keptn,hkn⟩:∃k,k=kept ++ [(a:Int)]:=⟨_,rfl⟩;rw[←hkn] at ho;have HST:=As (HS.out.more HGD.out HMO.out.2 (i:Int));rw[if_pos rfl,←hkn] at HST;have HKN:=As (show keptn.length≤i + 1 by rw[hkn,List.length_append];exact Nat.succ_le_succ HL.out.2.1);have H88:=As ho;have HB8:=As hb;have HGH8:=As (blk_grown HGH4.out hg HGE8.out);have H78:=As (Kd.R_mono (ok':=fun k=>k≠gh∧some k≠u8n.ownBlock) (Kd.R_after H74.out hg hat) (fun k hk=>hk));have H98:=As (sp_grown H94.out H84.out hg);have HH8:=As (HpIs.after (P:=fun k=>k≠gh∧some k≠u7n.ownBlock) (HH4.out.mono (fun k hk=>⟨⟨hk.1.1,hk.2⟩,hk.1.2⟩)) hg hat);clear ho hb hg hat hkn HGH4 H74 H84 H94 HB4 HH4 HG8 HL8 HGE8)
      obtain⟨kc,hkc⟩:=HS.out.sp.check (by have:=HL.out.2.2;have:=HI2.out;omega)
      have hb0:=below_alloc (Below.refl w93.heap.size w93) (.cells #[.int .u64 (a:Int),.int .u8 2,.int .u64 (i:Int)] 48)
      refine (spAdd kc ⟨(a:Int),2,(i:Int)⟩ ⟨HA16.out,rfl⟩ A9 (some ⟨w93.heap.size,0,none⟩) c9 1 ls _ (encS_back (Kd.C_below (by have:=(Kd.R_reads' H98.out).2.2;rw[List.length_map] at this;exact this) hb0)) (by have:=(Kd.R_reads' H98.out).2.1;exact this) (one_sp w93 ⟨(a:Int),2,(i:Int)⟩) (hkc kc (Nat.le_refl _)) (by have:=HL.out.2.2;have:=HI2.out;omega)).mono ?_
      rintro e w101 ⟨v9n,rfl,hR,hb⟩
      rw[putR_eq] at hR
      have hbx:=below_step hb0 hb
      have H9n:=As (Kd.R_lower hR (Nat.le_trans HB8.out.size hb0.size))
      have HF9:=As (HH8.out.below hbx)
      have HGH9:=As (blk_below HGH8.out hbx)
      have H79:=As (Kd.R_below H78.out hbx)
      have H89:=As (Kd.R_below H88.out hbx)
      have HB9:=As (below_step HB8.out hbx)
      clear hb0 hb hbx hR hkc
      obtain⟨E1,E2,E3,g1,g2,g3,wsn,usn,xsn,hev,hHF⟩:=HF9.out.op
      injection hev with hev
      have hev':=congrArg Array.toList hev
      injection hev' with q1 hev'
      injection hev' with q2 hev'
      injection hev' with q3 hev'
      injection hev' with q4 hev'
      injection q1 with q1 r1 s1
      injection q3 with q3 r3 s3
      injection q4 with q4 r4 s4
      subst q1;subst r1;subst s1;subst q3;subst r3;subst s3;subst q4;subst r4;subst s4
      have HHF:=As hHF
      clear hev hev' q2 hHF
      dsimp only
      go_wp2_with (fail)
      go_roundw
      case rel=>exact⟨i + 1,u7n,u8n,v9n,_,_,_,_,_,_,wsn,usn,xsn,ps',all ++ [(a:Int)],keptn,_,rfl,rfl,rfl,(by first|rw[HW1.out]|rfl),⟨HEX.out,HI2.out⟩,HHF,HGH9,H79,H89,H9n,HST,⟨by rw[List.length_append];exact Nat.succ_le_succ HL.out.1,HKN.out,by rw[insS_len];exact Nat.succ_le_succ HL.out.2.2⟩,HB9⟩
      case measure=>exact meas HEX.out (by first|exact HW1.out|rfl)
     |false=>
      obtain⟨u8n,hu8n⟩:∃u,u=u8:=⟨_,rfl⟩
      subst hu8n
      obtain⟨keptn,hkn⟩:∃k,k=kept:=⟨_,rfl⟩
      subst hkn
      have HST:=As (HS.out.more HGD.out HMO.out.2 (i:Int))
      have HKN:=As (Nat.le_succ_of_le HL.out.2.1)
      have HGH8:=HGH4
      have H78:=H74
      have H88:=H84
      have H98:=H94
      have HB8:=HB4
      have HH8:=As (HH4.out.mono (P':=fun k=>(k≠gh∧some k≠u7n.ownBlock)∧some k≠u8n.ownBlock) (fun k hk=>⟨⟨hk.1.1,hk.2⟩,hk.1.2⟩))
      clear HGH4 H74 H84 H94 HB4 HH4 HG8 HL8
      obtain⟨w93,hw93⟩:∃w93,w93=w80:=⟨_,rfl⟩
      subst hw93
      have HST:=As (show St1 ps' (all ++ [(a:Int)]) keptn (insS ⟨(a:Int),2,(i:Int)⟩ ls) from HST.out)
      go_wp2_with (fail)
      obtain⟨kc,hkc⟩:=HS.out.sp.check (by have:=HL.out.2.2;have:=HI2.out;omega)
      have hb0:=below_alloc (Below.refl w93.heap.size w93) (.cells #[.int .u64 (a:Int),.int .u8 2,.int .u64 (i:Int)] 48)
      refine (spAdd kc ⟨(a:Int),2,(i:Int)⟩ ⟨HA16.out,rfl⟩ A9 (some ⟨w93.heap.size,0,none⟩) c9 1 ls _ (encS_back (Kd.C_below (by have:=(Kd.R_reads' H98.out).2.2;rw[List.length_map] at this;exact this) hb0)) (by have:=(Kd.R_reads' H98.out).2.1;exact this) (one_sp w93 ⟨(a:Int),2,(i:Int)⟩) (hkc kc (Nat.le_refl _)) (by have:=HL.out.2.2;have:=HI2.out;omega)).mono ?_
      rintro e w101 ⟨v9n,rfl,hR,hb⟩
      rw[putR_eq] at hR
      have hbx:=below_step hb0 hb
      have H9n:=As (Kd.R_lower hR (Nat.le_trans HB8.out.size hb0.size))
      have HF9:=As (HH8.out.below hbx)
      have HGH9:=As (blk_below HGH8.out hbx)
      have H79:=As (Kd.R_below H78.out hbx)
      have H89:=As (Kd.R_below H88.out hbx)
      have HB9:=As (below_step HB8.out hbx)
      clear hb0 hb hbx hR hkc
      obtain⟨E1,E2,E3,g1,g2,g3,wsn,usn,xsn,hev,hHF⟩:=HF9.out.op
      injection hev with hev
      have hev':=congrArg Array.toList hev
      injection hev' with q1 hev'
      injection hev' with q2 hev'
      injection hev' with q3 hev'
      injection hev' with q4 hev'
      injection q1 with q1 r1 s1
      injection q3 with q3 r3 s3
      injection q4 with q4 r4 s4
      subst q1;subst r1;subst s1;subst q3;subst r3;subst s3;subst q4;subst r4;subst s4
      have HHF:=As hHF
      clear hev hev' q2 hHF
      dsimp only
      go_wp2_with (fail)
      go_roundw
      case rel=>exact⟨i + 1,u7n,u8n,v9n,_,_,_,_,_,_,wsn,usn,xsn,ps',all ++ [(a:Int)],keptn,_,rfl,rfl,rfl,(by first|rw[HW1.out]|rfl),⟨HEX.out,HI2.out⟩,HHF,HGH9,H79,H89,H9n,HST,⟨by rw[List.length_append];exact Nat.succ_le_succ HL.out.1,HKN.out,by rw[insS_len];exact Nat.succ_le_succ HL.out.2.2⟩,HB9⟩
      case measure=>exact meas HEX.out (by first|exact HW1.out|rfl)
    ·subst hbf
     have hltb:(i < l1.length)=False:=eq_false hb1
     clear HBKP
     obtain⟨u8n,hu8n⟩:∃u,u=u8:=⟨_,rfl⟩
     subst hu8n
     obtain⟨keptn,hkn⟩:∃k,k=kept:=⟨_,rfl⟩
     subst hkn
     have HST:=As (HS.out.more HGD.out HMO.out.2 (i:Int))
     have HKN:=As (Nat.le_succ_of_le HL.out.2.1)
     have HGH8:=HGH4
     have H78:=H74
     have H88:=H84
     have H98:=H94
     have HB8:=HB4
     have HH8:=As (HH4.out.mono (P':=fun k=>(k≠gh∧some k≠u7n.ownBlock)∧some k≠u8n.ownBlock) (fun k hk=>⟨⟨hk.1.1,hk.2⟩,hk.1.2⟩))
     clear HGH4 H74 H84 H94 HB4 HH4 HG8 HL8
     obtain⟨w93,hw93⟩:∃w93,w93=w80:=⟨_,rfl⟩
     subst hw93
     have HST:=As (show St1 ps' (all ++ [(a:Int)]) keptn (insS ⟨(a:Int),2,(i:Int)⟩ ls) from HST.out)
     go_wp2_with (fail)
     obtain⟨kc,hkc⟩:=HS.out.sp.check (by have:=HL.out.2.2;have:=HI2.out;omega)
     have hb0:=below_alloc (Below.refl w93.heap.size w93) (.cells #[.int .u64 (a:Int),.int .u8 2,.int .u64 (i:Int)] 48)
     refine (spAdd kc ⟨(a:Int),2,(i:Int)⟩ ⟨HA16.out,rfl⟩ A9 (some ⟨w93.heap.size,0,none⟩) c9 1 ls _ (encS_back (Kd.C_below (by have:=(Kd.R_reads' H98.out).2.2;rw[List.length_map] at this;exact this) hb0)) (by have:=(Kd.R_reads' H98.out).2.1;exact this) (one_sp w93 ⟨(a:Int),2,(i:Int)⟩) (hkc kc (Nat.le_refl _)) (by have:=HL.out.2.2;have:=HI2.out;omega)).mono ?_
     rintro e w101 ⟨v9n,rfl,hR,hb⟩
     rw[putR_eq] at hR
     have hbx:=below_step hb0 hb
     have H9n:=As (Kd.R_lower hR (Nat.le_trans HB8.out.size hb0.size))
     have HF9:=As (HH8.out.below hbx)
     have HGH9:=As (blk_below HGH8.out hbx)
     have H79:=As (Kd.R_below H78.out hbx)
     have H89:=As (Kd.R_below H88.out hbx)
     have HB9:=As (below_step HB8.out hbx)
     clear hb0 hb hbx hR hkc
     obtain⟨E1,E2,E3,g1,g2,g3,wsn,usn,xsn,hev,hHF⟩:=HF9.out.op
     injection hev with hev
     have hev':=congrArg Array.toList hev
     injection hev' with q1 hev'
     injection hev' with q2 hev'
     injection hev' with q3 hev'
     injection hev' with q4 hev'
     injection q1 with q1 r1 s1
     injection q3 with q3 r3 s3
     injection q4 with q4 r4 s4
     subst q1;subst r1;subst s1;subst q3;subst r3;subst s3;subst q4;subst r4;subst s4
     have HHF:=As hHF
     clear hev hev' q2 hHF
     dsimp only
     go_wp2_with (fail)
     go_roundw
     case rel=>exact⟨i + 1,u7n,u8n,v9n,_,_,_,_,_,_,wsn,usn,xsn,ps',all ++ [(a:Int)],keptn,_,rfl,rfl,rfl,(by first|rw[HW1.out]|rfl),⟨HEX.out,HI2.out⟩,HHF,HGH9,H79,H89,H9n,HST,⟨by rw[List.length_append];exact Nat.succ_le_succ HL.out.1,HKN.out,by rw[insS_len];exact Nat.succ_le_succ HL.out.2.2⟩,HB9⟩
     case measure=>exact meas HEX.out (by first|exact HW1.out|rfl)
  ·have hout:i=l0.length∨(i=20∧i < l0.length):=by have:=HI.out;omega
   rcases hout with hi|⟨hi,hlt⟩
   ·have hnl:decide (i < l0.length)=false:=decide_eq_false (by omega)
    go_wp2_with (fail)
    exact REST _ _ _ _ _ _ _ _ _ _ _ _ _ _ _ _ _ _ _ _ _ _ _ _ _ _ _ _ _ _ _ _ _ _ _ _ _ _ _ _ _ _ _ _ _ _ _ _ _ _ _ _ _ _ _ _ _ _ _ _ _ _ _ _ _ _ _ _ _ _ _ _ _ _ _ _ _ _ _ _ _ _ _ _ _ _ _ _ _ _ _ _ _ _ _ _ _ _ _ _ _ _ _ _ _ _ _ _ _ _ _ _ _ _ _ _ _ _ _ _ _ _ _ _ _ _ _ _ _ _ _ _ _ _ _ _ _ _ _ _ _ _ _ _ _ _ _ _ _ _ _ _ _ _ _ _ _ _ _ _ _ _ _ _ _ _ _ _ _ _ _ _ _ _ _ _ _ _ _ _ _ _ _ _ _ _ _ _ _ _ _ _ _ _ _ _ _ _ _ _ _ _ _ _ _ _ _ _ _ _ _ _ _ _ _ _ _ _ _ _ _ _ _ _ _ _ u7 u8 u9 B1 B2 B3 d1 d2 d3 ws us xs ps all kept ls wr HF HGH H7 H8 H9 HS ⟨by have:=HL.out;have:=HI.out;omega⟩ HB
   ·obtain⟨ad,eA,hx0,hx1⟩:=at_T41 (Kd.C_below HA0.out HB.out) (i:Int) (by omega) (by omega)
    subst eA
    have hltd:(i < l0.length)=True:=eq_true hlt
    rw[Int.toNat_natCast] at hx0 hx1
    have hi20:((i:Int) == 20)=true:=by simp;omega
    have HI20:=As (show i≤20 by omega)
    generalize (rd_T41 l0 (i:Int)).f0=n0 at hx0
    generalize (rd_T41 l0 (i:Int)).f1=m0 at hx1
    clear hex hi hlt
    go_wp2_with (fail)
    have hq:=below_alloc (Below.refl wr.heap.size wr) (Obj.cells #[.int .i64 n0,.int .u64 m0] 41)
    exact REST _ _ _ _ _ _ _ _ _ _ _ _ _ _ _ _ _ _ _ _ _ _ _ _ _ _ _ _ _ _ _ _ _ _ _ _ _ _ _ _ _ _ _ _ _ _ _ _ _ _ _ _ _ _ _ _ _ _ _ _ _ _ _ _ _ _ _ _ _ _ _ _ _ _ _ _ _ _ _ _ _ _ _ _ _ _ _ _ _ _ _ _ _ _ _ _ _ _ _ _ _ _ _ _ _ _ _ _ _ _ _ _ _ _ _ _ _ _ _ _ _ _ _ _ _ _ _ _ _ _ _ _ _ _ _ _ _ _ _ _ _ _ _ _ _ _ _ _ _ _ _ _ _ _ _ _ _ _ _ _ _ _ _ _ _ _ _ _ _ _ _ _ _ _ _ _ _ _ _ _ _ _ _ _ _ _ _ _ _ _ _ _ _ _ _ _ _ _ _ _ _ _ _ _ _ _ _ _ _ _ _ _ _ _ _ _ _ _ _ _ _ _ _ _ _ _ u7 u8 u9 B1 B2 B3 d1 d2 d3 ws us xs ps all kept ls _ ⟨HF.out.below hq⟩ ⟨blk_below HGH.out hq⟩ ⟨Kd.R_below H7.out hq⟩ ⟨Kd.R_below H8.out hq⟩ ⟨Kd.R_below H9.out hq⟩ HS ⟨by have:=HL.out;have:=HI20.out;omega⟩ ⟨below_step HB.out hq⟩
end Go.Proofs.YtmmfchnbfnegnaaGreatDoor.K
end
