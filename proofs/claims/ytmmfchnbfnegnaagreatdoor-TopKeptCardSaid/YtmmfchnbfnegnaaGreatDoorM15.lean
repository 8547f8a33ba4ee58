import Derived.Test.YtmmfchnbfnegnaaGreatDoorM11
import Derived.Test.YtmmfchnbfnegnaaGreatDoorM14
import Derived.Test.YtmmfchnbfnegnaaGreatDoorM04
import Derived.Test.YtmmfchnbfnegnaaGreatDoorM07
import Derived.Test.YtmmfchnbfnegnaaGreatDoorM05
import Derived.Test.YtmmfchnbfnegnaaGreatDoorM03
namespace Go.Proofs.YtmmfchnbfnegnaaGreatDoor.K
open Go.RowKit Go.Proofs.YtmmfchnbfnegnaaGreatDoorW.PrintWords Go.Proofs.YtmmfchnbfnegnaaGreatDoorW.PrintLast Go.Proofs.YtmmfchnbfnegnaaGreatDoorW.PrintMore Go.Proofs.YtmmfchnbfnegnaaGreatDoor.GK Go.Proofs.YtmmfchnbfnegnaaGreatDoor.Pu Go.Proofs.YtmmfchnbfnegnaaGreatDoor.PuBitW Go.Proofs.YtmmfchnbfnegnaaGreatDoor.PuBits Go.Proofs.YtmmfchnbfnegnaaGreatDoor.PuBitsLay Go.Proofs.YtmmfchnbfnegnaaGreatDoor.PuBitsBoth Go.Proofs.YtmmfchnbfnegnaaGreatDoor.PuBitsFillJ Go.Proofs.YtmmfchnbfnegnaaGreatDoor.PuPages Go.Proofs.YtmmfchnbfnegnaaGreatDoor.PuBitsPutL
set_option linter.unusedVariables false
set_option linter.unusedSimpArgs false
attribute [local go_sem] max2_int min2_int max_two min_two max_three min_three max_four min_four
structure HMem (w:World) (A1 A2 A3:Option Addr) (c1 c2 c3:Nat) (ws us:List Int) (xs:List S51):Prop where
 m1:Kd.C (Kd.int .u64) w A1 ws.length ws
 l1:ws.length≤c1
 m2:Kd.C (Kd.int .u64) w A2 us.length us
 l2:us.length≤c2
 m3:Kd.C k51 w A3 xs.length xs
 l3:xs.length≤c3
theorem HMem.below {w w':World} {A1 A2 A3:Option Addr} {c1 c2 c3:Nat} {ws us:List Int} {xs:List S51} (h:HMem w A1 A2 A3 c1 c2 c3 ws us xs) (hb:Below w.heap.size w w'):HMem w' A1 A2 A3 c1 c2 c3 ws us xs:=
 ⟨Kd.C_below h.m1 hb,h.l1,Kd.C_below h.m2 hb,h.l2,Kd.C_below h.m3 hb,h.l3⟩
def stV (A1 A2 A3:Option Addr) (c1 c2 c3:Nat) (ws us:List Int) (xs:List S51) (v5:Value):Array Value:=#[.slice A1 ws.length c1,.int .i64 30,.slice A2 us.length c2,.slice A3 xs.length c3,v5]
theorem one_bit (k:Nat):bitAt [1] k=(k == 0):=by
 unfold bitAt
 by_cases h:k < 64
 ·rw[show k / 64=0 by omega,show k % 64=k by omega]
  show (1:Int).toNat.testBit k=_
  rw[show (1:Int).toNat=2 ^ 0 by decide,Nat.testBit_two_pow]
  by_cases e:k=0
  ·simp[e]
  ·simp[e,Ne.symm e]
 ·obtain⟨q,hq⟩:∃q,k / 64=q + 1:=⟨k / 64 - 1,by omega⟩
  rw[hq]
  simp
  omega
theorem in_nil:BRel [1] 30 (inSp []):=by
 refine⟨fun x hx=>?_,⟨by omega,by omega,by decide,fun i i0 i1=>?_⟩,fun k=>?_⟩
 ·rw[List.mem_singleton.1 hx];decide
 ·rw[one_bit];simp;omega
 ·rw[one_bit];simp[inSp]
theorem put0:bits_Put.f 9 30 [0] 0 true=some (30,[1],0):=by decide +kernel
theorem in_more {ps:List Sp} {l:List Int} (h:BRel l 30 (inSp ps)) {p:Sp} (hp:SpGood p):Ev (fun k=>bits_Fill.f k 30 l p.first p.pages true) (30,fillAt true p.first p.pages 0 l,0)∧BRel (fillAt true p.first p.pages 0 l) 30 (inSp (ps ++ [p])):=by
 have hhi:=hp.hi
 have hl:=h.len
 have hf:BFit 30 l:=h.fit
 refine⟨?_,fillAt_words true p.first p.pages 0 h.wf,fill_fit h.wf hf true p.first p.pages (by omega),fun k=>?_⟩
 ·have e:=fill_ev (n:=30) h.wf h.small (p.first:Int) (p.pages:Int) true
  rw[fillS_ok hf _ _ true (by omega) (by omega) (by omega)] at e
  simpa using e
 ·rw[fillAt_bit true p.first p.pages 0 k h.wf (by omega),h.bit]
  unfold inSp
  rw[List.any_append]
  by_cases c:p.first + 0≤k∧k < p.first + 0 + p.pages
  ·rw[if_pos c];simp;right;right;omega
  ·rw[if_neg c]
   have:(decide (p.first≤k) && decide (k < p.first + p.pages))=false:=by simp;omega
   simp[this]
theorem in_eq {ps:List Sp} {l m:List Int} (h:BRel l 30 (inSp ps)) (g:BRel m 30 (inSp ps)):l=m:=
 bits_ext h.wf g.wf (by have:=h.len;have:=g.len;omega) (fun k _=>by rw[h.bit,g.bit])
theorem BRel.page {us:List Int} {f:Nat→Bool} (h:BRel us 30 f):∃k,pages_Check.f k 30 us=some 0:=by
 obtain⟨k,hk⟩:=pcheck_ev (n:=30) h.wf h.small
 rw[chk_good (show BFit 30 us from h.fit)] at hk
 exact⟨k,hk k (Nat.le_refl _)⟩
set_option maxHeartbeats 8000000 in
set_option maxRecDepth 100000 in
theorem hpFramed (ps:List Sp) (A1 A2 A3:Option Addr) (c1 c2 c3:Nat) (ws us:List Int) (xs:List S51) (v5:Value) (sb:Nat) (w:World) (hr:HRel ps ws us xs) (hm:HMem w A1 A2 A3 c1 c2 c3 ws us xs) (hl:xs.length≤256)
  (hb:w.heap[sb]? =some (.cells (stV A1 A2 A3 c1 c2 c3 ws us xs v5) 81 (0,0))):
  Calls Tryz.prog 84 #[.pointer (some ⟨sb,0,none⟩)] w fun e w'=>e=.returned (.bool true)∧Below w.heap.size w w':=by
 have hue:=Tryz.underlying81
 have hu34:=Tryz.underlying34
 have hu51:=Tryz.underlying51
 obtain⟨k0,hk0⟩:=hr.check hl
 have hk0:=hk0 k0 (Nat.le_refl _)
 have HM:=As hm
 have HR:=As hr
 have HBX:=As hb
 have hc0:=Z.c0 HBX.out
 have hc1:=Z.c1 HBX.out
 have hc2:=Z.c2 HBX.out
 have hc3:=Z.c3 HBX.out
 have hc4:=Z.c4 HBX.out
 clear hr hm hb
 have HWS:=As HR.out.w.len
 go_enter Tryz.func84,Tryz.ntmps84
 go_wp2_with (fail)
 refine (arena_Check.calls A1 c1 ws 0 w HM.out.m1 HM.out.l1 (by have:=HWS.out;unfold arena_Check.f;rw[if_neg (by omega)])).mono ?_
 rintro e w14 ⟨rfl,hb⟩
 have HB:=As (Below.refl w.heap.size w)
 have HB2:=As (below_step (by with_reducible repeat (first|exact HB.out|refine below_alloc ?_ _|refine pw_below_drewN ?_ _|refine below_drew1 ?_|refine below_set ?_ (Nat.le_refl _)|(refine below_set ?_ ?_;rotate_left;omega))) hb)
 have hbx:=blk_below (by with_reducible repeat (first|exact HBX.out|refine blk_alloc ?_ _|refine blk_drew ?_|refine blk_drewN ?_ _|(refine blk_far ?_ ?_ _;rotate_left;(show _≠_;omega)))) hb
 clear HB HBX hb hc0 hc1 hc2 hc3 hc4
 have HB:=HB2
 have HBX:=As hbx
 clear HB2 hbx
 have hc0:=Z.c0 HBX.out
 have hc1:=Z.c1 HBX.out
 have hc2:=Z.c2 HBX.out
 have hc3:=Z.c3 HBX.out
 have hc4:=Z.c4 HBX.out
 dsimp only
 go_wp2_with (fail)
 obtain⟨k1,hk1⟩:=HR.out.u.page
 refine (pages_Check.calls k1 30 A2 c2 us 0 w14 (HM.out.below HB.out).m2 HM.out.l2 hk1).mono ?_
 rintro e w22 ⟨rfl,hb⟩
 have HB2:=As (below_step (by with_reducible repeat (first|exact HB.out|refine below_alloc ?_ _|refine pw_below_drewN ?_ _|refine below_drew1 ?_|refine below_set ?_ (Nat.le_refl _)|(refine below_set ?_ ?_;rotate_left;omega))) hb)
 have hbx:=blk_below (by with_reducible repeat (first|exact HBX.out|refine blk_alloc ?_ _|refine blk_drew ?_|refine blk_drewN ?_ _|(refine blk_far ?_ ?_ _;rotate_left;(show _≠_;omega)))) hb
 clear HB HBX hb hc0 hc1 hc2 hc3 hc4
 have HB:=HB2
 have HBX:=As hbx
 clear HB2 hbx
 have hc0:=Z.c0 HBX.out
 have hc1:=Z.c1 HBX.out
 have hc2:=Z.c2 HBX.out
 have hc3:=Z.c3 HBX.out
 have hc4:=Z.c4 HBX.out
 dsimp only
 go_wp2_with (fail)
 refine (span_Check.calls k0 A3 c3 xs 0 w22 (HM.out.below HB.out).m3 HM.out.l3 hk0).mono ?_
 rintro e w31 ⟨rfl,hb⟩
 have HB2:=As (below_step (by with_reducible repeat (first|exact HB.out|refine below_alloc ?_ _|refine pw_below_drewN ?_ _|refine below_drew1 ?_|refine below_set ?_ (Nat.le_refl _)|(refine below_set ?_ ?_;rotate_left;omega))) hb)
 have hbx:=blk_below (by with_reducible repeat (first|exact HBX.out|refine blk_alloc ?_ _|refine blk_drew ?_|refine blk_drewN ?_ _|(refine blk_far ?_ ?_ _;rotate_left;(show _≠_;omega)))) hb
 clear HB HBX hb hc0 hc1 hc2 hc3 hc4
 have HB:=HB2
 have HBX:=As hbx
 clear HB2 hbx
 have hc0:=Z.c0 HBX.out
 have hc1:=Z.c1 HBX.out
 have hc2:=Z.c2 HBX.out
 have hc3:=Z.c3 HBX.out
 have hc4:=Z.c4 HBX.out
 dsimp only
 clear hk0 hk1
 go_wp2_with (fail)
 have hgs:=blk_lt HBX.out
 have hl480:((ws.length:Int) != wrap64 480)=false:=by rw[HWS.out];decide +kernel
 have hbu:=blk_new w31 (Obj.cells #[.int .i64 30,.slice A2 us.length c2] 29)
 have hbx:=blk_alloc HBX.out (Obj.cells #[.int .i64 30,.slice A2 us.length c2] 29)
 have HB2:=As (below_alloc HB.out (Obj.cells #[.int .i64 30,.slice A2 us.length c2] 29))
 have hgu:=HB.out.size
 clear HB HBX hc0 hc1 hc2 hc3 hc4
 generalize w31.alloc (Obj.cells #[.int .i64 30,.slice A2 us.length c2] 29)=w39 at HB2 hbu hbx ⊢
 generalize w31.heap.size=gu at hgu hbu hgs ⊢
 have HB:=HB2
 have HBX:=As hbx
 have HBU:=As hbu
 clear HB2 hbx hbu
 have hs0:=Z.c0 HBX.out
 have hs1:=Z.c0 HBU.out
 refine start_ (n:=16) (S:=fun w'=>w'.cell? ⟨sb,0,none⟩=some (.slice A1 ws.length c1)∧w'.cell? ⟨gu,0,none⟩=some (.int .i64 30)) (ds:=[]) #[false,false,false,false,false,false,false,false,false,false,false,false,false,false,false,false] (by kernel_rfl) rfl rfl ⟨hs0,hs1⟩ (fun hHeld=>?_)
 have hbu:=blk_drew HBU.out
 have hbx:=blk_drew HBX.out
 have HB2:=As (below_drew1 HB.out)
 clear HBU HBX HB hs0 hs1
 generalize w39.drew=w40 at HB2 hbu hbx hHeld ⊢
 have HB:=HB2
 have HBX:=As hbx
 have HBU:=As hbu
 clear HB2 hbx hbu
 refine Z.p_ 0 40 ?_
 refine Z.t_ 1 41 hHeld ?_
 refine Z.p_ 2 42 ?_
 refine Z.p_ 3 43 ?_
 refine Z.p_ 4 44 ?_
 refine Z.p_ 5 45 ?_
 refine Z.p_ 6 46 ?_
 refine Z.p_ 7 47 ?_
 refine Z.p_ 8 48 ?_
 refine Z.t_ 9 49 hHeld ?_
 refine Z.p_ 10 50 ?_
 refine Z.p_ 11 51 ?_
 refine Z.t_ 12 52 hHeld ?_
 refine Z.p_ 13 53 ?_
 refine Z.p_ 14 54 ?_
 refine Z.p_ 15 55 ?_
 refine done_ (by kernel_rfl) ?_
 clear hHeld
 have hcu0:=Z.c0 HBU.out
 have hcu1:=Z.c1 HBU.out
 go_wp2_with (fail)
 refine (bits_Make.calls 30 30 [0] 0 w40 (by decide +kernel)).mono ?_
 rintro e w59 ⟨v59,rfl,ho,hb⟩
 obtain⟨Aw,cw,rfl⟩:∃A c,v59=.slice A 1 c:=Kd.R_slice ho
 obtain⟨-,hnw,hCw⟩:=Kd.R_reads' ho
 have hbu:=blk_below HBU.out hb
 have hbx:=blk_below HBX.out hb
 have HB2:=As (below_step HB.out hb)
 clear HB HBX HBU hb ho hcu0 hcu1 hl480
 have HB:=HB2
 have HBX:=As hbx
 have HBU:=As hbu
 clear HB2 hbx hbu
 dsimp only
 go_wp2_with (fail)
 have hgw:=HB.out.size
 have hbw:=blk_new w59 (Obj.cells #[.int .i64 30,.slice Aw 1 cw] 29)
 have hbu:=blk_alloc HBU.out (Obj.cells #[.int .i64 30,.slice Aw 1 cw] 29)
 have hbx:=blk_alloc HBX.out (Obj.cells #[.int .i64 30,.slice Aw 1 cw] 29)
 have HB2:=As (below_alloc HB.out (Obj.cells #[.int .i64 30,.slice Aw 1 cw] 29))
 have hgl:=blk_lt HBU.out
 have hgl2:=blk_lt HBX.out
 refine (bits_Put.calls 9 30 Aw cw [0] 0 true 30 [1] 0 _ (Kd.C_below hCw (below_alloc (Below.refl _ _) _)) hnw put0).mono ?_
 clear HBX HBU HB
 generalize w59.alloc (Obj.cells #[.int .i64 30,.slice Aw 1 cw] 29)=w62 at hbw hbu hbx HB2 ⊢
 generalize w59.heap.size=gw at hbw hgw hgl hgl2 ⊢
 rintro e w64 ⟨v64,rfl,ho,hb⟩
 obtain⟨Ap,cp,rfl⟩:∃A c,v64=.slice A 1 c:=Kd.R_slice ho
 obtain⟨-,hnp,hCp⟩:=Kd.R_reads' ho
 have HBW:=As (blk_below hbw hb)
 have HBU:=As (blk_below hbu hb)
 have HBX:=As (blk_below hbx hb)
 have HB:=As (below_step HB2.out hb)
 have hsz:=HB2.out.size
 have hgl3:=blk_lt hbw
 have HRW:=As (Kd.R_lower (Kd.R_mono (ok':=fun k=>k≠gw) (Kd.R_bound ho) (fun k hk=>by have:=hk.2.1;omega)) hsz)
 clear HB2 hbx hbu hbw hb ho hCw hCp hnw hsz
 have hcw0:=Z.c0 HBW.out
 have hfw0:w64.frozen? ⟨gw,0,none⟩=false:=blk_frozen HBW.out 0
 have hfw1:w64.frozen? ⟨gw,1,none⟩=false:=blk_frozen HBW.out 1
 have hcw1:=Z.c1 HBW.out
 have hc0:=Z.c0 HBX.out
 have hc1:=Z.c1 HBX.out
 have hc2:=Z.c2 HBX.out
 have hc3:=Z.c3 HBX.out
 have hc4:=Z.c4 HBX.out
 have hne1:(sb=gw)=False:=eq_false (by omega)
 have hne2:(gw=sb)=False:=eq_false (by omega)
 dsimp only
 go_wp2_with (fail)
 have hbw:=blk_put (blk_put HBW.out 0 (.int .i64 30) rfl) 1 (.slice Ap 1 cp) rfl
 have hbu:=blk_far (p:=⟨gw,1,none⟩) (blk_far (p:=⟨gw,0,none⟩) HBU.out (show gu≠gw by omega) (.int .i64 30)) (show gu≠gw by omega) (.slice Ap 1 cp)
 have hbx:=blk_far (p:=⟨gw,1,none⟩) (blk_far (p:=⟨gw,0,none⟩) HBX.out (show sb≠gw by omega) (.int .i64 30)) (show sb≠gw by omega) (.slice Ap 1 cp)
 have hrw:=Kd.R_far (p:=⟨gw,1,none⟩) (Kd.R_far (p:=⟨gw,0,none⟩) HRW.out (fun k hk=>hk) (.int .i64 30)) (fun k hk=>hk) (.slice Ap 1 cp)
 have HB2:=As (below_set (j:=1) (v:=.slice Ap 1 cp) (below_set (j:=0) (v:=.int .i64 30) HB.out hgw) hgw)
 clear HBW HBU HBX HRW HB hcw0 hcw1 hfw0 hfw1 hc0 hc1 hc2 hc3 hc4
 generalize (w64.setCell ⟨gw,0,none⟩ (.int .i64 30)).setCell ⟨gw,1,none⟩ (.slice Ap 1 cp)=w70 at hbw hbu hbx hrw HB2 ⊢
 have HUG:=As (show gu≠gw by omega)
 have HSG:=As (show sb≠gw by omega)
 go_loopw [73] (fun v73 wr=>∃(i:Nat) (W:List Int) (A:Option Addr) (c:Nat),v73=.int .i64 (i:Int)∧Aside0 (i≤xs.length)∧Aside0 (BRel W 30 (inSp (ps.take i)))∧Aside0 (wr.heap[gw]? =some (.cells #[.int .i64 30,.slice A W.length c] 29 (0,0)))∧Aside0 (Kd.R (Kd.int .u64) 39 wr w.heap.size (fun k=>k≠gw) (.slice A W.length c) W)∧Aside0 (wr.heap[gu]? =some (.cells #[.int .i64 30,.slice A2 us.length c2] 29 (0,0)))∧Aside0 (wr.heap[sb]? =some (.cells (stV A1 A2 A3 c1 c2 c3 ws us xs v5) 81 (0,0)))∧Aside0 (Below w.heap.size w wr)) (fun v73 _=>xs.length - (intOf v73).toNat)
 case atStart=>exact⟨0,[1],Ap,cp,rfl,⟨Nat.zero_le _⟩,⟨in_nil⟩,⟨hbw⟩,⟨hrw⟩,⟨hbu⟩,⟨hbx⟩,HB2⟩
 case round=>
  clear HB2 hbw hbu hbx hrw hgl hgl2 hgl3
  obtain⟨i,W,Aw,cw,rfl,HI,HBR,HBW,HRW,HBU,HBX,HB⟩:=hrel
  by_cases hlt:i < xs.length
  ·obtain⟨ad,B4,d4,B6,d6,eA,hx0,hx1,hx2,hx3,hx4,hx5,hx6,hx7,hy4,hy4C,hy6,hy6C⟩:=at_T51 (HM.out.below HB.out).m3 (i:Int) (by omega) (by omega)
   subst eA
   rw[Int.toNat_natCast] at hx0 hx1 hx2 hx3 hx4 hx5 hx6 hx7
   rw[rd51 (by omega) (by omega)] at hx0 hx1 hx2 hx3 hx4 hx5 hx6 hx7
   obtain⟨hxr,hpg⟩:=HR.out.at hlt
   simp only[Int.toNat_natCast] at hx0 hx1 hx2 hx3 hx4 hx5 hx6 hx7
   obtain⟨x,hx⟩:∃x,x=xs[i]:=⟨_,rfl⟩
   obtain⟨p,hp⟩:∃p,p=ps[i]'(by have:=HR.out.xl;omega):=⟨_,rfl⟩
   rw[←hx] at hx0 hx1 hx2 hx3 hx4 hx5 hx6 hx7 hxr
   rw[←hp] at hxr hpg
   obtain⟨⟨kf,hkf⟩,hbr2⟩:=in_more HBR.out hpg
   have hkf:=hkf kf (Nat.le_refl _)
   have htk:ps.take i ++ [p]=ps.take (i + 1):=by rw[hp,List.take_succ_eq_append_getElem (by have:=HR.out.xl;omega)]
   rw[htk] at hbr2
   have hx0n:((p.first:Int) < 1)=False:=eq_false (by have:=hpg.lo;omega)
   rw[hxr.f0] at hx0
   rw[hxr.f1] at hx1
   have HXR:=As hxr
   have HBR2:=As hbr2
   clear hy4 hy4C hy6 hy6C hx hp htk hbr2 HBR hxr hpg
   have hltd:(i < xs.length)=True:=eq_true hlt
   have hcw0:=Z.c0 HBW.out
   have hcw1:=Z.c1 HBW.out
   have hgl:=blk_lt HBW.out
   go_wp2_with (fail)
   obtain⟨-,hnw,hCw⟩:=Kd.R_reads' HRW.out
   have hb0:=below_alloc (Below.refl wr.heap.size wr) (Obj.cells #[.int .i64 p.first,.int .i64 p.pages,.int .i64 x.f2,.int .i64 x.f3.f0,.slice B4 x.f3.f1.length d4,.int .i64 x.f4.f0,.slice B6 x.f4.f1.length d6,.bool x.f5] 51)
   refine (bits_Fill.calls kf 30 Aw cw W p.first p.pages true _ _ _ _ (Kd.C_below hCw hb0) hnw hkf).mono ?_
   have hbv:=blk_new wr (Obj.cells #[.int .i64 p.first,.int .i64 p.pages,.int .i64 x.f2,.int .i64 x.f3.f0,.slice B4 x.f3.f1.length d4,.int .i64 x.f4.f0,.slice B6 x.f4.f1.length d6,.bool x.f5] 51)
   rintro e w83 ⟨v83,rfl,ho,hb⟩
   have hb2:=below_step hb0 hb
   have hsz:=hb2.size
   have hgl2:=blk_lt HBX.out
   have hgl3:=blk_lt HBU.out
   obtain⟨Af,cf,rfl⟩:=Kd.R_slice ho
   have hrw:=Kd.R_lower (Kd.R_mono (ok':=fun k=>k≠gw) (Kd.R_bound ho) (fun k hk=>by have:=hk.2.1;have:=hb0.size;omega)) (Nat.le_trans HB.out.size hb0.size)
   have hbw:=blk_below HBW.out hb2
   have hbu:=blk_below HBU.out hb2
   have hbx:=blk_below HBX.out hb2
   have hvx:w83.cell? ⟨wr.heap.size,0,none⟩=some (.int .i64 p.first):=(blk_cell (blk_below hbv hb) 0).trans rfl
   have HB2:=As (below_step HB.out hb2)
   have hne:(wr.heap.size=gw)=False:=eq_false (by omega)
   have hfw0:w83.frozen? ⟨gw,0,none⟩=false:=blk_frozen hbw 0
   have hfw1:w83.frozen? ⟨gw,1,none⟩=false:=blk_frozen hbw 1
   have hcw0:=Z.c0 hbw
   have hcw1:=Z.c1 hbw
   have hgws:=HB.out.size
   obtain⟨W2,hW2⟩:∃W2,W2=fillAt true p.first p.pages 0 W:=⟨_,rfl⟩
   rw[←hW2] at hrw HBR2 ⊢
   have HRW2:=As hrw
   have HBX2:=As hbx
   have HBW2:=As hbw
   have HBU2:=As hbu
   clear HB HBW HBU HBX HRW hbv hb hb0 hb2 ho hrw hbx hbw hbu hkf hCw hnw hW2
   dsimp only
   go_wp2_with (fail)
   have hbw:=blk_put (blk_put HBW2.out 0 (.int .i64 30) rfl) 1 (.slice Af W2.length cf) rfl
   have hbu:=blk_far (p:=⟨gw,1,none⟩) (blk_far (p:=⟨gw,0,none⟩) HBU2.out HUG.out (.int .i64 30)) HUG.out (.slice Af W2.length cf)
   have hbx:=blk_far (p:=⟨gw,1,none⟩) (blk_far (p:=⟨gw,0,none⟩) HBX2.out HSG.out (.int .i64 30)) HSG.out (.slice Af W2.length cf)
   have hrw:=Kd.R_far (p:=⟨gw,1,none⟩) (Kd.R_far (p:=⟨gw,0,none⟩) HRW2.out (fun k hk=>hk) (.int .i64 30)) (fun k hk=>hk) (.slice Af W2.length cf)
   have hb3:=below_set (j:=1) (v:=.slice Af W2.length cf) (below_set (j:=0) (v:=.int .i64 30) HB2.out hgw) hgw
   go_roundw
   case rel=>exact⟨i + 1,W2,Af,cf,by go_num,⟨hlt⟩,HBR2,⟨hbw⟩,⟨hrw⟩,⟨hbu⟩,⟨hbx⟩,⟨hb3⟩⟩
   case measure=>simp[intOf];omega
  ·have hnl:decide (i < xs.length)=false:=decide_eq_false hlt
   have hi:i=ps.length:=by have:=HI.out;have:=HR.out.xl;omega
   have hbr:=HBR.out
   rw[hi,List.take_length] at hbr
   have hWu:=in_eq hbr HR.out.u
   subst hWu
   clear hbr HBR hi
   have hcw1:=Z.c1 HBW.out
   have hcu1:=Z.c1 HBU.out
   obtain⟨-,hnw,hCw⟩:=Kd.R_reads' HRW.out
   obtain⟨ke,hke⟩:=equal_ev W (by have:=HR.out.u.len;omega)
   have hke:=hke ke (Nat.le_refl _)
   go_wp2_with (fail)
   refine (slices_Equal_uint64_uint64.calls ke Aw cw W A2 c2 W true wr hCw hnw (HM.out.below HB.out).m2 HM.out.l2 hke).mono ?_
   rintro e w98 ⟨rfl,hb⟩
   dsimp only
   go_wp2
   go_ret
   exact⟨rfl,below_step HB.out (Drawn0.below hb)⟩
end Go.Proofs.YtmmfchnbfnegnaaGreatDoor.K
