import Derived.Test.YtmmfchnbfnegnaaGreatDoorM19
import Derived.Test.YtmmfchnbfnegnaaGreatDoorM08
import Derived.Test.YtmmfchnbfnegnaaGreatDoorM03
import Derived.Test.YtmmfchnbfnegnaaGreatDoorM17
import Derived.Test.YtmmfchnbfnegnaaGreatDoorM05
import Derived.Test.YtmmfchnbfnegnaaGreatDoorM14
import Derived.Test.YtmmfchnbfnegnaaGreatDoorM07
section
namespace Go.Proofs.YtmmfchnbfnegnaaGreatDoor.K
open Go.RowKit Go.Proofs.YtmmfchnbfnegnaaGreatDoorW.PrintWords Go.Proofs.YtmmfchnbfnegnaaGreatDoorW.PrintLast Go.Proofs.YtmmfchnbfnegnaaGreatDoorW.PrintMore Go.Proofs.YtmmfchnbfnegnaaGreatDoor.GK Go.Proofs.YtmmfchnbfnegnaaGreatDoor.Pu Go.Proofs.YtmmfchnbfnegnaaGreatDoor.PuBitW Go.Proofs.YtmmfchnbfnegnaaGreatDoor.PuBits Go.Proofs.YtmmfchnbfnegnaaGreatDoor.PuBitsLay Go.Proofs.YtmmfchnbfnegnaaGreatDoor.PuBitsPutL Go.Proofs.YtmmfchnbfnegnaaGreatDoor.PuHeadI
set_option linter.unusedVariables false
set_option linter.unusedSimpArgs false
attribute [local go_sem] max2_int min2_int max_two min_two max_three min_three max_four min_four
theorem fk51_open {W:World} {ok:Nat→Prop} {x:S51} {c:List Value} (h:Kd.FK k51 W ok x c):∃A4 c4 A6 c6,c=[.int .i64 x.f0,.int .i64 x.f1,.int .i64 x.f2,.int .i64 x.f3.f0,.slice A4 x.f3.f1.length c4,.int .i64 x.f4.f0,.slice A6 x.f4.f1.length c6,.bool x.f5]∧x.f3.f1.length≤c4∧Kd.F (Kd.int .u64) W ok A4 x.f3.f1.length x.f3.f1∧x.f4.f1.length≤c6∧Kd.F (Kd.int .u64) W ok A6 x.f4.f1.length x.f4.f1:=by
 obtain⟨A4,c4,A6,c6,rfl,l4, -,l6, -⟩:=k51_open (Kd.FK_now h)
 refine⟨A4,c4,A6,c6,rfl,l4,fun W' hW=>?_,l6,fun W' hW=>?_⟩
 ·obtain⟨B4,d4,B6,d6,e,_,g4,_,_⟩:=k51_open (h W' hW)
  injection e with _ e;injection e with _ e;injection e with _ e;injection e with _ e;injection e with e _
  injection e with e
  rw[e];exact g4
 ·obtain⟨B4,d4,B6,d6,e,_,_,_,g6⟩:=k51_open (h W' hW)
  injection e with _ e;injection e with _ e;injection e with _ e;injection e with _ e;injection e with _ e;injection e with _ e;injection e with e _
  injection e with e
  rw[e];exact g6
theorem fk51_mk {W:World} {ok:Nat→Prop} (x:S51) {A4 A6:Option Addr} {c4 c6:Nat} (l4:x.f3.f1.length≤c4) (h4:Kd.F (Kd.int .u64) W ok A4 x.f3.f1.length x.f3.f1) (l6:x.f4.f1.length≤c6) (h6:Kd.F (Kd.int .u64) W ok A6 x.f4.f1.length x.f4.f1):
  Kd.FK k51 W ok x [.int .i64 x.f0,.int .i64 x.f1,.int .i64 x.f2,.int .i64 x.f3.f0,.slice A4 x.f3.f1.length c4,.int .i64 x.f4.f0,.slice A6 x.f4.f1.length c6,.bool x.f5]:=fun W' hW=>k51_mk W' x l4 (h4 W' hW) l6 (h6 W' hW)
section
variable {w w1 w0:World} {L:Nat→Prop} {B sb gw cw gs cs:Nat} {A2 A5:Option Addr} {c2 c5 n3:Nat} {v3:Value} {ws us:List Int} {xs ys:List S51} {os:List S92}
theorem Mine.below (h:Mine w L B sb gw cw A2 A5 c2 c5 v3 ws us xs os) (hb:Below w.heap.size w w1):Mine w1 L B sb gw cw A2 A5 c2 c5 v3 ws us xs os:=
 ⟨h.hsb,h.hgw,h.ne,blk_below h.blk hb,Kd.R_below h.m1 hb,Kd.F_below h.m2 hb,h.l2,Kd.N_below h.m3 hb,Kd.F_below h.m5 hb,h.l5⟩
theorem Mine.sbs (h:Mine w L B sb gw cw A2 A5 c2 c5 v3 ws us xs os):some sb≠v3.ownBlock:=Kd.N_ne h.m3 h.blk (by decide)
theorem Mine.gws (h:Mine w L B sb gw cw A2 A5 c2 c5 v3 ws us xs os):some gw≠v3.ownBlock:=by
 obtain⟨cells,hc⟩:=Kd.R_typed h.m1 gw (by simp[Value.ownBlock])
 exact Kd.N_ne h.m3 hc (by decide)
theorem Mine.grown (h:Mine w L B sb gw cw A2 A5 c2 c5 v3 ws us xs os) (hg:w.grownBy w1 v3.ownBlock) (hn:Kd.N k51 51 w1 B (fun k=>(L k∨B≤k)∧k≠sb∧k≠gw) v3 ys):Mine w1 L B sb gw cw A2 A5 c2 c5 v3 ws us ys os:=
 ⟨h.hsb,h.hgw,h.ne,blk_grown h.blk hg h.sbs,Kd.R_grown h.m1 hg (fun k hk=>hk▸h.gws),Kd.F_grown h.m2 hg (fun k hk=>hk.2.2.2),h.l2,hn,Kd.F_grown h.m5 hg (fun k hk=>hk.2.2.2),h.l5⟩
theorem Mine.word (h:Mine w L B sb gw cw A2 A5 c2 c5 v3 ws us xs os) (i:Nat) (x:Int):Mine (w.setCell ⟨gw,i,none⟩ (.int .u64 x)) L B sb gw cw A2 A5 c2 c5 v3 (ws.set i x) us xs os:=by
 have hs:=(own_store_of (Kd.own_of_R h.m1) (i:Int) x).1
 rw[Int.toNat_natCast] at hs
 have hl:(ws.set i x).length=ws.length:=List.length_set
 refine⟨h.hsb,h.hgw,h.ne,?_,?_,Kd.F_far h.m2 (fun k hk=>hk.2.2.1) _,h.l2,Kd.N_far h.m3 (fun k hk=>hk.2.2) _,Kd.F_far h.m5 (fun k hk=>hk.2.2.1) _,h.l5⟩
 ·rw[hl];exact blk_far h.blk (Ne.symm h.ne) _
 ·rw[hl]
  exact Kd.R_of_own (by rw[hl];exact hs) (fun k hk=>by simpa[Value.ownBlock] using hk.symm)
theorem Mine.far (h:Mine w L B sb gw cw A2 A5 c2 c5 v3 ws us xs os) {p:Addr} (h1:¬L p.block) (h2:p.block < B) (x:Value):Mine (w.setCell p x) L B sb gw cw A2 A5 c2 c5 v3 ws us xs os:=by
 have hne:∀k,(L k∨B≤k)→k≠p.block:=fun k hk e=>hk.elim (fun h=>h1 (e▸h)) (fun h=>Nat.not_le.2 h2 (e▸h))
 exact⟨h.hsb,h.hgw,h.ne,blk_far h.blk (hne _ (.inr h.hsb)) x,Kd.R_far h.m1 (fun k hk=>hk▸hne _ (.inr h.hgw)) x,Kd.F_far h.m2 (fun k hk=>hne k hk.1) x,h.l2,Kd.N_far h.m3 (fun k hk=>hne k hk.1) x,Kd.F_far h.m5 (fun k hk=>hne k hk.1) x,h.l5⟩
end
theorem elem51 {W:World} {B gs n cs:Nat} {ok:Nat→Prop} {xs:List S51} (h:Kd.N k51 51 W B ok (.slice (some ⟨gs,0,none⟩) n cs) xs) {i:Nat} (hi:i < n) {x:S51} (hx:xs[i]? =some x):
  ∃A4 c4 A6 c6,x.f3.f1.length≤c4∧Kd.F (Kd.int .u64) W (fun k=>ok k∧k≠gs) A4 x.f3.f1.length x.f3.f1∧x.f4.f1.length≤c6∧Kd.F (Kd.int .u64) W (fun k=>ok k∧k≠gs) A6 x.f4.f1.length x.f4.f1∧(∀j u,[.int .i64 x.f0,.int .i64 x.f1,.int .i64 x.f2,.int .i64 x.f3.f0,.slice A4 x.f3.f1.length c4,.int .i64 x.f4.f0,.slice A6 x.f4.f1.length c6,.bool x.f5][j]? =some u→W.cell? ⟨gs,i * 8 + j,none⟩=some u)∧∀j,W.frozen? ⟨gs,i * 8 + j,none⟩=false:=by
 obtain⟨c, -,hK,hcc,hfr⟩:=Kd.N_elem h z51 (i:Int) (by omega) (by omega)
 have e:xs.getD (i:Int).toNat z51=x:=by rw[Int.toNat_natCast,List.getD_eq_getElem?_getD,hx];rfl
 rw[e] at hK
 obtain⟨A4,c4,A6,c6,rfl,l4,h4,l6,h6⟩:=fk51_open hK
 rw[Int.toNat_natCast] at hcc hfr
 exact⟨A4,c4,A6,c6,l4,h4,l6,h6,hcc,hfr⟩
theorem BRel.put {W:List Int} {n:Nat} {f:Nat→Bool} (h:BRel W n f) {k:Nat} (hk:k < n) (v:Bool):∃q,bits_Put.f q (n:Int) W (k:Int) v=some ((n:Int),setAt v W k,0):=by
 obtain⟨q,hq⟩:=put_ev (n:=(n:Int)) h.wf h.small (k:Int) v
 refine⟨q,(hq q (Nat.le_refl _)).trans ?_⟩
 unfold putS
 rw[if_pos h.fit,if_neg (by omega),if_neg (by omega),Int.toNat_natCast]
theorem pack_hw {n m:Nat} (hn:n≤48) (hm:m < 2 ^ n):head_Pack.f (n:Int) (m:Int)=some (hw n m,0):=by
 have hf:HFit (n:Int) m:=⟨by omega,by omega,by simpa using hm⟩
 have hl:=hf.lt48
 rw[pack_eq _ _ (by omega)]
 unfold packS hw
 rw[if_pos hf]
set_option maxHeartbeats 3000000 in
set_option maxRecDepth 100000 in
theorem hpPut {w w0:World} {L:Nat→Prop} {sb gw cw gs cs:Nat} {A2 A5:Option Addr} {c2 c5:Nat} {ws us:List Int} {xs:List S51} {os:List S92} (hM:Mine w L w0.heap.size sb gw cw A2 A5 c2 c5 (.slice (some ⟨gs,0,none⟩) xs.length cs) ws us xs os) (hB:Below w0.heap.size w0 w) (hwl:ws.length=480) (i:Nat) (hi:i < xs.length) (x:S51) (hx:xs[i]? =some x) (p:Sp) (hxr:XRel x p) (hp:SpGood p) (k:Nat) (o:Ob) (ho:ObGood p k o):
  Calls Tryz.prog 27 #[.pointer (some ⟨sb,0,none⟩),.int .i64 (i:Int),.int .i64 (k:Int),.agg #[.int .i64 (o.n:Int),.int .u64 (o.m:Int)],.bool o.b] w fun e w'=>e=.returned (.int .u64 ((p.ad k:Nat):Int))∧
   Mine w' L w0.heap.size sb gw cw A2 A5 c2 c5 (.slice (some ⟨gs,0,none⟩) xs.length cs) (ws.set (p.ad k) (hw o.n o.m)) us (xs.set i ⟨x.f0,x.f1,x.f2,⟨x.f3.f0,setAt true x.f3.f1 k⟩,⟨x.f4.f0,setAt o.b x.f4.f1 k⟩,x.f5⟩) os∧Below w0.heap.size w0 w':=by
 have hue:=Tryz.underlying81
 have hu34:=Tryz.underlying34
 have hu27:=Tryz.underlying27
 have hu51:=Tryz.underlying51
 have hu29:=Tryz.underlying29
 obtain⟨q1,hq1⟩:=hxr.al.put ho.lt true
 obtain⟨q2,hq2⟩:=hxr.mb.put ho.lt o.b
 rw[←hxr.n3] at hq1
 rw[←hxr.n4] at hq2
 have hpk:=pack_hw ho.n ho.m
 generalize hw (o.n:Int) (o.m:Int)=hww at hpk ⊢
 obtain⟨q,hb1,hb2,hb3,hb4⟩:=ad_words hp ho.lt
 rw[←hxr.f0,←hxr.f2] at *
 have hal:=ad_lt hp ho.lt
 obtain⟨a,ha⟩:∃a,a=p.ad k:=⟨_,rfl⟩
 rw[←ha] at hb4 hal ⊢
 obtain⟨L1,hL1⟩:∃L,L=setAt true x.f3.f1 k:=⟨_,rfl⟩
 obtain⟨L2,hL2⟩:∃L,L=setAt o.b x.f4.f1 k:=⟨_,rfl⟩
 rw[←hL1] at hq1 ⊢
 rw[←hL2] at hq2 ⊢
 have HM:=As hM
 have HB:=As hB
 have HQ1:=As hq1
 have HQ2:=As hq2
 have HPK:=As hpk
 have HWL:=As hwl
 have HAL:=As hal
 have HBA:=As (And.intro hb1 (And.intro hb2 (And.intro hb3 hb4)))
 have HX:=As hx
 have HXI:=As hi
 clear hM hB hxr hp ho hq1 hq2 hpk hwl hal ha hL1 hL2 hb1 hb2 hb3 hb4 hx hi
 obtain⟨A4,c4,A6,c6,l4,hF4,l6,hF6,hcc,hfr⟩:=elem51 HM.out.m3 HXI.out HX.out
 have HF4:=As hF4
 have HF6:=As hF6
 have HCC:=As hcc
 have hx0:w.cell? ⟨gs,i * 8,none⟩=some (.int .i64 x.f0):=hcc 0 _ rfl
 have hx1:w.cell? ⟨gs,i * 8 + 1,none⟩=some (.int .i64 x.f1):=hcc 1 _ rfl
 have hx2:w.cell? ⟨gs,i * 8 + 2,none⟩=some (.int .i64 x.f2):=hcc 2 _ rfl
 have hx3:w.cell? ⟨gs,i * 8 + 3,none⟩=some (.int .i64 x.f3.f0):=hcc 3 _ rfl
 have hx4:w.cell? ⟨gs,i * 8 + 4,none⟩=some (.slice A4 x.f3.f1.length c4):=hcc 4 _ rfl
 have hx5:w.cell? ⟨gs,i * 8 + 5,none⟩=some (.int .i64 x.f4.f0):=hcc 5 _ rfl
 have hx6:w.cell? ⟨gs,i * 8 + 6,none⟩=some (.slice A6 x.f4.f1.length c6):=hcc 6 _ rfl
 have hx7:w.cell? ⟨gs,i * 8 + 7,none⟩=some (.bool x.f5):=hcc 7 _ rfl
 have hc3:=Z.c3 HM.out.blk
 have hltd:(i < xs.length)=True:=eq_true HXI.out
 have hgl:=blk_lt HM.out.blk
 have hgsl:=World.block_lt_of_cell? _ _ hx0
 have hgwl:=Kd.R_lt HM.out.m1 gw (by simp[Value.ownBlock])
 clear hF4 hF6 hcc hfr
 go_enter Tryz.func27,Tryz.ntmps27
 go_wp2_with (fail)
 have hb0:=below_alloc (Below.refl w.heap.size w) (Obj.cells #[.int .i64 (o.n:Int),.int .u64 (o.m:Int)] 41)
 have hbh:=blk_new w (Obj.cells #[.int .i64 (o.n:Int),.int .u64 (o.m:Int)] 41)
 refine (bits_Put.calls q1 x.f3.f0 A4 c4 x.f3.f1 (k:Int) true _ _ _ _ (Kd.C_below (Kd.F_now HF4.out) hb0) l4 HQ1.out).mono ?_
 rintro e w27 ⟨v27,rfl,hr,hb⟩
 obtain⟨B4,d4,rfl⟩:=Kd.R_slice hr
 have hbw:=below_step hb0 hb
 have HM1:=As (HM.out.below hbw)
 have HB1:=As (below_step HB.out hbw)
 have HBH1:=As (blk_below hbh hb)
 have HG4:=As (Kd.R_F (Kd.R_bound hr))
 have hd4:=(Kd.R_reads' hr).2.1
 have hsz0:=hb0.size
 have hszB:=HB.out.size
 obtain⟨gh,hgh⟩:∃gh,gh=w.heap.size:=⟨_,rfl⟩
 rw[←hgh] at HBH1 hgl hgsl hgwl hsz0 hszB ⊢
 clear hgh
 obtain⟨A4',c4',A6',c6', -,hF4,l6',hF6,hcc,hfr⟩:=elem51 HM1.out.m3 HXI.out HX.out
 have e6:=Option.some.inj ((hcc 6 _ rfl).symm.trans (keepc hbw hx6))
 injection e6 with e6 _ e6c
 subst e6
 subst e6c
 have e4:=Option.some.inj ((hcc 4 _ rfl).symm.trans (keepc hbw hx4))
 injection e4 with e4 _ e4c
 subst e4
 subst e4c
 have HCC1:=As hcc
 have HF6:=As hF6
 have HFK:=As (fk51_mk (ok:=fun k=>((L k∨w0.heap.size≤k)∧k≠sb∧k≠gw)∧k≠gs) ⟨x.f0,x.f1,x.f2,⟨x.f3.f0,L1⟩,x.f4,x.f5⟩ hd4 (Kd.F_mono HG4.out (fun k hk=> ?hg4)) l6' hF6)
 case hg4=>
  have hk2:=hk.2.1
  exact⟨⟨.inr (Nat.le_trans hszB (Nat.le_trans hsz0 hk2)),Nat.ne_of_gt (Nat.lt_of_lt_of_le hgl (Nat.le_trans hsz0 hk2)),Nat.ne_of_gt (Nat.lt_of_lt_of_le hgwl (Nat.le_trans hsz0 hk2))⟩,Nat.ne_of_gt (Nat.lt_of_lt_of_le hgsl (Nat.le_trans hsz0 hk2))⟩
 have HGHS:=As (show gh≠gs from Nat.ne_of_gt hgsl)
 clear hx0 hx1 hx2 hx3 hx4 hx5 hx6 hx7 hc3 hF4 hF6 hcc hfr hr hb hb0 hbh hbw HF4 HCC HM HB HG4
 dsimp only
 go_wp2_with ((with_reducible refine gate_store (t:=29) (p:=31) rfl ?_);refine Kd.N_store k51 (w0:=w0) (g:=gs) (n:=xs.length) (cap:=cs) (o':=i * 8 + 3) w0.heap.size rfl rfl 29 (.tmp 31) (.tmp 28) rfl 51 (i:Int) 3 xs ⟨x.f0,x.f1,x.f2,⟨x.f3.f0,L1⟩,x.f4,x.f5⟩ (.agg #[.int .i64 x.f3.f0,.slice B4 L1.length d4]) [.int .i64 x.f3.f0,.slice B4 L1.length d4] [.int .i64 x.f0,.int .i64 x.f1,.int .i64 x.f2,.int .i64 x.f3.f0,.slice A4' x.f3.f1.length c4',.int .i64 x.f4.f0,.slice A6' x.f4.f1.length c6',.bool x.f5] (fun k=>(L k∨w0.heap.size≤k)∧k≠sb∧k≠gw) (fun k=>((L k∨w0.heap.size≤k)∧k≠sb∧k≠gw)∧k≠gs) rfl rfl rfl rfl (by kernel_rfl) (by simp[Value.oneCell']) HM1.out.m3 (Int.natCast_nonneg i) (Int.ofNat_lt.2 HXI.out) rfl HCC1.out (show 3 + 2≤8 by decide) HFK.out (fun k hk=>hk) HB1.out ?_;intro w1 hn hb hg;have HM2:=As (HM1.out.grown hg hn);have HB2:=As hb;have HBH2:=As (blk_grown HBH1.out hg (fun e=>HGHS.out (Option.some.inj e)));obtain⟨A4b,c4b,A6b,c6b,l4b,hF4b,l6b,hF6b,hcc,hfr⟩:=elem51 hn HXI.out (x:=⟨x.f0,x.f1,x.f2,⟨x.f3.f0,L1⟩,x.f4,x.f5⟩) (by rw[Int.toNat_natCast];exact List.getElem?_set_self HXI.out);have HF4b:=As hF4b;have HF6b:=As hF6b;have HCC2:=As hcc;have hz0:w1.cell? ⟨gs,i * 8,none⟩=some (.int .i64 x.f0):=hcc 0 _ rfl;have hz1:w1.cell? ⟨gs,i * 8 + 1,none⟩=some (.int .i64 x.f1):=hcc 1 _ rfl;have hz2:w1.cell? ⟨gs,i * 8 + 2,none⟩=some (.int .i64 x.f2):=hcc 2 _ rfl;have hz3:w1.cell? ⟨gs,i * 8 + 3,none⟩=some (.int .i64 x.f3.f0):=hcc 3 _ rfl;have hz4:w1.cell? ⟨gs,i * 8 + 4,none⟩=some (.slice A4b L1.length c4b):=hcc 4 _ rfl;have hz5:w1.cell? ⟨gs,i * 8 + 5,none⟩=some (.int .i64 x.f4.f0):=hcc 5 _ rfl;have hz6:w1.cell? ⟨gs,i * 8 + 6,none⟩=some (.slice A6b x.f4.f1.length c6b):=hcc 6 _ rfl;have hz7:w1.cell? ⟨gs,i * 8 + 7,none⟩=some (.bool x.f5):=hcc 7 _ rfl;clear hn hb hg hF4b hF6b hcc hfr)
 refine (bits_Put.calls q2 x.f4.f0 A6b c6b x.f4.f1 (k:Int) o.b _ _ _ w1 (Kd.F_now HF6b.out) l6b HQ2.out).mono ?_
 rintro e w40 ⟨v40,rfl,hr,hb⟩
 obtain⟨B6,d6,rfl⟩:=Kd.R_slice hr
 have HM3:=As (HM2.out.below hb)
 have HB3:=As (below_step HB2.out hb)
 have HBH3:=As (blk_below HBH2.out hb)
 have HG6:=As (Kd.R_F (Kd.R_bound hr))
 have hd6:=(Kd.R_reads' hr).2.1
 have hgl3:sb < w1.heap.size:=blk_lt HM2.out.blk
 have hszB3:=HB2.out.size
 have hgwl3:=Kd.R_lt HM2.out.m1 gw (by simp[Value.ownBlock])
 have hgsl3:=World.block_lt_of_cell? _ _ hz0
 obtain⟨A4',c4',A6',c6',l4',hF4, -, -,hcc,hfr⟩:=elem51 (x:=⟨x.f0,x.f1,x.f2,⟨x.f3.f0,L1⟩,x.f4,x.f5⟩) HM3.out.m3 HXI.out (by rw[Int.toNat_natCast];exact List.getElem?_set_self HXI.out)
 have e4:=Option.some.inj ((hcc 4 _ rfl).symm.trans (keepc hb hz4))
 injection e4 with e4 _ e4c
 subst e4
 subst e4c
 have HCC3:=As hcc
 have HFK3:=As (fk51_mk (ok:=fun k=>((L k∨w0.heap.size≤k)∧k≠sb∧k≠gw)∧k≠gs) ⟨x.f0,x.f1,x.f2,⟨x.f3.f0,L1⟩,⟨x.f4.f0,L2⟩,x.f5⟩ l4' hF4 hd6 (Kd.F_mono HG6.out (fun k hk=> ?hg6)))
 case hg6=>
  have hk2:=hk.2.1
  exact⟨⟨.inr (Nat.le_trans hszB3 hk2),Nat.ne_of_gt (Nat.lt_of_lt_of_le hgl3 hk2),Nat.ne_of_gt (Nat.lt_of_lt_of_le hgwl3 hk2)⟩,Nat.ne_of_gt (Nat.lt_of_lt_of_le hgsl3 hk2)⟩
 clear hz0 hz1 hz2 hz3 hz4 hz5 hz6 hz7 hF4 hcc hfr hr hb HG6 HM2 HB2 HBH2 HF4b HF6b HCC2
 dsimp only
 go_wp2_with ((with_reducible refine gate_store (t:=29) (p:=44) rfl ?_);refine Kd.N_store k51 (w0:=w0) (g:=gs) (n:=xs.length) (cap:=cs) (o':=i * 8 + 5) w0.heap.size rfl rfl 29 (.tmp 44) (.tmp 41) rfl 51 (i:Int) 5 (xs.set (i:Int).toNat ⟨x.f0,x.f1,x.f2,⟨x.f3.f0,L1⟩,x.f4,x.f5⟩) ⟨x.f0,x.f1,x.f2,⟨x.f3.f0,L1⟩,⟨x.f4.f0,L2⟩,x.f5⟩ (.agg #[.int .i64 x.f4.f0,.slice B6 L2.length d6]) [.int .i64 x.f4.f0,.slice B6 L2.length d6] [.int .i64 x.f0,.int .i64 x.f1,.int .i64 x.f2,.int .i64 x.f3.f0,.slice A4' L1.length c4',.int .i64 x.f4.f0,.slice A6' x.f4.f1.length c6',.bool x.f5] (fun k=>(L k∨w0.heap.size≤k)∧k≠sb∧k≠gw) (fun k=>((L k∨w0.heap.size≤k)∧k≠sb∧k≠gw)∧k≠gs) rfl rfl rfl rfl (by kernel_rfl) (by simp[Value.oneCell']) HM3.out.m3 (Int.natCast_nonneg i) (Int.ofNat_lt.2 HXI.out) rfl HCC3.out (show 5 + 2≤8 by decide) HFK3.out (fun k hk=>hk) HB3.out ?_;intro w2 hn hb hg;have HM4:=As (HM3.out.grown hg hn);have HB4:=As hb;have HBH4:=As (blk_grown HBH3.out hg (fun e=>HGHS.out (Option.some.inj e)));clear hn hb hg)
 have hset:(xs.set (i:Int).toNat ⟨x.f0,x.f1,x.f2,⟨x.f3.f0,L1⟩,x.f4,x.f5⟩).set (i:Int).toNat ⟨x.f0,x.f1,x.f2,⟨x.f3.f0,L1⟩,⟨x.f4.f0,L2⟩,x.f5⟩=xs.set i ⟨x.f0,x.f1,x.f2,⟨x.f3.f0,L1⟩,⟨x.f4.f0,L2⟩,x.f5⟩:=by rw[Int.toNat_natCast,List.set_set]
 have hM5:=HM4.out
 rw[hset] at hM5
 have HM5:=As hM5
 clear hM5 hset HM4 HM3 HB3 HBH3 HCC3 HFK3
 obtain⟨A4c,c4c,A6c,c6c,l4c,hF4,l6c,hF6,hcc, -⟩:=elem51 (x:=⟨x.f0,x.f1,x.f2,⟨x.f3.f0,L1⟩,⟨x.f4.f0,L2⟩,x.f5⟩) HM5.out.m3 HXI.out (List.getElem?_set_self HXI.out)
 have HF4c:=As hF4
 have HF6c:=As hF6
 clear hF4 hF6
 have hz0:w2.drew.cell? ⟨gs,i * 8,none⟩=some (.int .i64 x.f0):=hcc 0 _ rfl
 have hz1:w2.drew.cell? ⟨gs,i * 8 + 1,none⟩=some (.int .i64 x.f1):=hcc 1 _ rfl
 have hz2:w2.drew.cell? ⟨gs,i * 8 + 2,none⟩=some (.int .i64 x.f2):=hcc 2 _ rfl
 have hz3:w2.drew.cell? ⟨gs,i * 8 + 3,none⟩=some (.int .i64 x.f3.f0):=hcc 3 _ rfl
 have hz4:w2.drew.cell? ⟨gs,i * 8 + 4,none⟩=some (.slice A4c L1.length c4c):=hcc 4 _ rfl
 have hz5:w2.drew.cell? ⟨gs,i * 8 + 5,none⟩=some (.int .i64 x.f4.f0):=hcc 5 _ rfl
 have hz6:w2.drew.cell? ⟨gs,i * 8 + 6,none⟩=some (.slice A6c L2.length c6c):=hcc 6 _ rfl
 have hz7:w2.drew.cell? ⟨gs,i * 8 + 7,none⟩=some (.bool x.f5):=hcc 7 _ rfl
 clear hcc
 obtain⟨hb1,hb2,hb3,hb4⟩:=HBA.out
 refine start_ (n:=13) (S:=fun w'=>w'.cell? ⟨gs,i * 8,none⟩=some (.int .i64 x.f0)∧w'.cell? ⟨gs,i * 8 + 1,none⟩=some (.int .i64 x.f1)∧w'.cell? ⟨gs,i * 8 + 2,none⟩=some (.int .i64 x.f2)∧w'.cell? ⟨gs,i * 8 + 3,none⟩=some (.int .i64 x.f3.f0)∧w'.cell? ⟨gs,i * 8 + 4,none⟩=some (.slice A4c L1.length c4c)∧w'.cell? ⟨gs,i * 8 + 5,none⟩=some (.int .i64 x.f4.f0)∧w'.cell? ⟨gs,i * 8 + 6,none⟩=some (.slice A6c L2.length c6c)∧w'.cell? ⟨gs,i * 8 + 7,none⟩=some (.bool x.f5)) (ds:=[]) #[false,false,false,false,false,false,false,false,false,false,false,false,false] (by kernel_rfl) rfl rfl ⟨hz0,hz1,hz2,hz3,hz4,hz5,hz6,hz7⟩ (fun hHeld=>?_)
 refine Z.p_ 0 45 ?_
 refine Z.p_ 1 46 ?_
 refine Z.t_ 2 47 hHeld ?_
 refine Z.p_ 4 49 ?_
 refine Z.p_ 5 50 ?_
 refine Z.p_ 6 51 ?_
 refine Z.p_ 7 52 ?_
 refine Z.t_ 8 53 hHeld ?_
 refine Z.p_ 9 54 ?_
 refine Z.p_ 10 55 ?_
 refine Z.on 3 (some 48) fun K hK=>?_
 refine Z.gs Tryz.func65 #[.agg #[.int .i64 x.f0,.int .i64 x.f1,.int .i64 x.f2,.int .i64 x.f3.f0,.slice A4c L1.length c4c,.int .i64 x.f4.f0,.slice A6c L2.length c6c,.bool x.f5]] ?_
 refine (span_Base.calls x.f0 x.f1 x.f2 x.f3.f0 A4c c4c L1 x.f4.f0 A6c c6c L2 x.f5 (x.f0 * 16) w2.drew (Kd.C_below (Kd.F_now HF4c.out) (below_drew1 (Below.refl _ _))) l4c (Kd.C_below (Kd.F_now HF6c.out) (below_drew1 (Below.refl _ _))) l6c (by unfold span_Base.f;rw[hb1])).mono ?_
 rintro e w48 ⟨rfl,hb⟩
 refine⟨_,rfl,?_⟩
 have hbd:=below_step (below_drew1 (Below.refl w2.heap.size w2)) hb
 have HM6:=As (HM5.out.below hbd)
 have HB6:=As (below_step HB4.out hbd)
 have HBH6:=As (blk_below HBH4.out hbd)
 refine hK.out _ _ ⟨keepc hb hz0,keepc hb hz1,keepc hb hz2,keepc hb hz3,keepc hb hz4,keepc hb hz5,keepc hb hz6,keepc hb hz7⟩ (fun hHeld=>?_)
 clear hb hbd hz0 hz1 hz2 hz3 hz4 hz5 hz6 hz7 HM5 HB4 HBH4 HF4c HF6c
 clear hK K
 refine Z.n_ 48 ?_
 refine Z.p_ 11 56 ?_
 refine Z.p_ 12 12 ?_
 refine done_ (by kernel_rfl) ?_
 clear hHeld hb1 hb2 hb3 hb4
 go_wp2_with (fail)
 have hs0:w48.drew.cell? ⟨sb,0,none⟩=some (.slice (some ⟨gw,0,none⟩) ws.length cw):=(blk_cell (blk_drew HM6.out.blk) 0).trans rfl
 have hh0:w48.drew.cell? ⟨gh,0,none⟩=some (.int .i64 (o.n:Int)):=(blk_cell (blk_drew HBH6.out) 0).trans rfl
 have hh1:w48.drew.cell? ⟨gh,1,none⟩=some (.int .u64 (o.m:Int)):=(blk_cell (blk_drew HBH6.out) 1).trans rfl
 have hin1:(a < ws.length)=True:=eq_true (HWL.out▸HAL.out)
 refine start_ (n:=14) (S:=fun w'=>w'.cell? ⟨sb,0,none⟩=some (.slice (some ⟨gw,0,none⟩) ws.length cw)∧w'.cell? ⟨gh,0,none⟩=some (.int .i64 (o.n:Int))∧w'.cell? ⟨gh,1,none⟩=some (.int .u64 (o.m:Int))) (ds:=[13]) #[false,false,false,false,false,false,false,false,false,false,false,false,false,false] (by kernel_rfl) rfl rfl ⟨hs0,hh0,hh1⟩ (fun hHeld=>?_)
 refine Z.p_ 0 58 ?_
 refine Z.p_ 1 59 ?_
 refine Z.p_ 2 60 ?_
 refine Z.p_ 3 61 ?_
 refine Z.p_ 4 62 ?_
 refine Z.t_ 5 63 hHeld ?_
 refine Z.p_ 6 64 ?_
 refine Z.t_ 7 65 hHeld ?_
 refine Z.on 8 (some 66) fun K hK=>?_
 refine Z.gs Tryz.func66 #[.agg #[.int .i64 (o.n:Int),.int .u64 (o.m:Int)]] ?_
 refine (head_Pack.calls (o.n:Int) (o.m:Int) hww 0 w48.drew HPK.out).mono ?_
 rintro e w66 ⟨rfl,hb⟩
 refine⟨_,rfl,?_⟩
 have hbd:=below_step (below_drew1 (Below.refl w48.heap.size w48)) hb
 have HM7:=As (HM6.out.below hbd)
 have HB:=As (below_step HB6.out hbd)
 refine hK.out _ _ ⟨keepc hb hs0,keepc hb hh0,keepc hb hh1⟩ (fun hHeld=>?_)
 clear hb hbd hs0 hh0 hh1 HM6 HB6 HBH6 hHeld
 clear hK K
 refine Z.n_ 66 ?_
 refine Z.p_ 9 57 ?_
 refine Z.p_ 10 67 ?_
 refine Z.p_ 11 68 ?_
 refine Z.p_ 12 69 ?_
 obtain⟨cells,hcw⟩:=Kd.R_typed HM7.out.m1 gw (by simp[Value.ownBlock])
 obtain⟨adw,eAw,hww0⟩:=Kd.at_int (Kd.R_reads' HM7.out.m1).2.2 (a:Int) (Int.natCast_nonneg a) (Int.ofNat_lt.2 (HWL.out▸HAL.out))
 cases eAw
 have hcw0:w66.cell? ⟨gw,a,none⟩=some (.int .u64 (rd ws (a:Int))):=by rw[Int.toNat_natCast,add_at,Nat.zero_add] at hww0;exact hww0
 have hfw0:w66.frozen? ⟨gw,a,none⟩=false:=blk_frozen hcw a
 clear hww0 hcw
 refine Z.la 13 none fun K hK=>?_
 refine skip_ (w1:=?_) (by rfl) rfl ?_ ?_
 rotate_left
 ·go_simp
  rfl
 refine hK.out _ _ ?_
 clear hK K
 refine done_ (by kernel_rfl) ?_
 clear hcw0 hfw0
 go_wp2
 go_ret
 have hB:=HM7.out.hgw
 exact⟨rfl,HM7.out.word a hww,(by with_reducible repeat (first|exact HB.out|refine below_alloc ?_ _|refine pw_below_drewN ?_ _|refine below_drew1 ?_|refine below_set ?_ (Nat.le_refl _)|(refine below_set ?_ ?_;rotate_left;omega)))⟩
end Go.Proofs.YtmmfchnbfnegnaaGreatDoor.K
end
section
namespace Go.Proofs.YtmmfchnbfnegnaaGreatDoor.K
open Go.RowKit Go.Proofs.YtmmfchnbfnegnaaGreatDoorW.PrintWords Go.Proofs.YtmmfchnbfnegnaaGreatDoorW.PrintLast Go.Proofs.YtmmfchnbfnegnaaGreatDoorW.PrintMore Go.Proofs.YtmmfchnbfnegnaaGreatDoor.GK Go.Proofs.YtmmfchnbfnegnaaGreatDoor.Pu Go.Proofs.YtmmfchnbfnegnaaGreatDoor.PuBitW Go.Proofs.YtmmfchnbfnegnaaGreatDoor.PuBits
set_option linter.unusedVariables false
set_option linter.unusedSimpArgs false
attribute [local go_sem] max2_int min2_int max_two min_two max_three min_three max_four min_four
theorem fnGrow1:FnIs Tryz.prog 64:=⟨_,Tryz.func64,by kernel_rfl,rfl⟩
theorem snGrow1 (g:Nat) (y:Int) (x:List Value) (hx:FormSn x) (W:World) (hg:W.cell? ⟨g,0,none⟩=some (.int .i64 y)):
  Calls Tryz.prog 64 #[.agg x.toArray,.pointer (some ⟨g,0,none⟩)] W fun e W'=>e=.returned (.bool (firstP y x))∧Below W.heap.size W W':=by
 have hue:=Tryz.underlying51
 have hlt:=World.block_lt_of_cell? _ _ hg
 obtain⟨a0,a1,a2,a3,A4,n4,c4,a5,A6,n6,c6,a7,rfl⟩:=hx
 go_enter Tryz.func64,Tryz.ntmps64
 go_wp2
 go_ret
 exact⟨rfl,by repeat (first|exact Below.refl _ _|apply below_alloc|apply pw_below_drewN|apply below_drew1)⟩
theorem fnClean1:FnIs Tryz.prog 37:=⟨_,Tryz.func37,by kernel_rfl,rfl⟩
theorem snClean1 (g:Nat) (y:Int) (x:List Value) (hx:FormSn x) (W:World) (hg:W.cell? ⟨g,0,none⟩=some (.int .i64 y)):
  Calls Tryz.prog 37 #[.agg x.toArray,.pointer (some ⟨g,0,none⟩)] W fun e W'=>e=.returned (.bool (firstP y x))∧Below W.heap.size W W':=by
 have hue:=Tryz.underlying51
 have hlt:=World.block_lt_of_cell? _ _ hg
 obtain⟨a0,a1,a2,a3,A4,n4,c4,a5,A6,n6,c6,a7,rfl⟩:=hx
 go_enter Tryz.func37,Tryz.ntmps37
 go_wp2
 go_ret
 exact⟨rfl,by repeat (first|exact Below.refl _ _|apply below_alloc|apply pw_below_drewN|apply below_drew1)⟩
theorem ixP_at (p:List Value→Bool):∀(rows:List (List Value)) (i b:Nat) (hi:i < rows.length),p rows[i]=true→(∀(j:Nat) (hj:j < i),p (rows[j]'(by omega))=false)→ixP p rows b=((b + i:Nat):Int)
 |x::r,0,b,hi,h,_=>by
  rw[ixP,if_pos (by simpa using h)];simp
 |x::r,i + 1,b,hi,h,hlo=>by
  have h0:=hlo 0 (by omega)
  rw[ixP,if_neg (by simpa using h0)]
  have:=ixP_at p r i (b + 1) (by simpa using hi) (by simpa using h) (fun j hj=>by have:=hlo (j + 1) (by omega);simpa using this)
  have e:((b:Int) + 1)=((b + 1:Nat):Int):=by omega
  rw[e,this]
  congr 1;omega
theorem ixSpan {W:World} {ok:Nat→Prop} {A:Option Addr} {n c:Nat} {xs:List S51} (hF:Kd.F k51 W ok A n xs) (hn:n=xs.length) {F:FuncId} {cap:Array Value} (hfn:FnIs Tryz.prog F) (y:Int) (i:Nat) (hi:i < xs.length) (hy:xs[i].f0=y) (hlo:∀(j:Nat) (hj:j < i),(xs[j]'(by omega)).f0≠y)
  (hp:∀W' x,Below W.heap.size W W'→FormSn x→Calls Tryz.prog F (#[] ++ #[.agg x.toArray] ++ cap) W' fun e W''=>e=.returned (.bool (firstP y x))∧Below W'.heap.size W' W''):
  Calls Tryz.prog 36 #[.slice A n c,.func (.func F) #[] cap] W fun e w'=>e=.returned (.int .i64 (i:Int))∧Below W.heap.size W w':=by
 subst hn
 obtain⟨rows,hrl,hC,hR⟩:=f51_raw hF
 have hform:∀x∈rows,FormSn x:=fun x hx=>by
  obtain⟨j,hj,rfl⟩:=List.mem_iff_getElem.1 hx
  exact k51_form (Kd.FK_now (hR j _ _ (List.getElem?_eq_getElem (by omega)) (List.getElem?_eq_getElem hj)))
 have hix:ixP (firstP y) rows ((0:Nat):Int)=((0 + i:Nat):Int):=ixP_at (firstP y) rows i 0 (by omega)
  (by rw[k51_first (Kd.FK_now (hR i _ _ (List.getElem?_eq_getElem hi) (List.getElem?_eq_getElem (by omega)))),hy];simp)
  (fun j hj=>by rw[k51_first (Kd.FK_now (hR j _ _ (List.getElem?_eq_getElem (show j < xs.length by omega)) (List.getElem?_eq_getElem (by omega))))];simpa using hlo j hj)
 rw[Nat.zero_add] at hix
 have h1:=ixSn (first:=#[]) (cap:=cap) (firstP y) A c rows W (by rw[hrl];exact hC) hfn (fun W' x hb hx=>hp W' x hb (hform x hx))
 rw[show (((0:Nat):Int))=0 from rfl] at hix
 rw[hix,hrl] at h1
 exact h1
set_option maxHeartbeats 3000000 in
set_option maxRecDepth 100000 in
theorem hpGrow {w w0:World} {L:Nat→Prop} {sb gw cw:Nat} {A2 A5:Option Addr} {c2 c5:Nat} {v3:Value} {ps:List Sp} {ws us:List Int} {xs:List S51} {os:List S92} (hM:Mine w L w0.heap.size sb gw cw A2 A5 c2 c5 v3 ws us xs os) (hB:Below w0.heap.size w0 w) (hT:TzOk w) (hr:HRel ps ws us xs) (n0:Nat) (hn0:n0≤48):
  Calls Tryz.prog 26 #[.pointer (some ⟨sb,0,none⟩),.int .i64 (szOf n0:Int),.int .i64 (pgOf n0:Int)] w fun e w'=>
   (e=.returned (.tuple #[.int .i64 0,.int .i64 6])∧Mine w' L w0.heap.size sb gw cw A2 A5 c2 c5 v3 ws us xs os∧Below w0.heap.size w0 w')∨
   ∃(f i:Nat) (us':List Int) (A2':Option Addr) (c2':Nat) (v3':Value),e=.returned (.tuple #[.int .i64 (i:Int),.int .i64 0])∧1≤f∧f + pgOf n0≤30∧i≤xs.length∧HRel (ps.take i ++ [spNew f n0] ++ ps.drop i) ws us' (xs.take i ++ [xNew f n0] ++ xs.drop i)∧
    Mine w' L w0.heap.size sb gw cw A2' A5 c2' c5 v3' ws us' (xs.take i ++ [xNew f n0] ++ xs.drop i) os∧Below w0.heap.size w0 w':=by
 have hue:=Tryz.underlying81
 have hu34:=Tryz.underlying34
 have hu31:=Tryz.underlying31
 have hu51:=Tryz.underlying51
 have HM:=As hM
 have HB:=As hB
 have HR:=As hr
 have HT:=As hT
 have HN0:=As hn0
 obtain⟨B3,d3,rfl⟩:=Kd.N_slice hM.m3
 have hgl:=blk_lt hM.blk
 have HGW:=As (Kd.R_lt hM.m1 gw (by simp[Value.ownBlock]))
 have hc1:=Z.c1 hM.blk
 have hc2:=Z.c2 hM.blk
 rcases hr.grow hn0 with⟨q,hq⟩|⟨f,i,us',q,hq,hf1,hf2,hi,hlo,hhi,hrel⟩
 ·clear hM hB hr hT hn0
  go_enter Tryz.func26,Tryz.ntmps26
  go_wp2_with (fail)
  refine (pages_Take.calls q 30 A2 c2 us (pgOf n0:Int) 30 us 0 6 w (Kd.F_now HM.out.m2) HM.out.l2 HT.out hq).mono ?_
  rintro e w21 ⟨v21,rfl,hrr,hb⟩
  obtain⟨B2,d2,rfl⟩:=Kd.R_slice hrr
  have HM2:=As (HM.out.below hb)
  have HB2:=As (below_step HB.out hb)
  clear hrr hb hc1 hc2 hq
  dsimp only
  go_wp2_with (fail)
  go_ret2
  refine .inl ⟨rfl,?_,?_⟩
  ·exact HM2.out.below (below_alloc (below_alloc (Below.refl _ _) _) _)
  ·have HB:=HB2
   exact (by with_reducible repeat (first|exact HB.out|refine below_alloc ?_ _|refine pw_below_drewN ?_ _|refine below_drew1 ?_|refine below_set ?_ (Nat.le_refl _)|(refine below_set ?_ ?_;rotate_left;omega)))
 ·have hk:=hr.check (show xs.length≤256 by have:=hr.good.len;have:=hr.xl;omega)
  have hrt:=(new_rel f n0 hn0 hf1 hf2).right (new_good hn0 hf1 hf2)
  have hx1:∀(j:Nat) (x:S51),xs[j]? =some x→1≤x.f1∧0≤x.f0∧x.f0≤1024∧x.f1≤4:=fun j x hx=>by
   obtain⟨hl,rfl⟩:=List.getElem?_eq_some_iff.1 hx
   obtain⟨hxr,hg⟩:=hr.at hl
   have:=hg.shaped
   have:=hg.hi
   rw[hxr.f0,hxr.f1];omega
  have hse:=search51 xs (f:Int) i (by have:=hr.good.len;have:=hr.xl;omega) hi (fun j j0 j1=>by
   rw[rd51 j0 (by omega)]
   have a:=hlo j.toNat _ (List.getElem?_eq_getElem (by omega)) (by omega)
   have b:=hx1 j.toNat _ (List.getElem?_eq_getElem (by omega))
   omega) (fun j j0 j1=>by
   rw[rd51 (by omega) j1]
   have a:=hhi j.toNat _ (List.getElem?_eq_getElem (by omega)) (by omega)
   omega)
  have hnf:decide (i < xs.length∧(rd_T51 xs (i:Int)).f0=(f:Int))=false:=by
   refine decide_eq_false (fun hh=>?_)
   have a:=hhi i _ (List.getElem?_eq_getElem hh.1) (Nat.le_refl _)
   have b:=hh.2
   rw[rd51 (by omega) (by omega)] at b
   simp only[Int.toNat_natCast] at b
   have:1≤pgOf n0:=by rcases sz_cases n0 hn0 with⟨_,a,b⟩|⟨_,a⟩ <;> omega
   omega
  rw[hnf] at hse
  have hme:=make_ev hn0 hf1 hf2
  obtain⟨k1,hk1⟩:=hk
  obtain⟨k2,hk2⟩:=hrt
  obtain⟨k3,hk3⟩:=hse
  obtain⟨k4,hk4⟩:=hme
  have HK:=As (And.intro (hk1 (k1 + k2 + k3) (by omega)) (And.intro (hk2 (k1 + k2 + k3) (by omega)) (hk3 (k1 + k2 + k3) (by omega))))
  have HK4:=As (hk4 k4 (Nat.le_refl _))
  have HLO:=As hlo
  have HHI:=As hhi
  have HREL:=As hrel
  have HX1:=As hx1
  have HF:=As (And.intro hf1 hf2)
  have HI:=As hi
  clear hM hB hr hT hn0 hk1 hk2 hk3 hk4 hlo hhi hrel hx1 hf1 hf2 hi hnf
  go_enter Tryz.func26,Tryz.ntmps26
  go_wp2_with (fail)
  refine (pages_Take.calls q 30 A2 c2 us (pgOf n0:Int) 30 us' (f:Int) 0 w (Kd.F_now HM.out.m2) HM.out.l2 HT.out hq).mono ?_
  rintro e w21 ⟨v21,rfl,hrr,hb⟩
  obtain⟨B2,d2,rfl⟩:=Kd.R_slice hrr
  have HM2:=As (HM.out.below hb)
  have HB2:=As (below_step HB.out hb)
  have HP:=As (Kd.R_F (Kd.R_bound hrr))
  have hd2:=(Kd.R_reads' hrr).2.1
  have hsz:=hb.size
  clear hrr hb hc1 hc2 hq
  dsimp only
  go_wp2_with (fail)
  have hbp:=blk_alloc (blk_new w21 (Obj.cells #[.int .i64 30,.slice B2 us'.length d2] 31)) (Obj.cells #[.int .i64 (f:Int)] 3)
  have hbf:=blk_new (w21.alloc (Obj.cells #[.int .i64 30,.slice B2 us'.length d2] 31)) (Obj.cells #[.int .i64 (f:Int)] 3)
  have hb0:=below_alloc (below_alloc (Below.refl w21.heap.size w21) (Obj.cells #[.int .i64 30,.slice B2 us'.length d2] 31)) (Obj.cells #[.int .i64 (f:Int)] 3)
  rw[World.size_alloc] at hbf
  refine (span_Make.calls k4 (f:Int) (pgOf n0:Int) (szOf n0:Int) _ _ _ _ _ _ _ _ _ _ HK4.out).mono ?_
  generalize (w21.alloc (Obj.cells #[.int .i64 30,.slice B2 us'.length d2] 31)).alloc (Obj.cells #[.int .i64 (f:Int)] 3)=w22 at hbp hbf hb0 ⊢
  rintro e w31 ⟨v4,v6,rfl,h4,h6,hb⟩
  obtain⟨A4,c4,rfl⟩:∃A c,v4=.slice A 1 c:=Kd.R_slice h4
  obtain⟨A6,c6,rfl⟩:∃A c,v6=.slice A 1 c:=Kd.R_slice h6
  have hbd:=below_step hb0 hb
  have HM3:=As (HM2.out.below hbd)
  have HB3:=As (below_step HB2.out hbd)
  have HBP:=As (blk_below hbp hb)
  have HBF:=As (blk_below hbf hb)
  have HP3:=As (Kd.F_below HP.out hbd)
  have HS4:=As (Kd.R_reads' h4).2
  have HS6:=As (Kd.R_reads' h6).2
  clear hbp hbf hb0 hbd h4 h6 hb HM2 HB2 HP HK4
  dsimp only
  go_wp2_with (fail)
  have hb1:=below_alloc (Below.refl w31.heap.size w31) (Obj.cells #[.int .i64 (f:Int),.int .i64 (pgOf n0:Int),.int .i64 (szOf n0:Int),.int .i64 ((slotsOf (szOf n0):Nat):Int),.slice A4 1 c4,.int .i64 ((slotsOf (szOf n0):Nat):Int),.slice A6 1 c6,.bool true] 51)
  have HBS:=As (blk_drew (blk_new w31 (Obj.cells #[.int .i64 (f:Int),.int .i64 (pgOf n0:Int),.int .i64 (szOf n0:Int),.int .i64 ((slotsOf (szOf n0):Nat):Int),.slice A4 1 c4,.int .i64 ((slotsOf (szOf n0):Nat):Int),.slice A6 1 c6,.bool true] 51)))
  have HM4:=As (HM3.out.below (below_drew1 hb1))
  have HB4:=As (below_step HB3.out (below_drew1 hb1))
  have HBP4:=As (blk_below HBP.out (below_drew1 hb1))
  have HBF4:=As (blk_below HBF.out (below_drew1 hb1))
  have HP4:=As (Kd.F_below HP3.out (below_drew1 hb1))
  have HS44:=As (And.intro HS4.out.1 (Kd.C_below HS4.out.2 (below_drew1 hb1)))
  have HS64:=As (And.intro HS6.out.1 (Kd.C_below HS6.out.2 (below_drew1 hb1)))
  have hs3:(w31.alloc (Obj.cells #[.int .i64 (f:Int),.int .i64 (pgOf n0:Int),.int .i64 (szOf n0:Int),.int .i64 ((slotsOf (szOf n0):Nat):Int),.slice A4 1 c4,.int .i64 ((slotsOf (szOf n0):Nat):Int),.slice A6 1 c6,.bool true] 51)).drew.cell? ⟨sb,3,none⟩=some (.slice B3 xs.length d3):=(blk_cell HM4.out.blk 3).trans rfl
  have hn0:(w31.alloc (Obj.cells #[.int .i64 (f:Int),.int .i64 (pgOf n0:Int),.int .i64 (szOf n0:Int),.int .i64 ((slotsOf (szOf n0):Nat):Int),.slice A4 1 c4,.int .i64 ((slotsOf (szOf n0):Nat):Int),.slice A6 1 c6,.bool true] 51)).drew.cell? ⟨w31.heap.size,0,none⟩=some (.int .i64 (f:Int)):=(blk_cell HBS.out 0).trans rfl
  have hn1:(w31.alloc (Obj.cells #[.int .i64 (f:Int),.int .i64 (pgOf n0:Int),.int .i64 (szOf n0:Int),.int .i64 ((slotsOf (szOf n0):Nat):Int),.slice A4 1 c4,.int .i64 ((slotsOf (szOf n0):Nat):Int),.slice A6 1 c6,.bool true] 51)).drew.cell? ⟨w31.heap.size,1,none⟩=some (.int .i64 (pgOf n0:Int)):=(blk_cell HBS.out 1).trans rfl
  have hn2:(w31.alloc (Obj.cells #[.int .i64 (f:Int),.int .i64 (pgOf n0:Int),.int .i64 (szOf n0:Int),.int .i64 ((slotsOf (szOf n0):Nat):Int),.slice A4 1 c4,.int .i64 ((slotsOf (szOf n0):Nat):Int),.slice A6 1 c6,.bool true] 51)).drew.cell? ⟨w31.heap.size,2,none⟩=some (.int .i64 (szOf n0:Int)):=(blk_cell HBS.out 2).trans rfl
  have hn3:(w31.alloc (Obj.cells #[.int .i64 (f:Int),.int .i64 (pgOf n0:Int),.int .i64 (szOf n0:Int),.int .i64 ((slotsOf (szOf n0):Nat):Int),.slice A4 1 c4,.int .i64 ((slotsOf (szOf n0):Nat):Int),.slice A6 1 c6,.bool true] 51)).drew.cell? ⟨w31.heap.size,3,none⟩=some (.int .i64 ((slotsOf (szOf n0):Nat):Int)):=(blk_cell HBS.out 3).trans rfl
  have hn4:(w31.alloc (Obj.cells #[.int .i64 (f:Int),.int .i64 (pgOf n0:Int),.int .i64 (szOf n0:Int),.int .i64 ((slotsOf (szOf n0):Nat):Int),.slice A4 1 c4,.int .i64 ((slotsOf (szOf n0):Nat):Int),.slice A6 1 c6,.bool true] 51)).drew.cell? ⟨w31.heap.size,4,none⟩=some (.slice A4 1 c4):=(blk_cell HBS.out 4).trans rfl
  have hn5:(w31.alloc (Obj.cells #[.int .i64 (f:Int),.int .i64 (pgOf n0:Int),.int .i64 (szOf n0:Int),.int .i64 ((slotsOf (szOf n0):Nat):Int),.slice A4 1 c4,.int .i64 ((slotsOf (szOf n0):Nat):Int),.slice A6 1 c6,.bool true] 51)).drew.cell? ⟨w31.heap.size,5,none⟩=some (.int .i64 ((slotsOf (szOf n0):Nat):Int)):=(blk_cell HBS.out 5).trans rfl
  have hn6:(w31.alloc (Obj.cells #[.int .i64 (f:Int),.int .i64 (pgOf n0:Int),.int .i64 (szOf n0:Int),.int .i64 ((slotsOf (szOf n0):Nat):Int),.slice A4 1 c4,.int .i64 ((slotsOf (szOf n0):Nat):Int),.slice A6 1 c6,.bool true] 51)).drew.cell? ⟨w31.heap.size,6,none⟩=some (.slice A6 1 c6):=(blk_cell HBS.out 6).trans rfl
  have hn7:(w31.alloc (Obj.cells #[.int .i64 (f:Int),.int .i64 (pgOf n0:Int),.int .i64 (szOf n0:Int),.int .i64 ((slotsOf (szOf n0):Nat):Int),.slice A4 1 c4,.int .i64 ((slotsOf (szOf n0):Nat):Int),.slice A6 1 c6,.bool true] 51)).drew.cell? ⟨w31.heap.size,7,none⟩=some (.bool true):=(blk_cell HBS.out 7).trans rfl
  refine start_ (n:=12) (S:=fun w'=>w'.cell? ⟨sb,3,none⟩=some (.slice B3 xs.length d3)∧w'.cell? ⟨w31.heap.size,0,none⟩=some (.int .i64 (f:Int))∧w'.cell? ⟨w31.heap.size,1,none⟩=some (.int .i64 (pgOf n0:Int))∧w'.cell? ⟨w31.heap.size,2,none⟩=some (.int .i64 (szOf n0:Int))∧w'.cell? ⟨w31.heap.size,3,none⟩=some (.int .i64 ((slotsOf (szOf n0):Nat):Int))∧w'.cell? ⟨w31.heap.size,4,none⟩=some (.slice A4 1 c4)∧w'.cell? ⟨w31.heap.size,5,none⟩=some (.int .i64 ((slotsOf (szOf n0):Nat):Int))∧w'.cell? ⟨w31.heap.size,6,none⟩=some (.slice A6 1 c6)∧w'.cell? ⟨w31.heap.size,7,none⟩=some (.bool true)) (ds:=[]) #[false,false,false,false,false,false,false,false,false,false,false,false] (by kernel_rfl) rfl rfl ⟨hs3,hn0,hn1,hn2,hn3,hn4,hn5,hn6,hn7⟩ (fun hHeld=>?_)
  clear HBS HM3 HB3 HBP HBF HP3 HS4 HS6 hb1 hs3 hn0 hn1 hn2 hn3 hn4 hn5 hn6 hn7
  generalize (w31.alloc (Obj.cells #[.int .i64 (f:Int),.int .i64 (pgOf n0:Int),.int .i64 (szOf n0:Int),.int .i64 ((slotsOf (szOf n0):Nat):Int),.slice A4 1 c4,.int .i64 ((slotsOf (szOf n0):Nat):Int),.slice A6 1 c6,.bool true] 51)).drew=w32 at HM4 HB4 HBP4 HBF4 HP4 HS44 HS64 hHeld ⊢
  refine Z.p_ 0 35 ?_
  refine Z.p_ 1 36 ?_
  refine Z.p_ 2 37 ?_
  refine Z.p_ 3 38 ?_
  refine Z.t_ 4 39 hHeld ?_
  refine Z.t_ 5 40 hHeld ?_
  refine Z.on 6 (some 41) fun K hK=>?_
  refine Z.gs Tryz.func63 #[.slice B3 xs.length d3,.agg #[.int .i64 (f:Int),.int .i64 (pgOf n0:Int),.int .i64 (szOf n0:Int),.int .i64 ((slotsOf (szOf n0):Nat):Int),.slice A4 1 c4,.int .i64 ((slotsOf (szOf n0):Nat):Int),.slice A6 1 c6,.bool true]] ?_
  refine (snAdd (k1 + k2 + k3) (fun k=>(L k∨w0.heap.size≤k)∧k≠sb∧k≠gw) (xNew f n0) A4 A6 c4 c6 B3 d3 xs i w32 (Kd.N_F HM4.out.m3) (Kd.N_reads' HM4.out.m3).2.1 (fun k hk=>⟨.inr (Nat.le_trans HB4.out.size hk),Nat.ne_of_gt (Nat.lt_of_lt_of_le (blk_lt HM4.out.blk) hk),Nat.ne_of_gt (Nat.lt_of_lt_of_le (Kd.R_lt HM4.out.m1 gw (by simp[Value.ownBlock])) hk)⟩) ?a1 ?a2 HK.out.1 HS44.out.2 HS44.out.1 HS64.out.2 HS64.out.1 ⟨(show 1 < 1000000 by decide),(show 1 < 1000000 by decide)⟩ HK.out.2.1 HK.out.2.2 HI.out ?a3 ?a4 ?a5).mono ?_
  case a1=>have:=HR.out.good.len;have:=HR.out.xl;omega
  case a2=>
   intro x hx
   obtain⟨j,hj,rfl⟩:=List.mem_iff_getElem.1 hx
   exact (HR.out.at hj).1.ss
  case a3=>
   intro h h0
   exact HLO.out (i - 1) _ (List.getElem?_eq_getElem h) (by omega)
  case a4=>
   intro h
   exact HHI.out i _ (List.getElem?_eq_getElem h) (Nat.le_refl _)
  case a5=>
   intro x hx
   rcases List.mem_cons.1 hx with rfl|hx
   ·have h1:=HF.out
    have h2:=sz_cases n0 HN0.out
    show (0:Int)≤(f:Int)∧(f:Int)≤1024∧0≤(pgOf n0:Int)∧(pgOf n0:Int)≤4
    omega
   ·obtain⟨j,hj,rfl⟩:=List.mem_iff_getElem.1 hx
    have h1:=HX1.out j _ (List.getElem?_eq_getElem hj)
    exact⟨h1.2.1,h1.2.2.1,by omega,h1.2.2.2⟩
  rintro e w41 ⟨v,rfl,hn,hb⟩
  refine⟨_,rfl,?_⟩
  refine hK.out _ _ ⟨keepc hb hHeld.1,keepc hb hHeld.2.1,keepc hb hHeld.2.2.1,keepc hb hHeld.2.2.2.1,keepc hb hHeld.2.2.2.2.1,keepc hb hHeld.2.2.2.2.2.1,keepc hb hHeld.2.2.2.2.2.2.1,keepc hb hHeld.2.2.2.2.2.2.2.1,keepc hb hHeld.2.2.2.2.2.2.2.2⟩ (fun hHeld2=>?_)
  clear hHeld2 hHeld
  obtain⟨ys,hys⟩:∃ys,ys=xs.take i ++ [xNew f n0] ++ xs.drop i:=⟨_,rfl⟩
  rw[←hys] at hn
  have HYS:=As hys
  clear hys
  obtain⟨B5,d5,rfl⟩:=Kd.N_slice hn
  have HM5:=As (HM4.out.below hb)
  have HB5:=As (below_step HB4.out hb)
  have HBP5:=As (blk_below HBP4.out hb)
  have HBF5:=As (blk_below HBF4.out hb)
  have HP5:=As (Kd.F_below HP4.out hb)
  have HN:=As hn
  have hsz4:=HB4.out.size
  have HF5:=As (Kd.F_below (Kd.F_bound HM4.out.m5) hb)
  have HPB:=As (Kd.F_below (Kd.F_bound HP4.out) hb)
  clear HM4 HB4 HBP4 HBF4 HP4 HS44 HS64 hb hn
  clear hK K
  refine Z.n_ 41 ?_
  refine Z.p_ 7 34 ?_
  refine Z.p_ 8 42 ?_
  refine Z.p_ 9 43 ?_
  refine Z.p_ 10 13 ?_
  refine Z.p_ 11 10 ?_
  refine done_ (by kernel_rfl) ?_
  have hgl5:=blk_lt HM5.out.blk
  have hp0:=Z.c0 HBP5.out
  have hp1:=Z.c1 HBP5.out
  have hs1:=Z.c1 HM5.out.blk
  have hs2:=Z.c2 HM5.out.blk
  have hs3:=Z.c3 HM5.out.blk
  have hf1:=blk_frozen HM5.out.blk 1
  have hf2:=blk_frozen HM5.out.blk 2
  have hf3:=blk_frozen HM5.out.blk 3
  go_wp2_with (fail)
  have hvb:=Kd.N_base HN.out
  have hblk:=(blk_put (cs:=#[.slice (some ⟨gw,0,none⟩) ws.length cw,.int .i64 30,.slice B2 us'.length d2,.slice B3 xs.length d3,.slice A5 os.length c5]) (cs':=#[.slice (some ⟨gw,0,none⟩) ws.length cw,.int .i64 30,.slice B2 us'.length d2,.slice B5 ys.length d5,.slice A5 os.length c5]) (blk_put (cs:=#[.slice (some ⟨gw,0,none⟩) ws.length cw,.int .i64 30,.slice A2 us.length c2,.slice B3 xs.length d3,.slice A5 os.length c5]) (cs':=#[.slice (some ⟨gw,0,none⟩) ws.length cw,.int .i64 30,.slice B2 us'.length d2,.slice B3 xs.length d3,.slice A5 os.length c5]) (blk_put (cs:=#[.slice (some ⟨gw,0,none⟩) ws.length cw,.int .i64 30,.slice A2 us.length c2,.slice B3 xs.length d3,.slice A5 os.length c5]) (cs':=#[.slice (some ⟨gw,0,none⟩) ws.length cw,.int .i64 30,.slice A2 us.length c2,.slice B3 xs.length d3,.slice A5 os.length c5]) HM5.out.blk 1 (.int .i64 30) rfl) 2 (.slice B2 us'.length d2) rfl) 3 (.slice B5 ys.length d5) rfl)
  have hn3:=(Kd.N_far (p:=⟨sb,3,none⟩) (Kd.N_far (p:=⟨sb,2,none⟩) (Kd.N_far (p:=⟨sb,1,none⟩) HN.out (fun k hk=>hk.2.1) (.int .i64 30)) (fun k hk=>hk.2.1) (.slice B2 us'.length d2)) (fun k hk=>hk.2.1) (.slice B5 ys.length d5))
  have hMW:Mine (((w41.setCell ⟨sb,1,none⟩ (.int .i64 30)).setCell ⟨sb,2,none⟩ (.slice B2 us'.length d2)).setCell ⟨sb,3,none⟩ (.slice B5 ys.length d5)) L w0.heap.size sb gw cw B2 A5 d2 c5 (.slice B5 ys.length d5) ws us' ys os:=by
   refine⟨HM5.out.hsb,HM5.out.hgw,HM5.out.ne,hblk,(Kd.R_far (p:=⟨sb,3,none⟩) (Kd.R_far (p:=⟨sb,2,none⟩) (Kd.R_far (p:=⟨sb,1,none⟩) HM5.out.m1 (fun k hk=>hk▸HM5.out.ne) (.int .i64 30)) (fun k hk=>hk▸HM5.out.ne) (.slice B2 us'.length d2)) (fun k hk=>hk▸HM5.out.ne) (.slice B5 ys.length d5)),?_,hd2,Kd.N_lower hn3 hsz4,?_,HM5.out.l5⟩
   ·refine Kd.F_mono (Kd.F_far (p:=⟨sb,3,none⟩) (Kd.F_far (p:=⟨sb,2,none⟩) (Kd.F_far (p:=⟨sb,1,none⟩) HPB.out (fun k hk=>Nat.ne_of_gt (Nat.lt_of_lt_of_le hgl hk.1.2.1)) (.int .i64 30)) (fun k hk=>Nat.ne_of_gt (Nat.lt_of_lt_of_le hgl hk.1.2.1)) (.slice B2 us'.length d2)) (fun k hk=>Nat.ne_of_gt (Nat.lt_of_lt_of_le hgl hk.1.2.1)) (.slice B5 ys.length d5)) (fun k hk=>⟨.inr (Nat.le_trans HB.out.size hk.1.2.1),Nat.ne_of_gt (Nat.lt_of_lt_of_le hgl hk.1.2.1),Nat.ne_of_gt (Nat.lt_of_lt_of_le HGW.out hk.1.2.1),fun e=>absurd (hvb k e.symm) (Nat.not_le.2 hk.2)⟩)
   ·refine Kd.F_mono (Kd.F_far (p:=⟨sb,3,none⟩) (Kd.F_far (p:=⟨sb,2,none⟩) (Kd.F_far (p:=⟨sb,1,none⟩) HF5.out (fun k hk=>hk.1.2.1) (.int .i64 30)) (fun k hk=>hk.1.2.1) (.slice B2 us'.length d2)) (fun k hk=>hk.1.2.1) (.slice B5 ys.length d5)) (fun k hk=>⟨hk.1.1,hk.1.2.1,hk.1.2.2.1,fun e=>absurd (hvb k e.symm) (Nat.not_le.2 hk.2)⟩)
  have hbw:Below w0.heap.size w0 (((w41.setCell ⟨sb,1,none⟩ (.int .i64 30)).setCell ⟨sb,2,none⟩ (.slice B2 us'.length d2)).setCell ⟨sb,3,none⟩ (.slice B5 ys.length d5)):=by
   have HB:=HB5
   have hsb0:=HM5.out.hsb
   exact (by with_reducible repeat (first|exact HB.out|refine below_alloc ?_ _|refine pw_below_drewN ?_ _|refine below_drew1 ?_|refine below_set ?_ (Nat.le_refl _)|(refine below_set ?_ ?_;rotate_left;omega)))
  have hbf:(((w41.setCell ⟨sb,1,none⟩ (.int .i64 30)).setCell ⟨sb,2,none⟩ (.slice B2 us'.length d2)).setCell ⟨sb,3,none⟩ (.slice B5 ys.length d5)).heap[w21.heap.size + 1]? =some (.cells #[.int .i64 (f:Int)] 3 (0,0)):=(blk_far (p:=⟨sb,3,none⟩) (blk_far (p:=⟨sb,2,none⟩) (blk_far (p:=⟨sb,1,none⟩) HBF5.out (Nat.ne_of_gt (Nat.lt_succ_of_lt (Nat.lt_of_lt_of_le hgl hsz))) (.int .i64 30)) (Nat.ne_of_gt (Nat.lt_succ_of_lt (Nat.lt_of_lt_of_le hgl hsz))) (.slice B2 us'.length d2)) (Nat.ne_of_gt (Nat.lt_succ_of_lt (Nat.lt_of_lt_of_le hgl hsz))) (.slice B5 ys.length d5))
  have hgetI:ys[i]? =some (xNew f n0):=by rw[HYS.out,ins_get xs _ HI.out,if_neg (Nat.lt_irrefl i),if_pos rfl]
  have hil:i < ys.length:=(List.getElem?_eq_some_iff.1 hgetI).1
  have hyi:ys[i]=xNew f n0:=(List.getElem?_eq_some_iff.1 hgetI).2
  have hlow:∀(j:Nat) (hj:j < i),(ys[j]'(by omega)).f0≠(f:Int):=fun j hj=>by
   have h1:ys[j]? =xs[j]? :=by rw[HYS.out,ins_get xs _ HI.out,if_pos hj]
   rw[List.getElem?_eq_getElem (show j < ys.length by omega)] at h1
   have h2:=HLO.out j _ h1.symm hj
   have h3:=HX1.out j _ h1.symm
   omega
  refine (ixSpan (Kd.N_F hn3) rfl fnGrow1 (f:Int) i hil (by rw[hyi];rfl) hlow (cap:=#[.pointer (some ⟨w21.heap.size + 1,0,none⟩)]) (fun W' x hb hx=>by
   have h1:=snGrow1 (w21.heap.size + 1) (f:Int) x hx W' ((blk_cell (blk_below hbf hb) 0).trans rfl)
   simpa only[List.append_toArray,List.nil_append,List.cons_append] using h1)).mono ?_
  rintro e w58 ⟨rfl,hb⟩
  have HMW:=As (hMW.below hb)
  have HBW:=As (below_step hbw hb)
  clear hMW hbw hb hbf hblk hn3 hvb hgetI hil hyi hlow hp0 hp1 hs1 hs2 hs3 hf1 hf2 hf3
  dsimp only
  go_wp2
  go_ret2
  have hy:=HYS.out
  subst hy
  exact .inr ⟨f,i,us',B2,d2,_,rfl,HF.out.1,HF.out.2,HI.out,HREL.out,HMW.out,HBW.out⟩
end Go.Proofs.YtmmfchnbfnegnaaGreatDoor.K
end
section
namespace Go.Proofs.YtmmfchnbfnegnaaGreatDoor.K
open Go.RowKit Go.Proofs.YtmmfchnbfnegnaaGreatDoorW.PrintWords Go.Proofs.YtmmfchnbfnegnaaGreatDoorW.PrintLast Go.Proofs.YtmmfchnbfnegnaaGreatDoorW.PrintMore Go.Proofs.YtmmfchnbfnegnaaGreatDoor.GK Go.Proofs.YtmmfchnbfnegnaaGreatDoor.Pu Go.Proofs.YtmmfchnbfnegnaaGreatDoor.PuBitW Go.Proofs.YtmmfchnbfnegnaaGreatDoor.PuBits Go.Proofs.YtmmfchnbfnegnaaGreatDoor.PuHeadI
set_option linter.unusedVariables false
set_option linter.unusedSimpArgs false
attribute [local go_sem] max2_int min2_int max_two min_two max_three min_three max_four min_four
def hpV (A1 A2 A3:Option Addr) (c1 c2 c3 n1 n2 n3:Nat):Value:=.agg #[.slice A1 n1 c1,.int .i64 30,.slice A2 n2 c2,.slice A3 n3 c3]
def HpIs (P:Nat→Prop) (w:World) (v:Value) (ps:List Sp):Prop:=∃(A1 A2 A3:Option Addr) (c1 c2 c3:Nat) (ws us:List Int) (xs:List S51),v=.agg #[.slice A1 ws.length c1,.int .i64 30,.slice A2 us.length c2,.slice A3 xs.length c3]∧HRel ps ws us xs∧(ws.length≤c1∧us.length≤c2∧xs.length≤c3)∧Kd.F (Kd.int .u64) w P A1 ws.length ws∧Kd.F (Kd.int .u64) w P A2 us.length us∧Kd.F k51 w P A3 xs.length xs
theorem HpIs.mono {P P':Nat→Prop} {w:World} {v:Value} {ps:List Sp} (h:HpIs P w v ps) (hp:∀k,P k→P' k):HpIs P' w v ps:=by
 obtain⟨A1,A2,A3,c1,c2,c3,ws,us,xs,e,hr,hl,h1,h2,h3⟩:=h
 exact⟨A1,A2,A3,c1,c2,c3,ws,us,xs,e,hr,hl,Kd.F_mono h1 hp,Kd.F_mono h2 hp,Kd.F_mono h3 hp⟩
theorem HpIs.step {P:Nat→Prop} {w w':World} {v:Value} {ps:List Sp} (h:HpIs P w v ps) (hs:∀k,P k→k < w.heap.size→w'.heap[k]? =w.heap[k]?):HpIs P w' v ps:=by
 obtain⟨A1,A2,A3,c1,c2,c3,ws,us,xs,e,hr,hl,h1,h2,h3⟩:=h
 exact⟨A1,A2,A3,c1,c2,c3,ws,us,xs,e,hr,hl,Kd.F_step h1 hs,Kd.F_step h2 hs,Kd.F_step h3 hs⟩
theorem HpIs.below {P:Nat→Prop} {w w':World} {v:Value} {ps:List Sp} (h:HpIs P w v ps) (hb:Below w.heap.size w w'):HpIs P w' v ps:=h.step (fun k _ hk=>hb.block k hk)
theorem HpIs.bound {P:Nat→Prop} {w:World} {v:Value} {ps:List Sp} (h:HpIs P w v ps):HpIs (fun k=>P k∧k < w.heap.size) w v ps:=by
 obtain⟨A1,A2,A3,c1,c2,c3,ws,us,xs,e,hr,hl,h1,h2,h3⟩:=h
 exact⟨A1,A2,A3,c1,c2,c3,ws,us,xs,e,hr,hl,Kd.F_bound h1,Kd.F_bound h2,Kd.F_bound h3⟩
theorem Mine.is {w:World} {L:Nat→Prop} {B sb gw cw:Nat} {A2 A5:Option Addr} {c2 c5:Nat} {v3:Value} {ws us:List Int} {xs:List S51} {os:List S92} {ps:List Sp} (h:Mine w L B sb gw cw A2 A5 c2 c5 v3 ws us xs os) (hr:HRel ps ws us xs):HpIs (fun k=>L k∨B≤k) w (.agg #[.slice (some ⟨gw,0,none⟩) ws.length cw,.int .i64 30,.slice A2 us.length c2,v3]) ps:=by
 obtain⟨A3,c3,rfl⟩:=Kd.N_slice h.m3
 exact⟨_,_,_,_,_,_,ws,us,xs,rfl,hr,⟨(Kd.R_reads' h.m1).2.1,h.l2,(Kd.N_reads' h.m3).2.1⟩,Kd.F_mono (Kd.R_F h.m1) (fun k hk=>.inr (hk▸h.hgw)),Kd.F_mono h.m2 (fun k hk=>hk.1),Kd.F_mono (Kd.N_F h.m3) (fun k hk=>hk.1)⟩
theorem Mine.far4 {w:World} {L:Nat→Prop} {B sb gw cw:Nat} {A2 A5:Option Addr} {c2 c5:Nat} {v3:Value} {ws us:List Int} {xs:List S51} {os:List S92} (h:Mine w L B sb gw cw A2 A5 c2 c5 v3 ws us xs os) {g:Nat} (h1:¬L g) (h2:g < B) (u0 u1 u2 u3:Value):Mine ((((w.setCell ⟨g,0,none⟩ u0).setCell ⟨g,1,none⟩ u1).setCell ⟨g,2,none⟩ u2).setCell ⟨g,3,none⟩ u3) L B sb gw cw A2 A5 c2 c5 v3 ws us xs os:=
 (((h.far (p:=⟨g,0,none⟩) h1 h2 u0).far (p:=⟨g,1,none⟩) h1 h2 u1).far (p:=⟨g,2,none⟩) h1 h2 u2).far (p:=⟨g,3,none⟩) h1 h2 u3
structure More (ps ps':List Sp) (a:Nat) (o:Ob):Prop where
 has:∀b u,Has ps' b u↔(b=a∧u=o)∨Has ps b u
 new:∀u,¬Has ps a u
 sw:(∀p∈ps,p.swept=true)→∀p∈ps',p.swept=true
 n:o.n≤48
 m:o.m < 2 ^ o.n
set_option maxHeartbeats 3000000 in
set_option maxRecDepth 100000 in
theorem hpNew (ps:List Sp) (A1 A2 A3:Option Addr) (c1 c2 c3:Nat) (ws us:List Int) (xs:List S51) (w:World) (hr:HRel ps ws us xs) (hm:HMem w A1 A2 A3 c1 c2 c3 ws us xs) (P:Nat→Prop) (hf3:Kd.F k51 w P A3 xs.length xs) (hP:∀k,P k→k < w.heap.size) (hT:TzOk w) (n:Int) (M:Nat) (hM64:M < 18446744073709551616) (black:Bool):
  Calls Tryz.prog 6 #[.agg #[.slice A1 ws.length c1,.int .i64 30,.slice A2 us.length c2,.slice A3 xs.length c3],.agg #[.int .i64 n,.int .u64 (M:Int)],.bool black] w fun e w'=>
   ∃(g:Value) (a:Nat) (why:Int),e=.returned (.tuple #[g,.int .u64 (a:Int),.int .i64 why])∧Below w.heap.size w w'∧(∃B1 B2 B3 d1 d2 d3 m1 m2 m3,g=hpV B1 B2 B3 d1 d2 d3 m1 m2 m3)∧(why≠0∨why=0∧∃(ps':List Sp) (n0:Nat),n=(n0:Int)∧HpIs (fun k=>P k∨w.heap.size≤k) w' g ps'∧More ps ps' a ⟨n0,M,black⟩):=by
 have hue:=Tryz.underlying81
 have hu34:=Tryz.underlying34
 have hu41:=Tryz.underlying41
 have HM:=As hm
 have HR:=As hr
 have HF3:=As hf3
 have HPL:=As hP
 have HT:=As hT
 have hck:=hcheck_eq n M hM64
 clear hm hr hT hM64 hf3 hP
 go_enter Tryz.func6,Tryz.ntmps6
 go_wp2_with (fail)
 have hbs:=blk_alloc (blk_new (w.alloc (Obj.cells #[.slice A1 ws.length c1,.int .i64 30,.slice A2 us.length c2,.slice A3 xs.length c3] 34)) (Obj.cells #[.int .i64 n,.int .u64 (M:Int)] 41)) (Obj.cells #[.slice none 0 0,.int .i64 0,.slice none 0 0,.slice none 0 0] 34)
 have hbz:=blk_new ((w.alloc (Obj.cells #[.slice A1 ws.length c1,.int .i64 30,.slice A2 us.length c2,.slice A3 xs.length c3] 34)).alloc (Obj.cells #[.int .i64 n,.int .u64 (M:Int)] 41)) (Obj.cells #[.slice none 0 0,.int .i64 0,.slice none 0 0,.slice none 0 0] 34)
 have hb0:=below_alloc (below_alloc (below_alloc (Below.refl w.heap.size w) (Obj.cells #[.slice A1 ws.length c1,.int .i64 30,.slice A2 us.length c2,.slice A3 xs.length c3] 34)) (Obj.cells #[.int .i64 n,.int .u64 (M:Int)] 41)) (Obj.cells #[.slice none 0 0,.int .i64 0,.slice none 0 0,.slice none 0 0] 34)
 rw[World.size_alloc] at hbs
 rw[World.size_alloc,World.size_alloc] at hbz
 refine (hpMine ps A1 A2 A3 c1 c2 c3 ws us xs w _ HR.out HM.out hb0 P HF3.out HPL.out).mono ?_
 generalize ((w.alloc (Obj.cells #[.slice A1 ws.length c1,.int .i64 30,.slice A2 us.length c2,.slice A3 xs.length c3] 34)).alloc (Obj.cells #[.int .i64 n,.int .u64 (M:Int)] 41)).alloc (Obj.cells #[.slice none 0 0,.int .i64 0,.slice none 0 0,.slice none 0 0] 34)=w3 at hbs hbz hb0 ⊢
 rintro e w19 ⟨sb,gw,cw,A2',A5,c2',c5,v3,rfl,hM,hb⟩
 have HM1:=As hM
 have HB1:=As hb
 have HB0:=As hb0
 have HBS:=As (blk_below hbs hb)
 have HBZ:=As (blk_below hbz hb)
 have HT1:=As (TzOk.below HT.out (below_step hb0 hb))
 have hgs:=blk_lt hbs
 have hgz:=blk_lt hbz
 have HBS0:=As hbs
 have HBZ0:=As hbz
 have hh0:w19.cell? ⟨w.heap.size + 1,0,none⟩=some (.int .i64 n):=(blk_cell HBS.out 0).trans rfl
 have hh1:w19.cell? ⟨w.heap.size + 1,1,none⟩=some (.int .u64 (M:Int)):=(blk_cell HBS.out 1).trans rfl
 clear hM hb hb0 hbs hbz
 dsimp only
 go_wp2_with (fail)
 refine (head_Check.calls n (M:Int) (hchk n M) w19 hck).mono ?_
 rintro e w27 ⟨rfl,hb⟩
 have HM2:=As (HM1.out.below hb)
 have HB2:=As (below_step HB1.out hb)
 have HBS2:=As (blk_below HBS.out hb)
 have HBZ2:=As (blk_below HBZ.out hb)
 have HT2:=As (TzOk.below HT1.out hb)
 clear HM1 HB1 HBS HBZ HT1 hb hh0 hh1 hck
 by_cases hf:HFit n M
 ·rw[show hchk n M=0 from if_pos hf]
  obtain⟨n0,rfl⟩:∃n0:Nat,n=(n0:Int):=⟨n.toNat,by have:=hf.1;omega⟩
  have HF:=As (show n0≤48∧M < 2 ^ n0 from⟨by have:=hf.2.1;omega,by have:=hf.2.2;simpa using this⟩)
  have hn48:=HF.out.1
  clear hf
  have hh0:w27.cell? ⟨w.heap.size + 1,0,none⟩=some (.int .i64 (n0:Int)):=(blk_cell HBS2.out 0).trans rfl
  dsimp only
  go_wp2_with (fail)
  refine (heap_sizes.calls 9 ((n0:Int) + 1) (szOf n0:Int) (pgOf n0:Int) w27 (sizes_eq hn48)).mono ?_
  rintro e w39 ⟨rfl,hb⟩
  have HM3:=As (HM2.out.below hb)
  have HB3:=As (below_step HB2.out hb)
  have HBS3:=As (blk_below HBS2.out hb)
  have HBZ3:=As (blk_below HBZ2.out hb)
  have HT3:=As (TzOk.below HT2.out hb)
  clear HM2 HB2 HBS2 HBZ2 HT2 hb hh0
  obtain⟨A3',c3',rfl⟩:=Kd.N_slice HM3.out.m3
  have hs3:=Z.c3 HM3.out.blk
  dsimp only
  go_wp2_with (fail)
  have room:∀r1 r2 r3:Int,Ev (fun k=>span_Room.f k xs (szOf n0:Int)) (r1,r2,r3)→Calls Tryz.prog 25 #[.slice A3' xs.length c3',.int .i64 (szOf n0:Int)] w39 fun e w'=>e=.returned (.tuple #[.int .i64 r1,.int .i64 r2,.int .i64 r3])∧Below w39.heap.size w39 w':=fun r1 r2 r3 hE=>by
   obtain⟨k,hk⟩:=hE
   exact span_Room.calls k A3' c3' xs (szOf n0:Int) r1 r2 r3 w39 (Kd.N_reads' HM3.out.m3).2.2 (Kd.N_reads' HM3.out.m3).2.1 HT3.out (hk k (Nat.le_refl _))
  have HROOM:=As room
  clear room hs3
  have HRM:=As (HR.out.room (szOf n0))
  have hsq:(((szOf n0:Nat):Int) == 0)=true∨((((szOf n0:Nat):Int) == 0)=false∧szOf n0≠0):=by
   by_cases h:szOf n0=0
   ·left;rw[h];rfl
   ·right;exact⟨by simpa using h,h⟩
  obtain⟨r1,r2,r3,hE,hway⟩:∃r1 r2 r3:Int,Ev (fun k=>span_Room.f k xs (szOf n0:Int)) (r1,r2,r3)∧(r3=3∨(r3=0∧(((szOf n0:Nat):Int) == 0)=true)∨(r3=0∧(((szOf n0:Nat):Int) == 0)=false∧szOf n0≠0∧∃(i slot:Nat) (p:Sp),r1=(i:Int)∧r2=(slot:Int)∧ps[i]? =some p∧p.size=szOf n0∧slot < p.slots∧p.ob slot=none)):=by
   rcases HRM.out with h|⟨i,slot,p,h1,h2,h3,h4,h⟩
   ·exact⟨0,0,3,h,.inl rfl⟩
   ·rcases hsq with hs|⟨hs,hs2⟩
    ·exact⟨_,_,_,h,.inr (.inl ⟨rfl,hs⟩)⟩
    ·exact⟨_,_,_,h,.inr (.inr ⟨rfl,hs,hs2,i,slot,p,rfl,rfl,h1,h2,h3,h4⟩)⟩
  clear hsq
  rcases hway with rfl|⟨rfl,hsq⟩|⟨rfl,hsq,hsz0,i,slot,p,rfl,rfl,hp,hpz,hsl,hfree⟩
  ·refine (HROOM.out r1 r2 3 hE).mono ?_
   rintro e w49 ⟨rfl,hb⟩
   have HM4:=As (HM3.out.below hb)
   have HB4:=As (below_step HB3.out hb)
   have HBS4:=As (blk_below HBS3.out hb)
   have HBZ4:=As (blk_below HBZ3.out hb)
   have HT4:=As (TzOk.below HT3.out hb)
   clear HM3 HB3 HBS3 HBZ3 HT3 hb HROOM hE
   dsimp only
   go_wp2_with (fail)
   refine (hpGrow HM4.out HB4.out HT4.out HR.out n0 hn48).mono ?_
   rintro e w63 (⟨rfl,hM,hb⟩|⟨f,i,us',A2x,c2x,v3x,rfl,hf1,hf2,hi,hrel,hM,hb⟩)
   ·have HBZ:=As (blk_below HBZ0.out hb)
    have HMx:=As hM
    have HB:=As (below_step HB0.out hb)
    clear hM hb
    have hs0:=Z.c0 HMx.out.blk
    have hs1:=Z.c1 HMx.out.blk
    have hs2:=Z.c2 HMx.out.blk
    have hs3:=Z.c3 HMx.out.blk
    have hz0:w63.cell? ⟨(w.heap.size+1+1),0,none⟩=some (.slice none 0 0):=(blk_cell HBZ.out 0).trans rfl
    have hz1:w63.cell? ⟨(w.heap.size+1+1),1,none⟩=some (.int .i64 0):=(blk_cell HBZ.out 1).trans rfl
    have hz2:w63.cell? ⟨(w.heap.size+1+1),2,none⟩=some (.slice none 0 0):=(blk_cell HBZ.out 2).trans rfl
    have hz3:w63.cell? ⟨(w.heap.size+1+1),3,none⟩=some (.slice none 0 0):=(blk_cell HBZ.out 3).trans rfl
    have hf0:=blk_frozen HBZ.out 0
    have hf1:=blk_frozen HBZ.out 1
    have hf2:=blk_frozen HBZ.out 2
    have hf3:=blk_frozen HBZ.out 3
    dsimp only
    go_wp2_with (fail)
    have hres:=(blk_put (cs:=#[.slice (some ⟨gw,0,none⟩) ws.length cw,.int .i64 30,.slice A2' us.length c2',.slice none 0 0]) (cs':=#[.slice (some ⟨gw,0,none⟩) ws.length cw,.int .i64 30,.slice A2' us.length c2',.slice A3' xs.length c3']) (blk_put (cs:=#[.slice (some ⟨gw,0,none⟩) ws.length cw,.int .i64 30,.slice none 0 0,.slice none 0 0]) (cs':=#[.slice (some ⟨gw,0,none⟩) ws.length cw,.int .i64 30,.slice A2' us.length c2',.slice none 0 0]) (blk_put (cs:=#[.slice (some ⟨gw,0,none⟩) ws.length cw,.int .i64 0,.slice none 0 0,.slice none 0 0]) (cs':=#[.slice (some ⟨gw,0,none⟩) ws.length cw,.int .i64 30,.slice none 0 0,.slice none 0 0]) (blk_put (cs:=#[.slice none 0 0,.int .i64 0,.slice none 0 0,.slice none 0 0]) (cs':=#[.slice (some ⟨gw,0,none⟩) ws.length cw,.int .i64 0,.slice none 0 0,.slice none 0 0]) HBZ.out 0 (.slice (some ⟨gw,0,none⟩) ws.length cw) rfl) 1 (.int .i64 30) rfl) 2 (.slice A2' us.length c2') rfl) 3 (.slice A3' xs.length c3') rfl)
    (try simp only[Exit.inBlock,Exit.then])
    refine bodyPost_ret (results_list (rs:=[.cell 6 34,.tmp 7,.tmp 8]) rfl (by simp) (.cell (w.heap.size+1+1) 34 #[.slice (some ⟨gw,0,none⟩) ws.length cw,.int .i64 30,.slice A2' us.length c2',.slice A3' xs.length c3'] (0,0) _ rfl hres Tryz.underlying34 rfl (by kernel_rfl) (.tmp (.tmp .nil)))) rfl ?_
    exact⟨_,0,6,rfl,(by with_reducible repeat (first|exact HB.out|(refine below_set ?_ ?_;rotate_left;exact Nat.le_trans (Nat.le_succ _) (Nat.le_succ _)))),⟨_,_,_,_,_,_,_,_,_,rfl⟩,.inl (by decide)⟩
   ·obtain⟨ys,hys⟩:∃ys,ys=xs.take i ++ [xNew f n0] ++ xs.drop i:=⟨_,rfl⟩
    rw[←hys] at hM hrel
    have hgi:ys[i]? =some (xNew f n0):=by rw[hys,ins_get xs _ hi,if_neg (Nat.lt_irrefl i),if_pos rfl]
    have HIL:=As (List.getElem?_eq_some_iff.1 hgi).1
    have HXG:=As hgi
    have HXR:=As (new_rel f n0 hn48 hf1 hf2)
    have HPG:=As (new_good hn48 hf1 hf2)
    have HOG:=As (show ObGood (spNew f n0) 0 ⟨n0,M,black⟩ from⟨(new_good hn48 hf1 hf2).slots_pos.1,hn48,HF.out.2,rfl,rfl⟩)
    obtain⟨gs,cs,rfl, -, -, -⟩:=Kd.N_form hM.m3 (Nat.lt_of_le_of_lt (Nat.zero_le i) HIL.out)
    have HMx:=As hM
    have HBx:=As hb
    have HBS:=As (blk_below HBS0.out hb)
    have HREL:=As hrel
    have HI:=As hi
    have HYS:=As hys
    clear hM hb hrel hi hys hgi hf1 hf2
    have hh0:w63.cell? ⟨w.heap.size + 1,0,none⟩=some (.int .i64 (n0:Int)):=(blk_cell HBS.out 0).trans rfl
    have hh1:w63.cell? ⟨w.heap.size + 1,1,none⟩=some (.int .u64 (M:Int)):=(blk_cell HBS.out 1).trans rfl
    dsimp only
    go_wp2_with (fail)
    refine (hpPut HMx.out HBx.out HR.out.w.len i HIL.out _ HXG.out (spNew f n0) HXR.out HPG.out 0 ⟨n0,M,black⟩ HOG.out).mono ?_
    rintro e w78 ⟨rfl,hM9,hb9⟩
    have HBZ9:=As (blk_below HBZ0.out hb9)
    have HB:=As (below_step HB0.out hb9)
    obtain⟨ws',hws⟩:∃ws',ws'=ws.set (Sp.ad (spNew f n0) 0) (hw (Ob.n ⟨n0,M,black⟩) (Ob.m ⟨n0,M,black⟩)):=⟨_,rfl⟩
    rw[←hws] at hM9
    have HWS:=As hws
    have HM9:=As hM9
    clear hM9 hb9 hws hh0 hh1
    have hs0:=Z.c0 HM9.out.blk
    have hs1:=Z.c1 HM9.out.blk
    have hs2:=Z.c2 HM9.out.blk
    have hs3:=Z.c3 HM9.out.blk
    have hz0:w78.cell? ⟨(w.heap.size+1+1),0,none⟩=some (.slice none 0 0):=(blk_cell HBZ9.out 0).trans rfl
    have hz1:w78.cell? ⟨(w.heap.size+1+1),1,none⟩=some (.int .i64 0):=(blk_cell HBZ9.out 1).trans rfl
    have hz2:w78.cell? ⟨(w.heap.size+1+1),2,none⟩=some (.slice none 0 0):=(blk_cell HBZ9.out 2).trans rfl
    have hz3:w78.cell? ⟨(w.heap.size+1+1),3,none⟩=some (.slice none 0 0):=(blk_cell HBZ9.out 3).trans rfl
    have hf0:=blk_frozen HBZ9.out 0
    have hf1:=blk_frozen HBZ9.out 1
    have hf2:=blk_frozen HBZ9.out 2
    have hf3:=blk_frozen HBZ9.out 3
    dsimp only
    go_wp2_with (fail)
    have hres:=(blk_put (cs:=#[.slice (some ⟨gw,0,none⟩) ws'.length cw,.int .i64 30,.slice A2x us'.length c2x,.slice none 0 0]) (cs':=#[.slice (some ⟨gw,0,none⟩) ws'.length cw,.int .i64 30,.slice A2x us'.length c2x,.slice (some ⟨gs,0,none⟩) ys.length cs]) (blk_put (cs:=#[.slice (some ⟨gw,0,none⟩) ws'.length cw,.int .i64 30,.slice none 0 0,.slice none 0 0]) (cs':=#[.slice (some ⟨gw,0,none⟩) ws'.length cw,.int .i64 30,.slice A2x us'.length c2x,.slice none 0 0]) (blk_put (cs:=#[.slice (some ⟨gw,0,none⟩) ws'.length cw,.int .i64 0,.slice none 0 0,.slice none 0 0]) (cs':=#[.slice (some ⟨gw,0,none⟩) ws'.length cw,.int .i64 30,.slice none 0 0,.slice none 0 0]) (blk_put (cs:=#[.slice none 0 0,.int .i64 0,.slice none 0 0,.slice none 0 0]) (cs':=#[.slice (some ⟨gw,0,none⟩) ws'.length cw,.int .i64 0,.slice none 0 0,.slice none 0 0]) HBZ9.out 0 (.slice (some ⟨gw,0,none⟩) ws'.length cw) rfl) 1 (.int .i64 30) rfl) 2 (.slice A2x us'.length c2x) rfl) 3 (.slice (some ⟨gs,0,none⟩) ys.length cs) rfl)
    (try simp only[Exit.inBlock,Exit.then])
    refine bodyPost_ret (results_list (rs:=[.cell 6 34,.tmp 7,.tmp 8]) rfl (by simp) (.cell (w.heap.size+1+1) 34 #[.slice (some ⟨gw,0,none⟩) ws'.length cw,.int .i64 30,.slice A2x us'.length c2x,.slice (some ⟨gs,0,none⟩) ys.length cs] (0,0) _ rfl hres Tryz.underlying34 rfl (by kernel_rfl) (.tmp (.tmp .nil)))) rfl ?_
    have hpi:(ps.take i ++ [spNew f n0] ++ ps.drop i)[i]? =some (spNew f n0):=by rw[ins_get ps _ (by have:=HI.out;have:=HR.out.xl;omega),if_neg (Nat.lt_irrefl i),if_pos rfl]
    have hput:=HREL.out.put hpi HXG.out HOG.out rfl
    have hws:=HWS.out
    refine⟨_,(spNew f n0).ad 0,0,rfl,(by with_reducible repeat (first|exact HB.out|(refine below_set ?_ ?_;rotate_left;exact Nat.le_trans (Nat.le_succ _) (Nat.le_succ _)))),⟨_,_,_,_,_,_,_,_,_,rfl⟩,.inr ⟨rfl,(ps.take i ++ [spNew f n0] ++ ps.drop i).set i ((spNew f n0).put 0 ⟨n0,M,black⟩),n0,rfl,?_,?_⟩⟩
    ·rw[←hws] at hput
     exact ((HM9.out.far4 (fun h=>Nat.not_lt.2 (Nat.le_trans (Nat.le_succ _) (Nat.le_succ _)) (HPL.out _ h)) hgz _ _ _ _).is hput).mono (fun k hk=>hk.imp id (fun h=>Nat.le_trans HB0.out.size h))
    ·refine⟨fun b u=>?_,fun u hu=>?_,fun hs q hq=>?_,hn48,HF.out.2⟩
     ·rw[put_has HREL.out.good hpi rfl,ins_has]
     ·exact free_ad HREL.out.good hpi HOG.out.lt rfl u ((ins_has _ _).2 hu)
     ·rcases set_mem hq with rfl|hq
      ·rfl
      ·rcases (ins_mem ps _ q i).1 hq with rfl|hq
       ·rfl
       ·exact hs q hq
  ·refine (HROOM.out r1 r2 0 hE).mono ?_
   rintro e w49 ⟨rfl,hb⟩
   have HM4:=As (HM3.out.below hb)
   have HB4:=As (below_step HB3.out hb)
   have HBS4:=As (blk_below HBS3.out hb)
   have HBZ4:=As (blk_below HBZ3.out hb)
   have HT4:=As (TzOk.below HT3.out hb)
   clear HM3 HB3 HBS3 HBZ3 HT3 hb HROOM hE
   dsimp only
   go_wp2_with (fail)
   refine (hpGrow HM4.out HB4.out HT4.out HR.out n0 hn48).mono ?_
   rintro e w63 (⟨rfl,hM,hb⟩|⟨f,i,us',A2x,c2x,v3x,rfl,hf1,hf2,hi,hrel,hM,hb⟩)
   ·have HBZ:=As (blk_below HBZ0.out hb)
    have HMx:=As hM
    have HB:=As (below_step HB0.out hb)
    clear hM hb
    have hs0:=Z.c0 HMx.out.blk
    have hs1:=Z.c1 HMx.out.blk
    have hs2:=Z.c2 HMx.out.blk
    have hs3:=Z.c3 HMx.out.blk
    have hz0:w63.cell? ⟨(w.heap.size+1+1),0,none⟩=some (.slice none 0 0):=(blk_cell HBZ.out 0).trans rfl
    have hz1:w63.cell? ⟨(w.heap.size+1+1),1,none⟩=some (.int .i64 0):=(blk_cell HBZ.out 1).trans rfl
    have hz2:w63.cell? ⟨(w.heap.size+1+1),2,none⟩=some (.slice none 0 0):=(blk_cell HBZ.out 2).trans rfl
    have hz3:w63.cell? ⟨(w.heap.size+1+1),3,none⟩=some (.slice none 0 0):=(blk_cell HBZ.out 3).trans rfl
    have hf0:=blk_frozen HBZ.out 0
    have hf1:=blk_frozen HBZ.out 1
    have hf2:=blk_frozen HBZ.out 2
    have hf3:=blk_frozen HBZ.out 3
    dsimp only
    go_wp2_with (fail)
    have hres:=(blk_put (cs:=#[.slice (some ⟨gw,0,none⟩) ws.length cw,.int .i64 30,.slice A2' us.length c2',.slice none 0 0]) (cs':=#[.slice (some ⟨gw,0,none⟩) ws.length cw,.int .i64 30,.slice A2' us.length c2',.slice A3' xs.length c3']) (blk_put (cs:=#[.slice (some ⟨gw,0,none⟩) ws.length cw,.int .i64 30,.slice none 0 0,.slice none 0 0]) (cs':=#[.slice (some ⟨gw,0,none⟩) ws.length cw,.int .i64 30,.slice A2' us.length c2',.slice none 0 0]) (blk_put (cs:=#[.slice (some ⟨gw,0,none⟩) ws.length cw,.int .i64 0,.slice none 0 0,.slice none 0 0]) (cs':=#[.slice (some ⟨gw,0,none⟩) ws.length cw,.int .i64 30,.slice none 0 0,.slice none 0 0]) (blk_put (cs:=#[.slice none 0 0,.int .i64 0,.slice none 0 0,.slice none 0 0]) (cs':=#[.slice (some ⟨gw,0,none⟩) ws.length cw,.int .i64 0,.slice none 0 0,.slice none 0 0]) HBZ.out 0 (.slice (some ⟨gw,0,none⟩) ws.length cw) rfl) 1 (.int .i64 30) rfl) 2 (.slice A2' us.length c2') rfl) 3 (.slice A3' xs.length c3') rfl)
    (try simp only[Exit.inBlock,Exit.then])
    refine bodyPost_ret (results_list (rs:=[.cell 6 34,.tmp 7,.tmp 8]) rfl (by simp) (.cell (w.heap.size+1+1) 34 #[.slice (some ⟨gw,0,none⟩) ws.length cw,.int .i64 30,.slice A2' us.length c2',.slice A3' xs.length c3'] (0,0) _ rfl hres Tryz.underlying34 rfl (by kernel_rfl) (.tmp (.tmp .nil)))) rfl ?_
    exact⟨_,0,6,rfl,(by with_reducible repeat (first|exact HB.out|(refine below_set ?_ ?_;rotate_left;exact Nat.le_trans (Nat.le_succ _) (Nat.le_succ _)))),⟨_,_,_,_,_,_,_,_,_,rfl⟩,.inl (by decide)⟩
   ·obtain⟨ys,hys⟩:∃ys,ys=xs.take i ++ [xNew f n0] ++ xs.drop i:=⟨_,rfl⟩
    rw[←hys] at hM hrel
    have hgi:ys[i]? =some (xNew f n0):=by rw[hys,ins_get xs _ hi,if_neg (Nat.lt_irrefl i),if_pos rfl]
    have HIL:=As (List.getElem?_eq_some_iff.1 hgi).1
    have HXG:=As hgi
    have HXR:=As (new_rel f n0 hn48 hf1 hf2)
    have HPG:=As (new_good hn48 hf1 hf2)
    have HOG:=As (show ObGood (spNew f n0) 0 ⟨n0,M,black⟩ from⟨(new_good hn48 hf1 hf2).slots_pos.1,hn48,HF.out.2,rfl,rfl⟩)
    obtain⟨gs,cs,rfl, -, -, -⟩:=Kd.N_form hM.m3 (Nat.lt_of_le_of_lt (Nat.zero_le i) HIL.out)
    have HMx:=As hM
    have HBx:=As hb
    have HBS:=As (blk_below HBS0.out hb)
    have HREL:=As hrel
    have HI:=As hi
    have HYS:=As hys
    clear hM hb hrel hi hys hgi hf1 hf2
    have hh0:w63.cell? ⟨w.heap.size + 1,0,none⟩=some (.int .i64 (n0:Int)):=(blk_cell HBS.out 0).trans rfl
    have hh1:w63.cell? ⟨w.heap.size + 1,1,none⟩=some (.int .u64 (M:Int)):=(blk_cell HBS.out 1).trans rfl
    dsimp only
    go_wp2_with (fail)
    refine (hpPut HMx.out HBx.out HR.out.w.len i HIL.out _ HXG.out (spNew f n0) HXR.out HPG.out 0 ⟨n0,M,black⟩ HOG.out).mono ?_
    rintro e w78 ⟨rfl,hM9,hb9⟩
    have HBZ9:=As (blk_below HBZ0.out hb9)
    have HB:=As (below_step HB0.out hb9)
    obtain⟨ws',hws⟩:∃ws',ws'=ws.set (Sp.ad (spNew f n0) 0) (hw (Ob.n ⟨n0,M,black⟩) (Ob.m ⟨n0,M,black⟩)):=⟨_,rfl⟩
    rw[←hws] at hM9
    have HWS:=As hws
    have HM9:=As hM9
    clear hM9 hb9 hws hh0 hh1
    have hs0:=Z.c0 HM9.out.blk
    have hs1:=Z.c1 HM9.out.blk
    have hs2:=Z.c2 HM9.out.blk
    have hs3:=Z.c3 HM9.out.blk
    have hz0:w78.cell? ⟨(w.heap.size+1+1),0,none⟩=some (.slice none 0 0):=(blk_cell HBZ9.out 0).trans rfl
    have hz1:w78.cell? ⟨(w.heap.size+1+1),1,none⟩=some (.int .i64 0):=(blk_cell HBZ9.out 1).trans rfl
    have hz2:w78.cell? ⟨(w.heap.size+1+1),2,none⟩=some (.slice none 0 0):=(blk_cell HBZ9.out 2).trans rfl
    have hz3:w78.cell? ⟨(w.heap.size+1+1),3,none⟩=some (.slice none 0 0):=(blk_cell HBZ9.out 3).trans rfl
    have hf0:=blk_frozen HBZ9.out 0
    have hf1:=blk_frozen HBZ9.out 1
    have hf2:=blk_frozen HBZ9.out 2
    have hf3:=blk_frozen HBZ9.out 3
    dsimp only
    go_wp2_with (fail)
    have hres:=(blk_put (cs:=#[.slice (some ⟨gw,0,none⟩) ws'.length cw,.int .i64 30,.slice A2x us'.length c2x,.slice none 0 0]) (cs':=#[.slice (some ⟨gw,0,none⟩) ws'.length cw,.int .i64 30,.slice A2x us'.length c2x,.slice (some ⟨gs,0,none⟩) ys.length cs]) (blk_put (cs:=#[.slice (some ⟨gw,0,none⟩) ws'.length cw,.int .i64 30,.slice none 0 0,.slice none 0 0]) (cs':=#[.slice (some ⟨gw,0,none⟩) ws'.length cw,.int .i64 30,.slice A2x us'.length c2x,.slice none 0 0]) (blk_put (cs:=#[.slice (some ⟨gw,0,none⟩) ws'.length cw,.int .i64 0,.slice none 0 0,.slice none 0 0]) (cs':=#[.slice (some ⟨gw,0,none⟩) ws'.length cw,.int .i64 30,.slice none 0 0,.slice none 0 0]) (blk_put (cs:=#[.slice none 0 0,.int .i64 0,.slice none 0 0,.slice none 0 0]) (cs':=#[.slice (some ⟨gw,0,none⟩) ws'.length cw,.int .i64 0,.slice none 0 0,.slice none 0 0]) HBZ9.out 0 (.slice (some ⟨gw,0,none⟩) ws'.length cw) rfl) 1 (.int .i64 30) rfl) 2 (.slice A2x us'.length c2x) rfl) 3 (.slice (some ⟨gs,0,none⟩) ys.length cs) rfl)
    (try simp only[Exit.inBlock,Exit.then])
    refine bodyPost_ret (results_list (rs:=[.cell 6 34,.tmp 7,.tmp 8]) rfl (by simp) (.cell (w.heap.size+1+1) 34 #[.slice (some ⟨gw,0,none⟩) ws'.length cw,.int .i64 30,.slice A2x us'.length c2x,.slice (some ⟨gs,0,none⟩) ys.length cs] (0,0) _ rfl hres Tryz.underlying34 rfl (by kernel_rfl) (.tmp (.tmp .nil)))) rfl ?_
    have hpi:(ps.take i ++ [spNew f n0] ++ ps.drop i)[i]? =some (spNew f n0):=by rw[ins_get ps _ (by have:=HI.out;have:=HR.out.xl;omega),if_neg (Nat.lt_irrefl i),if_pos rfl]
    have hput:=HREL.out.put hpi HXG.out HOG.out rfl
    have hws:=HWS.out
    refine⟨_,(spNew f n0).ad 0,0,rfl,(by with_reducible repeat (first|exact HB.out|(refine below_set ?_ ?_;rotate_left;exact Nat.le_trans (Nat.le_succ _) (Nat.le_succ _)))),⟨_,_,_,_,_,_,_,_,_,rfl⟩,.inr ⟨rfl,(ps.take i ++ [spNew f n0] ++ ps.drop i).set i ((spNew f n0).put 0 ⟨n0,M,black⟩),n0,rfl,?_,?_⟩⟩
    ·rw[←hws] at hput
     exact ((HM9.out.far4 (fun h=>Nat.not_lt.2 (Nat.le_trans (Nat.le_succ _) (Nat.le_succ _)) (HPL.out _ h)) hgz _ _ _ _).is hput).mono (fun k hk=>hk.imp id (fun h=>Nat.le_trans HB0.out.size h))
    ·refine⟨fun b u=>?_,fun u hu=>?_,fun hs q hq=>?_,hn48,HF.out.2⟩
     ·rw[put_has HREL.out.good hpi rfl,ins_has]
     ·exact free_ad HREL.out.good hpi HOG.out.lt rfl u ((ins_has _ _).2 hu)
     ·rcases set_mem hq with rfl|hq
      ·rfl
      ·rcases (ins_mem ps _ q i).1 hq with rfl|hq
       ·rfl
       ·exact hs q hq
  ·refine (HROOM.out (i:Int) (slot:Int) 0 hE).mono ?_
   rintro e w49 ⟨rfl,hb⟩
   have HMx:=As (HM3.out.below hb)
   have HBx:=As (below_step HB3.out hb)
   have HBS:=As (blk_below HBS3.out hb)
   have hi:i < xs.length:=by rw[HR.out.xl];exact (List.getElem?_eq_some_iff.1 hp).1
   have hpg:=HR.out.good.at hp
   have HIL:=As hi
   obtain⟨x,hx⟩:∃x,xs[i]? =some x:=⟨_,List.getElem?_eq_getElem hi⟩
   have HXG:=As hx
   have HXR:=As (HR.out.x i x p hx hp)
   have HPG:=As hpg
   have hpages:pgOf n0=p.pages:=by
    have h1:=hpg.shaped
    have h2:=sz_cases n0 hn48
    omega
   have HOG:=As (show ObGood p slot ⟨n0,M,black⟩ from⟨hsl,hn48,HF.out.2,hpz.symm,hpages⟩)
   have HPI:=As (And.intro hp hfree)
   obtain⟨gs,cs,e3, -, -, -⟩:=Kd.N_form HMx.out.m3 (Nat.lt_of_le_of_lt (Nat.zero_le i) hi)
   injection e3 with e3 _ e3c
   subst e3
   have e3c:=e3c.symm
   subst e3c
   clear HM3 HB3 HBS3 HBZ3 HT3 hb HROOM hE hp hpz hsl hfree hsz0 hpg hpages hx hi
   have hh0:w49.cell? ⟨w.heap.size + 1,0,none⟩=some (.int .i64 (n0:Int)):=(blk_cell HBS.out 0).trans rfl
   have hh1:w49.cell? ⟨w.heap.size + 1,1,none⟩=some (.int .u64 (M:Int)):=(blk_cell HBS.out 1).trans rfl
   dsimp only
   go_wp2_with (fail)
   refine (hpPut HMx.out HBx.out HR.out.w.len i HIL.out _ HXG.out p HXR.out HPG.out slot ⟨n0,M,black⟩ HOG.out).mono ?_
   rintro e w78 ⟨rfl,hM9,hb9⟩
   have HBZ9:=As (blk_below HBZ0.out hb9)
   have HB:=As (below_step HB0.out hb9)
   obtain⟨ws',hws⟩:∃ws',ws'=ws.set (Sp.ad p slot) (hw (Ob.n ⟨n0,M,black⟩) (Ob.m ⟨n0,M,black⟩)):=⟨_,rfl⟩
   rw[←hws] at hM9
   have HWS:=As hws
   have HM9:=As hM9
   clear hM9 hb9 hws hh0 hh1
   have hs0:=Z.c0 HM9.out.blk
   have hs1:=Z.c1 HM9.out.blk
   have hs2:=Z.c2 HM9.out.blk
   have hs3:=Z.c3 HM9.out.blk
   have hz0:w78.cell? ⟨(w.heap.size+1+1),0,none⟩=some (.slice none 0 0):=(blk_cell HBZ9.out 0).trans rfl
   have hz1:w78.cell? ⟨(w.heap.size+1+1),1,none⟩=some (.int .i64 0):=(blk_cell HBZ9.out 1).trans rfl
   have hz2:w78.cell? ⟨(w.heap.size+1+1),2,none⟩=some (.slice none 0 0):=(blk_cell HBZ9.out 2).trans rfl
   have hz3:w78.cell? ⟨(w.heap.size+1+1),3,none⟩=some (.slice none 0 0):=(blk_cell HBZ9.out 3).trans rfl
   have hf0:=blk_frozen HBZ9.out 0
   have hf1:=blk_frozen HBZ9.out 1
   have hf2:=blk_frozen HBZ9.out 2
   have hf3:=blk_frozen HBZ9.out 3
   dsimp only
   go_wp2_with (fail)
   have hres:=(blk_put (cs:=#[.slice (some ⟨gw,0,none⟩) ws'.length cw,.int .i64 30,.slice A2' us.length c2',.slice none 0 0]) (cs':=#[.slice (some ⟨gw,0,none⟩) ws'.length cw,.int .i64 30,.slice A2' us.length c2',.slice (some ⟨gs,0,none⟩) xs.length cs]) (blk_put (cs:=#[.slice (some ⟨gw,0,none⟩) ws'.length cw,.int .i64 30,.slice none 0 0,.slice none 0 0]) (cs':=#[.slice (some ⟨gw,0,none⟩) ws'.length cw,.int .i64 30,.slice A2' us.length c2',.slice none 0 0]) (blk_put (cs:=#[.slice (some ⟨gw,0,none⟩) ws'.length cw,.int .i64 0,.slice none 0 0,.slice none 0 0]) (cs':=#[.slice (some ⟨gw,0,none⟩) ws'.length cw,.int .i64 30,.slice none 0 0,.slice none 0 0]) (blk_put (cs:=#[.slice none 0 0,.int .i64 0,.slice none 0 0,.slice none 0 0]) (cs':=#[.slice (some ⟨gw,0,none⟩) ws'.length cw,.int .i64 0,.slice none 0 0,.slice none 0 0]) HBZ9.out 0 (.slice (some ⟨gw,0,none⟩) ws'.length cw) rfl) 1 (.int .i64 30) rfl) 2 (.slice A2' us.length c2') rfl) 3 (.slice (some ⟨gs,0,none⟩) xs.length cs) rfl)
   (try simp only[Exit.inBlock,Exit.then])
   refine bodyPost_ret (results_list (rs:=[.cell 6 34,.tmp 7,.tmp 8]) rfl (by simp) (.cell (w.heap.size+1+1) 34 #[.slice (some ⟨gw,0,none⟩) ws'.length cw,.int .i64 30,.slice A2' us.length c2',.slice (some ⟨gs,0,none⟩) xs.length cs] (0,0) _ rfl hres Tryz.underlying34 rfl (by kernel_rfl) (.tmp (.tmp .nil)))) rfl ?_
   have hput:=HR.out.put HPI.out.1 HXG.out HOG.out HPI.out.2
   have hws:=HWS.out
   refine⟨_,p.ad slot,0,rfl,(by with_reducible repeat (first|exact HB.out|(refine below_set ?_ ?_;rotate_left;exact Nat.le_trans (Nat.le_succ _) (Nat.le_succ _)))),⟨_,_,_,_,_,_,_,_,_,rfl⟩,.inr ⟨rfl,ps.set i (p.put slot ⟨n0,M,black⟩),n0,rfl,?_,?_⟩⟩
   ·rw[←hws] at hput
    exact ((HM9.out.far4 (fun h=>Nat.not_lt.2 (Nat.le_trans (Nat.le_succ _) (Nat.le_succ _)) (HPL.out _ h)) hgz _ _ _ _).is hput).mono (fun k hk=>hk.imp id (fun h=>Nat.le_trans HB0.out.size h))
   ·refine⟨fun b u=>put_has HR.out.good HPI.out.1 HPI.out.2 _ _ _,fun u hu=>free_ad HR.out.good HPI.out.1 HOG.out.lt HPI.out.2 u hu,fun hs q hq=>?_,hn48,HF.out.2⟩
    rcases set_mem hq with rfl|hq
    ·exact hs p (List.mem_of_getElem? HPI.out.1)
    ·exact hs q hq
 ·rw[show hchk n M=2 from if_neg hf]
  obtain⟨A3',c3',rfl⟩:=Kd.N_slice HM2.out.m3
  have hs0:=Z.c0 HM2.out.blk
  have hs1:=Z.c1 HM2.out.blk
  have hs2:=Z.c2 HM2.out.blk
  have hs3:=Z.c3 HM2.out.blk
  have hz0:w27.cell? ⟨(w.heap.size+1+1),0,none⟩=some (.slice none 0 0):=(blk_cell HBZ2.out 0).trans rfl
  have hz1:w27.cell? ⟨(w.heap.size+1+1),1,none⟩=some (.int .i64 0):=(blk_cell HBZ2.out 1).trans rfl
  have hz2:w27.cell? ⟨(w.heap.size+1+1),2,none⟩=some (.slice none 0 0):=(blk_cell HBZ2.out 2).trans rfl
  have hz3:w27.cell? ⟨(w.heap.size+1+1),3,none⟩=some (.slice none 0 0):=(blk_cell HBZ2.out 3).trans rfl
  have hf0:=blk_frozen HBZ2.out 0
  have hf1:=blk_frozen HBZ2.out 1
  have hf2:=blk_frozen HBZ2.out 2
  have hf3:=blk_frozen HBZ2.out 3
  dsimp only
  go_wp2_with (fail)
  have hres:=(blk_put (cs:=#[.slice (some ⟨gw,0,none⟩) ws.length cw,.int .i64 30,.slice A2' us.length c2',.slice none 0 0]) (cs':=#[.slice (some ⟨gw,0,none⟩) ws.length cw,.int .i64 30,.slice A2' us.length c2',.slice A3' xs.length c3']) (blk_put (cs:=#[.slice (some ⟨gw,0,none⟩) ws.length cw,.int .i64 30,.slice none 0 0,.slice none 0 0]) (cs':=#[.slice (some ⟨gw,0,none⟩) ws.length cw,.int .i64 30,.slice A2' us.length c2',.slice none 0 0]) (blk_put (cs:=#[.slice (some ⟨gw,0,none⟩) ws.length cw,.int .i64 0,.slice none 0 0,.slice none 0 0]) (cs':=#[.slice (some ⟨gw,0,none⟩) ws.length cw,.int .i64 30,.slice none 0 0,.slice none 0 0]) (blk_put (cs:=#[.slice none 0 0,.int .i64 0,.slice none 0 0,.slice none 0 0]) (cs':=#[.slice (some ⟨gw,0,none⟩) ws.length cw,.int .i64 0,.slice none 0 0,.slice none 0 0]) HBZ2.out 0 (.slice (some ⟨gw,0,none⟩) ws.length cw) rfl) 1 (.int .i64 30) rfl) 2 (.slice A2' us.length c2') rfl) 3 (.slice A3' xs.length c3') rfl)
  (try simp only[Exit.inBlock,Exit.then])
  refine bodyPost_ret (results_list (rs:=[.cell 6 34,.tmp 7,.tmp 8]) rfl (by simp) (.cell (w.heap.size+1+1) 34 #[.slice (some ⟨gw,0,none⟩) ws.length cw,.int .i64 30,.slice A2' us.length c2',.slice A3' xs.length c3'] (0,0) _ rfl hres Tryz.underlying34 rfl (by kernel_rfl) (.tmp (.tmp .nil)))) rfl ?_
  have HB:=As (below_step HB0.out HB2.out)
  exact⟨_,0,2,rfl,(by with_reducible repeat (first|exact HB.out|(refine below_set ?_ ?_;rotate_left;exact Nat.le_trans (Nat.le_succ _) (Nat.le_succ _)))),⟨_,_,_,_,_,_,_,_,_,rfl⟩,.inl (by decide)⟩
end Go.Proofs.YtmmfchnbfnegnaaGreatDoor.K
end
section
namespace Go.Proofs.YtmmfchnbfnegnaaGreatDoor.K
open Go.RowKit Go.Proofs.YtmmfchnbfnegnaaGreatDoorW.PrintWords Go.Proofs.YtmmfchnbfnegnaaGreatDoorW.PrintLast Go.Proofs.YtmmfchnbfnegnaaGreatDoorW.PrintMore Go.Proofs.YtmmfchnbfnegnaaGreatDoor.GK Go.Proofs.YtmmfchnbfnegnaaGreatDoor.Pu Go.Proofs.YtmmfchnbfnegnaaGreatDoor.PuBitW Go.Proofs.YtmmfchnbfnegnaaGreatDoor.PuBits
set_option linter.unusedVariables false
set_option linter.unusedSimpArgs false
attribute [local go_sem] max2_int min2_int max_two min_two max_three min_three max_four min_four
theorem fnSwept1:FnIs Tryz.prog 76:=⟨_,Tryz.func76,by kernel_rfl,rfl⟩
theorem fnBlack:FnIs Tryz.prog 32:=⟨_,Tryz.func32,by kernel_rfl,rfl⟩
def swP (x:List Value):Bool:=match x with
 | [_,_,_,_,_,_,_,.bool b]=>!b
 |_=>false
theorem k51_sw {w:World} {x:S51} {c:List Value} (h:k51.K w x c):swP c=!x.f5:=by
 obtain⟨A4,c4,A6,c6,rfl, -⟩:=k51_open h
 rfl
theorem snSwept1 (x:List Value) (hx:FormSn x) (W:World):
  Calls Tryz.prog 76 #[.agg x.toArray] W fun e W'=>e=.returned (.bool (swP x))∧Below W.heap.size W W':=by
 have hue:=Tryz.underlying51
 obtain⟨a0,a1,a2,a3,A4,n4,c4,a5,A6,n6,c6,a7,rfl⟩:=hx
 go_enter Tryz.func76,Tryz.ntmps76
 go_wp2
 go_ret
 exact⟨rfl,by repeat (first|exact Below.refl _ _|apply below_alloc|apply pw_below_drewN|apply below_drew1)⟩
theorem ixP_no (p:List Value→Bool):∀(l:List (List Value)) (i:Int),(∀x∈l,p x=false)→ixP p l i= -1
 | [],_,_=>rfl
 |x::r,i,h=>by
  rw[ixP,h x List.mem_cons_self,if_neg (by decide)]
  exact ixP_no p r (i + 1) (fun y hy=>h y (List.mem_cons_of_mem _ hy))
theorem hasSn {F:FuncId} {first cap:Array Value} {v:Value} {W:World} (h:Calls Tryz.prog 36 #[v,.func (.func F) first cap] W fun e w'=>e=.returned (.int .i64 (-1))∧Below W.heap.size W w'):
  Calls Tryz.prog 75 #[v,.func (.func F) first cap] W fun e w'=>e=.returned (.bool false)∧Below W.heap.size W w':=by
 have HF:=As h
 clear h
 go_enter Tryz.func75,Tryz.ntmps75
 go_wp2_with (fail)
 refine HF.out.mono ?_
 rintro e w10 ⟨rfl,hb⟩
 have HB:=As hb
 clear hb
 dsimp only
 go_wp2_with (fail)
 go_ret
 exact⟨rfl,HB.out⟩
section
variable {w:World} {L:Nat→Prop} {B sb gw cw:Nat} {A2 A5:Option Addr} {c2 c5:Nat} {v3:Value} {ws us:List Int} {xs:List S51} {os:List S92}
set_option maxHeartbeats 3000000 in
set_option maxRecDepth 100000 in
theorem hpSwept (hM:Mine w L B sb gw cw A2 A5 c2 c5 v3 ws us xs os) (hs:∀x∈xs,x.f5=true):
  Calls Tryz.prog 31 #[.pointer (some ⟨sb,0,none⟩)] w fun e w'=>e=.returned (.bool true)∧Below w.heap.size w w':=by
 have hue:=Tryz.underlying81
 have hu34:=Tryz.underlying34
 obtain⟨A3,c3,rfl⟩:=Kd.N_slice hM.m3
 obtain⟨rows,hrl,hC,hR⟩:=f51_raw (Kd.N_F hM.m3)
 have hrow:∀x∈rows,FormSn x∧swP x=false:=fun x hx=>by
  obtain⟨j,hj,rfl⟩:=List.mem_iff_getElem.1 hx
  have hk:=Kd.FK_now (hR j _ _ (List.getElem?_eq_getElem (show j < xs.length by omega)) (List.getElem?_eq_getElem hj))
  exact⟨k51_form hk,by rw[k51_sw hk,hs _ (List.getElem_mem _)];rfl⟩
 have h1:=ixSn (F:=76) (first:=#[]) (cap:=#[]) swP A3 c3 rows w (by rw[hrl];exact hC) fnSwept1 (fun W x _ hx=>snSwept1 x (hrow x hx).1 W)
 rw[ixP_no swP rows 0 (fun x hx=>(hrow x hx).2),hrl] at h1
 have HC:=As (hasSn h1)
 have hc3:=Z.c3 hM.blk
 clear hM hs hC hR hrow h1 hrl
 go_enter Tryz.func31,Tryz.ntmps31
 go_wp2_with (fail)
 refine HC.out.mono ?_
 rintro e w10 ⟨rfl,hb⟩
 have HB:=As hb
 clear hb
 dsimp only
 go_wp2_with (fail)
 go_ret
 exact⟨rfl,HB.out⟩
set_option maxHeartbeats 3000000 in
set_option maxRecDepth 100000 in
theorem hpMarked (hM:Mine w L B sb gw cw A2 A5 c2 c5 v3 ws us xs os) (i k:Nat) (x:S51) (hx:xs[i]? =some x) (b:Bool) (hb:bits_Is.f x.f4.f0 x.f4.f1 (k:Int)=some b) (a m n:Int) (d:Bool):
  Calls Tryz.prog 34 #[.pointer (some ⟨sb,0,none⟩),.agg #[.int .i64 (i:Int),.int .i64 (k:Int),.int .u64 a,.int .i64 n,.int .u64 m,.bool d]] w fun e w'=>e=.returned (.bool b)∧Below w.heap.size w w':=by
 have hue:=Tryz.underlying81
 have hu34:=Tryz.underlying34
 have hu51:=Tryz.underlying51
 have hu92:=Tryz.underlying92
 have hi:=(List.getElem?_eq_some_iff.1 hx).1
 obtain⟨gs,cs,rfl, -⟩:=Kd.N_form hM.m3 (Nat.lt_of_le_of_lt (Nat.zero_le i) hi)
 obtain⟨A4,c4,A6,c6,l4,hF4,l6,hF6,hcc,hfr⟩:=elem51 hM.m3 hi hx
 have HF6:=As hF6
 have hltd:(i < xs.length)=True:=eq_true hi
 have hsl:=blk_lt hM.blk
 have hx5:w.cell? ⟨gs,i * 8 + 5,none⟩=some (.int .i64 x.f4.f0):=hcc 5 _ rfl
 have hx6:w.cell? ⟨gs,i * 8 + 6,none⟩=some (.slice A6 x.f4.f1.length c6):=hcc 6 _ rfl
 have hc3:=Z.c3 hM.blk
 have HI:=As hb
 clear hM hx hF4 hF6 hcc hfr hi hb
 go_enter Tryz.func34,Tryz.ntmps34
 go_wp2_with (fail)
 have hb0:=below_drew1 (below_alloc (Below.refl w.heap.size w) (Obj.cells #[.int .i64 (i:Int),.int .i64 (k:Int),.int .u64 a,.int .i64 n,.int .u64 m,.bool d] 92))
 have hbo:=blk_drew (blk_new w (Obj.cells #[.int .i64 (i:Int),.int .i64 (k:Int),.int .u64 a,.int .i64 n,.int .u64 m,.bool d] 92))
 have hx5:=keepc hb0 hx5
 have hx6:=keepc hb0 hx6
 have hc3:=keepc hb0 hc3
 have ho0:(w.alloc (Obj.cells #[.int .i64 (i:Int),.int .i64 (k:Int),.int .u64 a,.int .i64 n,.int .u64 m,.bool d] 92)).drew.cell? ⟨w.heap.size,0,none⟩=some (.int .i64 (i:Int)):=(blk_cell hbo 0).trans rfl
 have ho1:(w.alloc (Obj.cells #[.int .i64 (i:Int),.int .i64 (k:Int),.int .u64 a,.int .i64 n,.int .u64 m,.bool d] 92)).drew.cell? ⟨w.heap.size,1,none⟩=some (.int .i64 (k:Int)):=(blk_cell hbo 1).trans rfl
 clear hbo
 have HB0:=As hb0
 clear hb0
 generalize (w.alloc (Obj.cells #[.int .i64 (i:Int),.int .i64 (k:Int),.int .u64 a,.int .i64 n,.int .u64 m,.bool d] 92))=w2 at HB0 hx5 hx6 hc3 ho0 ho1 ⊢
 refine start_ (n:=14) (S:=fun w'=>w'.cell? ⟨sb,3,none⟩=some (.slice (some ⟨gs,0,none⟩) xs.length cs)∧w'.cell? ⟨w.heap.size,0,none⟩=some (.int .i64 (i:Int))∧w'.cell? ⟨w.heap.size,1,none⟩=some (.int .i64 (k:Int))∧w'.cell? ⟨gs,i * 8 + 5,none⟩=some (.int .i64 x.f4.f0)∧w'.cell? ⟨gs,i * 8 + 6,none⟩=some (.slice A6 x.f4.f1.length c6)) (ds:=[]) #[false,false,false,false,false,false,false,false,false,false,false,false,false,false] (by kernel_rfl) rfl rfl ⟨hc3,ho0,ho1,hx5,hx6⟩ (fun hHeld=>?_)
 generalize w2.drew=w3 at HB0 hx5 hx6 hc3 ho0 ho1 hHeld ⊢
 refine Z.p_ 0 5 ?_
 refine Z.p_ 1 6 ?_
 refine Z.p_ 2 7 ?_
 refine Z.p_ 3 8 ?_
 refine Z.t_ 4 9 hHeld ?_
 refine Z.p_ 5 10 ?_
 refine Z.t_ 6 11 hHeld ?_
 refine Z.p_ 7 12 ?_
 refine Z.p_ 8 13 ?_
 refine Z.t_ 9 14 hHeld ?_
 refine Z.p_ 10 15 ?_
 refine Z.t_ 11 16 hHeld ?_
 refine Z.on 12 (some 17) fun K hK=>?_
 refine Z.gs Tryz.func79 #[.agg #[.int .i64 x.f4.f0,.slice A6 x.f4.f1.length c6],.int .i64 (k:Int)] ?_
 refine (bits_Is.calls x.f4.f0 A6 c6 x.f4.f1 (k:Int) b w3 (Kd.C_below (Kd.F_now HF6.out) HB0.out) l6 HI.out).mono ?_
 rintro e w17 ⟨rfl,hb⟩
 refine⟨_,rfl,?_⟩
 have HB:=As (below_step HB0.out hb)
 refine hK.out _ _ ⟨keepc hb hc3,keepc hb ho0,keepc hb ho1,keepc hb hx5,keepc hb hx6⟩ (fun hHeld=>?_)
 clear hb hc3 ho0 ho1 hx5 hx6
 clear hK K
 refine Z.n_ 17 ?_
 refine Z.p_ 13 4 ?_
 refine done_ (by kernel_rfl) ?_
 go_wp2
 go_ret
 exact⟨rfl,HB.out⟩
end
set_option maxHeartbeats 3000000 in
set_option maxRecDepth 100000 in
theorem hpBlack0 (A5:Option Addr) (c5:Nat) (os:List S92) (sb gp:Nat) (w:World) (hp:∀x∈os,16≤x.f2) (hl:os.length < 500000) (hC:Kd.C k92 w A5 os.length os) (h5:os.length≤c5) (hc4:w.cell? ⟨sb,4,none⟩=some (.slice A5 os.length c5)) (hg:w.cell? ⟨gp,0,none⟩=some (.pointer (some ⟨sb,0,none⟩))):
  Calls Tryz.prog 32 #[.int .u64 0,.pointer (some ⟨gp,0,none⟩)] w fun e w'=>e=.returned (.bool true)∧Below w.heap.size w w':=by
 have hue:=Tryz.underlying81
 have hu92:=Tryz.underlying92
 have HF:=As (hpFind0 A5 c5 os sb w hp hl hC h5 hc4)
 clear hp hl hC h5 hc4
 go_enter Tryz.func32,Tryz.ntmps32
 go_wp2_with (fail)
 refine HF.out.mono ?_
 rintro e w10 ⟨rfl,hb⟩
 have HB:=As hb
 clear hb
 unfold ob0
 dsimp only
 go_wp2_with (fail)
 go_ret
 exact⟨rfl,(by with_reducible repeat (first|exact HB.out|refine below_alloc ?_ _|refine pw_below_drewN ?_ _|refine below_drew1 ?_|refine below_set ?_ (Nat.le_refl _)|(refine below_set ?_ ?_;rotate_left;omega)))⟩
end Go.Proofs.YtmmfchnbfnegnaaGreatDoor.K
end
section
namespace Go.Proofs.YtmmfchnbfnegnaaGreatDoor.K
open Go.RowKit Go.Proofs.YtmmfchnbfnegnaaGreatDoorW.PrintWords Go.Proofs.YtmmfchnbfnegnaaGreatDoorW.PrintLast Go.Proofs.YtmmfchnbfnegnaaGreatDoorW.PrintMore Go.Proofs.YtmmfchnbfnegnaaGreatDoor.GK Go.Proofs.YtmmfchnbfnegnaaGreatDoor.Pu Go.Proofs.YtmmfchnbfnegnaaGreatDoor.PuBitW Go.Proofs.YtmmfchnbfnegnaaGreatDoor.PuBits
set_option linter.unusedVariables false
set_option linter.unusedSimpArgs false
attribute [local go_sem] max2_int min2_int max_two min_two max_three min_three max_four min_four
theorem objsF_mark {ps:List Sp} {ws us:List Int} {xs:List S51} (h:HRel ps ws us xs) {x:S92} (hx:x∈objsF 0 ps):∃(i k:Nat) (y:S51) (b:Bool),x.f0=(i:Int)∧x.f1=(k:Int)∧xs[i]? =some y∧bits_Is.f y.f4.f0 y.f4.f1 (k:Int)=some b:=by
 obtain⟨j,p,k,o,hp,hk,ho,rfl⟩:=mem_objsF.1 hx
 have hj:j < xs.length:=by rw[h.xl];exact (List.getElem?_eq_some_iff.1 hp).1
 have hy:=h.x j _ p (List.getElem?_eq_getElem hj) hp
 exact⟨j,k,xs[j],_,by show ((0 + j:Nat):Int)=_;rw[Nat.zero_add],rfl,List.getElem?_eq_getElem hj,hy.mb.is _ k hk⟩
theorem un_set (xs:List S51) {i:Nat} (hi:i < xs.length):((xs.take i).map xUn ++ xs.drop i).set i (xUn xs[i])=(xs.take (i + 1)).map xUn ++ xs.drop (i + 1):=by
 apply List.ext_getElem?
 intro j
 rw[List.getElem?_set,List.getElem?_append,List.getElem?_append]
 simp only[List.length_map,List.length_take,List.length_append,List.length_drop,List.getElem?_map,List.getElem?_take,List.getElem?_drop]
 rw[Nat.min_eq_left (show i≤xs.length by omega),Nat.min_eq_left (show i + 1≤xs.length by omega)]
 rcases Nat.lt_trichotomy j i with c|c|c
 ·rw[if_neg (by omega),if_pos c,if_pos (by omega),if_pos (by omega),if_pos (by omega)]
 ·subst c
  rw[if_pos rfl,if_pos (by omega),if_pos (by omega),if_pos (by omega),List.getElem?_eq_getElem hi];rfl
 ·rw[if_neg (by omega),if_neg (by omega),if_neg (by omega),show i + (j - i)=i + 1 + (j - (i + 1)) by omega]
theorem un_get (xs:List S51) {i:Nat} (hi:i < xs.length):((xs.take i).map xUn ++ xs.drop i)[i]? =some xs[i]:=by
 rw[List.getElem?_append,if_neg (by simp[Nat.min_le_left])]
 simp[Nat.min_eq_left (show i≤xs.length by omega)]
theorem un_len (xs:List S51) {i:Nat} (hi:i≤xs.length):((xs.take i).map xUn ++ xs.drop i).length=xs.length:=by
 simp;omega
set_option maxHeartbeats 3000000 in
set_option maxRecDepth 100000 in
theorem hpTurn (ps:List Sp) (A1 A2 A3:Option Addr) (c1 c2 c3:Nat) (ws us:List Int) (xs:List S51) (w:World) (hr:HRel ps ws us xs) (hm:HMem w A1 A2 A3 c1 c2 c3 ws us xs) (P:Nat→Prop) (hf3:Kd.F k51 w P A3 xs.length xs) (hP:∀k,P k→k < w.heap.size) (hsw:∀p∈ps,p.swept=true):
  Calls Tryz.prog 8 #[.agg #[.slice A1 ws.length c1,.int .i64 30,.slice A2 us.length c2,.slice A3 xs.length c3]] w fun e w'=>∃g:Value,e=.returned (.tuple #[g,.int .i64 0])∧Below w.heap.size w w'∧HpIs (fun k=>P k∨w.heap.size≤k) w' g (ps.map Sp.un):=by
 have hue:=Tryz.underlying81
 have hu34:=Tryz.underlying34
 have hu51:=Tryz.underlying51
 have hu92:=Tryz.underlying92
 have HSW:=As (show ∀x∈xs,x.f5=true from fun x hx=>by
  obtain⟨j,hj,rfl⟩:=List.mem_iff_getElem.1 hx
  have hjp:j < ps.length:=by rw[←hr.xl];exact hj
  rw[(hr.x j _ _ (List.getElem?_eq_getElem hj) (List.getElem?_eq_getElem hjp)).f5]
  exact hsw _ (List.getElem_mem hjp))
 have HM:=As hm
 have HR:=As hr
 have HF3:=As hf3
 have HPL:=As hP
 clear hm hr hsw hf3 hP
 go_enter Tryz.func8,Tryz.ntmps8
 go_wp2_with (fail)
 have hbz:=blk_new (w.alloc (Obj.cells #[.slice A1 ws.length c1,.int .i64 30,.slice A2 us.length c2,.slice A3 xs.length c3] 34)) (Obj.cells #[.slice none 0 0,.int .i64 0,.slice none 0 0,.slice none 0 0] 34)
 have hb0:=below_alloc (below_alloc (Below.refl w.heap.size w) (Obj.cells #[.slice A1 ws.length c1,.int .i64 30,.slice A2 us.length c2,.slice A3 xs.length c3] 34)) (Obj.cells #[.slice none 0 0,.int .i64 0,.slice none 0 0,.slice none 0 0] 34)
 rw[World.size_alloc] at hbz
 refine (hpMine ps A1 A2 A3 c1 c2 c3 ws us xs w _ HR.out HM.out hb0 P HF3.out HPL.out).mono ?_
 generalize (w.alloc (Obj.cells #[.slice A1 ws.length c1,.int .i64 30,.slice A2 us.length c2,.slice A3 xs.length c3] 34)).alloc (Obj.cells #[.slice none 0 0,.int .i64 0,.slice none 0 0,.slice none 0 0] 34)=w2 at hbz hb0 ⊢
 rintro e w12 ⟨sb,gw,cw,A2',A5,c2',c5,v3,rfl,hM,hb⟩
 have HHAS:=As (fun x (hx:x∈objsF 0 ps)=>objsF_mark HR.out hx)
 have HBD:=As (fun x (hx:x∈objsF 0 ps)=>objsF_bounds HR.out.good hx)
 have HFZ:=As (fun x (hx:x∈objsF 0 ps) f h0 h1=>field_zero HR.out.good HR.out.w (x:=x) hx f h0 h1)
 have hfew:(objsF 0 ps).length < 500000:=HR.out.good.few 0
 obtain⟨os,hos⟩:∃os,os=objsF 0 ps:=⟨_,rfl⟩
 rw[←hos] at hM HHAS HBD HFZ hfew
 clear hos
 have HFEW:=As hfew
 have HM1:=As hM
 have HB1:=As (below_step hb0 hb)
 have HB00:=As hb0
 have HBZ1:=As (blk_below hbz hb)
 have hgz:=blk_lt hbz
 have hgp2:=hb.size
 obtain⟨A3',c3',rfl⟩:=Kd.N_slice hM.m3
 have HBB1:=As hb
 clear hM hb hb0 hbz
 dsimp only
 go_wp2_with (fail)
 have hbp:=blk_new w12 (Obj.cells #[.pointer (some ⟨sb,0,none⟩)] 75)
 have hbA:=below_alloc (Below.refl w12.heap.size w12) (Obj.cells #[.pointer (some ⟨sb,0,none⟩)] 75)
 refine (hpSwept (HM1.out.below hbA) HSW.out).mono ?_
 generalize w12.alloc (Obj.cells #[.pointer (some ⟨sb,0,none⟩)] 75)=w13 at hbp hbA ⊢
 rintro e w20 ⟨rfl,hb⟩
 have hb2:=below_step hbA hb
 have HM2:=As (HM1.out.below hb2)
 have HB2:=As (below_step HB1.out hb2)
 have HBZ2:=As (blk_below HBZ1.out hb2)
 have HBB2:=As (below_step HBB1.out hb2)
 have HBP2:=As (blk_below hbp hb)
 clear hb hbA hbp hb2 HM1 HB1 HBZ1 HBB1
 generalize w12.heap.size=gp at HBP2 hgp2 ⊢
 have hcp:=Z.c0 HBP2.out
 have hs0:=Z.c0 HM2.out.blk
 have hs4:=Z.c4 HM2.out.blk
 have hgpl:=blk_lt HBP2.out
 have hsbl:=blk_lt HM2.out.blk
 have hwl:ws.length=480:=HR.out.w.len
 have HWL:=As hwl
 clear hwl
 dsimp only
 go_wp2_with (fail)
 go_loopw [32] (fun v32 wr=>∃i:Nat,v32=.int .i64 (i:Int)∧Aside0 (i≤os.length)∧Aside0 (Below w20.heap.size w20 wr)) (fun v32 _=>os.length - (intOf v32).toNat)
 case atStart=>exact⟨0,rfl,⟨Nat.zero_le _⟩,⟨Below.refl _ _⟩⟩
 case round=>
  obtain⟨i,rfl,HI,HB⟩:=hrel
  by_cases hlt:i < os.length
  ·obtain⟨ad,eA,hx0,hx1,hx2,hx3,hx4,hx5⟩:=at_T92 (Kd.F_now (HM2.out.below HB.out).m5) (i:Int) (by omega) (by omega)
   subst eA
   rw[Int.toNat_natCast] at hx0 hx1 hx2 hx3 hx4 hx5
   rw[rd92 hlt] at hx0 hx1 hx2 hx3 hx4 hx5
   have hxm:os[i]∈os:=List.getElem_mem hlt
   obtain⟨x,hx⟩:∃x,x=os[i]:=⟨_,rfl⟩
   rw[←hx] at hx0 hx1 hx2 hx3 hx4 hx5 hxm
   obtain⟨j,k,y,b,e0,e1,hy,hbi⟩:=HHAS.out x hxm
   have hbx:=HBD.out x hxm
   have hszw:=HB.out.size
   have HMK:=As (fun W (hb:Below wr.heap.size wr W)=>hpMarked (HM2.out.below (below_step HB.out hb)) j k y hy b hbi x.f2 x.f3.f1 x.f3.f0 x.f4)
   have HRF:=As (fun W (hb:Below wr.heap.size wr W)=>hpRefs (first:=#[]) (cap:=#[.pointer (some ⟨gp,0,none⟩)]) x sb (some ⟨gw,0,none⟩) cw ws W fnBlack (fun W' hb'=>by
    have:=hpBlack0 (some ad) c5 os sb gp W' (fun y hy=>(HBD.out y hy).1) HFEW.out (Kd.F_now (HM2.out.below (below_step HB.out (below_step hb hb'))).m5) HM2.out.l5 (keepc (below_step HB.out (below_step hb hb')) hs4) (keepc (below_step HB.out (below_step hb hb')) hcp)
    simpa only[List.append_toArray,List.nil_append,List.cons_append] using this) (by omega) (by have:=HWL.out;omega) (by have:=HWL.out;omega) (HFZ.out x hxm) (keepc (below_step HB.out hb) hs0) (Kd.R_reads' (HM2.out.below (below_step HB.out hb)).m1).2.2)
   unfold obV at HRF
   rw[e0,e1] at HRF
   rw[e0] at hx0
   rw[e1] at hx1
   have hcp1:=keepc HB.out hcp
   have hgp1:gp < wr.heap.size:=Nat.lt_of_lt_of_le hgpl hszw
   have hltd:(i < os.length)=True:=eq_true hlt
   clear hx e0 e1 hy hbi hbx hxm
   go_wp2_with (fail)
   have hbo:=blk_new wr (Obj.cells #[.int .i64 (j:Int),.int .i64 (k:Int),.int .u64 x.f2,.int .i64 x.f3.f0,.int .u64 x.f3.f1,.bool x.f4] 92)
   have hba:=below_alloc (Below.refl wr.heap.size wr) (Obj.cells #[.int .i64 (j:Int),.int .i64 (k:Int),.int .u64 x.f2,.int .i64 x.f3.f0,.int .u64 x.f3.f1,.bool x.f4] 92)
   refine (HMK.out _ hba).mono ?_
   rintro e w38 ⟨rfl,hb⟩
   have hb3:=below_step hba hb
   have hcp3:=keepc hb3 hcp1
   have ho0:w38.cell? ⟨wr.heap.size,0,none⟩=some (.int .i64 (j:Int)):=(blk_cell (blk_below hbo hb) 0).trans rfl
   have ho1:w38.cell? ⟨wr.heap.size,1,none⟩=some (.int .i64 (k:Int)):=(blk_cell (blk_below hbo hb) 1).trans rfl
   have ho2:w38.cell? ⟨wr.heap.size,2,none⟩=some (.int .u64 x.f2):=(blk_cell (blk_below hbo hb) 2).trans rfl
   have ho3:w38.cell? ⟨wr.heap.size,3,none⟩=some (.int .i64 x.f3.f0):=(blk_cell (blk_below hbo hb) 3).trans rfl
   have ho4:w38.cell? ⟨wr.heap.size,4,none⟩=some (.int .u64 x.f3.f1):=(blk_cell (blk_below hbo hb) 4).trans rfl
   have ho5:w38.cell? ⟨wr.heap.size,5,none⟩=some (.bool x.f4):=(blk_cell (blk_below hbo hb) 5).trans rfl
   have HB3:=As hb3
   clear hbo hba hb hb3 HMK hcp1 hx0 hx1 hx2 hx3 hx4 hx5
   dsimp only
   cases b with
   |false=>
    go_wp2_with (fail)
    go_roundw
    case rel=>exact⟨i + 1,by go_num,⟨hlt⟩,⟨below_step HB.out HB3.out⟩⟩
    case measure=>simp[intOf];omega
   |true=>
    go_wp2_with (fail)
    refine (HRF.out w38 HB3.out).mono ?_
    rintro e w43 ⟨rfl,hb⟩
    have HB4:=As (below_step HB3.out hb)
    clear hb
    dsimp only
    go_wp2_with (fail)
    go_roundw
    case rel=>exact⟨i + 1,by go_num,⟨hlt⟩,⟨below_step HB.out HB4.out⟩⟩
    case measure=>simp[intOf];omega
  ·have hnl:decide (i < os.length)=false:=decide_eq_false hlt
   have hcp1:=keepc HB.out hcp
   have hs3:=Z.c3 HM2.out.blk
   have hs31:=keepc HB.out hs3
   have HM3:=As (HM2.out.below HB.out)
   have HB3:=As (below_step HB2.out HB.out)
   have HBZ3:=As (blk_below HBZ2.out HB.out)
   have HBP3:=As (blk_below HBP2.out HB.out)
   have HBB3:=As (below_step HBB2.out HB.out)
   clear hcp hs0 hs4 hs3 HM2 HB2 HBZ2 HBP2 HHAS HBD HFZ HFEW HSW HB HBB2 hsbl hgpl HB3
   go_wp2_with (fail)
   go_loopw [57] (fun v57 wr=>∃i:Nat,v57=.int .i64 (i:Int)∧Aside0 (i≤xs.length)∧Aside0 (Mine wr P w2.heap.size sb gw cw A2' A5 c2' c5 (.slice A3' xs.length c3') ws us ((xs.take i).map xUn ++ xs.drop i) os)∧Aside0 (wr.heap[gp]? =some (.cells #[.pointer (some ⟨sb,0,none⟩)] 75 (0,0)))∧Aside0 (wr.heap[w.heap.size + 1]? =some (.cells #[.slice none 0 0,.int .i64 0,.slice none 0 0,.slice none 0 0] 34 (0,0)))∧Aside0 (Below w2.heap.size w2 wr)) (fun v57 _=>xs.length - (intOf v57).toNat)
   case atStart=>exact⟨0,rfl,⟨Nat.zero_le _⟩,⟨HM3.out⟩,HBP3,HBZ3,HBB3⟩
   case round=>
    clear HM3 HBP3 HBZ3 HBB3 hcp1 hs31
    obtain⟨i,rfl,HI,HMq,HBP,HBZ,HBB⟩:=hrel
    have hxl:xs.length≤29:=by have:=HR.out.good.len;have:=HR.out.xl;omega
    have hcp:=Z.c0 HBP.out
    by_cases hlt:i < xs.length
    ·have hyl:=un_len xs (Nat.le_of_lt hlt)
     have hyi:=un_get xs hlt
     have hset:=un_set xs hlt
     obtain⟨ys,hys⟩:∃ys,ys=(xs.take i).map xUn ++ xs.drop i:=⟨_,rfl⟩
     rw[←hys] at hyl hyi hset HMq
     obtain⟨x,hx⟩:∃x,x=xs[i]:=⟨_,rfl⟩
     rw[←hx] at hyi hset
     clear hx hys
     obtain⟨gs,cs,e3, -⟩:=Kd.N_form HMq.out.m3 (by rw[hyl];exact Nat.lt_of_le_of_lt (Nat.zero_le i) hlt)
     injection e3 with e3 _ e3c
     subst e3
     have e3c:=e3c.symm
     subst e3c
     have hgps:some gp≠(Value.slice (some ⟨gs,0,none⟩) xs.length cs).ownBlock:=Kd.N_ne HMq.out.m3 HBP.out (by decide)
     have hzs:some (w.heap.size + 1)≠(Value.slice (some ⟨gs,0,none⟩) xs.length cs).ownBlock:=Kd.N_ne HMq.out.m3 HBZ.out (by decide)
     have HNE:=As (And.intro hgps hzs)
     obtain⟨A4,c4,A6,c6,l4,hF4,l6,hF6,hcc,hfr⟩:=elem51 HMq.out.m3 hlt hyi
     have HFK:=As (fk51_mk (xUn x) l4 hF4 l6 hF6)
     have HCC:=As hcc
     have HSET:=As hset
     have hs3:=Z.c3 HMq.out.blk
     have hltd:(i < xs.length)=True:=eq_true hlt
     clear hF4 hF6 hcc hfr hgps hzs hset hyl hyi
     go_wp2_with ((with_reducible refine gate_store (t:=4) (p:=67) rfl ?_);refine Kd.N_store k51 (w0:=w2) (g:=gs) (n:=xs.length) (cap:=cs) (o':=i * 8 + 7) w2.heap.size rfl rfl 4 (.tmp 67) (.const (.bool false)) rfl 51 (i:Int) 7 ys (xUn x) (.bool false) [.bool false] [.int .i64 x.f0,.int .i64 x.f1,.int .i64 x.f2,.int .i64 x.f3.f0,.slice A4 x.f3.f1.length c4,.int .i64 x.f4.f0,.slice A6 x.f4.f1.length c6,.bool x.f5] (fun k=>(P k∨w2.heap.size≤k)∧k≠sb∧k≠gw) (fun k=>((P k∨w2.heap.size≤k)∧k≠sb∧k≠gw)∧k≠gs) rfl rfl rfl rfl (by kernel_rfl) (by simp[Value.oneCell']) HMq.out.m3 (Int.natCast_nonneg i) (Int.ofNat_lt.2 hlt) rfl HCC.out (show 7 + 1≤8 by decide) HFK.out (fun k hk=>hk) HBB.out ?_;intro w1 hn hb hg;rw[Int.toNat_natCast,HSET.out] at hn;have HM5:=As (HMq.out.grown hg hn);have HBB5:=As hb;have HBP5:=As (blk_grown HBP.out hg HNE.out.1);have HBZ5:=As (blk_grown HBZ.out hg HNE.out.2);clear hn hb hg)
     go_roundw
     case rel=>exact⟨i + 1,by go_num,⟨hlt⟩,HM5,HBP5,HBZ5,HBB5⟩
     case measure=>simp[intOf];omega
    ·have hnl:decide (i < xs.length)=false:=decide_eq_false hlt
     have hi:i=xs.length:=Nat.le_antisymm HI.out (Nat.not_lt.1 hlt)
     have hmq:=HMq.out
     rw[hi,List.take_length,List.drop_length,List.append_nil] at hmq
     have HMx:=As hmq
     clear hmq HMq hi
     have hs0:=Z.c0 HMx.out.blk
     have hs1:=Z.c1 HMx.out.blk
     have hs2:=Z.c2 HMx.out.blk
     have hs3:=Z.c3 HMx.out.blk
     have hz0:wr.cell? ⟨(w.heap.size+1),0,none⟩=some (.slice none 0 0):=(blk_cell HBZ.out 0).trans rfl
     have hz1:wr.cell? ⟨(w.heap.size+1),1,none⟩=some (.int .i64 0):=(blk_cell HBZ.out 1).trans rfl
     have hz2:wr.cell? ⟨(w.heap.size+1),2,none⟩=some (.slice none 0 0):=(blk_cell HBZ.out 2).trans rfl
     have hz3:wr.cell? ⟨(w.heap.size+1),3,none⟩=some (.slice none 0 0):=(blk_cell HBZ.out 3).trans rfl
     have hf0:=blk_frozen HBZ.out 0
     have hf1:=blk_frozen HBZ.out 1
     have hf2:=blk_frozen HBZ.out 2
     have hf3:=blk_frozen HBZ.out 3
     go_wp2_with (fail)
     have hres:=(blk_put (cs:=#[.slice (some ⟨gw,0,none⟩) ws.length cw,.int .i64 30,.slice A2' us.length c2',.slice none 0 0]) (cs':=#[.slice (some ⟨gw,0,none⟩) ws.length cw,.int .i64 30,.slice A2' us.length c2',.slice A3' xs.length c3']) (blk_put (cs:=#[.slice (some ⟨gw,0,none⟩) ws.length cw,.int .i64 30,.slice none 0 0,.slice none 0 0]) (cs':=#[.slice (some ⟨gw,0,none⟩) ws.length cw,.int .i64 30,.slice A2' us.length c2',.slice none 0 0]) (blk_put (cs:=#[.slice (some ⟨gw,0,none⟩) ws.length cw,.int .i64 0,.slice none 0 0,.slice none 0 0]) (cs':=#[.slice (some ⟨gw,0,none⟩) ws.length cw,.int .i64 30,.slice none 0 0,.slice none 0 0]) (blk_put (cs:=#[.slice none 0 0,.int .i64 0,.slice none 0 0,.slice none 0 0]) (cs':=#[.slice (some ⟨gw,0,none⟩) ws.length cw,.int .i64 0,.slice none 0 0,.slice none 0 0]) HBZ.out 0 (.slice (some ⟨gw,0,none⟩) ws.length cw) rfl) 1 (.int .i64 30) rfl) 2 (.slice A2' us.length c2') rfl) 3 (.slice A3' xs.length c3') rfl)
     (try simp only[Exit.inBlock,Exit.then])
     refine bodyPost_ret (results_list (rs:=[.cell 2 34,.tmp 3]) rfl (by simp) (.cell (w.heap.size+1) 34 #[.slice (some ⟨gw,0,none⟩) ws.length cw,.int .i64 30,.slice A2' us.length c2',.slice A3' xs.length c3'] (0,0) _ rfl hres Tryz.underlying34 rfl (by kernel_rfl) (.tmp .nil))) rfl ?_
     have HB:=As (below_step HB00.out HBB.out)
     exact⟨_,rfl,(by with_reducible repeat (first|exact HB.out|(refine below_set ?_ ?_;rotate_left;exact Nat.le_succ _))),((HMx.out.far4 (fun h=>Nat.not_lt.2 (Nat.le_succ _) (HPL.out _ h)) hgz _ _ _ _).is HR.out.un).mono (fun k hk=>hk.imp id (fun h=>Nat.le_trans HB00.out.size h))⟩
end Go.Proofs.YtmmfchnbfnegnaaGreatDoor.K
end
