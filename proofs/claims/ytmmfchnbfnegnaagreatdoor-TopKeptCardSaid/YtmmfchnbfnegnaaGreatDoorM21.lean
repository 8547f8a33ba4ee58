import Derived.Test.YtmmfchnbfnegnaaGreatDoorM20
import Derived.Test.YtmmfchnbfnegnaaGreatDoorM17
import Derived.Test.YtmmfchnbfnegnaaGreatDoorM03
import Derived.Test.YtmmfchnbfnegnaaGreatDoorM04
import Derived.Test.YtmmfchnbfnegnaaGreatDoorM13
import Derived.Test.YtmmfchnbfnegnaaGreatDoorM19
section
namespace Go.Proofs.YtmmfchnbfnegnaaGreatDoor.K
open Go.RowKit Go.Proofs.YtmmfchnbfnegnaaGreatDoorW.PrintWords Go.Proofs.YtmmfchnbfnegnaaGreatDoorW.PrintLast Go.Proofs.YtmmfchnbfnegnaaGreatDoorW.PrintMore Go.Proofs.YtmmfchnbfnegnaaGreatDoor.GK Go.Proofs.YtmmfchnbfnegnaaGreatDoor.Pu Go.Proofs.YtmmfchnbfnegnaaGreatDoor.PuBitW Go.Proofs.YtmmfchnbfnegnaaGreatDoor.PuBits
set_option linter.unusedVariables false
set_option linter.unusedSimpArgs false
section
variable {P:Program} {ops:Array Oper} {o:Oper} {a:Act} {Q:Exit→Act→World→Prop} {W:World}
theorem clear_step {w':World} {K:Act→World→Prop} {E:Prop} (hg:o.guard=none) (hN:o.dst=none) (x:Operand) (t:TypeId) (ho:o.op=.call {callee:=.builtin .clear,args:=#[x],argTypes:=#[t]}) (v:Value) (hx:a.eval x=v)
  (hr:∀ty,(Builtin.clear_ #[t] ty #[v]).run P W=.ok (.tuple #[]) w') (h:K a w'):if Region.wanted o (yielded ops a.tmps)=true then Oper.wp P o a W K Q else E:=by
 have hw:Region.wanted o (yielded ops a.tmps)=true:=by simp[Region.wanted,hg]
 rw[if_pos hw]
 unfold Oper.wp
 simp[execOp,ho,resolve,invoke,builtin,hx,hr,Result.andThen]
 show K (a.put o.dst (.tuple #[])) w'
 rw[hN]
 exact h
end
theorem zero_list (m:Nat):(Builtin.zeroCells #[.int .u64 0] m).toList=List.replicate m (.int .u64 0):=by
 apply List.ext_getElem?
 intro i
 simp only[Builtin.zeroCells,Array.toList_map,List.getElem?_map,List.getElem?_replicate]
 by_cases h:i < m
 ·rw[if_pos h]
  have:(Array.range (m * #[Value.int .u64 0].size)).toList[i]? =some i:=by simp[h]
  rw[this]
  simp[Nat.mod_one]
 ·rw[if_neg h]
  have:(Array.range (m * #[Value.int .u64 0].size)).toList[i]? =none:=by simp;omega
  rw[this];rfl
theorem words_clear {W:World} {base gw n c:Nat} {ok:Nat→Prop} {ws:List Int} (h:Kd.R (Kd.int .u64) 39 W base ok (.slice (some ⟨gw,0,none⟩) n c) ws) {a m:Nat} (ham:a + m≤ws.length) (hm:0 < m) (c':Nat):
  ∃w1,(∀ty,(Builtin.clear_ #[25] ty #[.slice (some ⟨gw,a,none⟩) m c']).run Tryz.prog W=.ok (.tuple #[]) w1)∧W.grownBy w1 (some gw)∧Kd.R (Kd.int .u64) 39 w1 base ok (.slice (some ⟨gw,0,none⟩) n c) (ws.take a ++ List.replicate m 0 ++ ws.drop (a + m)):=by
 have hok:=h.1
 have hn:=(Kd.R_reads' h).1
 obtain⟨h1,h2⟩:=Kd.own_of_R h
 rcases h2 with⟨hv,_⟩|⟨g',cap',cur,hv,hb,hh,hnc,hcm,hcs,ht⟩
 ·cases hv
 injection hv with ha hn' hc
 injection ha with ha
 injection ha with hg
 subst hg;subst hc
 have hfit:a + m * 1≤cur.size:=by rw[hcs];omega
 have hrun:=fun ty=>clear_run (P:=Tryz.prog) (W:=W) (t:=25) (e:=39) (z:=.int .u64 0) Tryz.underlying25 Tryz.zeroValue39 (by simp[Value.cells,Value.oneCell']) (g:=gw) (off:=a) (n:=m) (c:=c') hm hh hfit ty
 refine⟨_,hrun,setRow_grown _ _ _,Kd.R_of_own ⟨?_,.inr ⟨gw,c,_,?_,hb,setRow_heap W gw cur _ _ _ hh,?_,hcm,?_,?_⟩⟩ hok⟩
 ·rw[encs_length];simp
 ·rw[hn];congr 1;simp;omega
 ·simp;omega
 ·have:(Value.cells (.int .u64 0))=#[.int .u64 0]:=rfl
  rw[this,zero_list]
  simp[hcs]
  omega
 ·have e0:(Value.cells (.int .u64 0))=#[.int .u64 0]:=rfl
  rw[e0,zero_list]
  have hcur:∀q,q < ws.length→cur.toList[q]? =(encs (Value.int .u64) ws)[q]? :=fun q hq=>by
   rw[←ht,List.getElem?_take,if_pos (by omega)]
  apply List.ext_getElem?
  intro q
  have hl1:(cur.toList.take a).length=a:=by rw[List.length_take,Array.length_toList,hcs];omega
  have hl2:(ws.take a).length=a:=by rw[List.length_take];omega
  have hl3:((ws.take a ++ List.replicate m 0) ++ ws.drop (a + m)).length=ws.length:=by simp;omega
  rw[List.getElem?_take,hl3]
  simp only[encs,List.map_append,List.map_take,List.map_drop,List.map_replicate]
  by_cases hq:q < ws.length * 1
  ·rw[if_pos hq]
   have hl4:((ws.map (Value.int .u64)).take a).length=a:=by rw[List.length_take,List.length_map];omega
   rw[List.append_assoc,List.append_assoc,List.getElem?_append (l₁:=cur.toList.take a),List.getElem?_append (l₁:=(ws.map (Value.int .u64)).take a),hl1,hl4]
   by_cases c1:q < a
   ·rw[if_pos c1,if_pos c1,List.getElem?_take,List.getElem?_take,if_pos c1,if_pos c1,hcur q (by omega)];rfl
   ·rw[if_neg c1,if_neg c1,List.getElem?_append,List.getElem?_append,List.length_replicate]
    by_cases c2:q - a < m
    ·rw[if_pos c2,if_pos c2]
    ·rw[if_neg c2,if_neg c2,List.getElem?_drop,List.getElem?_drop]
     show cur.toList[a + m * 1 + (q - a - m)]? =_
     rw[show a + m * 1 + (q - a - m)=q by omega,show a + m + (q - a - m)=q by omega,hcur q (by omega)];rfl
  ·rw[if_neg hq]
   symm
   apply List.getElem?_eq_none
   simp
   omega
structure MineP (w:World) (P:Nat→Prop) (B sb gw cw:Nat) (A2 A5:Option Addr) (c2 c5:Nat) (v3:Value) (ws us:List Int) (xs:List S51) (os:List S92):Prop where
 hsb:B≤sb
 hgw:B≤gw
 ne:gw≠sb
 blk:w.heap[sb]? =some (.cells #[.slice (some ⟨gw,0,none⟩) ws.length cw,.int .i64 30,.slice A2 us.length c2,v3,.slice A5 os.length c5] 81 (0,0))
 m1:Kd.R (Kd.int .u64) 39 w B (fun k=>k=gw) (.slice (some ⟨gw,0,none⟩) ws.length cw) ws
 m2:Kd.F (Kd.int .u64) w (fun k=>P k∧k≠sb∧k≠gw∧some k≠v3.ownBlock) A2 us.length us
 l2:us.length≤c2
 m3:Kd.N k51 51 w B (fun k=>P k∧k≠sb∧k≠gw) v3 xs
 m5:Kd.F k92 w (fun k=>P k∧k≠sb∧k≠gw∧some k≠v3.ownBlock) A5 os.length os
 l5:os.length≤c5
section
variable {w w1:World} {P P':Nat→Prop} {L:Nat→Prop} {B sb gw cw gs cs:Nat} {A2 A5:Option Addr} {c2 c5 n3:Nat} {v3:Value} {ws us:List Int} {xs ys:List S51} {os:List S92}
theorem Mine.toP (h:Mine w L B sb gw cw A2 A5 c2 c5 v3 ws us xs os):MineP w (fun k=>L k∨B≤k) B sb gw cw A2 A5 c2 c5 v3 ws us xs os:=⟨h.hsb,h.hgw,h.ne,h.blk,h.m1,h.m2,h.l2,h.m3,h.m5,h.l5⟩
theorem MineP.mono (h:MineP w P B sb gw cw A2 A5 c2 c5 v3 ws us xs os) (hp:∀k,P k→P' k):MineP w P' B sb gw cw A2 A5 c2 c5 v3 ws us xs os:=⟨h.hsb,h.hgw,h.ne,h.blk,h.m1,Kd.F_mono h.m2 (fun k hk=>⟨hp k hk.1,hk.2⟩),h.l2,Kd.N_mono h.m3 (fun k hk=>⟨hp k hk.1,hk.2⟩),Kd.F_mono h.m5 (fun k hk=>⟨hp k hk.1,hk.2⟩),h.l5⟩
theorem MineP.toM (h:MineP w (fun k=>(L k∨B≤k)∧P k) B sb gw cw A2 A5 c2 c5 v3 ws us xs os):Mine w L B sb gw cw A2 A5 c2 c5 v3 ws us xs os:=
 have h:=h.mono (P':=fun k=>L k∨B≤k) (fun k hk=>hk.1)
 ⟨h.hsb,h.hgw,h.ne,h.blk,h.m1,h.m2,h.l2,h.m3,h.m5,h.l5⟩
theorem MineP.below (h:MineP w P B sb gw cw A2 A5 c2 c5 v3 ws us xs os) (hb:Below w.heap.size w w1):MineP w1 P B sb gw cw A2 A5 c2 c5 v3 ws us xs os:=
 ⟨h.hsb,h.hgw,h.ne,blk_below h.blk hb,Kd.R_below h.m1 hb,Kd.F_below h.m2 hb,h.l2,Kd.N_below h.m3 hb,Kd.F_below h.m5 hb,h.l5⟩
theorem MineP.sbs (h:MineP w P B sb gw cw A2 A5 c2 c5 v3 ws us xs os):some sb≠v3.ownBlock:=Kd.N_ne h.m3 h.blk (by decide)
theorem MineP.gws (h:MineP w P B sb gw cw A2 A5 c2 c5 v3 ws us xs os):some gw≠v3.ownBlock:=by
 obtain⟨cells,hc⟩:=Kd.R_typed h.m1 gw (by simp[Value.ownBlock])
 exact Kd.N_ne h.m3 hc (by decide)
theorem MineP.gwl (h:MineP w P B sb gw cw A2 A5 c2 c5 v3 ws us xs os):gw < w.heap.size:=Kd.R_lt h.m1 gw (by simp[Value.ownBlock])
theorem MineP.grown (h:MineP w P B sb gw cw A2 A5 c2 c5 v3 ws us xs os) (hg:w.grownBy w1 v3.ownBlock) (hn:Kd.N k51 51 w1 B (fun k=>P k∧k≠sb∧k≠gw) v3 ys):MineP w1 P B sb gw cw A2 A5 c2 c5 v3 ws us ys os:=
 ⟨h.hsb,h.hgw,h.ne,blk_grown h.blk hg h.sbs,Kd.R_grown h.m1 hg (fun k hk=>hk▸h.gws),Kd.F_grown h.m2 hg (fun k hk=>hk.2.2.2),h.l2,hn,Kd.F_grown h.m5 hg (fun k hk=>hk.2.2.2),h.l5⟩
theorem MineP.words {ws':List Int} (h:MineP w P B sb gw cw A2 A5 c2 c5 v3 ws us xs os) (hl:ws'.length=ws.length) (hg:w.grownBy w1 (some gw)) (hr:Kd.R (Kd.int .u64) 39 w1 B (fun k=>k=gw) (.slice (some ⟨gw,0,none⟩) ws.length cw) ws'):MineP w1 P B sb gw cw A2 A5 c2 c5 v3 ws' us xs os:=by
 refine⟨h.hsb,h.hgw,h.ne,?_,?_,Kd.F_grown h.m2 hg (fun k hk e=>hk.2.2.1 (Option.some.inj e)),h.l2,Kd.N_grown h.m3 hg (fun k hk e=>hk.2.2 (Option.some.inj e)),Kd.F_grown h.m5 hg (fun k hk e=>hk.2.2.1 (Option.some.inj e)),h.l5⟩
 ·rw[hl];exact blk_grown h.blk hg (fun e=>h.ne (Option.some.inj e).symm)
 ·rw[hl];exact hr
theorem MineP.after {u u1:Value} (h:MineP w (fun k=>P k∧some k≠u.ownBlock) B sb gw cw A2 A5 c2 c5 v3 ws us xs os) (hsu:some sb≠u.ownBlock) (hgu:some gw≠u.ownBlock) (hg:w.grownBy w1 u.ownBlock) (hat:u1.ownBlock=u.ownBlock∨∃b,u1.ownBlock=some b∧w.heap.size≤b):MineP w1 (fun k=>P k∧some k≠u1.ownBlock) B sb gw cw A2 A5 c2 c5 v3 ws us xs os:=by
 have sw:∀{A:Option Addr} {n:Nat} {α:Type} {d:Kd α} {zs:List α} {R:Nat→Prop},Kd.F d w (fun k=>(P k∧some k≠u.ownBlock)∧R k) A n zs→Kd.F d w1 (fun k=>(P k∧some k≠u1.ownBlock)∧R k) A n zs:=fun {A n α d zs R} hf=>
  Kd.F_mono (Kd.F_after (ok:=fun k=>P k∧R k) (Kd.F_mono hf (fun k hk=>⟨⟨hk.1.1,hk.2⟩,hk.1.2⟩)) hg hat) (fun k hk=>⟨⟨hk.1.1,hk.2⟩,hk.1.2⟩)
 refine⟨h.hsb,h.hgw,h.ne,blk_grown h.blk hg hsu,Kd.R_grown h.m1 hg (fun k hk=>hk▸hgu),sw h.m2,h.l2,?_,sw h.m5,h.l5⟩
 exact Kd.N_mono (Kd.N_after (ok:=fun k=>P k∧k≠sb∧k≠gw) (Kd.N_mono h.m3 (fun k hk=>⟨⟨hk.1.1,hk.2⟩,hk.1.2⟩)) hg hat) (fun k hk=>⟨⟨hk.1.1,hk.2⟩,hk.1.2⟩)
theorem MineP.pages {us':List Int} {B2:Option Addr} {d2:Nat} (h:MineP w P B sb gw cw A2 A5 c2 c5 v3 ws us xs os) (hf:Kd.F (Kd.int .u64) w (fun k=>P k∧k≠sb∧k≠gw∧some k≠v3.ownBlock) B2 us'.length us') (hd:us'.length≤d2):MineP ((w.setCell ⟨sb,1,none⟩ (.int .i64 30)).setCell ⟨sb,2,none⟩ (.slice B2 us'.length d2)) P B sb gw cw B2 A5 d2 c5 v3 ws us' xs os:=by
 refine⟨h.hsb,h.hgw,h.ne,?_,Kd.R_far (p:=⟨sb,2,none⟩) (Kd.R_far (p:=⟨sb,1,none⟩) h.m1 (fun k hk=>hk▸h.ne) _) (fun k hk=>hk▸h.ne) _,Kd.F_far (p:=⟨sb,2,none⟩) (Kd.F_far (p:=⟨sb,1,none⟩) hf (fun k hk=>hk.2.1) _) (fun k hk=>hk.2.1) _,hd,Kd.N_far (p:=⟨sb,2,none⟩) (Kd.N_far (p:=⟨sb,1,none⟩) h.m3 (fun k hk=>hk.2.1) _) (fun k hk=>hk.2.1) _,Kd.F_far (p:=⟨sb,2,none⟩) (Kd.F_far (p:=⟨sb,1,none⟩) h.m5 (fun k hk=>hk.2.1) _) (fun k hk=>hk.2.1) _,h.l5⟩
 exact blk_put (cs:=#[.slice (some ⟨gw,0,none⟩) ws.length cw,.int .i64 30,.slice A2 us.length c2,v3,.slice A5 os.length c5]) (cs':=#[.slice (some ⟨gw,0,none⟩) ws.length cw,.int .i64 30,.slice B2 us'.length d2,v3,.slice A5 os.length c5]) (blk_put (cs:=#[.slice (some ⟨gw,0,none⟩) ws.length cw,.int .i64 30,.slice A2 us.length c2,v3,.slice A5 os.length c5]) (cs':=#[.slice (some ⟨gw,0,none⟩) ws.length cw,.int .i64 30,.slice A2 us.length c2,v3,.slice A5 os.length c5]) h.blk 1 (.int .i64 30) rfl) 2 (.slice B2 us'.length d2) rfl
theorem MineP.spans {v3':Value} (h:MineP w P B sb gw cw A2 A5 c2 c5 v3 ws us xs os) (hb:Below w.heap.size w w1) (hB:B≤w.heap.size) (hn:Kd.N k51 51 w1 w.heap.size (fun k=>P k∧k≠sb∧k≠gw) v3' ys):MineP (w1.setCell ⟨sb,3,none⟩ v3') P B sb gw cw A2 A5 c2 c5 v3' ws us ys os:=by
 have hvb:=Kd.N_base hn
 have hne:∀k,k < w.heap.size→some k≠v3'.ownBlock:=fun k hk e=>absurd (hvb k e.symm) (Nat.not_le.2 hk)
 refine⟨h.hsb,h.hgw,h.ne,?_,Kd.R_far (p:=⟨sb,3,none⟩) (Kd.R_below h.m1 hb) (fun k hk=>hk▸h.ne) _,?_,h.l2,Kd.N_lower (Kd.N_far (p:=⟨sb,3,none⟩) hn (fun k hk=>hk.2.1) _) hB,?_,h.l5⟩
 ·exact blk_put (cs:=#[.slice (some ⟨gw,0,none⟩) ws.length cw,.int .i64 30,.slice A2 us.length c2,v3,.slice A5 os.length c5]) (cs':=#[.slice (some ⟨gw,0,none⟩) ws.length cw,.int .i64 30,.slice A2 us.length c2,v3',.slice A5 os.length c5]) (blk_below h.blk hb) 3 v3' rfl
 ·exact Kd.F_mono (Kd.F_far (p:=⟨sb,3,none⟩) (Kd.F_below (Kd.F_bound h.m2) hb) (fun k hk=>hk.1.2.1) _) (fun k hk=>⟨hk.1.1,hk.1.2.1,hk.1.2.2.1,hne k hk.2⟩)
 ·exact Kd.F_mono (Kd.F_far (p:=⟨sb,3,none⟩) (Kd.F_below (Kd.F_bound h.m5) hb) (fun k hk=>hk.1.2.1) _) (fun k hk=>⟨hk.1.1,hk.1.2.1,hk.1.2.2.1,hne k hk.2⟩)
end
end Go.Proofs.YtmmfchnbfnegnaaGreatDoor.K
end
section
namespace Go.Proofs.YtmmfchnbfnegnaaGreatDoor.K
open Go.RowKit Go.Proofs.YtmmfchnbfnegnaaGreatDoorW.PrintWords Go.Proofs.YtmmfchnbfnegnaaGreatDoorW.PrintLast Go.Proofs.YtmmfchnbfnegnaaGreatDoorW.PrintMore Go.Proofs.YtmmfchnbfnegnaaGreatDoor.GK Go.Proofs.YtmmfchnbfnegnaaGreatDoor.Pu Go.Proofs.YtmmfchnbfnegnaaGreatDoor.PuBitW Go.Proofs.YtmmfchnbfnegnaaGreatDoor.PuBits Go.Proofs.YtmmfchnbfnegnaaGreatDoor.PuBitsLay Go.Proofs.YtmmfchnbfnegnaaGreatDoor.PuBitsPutL
set_option linter.unusedVariables false
set_option linter.unusedSimpArgs false
attribute [local go_sem] max2_int min2_int max_two min_two max_three min_three max_four min_four
theorem goneS_len (i:Nat) (l:List S92):(goneS i l).length≤l.length:=by
 unfold goneS
 rw[List.length_map]
 exact List.length_filter_le _ _
theorem N_set2 {W:World} {B gs n cs:Nat} {ok okp:Nat→Prop} {xs:List S51} (h:Kd.N k51 51 W B ok (.slice (some ⟨gs,0,none⟩) n cs) xs) {i:Nat} (hi:i < n) {c:List Value} {u v:Value} {j:Nat} (hcl:c.length=8) (hcc:∀j u,c[j]? =some u→W.cell? ⟨gs,i * 8 + j,none⟩=some u) (hj:j + 2≤8) {x':S51} (hM:Kd.FK k51 W okp x' (c.take j ++ [u,v] ++ c.drop (j + 2))) (hokp:∀k,okp k→ok k∧k≠gs):
  Kd.N k51 51 ((W.setCell ⟨gs,i * 8 + j,none⟩ u).setCell ⟨gs,i * 8 + j + 1,none⟩ v) B ok (.slice (some ⟨gs,0,none⟩) n cs) (xs.set i x')∧W.grownBy ((W.setCell ⟨gs,i * 8 + j,none⟩ u).setCell ⟨gs,i * 8 + j + 1,none⟩ v) (some gs):=by
 have h1:=Kd.N_seg h (i:Int) (Int.natCast_nonneg i) (Int.ofNat_lt.2 hi) (c:=c) (seg:=[u,v]) (j:=j) (x':=x') (okp:=okp) hcl (by rw[Int.toNat_natCast];exact hcc) hj hM hokp
 rw[Int.toNat_natCast] at h1
 exact h1
set_option maxHeartbeats 3000000 in
set_option maxRecDepth 100000 in
theorem hpClean (ps:List Sp) (A1 A2 A3:Option Addr) (c1 c2 c3:Nat) (ws us:List Int) (xs:List S51) (w:World) (hr:HRel ps ws us xs) (hm:HMem w A1 A2 A3 c1 c2 c3 ws us xs) (P:Nat→Prop) (hf3:Kd.F k51 w P A3 xs.length xs) (hP:∀k,P k→k < w.heap.size) (hT:TzOk w) (i:Nat) (p:Sp) (hp:ps[i]? =some p) (hs:p.swept=false):
  Calls Tryz.prog 9 #[.agg #[.slice A1 ws.length c1,.int .i64 30,.slice A2 us.length c2,.slice A3 xs.length c3],.int .i64 (p.first:Int)] w fun e w'=>
   ∃(g:Value) (A:Option Addr) (c:Nat) (gone:List Int) (ps':List Sp),e=.returned (.tuple #[g,.slice A gone.length c,.int .i64 0])∧gone.length≤c∧Kd.C (Kd.int .u64) w' A gone.length gone∧Below w.heap.size w w'∧HpIs (fun k=>P k∨w.heap.size≤k) w' g ps'∧Cl ps ps' p gone:=by
 have hue:=Tryz.underlying81
 have hu34:=Tryz.underlying34
 have hu51:=Tryz.underlying51
 have hu92:=Tryz.underlying92
 have hu29:=Tryz.underlying29
 have hu27:=Tryz.underlying27
 have hu31:=Tryz.underlying31
 have hu41:=Tryz.underlying41
 have HM:=As hm
 have HR:=As hr
 have HT:=As hT
 have HP:=As hp
 have HS:=As hs
 have HF3:=As hf3
 have HPL:=As hP
 clear hm hr hT hp hs hf3 hP
 go_enter Tryz.func9,Tryz.ntmps9
 go_wp2_with (fail)
 have hbf:=blk_alloc (blk_new (w.alloc (Obj.cells #[.slice A1 ws.length c1,.int .i64 30,.slice A2 us.length c2,.slice A3 xs.length c3] 34)) (Obj.cells #[.int .i64 (p.first:Int)] 3)) (Obj.cells #[.slice none 0 0,.int .i64 0,.slice none 0 0,.slice none 0 0] 34)
 have hbz:=blk_new ((w.alloc (Obj.cells #[.slice A1 ws.length c1,.int .i64 30,.slice A2 us.length c2,.slice A3 xs.length c3] 34)).alloc (Obj.cells #[.int .i64 (p.first:Int)] 3)) (Obj.cells #[.slice none 0 0,.int .i64 0,.slice none 0 0,.slice none 0 0] 34)
 have hb0:=below_alloc (below_alloc (below_alloc (Below.refl w.heap.size w) (Obj.cells #[.slice A1 ws.length c1,.int .i64 30,.slice A2 us.length c2,.slice A3 xs.length c3] 34)) (Obj.cells #[.int .i64 (p.first:Int)] 3)) (Obj.cells #[.slice none 0 0,.int .i64 0,.slice none 0 0,.slice none 0 0] 34)
 rw[World.size_alloc] at hbf
 rw[World.size_alloc,World.size_alloc] at hbz
 refine (hpMine ps A1 A2 A3 c1 c2 c3 ws us xs w _ HR.out HM.out hb0 P HF3.out HPL.out).mono ?_
 generalize ((w.alloc (Obj.cells #[.slice A1 ws.length c1,.int .i64 30,.slice A2 us.length c2,.slice A3 xs.length c3] 34)).alloc (Obj.cells #[.int .i64 (p.first:Int)] 3)).alloc (Obj.cells #[.slice none 0 0,.int .i64 0,.slice none 0 0,.slice none 0 0] 34)=w3 at hbf hbz hb0 ⊢
 rintro e w18 ⟨sb,gw,cw,A2',A5,c2',c5,v3,rfl,hM,hb⟩
 have hfew:(objsF 0 ps).length < 500000:=HR.out.good.few 0
 obtain⟨os,hos⟩:∃os,os=objsF 0 ps:=⟨_,rfl⟩
 rw[←hos] at hM hfew
 have HOS:=As hos
 clear hos
 have hil:i < xs.length:=by rw[HR.out.xl];exact (List.getElem?_eq_some_iff.1 HP.out).1
 obtain⟨gs,cs,rfl, -⟩:=Kd.N_form hM.m3 (Nat.lt_of_le_of_lt (Nat.zero_le i) hil)
 have HIL:=As hil
 have HM1:=As hM
 have HB00:=As hb0
 have HBB1:=As hb
 have HBF0:=As hbf
 have HBZ0:=As hbz
 have HT1:=As (TzOk.below HT.out (below_step hb0 hb))
 have hgz:=blk_lt hbz
 clear hM hb hb0 hbf hbz hil
 have hs3:=Z.c3 HM1.out.blk
 dsimp only
 go_wp2_with (fail)
 have hix:(xs[i]'(HIL.out)).f0=(p.first:Int)∧∀(j:Nat) (hj:j < i),(xs[j]'(Nat.lt_trans hj HIL.out)).f0≠(p.first:Int):=by
  have hil:=HIL.out
  refine⟨(HR.out.x i _ p (List.getElem?_eq_getElem hil) HP.out).f0,fun j hj e=>?_⟩
  have hjp:j < ps.length:=by have:=HR.out.xl;omega
  have h1:=(HR.out.x j _ _ (List.getElem?_eq_getElem (show j < xs.length by omega)) (List.getElem?_eq_getElem hjp)).f0
  have h2:=HR.out.good.firsts (List.getElem?_eq_getElem hjp) HP.out (by omega)
  omega
 refine (ixSpan (Kd.N_F HM1.out.m3) rfl fnClean1 (p.first:Int) i HIL.out hix.1 hix.2 (cap:=#[.pointer (some ⟨w.heap.size + 1,0,none⟩)]) (fun W' x hb hx=>by
  have h1:=snClean1 (w.heap.size + 1) (p.first:Int) x hx W' ((blk_cell (blk_below HBF0.out (below_step HBB1.out hb)) 0).trans rfl)
  simpa only[List.append_toArray,List.nil_append,List.cons_append] using h1)).mono ?_
 rintro e w31 ⟨rfl,hb⟩
 have HM2:=As (HM1.out.below hb)
 have HBB2:=As (below_step HBB1.out hb)
 have HT2:=As (TzOk.below HT1.out hb)
 clear hb hix hs3 HM1 HBB1 HT1
 obtain⟨x0,hx0⟩:∃x0,xs[i]? =some x0:=⟨_,List.getElem?_eq_getElem HIL.out⟩
 have hf5:x0.f5=false:=by rw[(HR.out.x i _ p hx0 HP.out).f5,HS.out]
 obtain⟨A4,c4,A6,c6, -, -, -, -,hcc, -⟩:=elem51 HM2.out.m3 HIL.out hx0
 have hx7:w31.cell? ⟨gs,i * 8 + 7,none⟩=some (.bool false):=by rw[←hf5];exact hcc 7 _ rfl
 have hs3:=Z.c3 HM2.out.blk
 have hs4:=Z.c4 HM2.out.blk
 have hltd:(i < xs.length)=True:=eq_true HIL.out
 clear hcc hf5 hx0
 dsimp only
 go_wp2_with (fail)
 go_loopw [10,65] (fun v10 v65 wr=>∃(j:Nat) (wsj:List Int) (xsj:List S51) (vg:Value),vg=v10∧v65=.int .i64 (j:Int)∧Aside0 (j≤os.length)∧Aside0 (MineP wr (fun k=>(P k∨w3.heap.size≤k)∧some k≠v10.ownBlock) w3.heap.size sb gw cw A2' A5 c2' c5 (.slice (some ⟨gs,0,none⟩) xs.length cs) wsj us xsj os)∧Aside0 (Kd.R (Kd.int .u64) 39 wr w3.heap.size (fun k=>k≠sb∧k≠gw∧k≠gs) v10 (goneS i (os.take j)))∧Aside0 (HRel (ps.set i (sweepS i (os.take j) p)) wsj us xsj)∧Aside0 (xsj.length=xs.length)∧Aside0 (Below w3.heap.size w3 wr)) (fun v10 v65 _=>os.length - (intOf v65).toNat)
 case atStart=>exact⟨0,ws,xs,_,rfl,rfl,⟨Nat.zero_le _⟩,⟨HM2.out.toP.mono (fun k hk=>⟨hk,by simp[Value.ownBlock]⟩)⟩,⟨Kd.R_nil _ _ _ _ _⟩,⟨by rw[show sweepS i (os.take 0) p=p from rfl,set_self HP.out];exact HR.out⟩,⟨rfl⟩,HBB2⟩
 case round=>
  clear HBB2 hx7 hs3 hs4
  obtain⟨j,wsj,xsj,v10,rfl,rfl,HJ,HMj,HGj,HRj,HXL,HBB⟩:=hrel
  by_cases hlt:j < os.length
  ·obtain⟨ad,eA,hx0,hx1,hx2,hx3,hx4,hx5⟩:=at_T92 (Kd.F_now HMj.out.m5) (j:Int) (by omega) (by omega)
   subst eA
   rw[Int.toNat_natCast] at hx0 hx1 hx2 hx3 hx4 hx5
   rw[rd92 hlt] at hx0 hx1 hx2 hx3 hx4 hx5
   have hxg:os[j]? =some os[j]:=List.getElem?_eq_getElem hlt
   obtain⟨x,hx⟩:∃x,x=os[j]:=⟨_,rfl⟩
   rw[←hx] at hx0 hx1 hx2 hx3 hx4 hx5 hxg
   clear hx
   have hltj:(j < os.length)=True:=eq_true hlt
   have HLT:=As hlt
   by_cases hgo:x.f0=(i:Int)∧x.f4=false
   ·obtain⟨y,hy⟩:∃y,xsj[i]? =some y:=⟨_,List.getElem?_eq_getElem (by rw[HXL.out];exact HIL.out)⟩
    obtain⟨k,o,e1,e2,e30,e31,hn48,hin,hyr,hks,hcl,hrel',hgone⟩:=HRel.sweep1 HR.out.good HOS.out HP.out hxg hgo.1 hgo.2 HRj.out hy
    rw[hgo.1] at hx0
    rw[e1] at hx1
    rw[e2] at hx2 hgone
    rw[e30] at hx3
    rw[e31] at hx4
    rw[hgo.2] at hx5
    obtain⟨a,ha⟩:∃a,a=p.ad k:=⟨_,rfl⟩
    rw[←ha] at hx2 hgone hin hcl hrel'
    obtain⟨q,hq⟩:=hyr.al.put hks false
    rw[←hyr.n3] at hq
    have hwl:wsj.length=480:=HRj.out.w.len
    have hcwl:=(Kd.R_reads' HMj.out.m1).2.1
    obtain⟨b,hb⟩:∃b:Nat,b=a + 1 + o.n:=⟨_,rfl⟩
    rw[show 1 + o.n=b - a by omega] at hcl
    have hbc:(b≤cw)=True:=eq_true (by omega)
    have hab:(a≤b)=True:=eq_true (by omega)
    have hca:(cw=a)=False:=eq_false (by omega)
    have HBA:=As (show a + (b - a)≤wsj.length∧0 < b - a from by omega)
    have hk1:IntKind.u64.wrap ((a:Int) + 1)=(a:Int) + 1:=wu64' (by omega) (by omega)
    have hk2:IntKind.u64.wrap (o.n:Int)=(o.n:Int):=wu64' (by omega) (by omega)
    have hk3:IntKind.u64.wrap ((a:Int) + 1 + (o.n:Int))=(b:Int):=by rw[wu64' (by omega) (by omega)];omega
    have hsbl:=blk_lt HMj.out.blk
    have hgwl:=HMj.out.gwl
    have hgsl:=Kd.N_lt HMj.out.m3 gs (by simp[Value.ownBlock])
    have HFR:=As (show ∀k,wr.heap.size≤k→k≠sb∧k≠gw∧k≠gs from fun k hk=>⟨by omega,by omega,by omega⟩)
    have HGL:=As (show ((goneS i (os.take j)).length + 1) * 8≤140737488355328 from by
     have h1:=goneS_len i (os.take j)
     rw[List.length_take] at h1
     omega)
    have hszB:=HBB.out.size
    have HREL:=As hrel'
    have HGONE:=As hgone
    have HCL:=As hcl
    have HYR:=As hyr
    have HQ:=As hq
    have HY:=As hy
    have HIN:=As (And.intro hin hwl)
    have hsu:some sb≠v10.ownBlock:=fun e=>(HGj.out.1 sb e.symm).1 rfl
    have hgu:some gw≠v10.ownBlock:=fun e=>(HGj.out.1 gw e.symm).2.1 rfl
    have HSU:=As (And.intro hsu hgu)
    have hbo:=blk_new wr (Obj.cells #[.int .i64 (i:Int),.int .i64 (k:Int),.int .u64 (a:Int),.int .i64 (o.n:Int),.int .u64 (o.m:Int),.bool false] 92)
    have HBO:=As hbo
    have HNO:=As (Kd.R_ne (Kd.R_alloc HGj.out _) hbo (by decide))
    clear hgo e1 e2 e30 e31 hn48 hin hyr hks hcl hrel' hgone hq hy hwl hcwl hsu hgu hbo ha hxg hb
    go_wp2_with ((with_reducible refine gate_builtin (b:=.append) (xs:=#[.tmp 78,.tmp 81]) rfl ?_);at_builtin;refine Kd.R_append (Kd.int .u64) (w0:=w3) w3.heap.size rfl (.tmp 78) (.tmp 81) 25 39 (.int .u64 0) 8 rfl Tryz.underlying25 info39 rfl (by decide) (by decide) _ (goneS i (os.take j)) (a:Int) [.int .u64 (a:Int)] (fun k=>k≠sb∧k≠gw∧k≠gs) (fun _=>False) rfl (by first|(go_simp;done)|(go_simp;rfl)) ?aP (fun _ hk=>hk.elim) ?aF ?aO ?aB ?aS HGL.out ?_;(case aP=>exact rfl);(case aF=>exact fun k hk=>HFR.out k (Nat.le_trans (by rw[World.size_alloc];exact Nat.le_succ _) hk));(case aO=>exact Kd.R_alloc HGj.out _);(case aB=>exact below_alloc HBB.out _);(case aS=>exact below_size (below_alloc HBB.out _));intro v82 w82 ho2 hb2 hg2 hat2;have HG82:=As ho2;have HB82:=As hb2;have HM82:=As ((HMj.out.below (below_alloc (Below.refl _ _) _)).after HSU.out.1 HSU.out.2 hg2 hat2);have HO82:=As (blk_grown HBO.out hg2 HNO.out);clear ho2 hb2 hg2 hat2)
    have hs0:w82.drew.cell? ⟨sb,0,none⟩=some (.slice (some ⟨gw,0,none⟩) wsj.length cw):=(blk_cell (blk_drew HM82.out.blk) 0).trans rfl
    have ho2:w82.drew.cell? ⟨wr.heap.size,2,none⟩=some (.int .u64 (a:Int)):=(blk_cell (blk_drew HO82.out) 2).trans rfl
    have ho3:w82.drew.cell? ⟨wr.heap.size,3,none⟩=some (.int .i64 (o.n:Int)):=(blk_cell (blk_drew HO82.out) 3).trans rfl
    refine start_ (n:=18) (S:=fun w'=>w'.cell? ⟨sb,0,none⟩=some (.slice (some ⟨gw,0,none⟩) wsj.length cw)∧w'.cell? ⟨wr.heap.size,2,none⟩=some (.int .u64 (a:Int))∧w'.cell? ⟨wr.heap.size,3,none⟩=some (.int .i64 (o.n:Int))) (ds:=[17]) #[false,false,false,false,false,false,false,false,false,false,false,false,false,false,false,false,false,false] (by kernel_rfl) rfl rfl ⟨hs0,ho2,ho3⟩ (fun hHeld=>?_)
    have HM83:=As (HM82.out.below (below_drew1 (Below.refl _ _)))
    have HG83:=As (Kd.R_below HG82.out (below_drew1 (Below.refl _ _)))
    have HO83:=As (blk_drew HO82.out)
    have HB83:=As (below_drew1 HB82.out)
    clear HM82 HG82 HO82 HB82 hs0 ho2 ho3
    generalize w82.drew=w83 at HM83 HG83 HO83 HB83 hHeld ⊢
    refine Z.p_ 0 83 ?_
    refine Z.p_ 1 84 ?_
    refine Z.p_ 2 85 ?_
    refine Z.p_ 3 86 ?_
    refine Z.p_ 4 87 ?_
    refine Z.t_ 5 88 hHeld ?_
    refine Z.p_ 6 89 ?_
    refine Z.t_ 7 90 hHeld ?_
    refine Z.p_ 8 91 ?_
    refine Z.t_ 9 92 hHeld ?_
    refine Z.p_ 10 93 ?_
    refine Z.p_ 11 94 ?_
    refine Z.p_ 12 95 ?_
    refine Z.t_ 13 96 hHeld ?_
    refine Z.p_ 14 97 ?_
    refine Z.p_ 15 98 ?_
    refine Z.p_ 16 99 ?_
    obtain⟨w84,hrunC,hgC,hRC⟩:=words_clear HM83.out.m1 (a:=a) (m:=b - a) HBA.out.1 HBA.out.2 (cw - a)
    rw[HCL.out] at hRC
    have HRUNC:=As hrunC
    have HM84:=As (HM83.out.words List.length_set hgC hRC)
    have HG84:=As (Kd.R_grown HG83.out hgC (fun k hk e=>hk.2.1 (Option.some.inj e)))
    have HO84:=As (blk_grown HO83.out hgC (fun e=>Nat.ne_of_gt hgwl (Option.some.inj e)))
    have HB84:=As (pw_below_grown HB83.out _ (below_size HB83.out) hgC (fun k hk=>by injection hk with hk;subst hk;exact HM83.out.hgw))
    clear hrunC hgC hRC hHeld
    refine Z.la 17 none fun K hK=>?_
    refine clear_step rfl rfl (.tmp 99) 25 rfl (.slice (some ⟨gw,a,none⟩) (b - a) (cw - a)) (by rfl) HRUNC.out ?_
    refine hK.out _ _ ?_
    clear hK K HM83 HG83 HO83 HB83 HRUNC
    refine done_ (by kernel_rfl) ?_
    go_wp2_with (fail)
    obtain⟨A4',c4',A6',c6',l4',hF4,l6',hF6,hcc,hfr⟩:=elem51 HM84.out.m3 HIL.out HY.out
    have HF4:=As hF4
    have HF6:=As hF6
    have HCC:=As hcc
    have hz3:w84.drew.cell? ⟨gs,i * 8 + 3,none⟩=some (.int .i64 y.f3.f0):=hcc 3 _ rfl
    have hz4:w84.drew.cell? ⟨gs,i * 8 + 4,none⟩=some (.slice A4' y.f3.f1.length c4'):=hcc 4 _ rfl
    have ho1:w84.drew.cell? ⟨wr.heap.size,1,none⟩=some (.int .i64 (k:Int)):=(blk_cell (blk_drew HO84.out) 1).trans rfl
    clear hF4 hF6 hcc hfr
    refine start_ (n:=14) (S:=fun w'=>w'.cell? ⟨gs,i * 8 + 3,none⟩=some (.int .i64 y.f3.f0)∧w'.cell? ⟨gs,i * 8 + 4,none⟩=some (.slice A4' y.f3.f1.length c4')∧w'.cell? ⟨wr.heap.size,1,none⟩=some (.int .i64 (k:Int))) (ds:=[13]) #[false,false,false,false,false,false,false,false,false,false,false,false,false,false] (by kernel_rfl) rfl rfl ⟨hz3,hz4,ho1⟩ (fun hHeld=>?_)
    refine Z.p_ 0 101 ?_
    refine Z.p_ 1 102 ?_
    refine Z.p_ 2 103 ?_
    refine Z.p_ 3 104 ?_
    refine Z.t_ 4 105 hHeld ?_
    refine Z.p_ 5 106 ?_
    refine Z.t_ 6 107 hHeld ?_
    refine Z.on 7 (some 108) fun K hK=>?_
    refine Z.gs Tryz.func17 #[.agg #[.int .i64 y.f3.f0,.slice A4' y.f3.f1.length c4'],.int .i64 (k:Int),.bool false] ?_
    refine (bits_Put.calls q y.f3.f0 A4' c4' y.f3.f1 (k:Int) false _ _ _ w84.drew (Kd.C_below (Kd.F_now HF4.out) (below_drew1 (Below.refl _ _))) l4' HQ.out).mono ?_
    rintro e w108 ⟨v108,rfl,hr,hb⟩
    refine⟨_,rfl,?_⟩
    have hbd:=below_step (below_drew1 (Below.refl w84.heap.size w84)) hb
    obtain⟨B4,d4,rfl⟩:=Kd.R_slice hr
    have hd4:=(Kd.R_reads' hr).2.1
    have hsz84:wr.heap.size < w84.heap.size:=blk_lt HO84.out
    have hszB84:=HB84.out.size
    have hgn:=Kd.R_lt HG84.out
    have HFK:=As (fk51_mk (ok:=fun k=>(((P k∨w3.heap.size≤k)∧some k≠v82.ownBlock)∧k≠sb∧k≠gw)∧k≠gs) (xDel y k) hd4 (Kd.F_mono (Kd.R_F (Kd.R_bound hr)) (fun k hk=> ?hg4)) l6' (Kd.F_below HF6.out hbd))
    case hg4=>
     have hk2:w84.heap.size≤k:=hk.2.1
     have h3:=HFR.out k (Nat.le_of_lt (Nat.lt_of_lt_of_le hsz84 hk2))
     exact⟨⟨⟨.inr (Nat.le_trans hszB84 hk2),fun e=>Nat.not_lt.2 hk2 (hgn k e.symm)⟩,h3.1,h3.2.1⟩,h3.2.2⟩
    have HM108:=As (HM84.out.below hbd)
    have HG108:=As (Kd.R_below HG84.out hbd)
    have HB108:=As (below_step HB84.out hbd)
    have HCC1:=As (show ∀j u,[Value.int .i64 y.f0,.int .i64 y.f1,.int .i64 y.f2,.int .i64 y.f3.f0,.slice A4' y.f3.f1.length c4',.int .i64 y.f4.f0,.slice A6' y.f4.f1.length c6',.bool y.f5][j]? =some u→w108.cell? ⟨gs,i * 8 + j,none⟩=some u from fun j u hu=>keepc hbd (HCC.out j u hu))
    refine hK.out _ _ ⟨keepc hb hz3,keepc hb hz4,keepc hb ho1⟩ (fun hHeld=>?_)
    clear hb hbd hr hz3 hz4 ho1 HM84 HG84 HO84 HB84 HF4 HF6 HCC hgn hHeld
    clear hK K
    refine Z.n_ 108 ?_
    refine Z.p_ 8 100 ?_
    refine Z.p_ 9 109 ?_
    refine Z.p_ 10 110 ?_
    refine Z.p_ 11 111 ?_
    refine Z.p_ 12 112 ?_
    have hz3:w108.cell? ⟨gs,i * 8 + 3,none⟩=some (.int .i64 y.f3.f0):=HCC1.out 3 _ rfl
    have hz4:w108.cell? ⟨gs,i * 8 + 4,none⟩=some (.slice A4' y.f3.f1.length c4'):=HCC1.out 4 _ rfl
    obtain⟨cells,hcb⟩:=Kd.N_typed HM108.out.m3 gs (by simp[Value.ownBlock])
    have hf3:w108.frozen? ⟨gs,i * 8 + 3,none⟩=false:=blk_frozen hcb _
    have hf4:w108.frozen? ⟨gs,i * 8 + 4,none⟩=false:=blk_frozen hcb _
    clear hcb
    refine Z.la 13 none fun K hK=>?_
    refine skip_ (w1:=?_) (by rfl) rfl ?_ ?_
    rotate_left
    ·go_simp
     rfl
    refine hK.out _ _ ?_
    clear hK K
    refine done_ (by kernel_rfl) ?_
    clear hz3 hz4 hf3 hf4
    have hset:=N_set2 HM108.out.m3 HIL.out (c:=[Value.int .i64 y.f0,.int .i64 y.f1,.int .i64 y.f2,.int .i64 y.f3.f0,.slice A4' y.f3.f1.length c4',.int .i64 y.f4.f0,.slice A6' y.f4.f1.length c6',.bool y.f5]) (u:=.int .i64 y.f3.f0) (v:=.slice B4 (setAt false y.f3.f1 k).length d4) (j:=3) rfl HCC1.out (by decide) HFK.out (fun k hk=>hk)
    have HM109:=As (HM108.out.grown hset.2 hset.1)
    have HG109:=As (Kd.R_grown HG108.out hset.2 (fun k hk e=>hk.2.2 (Option.some.inj e)))
    have HB109:=As (pw_below_grown HB108.out _ (below_size HB108.out) hset.2 (fun k hk=>by injection hk with hk;subst hk;exact Kd.N_base HM108.out.m3 gs (by simp[Value.ownBlock])))
    clear hset HM108 HG108 HB108 HFK HCC1
    go_wp2_with (fail)
    go_roundw
    case rel=>exact⟨j + 1,wsj.set a 0,xsj.set i (xDel y k),_,rfl,by go_num,HLT,HM109,⟨by rw[HGONE.out];exact HG109.out⟩,HREL,⟨by rw[List.length_set];exact HXL.out⟩,HB109⟩
    case measure=>have:=HLT.out;simp[intOf];omega
   ·obtain⟨hsw0,hgn0⟩:=sweep0 hxg hgo (p:=p)
    have HSW0:=As (And.intro hsw0 hgn0)
    clear hsw0 hgn0 hxg
    by_cases h0:x.f0=(i:Int)
    ·have h4:x.f4=true:=by
      cases h:x.f4 with
      |true=>rfl
      |false=>exact absurd ⟨h0,h⟩ hgo
     rw[h0] at hx0
     rw[h4] at hx5
     clear hgo h0 h4
     go_wp2_with (fail)
     go_roundw
     case rel=>exact⟨j + 1,wsj,xsj,_,rfl,by go_num,⟨hlt⟩,⟨HMj.out.below (below_alloc (Below.refl _ _) _)⟩,⟨by rw[HSW0.out.2];exact Kd.R_below HGj.out (below_alloc (Below.refl _ _) _)⟩,⟨by rw[HSW0.out.1];exact HRj.out⟩,HXL,⟨below_alloc HBB.out _⟩⟩
     case measure=>simp[intOf];omega
    ·have hne:(x.f0 == (i:Int))=false:=by simpa using h0
     clear hgo h0
     go_wp2_with (fail)
     go_roundw
     case rel=>exact⟨j + 1,wsj,xsj,_,rfl,by go_num,⟨hlt⟩,⟨HMj.out.below (below_alloc (Below.refl _ _) _)⟩,⟨by rw[HSW0.out.2];exact Kd.R_below HGj.out (below_alloc (Below.refl _ _) _)⟩,⟨by rw[HSW0.out.1];exact HRj.out⟩,HXL,⟨below_alloc HBB.out _⟩⟩
     case measure=>simp[intOf];omega
  ·have hnl:decide (j < os.length)=false:=decide_eq_false hlt
   have hjo:j=os.length:=Nat.le_antisymm HJ.out (Nat.not_lt.1 hlt)
   have hgj:=HGj.out
   have hrj:=HRj.out
   rw[hjo,List.take_length] at hgj hrj
   have hcl:=cl_stay HR.out.good HP.out HS.out
   rw[←HOS.out] at hcl
   have hpi:(ps.set i (sweepS i os p))[i]? =some (sweepS i os p):=by rw[List.getElem?_set,if_pos rfl,if_pos (List.getElem?_eq_some_iff.1 HP.out).1]
   obtain⟨y,hy⟩:∃y,xsj[i]? =some y:=⟨_,List.getElem?_eq_getElem (by rw[HXL.out];exact HIL.out)⟩
   have hsw:=hrj.sw hpi hy
   rw[List.set_set] at hsw
   have hsame:=sweepS_same i os p
   obtain⟨q,hq⟩:∃q,q=(sweepS i os p).sw:=⟨_,rfl⟩
   have hq1:q.first=p.first:=by rw[hq];exact hsame.1
   have hyr:XRel (xSw y) q:=by rw[hq];exact sw_xrel (hrj.x i y _ hy hpi)
   rw[←hq] at hsw hcl
   have hpq:(ps.set i q)[i]? =some q:=by rw[List.getElem?_set,if_pos rfl,if_pos (List.getElem?_eq_some_iff.1 HP.out).1]
   have HPQ:=As (And.intro hpq hq1)
   obtain⟨gone,hgone⟩:∃gone,gone=goneS i os:=⟨_,rfl⟩
   rw[←hgone] at hgj hcl
   obtain⟨Ag,cg,rfl⟩:=Kd.R_slice hgj
   have HGx:=As hgj
   have HSW:=As hsw
   have HCLx:=As hcl
   have HYR:=As hyr
   have HY:=As hy
   clear hgj hrj hcl hsame hsw hyr hy hpi hpq hq hgone HGj HRj hjo hlt hq1
   obtain⟨A4,c4,A6,c6,l4,hF4,l6,hF6,hcc, -⟩:=elem51 HMj.out.m3 HIL.out HY.out
   have HFK:=As (fk51_mk (xSw y) l4 hF4 l6 hF6)
   have HCC:=As hcc
   clear hF4 hF6 hcc
   go_wp2_with ((with_reducible refine gate_store (t:=4) (p:=116) rfl ?_);refine Kd.N_store k51 (w0:=w3) (g:=gs) (n:=xs.length) (cap:=cs) (o':=i * 8 + 7) w3.heap.size rfl rfl 4 (.tmp 116) (.const (.bool true)) rfl 51 (i:Int) 7 xsj (xSw y) (.bool true) [.bool true] [.int .i64 y.f0,.int .i64 y.f1,.int .i64 y.f2,.int .i64 y.f3.f0,.slice A4 y.f3.f1.length c4,.int .i64 y.f4.f0,.slice A6 y.f4.f1.length c6,.bool y.f5] (fun k=>((P k∨w3.heap.size≤k)∧some k≠(Value.slice Ag gone.length cg).ownBlock)∧k≠sb∧k≠gw) (fun k=>(((P k∨w3.heap.size≤k)∧some k≠(Value.slice Ag gone.length cg).ownBlock)∧k≠sb∧k≠gw)∧k≠gs) rfl rfl rfl rfl (by kernel_rfl) (by simp[Value.oneCell']) HMj.out.m3 (Int.natCast_nonneg i) (Int.ofNat_lt.2 HIL.out) rfl HCC.out (show 7 + 1≤8 by decide) HFK.out (fun k hk=>hk) HBB.out ?_;intro w1 hn hb hg;rw[Int.toNat_natCast] at hn;have HM5:=As (HMj.out.grown hg hn);have HG5:=As (Kd.R_grown HGx.out hg (fun k hk e=>hk.2.2 (Option.some.inj e)));have HB5:=As hb;obtain⟨A4b,c4b,A6b,c6b,l4b,hF4b, -, -,hcc, -⟩:=elem51 hn HIL.out (x:=xSw y) (List.getElem?_set_self (by rw[HXL.out];exact HIL.out));have HF4b:=As hF4b;have hz1:w1.cell? ⟨gs,i * 8 + 1,none⟩=some (.int .i64 y.f1):=hcc 1 _ rfl;have hz3:w1.cell? ⟨gs,i * 8 + 3,none⟩=some (.int .i64 y.f3.f0):=hcc 3 _ rfl;have hz4:w1.cell? ⟨gs,i * 8 + 4,none⟩=some (.slice A4b y.f3.f1.length c4b):=hcc 4 _ rfl;clear hn hb hg hF4b hcc)
   obtain⟨cn,⟨kc,hkc⟩,hway⟩:=HYR.out.count
   refine (bits_Count.calls kc y.f3.f0 A4b c4b y.f3.f1 cn 0 w1 (Kd.F_now HF4b.out) l4b (hkc kc (Nat.le_refl _))).mono ?_
   rintro e w122 ⟨rfl,hb⟩
   have HM6:=As (HM5.out.below hb)
   have HG6:=As (Kd.R_below HG5.out hb)
   have HB6:=As (below_step HB5.out hb)
   have hz1:=keepc hb hz1
   clear hb hkc HMj HGx HBB HCC HFK HM5 HG5 HB5 HF4b hz3 hz4
   dsimp only
   rcases hway with⟨hc0,hnone⟩|⟨hc0, -⟩
   ·have hnk:∀k,q.ob k=none:=ob_slots (HSW.out.good.at HPQ.out.1) hnone
    obtain⟨us',⟨kg,hkg⟩,hdrop⟩:=HSW.out.drop HPQ.out.1 hnk
    have hflt:=HSW.out.drop_filter HPQ.out.1
    have hxl29:(xsj.set i (xSw y)).length≤29:=by have:=HSW.out.good.len;have:=HSW.out.xl;omega
    obtain⟨kk,hkk⟩:=HSW.out.check (by omega)
    have HGV:=As (hkg kg (Nat.le_refl _))
    have HCK:=As (hkk kk (Nat.le_refl _))
    have HDR:=As hdrop
    have HCL2:=As (HCLx.out.drop HR.out.good HP.out hnk)
    rw[HPQ.out.2] at hflt HGV
    have hqp:(q.pages:Int)=y.f1:=HYR.out.f1.symm
    rw[hqp] at HGV
    have HFL:=As hflt
    have HSS:=As (show ∀x∈xsj.set i (xSw y),SnS x from fun x hx=>by
     obtain⟨m,hm,rfl⟩:=List.mem_iff_getElem.1 hx
     exact (HSW.out.at hm).1.ss)
    obtain⟨xsq,hxsq⟩:∃xsq,xsq=xsj.set i (xSw y):=⟨_,rfl⟩
    have hxql:xsq.length=xs.length:=by rw[hxsq,List.length_set];exact HXL.out
    have HIQ:=As (show i < xsq.length by rw[hxql];exact HIL.out)
    rw[←hxsq] at hxl29 HCK HDR HFL HSS HM6
    rw[←hxql] at HM6
    have HXQ:=As hxql
    clear hnk hkg hdrop hflt hkk hnone hqp hxsq hxql HSW HCLx HYR HY
    have HT6:=As (TzOk.below HT.out (below_step HB00.out HB6.out))
    have hs1:w122.drew.cell? ⟨sb,1,none⟩=some (.int .i64 30):=(blk_cell (blk_drew HM6.out.blk) 1).trans rfl
    have hs2:w122.drew.cell? ⟨sb,2,none⟩=some (.slice A2' us.length c2'):=(blk_cell (blk_drew HM6.out.blk) 2).trans rfl
    have hfb:w122.drew.cell? ⟨w.heap.size + 1,0,none⟩=some (.int .i64 (p.first:Int)):=(blk_cell (blk_drew (blk_below HBF0.out HB6.out)) 0).trans rfl
    have hz1':w122.drew.cell? ⟨gs,i * 8 + 1,none⟩=some (.int .i64 y.f1):=hz1
    go_wp2_with (fail)
    refine start_ (n:=19) (S:=fun w'=>w'.cell? ⟨sb,1,none⟩=some (.int .i64 30)∧w'.cell? ⟨sb,2,none⟩=some (.slice A2' us.length c2')∧w'.cell? ⟨w.heap.size + 1,0,none⟩=some (.int .i64 (p.first:Int))∧w'.cell? ⟨gs,i * 8 + 1,none⟩=some (.int .i64 y.f1)) (ds:=[18]) #[false,false,false,false,false,false,false,false,false,false,false,false,false,false,false,false,false,false,false] (by kernel_rfl) rfl rfl ⟨hs1,hs2,hfb,hz1'⟩ (fun hHeld=>?_)
    refine Z.p_ 0 128 ?_
    refine Z.p_ 1 129 ?_
    refine Z.p_ 2 130 ?_
    refine Z.p_ 3 131 ?_
    refine Z.p_ 4 132 ?_
    refine Z.t_ 5 133 hHeld ?_
    refine Z.t_ 6 134 hHeld ?_
    refine Z.p_ 7 135 ?_
    refine Z.p_ 8 136 ?_
    refine Z.p_ 9 137 ?_
    refine Z.t_ 10 138 hHeld ?_
    refine Z.on 11 (some 139) fun K hK=>?_
    refine Z.gs Tryz.func38 #[.agg #[.int .i64 30,.slice A2' us.length c2'],.int .i64 (p.first:Int),.int .i64 y.f1] ?_
    refine (pages_Give.calls kg 30 A2' c2' us (p.first:Int) y.f1 30 us' 0 w122.drew (Kd.C_below (Kd.F_now HM6.out.m2) (below_drew1 (Below.refl _ _))) HM6.out.l2 (TzOk.below HT6.out (below_drew1 (Below.refl _ _))) HGV.out).mono ?_
    rintro e w139 ⟨v139,rfl,hr,hb⟩
    refine⟨_,rfl,?_⟩
    obtain⟨B2,d2,rfl⟩:=Kd.R_slice hr
    have hbd:=below_step (below_drew1 (Below.refl w122.heap.size w122)) hb
    have hd2:=(Kd.R_reads' hr).2.1
    have hsb6:=blk_lt HM6.out.blk
    have hgw6:=HM6.out.gwl
    have hgs6:gs < w122.heap.size:=Kd.N_lt HM6.out.m3 gs (by simp[Value.ownBlock])
    have hsz6:=HB6.out.size
    have hgn:=Kd.R_lt HG6.out
    have HF2:=As (show Kd.F (Kd.int .u64) w139 (fun k=>((P k∨w3.heap.size≤k)∧some k≠(Value.slice Ag gone.length cg).ownBlock)∧k≠sb∧k≠gw∧some k≠(Value.slice (some ⟨gs,0,none⟩) xsq.length cs).ownBlock) B2 us'.length us' from Kd.F_mono (Kd.R_F (Kd.R_bound hr)) (fun k hk=>by
     have hk2:w122.heap.size≤k:=hk.2.1
     exact⟨⟨.inr (Nat.le_trans hsz6 hk2),fun e=>Nat.not_lt.2 hk2 (hgn k e.symm)⟩,Nat.ne_of_gt (Nat.lt_of_lt_of_le hsb6 hk2),Nat.ne_of_gt (Nat.lt_of_lt_of_le hgw6 hk2),fun e=>Nat.ne_of_gt (Nat.lt_of_lt_of_le hgs6 hk2) (Option.some.inj e)⟩))
    have HM7:=As (HM6.out.below hbd)
    have HG7:=As (Kd.R_below HG6.out hbd)
    have HB7:=As (below_step HB6.out hbd)
    refine hK.out _ _ ⟨keepc hb hs1,keepc hb hs2,keepc hb hfb,keepc hb hz1'⟩ (fun hHeld=>?_)
    clear hb hbd hr hs1 hs2 hfb hz1 hz1' HM6 HG6 HB6 HT6 hgn hHeld hsb6 hgw6 hgs6 hsz6
    clear hK K
    refine Z.n_ 139 ?_
    refine Z.p_ 12 127 ?_
    refine Z.p_ 13 140 ?_
    refine Z.p_ 14 141 ?_
    refine Z.p_ 15 142 ?_
    refine Z.p_ 16 143 ?_
    refine Z.p_ 17 144 ?_
    have hs1:=Z.c1 HM7.out.blk
    have hs2:=Z.c2 HM7.out.blk
    have hf1:=blk_frozen HM7.out.blk 1
    have hf2:=blk_frozen HM7.out.blk 2
    refine Z.la 18 none fun K hK=>?_
    refine skip_ (w1:=?_) (by rfl) rfl ?_ ?_
    rotate_left
    ·go_simp
     rfl
    refine hK.out _ _ ?_
    clear hK K
    refine done_ (by kernel_rfl) ?_
    clear hs1 hs2 hf1 hf2
    have HM8:=As (HM7.out.pages HF2.out hd2)
    have HG8:=As (Kd.R_far (p:=⟨sb,2,none⟩) (Kd.R_far (p:=⟨sb,1,none⟩) HG7.out (fun k hk=>hk.1) (.int .i64 30)) (fun k hk=>hk.1) (.slice B2 us'.length d2))
    have HB8:=As (below_set (j:=2) (v:=.slice B2 us'.length d2) (below_set (j:=1) (v:=.int .i64 30) HB7.out HM7.out.hsb) HM7.out.hsb)
    clear HM7 HG7 HB7 HF2 hd2
    generalize (w139.setCell ⟨sb,1,none⟩ (.int .i64 30)).setCell ⟨sb,2,none⟩ (.slice B2 us'.length d2)=w144 at HM8 HG8 HB8 ⊢
    have hs3:w144.drew.cell? ⟨sb,3,none⟩=some (.slice (some ⟨gs,0,none⟩) xsq.length cs):=(blk_cell (blk_drew HM8.out.blk) 3).trans rfl
    have hfb:w144.drew.cell? ⟨w.heap.size + 1,0,none⟩=some (.int .i64 (p.first:Int)):=(blk_cell (blk_drew (blk_below HBF0.out HB8.out)) 0).trans rfl
    go_wp2_with (fail)
    refine start_ (n:=15) (S:=fun w'=>w'.cell? ⟨sb,3,none⟩=some (.slice (some ⟨gs,0,none⟩) xsq.length cs)∧w'.cell? ⟨w.heap.size + 1,0,none⟩=some (.int .i64 (p.first:Int))) (ds:=[14]) #[false,false,false,false,false,false,false,false,false,false,false,false,false,false,false] (by kernel_rfl) rfl rfl ⟨hs3,hfb⟩ (fun hHeld=>?_)
    have HM9:=As (HM8.out.below (below_drew1 (Below.refl _ _)))
    have HG9:=As (Kd.R_below HG8.out (below_drew1 (Below.refl _ _)))
    have HB9:=As (below_drew1 HB8.out)
    clear HM8 HG8 HB8
    generalize w144.drew=w145 at HM9 HG9 HB9 hHeld hs3 hfb ⊢
    refine Z.p_ 0 146 ?_
    refine Z.p_ 1 147 ?_
    refine Z.p_ 2 148 ?_
    refine Z.p_ 3 149 ?_
    refine Z.p_ 4 150 ?_
    refine Z.t_ 5 151 hHeld ?_
    refine Z.t_ 6 152 hHeld ?_
    refine Z.on 7 (some 153) fun K hK=>?_
    refine Z.gs Tryz.func39 #[.slice (some ⟨gs,0,none⟩) xsq.length cs,.int .i64 (p.first:Int)] ?_
    have hsb9:=blk_lt HM9.out.blk
    have hgw9:=HM9.out.gwl
    have hsz9:=HB9.out.size
    have hgn:=Kd.R_lt HG9.out
    refine (snDrop kk (fun k=>((P k∨w3.heap.size≤k)∧some k≠(Value.slice Ag gone.length cg).ownBlock)∧k≠sb∧k≠gw) (p.first:Int) (some ⟨gs,0,none⟩) cs xsq w145 (Kd.N_F HM9.out.m3) (Kd.N_reads' HM9.out.m3).2.1 (fun k hk=>⟨⟨.inr (Nat.le_trans hsz9 hk),fun e=>Nat.not_lt.2 hk (hgn k e.symm)⟩,Nat.ne_of_gt (Nat.lt_of_lt_of_le hsb9 hk),Nat.ne_of_gt (Nat.lt_of_lt_of_le hgw9 hk)⟩) (Nat.lt_of_le_of_lt hxl29 (by decide)) HSS.out HCK.out (by rw[HFL.out,List.length_eraseIdx,if_pos HIQ.out];have:=HIQ.out;omega)).mono ?_
    rintro e w153 ⟨v,rfl,hn,hb⟩
    refine⟨_,rfl,?_⟩
    rw[HFL.out] at hn
    obtain⟨B3,d3,rfl⟩:=Kd.N_slice hn
    have hM10:=HM9.out.spans hb hsz9 hn
    have HM10:=As hM10
    have HG10:=As (Kd.R_far (p:=⟨sb,3,none⟩) (Kd.R_below HG9.out hb) (fun k hk=>hk.1) (.slice B3 (xsq.eraseIdx i).length d3))
    have HB10:=As (below_set (j:=3) (v:=.slice B3 (xsq.eraseIdx i).length d3) (below_step HB9.out hb) HM9.out.hsb)
    have HX3:=As (blk_below HM9.out.blk hb)
    refine hK.out _ _ ⟨keepc hb hs3,keepc hb hfb⟩ (fun hHeld=>?_)
    clear hb hn hM10 hs3 hfb HM9 HG9 HB9 hHeld hgn hsb9 hgw9 hsz9
    clear hK K
    refine Z.n_ 153 ?_
    refine Z.p_ 8 145 ?_
    refine Z.p_ 9 154 ?_
    refine Z.p_ 10 155 ?_
    refine Z.p_ 11 156 ?_
    refine Z.p_ 12 157 ?_
    refine Z.p_ 13 158 ?_
    have hs3:=Z.c3 HX3.out
    have hf3:=blk_frozen HX3.out 3
    refine Z.la 14 none fun K hK=>?_
    refine skip_ (w1:=?_) (by rfl) rfl ?_ ?_
    rotate_left
    ·go_simp
     rfl
    refine hK.out _ _ ?_
    clear hK K
    refine done_ (by kernel_rfl) ?_
    clear hs3 hf3 HX3
    generalize w153.setCell ⟨sb,3,none⟩ (.slice B3 (xsq.eraseIdx i).length d3)=w158 at HM10 HG10 HB10 ⊢
    have hs0:=Z.c0 HM10.out.blk
    have hs1:=Z.c1 HM10.out.blk
    have hs2:=Z.c2 HM10.out.blk
    have hs3:=Z.c3 HM10.out.blk
    have HBZ:=As (blk_below HBZ0.out HB10.out)
    have hz0:w158.cell? ⟨(w.heap.size+1+1),0,none⟩=some (.slice none 0 0):=(blk_cell HBZ.out 0).trans rfl
    have hz1:w158.cell? ⟨(w.heap.size+1+1),1,none⟩=some (.int .i64 0):=(blk_cell HBZ.out 1).trans rfl
    have hz2:w158.cell? ⟨(w.heap.size+1+1),2,none⟩=some (.slice none 0 0):=(blk_cell HBZ.out 2).trans rfl
    have hz3:w158.cell? ⟨(w.heap.size+1+1),3,none⟩=some (.slice none 0 0):=(blk_cell HBZ.out 3).trans rfl
    have hf0:=blk_frozen HBZ.out 0
    have hf1:=blk_frozen HBZ.out 1
    have hf2:=blk_frozen HBZ.out 2
    have hf3:=blk_frozen HBZ.out 3
    go_wp2_with (fail)
    have hres:=(blk_put (cs:=#[.slice (some ⟨gw,0,none⟩) wsj.length cw,.int .i64 30,.slice B2 us'.length d2,.slice none 0 0]) (cs':=#[.slice (some ⟨gw,0,none⟩) wsj.length cw,.int .i64 30,.slice B2 us'.length d2,.slice B3 (xsq.eraseIdx i).length d3]) (blk_put (cs:=#[.slice (some ⟨gw,0,none⟩) wsj.length cw,.int .i64 30,.slice none 0 0,.slice none 0 0]) (cs':=#[.slice (some ⟨gw,0,none⟩) wsj.length cw,.int .i64 30,.slice B2 us'.length d2,.slice none 0 0]) (blk_put (cs:=#[.slice (some ⟨gw,0,none⟩) wsj.length cw,.int .i64 0,.slice none 0 0,.slice none 0 0]) (cs':=#[.slice (some ⟨gw,0,none⟩) wsj.length cw,.int .i64 30,.slice none 0 0,.slice none 0 0]) (blk_put (cs:=#[.slice none 0 0,.int .i64 0,.slice none 0 0,.slice none 0 0]) (cs':=#[.slice (some ⟨gw,0,none⟩) wsj.length cw,.int .i64 0,.slice none 0 0,.slice none 0 0]) HBZ.out 0 (.slice (some ⟨gw,0,none⟩) wsj.length cw) rfl) 1 (.int .i64 30) rfl) 2 (.slice B2 us'.length d2) rfl) 3 (.slice B3 (xsq.eraseIdx i).length d3) rfl)
    (try simp only[Exit.inBlock,Exit.then])
    refine bodyPost_ret (results_list (rs:=[.cell 4 34,.tmp 5,.tmp 6]) rfl (by simp) (.cell (w.heap.size+1+1) 34 #[.slice (some ⟨gw,0,none⟩) wsj.length cw,.int .i64 30,.slice B2 us'.length d2,.slice B3 (xsq.eraseIdx i).length d3] (0,0) _ rfl hres Tryz.underlying34 rfl (by kernel_rfl) (.tmp (.tmp .nil)))) rfl ?_
    have HB:=As (below_step HB00.out HB10.out)
    have hne:∀k,(k≠sb∧k≠gw∧k≠gs)∧w3.heap.size≤k→k≠w.heap.size + 1 + 1:=fun k hk e=>Nat.not_le.2 hgz (e▸hk.2)
    have hgf:=Kd.R_mono (ok':=fun k=>(k≠sb∧k≠gw∧k≠gs)∧w3.heap.size≤k) (Kd.R_bound HG10.out) (fun k hk=>⟨hk.1,hk.2.1⟩)
    have hgr:=Kd.R_reads' (Kd.R_far (p:=⟨w.heap.size+1+1,3,none⟩) (Kd.R_far (p:=⟨w.heap.size+1+1,2,none⟩) (Kd.R_far (p:=⟨w.heap.size+1+1,1,none⟩) (Kd.R_far (p:=⟨w.heap.size+1+1,0,none⟩) hgf hne (.slice (some ⟨gw,0,none⟩) wsj.length cw)) hne (.int .i64 30)) hne (.slice B2 us'.length d2)) hne (.slice B3 (xsq.eraseIdx i).length d3))
    exact⟨_,Ag,cg,gone,_,rfl,hgr.2.1,hgr.2.2,(by with_reducible repeat (first|exact HB.out|(refine below_set ?_ ?_;rotate_left;exact Nat.le_trans (Nat.le_succ _) (Nat.le_succ _)))),((HM10.out.toM.far4 (fun h=>Nat.not_lt.2 (Nat.le_trans (Nat.le_succ _) (Nat.le_succ _)) (HPL.out _ h)) hgz _ _ _ _).is HDR.out).mono (fun k hk=>hk.imp id (fun h=>Nat.le_trans HB00.out.size h)),HCL2.out⟩
   ·skip
    have hs0:=Z.c0 HM6.out.blk
    have hs1:=Z.c1 HM6.out.blk
    have hs2:=Z.c2 HM6.out.blk
    have hs3:=Z.c3 HM6.out.blk
    have HBZ:=As (blk_below HBZ0.out HB6.out)
    have hz0:w122.cell? ⟨(w.heap.size+1+1),0,none⟩=some (.slice none 0 0):=(blk_cell HBZ.out 0).trans rfl
    have hz1:w122.cell? ⟨(w.heap.size+1+1),1,none⟩=some (.int .i64 0):=(blk_cell HBZ.out 1).trans rfl
    have hz2:w122.cell? ⟨(w.heap.size+1+1),2,none⟩=some (.slice none 0 0):=(blk_cell HBZ.out 2).trans rfl
    have hz3:w122.cell? ⟨(w.heap.size+1+1),3,none⟩=some (.slice none 0 0):=(blk_cell HBZ.out 3).trans rfl
    have hf0:=blk_frozen HBZ.out 0
    have hf1:=blk_frozen HBZ.out 1
    have hf2:=blk_frozen HBZ.out 2
    have hf3:=blk_frozen HBZ.out 3
    go_wp2_with (fail)
    have hres:=(blk_put (cs:=#[.slice (some ⟨gw,0,none⟩) wsj.length cw,.int .i64 30,.slice A2' us.length c2',.slice none 0 0]) (cs':=#[.slice (some ⟨gw,0,none⟩) wsj.length cw,.int .i64 30,.slice A2' us.length c2',.slice (some ⟨gs,0,none⟩) xs.length cs]) (blk_put (cs:=#[.slice (some ⟨gw,0,none⟩) wsj.length cw,.int .i64 30,.slice none 0 0,.slice none 0 0]) (cs':=#[.slice (some ⟨gw,0,none⟩) wsj.length cw,.int .i64 30,.slice A2' us.length c2',.slice none 0 0]) (blk_put (cs:=#[.slice (some ⟨gw,0,none⟩) wsj.length cw,.int .i64 0,.slice none 0 0,.slice none 0 0]) (cs':=#[.slice (some ⟨gw,0,none⟩) wsj.length cw,.int .i64 30,.slice none 0 0,.slice none 0 0]) (blk_put (cs:=#[.slice none 0 0,.int .i64 0,.slice none 0 0,.slice none 0 0]) (cs':=#[.slice (some ⟨gw,0,none⟩) wsj.length cw,.int .i64 0,.slice none 0 0,.slice none 0 0]) HBZ.out 0 (.slice (some ⟨gw,0,none⟩) wsj.length cw) rfl) 1 (.int .i64 30) rfl) 2 (.slice A2' us.length c2') rfl) 3 (.slice (some ⟨gs,0,none⟩) xs.length cs) rfl)
    (try simp only[Exit.inBlock,Exit.then])
    refine bodyPost_ret (results_list (rs:=[.cell 4 34,.tmp 5,.tmp 6]) rfl (by simp) (.cell (w.heap.size+1+1) 34 #[.slice (some ⟨gw,0,none⟩) wsj.length cw,.int .i64 30,.slice A2' us.length c2',.slice (some ⟨gs,0,none⟩) xs.length cs] (0,0) _ rfl hres Tryz.underlying34 rfl (by kernel_rfl) (.tmp (.tmp .nil)))) rfl ?_
    have HB:=As (below_step HB00.out HB6.out)
    have hne:∀k,(k≠sb∧k≠gw∧k≠gs)∧w3.heap.size≤k→k≠w.heap.size + 1 + 1:=fun k hk e=>Nat.not_le.2 hgz (e▸hk.2)
    have hgf:=Kd.R_mono (ok':=fun k=>(k≠sb∧k≠gw∧k≠gs)∧w3.heap.size≤k) (Kd.R_bound HG6.out) (fun k hk=>⟨hk.1,hk.2.1⟩)
    have hgr:=Kd.R_reads' (Kd.R_far (p:=⟨w.heap.size+1+1,3,none⟩) (Kd.R_far (p:=⟨w.heap.size+1+1,2,none⟩) (Kd.R_far (p:=⟨w.heap.size+1+1,1,none⟩) (Kd.R_far (p:=⟨w.heap.size+1+1,0,none⟩) hgf hne (.slice (some ⟨gw,0,none⟩) wsj.length cw)) hne (.int .i64 30)) hne (.slice A2' us.length c2')) hne (.slice (some ⟨gs,0,none⟩) xs.length cs))
    exact⟨_,Ag,cg,gone,_,rfl,hgr.2.1,hgr.2.2,(by with_reducible repeat (first|exact HB.out|(refine below_set ?_ ?_;rotate_left;exact Nat.le_trans (Nat.le_succ _) (Nat.le_succ _)))),((HM6.out.toM.far4 (fun h=>Nat.not_lt.2 (Nat.le_trans (Nat.le_succ _) (Nat.le_succ _)) (HPL.out _ h)) hgz _ _ _ _).is HSW.out).mono (fun k hk=>hk.imp id (fun h=>Nat.le_trans HB00.out.size h)),HCLx.out⟩
end Go.Proofs.YtmmfchnbfnegnaaGreatDoor.K
end
section
namespace Go.Proofs.YtmmfchnbfnegnaaGreatDoor.K
open Go.RowKit Go.Proofs.YtmmfchnbfnegnaaGreatDoorW.PrintWords Go.Proofs.YtmmfchnbfnegnaaGreatDoorW.PrintLast Go.Proofs.YtmmfchnbfnegnaaGreatDoorW.PrintMore Go.Proofs.YtmmfchnbfnegnaaGreatDoor.GK Go.Proofs.YtmmfchnbfnegnaaGreatDoor.Pu Go.Proofs.YtmmfchnbfnegnaaGreatDoor.PuBitW Go.Proofs.YtmmfchnbfnegnaaGreatDoor.PuBits
set_option linter.unusedVariables false
set_option linter.unusedSimpArgs false
attribute [local go_sem] max2_int min2_int max_two min_two max_three min_three max_four min_four
set_option maxHeartbeats 3000000 in
set_option maxRecDepth 100000 in
theorem hpLead (A5:Option Addr) (c5:Nat) (os:List S92) (sb:Nat) (w:World) (hs:os.Pairwise Behind) (hn:∀x∈os,0≤x.f3.f0) (h16:∀x∈os,16≤x.f2) (hl:os.length < 500000) (j:Nat) (hj:j < os.length) (x:S92) (hx:x=os[j]) (hcur:x.f4=true) (hC:Kd.C k92 w A5 os.length os) (h5:os.length≤c5) (hc4:w.cell? ⟨sb,4,none⟩=some (.slice A5 os.length c5)):
  Calls Tryz.prog 46 #[.pointer (some ⟨sb,0,none⟩),.int .u64 x.f2] w fun e w'=>e=.returned (.tuple #[obV x,.int .i64 0])∧Below w.heap.size w w':=by
 have hue:=Tryz.underlying81
 have hu92:=Tryz.underlying92
 have hne:(x.f2 == 0)=false:=by
  have:=h16 x (hx▸List.getElem_mem hj)
  simp;omega
 have HF:=As (fun W (hb:Below w.heap.size w W)=>hpFind A5 c5 os sb W hs hn hl j hj x hx hcur (Kd.C_below hC hb) h5 (keepc hb hc4))
 clear hs hn h16 hl hx hcur hC h5 hc4
 unfold obV at HF ⊢
 go_enter Tryz.func46,Tryz.ntmps46
 go_wp2_with (fail)
 have hb0:=below_alloc (Below.refl w.heap.size w) (Obj.cells #[.int .i64 0,.int .i64 0,.int .u64 0,.int .i64 0,.int .u64 0,.bool false] 92)
 have hbo:=blk_new w (Obj.cells #[.int .i64 0,.int .i64 0,.int .u64 0,.int .i64 0,.int .u64 0,.bool false] 92)
 refine (HF.out _ hb0).mono ?_
 rintro e w11 ⟨rfl,hb⟩
 have hbo2:=blk_below hbo hb
 have HB:=As (below_step hb0 hb)
 have hgl:=blk_lt (blk_below hbo hb)
 have hf:=fun j=>blk_frozen (blk_below hbo hb) j
 have ho0:w11.cell? ⟨w.heap.size,0,none⟩=some (.int .i64 0):=(blk_cell (blk_below hbo hb) 0).trans rfl
 have ho1:w11.cell? ⟨w.heap.size,1,none⟩=some (.int .i64 0):=(blk_cell (blk_below hbo hb) 1).trans rfl
 have ho2:w11.cell? ⟨w.heap.size,2,none⟩=some (.int .u64 0):=(blk_cell (blk_below hbo hb) 2).trans rfl
 have ho3:w11.cell? ⟨w.heap.size,3,none⟩=some (.int .i64 0):=(blk_cell (blk_below hbo hb) 3).trans rfl
 have ho4:w11.cell? ⟨w.heap.size,4,none⟩=some (.int .u64 0):=(blk_cell (blk_below hbo hb) 4).trans rfl
 have ho5:w11.cell? ⟨w.heap.size,5,none⟩=some (.bool false):=(blk_cell (blk_below hbo hb) 5).trans rfl
 clear hb hb0 hbo HF
 dsimp only
 go_wp2_with (fail)
 have hres:=(blk_alloc (blk_put (cs:=#[.int .i64 x.f0,.int .i64 x.f1,.int .u64 x.f2,.int .i64 x.f3.f0,.int .u64 x.f3.f1,.bool false]) (cs':=#[.int .i64 x.f0,.int .i64 x.f1,.int .u64 x.f2,.int .i64 x.f3.f0,.int .u64 x.f3.f1,.bool x.f4]) (blk_put (cs:=#[.int .i64 x.f0,.int .i64 x.f1,.int .u64 x.f2,.int .i64 x.f3.f0,.int .u64 0,.bool false]) (cs':=#[.int .i64 x.f0,.int .i64 x.f1,.int .u64 x.f2,.int .i64 x.f3.f0,.int .u64 x.f3.f1,.bool false]) (blk_put (cs:=#[.int .i64 x.f0,.int .i64 x.f1,.int .u64 x.f2,.int .i64 0,.int .u64 0,.bool false]) (cs':=#[.int .i64 x.f0,.int .i64 x.f1,.int .u64 x.f2,.int .i64 x.f3.f0,.int .u64 0,.bool false]) (blk_put (cs:=#[.int .i64 x.f0,.int .i64 x.f1,.int .u64 0,.int .i64 0,.int .u64 0,.bool false]) (cs':=#[.int .i64 x.f0,.int .i64 x.f1,.int .u64 x.f2,.int .i64 0,.int .u64 0,.bool false]) (blk_put (cs:=#[.int .i64 x.f0,.int .i64 0,.int .u64 0,.int .i64 0,.int .u64 0,.bool false]) (cs':=#[.int .i64 x.f0,.int .i64 x.f1,.int .u64 0,.int .i64 0,.int .u64 0,.bool false]) (blk_put (cs:=#[.int .i64 0,.int .i64 0,.int .u64 0,.int .i64 0,.int .u64 0,.bool false]) (cs':=#[.int .i64 x.f0,.int .i64 0,.int .u64 0,.int .i64 0,.int .u64 0,.bool false]) hbo2 0 (.int .i64 x.f0) rfl) 1 (.int .i64 x.f1) rfl) 2 (.int .u64 x.f2) rfl) 3 (.int .i64 x.f3.f0) rfl) 4 (.int .u64 x.f3.f1) rfl) 5 (.bool x.f4) rfl) (Obj.cells #[.int .i64 x.f0,.int .i64 x.f1,.int .u64 x.f2,.int .i64 x.f3.f0,.int .u64 x.f3.f1,.bool x.f4] 92))
 (try simp only[Exit.inBlock,Exit.then])
 refine bodyPost_ret (results_list (rs:=[.cell 4 92,.tmp 5]) rfl (by simp) (.cell w.heap.size 92 #[.int .i64 x.f0,.int .i64 x.f1,.int .u64 x.f2,.int .i64 x.f3.f0,.int .u64 x.f3.f1,.bool x.f4] (0,0) _ rfl hres Tryz.underlying92 rfl (by kernel_rfl) (.tmp .nil))) rfl ?_
 exact⟨rfl,(by with_reducible repeat (first|exact HB.out|refine below_alloc ?_ _|refine pw_below_drewN ?_ _|refine below_drew1 ?_|refine below_set ?_ (Nat.le_refl _)|(refine below_set ?_ ?_;rotate_left;omega)))⟩
set_option maxHeartbeats 3000000 in
set_option maxRecDepth 100000 in
theorem hpAt (ps:List Sp) (A1 A2 A3:Option Addr) (c1 c2 c3:Nat) (ws us:List Int) (xs:List S51) (w:World) (hr:HRel ps ws us xs) (hm:HMem w A1 A2 A3 c1 c2 c3 ws us xs) (a:Nat) (o:Ob) (hh:∃p∈ps,∃k,p.ob k=some o∧p.ad k=a∧(p.swept || o.b)=true):
  Calls Tryz.prog 14 #[.agg #[.slice A1 ws.length c1,.int .i64 30,.slice A2 us.length c2,.slice A3 xs.length c3],.int .u64 (a:Int)] w fun e w'=>e=.returned (.tuple #[.agg #[.int .i64 (o.n:Int),.int .u64 (o.m:Int)],.int .i64 0])∧Below w.heap.size w w':=by
 have hue:=Tryz.underlying81
 have hu34:=Tryz.underlying34
 have hu92:=Tryz.underlying92
 have hu41:=Tryz.underlying41
 obtain⟨j,x,hjx,e2,e30,e31,e4⟩:∃(j:Nat) (x:S92),(objsF 0 ps)[j]? =some x∧x.f2=(a:Int)∧x.f3.f0=(o.n:Int)∧x.f3.f1=(o.m:Int)∧x.f4=true:=by
  obtain⟨p,hp,k,h1,h2,h3⟩:=hh
  obtain⟨i,hi⟩:=List.mem_iff_getElem?.1 hp
  have hm:oS (0 + i) k p o∈objsF 0 ps:=mem_objsF.2 ⟨i,p,k,o,hi,((hr.good.at hi).ob k o h1).lt,h1,rfl⟩
  obtain⟨j,hj⟩:=List.mem_iff_getElem?.1 hm
  exact⟨j,_,hj,by show ((p.ad k:Nat):Int)=_;rw[h2],rfl,rfl,h3⟩
 have HM:=As hm
 have HR:=As hr
 have HJX:=As hjx
 have HE:=As (And.intro e30 (And.intro e31 e4))
 rw[←e2]
 clear hm hr hh hjx e2 e30 e31 e4
 go_enter Tryz.func14,Tryz.ntmps14
 go_wp2_with (fail)
 have hbz:=blk_new (w.alloc (Obj.cells #[.slice A1 ws.length c1,.int .i64 30,.slice A2 us.length c2,.slice A3 xs.length c3] 34)) (Obj.cells #[.int .i64 0,.int .u64 0] 41)
 have hb0:=below_alloc (below_alloc (Below.refl w.heap.size w) (Obj.cells #[.slice A1 ws.length c1,.int .i64 30,.slice A2 us.length c2,.slice A3 xs.length c3] 34)) (Obj.cells #[.int .i64 0,.int .u64 0] 41)
 rw[World.size_alloc] at hbz
 refine (hpOpen ps A1 A2 A3 c1 c2 c3 ws us xs _ HR.out (HM.out.below hb0)).mono ?_
 generalize (w.alloc (Obj.cells #[.slice A1 ws.length c1,.int .i64 30,.slice A2 us.length c2,.slice A3 xs.length c3] 34)).alloc (Obj.cells #[.int .i64 0,.int .u64 0] 41)=w2 at hbz hb0 ⊢
 rintro e w11 ⟨sb,A5,c5,rfl,hsb,hbx,ho,hb⟩
 have HBZ:=As (blk_below hbz hb)
 have HB:=As (below_step hb0 hb)
 obtain⟨-,h5,hC5⟩:=Kd.R_reads' ho
 have hs4:=Z.c4 hbx
 obtain⟨hj,hxe⟩:=List.getElem?_eq_some_iff.1 HJX.out
 have HL:=As (hpLead A5 c5 (objsF 0 ps) sb w11 (objsF_sorted HR.out.good 0) (fun x hx=>(objsF_bounds HR.out.good hx).2.2.1) (fun x hx=>(objsF_bounds HR.out.good hx).1) (HR.out.good.few 0) j hj x hxe.symm HE.out.2.2 hC5 h5 hs4)
 clear hbz hb0 hbx ho hb h5 hC5 hs4 hj hxe
 dsimp only
 go_wp2_with (fail)
 refine HL.out.mono ?_
 rintro e w21 ⟨rfl,hb⟩
 unfold obV
 rw[HE.out.1,HE.out.2.1]
 have hbz1:=blk_below HBZ.out hb
 have HB2:=As (below_step HB.out hb)
 clear HB hb HL HBZ
 have HB:=HB2
 have hgl:=blk_lt hbz1
 have hf:=fun j=>blk_frozen hbz1 j
 have ho0:w21.cell? ⟨(w.heap.size+1),0,none⟩=some (.int .i64 0):=(blk_cell hbz1 0).trans rfl
 have ho1:w21.cell? ⟨(w.heap.size+1),1,none⟩=some (.int .u64 0):=(blk_cell hbz1 1).trans rfl
 dsimp only
 go_wp2_with (fail)
 have hres:=(blk_alloc (blk_put (cs:=#[.int .i64 (o.n:Int),.int .u64 0]) (cs':=#[.int .i64 (o.n:Int),.int .u64 (o.m:Int)]) (blk_put (cs:=#[.int .i64 0,.int .u64 0]) (cs':=#[.int .i64 (o.n:Int),.int .u64 0]) hbz1 0 (.int .i64 (o.n:Int)) rfl) 1 (.int .u64 (o.m:Int)) rfl) (Obj.cells #[.int .i64 x.f0,.int .i64 x.f1,.int .u64 x.f2,.int .i64 (o.n:Int),.int .u64 (o.m:Int),.bool x.f4] 92))
 (try simp only[Exit.inBlock,Exit.then])
 refine bodyPost_ret (results_list (rs:=[.cell 4 41,.tmp 5]) rfl (by simp) (.cell (w.heap.size+1) 41 #[.int .i64 (o.n:Int),.int .u64 (o.m:Int)] (0,0) _ rfl hres Tryz.underlying41 rfl (by kernel_rfl) (.tmp .nil))) rfl ?_
 exact⟨rfl,(by with_reducible repeat (first|exact HB.out|refine below_alloc ?_ _|(refine below_set ?_ ?_;rotate_left;exact Nat.le_succ _)))⟩
end Go.Proofs.YtmmfchnbfnegnaaGreatDoor.K
end
