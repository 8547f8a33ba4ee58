import Derived.Test.YtmmfchnbfnegnaaGreatDoorM10
import Derived.Test.YtmmfchnbfnegnaaGreatDoorM09
import Derived.Test.YtmmfchnbfnegnaaGreatDoorM08
import Derived.Laws.EntriesVeiled
import Derived.Test.YtmmfchnbfnegnaaGreatDoorM03
import Derived.Test.YtmmfchnbfnegnaaGreatDoorM06
import Derived.Test.YtmmfchnbfnegnaaGreatDoorM07
section
namespace Go.Proofs.YtmmfchnbfnegnaaGreatDoor.K
open Go.RowKit Go.Proofs.YtmmfchnbfnegnaaGreatDoorW.PrintWords Go.Proofs.YtmmfchnbfnegnaaGreatDoorW.PrintLast Go.Proofs.YtmmfchnbfnegnaaGreatDoorW.PrintMore Go.Proofs.YtmmfchnbfnegnaaGreatDoor.GK
set_option linter.unusedVariables false
set_option linter.unusedSimpArgs false
attribute [local go_sem] max2_int min2_int max_two min_two max_three min_three max_four min_four
def encS (x:S48):List Value:=[.int .u64 x.f0,.int .u8 x.f1,.int .u64 x.f2]
theorem encS_form (l:List S48):∀x∈l.map encS,FormSp x:=fun x hx=>by
 obtain⟨y,_,rfl⟩:=List.mem_map.1 hx
 exact⟨_,_,_,rfl⟩
theorem encS_raw {w:World} {A:Option Addr} {n:Nat} {l:List S48} (h:Kd.C k48 w A n l):Kd.C (Kd.raw 3) w A n (l.map encS):=by
 obtain⟨h1,h2,h3⟩:=h
 refine⟨by rw[List.length_map];exact h1,h2,fun hn=>?_⟩
 obtain⟨ad,e,hc⟩:=h3 hn
 refine⟨ad,e,fun j p hj=>?_⟩
 rw[List.getElem?_map] at hj
 obtain⟨y,hy,rfl⟩:=Option.map_eq_some_iff.1 hj
 obtain⟨c,hs,hr,hcell⟩:=hc j y hy
 obtain rfl:=k48_open hr
 exact⟨_,rfl,⟨rfl,rfl,by simp[encS,Value.oneCell']⟩,hcell⟩
theorem encS_back {w:World} {A:Option Addr} {n:Nat} {l:List S48} (h:Kd.C (Kd.raw 3) w A n (l.map encS)):Kd.C k48 w A n l:=by
 obtain⟨h1,h2,h3⟩:=h
 refine⟨by rw[List.length_map] at h1;exact h1,h2,fun hn=>?_⟩
 obtain⟨ad,e,hc⟩:=h3 hn
 refine⟨ad,e,fun j p hj=>?_⟩
 obtain⟨c,hs,hr,hcell⟩:=hc j (encS p) (by rw[List.getElem?_map,hj];rfl)
 obtain⟨rfl,_,_⟩:=hr
 exact⟨_,rfl,k48_mk w p,hcell⟩
theorem spPut1 (g:Nat) (y a0 a1 a2:Int) (W:World) (hg:W.cell? ⟨g,0,none⟩=some (.int .u64 y)):
  Calls Tryz.prog 73 #[.agg #[.int .u64 a0,.int .u8 a1,.int .u64 a2],.pointer (some ⟨g,0,none⟩)] W fun e W'=>e=.returned (.bool (decide (y < a0)))∧Below W.heap.size W W':=by
 have hue:=Tryz.underlying48
 have hlt:=World.block_lt_of_cell? _ _ hg
 go_enter Tryz.func73,Tryz.ntmps73
 go_wp2
 go_ret
 exact⟨rfl,by repeat (first|exact Below.refl _ _|apply below_alloc|apply pw_below_drewN|apply below_drew1)⟩
theorem spTake1 (g1 g2:Nat) (y z a0 a1 a2:Int) (W:World) (hg1:W.cell? ⟨g1,0,none⟩=some (.int .u64 y)) (hg2:W.cell? ⟨g2,0,none⟩=some (.int .u8 z)):
  Calls Tryz.prog 40 #[.agg #[.int .u64 a0,.int .u8 a1,.int .u64 a2],.pointer (some ⟨g1,0,none⟩),.pointer (some ⟨g2,0,none⟩)] W fun e W'=>e=.returned (.bool (decide (a0=y∧a1=z)))∧Below W.heap.size W W':=by
 have hue:=Tryz.underlying48
 have hlt:=World.block_lt_of_cell? _ _ hg1
 have hlt2:=World.block_lt_of_cell? _ _ hg2
 go_enter Tryz.func40,Tryz.ntmps40
 by_cases h0:a0=y
 ·by_cases h1:a1=z
  ·go_wp2
   go_ret
   exact⟨by first|simp[h1]|simp[h0,h1],by repeat (first|exact Below.refl _ _|apply below_alloc|apply pw_below_drewN|apply below_drew1)⟩
  ·go_wp2
   go_ret
   exact⟨by first|simp[h1]|simp[h0,h1],by repeat (first|exact Below.refl _ _|apply below_alloc|apply pw_below_drewN|apply below_drew1)⟩
 ·go_wp2
  go_ret
  exact⟨by simp[h0],by repeat (first|exact Below.refl _ _|apply below_alloc|apply pw_below_drewN|apply below_drew1)⟩
theorem fnTake1:FnIs Tryz.prog 40:=⟨_,Tryz.func40,by kernel_rfl,rfl⟩
theorem fnTake2:FnIs Tryz.prog 42:=⟨_,Tryz.func42,by kernel_rfl,rfl⟩
theorem fnPut1:FnIs Tryz.prog 73:=⟨_,Tryz.func73,by kernel_rfl,rfl⟩
theorem spTake2 (g g1 g2:Nat) (y z a0 a1 a2:Int) (W:World) (hg:W.cell? ⟨g,0,none⟩=some (.func (.func 40) #[] #[.pointer (some ⟨g1,0,none⟩),.pointer (some ⟨g2,0,none⟩)])) (hg1:W.cell? ⟨g1,0,none⟩=some (.int .u64 y)) (hg2:W.cell? ⟨g2,0,none⟩=some (.int .u8 z)):
  Calls Tryz.prog 42 #[.agg #[.int .u64 a0,.int .u8 a1,.int .u64 a2],.pointer (some ⟨g,0,none⟩)] W fun e W'=>e=.returned (.bool (!decide (a0=y∧a1=z)))∧Below W.heap.size W W':=by
 have hue:=Tryz.underlying48
 have hlt:=World.block_lt_of_cell? _ _ hg
 have hlt1:=World.block_lt_of_cell? _ _ hg1
 have hlt2:=World.block_lt_of_cell? _ _ hg2
 have H1:=As (fun W' (hb:Below W.heap.size W W')=>spTake1 g1 g2 y z a0 a1 a2 W' ((hb.cell hlt1).trans hg1) ((hb.cell hlt2).trans hg2))
 clear hg1 hg2
 obtain⟨b,hb⟩:∃b,b=decide (a0=y∧a1=z):=⟨_,rfl⟩
 rw[←hb] at H1 ⊢
 clear hb
 go_enter Tryz.func42,Tryz.ntmps42
 go_wp2_with ((with_reducible refine gateF_ rfl ?_);refine goesF_ (some 6) rfl rfl fnTake1 #[] #[.agg #[.int .u64 a0,.int .u8 a1,.int .u64 a2]] #[.pointer (some ⟨g1,0,none⟩),.pointer (some ⟨g2,0,none⟩)] rfl (by rfl) (by (try simp only[List.map_toArray,List.map_cons,List.map_nil]);first|done|rfl) ?_;refine (H1.out _ (by repeat (first|exact Below.refl _ _|apply below_alloc|apply pw_below_drewN|apply below_drew1))).mono ?_;rintro e w6 ⟨rfl,hb⟩;refine⟨_,rfl,?_⟩;have HB2:=As (show Below W.heap.size W w6 from below_step (by repeat (first|exact Below.refl _ _|apply below_alloc|apply pw_below_drewN|apply below_drew1)) hb);clear hb)
 go_ret
 exact⟨rfl,by repeat (first|exact HB2.out|apply below_alloc|apply pw_below_drewN|apply below_drew1)⟩
def spP (y:Int) (x:List Value):Bool:=match x with
 |.int _ a::_=>decide (y < a)
 |_=>false
def putR (y:Int) (x:List Value) (rows:List (List Value)):List (List Value):=if ixP (spP y) rows 0 < 0 then rows ++ [x] else rows.take (ixP (spP y) rows 0).toNat ++ [x] ++ rows.drop (ixP (spP y) rows 0).toNat
theorem ixP_range (p:List Value→Bool):∀(l:List (List Value)) (i:Nat),ixP p l i < 0∨∃j:Nat,ixP p l i=(j:Int)∧i≤j∧j < i + l.length
 | [],i=>.inl (by simp[ixP])
 |x::r,i=>by
  rw[ixP]
  by_cases h:p x=true
  ·rw[if_pos h];exact .inr ⟨i,rfl,Nat.le_refl _,by simp⟩
  ·rw[if_neg h]
   rcases ixP_range p r (i + 1) with h1|⟨j,h1,h2,h3⟩
   ·exact .inl (by simpa using h1)
   ·exact .inr ⟨j,by simpa using h1,by omega,by simp only[List.length_cons];omega⟩
set_option maxHeartbeats 8000000 in
set_option maxRecDepth 100000 in
theorem spPut (s:S48) (hs:0 < s.f0∧s.f1=2) (v:Value) (rows:List (List Value)) (w0 w:World) (hB:Below w0.heap.size w0 w) (hr:Kd.R (Kd.raw 3) 48 w w0.heap.size (fun _=>True) v rows) (hform:∀x∈rows,FormSp x) (hlen:rows.length < 64):
  Calls Tryz.prog 30 #[v,.agg #[.int .u64 s.f0,.int .u8 s.f1,.int .u64 s.f2]] w fun e w'=>∃v':Value,e=.returned (.tuple #[v',.int .i64 0])∧Kd.R (Kd.raw 3) 48 w' w0.heap.size (fun _=>True) v' (putR s.f0 (encS s) rows)∧Below w0.heap.size w0 w':=by
 have hue:=Tryz.underlying48
 obtain⟨A,c,rfl⟩:=Kd.R_slice hr
 obtain⟨hn,hnc,hC⟩:=Kd.R_reads' hr
 obtain⟨s0,s1,s2⟩:=s
 obtain⟨hs0,hs1⟩:=hs
 subst hs1
 have hne:decide ((rows.length:Int)=64)=false:=decide_eq_false (by omega)
 have hone:special_one.f s0 2 s2=some true:=by unfold special_one.f;rw[if_pos hs0,if_pos (by decide)];rfl
 have HR:=As hr
 have HC:=As hC
 have HB:=As hB
 have HF:=As hform
 clear hr hC hB hform
 have HPUT:=As (fun W (hg:W.cell? ⟨w.heap.size,0,none⟩=some (.int .u64 s0)) x (hx:x∈rows)=>show Calls Tryz.prog 73 (#[] ++ #[.agg x.toArray] ++ #[.pointer (some ⟨w.heap.size,0,none⟩)]) W fun e W'=>e=.returned (.bool (spP s0 x))∧Below W.heap.size W W' by
  obtain⟨a0,a1,a2,rfl⟩:=HF.out x hx
  exact spPut1 _ s0 a0 a1 a2 W hg)
 obtain⟨ix,hix⟩:∃ix,ix=ixP (spP s0) rows 0:=⟨_,rfl⟩
 have hrange:=ixP_range (spP s0) rows 0
 unfold putR
 have HIX:=As hix
 rw[show (((0:Nat):Int))=0 from rfl,←hix] at hrange
 simp only[←hix]
 clear hix
 rcases hrange with h0|⟨j,h0, -,h2⟩
 ·have hd:decide (ix < 0)=true:=decide_eq_true h0
  rw[if_pos h0]
  go_enter Tryz.func30,Tryz.ntmps30
  go_wp2_with (first|((with_reducible refine gate_callee (f:=70) rfl ?_);refine Z.gl 9 Tryz.func70 #[.agg #[.int .u64 s0,.int .u8 2,.int .u64 s2]] ?_;refine (special_one.calls s0 2 s2 true _ hone).mono ?_;rintro e w9 ⟨rfl,hb⟩;refine⟨_,rfl,?_⟩;have HB9:=As (show Below w.heap.size w w9 from below_step (by repeat (first|exact Below.refl _ _|apply below_alloc|apply pw_below_drewN|apply below_drew1)) hb);have hcx:w9.cell? ⟨w.heap.size,0,none⟩=some (.int .u64 s0):=(hb.cell (by simp)).trans (by simp);have hcx1:w9.cell? ⟨w.heap.size,1,none⟩=some (.int .u8 2):=(hb.cell (by simp)).trans (by simp);have hcx2:w9.cell? ⟨w.heap.size,2,none⟩=some (.int .u64 s2):=(hb.cell (by simp)).trans (by simp);have hlx:=World.block_lt_of_cell? _ _ hcx;clear hb)|((with_reducible refine gate_callee (f:=72) rfl ?_);refine Z.gl 30 Tryz.func72 #[.slice A rows.length c,.func (.func 73) #[] #[.pointer (some ⟨w.heap.size,0,none⟩)]] ?_;refine (ixSp (first:=#[]) (cap:=#[.pointer (some ⟨w.heap.size,0,none⟩)]) (spP s0) A c rows _ (Kd.C_below HC.out HB9.out) fnPut1 (fun W x hb hx=>HPUT.out W ((hb.cell hlx).trans hcx) x hx)).mono ?_;rintro e w30 ⟨rfl,hb⟩;refine⟨_,rfl,?_⟩;rw[←HIX.out];have HB2:=As (show Below w.heap.size w w30 from below_step HB9.out hb);have hcy:w30.cell? ⟨w.heap.size,0,none⟩=some (.int .u64 s0):=(hb.cell hlx).trans hcx;have hcy1:w30.cell? ⟨w.heap.size,1,none⟩=some (.int .u8 2):=(show w30.cell? ⟨w.heap.size,1,none⟩=w9.cell? ⟨w.heap.size,1,none⟩ from hb.cell hlx).trans hcx1;have hcy2:w30.cell? ⟨w.heap.size,2,none⟩=some (.int .u64 s2):=(show w30.cell? ⟨w.heap.size,2,none⟩=w9.cell? ⟨w.heap.size,2,none⟩ from hb.cell hlx).trans hcx2;clear hb)|((with_reducible refine gate_callee (f:=74) rfl ?_);refine Z.gl 39 Tryz.func74 #[.slice A rows.length c,.int .i64 (rows.length:Int),.slice (some ⟨w30.heap.size,0,none⟩) 1 1] ?_;refine (insSp_end w30.heap.size [.int .u64 s0,.int .u8 2,.int .u64 s2] _ rows w0 _ (below_alloc (below_step HB.out HB2.out) _) (Kd.R_alloc (Kd.R_below HR.out HB2.out) _) (blk_new _ _) rfl (by simp[Value.oneCell']) (by omega)).mono ?_;rintro e w39 ⟨v',rfl,ho,hb, -⟩;refine⟨_,rfl,?_⟩;have HO:=As ho;have HB3:=As hb;clear ho hb))
  go_ret2
  exact⟨v',rfl,HO.out,HB3.out⟩
 ·have hd:decide (ix < 0)=false:=decide_eq_false (by omega)
  rw[if_neg (by omega),h0,Int.toNat_natCast]
  rw[h0] at HIX hd
  clear h0
  go_enter Tryz.func30,Tryz.ntmps30
  go_wp2_with (first|((with_reducible refine gate_callee (f:=70) rfl ?_);refine Z.gl 9 Tryz.func70 #[.agg #[.int .u64 s0,.int .u8 2,.int .u64 s2]] ?_;refine (special_one.calls s0 2 s2 true _ hone).mono ?_;rintro e w9 ⟨rfl,hb⟩;refine⟨_,rfl,?_⟩;have HB9:=As (show Below w.heap.size w w9 from below_step (by repeat (first|exact Below.refl _ _|apply below_alloc|apply pw_below_drewN|apply below_drew1)) hb);have hcx:w9.cell? ⟨w.heap.size,0,none⟩=some (.int .u64 s0):=(hb.cell (by simp)).trans (by simp);have hcx1:w9.cell? ⟨w.heap.size,1,none⟩=some (.int .u8 2):=(hb.cell (by simp)).trans (by simp);have hcx2:w9.cell? ⟨w.heap.size,2,none⟩=some (.int .u64 s2):=(hb.cell (by simp)).trans (by simp);have hlx:=World.block_lt_of_cell? _ _ hcx;clear hb)|((with_reducible refine gate_callee (f:=72) rfl ?_);refine Z.gl 30 Tryz.func72 #[.slice A rows.length c,.func (.func 73) #[] #[.pointer (some ⟨w.heap.size,0,none⟩)]] ?_;refine (ixSp (first:=#[]) (cap:=#[.pointer (some ⟨w.heap.size,0,none⟩)]) (spP s0) A c rows _ (Kd.C_below HC.out HB9.out) fnPut1 (fun W x hb hx=>HPUT.out W ((hb.cell hlx).trans hcx) x hx)).mono ?_;rintro e w30 ⟨rfl,hb⟩;refine⟨_,rfl,?_⟩;rw[←HIX.out];have HB2:=As (show Below w.heap.size w w30 from below_step HB9.out hb);have hcy:w30.cell? ⟨w.heap.size,0,none⟩=some (.int .u64 s0):=(hb.cell hlx).trans hcx;have hcy1:w30.cell? ⟨w.heap.size,1,none⟩=some (.int .u8 2):=(show w30.cell? ⟨w.heap.size,1,none⟩=w9.cell? ⟨w.heap.size,1,none⟩ from hb.cell hlx).trans hcx1;have hcy2:w30.cell? ⟨w.heap.size,2,none⟩=some (.int .u64 s2):=(show w30.cell? ⟨w.heap.size,2,none⟩=w9.cell? ⟨w.heap.size,2,none⟩ from hb.cell hlx).trans hcx2;clear hb)|((with_reducible refine gate_callee (f:=74) rfl ?_);refine Z.gl 39 Tryz.func74 #[.slice A rows.length c,.int .i64 (j:Int),.slice (some ⟨w30.heap.size,0,none⟩) 1 1] ?_;refine (insSp_mid w30.heap.size j [.int .u64 s0,.int .u8 2,.int .u64 s2] _ rows w0 _ (by omega) (below_alloc (below_step HB.out HB2.out) _) (Kd.R_mono (Kd.R_alloc (Kd.R_bound (Kd.R_below HR.out HB2.out)) _) (fun k hk=>Nat.ne_of_lt hk.2.2.1)) (blk_new _ _) rfl (by simp[Value.oneCell']) (by omega)).mono ?_;rintro e w39 ⟨v',rfl,ho,hb, -⟩;refine⟨_,rfl,?_⟩;have HO:=As ho;have HB3:=As hb;clear ho hb))
  go_ret2
  exact⟨v',rfl,by simpa[encS] using HO.out,HB3.out⟩
set_option maxHeartbeats 8000000 in
set_option maxRecDepth 100000 in
theorem spAdd (k:Nat) (s:S48) (hs:0 < s.f0∧s.f1=2) (A0 A1:Option Addr) (c0 c1:Nat) (l:List S48) (w:World) (hr0:Kd.C k48 w A0 l.length l) (hc0:l.length≤c0) (hr1:Kd.C k48 w A1 1 [s]) (hck:special_Check.f k l=some 0) (hlen:l.length < 64):
  Calls Tryz.prog 7 #[.slice A0 l.length c0,.slice A1 1 c1] w fun e w'=>∃v':Value,e=.returned (.tuple #[v',.int .i64 0])∧Kd.R (Kd.raw 3) 48 w' w.heap.size (fun _=>True) v' (putR s.f0 (encS s) (l.map encS))∧Below w.heap.size w w':=by
 have hue:=Tryz.underlying48
 have HCK:=As (special_Check.calls k A0 c0 l 0 w hr0 hc0 hck)
 have HCL:=As (fun W (hb:Below w.heap.size w W)=>cloneSp A0 c0 (l.map encS) W (by rw[List.length_map];exact encS_raw (Kd.C_below hr0 hb)) (by rw[List.length_map];omega))
 rw[List.length_map] at HCL
 have HPU:=As (fun v W (hb:Below w.heap.size w W) (ho:Kd.R (Kd.raw 3) 48 W w.heap.size (fun _=>True) v (l.map encS))=>spPut s hs v (l.map encS) w W hb ho (encS_form l) (by rw[List.length_map];omega))
 have HR1:=As hr1
 clear hr0 hr1 hck hs
 obtain⟨s0,s1,s2⟩:=s
 go_enter Tryz.func7,Tryz.ntmps7
 go_wp2_with (first|((with_reducible refine gate_callee (f:=28) rfl ?_);refine Z.gl 12 Tryz.func28 #[.slice A0 l.length c0] ?_;refine HCK.out.mono ?_;rintro e w12 ⟨rfl,hb⟩;refine⟨_,rfl,?_⟩;have HB12:=As hb;clear hb HCK)|((with_reducible refine gate_callee (f:=29) rfl ?_);refine Z.gl 17 Tryz.func29 #[.slice A0 l.length c0] ?_;refine (HCL.out _ HB12.out).mono ?_;rintro e w17 ⟨v17,rfl,ho,hb⟩;refine⟨_,rfl,?_⟩;have HO:=As (Kd.R_lower ho (below_size HB12.out));have HB:=As (show Below w.heap.size w w17 from below_step HB12.out hb);clear hb ho HCL HB12))
 go_loopw [7,20] (fun v7 v20 wr=>((v20=.int .i64 0∧Aside0 (Kd.R (Kd.raw 3) 48 wr w.heap.size (fun _=>True) v7 (l.map encS)))∨(v20=.int .i64 1∧Aside0 (Kd.R (Kd.raw 3) 48 wr w.heap.size (fun _=>True) v7 (putR s0 (encS ⟨s0,s1,s2⟩) (l.map encS)))))∧Aside0 (Below w.heap.size w wr)) (fun v7 v20 _=>1 - (intOf v20).toNat)
 case atStart=>exact⟨.inl ⟨rfl,⟨HO.out⟩⟩,⟨HB.out⟩⟩
 case round=>
  clear HB HO
  obtain⟨hor,HB⟩:=hrel
  rcases hor with⟨rfl,HO⟩|⟨rfl,HO⟩
  ·obtain⟨ad,eA,hx0,hx1,hx2⟩:=at_T48 (Kd.C_below HR1.out HB.out) 0 (by omega) (by omega)
   subst eA
   have hx0:wr.cell? ad=some (.int .u64 s0):=by simpa[rd_T48,Addr.add_zero'] using hx0
   have hx1:wr.cell? ⟨ad.block,ad.off + 1,none⟩=some (.int .u8 s1):=by simpa[rd_T48,Addr.add_zero'] using hx1
   have hx2:wr.cell? ⟨ad.block,ad.off + 2,none⟩=some (.int .u64 s2):=by simpa[rd_T48,Addr.add_zero'] using hx2
   go_wp2_with (first|((with_reducible refine gate_callee (f:=30) rfl ?_);refine Z.gl 27 Tryz.func30 #[_,.agg #[.int .u64 s0,.int .u8 s1,.int .u64 s2]] ?_;refine (HPU.out _ _ (below_alloc HB.out _) (Kd.R_alloc HO.out _)).mono ?_;rintro e w27 ⟨v27,rfl,ho,hb⟩;refine⟨_,rfl,?_⟩;have HO2:=As ho;have HB2:=As hb;clear hb ho HPU))
   go_roundw
   case rel=>exact⟨.inr ⟨rfl,⟨HO2.out⟩⟩,⟨HB2.out⟩⟩
   case measure=>simp[intOf]
  ·go_wp2
   go_ret2
   exact⟨_,rfl,HO.out,HB.out⟩
theorem own_one {sz e base:Nat} {W:World} {v:Value} {rows:List (List Value)} (h:Kd.R (Kd.raw sz) e W base (fun _=>True) v rows):∃gv,base≤gv∧Kd.R (Kd.raw sz) e W base (fun k=>k=gv) v rows:=by
 obtain⟨h1,inner,h2,h3⟩:=h
 rcases h2.2 with⟨hv,_⟩|⟨g,c,cur,hv,hb,hr⟩
 ·exact⟨base,Nat.le_refl _,fun k hk=>(by rw[hv] at hk;simp[Value.ownBlock] at hk),inner,h2,h3⟩
 ·exact⟨g,hb,fun k hk=>(by rw[hv] at hk;simpa[Value.ownBlock] using hk.symm),inner,h2,h3⟩
def isP (y z:Int) (x:List Value):Bool:=match x with
 |.int _ a::.int _ b::_=>decide (a=y∧b=z)
 |_=>false
set_option maxHeartbeats 8000000 in
set_option maxRecDepth 100000 in
theorem spTake (k:Nat) (y z:Int) (A0:Option Addr) (c0:Nat) (l:List S48) (w:World) (hr0:Kd.C k48 w A0 l.length l) (hc0:l.length≤c0) (hck:special_Check.f k l=some 0) (hlen:l.length < 64):
  Calls Tryz.prog 10 #[.slice A0 l.length c0,.int .u64 y,.int .u8 z] w fun e w'=>∃A1 c1 A2 c2,e=.returned (.tuple #[.slice A1 ((l.map encS).filter fun x=>!isP y z x).length c1,.slice A2 ((l.map encS).filter fun x=>isP y z x).length c2,.int .i64 0])∧((l.map encS).filter fun x=>!isP y z x).length≤c1∧Kd.C (Kd.raw 3) w' A1 ((l.map encS).filter fun x=>!isP y z x).length ((l.map encS).filter fun x=>!isP y z x)∧Below w.heap.size w w'∧Kd.R (Kd.raw 3) 48 w' w.heap.size (fun _=>True) (.slice A1 ((l.map encS).filter fun x=>!isP y z x).length c1) ((l.map encS).filter fun x=>!isP y z x):=by
 have hue:=Tryz.underlying48
 have HCK:=As (fun W (hb:Below w.heap.size w W)=>special_Check.calls k A0 c0 l 0 W (Kd.C_below hr0 hb) hc0 hck)
 have HCL:=As (fun W (hb:Below w.heap.size w W)=>cloneSp A0 c0 (l.map encS) W (by rw[List.length_map];exact encS_raw (Kd.C_below hr0 hb)) (by rw[List.length_map];omega))
 rw[List.length_map] at HCL
 have HF:=As (encS_form l)
 clear hr0 hck
 obtain⟨rows,hrows⟩:∃rows,rows=l.map encS:=⟨_,rfl⟩
 rw[←hrows] at HCL HF ⊢
 clear hrows
 go_enter Tryz.func10,Tryz.ntmps10
 go_wp2_with (first|((with_reducible refine gate_callee (f:=28) rfl ?_);refine Z.gl 14 Tryz.func28 #[.slice A0 l.length c0] ?_;refine (HCK.out _ (by repeat (first|exact Below.refl _ _|apply below_alloc|apply pw_below_drewN|apply below_drew1))).mono ?_;rintro e w14 ⟨rfl,hb⟩;refine⟨_,rfl,?_⟩;have HB12:=As (show Below w.heap.size w w14 from below_step (by repeat (first|exact Below.refl _ _|apply below_alloc|apply pw_below_drewN|apply below_drew1)) hb);have hcx:w14.cell? ⟨w.heap.size,0,none⟩=some (.int .u64 y):=(hb.cell (by first|(simp;done)|(simp;omega))).trans (by simp);have hcy:w14.cell? ⟨w.heap.size + 1,0,none⟩=some (.int .u8 z):=(hb.cell (by simp)).trans (by simp);clear hb HCK))
 obtain⟨g3,hg3⟩:∃g3,g3=w14.heap.size:=⟨_,rfl⟩
 have hsz:=HB12.out.size
 have hl1:w.heap.size + 1 < w14.heap.size:=World.block_lt_of_cell? _ _ hcy
 have HB15:=As (below_alloc HB12.out (Obj.cells #[(.func (.func 40) #[] #[.pointer (some ⟨w.heap.size,0,none⟩),.pointer (some ⟨w.heap.size + 1,0,none⟩)])] 104))
 have hf5:(w14.alloc (Obj.cells #[(.func (.func 40) #[] #[.pointer (some ⟨w.heap.size,0,none⟩),.pointer (some ⟨w.heap.size + 1,0,none⟩)])] 104)).cell? ⟨g3,0,none⟩=some (.func (.func 40) #[] #[.pointer (some ⟨w.heap.size,0,none⟩),.pointer (some ⟨w.heap.size + 1,0,none⟩)]):=by rw[hg3];simp
 have hb14:Below w14.heap.size w14 (w14.alloc (Obj.cells #[(.func (.func 40) #[] #[.pointer (some ⟨w.heap.size,0,none⟩),.pointer (some ⟨w.heap.size + 1,0,none⟩)])] 104)):=below_alloc (Below.refl _ _) _
 have hcx5:=(show (w14.alloc (Obj.cells #[(.func (.func 40) #[] #[.pointer (some ⟨w.heap.size,0,none⟩),.pointer (some ⟨w.heap.size + 1,0,none⟩)])] 104)).cell? ⟨w.heap.size,0,none⟩=w14.cell? ⟨w.heap.size,0,none⟩ from hb14.cell (show w.heap.size < _ by omega)).trans hcx
 have hcy5:=(show (w14.alloc (Obj.cells #[(.func (.func 40) #[] #[.pointer (some ⟨w.heap.size,0,none⟩),.pointer (some ⟨w.heap.size + 1,0,none⟩)])] 104)).cell? ⟨w.heap.size + 1,0,none⟩=w14.cell? ⟨w.heap.size + 1,0,none⟩ from hb14.cell (show w.heap.size + 1 < _ from hl1)).trans hcy
 rw[←hg3]
 clear hcx hcy hb14
 generalize (w14.alloc (Obj.cells #[(.func (.func 40) #[] #[.pointer (some ⟨w.heap.size,0,none⟩),.pointer (some ⟨w.heap.size + 1,0,none⟩)])] 104))=w15 at HB15 hf5 hcx5 hcy5 ⊢
 clear HB12 hg3 hsz hl1
 have HB16:=As (below_drew1 HB15.out)
 have hf6:w15.drew.cell? ⟨g3,0,none⟩=some (.func (.func 40) #[] #[.pointer (some ⟨w.heap.size,0,none⟩),.pointer (some ⟨w.heap.size + 1,0,none⟩)]):=hf5
 have hcx6:w15.drew.cell? ⟨w.heap.size,0,none⟩=some (.int .u64 y):=hcx5
 have hcy6:w15.drew.cell? ⟨w.heap.size + 1,0,none⟩=some (.int .u8 z):=hcy5
 refine start_ (n:=5) (S:=fun w'=>w'.cell? ⟨g3,0,none⟩=some (.func (.func 40) #[] #[.pointer (some ⟨w.heap.size,0,none⟩),.pointer (some ⟨w.heap.size + 1,0,none⟩)])) (ds:=[]) #[false,false,false,false,false] (by kernel_rfl) rfl rfl hf6 (fun hHeld=>?_)
 clear HB15 hf5 hcx5 hcy5
 generalize w15.drew=w16 at HB16 hf6 hcx6 hcy6 hHeld ⊢
 have hl1:w.heap.size < w16.heap.size:=World.block_lt_of_cell? _ _ hcx6
 have hl2:w.heap.size + 1 < w16.heap.size:=World.block_lt_of_cell? _ _ hcy6
 have hl3:g3 < w16.heap.size:=World.block_lt_of_cell? _ _ hf6
 refine Z.p_ 0 19 ?_
 refine Z.t_ 2 21 hHeld ?_
 refine Z.on 1 (some 20) fun K hK=>?_
 refine Z.gs Tryz.func29 #[.slice A0 l.length c0] ?_
 with_reducible refine (HCL.out _ HB16.out).mono ?_
 rintro e w20 ⟨v20,rfl,ho,hb⟩
 refine⟨_,rfl,?_⟩
 obtain⟨gv,hgv,ho⟩:=own_one ho
 have HO:=As ho
 have HB20:=As hb
 refine hK.out _ _ ((show w20.cell? ⟨g3,0,none⟩=w16.cell? ⟨g3,0,none⟩ from hb.cell hl3).trans hf6) (fun hHeld=>?_)
 clear hb ho
 clear hK K
 refine Z.n_ 20 ?_
 refine Z.on 3 (some 22) fun K hK=>?_
 refine Z.gs Tryz.func41 #[v20,(.func (.func 40) #[] #[.pointer (some ⟨w.heap.size,0,none⟩),.pointer (some ⟨w.heap.size + 1,0,none⟩)])] ?_
 refine (delSp (first:=#[]) (cap:=#[.pointer (some ⟨w.heap.size,0,none⟩),.pointer (some ⟨w.heap.size + 1,0,none⟩)]) (isP y z) gv v20 rows w16 w20 HB20.out HO.out fnTake1 HF.out (fun W x hk hx=> ?hp)).mono ?_
 case hp=>
  obtain⟨a0,a1,a2,rfl⟩:=HF.out x hx
  exact spTake1 _ _ y z a0 a1 a2 W (keep_cell hk ((show w20.cell? ⟨w.heap.size,0,none⟩=w16.cell? ⟨w.heap.size,0,none⟩ from HB20.out.cell hl1).trans hcx6) (show w.heap.size≠gv by omega)) (keep_cell hk ((show w20.cell? ⟨w.heap.size + 1,0,none⟩=w16.cell? ⟨w.heap.size + 1,0,none⟩ from HB20.out.cell hl2).trans hcy6) (show w.heap.size + 1≠gv by omega))
 rintro e w22 ⟨A1,c1,rfl,hc1,hC1,hb,hR1, -⟩
 refine⟨_,rfl,?_⟩
 have hf7:=(show w22.cell? ⟨g3,0,none⟩=w16.cell? ⟨g3,0,none⟩ from hb.cell hl3).trans hf6
 have hcx7:=(show w22.cell? ⟨w.heap.size,0,none⟩=w16.cell? ⟨w.heap.size,0,none⟩ from hb.cell hl1).trans hcx6
 have hcy7:=(show w22.cell? ⟨w.heap.size + 1,0,none⟩=w16.cell? ⟨w.heap.size + 1,0,none⟩ from hb.cell hl2).trans hcy6
 have HB22:=As (show Below w.heap.size w w22 from below_step HB16.out hb)
 have HC1:=As hC1
 have HR1:=As (Kd.R_lower (Kd.R_mono (ok':=fun _=>True) hR1 (fun _ _=>trivial)) (below_size HB16.out))
 refine hK.out _ _ hf7 (fun hHeld=>?_)
 clear hb hC1 hR1 HB16 HB20 HO hf6 hcx6 hcy6 hl1 hl2 hl3 hgv
 clear hK K
 refine Z.n_ 22 ?_
 refine Z.p_ 4 11 ?_
 refine done_ (by kernel_rfl) ?_
 have hl1:w.heap.size < w22.heap.size:=World.block_lt_of_cell? _ _ hcx7
 have hl2:w.heap.size + 1 < w22.heap.size:=World.block_lt_of_cell? _ _ hcy7
 have hl3:g3 < w22.heap.size:=World.block_lt_of_cell? _ _ hf7
 go_wp2_with (first|((with_reducible refine gate_callee (f:=29) rfl ?_);refine Z.gl 24 Tryz.func29 #[.slice A0 l.length c0] ?_;refine (HCL.out _ HB22.out).mono ?_;rintro e w24 ⟨v24,rfl,ho,hb⟩;refine⟨_,rfl,?_⟩;obtain⟨gv2,hgv2,ho⟩:=own_one ho;have HO:=As ho;have HB24:=As hb;clear ho hb)|((with_reducible refine gate_callee (f:=41) rfl ?_);refine Z.gl 26 Tryz.func41 #[v24,.func (.func 42) #[] #[.pointer (some ⟨g3,0,none⟩)]] ?_;refine (delSp (first:=#[]) (cap:=#[.pointer (some ⟨g3,0,none⟩)]) (fun x=>!isP y z x) gv2 v24 rows w22 w24 HB24.out HO.out fnTake2 HF.out (fun W x hk hx=>by obtain⟨a0,a1,a2,rfl⟩:=HF.out x hx;exact spTake2 _ _ _ y z a0 a1 a2 W (keep_cell hk ((show w24.cell? ⟨g3,0,none⟩=w22.cell? ⟨g3,0,none⟩ from HB24.out.cell hl3).trans hf7) (show g3≠gv2 by omega)) (keep_cell hk ((show w24.cell? ⟨w.heap.size,0,none⟩=w22.cell? ⟨w.heap.size,0,none⟩ from HB24.out.cell hl1).trans hcx7) (show w.heap.size≠gv2 by omega)) (keep_cell hk ((show w24.cell? ⟨w.heap.size + 1,0,none⟩=w22.cell? ⟨w.heap.size + 1,0,none⟩ from HB24.out.cell hl2).trans hcy7) (show w.heap.size + 1≠gv2 by omega)))).mono ?_;rintro e w26 ⟨A2,c2,rfl,hc2,hC2,hb, -, -⟩;refine⟨_,rfl,?_⟩;have HB26:=As hb;have HC2:=As hC2;clear hb hC2))
 go_ret3
 exact⟨_,_,_,_,rfl,hc1,Kd.C_below HC1.out HB26.out,below_step HB22.out HB26.out,Kd.R_below HR1.out HB26.out⟩
set_option maxHeartbeats 8000000 in
set_option maxRecDepth 100000 in
theorem compactU (A:Option Addr) (c:Nat) (l:List Int) (w:World) (hr:Kd.C (Kd.int .u64) w A l.length l) (hc:l.length≤c) (hne:∀k:Nat,0 < k→k < l.length→rd l (k:Int)≠rd l ((k:Int) - 1)):
  Calls Tryz.prog 45 #[.slice A l.length c] w fun e w'=>e=.returned (.slice A l.length c)∧Below w.heap.size w w':=by
 have hml:l.length≤9223372036854775807:=hr.2.1
 have HR:=As hr
 have HN:=As hne
 clear hr hne
 by_cases h2:l.length < 2
 ·have hd:decide ((l.length:Int) < 2)=true:=decide_eq_true (by omega)
  go_enter Tryz.func45,Tryz.ntmps45
  go_wp2
  go_ret
  exact⟨rfl,Below.refl _ _⟩
 ·have hd:decide ((l.length:Int) < 2)=false:=decide_eq_false (by omega)
  go_enter Tryz.func45,Tryz.ntmps45
  go_wp2
  go_loopw [3] (fun v3 wr=>∃k:Int,v3=.int .i64 k∧Aside0 (0 < k∧k≤l.length)∧Aside0 (Below w.heap.size w wr)) (fun v3 _=>l.length - (intOf v3).toNat)
  case atStart=>exact⟨1,rfl,⟨by omega⟩,⟨by repeat (first|exact Below.refl _ _|apply pw_below_drewN|apply below_drew1)⟩⟩
  case round=>
   obtain⟨k,rfl,HK,HB⟩:=hrel
   by_cases hlt:k < l.length
   ·have hk0:=HK.out.1
    obtain⟨m,hm⟩:∃m,m=k - 1:=⟨_,rfl⟩
    have hk1:wrap64 (k - 1)=m:=by rw[hm];unfold wrap64;omega
    obtain⟨ad,eA,hx⟩:=Kd.at_int (Kd.C_below HR.out HB.out) k (by omega) (by omega)
    obtain⟨ad',eA',hy⟩:=Kd.at_int (Kd.C_below HR.out HB.out) m (by omega) (by omega)
    subst eA
    cases eA'
    have hn:=HN.out k.toNat (by omega) (by omega)
    rw[show ((k.toNat:Nat):Int)=k by omega,←hm] at hn
    obtain⟨x,hxx⟩:∃x,x=rd l k:=⟨_,rfl⟩
    obtain⟨y,hyy⟩:∃y,y=rd l m:=⟨_,rfl⟩
    rw[←hxx] at hx hn
    rw[←hyy] at hy hn
    have hnd:(x == y)=false:=by simpa using hn
    clear hxx hyy
    have hq:k≤l.length - 1:=by omega
    have hltd:(k < (l.length:Int))=True:=eq_true (by omega)
    have hk0d:(0≤k)=True:=eq_true (by omega)
    have hmd:(m < (l.length:Int))=True:=eq_true (by omega)
    have hm0d:(0≤m)=True:=eq_true (by omega)
    have hw1:wrap64 (k + 1)=k + 1:=by unfold wrap64;omega
    clear hlt hk0 hn hm hq
    go_wp2
    have hx1:wr.drew.cell? (ad.add k.toNat)=some (.int .u64 x):=hx
    have hy1:wr.drew.cell? (ad.add m.toNat)=some (.int .u64 y):=hy
    have HB1:=As (below_drew1 HB.out)
    refine start_ (n:=10) (S:=fun w'=>w'.cell? (ad.add k.toNat)=some (.int .u64 x)∧w'.cell? (ad.add m.toNat)=some (.int .u64 y)) (ds:=[]) #[false,false,false,false,false,false,false,false,false,false] (by kernel_rfl) rfl rfl ⟨hx1,hy1⟩ (fun hHeld=>?_)
    clear HB hx hy
    generalize wr.drew=w1 at HB1 hx1 hy1 hHeld ⊢
    refine Z.p_ 0 16 ?_
    refine Z.p_ 1 17 ?_
    refine Z.p_ 2 18 ?_
    refine Z.t_ 3 19 hHeld ?_
    refine Z.p_ 4 20 ?_
    refine Z.p_ 5 21 ?_
    refine Z.p_ 6 22 ?_
    refine Z.p_ 7 23 ?_
    refine Z.t_ 8 24 hHeld ?_
    refine Z.p_ 9 25 ?_
    refine done_ (by kernel_rfl) ?_
    go_wp2
    go_roundw
    case rel=>exact⟨k + 1,by rw[hw1],⟨by have:=HK.out;have:=of_eq_true hltd;omega⟩,⟨HB1.out⟩⟩
    case measure=>have:=HK.out;have:=of_eq_true hltd;simp[intOf,hw1];omega
   ·have hnl:decide (k < (l.length:Int))=false:=decide_eq_false (by omega)
    go_wp2
    go_ret
    exact⟨rfl,by repeat (first|exact HB.out|apply pw_below_drewN|apply below_drew1)⟩
set_option maxHeartbeats 8000000 in
set_option maxRecDepth 100000 in
theorem spAddrs (k:Nat) (A0:Option Addr) (c0:Nat) (l:List S48) (w:World) (hr0:Kd.C k48 w A0 l.length l) (hc0:l.length≤c0) (hck:special_Check.f k l=some 0) (hlen:l.length < 64) (hall:∀x∈l,x.f1=2) (hne:∀k:Nat,0 < k→k < l.length→(rd_T48 l (k:Int)).f0≠(rd_T48 l ((k:Int) - 1)).f0):
  Calls Tryz.prog 13 #[.slice A0 l.length c0,.int .u8 2] w fun e w'=>∃A c,e=.returned (.tuple #[.slice A l.length c,.int .i64 0])∧l.length≤c∧Kd.C (Kd.int .u64) w' A l.length (l.map (·.f0))∧Below w.heap.size w w':=by
 have hue:=Tryz.underlying48
 have hul:=Tryz.underlying38
 have HCK:=As (special_Check.calls k A0 c0 l 0 w hr0 hc0 hck)
 have HR:=As hr0
 have HA:=As hall
 have HN:=As hne
 clear hr0 hck hall hne
 go_enter Tryz.func13,Tryz.ntmps13
 go_wp2_with (first|((with_reducible refine gate_callee (f:=28) rfl ?_);refine Z.gl 11 Tryz.func28 #[.slice A0 l.length c0] ?_;refine HCK.out.mono ?_;rintro e w11 ⟨rfl,hb⟩;refine⟨_,rfl,?_⟩;have HB:=As hb;clear hb HCK))
 go_loopw [7,17] (fun v7 v17 wr=>∃i:Nat,v17=.int .i64 (i:Int)∧Aside0 (i≤l.length)∧Aside0 (Kd.R (Kd.int .u64) 39 wr w.heap.size (fun _=>True) v7 ((l.take i).map (·.f0)))∧Aside0 (Below w.heap.size w wr)) (fun v7 v17 _=>l.length - (intOf v17).toNat)
 case atStart=>exact⟨0,rfl,⟨Nat.zero_le _⟩,⟨Kd.R_nil _ _ _ _ _⟩,⟨(by repeat (first|exact HB.out|apply below_alloc|apply pw_below_drewN|apply below_drew1))⟩⟩
 case round=>
  clear HB
  obtain⟨i,rfl,HI,HO,HB⟩:=hrel
  by_cases hlt:i < l.length
  ·obtain⟨ad,eA,hx0,hx1,hx2⟩:=at_T48 (Kd.C_below HR.out HB.out) (i:Int) (by omega) (by omega)
   subst eA
   rw[Int.toNat_natCast] at hx0 hx1 hx2
   have hk:=HA.out _ (List.getElem_mem hlt)
   have hrd:rd_T48 l (i:Int)=l[i]:=by simp[rd_T48,hlt]
   rw[hrd] at hx0 hx1 hx2
   have htk:(l.take (i + 1)).map (·.f0)=(l.take i).map (·.f0) ++ [l[i].f0]:=by rw[List.take_succ_eq_append_getElem hlt,List.map_append];rfl
   have hll:((l.take i).map (·.f0)).length=i:=by rw[List.length_map,List.length_take];omega
   have HTK:=As htk
   have HLL:=As hll
   obtain⟨x,hx⟩:∃x,x=l[i]:=⟨_,rfl⟩
   rw[←hx] at hx0 hx1 hx2 hk HTK
   rw[hk] at hx1
   clear hx hrd htk hll
   have hltd:((i:Int) < (l.length:Int))=True:=eq_true (by omega)
   have HLT:=As hlt
   go_wp2_with (first|((with_reducible refine gate_builtin (b:=.append) (xs:=#[.tmp 25,.tmp 28]) rfl ?_);at_builtin;refine Kd.R_append (Kd.int .u64) (w0:=w) w.heap.size rfl (.tmp 25) (.tmp 28) 25 39 (.int .u64 0) 8 rfl Tryz.underlying25 info39 rfl (by decide) (by omega) _ ((l.take i).map (·.f0)) x.f0 [.int .u64 x.f0] (fun _=>True) (fun _=>False) rfl (by first|(go_simp;done)|(go_simp;rfl)) ?aP (fun _ hk=>hk.elim) ?aF ?aO ?aB ?aS ?aL ?_;(case aP=>exact rfl);(case aF=>exact fun _ _=>trivial);(case aO=>(with_reducible repeat (first|apply Kd.R_alloc|apply Kd.R_drewN|apply Kd.R_drew));exact HO.out);(case aB=>exact (by repeat (first|exact HB.out|apply below_alloc|apply pw_below_drewN|apply below_drew1)));(case aS=>exact below_size (by repeat (first|exact HB.out|apply below_alloc|apply pw_below_drewN|apply below_drew1)));(case aL=>have:=HLL.out;have:=HLT.out;omega);intro v29 w29 ho2 hb2 hg2 hat2;clear hg2 hat2;have HO2:=As ho2;have HB2:=As hb2;clear ho2 hb2))
   refine⟨⟨i + 1,by go_num,⟨HLT.out⟩,⟨by rw[HTK.out];exact HO2.out⟩,⟨HB2.out⟩⟩,?_⟩
   have:=HLT.out
   simp[intOf]
   omega
  ·have hnl:decide (i < l.length)=false:=decide_eq_false hlt
   have hi:i=l.length:=by have:=HI.out;omega
   subst hi
   have ho:=HO.out
   rw[List.take_length] at ho
   clear HO HI hlt
   obtain⟨A,c,rfl⟩:=Kd.R_slice ho
   obtain⟨hn,hnc,hC⟩:=Kd.R_reads' ho
   rw[List.length_map] at hn
   have HC:=As hC
   have hcc:∀k:Nat,0 < k→k < (l.map (·.f0)).length→rd (l.map (·.f0)) (k:Int)≠rd (l.map (·.f0)) ((k:Int) - 1):=by
    intro k h0 h1
    rw[List.length_map] at h1
    have h2:=HN.out k h0 h1
    have e1:rd (l.map (·.f0)) (k:Int)=(rd_T48 l (k:Int)).f0:=by simp[rd,rd_T48,h1]
    have e2:rd (l.map (·.f0)) ((k:Int) - 1)=(rd_T48 l ((k:Int) - 1)).f0:=by
     have e3:k - 1 < l.length:=by omega
     have e4:((k:Int) - 1)=((k - 1:Nat):Int):=by omega
     rw[e4]
     simp[rd,rd_T48,e3]
    rw[e1,e2];exact h2
   have HCO:Aside0 (∀W,Below wr.heap.size wr W→Calls Tryz.prog 45 #[.slice A l.length c] W fun e W'=>e=.returned (.slice A l.length c)∧Below W.heap.size W W'):=⟨fun W hb=>by
    have h1:=compactU A c (l.map (·.f0)) W (by have:=Kd.C_below hC hb;rw[List.length_map] at this ⊢;exact this) hnc hcc
    rw[List.length_map] at h1
    exact h1⟩
   have hnc2:l.length≤c:=by rw[List.length_map] at hnc;exact hnc
   clear hcc ho hC
   go_wp2_with (fail)
   refine (HCO.out _ (Below.refl _ _)).mono ?_
   rintro e w32 ⟨rfl,hb⟩
   have HB2:=As hb
   clear hb
   dsimp only
   go_wp2
   go_ret2
   exact⟨_,_,rfl,hnc2,Kd.C_below (by have:=HC.out;rw[List.length_map] at this;exact this) HB2.out,below_step HB.out HB2.out⟩
end Go.Proofs.YtmmfchnbfnegnaaGreatDoor.K
end
section
namespace Go.Proofs.YtmmfchnbfnegnaaGreatDoor.K
open Go.RowKit Go.Proofs.YtmmfchnbfnegnaaGreatDoorW.PrintWords Go.Proofs.YtmmfchnbfnegnaaGreatDoorW.PrintLast Go.Proofs.YtmmfchnbfnegnaaGreatDoorW.PrintMore Go.Proofs.YtmmfchnbfnegnaaGreatDoor.GK
set_option linter.unusedVariables false
set_option linter.unusedSimpArgs false
attribute [local go_sem] max2_int min2_int max_two min_two max_three min_three max_four min_four
def SnS (x:S51):Prop:=x.f3.f1.length < 1000000∧x.f4.f1.length < 1000000
theorem SnS.one {x:S51} (h:SnS x):span_One.f x.f0 x.f1 x.f2 x.f3.f0 x.f3.f1 x.f4.f0 x.f4.f1 x.f5=some (x.f0,x.f1,x.f2,x.f3.f0,x.f3.f1,x.f4.f0,x.f4.f1,x.f5):=by
 unfold span_One.f bits_Own.f slices_Clone_uint64_uint64.f
 rw[if_pos (Nat.lt_trans h.1 (by decide)),if_pos (Nat.lt_trans h.2 (by decide))]
 rfl
theorem f51_raw {w:World} {ok:Nat→Prop} {A:Option Addr} {n:Nat} {l:List S51} (h:Kd.F k51 w ok A n l):∃rows:List (List Value),rows.length=l.length∧Kd.C (Kd.raw 8) w A n rows∧∀(j:Nat) (x:S51) (c:List Value),l[j]? =some x→rows[j]? =some c→Kd.FK k51 w ok x c:=by
 obtain⟨rows,h1,h2,h3⟩:=Kd.reads_raw (Kd.F_rows h) (fun y c hk=>⟨k51.K_len (Kd.FK_now hk),k51.K_one (Kd.FK_now hk)⟩)
 exact⟨rows,h1,h2,h3⟩
set_option maxHeartbeats 8000000 in
set_option maxRecDepth 100000 in
theorem snOwn (okP:Nat→Prop) (A0:Option Addr) (c0:Nat) (l:List S51) (w:World) (hF:Kd.F k51 w okP A0 l.length l) (hnew:∀k,w.heap.size≤k→okP k) (hl:l.length < 1000000) (hS:∀x∈l,SnS x):
  Calls Tryz.prog 81 #[.slice A0 l.length c0] w fun e w'=>∃v,e=.returned v∧Kd.N k51 51 w' w.heap.size okP v l∧Below w.heap.size w w':=by
 have hue:=Tryz.underlying51
 obtain⟨rows,hrl,hrC,hrK⟩:=f51_raw hF
 have HCL:=As (cloneSn A0 c0 rows w (by rw[hrl];exact hrC) (by rw[hrl];exact hl))
 rw[hrl] at HCL
 have HK:=As hrK
 have HRL:=As hrl
 have HS:=As hS
 have HNW:=As hnew
 clear hF hrC hrK hrl hS hnew
 go_enter Tryz.func81,Tryz.ntmps81
 go_wp2_with (fail)
 refine HCL.out.mono ?_
 rintro e w5 ⟨v,rfl,ho,hb⟩
 obtain⟨A,c,rfl⟩:=Kd.R_slice ho
 have hA:0 < l.length→∃g,A=some ⟨g,0,none⟩:=fun h=>by
  obtain⟨g,c',e,_⟩:=Kd.R_form ho (by rw[HRL.out];exact h)
  injection e with e1
  exact⟨g,e1⟩
 have HA:=As hA
 rw[HRL.out] at ho ⊢
 have HN:Aside0 (Kd.N k51 51 w5 w.heap.size okP (.slice A l.length c) l):=by
  refine⟨fun k hk=>HNW.out k (Kd.R_base ho k hk),rows,HRL.out,Kd.raw_tight ho,fun j x c hx hc=>?_⟩
  refine Kd.FK_mono (Kd.FK_below (Kd.FK_bound (HK.out j x c hx hc)) hb) (fun k hk=>⟨hk.1,fun he=>?_⟩)
  have:=Kd.R_base ho k he.symm
  have:=hk.2
  omega
 have HB:=As hb
 clear hb ho HCL HK HRL hA
 dsimp only
 go_wp2
 go_loopw [8] (fun v8 wr=>∃i:Int,v8=.int .i64 i∧Aside0 (0≤i∧i≤l.length)∧Aside0 (Kd.N k51 51 wr w.heap.size okP (.slice A l.length c) l)∧Aside0 (Below w.heap.size w wr)) (fun v8 _=>l.length - (intOf v8).toNat)
 case atStart=>exact⟨0,rfl,⟨by omega⟩,HN,HB⟩
 case round=>
  clear HN HB
  obtain⟨i,rfl,HI,HN,HB⟩:=hrel
  by_cases hlt:i < l.length
  ·obtain⟨g,hg⟩:=HA.out (by have:=HI.out;omega)
   subst hg
   obtain⟨cs,hcl,hFK,hcc,hfr⟩:=Kd.N_elem HN.out z51 i HI.out.1 hlt
   obtain⟨A4,c4,A6,c6,rfl,h4l,h4C,h6l,h6C⟩:=k51_open (Kd.FK_now hFK)
   have hil:i.toNat < l.length:=by have:=HI.out;omega
   have hx:l.getD i.toNat z51=l[i.toNat]:=by simp[hil]
   rw[hx] at hcc h4l h4C h6l h6C
   have hSx:=HS.out _ (List.getElem_mem hil)
   have hset:l.set i.toNat l[i.toNat]=l:=List.set_getElem_self hil
   have HSET:=As hset
   have HCC:=As hcc
   obtain⟨x,hxx⟩:∃x,x=l[i.toNat]:=⟨_,rfl⟩
   rw[←hxx] at hcc h4l h4C h6l h6C hSx HSET HCC
   clear hx hset hxx hFK hcl
   have hc0:=hcc 0 _ rfl
   have hc1:=hcc 1 _ rfl
   have hc2:=hcc 2 _ rfl
   have hc3:=hcc 3 _ rfl
   have hc4:=hcc 4 _ rfl
   have hc5:=hcc 5 _ rfl
   have hc6:=hcc 6 _ rfl
   have hc7:=hcc 7 _ rfl
   simp only[show k51.sz=8 from rfl,Nat.add_zero] at hc0 hc1 hc2 hc3 hc4 hc5 hc6 hc7
   have hi0d:(0≤i)=True:=eq_true HI.out.1
   have hltd:(i < (l.length:Int))=True:=eq_true hlt
   clear hcc hfr
   go_wp2_with (fail)
   refine (span_One.calls x.f0 x.f1 x.f2 x.f3.f0 A4 c4 x.f3.f1 x.f4.f0 A6 c6 x.f4.f1 x.f5 _ _ _ _ _ _ _ _ wr h4C h4l h6C h6l hSx.one).mono ?_
   rintro e w17 ⟨v4,v6,rfl,ho4,ho6,hb⟩
   have HFK2:=As (Kd.FK_of_M (k51_mkM w17 wr.heap.size (fun k=>wr.heap.size≤k) x (Kd.R_mono (Kd.R_bound ho4) (fun k hk=>hk.2.1)) (Kd.R_mono (Kd.R_bound ho6) (fun k hk=>hk.2.1))))
   obtain⟨A4',c4',rfl⟩:=Kd.R_slice ho4
   obtain⟨A6',c6',rfl⟩:=Kd.R_slice ho6
   have hgl:=Kd.N_lt HN.out g rfl
   have HN2:=As (Kd.N_below HN.out hb)
   have HB2:=As (below_step HB.out hb)
   have HOK:=As (fun k (hk:wr.heap.size≤k)=>(show okP k∧k≠g from⟨HNW.out k (Nat.le_trans (below_size HB.out) hk),by omega⟩))
   have HCC2:=As (fun j u hu=>(hb.cell (World.block_lt_of_cell? _ _ (HCC.out j u hu))).trans (HCC.out j u hu))
   clear hb ho4 ho6 HCC hc0 hc1 hc2 hc3 hc4 hc5 hc6 hc7 h4C h6C h4l h6l
   dsimp only
   go_wp2_with ((with_reducible refine gate_store (t:=51) (p:=18) rfl ?_);refine Kd.N_store k51 (w0:=w) (g:=g) (n:=l.length) (cap:=c) (o':=i.toNat * 8) w.heap.size rfl rfl 51 (.tmp 18) (.tmp 17) rfl 51 i 0 l x (.agg #[.int .i64 x.f0,.int .i64 x.f1,.int .i64 x.f2,.int .i64 x.f3.f0,.slice A4' x.f3.f1.length c4',.int .i64 x.f4.f0,.slice A6' x.f4.f1.length c6',.bool x.f5]) [.int .i64 x.f0,.int .i64 x.f1,.int .i64 x.f2,.int .i64 x.f3.f0,.slice A4' x.f3.f1.length c4',.int .i64 x.f4.f0,.slice A6' x.f4.f1.length c6',.bool x.f5] [.int .i64 x.f0,.int .i64 x.f1,.int .i64 x.f2,.int .i64 x.f3.f0,.slice A4 x.f3.f1.length c4,.int .i64 x.f4.f0,.slice A6 x.f4.f1.length c6,.bool x.f5] okP (fun k=>wr.heap.size≤k) rfl rfl rfl rfl (by kernel_rfl) (by simp[Value.oneCell']) HN2.out HI.out.1 (of_eq_true hltd) rfl HCC2.out (Nat.le_refl 8) HFK2.out HOK.out HB2.out ?_;intro w1 hn hb hg;rw[HSET.out] at hn;have HN3:=As hn;have HB3:=As hb;clear hn hb hg)
   have hi1:=HI.out.1
   have hi2:=of_eq_true hltd
   have hw:wrap64 (i + 1)=i + 1:=by unfold wrap64;omega
   refine⟨⟨i + 1,by rw[hw],⟨by omega⟩,HN3,HB3⟩,?_⟩
   rw[hw]
   simp[intOf]
   omega
  ·have hnl:decide (i < (l.length:Int))=false:=decide_eq_false hlt
   go_wp2
   go_ret
   exact⟨_,rfl,HN.out,HB.out⟩
theorem filt_pair {R:S51→List Value→Prop} {p:List Value→Bool} {q:S51→Bool}:∀(l:List S51) (rows:List (List Value)),rows.length=l.length→(∀(j:Nat) (x:S51) (c:List Value),l[j]? =some x→rows[j]? =some c→R x c)→(∀x c,R x c→p c=q x)→
  (rows.filter p).length=(l.filter q).length∧∀(j:Nat) (x:S51) (c:List Value),(l.filter q)[j]? =some x→(rows.filter p)[j]? =some c→R x c
 | [],[],_,_,_=>⟨rfl,fun j x c h=>by simp at h⟩
 |x::l,c::rows,hl,hR,hpq=>by
  have h0:=hR 0 x c rfl rfl
  obtain⟨h1,h2⟩:=filt_pair l rows (by simpa using hl) (fun j x' c' hx hc=>hR (j + 1) x' c' hx hc) hpq
  have e:=hpq x c h0
  by_cases hq:q x=true
  ·rw[List.filter_cons_of_pos hq,List.filter_cons_of_pos (by rw[e];exact hq)]
   refine⟨by simp[h1],fun j x' c' hx hc=>?_⟩
   match j,hx,hc with
   |0,hx,hc=>simp at hx hc;rw[←hx,←hc];exact h0
   |j + 1,hx,hc=>exact h2 j x' c' hx hc
  ·rw[List.filter_cons_of_neg hq,List.filter_cons_of_neg (by rw[e];exact hq)]
   exact⟨h1,h2⟩
 | [],c::rows,hl,_,_=>by simp at hl
 |x::l,[],hl,_,_=>by simp at hl
def firstP (y:Int) (x:List Value):Bool:=match x with
 |.int _ a::_=>decide (a=y)
 |_=>false
theorem k51_form {w:World} {x:S51} {c:List Value} (h:k51.K w x c):FormSn c:=by
 obtain⟨A4,c4,A6,c6,rfl,_⟩:=k51_open h
 exact⟨_,_,_,_,_,_,_,_,_,_,_,_,rfl⟩
theorem k51_first {w:World} {x:S51} {c:List Value} {y:Int} (h:k51.K w x c):firstP y c=decide (x.f0=y):=by
 obtain⟨A4,c4,A6,c6,rfl,_⟩:=k51_open h
 rfl
theorem fnDrop1:FnIs Tryz.prog 83:=⟨_,Tryz.func83,by kernel_rfl,rfl⟩
theorem snDrop1 (g:Nat) (y:Int) (x:List Value) (hx:FormSn x) (W:World) (hg:W.cell? ⟨g,0,none⟩=some (.int .i64 y)):
  Calls Tryz.prog 83 #[.agg x.toArray,.pointer (some ⟨g,0,none⟩)] W fun e W'=>e=.returned (.bool (firstP y x))∧Below W.heap.size W W':=by
 have hue:=Tryz.underlying51
 have hlt:=World.block_lt_of_cell? _ _ hg
 obtain⟨a0,a1,a2,a3,A4,n4,c4,a5,A6,n6,c6,a7,rfl⟩:=hx
 go_enter Tryz.func83,Tryz.ntmps83
 go_wp2
 go_ret
 exact⟨rfl,by repeat (first|exact Below.refl _ _|apply below_alloc|apply pw_below_drewN|apply below_drew1)⟩
set_option maxHeartbeats 8000000 in
set_option maxRecDepth 100000 in
theorem snDrop (k:Nat) (okP:Nat→Prop) (y:Int) (A0:Option Addr) (c0:Nat) (l:List S51) (w:World) (hF:Kd.F k51 w okP A0 l.length l) (hc0:l.length≤c0) (hnew:∀k,w.heap.size≤k→okP k) (hl:l.length < 1000000) (hS:∀x∈l,SnS x) (hck:span_Check.f k l=some 0) (hex:(l.filter fun x=>!decide (x.f0=y)).length≠l.length):
  Calls Tryz.prog 39 #[.slice A0 l.length c0,.int .i64 y] w fun e w'=>∃v,e=.returned (.tuple #[v,.int .i64 0])∧Kd.N k51 51 w' w.heap.size okP v (l.filter fun x=>!decide (x.f0=y))∧Below w.heap.size w w':=by
 have hue:=Tryz.underlying51
 have HF:=As hF
 have HNW:=As hnew
 have HS:=As hS
 have HEX:=As hex
 clear hF hnew hS hex
 go_enter Tryz.func39,Tryz.ntmps39
 go_wp2_with (fail)
 have hb0:Below w.heap.size w (w.alloc (Obj.cells #[.int .i64 y] 3)):=below_alloc (Below.refl _ _) _
 have hgc:(w.alloc (Obj.cells #[.int .i64 y] 3)).cell? ⟨w.heap.size,0,none⟩=some (.int .i64 y):=by simp
 refine (span_Check.calls k A0 c0 l 0 _ (Kd.F_now (Kd.F_below HF.out hb0)) hc0 hck).mono ?_
 rintro e w9 ⟨rfl,hb⟩
 have hgc9:w9.cell? ⟨w.heap.size,0,none⟩=some (.int .i64 y):=(hb.cell (World.block_lt_of_cell? _ _ hgc)).trans hgc
 have HB9:=As (show Below w.heap.size w w9 from below_step hb0 hb)
 clear hb hgc hb0
 dsimp only
 go_wp2_with (fail)
 refine (snOwn okP A0 c0 l w9 (Kd.F_below HF.out HB9.out) (fun k hk=>HNW.out k (Nat.le_trans (below_size HB9.out) hk)) hl HS.out).mono ?_
 rintro e w14 ⟨v,rfl,hN,hb⟩
 obtain⟨hown,rows,hrl,hR,hfk⟩:=hN
 obtain⟨gv,hgv,hR1⟩:=own_one (Kd.raw_any hR)
 obtain⟨A,c,rfl⟩:=Kd.R_slice hR
 have hlt9:w.heap.size < w9.heap.size:=World.block_lt_of_cell? _ _ hgc9
 have hgc14:w14.cell? ⟨w.heap.size,0,none⟩=some (.int .i64 y):=(hb.cell hlt9).trans hgc9
 obtain⟨hfl,hff⟩:=filt_pair (p:=fun c=>!firstP y c) (q:=fun x=>!decide (x.f0=y)) l rows hrl hfk (fun x c h=>by rw[k51_first (Kd.FK_now h)])
 have hform:∀x∈rows,FormSn x:=fun x hx=>by
  obtain⟨j,hj,rfl⟩:=List.mem_iff_getElem.1 hx
  exact k51_form (Kd.FK_now (hfk j _ _ (List.getElem?_eq_getElem (by omega)) (List.getElem?_eq_getElem hj)))
 have HCL:Aside0 (∀W x,W.cell? ⟨w.heap.size,0,none⟩=some (.int .i64 y)→x∈rows→Calls Tryz.prog 83 (#[] ++ #[.agg x.toArray] ++ #[.pointer (some ⟨w.heap.size,0,none⟩)]) W fun e W'=>e=.returned (.bool (firstP y x))∧Below W.heap.size W W'):=⟨fun W x hg hx=>by
  have h1:=snDrop1 w.heap.size y x (hform x hx) W hg
  simpa only[List.append_toArray,List.nil_append,List.cons_append] using h1⟩
 rw[show k51.sz=8 from rfl] at hR1
 have HD:=As (delSn (F:=83) (first:=#[]) (cap:=#[.pointer (some ⟨w.heap.size,0,none⟩)]) (firstP y) gv (.slice A rows.length c) rows w9 w14 hb hR1 fnDrop1 hform (fun W x hk hx=>HCL.out W x (keep_cell hk hgc14 (show w.heap.size≠gv by omega)) hx))
 rw[hrl] at HD
 have hlen:(((rows.filter fun c=>!firstP y c).length:Int) == (l.length:Int))=false:=beq_eq_false_iff_ne.mpr (by rw[hfl];have:=HEX.out;omega)
 have hlp:0 < l.length:=by
  rcases Nat.eq_zero_or_pos l.length with h0|h0
  ·exact absurd (by rw[List.eq_nil_of_length_eq_zero h0];rfl) HEX.out
  ·exact h0
 have HV:Aside0 ((Value.slice A rows.length c).ownBlock=some gv):=⟨by
  obtain⟨g,c',e,_⟩:=Kd.R_form hR1 (by rw[hrl];exact hlp)
  have e2:(Value.slice A rows.length c).ownBlock=some g:=by rw[e];simp[Value.ownBlock]
  rw[e2,hR1.1 g e2]⟩
 have HOWN:=As hown
 have HFF:=As hff
 have HFL:=As hfl
 have HGV:=As hgv
 have HB14:=As (show Below w.heap.size w w14 from below_step HB9.out hb)
 have HBB:=As hb
 clear hb hR hR1 hfk hform hff hown hfl hgc9 hgc14
 dsimp only
 go_wp2_with (fail)
 refine HD.out.mono ?_
 rintro e w19 ⟨A',c',rfl,hnc, -,hb,hR2,hkb⟩
 dsimp only
 go_wp2
 go_ret2
 refine⟨_,rfl,⟨fun k hk=>?_,rows.filter fun c=>!firstP y c,HFL.out,Kd.raw_tight (Kd.R_lower (Kd.raw_any hR2) (below_size HB9.out)),fun j x c hx hc=>?_⟩,below_step HB9.out hb⟩
 ·have:=hR2.1 k hk
  subst this
  exact HNW.out _ (Nat.le_trans (below_size HB9.out) HGV.out)
 ·refine Kd.FK_mono (Kd.FK_step (HFF.out j x c hx hc) (fun k hk hlt=>hkb.2 k hlt (fun e=>hk.2 (by rw[e,HV.out])) (by simp))) (fun k hk=>⟨hk.1,fun e=>hk.2 (by rw[HV.out,hR2.1 k e.symm])⟩)
end Go.Proofs.YtmmfchnbfnegnaaGreatDoor.K
end
section
namespace Go.Proofs.YtmmfchnbfnegnaaGreatDoor.K
open Go.RowKit Go.Proofs.YtmmfchnbfnegnaaGreatDoorW.PrintWords Go.Proofs.YtmmfchnbfnegnaaGreatDoorW.PrintLast Go.Proofs.YtmmfchnbfnegnaaGreatDoorW.PrintMore Go.Proofs.YtmmfchnbfnegnaaGreatDoor.GK
set_option linter.unusedVariables false
set_option linter.unusedSimpArgs false
attribute [local go_sem] max2_int min2_int max_two min_two max_three min_three max_four min_four
def snV (s:S51) (A4:Option Addr) (c4:Nat) (A6:Option Addr) (c6:Nat):List Value:=[.int .i64 s.f0,.int .i64 s.f1,.int .i64 s.f2,.int .i64 s.f3.f0,.slice A4 s.f3.f1.length c4,.int .i64 s.f4.f0,.slice A6 s.f4.f1.length c6,.bool s.f5]
theorem ins_pair {R:S51→List Value→Prop} {s:S51} {xc:List Value} (hs:R s xc):∀(i:Nat) (l:List S51) (rows:List (List Value)),i≤l.length→rows.length=l.length→(∀(j:Nat) (x:S51) (c:List Value),l[j]? =some x→rows[j]? =some c→R x c)→
  (rows.take i ++ [xc] ++ rows.drop i).length=(l.take i ++ [s] ++ l.drop i).length∧∀(j:Nat) (x:S51) (c:List Value),(l.take i ++ [s] ++ l.drop i)[j]? =some x→(rows.take i ++ [xc] ++ rows.drop i)[j]? =some c→R x c
 |0,l,rows,_,hl,h=>by
  refine⟨by simp[hl],fun j x c hx hc=>?_⟩
  match j,hx,hc with
  |0,hx,hc=>simp at hx hc;rw[←hx,←hc];exact hs
  |j + 1,hx,hc=>exact h j x c (by simpa using hx) (by simpa using hc)
 |i + 1,x0::l,c0::rows,hi,hl,h=>by
  obtain⟨h1,h2⟩:=ins_pair hs i l rows (by simpa using hi) (by simpa using hl) (fun j x c hx hc=>h (j + 1) x c hx hc)
  refine⟨by simp only[List.take_succ_cons,List.drop_succ_cons,List.cons_append,List.length_cons];rw[h1],fun j x c hx hc=>?_⟩
  match j,hx,hc with
  |0,hx,hc=>exact h 0 x c hx hc
  |j + 1,hx,hc=>exact h2 j x c hx hc
 |i + 1,[],rows,hi,_,_=>by simp at hi
 |i + 1,x0::l,[],_,hl,_=>by simp at hl
theorem keepc {W W':World} {a:Addr} {v:Value} (hb:Below W.heap.size W W') (h:W.cell? a=some v):W'.cell? a=some v:=(hb.cell (World.block_lt_of_cell? _ _ h)).trans h
set_option maxHeartbeats 8000000 in
set_option maxRecDepth 100000 in
theorem snAdd (k:Nat) (okP:Nat→Prop) (s:S51) (A4 A6:Option Addr) (c4 c6:Nat) (A0:Option Addr) (c0:Nat) (l:List S51) (i:Nat) (w:World)
  (hF:Kd.F k51 w okP A0 l.length l) (hc0':l.length≤c0) (hnew:∀k,w.heap.size≤k→okP k) (hlen:l.length < 256) (hS:∀x∈l,SnS x) (hck:span_Check.f k l=some 0)
  (h4:Kd.C (Kd.int .u64) w A4 s.f3.f1.length s.f3.f1) (h4l:s.f3.f1.length≤c4) (h6:Kd.C (Kd.int .u64) w A6 s.f4.f1.length s.f4.f1) (h6l:s.f4.f1.length≤c6) (hs:SnS s)
  (hri:span_right.f k s.f0 s.f1 s.f2 s.f3.f0 s.f3.f1 s.f4.f0 s.f4.f1 s.f5=some true) (hbs:api_Span_int.f k l s.f0=some ((i:Int),false)) (hi:i≤l.length)
  (hlo:∀h:i - 1 < l.length,0 < i→l[i - 1].f0 + l[i - 1].f1≤s.f0) (hhi:∀h:i < l.length,s.f0 + s.f1≤l[i].f0) (hr:∀x∈s::l,0≤x.f0∧x.f0≤1024∧0≤x.f1∧x.f1≤4):
  Calls Tryz.prog 63 #[.slice A0 l.length c0,.agg (snV s A4 c4 A6 c6).toArray] w fun e w'=>∃v,e=.returned (.tuple #[v,.int .i64 0])∧Kd.N k51 51 w' w.heap.size okP v (l.take i ++ [s] ++ l.drop i)∧Below w.heap.size w w':=by
 have hue:=Tryz.underlying51
 have HF:=As hF
 have HNW:=As hnew
 have HS:=As hS
 have HCK:=As hck
 have HRI:=As hri
 have HBS:=As hbs
 have H4:=As h4
 have H6:=As h6
 have HLO:=As hlo
 have HHI:=As hhi
 have HR:=As hr
 clear hF hnew hS hck hri hbs h4 h6 hlo hhi hr
 unfold snV
 go_enter Tryz.func63,Tryz.ntmps63
 go_wp2_with (fail)
 have hb0:=below_alloc (Below.refl w.heap.size w) (Obj.cells #[.int .i64 s.f0,.int .i64 s.f1,.int .i64 s.f2,.int .i64 s.f3.f0,.slice A4 s.f3.f1.length c4,.int .i64 s.f4.f0,.slice A6 s.f4.f1.length c6,.bool s.f5] 51)
 have hbx:=blk_new w (Obj.cells #[.int .i64 s.f0,.int .i64 s.f1,.int .i64 s.f2,.int .i64 s.f3.f0,.slice A4 s.f3.f1.length c4,.int .i64 s.f4.f0,.slice A6 s.f4.f1.length c6,.bool s.f5] 51)
 refine (span_Check.calls k A0 c0 l 0 _ (Kd.F_now (Kd.F_below HF.out hb0)) hc0' HCK.out).mono ?_
 rintro e w9 ⟨rfl,hb⟩
 have HBX:=As (blk_below hbx hb)
 have HB9:=As (below_step hb0 hb)
 clear hb hb0 hbx
 dsimp only
 have hc0:=Z.c0 HBX.out
 have hc1:=Z.c1 HBX.out
 have hc2:=Z.c2 HBX.out
 have hc3:=Z.c3 HBX.out
 have hc4:=Z.c4 HBX.out
 have hc5:=Z.c5 HBX.out
 have hc6:=Z.c6 HBX.out
 have hc7:=Z.c7 HBX.out
 go_wp2_with (fail)
 clear hc0 hc1 hc2 hc3 hc4 hc5 hc6 hc7
 refine (span_right.calls k s.f0 s.f1 s.f2 s.f3.f0 A4 c4 s.f3.f1 s.f4.f0 A6 c6 s.f4.f1 s.f5 true w9 (Kd.C_below H4.out HB9.out) h4l (Kd.C_below H6.out HB9.out) h6l HRI.out).mono ?_
 rintro e w13 ⟨rfl,hb⟩
 have hbx:=blk_below HBX.out hb
 clear HBX
 have HBX:=As hbx
 have HB13:=As (below_step HB9.out hb)
 clear hb hbx HB9
 dsimp only
 go_wp2_with (fail)
 refine (snOwn okP A0 c0 l w13 (Kd.F_below HF.out HB13.out) (fun k hk=>HNW.out k (Nat.le_trans (below_size HB13.out) hk)) (by omega) HS.out).mono ?_
 rintro e w17 ⟨v,rfl,hN,hb⟩
 have hbx:=blk_below HBX.out hb
 have hgl:=blk_lt HBX.out
 clear HBX
 have HBX:=As hbx
 have HB17:=As (below_step HB13.out hb)
 obtain⟨hown,rows,hrl,hR,hfk⟩:=hN
 obtain⟨A,c,rfl⟩:=Kd.R_slice hR
 rw[hrl] at hown hR hfk ⊢
 have HN:=As (show Kd.N k51 51 w17 w13.heap.size okP (.slice A l.length c) l from⟨hown,rows,hrl,hR,hfk⟩)
 clear hb hbx hown hrl hR hfk rows
 dsimp only
 have hc0:=Z.c0 HBX.out
 go_wp2_with (fail)
 obtain⟨hn,hnc,hC⟩:=Kd.N_reads' HN.out
 refine (api_Span_int.calls k A c l s.f0 (i:Int) false w17 hC hnc HBS.out).mono ?_
 rintro e w22 ⟨rfl,hb⟩
 have hbx:=blk_below HBX.out hb
 have hgl2:=blk_lt HBX.out
 have hN:=Kd.N_below HN.out hb
 clear HBX HN
 have HBX:=As hbx
 have HN:=As hN
 have HB22:=As (below_step HB17.out hb)
 clear hb hbx hN hc0 HB17 hC hn HBS HRI HCK
 dsimp only
 go_wp2
 by_cases h0:0 < i
 ·have h0d:decide (0 < i)=true:=decide_eq_true h0
  obtain⟨m,hm⟩:∃m,m=i - 1:=⟨_,rfl⟩
  have hml:m < l.length:=by omega
  have hw:wrap64 ((i:Int) - 1)=(m:Int):=by unfold wrap64;omega
  obtain⟨-,hnc,hC⟩:=Kd.N_reads' HN.out
  obtain⟨ad,B4,d4,B6,d6,eA,hx0,hx1,hx2,hx3,hx4,hx5,hx6,hx7,hy4,hy4C,hy6,hy6C⟩:=at_T51 hC (m:Int) (by omega) (by omega)
  subst eA
  rw[Int.toNat_natCast] at hx0 hx1 hx2 hx3 hx4 hx5 hx6 hx7
  have hlo:=HLO.out (by omega) h0
  have hxm:rd_T51 l (m:Int)=l[i - 1]:=by subst hm;simp[rd_T51,hml]
  have hxr:=HR.out l[i - 1] (List.mem_cons_of_mem _ (List.getElem_mem _))
  rw[←hxm] at hlo hxr
  obtain⟨x,hx⟩:∃x,x=rd_T51 l (m:Int):=⟨_,rfl⟩
  rw[←hx] at hx0 hx1 hx2 hx3 hx4 hx5 hx6 hx7 hy4 hy4C hy6 hy6C hlo hxr
  clear hm hx hxm
  have hmd:(m < l.length)=True:=eq_true hml
  have hgt:decide (s.f0 < wrap64 (x.f0 + x.f1))=false:=by
   have:=hxr
   exact decide_eq_false (by rw[show wrap64 (x.f0 + x.f1)=x.f0 + x.f1 by unfold wrap64;omega];omega)
  have hs0:=Z.c0 HBX.out
  have HY4:=As hy4C
  have HY6:=As hy6C
  clear hy4C hy6C
  refine start_ (n:=14) (S:=fun w'=>w'.cell? ⟨w.heap.size,0,none⟩=some (.int .i64 s.f0)∧w'.cell? (ad.add (m * 8))=some (.int .i64 x.f0)∧w'.cell? ⟨(ad.add (m * 8)).block,(ad.add (m * 8)).off + 1,none⟩=some (.int .i64 x.f1)∧w'.cell? ⟨(ad.add (m * 8)).block,(ad.add (m * 8)).off + 2,none⟩=some (.int .i64 x.f2)∧w'.cell? ⟨(ad.add (m * 8)).block,(ad.add (m * 8)).off + 3,none⟩=some (.int .i64 x.f3.f0)∧w'.cell? ⟨(ad.add (m * 8)).block,(ad.add (m * 8)).off + 4,none⟩=some (.slice B4 x.f3.f1.length d4)∧w'.cell? ⟨(ad.add (m * 8)).block,(ad.add (m * 8)).off + 5,none⟩=some (.int .i64 x.f4.f0)∧w'.cell? ⟨(ad.add (m * 8)).block,(ad.add (m * 8)).off + 6,none⟩=some (.slice B6 x.f4.f1.length d6)∧w'.cell? ⟨(ad.add (m * 8)).block,(ad.add (m * 8)).off + 7,none⟩=some (.bool x.f5)) (ds:=[]) #[false,false,false,false,false,false,false,false,false,false,false,false,false,false] (by kernel_rfl) rfl rfl ⟨hs0,hx0,hx1,hx2,hx3,hx4,hx5,hx6,hx7⟩ (fun hHeld=>?_)
  refine Z.p_ 0 27 ?_
  refine Z.p_ 1 28 ?_
  refine Z.p_ 2 29 ?_
  refine Z.p_ 3 30 ?_
  refine Z.p_ 4 31 ?_
  refine Z.p_ 5 32 ?_
  refine Z.p_ 6 33 ?_
  refine Z.t_ 7 34 hHeld ?_
  refine Z.p_ 9 36 ?_
  refine Z.t_ 10 37 hHeld ?_
  refine Z.on 8 (some 35) fun K hK=>?_
  refine Z.gs Tryz.func94 #[.agg #[.int .i64 x.f0,.int .i64 x.f1,.int .i64 x.f2,.int .i64 x.f3.f0,.slice B4 x.f3.f1.length d4,.int .i64 x.f4.f0,.slice B6 x.f4.f1.length d6,.bool x.f5]] ?_
  refine (span_end.calls x.f0 x.f1 x.f2 x.f3.f0 B4 d4 x.f3.f1 x.f4.f0 B6 d6 x.f4.f1 x.f5 (wrap64 (x.f0 + x.f1)) w22.drew (Kd.C_below HY4.out (below_drew1 (Below.refl _ _))) hy4 (Kd.C_below HY6.out (below_drew1 (Below.refl _ _))) hy6 rfl).mono ?_
  rintro e w35 ⟨rfl,hb⟩
  refine⟨_,rfl,?_⟩
  have hbx:=blk_below (blk_drew HBX.out) hb
  have hN:=Kd.N_below (Kd.N_drew HN.out) hb
  have HB35:=As (below_step (below_drew1 HB22.out) hb)
  refine hK.out _ _ ⟨keepc hb hs0,keepc hb hx0,keepc hb hx1,keepc hb hx2,keepc hb hx3,keepc hb hx4,keepc hb hx5,keepc hb hx6,keepc hb hx7⟩ (fun hHeld=>?_)
  clear HBX HN HB22 hs0 hx0 hx1 hx2 hx3 hx4 hx5 hx6 hx7 hb hy4 hy6 HY4 HY6 hnc hC hw hml hmd
  have HBX:=As hbx
  have HN:=As hN
  clear hbx hN
  clear hK K
  refine Z.n_ 35 ?_
  refine Z.p_ 11 38 ?_
  refine Z.p_ 12 39 ?_
  refine Z.p_ 13 25 ?_
  refine done_ (by kernel_rfl) ?_
  have hw7:=HN.out
  generalize hA7:some ad=A7 at hw7 ⊢
  clear HN
  have HN:=As hw7
  clear hw7 hA7 hHeld hgt h0d
  go_wp2
  have hgw:w.heap.size < w35.heap.size:=blk_lt HBX.out
  by_cases h1:i < l.length
  ·have h1d:decide (i < l.length)=true:=decide_eq_true h1
   have h1t:(i < l.length)=True:=eq_true h1
   obtain⟨-,hnc7,hC7⟩:=Kd.N_reads' HN.out
   obtain⟨ad7,B4,d4,B6,d6,eA,hx0,hx1,hx2,hx3,hx4,hx5,hx6,hx7, -, -, -, -⟩:=at_T51 hC7 (i:Int) (by omega) (by omega)
   subst eA
   rw[Int.toNat_natCast] at hx0
   clear hx1 hx2 hx3 hx4 hx5 hx6 hx7 hC7
   have hxi:rd_T51 l (i:Int)=l[i]:=by simp[rd_T51,h1]
   rw[hxi] at hx0
   have hgt:decide (l[i].f0 < wrap64 (s.f0 + s.f1))=false:=by
    have h2:=HHI.out h1
    have h3:=HR.out s List.mem_cons_self
    exact decide_eq_false (by rw[show wrap64 (s.f0 + s.f1)=s.f0 + s.f1 by unfold wrap64;omega];omega)
   obtain⟨y,hy⟩:∃y,y=l[i].f0:=⟨_,rfl⟩
   rw[←hy] at hx0 hgt
   clear hy hxi
   have hs0:=Z.c0 HBX.out
   have hs1:=Z.c1 HBX.out
   have hs2:=Z.c2 HBX.out
   have hs3:=Z.c3 HBX.out
   have hs4:=Z.c4 HBX.out
   have hs5:=Z.c5 HBX.out
   have hs6:=Z.c6 HBX.out
   have hs7:=Z.c7 HBX.out
   have hx0':w35.drew.cell? (ad7.add (i * 8))=some (.int .i64 y):=hx0
   refine start_ (n:=15) (S:=fun w'=>w'.cell? ⟨w.heap.size,0,none⟩=some (.int .i64 s.f0)∧w'.cell? ⟨w.heap.size,1,none⟩=some (.int .i64 s.f1)∧w'.cell? ⟨w.heap.size,2,none⟩=some (.int .i64 s.f2)∧w'.cell? ⟨w.heap.size,3,none⟩=some (.int .i64 s.f3.f0)∧w'.cell? ⟨w.heap.size,4,none⟩=some (.slice A4 s.f3.f1.length c4)∧w'.cell? ⟨w.heap.size,5,none⟩=some (.int .i64 s.f4.f0)∧w'.cell? ⟨w.heap.size,6,none⟩=some (.slice A6 s.f4.f1.length c6)∧w'.cell? ⟨w.heap.size,7,none⟩=some (.bool s.f5)∧w'.cell? (ad7.add (i * 8))=some (.int .i64 y)) (ds:=[]) #[false,false,false,false,false,false,false,false,false,false,false,false,false,false,false] (by kernel_rfl) rfl rfl ⟨hs0,hs1,hs2,hs3,hs4,hs5,hs6,hs7,hx0'⟩ (fun hHeld=>?_)
   refine Z.p_ 0 40 ?_
   refine Z.p_ 1 41 ?_
   refine Z.p_ 2 42 ?_
   refine Z.p_ 3 43 ?_
   refine Z.p_ 4 44 ?_
   refine Z.t_ 5 45 hHeld ?_
   refine Z.p_ 7 47 ?_
   refine Z.p_ 8 48 ?_
   refine Z.p_ 9 49 ?_
   refine Z.p_ 10 50 ?_
   refine Z.t_ 11 51 hHeld ?_
   refine Z.on 6 (some 46) fun K hK=>?_
   refine Z.gs Tryz.func94 #[.agg #[.int .i64 s.f0,.int .i64 s.f1,.int .i64 s.f2,.int .i64 s.f3.f0,.slice A4 s.f3.f1.length c4,.int .i64 s.f4.f0,.slice A6 s.f4.f1.length c6,.bool s.f5]] ?_
   refine (span_end.calls s.f0 s.f1 s.f2 s.f3.f0 A4 c4 s.f3.f1 s.f4.f0 A6 c6 s.f4.f1 s.f5 (wrap64 (s.f0 + s.f1)) w35.drew (Kd.C_below H4.out (below_drew1 HB35.out)) h4l (Kd.C_below H6.out (below_drew1 HB35.out)) h6l rfl).mono ?_
   rintro e w46 ⟨rfl,hb⟩
   refine⟨_,rfl,?_⟩
   have hbx:=blk_below (blk_drew HBX.out) hb
   have hN:=Kd.N_below (Kd.N_drew HN.out) hb
   have HB46:=As (below_step (below_drew1 HB35.out) hb)
   refine hK.out _ _ ⟨keepc hb hs0,keepc hb hs1,keepc hb hs2,keepc hb hs3,keepc hb hs4,keepc hb hs5,keepc hb hs6,keepc hb hs7,keepc hb hx0'⟩ (fun hHeld=>?_)
   clear HBX HN HB35 hs0 hs1 hs2 hs3 hs4 hs5 hs6 hs7 hx0 hx0' hb hgw
   have HBX:=As hbx
   have HN:=As hN
   clear hbx hN
   clear hK K
   refine Z.n_ 46 ?_
   refine Z.p_ 12 52 ?_
   refine Z.p_ 13 53 ?_
   refine Z.p_ 14 25 ?_
   refine done_ (by kernel_rfl) ?_
   clear hHeld hgt h1d h1t
   have h256:((l.length:Int) == 256)=false:=beq_eq_false_iff_ne.mpr (by omega)
   have hgw:w.heap.size < w46.heap.size:=blk_lt HBX.out
   have hs0:=Z.c0 HBX.out
   have hs1:=Z.c1 HBX.out
   have hs2:=Z.c2 HBX.out
   have hs3:=Z.c3 HBX.out
   have hs4:=Z.c4 HBX.out
   have hs5:=Z.c5 HBX.out
   have hs6:=Z.c6 HBX.out
   have hs7:=Z.c7 HBX.out
   go_wp2_with (fail)
   refine (span_One.calls s.f0 s.f1 s.f2 s.f3.f0 A4 c4 s.f3.f1 s.f4.f0 A6 c6 s.f4.f1 s.f5 _ _ _ _ _ _ _ _ w46 (Kd.C_below H4.out HB46.out) h4l (Kd.C_below H6.out HB46.out) h6l hs.one).mono ?_
   rintro e w63 ⟨v4,v6,rfl,ho4,ho6,hb⟩
   have HFS:=As (Kd.FK_of_M (k51_mkM w63 w46.heap.size (fun k=>w46.heap.size≤k) s (Kd.R_mono (Kd.R_bound ho4) (fun k hk=>hk.2.1)) (Kd.R_mono (Kd.R_bound ho6) (fun k hk=>hk.2.1))))
   obtain⟨A4',c4',rfl⟩:=Kd.R_slice ho4
   obtain⟨A6',c6',rfl⟩:=Kd.R_slice ho6
   have hlt46:=Kd.N_lt HN.out
   have hle46:=HB46.out.size
   have HN63:=As (Kd.N_below HN.out hb)
   have HB63:=As (below_step HB46.out hb)
   clear hb ho4 ho6 HN HB46 HBX hs0 hs1 hs2 hs3 hs4 hs5 hs6 hs7 h256 H4 H6
   dsimp only
   go_wp2_with (fail)
   obtain⟨hown,rows,hrl,hR,hfk⟩:=Kd.N_alloc HN63.out (Obj.cells #[.int .i64 s.f0,.int .i64 s.f1,.int .i64 s.f2,.int .i64 s.f3.f0,.slice A4' s.f3.f1.length c4',.int .i64 s.f4.f0,.slice A6' s.f4.f1.length c6',.bool s.f5] 51)
   have HFK:=As hfk
   have HOWN:=As hown
   clear hfk hown
   have hR2:Kd.R (Kd.raw 8) 51 (w63.alloc (Obj.cells #[.int .i64 s.f0,.int .i64 s.f1,.int .i64 s.f2,.int .i64 s.f3.f0,.slice A4' s.f3.f1.length c4',.int .i64 s.f4.f0,.slice A6' s.f4.f1.length c6',.bool s.f5] 51)) w.heap.size (fun k=>k≠w63.heap.size) (.slice (some ad7) l.length c) rows:=
    Kd.R_mono (Kd.R_lower hR HB13.out.size) (fun k hk=>by have:=Kd.N_lt HN63.out k hk.symm;omega)
   refine (insSn_mid w63.heap.size i [.int .i64 s.f0,.int .i64 s.f1,.int .i64 s.f2,.int .i64 s.f3.f0,.slice A4' s.f3.f1.length c4',.int .i64 s.f4.f0,.slice A6' s.f4.f1.length c6',.bool s.f5] (.slice (some ad7) l.length c) rows w _ (by omega) (below_alloc HB63.out _) hR2 (blk_new _ _) rfl (by simp[Value.oneCell']) (by omega)).mono ?_
   rintro e w65 ⟨v',rfl,hR',hb',hkept,hat⟩
   dsimp only
   go_wp2
   go_ret2
   have hne:∀k,k < (w63.alloc (Obj.cells #[.int .i64 s.f0,.int .i64 s.f1,.int .i64 s.f2,.int .i64 s.f3.f0,.slice A4' s.f3.f1.length c4',.int .i64 s.f4.f0,.slice A6' s.f4.f1.length c6',.bool s.f5] 51)).heap.size→some k≠(Value.slice (some ad7) l.length c).ownBlock→some k≠v'.ownBlock:=fun k hk hn=>by
    rcases hat with e|⟨b,e,hle⟩
    ·rw[e];exact hn
    ·rw[e];intro h;injection h with h;omega
   have hin:=ins_pair (R:=fun x c=>Kd.FK k51 w65 (fun k=>okP k∧some k≠v'.ownBlock) x c) (s:=s) (xc:=[.int .i64 s.f0,.int .i64 s.f1,.int .i64 s.f2,.int .i64 s.f3.f0,.slice A4' s.f3.f1.length c4',.int .i64 s.f4.f0,.slice A6' s.f4.f1.length c6',.bool s.f5])
    (Kd.FK_mono (Kd.FK_step (Kd.FK_bound (Kd.FK_below HFS.out (below_alloc (Below.refl _ _) _))) (fun k hk hlt=>hkept k hlt (fun e=>by have:=hlt46 k e.symm;have:=hk.1;omega))) (fun k hk=>⟨HNW.out k (by have:=hk.1;omega),hne k hk.2 (fun e=>by have:=hlt46 k e.symm;have:=hk.1;omega)⟩))
    i l rows (by omega) hrl (fun j x c hx hc=>Kd.FK_mono (Kd.FK_step (Kd.FK_bound (HFK.out j x c hx hc)) (fun k hk hlt=>hkept k hlt hk.1.2)) (fun k hk=>⟨hk.1.1,hne k hk.2 hk.1.2⟩))
   refine⟨v',rfl,⟨fun k hk=>?_,_,hin.1,Kd.raw_tight hR',hin.2⟩,hb'⟩
   rcases hat with e|⟨b,e,hle⟩
   ·exact HOWN.out k (by rw[←e];exact hk)
   ·rw[e] at hk;injection hk with hk
    exact HNW.out k (by have:=HB63.out.size;have:w63.heap.size≤(w63.alloc (Obj.cells #[.int .i64 s.f0,.int .i64 s.f1,.int .i64 s.f2,.int .i64 s.f3.f0,.slice A4' s.f3.f1.length c4',.int .i64 s.f4.f0,.slice A6' s.f4.f1.length c6',.bool s.f5] 51)).heap.size:=(by simp);omega)
  ·have h1d:decide (i < l.length)=false:=decide_eq_false h1
   have hN:=Kd.N_drew HN.out
   have hbx:=blk_drew HBX.out
   refine start_ (n:=15) (S:=fun w'=>True) (ds:=[]) #[false,false,false,false,false,false,false,false,false,false,false,false,false,false,false] (by kernel_rfl) rfl rfl trivial (fun hHeld=>?_)
   have HB46:=As (below_drew1 HB35.out)
   clear HBX HN HB35 hgw
   have HBX:=As hbx
   have HN:=As hN
   clear hbx hN
   generalize w35.drew=w46 at HB46 HBX HN hHeld ⊢
   refine Z.p_ 0 40 ?_
   refine Z.p_ 1 41 ?_
   refine Z.p_ 2 42 ?_
   refine Z.p_ 3 43 ?_
   refine Z.p_ 4 44 ?_
   refine Z.x_ 5 45 ?_
   refine Z.x_ 6 46 ?_
   refine Z.x_ 7 47 ?_
   refine Z.x_ 8 48 ?_
   refine Z.x_ 9 49 ?_
   refine Z.x_ 10 50 ?_
   refine Z.x_ 11 51 ?_
   refine Z.x_ 12 52 ?_
   refine Z.p_ 13 53 ?_
   refine Z.p_ 14 25 ?_
   refine done_ (by kernel_rfl) ?_
   clear hHeld h1d
   have h256:((l.length:Int) == 256)=false:=beq_eq_false_iff_ne.mpr (by omega)
   have hgw:w.heap.size < w46.heap.size:=blk_lt HBX.out
   have hs0:=Z.c0 HBX.out
   have hs1:=Z.c1 HBX.out
   have hs2:=Z.c2 HBX.out
   have hs3:=Z.c3 HBX.out
   have hs4:=Z.c4 HBX.out
   have hs5:=Z.c5 HBX.out
   have hs6:=Z.c6 HBX.out
   have hs7:=Z.c7 HBX.out
   go_wp2_with (fail)
   refine (span_One.calls s.f0 s.f1 s.f2 s.f3.f0 A4 c4 s.f3.f1 s.f4.f0 A6 c6 s.f4.f1 s.f5 _ _ _ _ _ _ _ _ w46 (Kd.C_below H4.out HB46.out) h4l (Kd.C_below H6.out HB46.out) h6l hs.one).mono ?_
   rintro e w63 ⟨v4,v6,rfl,ho4,ho6,hb⟩
   have HFS:=As (Kd.FK_of_M (k51_mkM w63 w46.heap.size (fun k=>w46.heap.size≤k) s (Kd.R_mono (Kd.R_bound ho4) (fun k hk=>hk.2.1)) (Kd.R_mono (Kd.R_bound ho6) (fun k hk=>hk.2.1))))
   obtain⟨A4',c4',rfl⟩:=Kd.R_slice ho4
   obtain⟨A6',c6',rfl⟩:=Kd.R_slice ho6
   have hlt46:=Kd.N_lt HN.out
   have hle46:=HB46.out.size
   have HN63:=As (Kd.N_below HN.out hb)
   have HB63:=As (below_step HB46.out hb)
   clear hb ho4 ho6 HN HB46 HBX hs0 hs1 hs2 hs3 hs4 hs5 hs6 hs7 h256 H4 H6
   dsimp only
   go_wp2_with (fail)
   obtain⟨hown,rows,hrl,hR,hfk⟩:=Kd.N_alloc HN63.out (Obj.cells #[.int .i64 s.f0,.int .i64 s.f1,.int .i64 s.f2,.int .i64 s.f3.f0,.slice A4' s.f3.f1.length c4',.int .i64 s.f4.f0,.slice A6' s.f4.f1.length c6',.bool s.f5] 51)
   have HFK:=As hfk
   have HOWN:=As hown
   clear hfk hown
   have hR2:Kd.R (Kd.raw 8) 51 (w63.alloc (Obj.cells #[.int .i64 s.f0,.int .i64 s.f1,.int .i64 s.f2,.int .i64 s.f3.f0,.slice A4' s.f3.f1.length c4',.int .i64 s.f4.f0,.slice A6' s.f4.f1.length c6',.bool s.f5] 51)) w.heap.size (fun _=>True) (.slice A7 l.length c) rows:=
    Kd.R_mono (Kd.R_lower hR HB13.out.size) (fun _ _=>trivial)
   have hil:(i:Int)=(rows.length:Int):=by omega
   have htd:l.take i ++ [s] ++ l.drop i=l ++ [s]:=by rw[List.take_of_length_le (by omega),List.drop_eq_nil_of_le (by omega),List.append_nil]
   have htr:∀xc:List Value,rows.take i ++ [xc] ++ rows.drop i=rows ++ [xc]:=fun xc=>by rw[List.take_of_length_le (by omega),List.drop_eq_nil_of_le (by omega),List.append_nil]
   rw[hil]
   refine (insSn_end w63.heap.size [.int .i64 s.f0,.int .i64 s.f1,.int .i64 s.f2,.int .i64 s.f3.f0,.slice A4' s.f3.f1.length c4',.int .i64 s.f4.f0,.slice A6' s.f4.f1.length c6',.bool s.f5] (.slice A7 l.length c) rows w _ (below_alloc HB63.out _) hR2 (blk_new _ _) rfl (by simp[Value.oneCell']) (by omega)).mono ?_
   rintro e w65 ⟨v',rfl,hR',hb',hkept,hat⟩
   dsimp only
   go_wp2
   go_ret2
   have hne:∀k,k < (w63.alloc (Obj.cells #[.int .i64 s.f0,.int .i64 s.f1,.int .i64 s.f2,.int .i64 s.f3.f0,.slice A4' s.f3.f1.length c4',.int .i64 s.f4.f0,.slice A6' s.f4.f1.length c6',.bool s.f5] 51)).heap.size→some k≠(Value.slice A7 l.length c).ownBlock→some k≠v'.ownBlock:=fun k hk hn=>by
    rcases hat with e|⟨b,e,hle⟩
    ·rw[e];exact hn
    ·rw[e];intro h;injection h with h;omega
   have hin:=ins_pair (R:=fun x c=>Kd.FK k51 w65 (fun k=>okP k∧some k≠v'.ownBlock) x c) (s:=s) (xc:=[.int .i64 s.f0,.int .i64 s.f1,.int .i64 s.f2,.int .i64 s.f3.f0,.slice A4' s.f3.f1.length c4',.int .i64 s.f4.f0,.slice A6' s.f4.f1.length c6',.bool s.f5])
    (Kd.FK_mono (Kd.FK_step (Kd.FK_bound (Kd.FK_below HFS.out (below_alloc (Below.refl _ _) _))) (fun k hk hlt=>hkept k hlt (fun e=>by have:=hlt46 k e.symm;have:=hk.1;omega))) (fun k hk=>⟨HNW.out k (by have:=hk.1;omega),hne k hk.2 (fun e=>by have:=hlt46 k e.symm;have:=hk.1;omega)⟩))
    i l rows (by omega) hrl (fun j x c hx hc=>Kd.FK_mono (Kd.FK_step (Kd.FK_bound (HFK.out j x c hx hc)) (fun k hk hlt=>hkept k hlt hk.1.2)) (fun k hk=>⟨hk.1.1,hne k hk.2 hk.1.2⟩))
   rw[←htr] at hR'
   refine⟨v',rfl,⟨fun k hk=>?_,_,hin.1,Kd.raw_tight hR',hin.2⟩,hb'⟩
   rcases hat with e|⟨b,e,hle⟩
   ·exact HOWN.out k (by rw[←e];exact hk)
   ·rw[e] at hk;injection hk with hk
    exact HNW.out k (by have:=HB63.out.size;have:w63.heap.size≤(w63.alloc (Obj.cells #[.int .i64 s.f0,.int .i64 s.f1,.int .i64 s.f2,.int .i64 s.f3.f0,.slice A4' s.f3.f1.length c4',.int .i64 s.f4.f0,.slice A6' s.f4.f1.length c6',.bool s.f5] 51)).heap.size:=(by simp);omega)
 ·have h0d:decide (0 < i)=false:=decide_eq_false h0
  have HB35:=As (below_drew1 HB22.out)
  have hbx:=blk_drew HBX.out
  have hN:=Kd.N_drew HN.out
  refine start_ (n:=14) (S:=fun w'=>True) (ds:=[]) #[false,false,false,false,false,false,false,false,false,false,false,false,false,false] (by kernel_rfl) rfl rfl trivial (fun hHeld=>?_)
  clear HBX HN
  have HBX:=As hbx
  have HN:=As hN
  clear hbx hN HB22
  generalize w22.drew=w35 at HB35 HBX HN hHeld ⊢
  generalize A=A7 at HN ⊢
  refine Z.p_ 0 27 ?_
  refine Z.p_ 1 28 ?_
  refine Z.p_ 2 29 ?_
  refine Z.x_ 3 30 ?_
  refine Z.x_ 4 31 ?_
  refine Z.x_ 5 32 ?_
  refine Z.x_ 6 33 ?_
  refine Z.x_ 7 34 ?_
  refine Z.x_ 8 35 ?_
  refine Z.x_ 9 36 ?_
  refine Z.x_ 10 37 ?_
  refine Z.x_ 11 38 ?_
  refine Z.p_ 12 39 ?_
  refine Z.p_ 13 25 ?_
  refine done_ (by kernel_rfl) ?_
  clear hHeld h0d
  go_wp2
  have hgw:w.heap.size < w35.heap.size:=blk_lt HBX.out
  by_cases h1:i < l.length
  ·have h1d:decide (i < l.length)=true:=decide_eq_true h1
   have h1t:(i < l.length)=True:=eq_true h1
   obtain⟨-,hnc7,hC7⟩:=Kd.N_reads' HN.out
   obtain⟨ad7,B4,d4,B6,d6,eA,hx0,hx1,hx2,hx3,hx4,hx5,hx6,hx7, -, -, -, -⟩:=at_T51 hC7 (i:Int) (by omega) (by omega)
   subst eA
   rw[Int.toNat_natCast] at hx0
   clear hx1 hx2 hx3 hx4 hx5 hx6 hx7 hC7
   have hxi:rd_T51 l (i:Int)=l[i]:=by simp[rd_T51,h1]
   rw[hxi] at hx0
   have hgt:decide (l[i].f0 < wrap64 (s.f0 + s.f1))=false:=by
    have h2:=HHI.out h1
    have h3:=HR.out s List.mem_cons_self
    exact decide_eq_false (by rw[show wrap64 (s.f0 + s.f1)=s.f0 + s.f1 by unfold wrap64;omega];omega)
   obtain⟨y,hy⟩:∃y,y=l[i].f0:=⟨_,rfl⟩
   rw[←hy] at hx0 hgt
   clear hy hxi
   have hs0:=Z.c0 HBX.out
   have hs1:=Z.c1 HBX.out
   have hs2:=Z.c2 HBX.out
   have hs3:=Z.c3 HBX.out
   have hs4:=Z.c4 HBX.out
   have hs5:=Z.c5 HBX.out
   have hs6:=Z.c6 HBX.out
   have hs7:=Z.c7 HBX.out
   have hx0':w35.drew.cell? (ad7.add (i * 8))=some (.int .i64 y):=hx0
   refine start_ (n:=15) (S:=fun w'=>w'.cell? ⟨w.heap.size,0,none⟩=some (.int .i64 s.f0)∧w'.cell? ⟨w.heap.size,1,none⟩=some (.int .i64 s.f1)∧w'.cell? ⟨w.heap.size,2,none⟩=some (.int .i64 s.f2)∧w'.cell? ⟨w.heap.size,3,none⟩=some (.int .i64 s.f3.f0)∧w'.cell? ⟨w.heap.size,4,none⟩=some (.slice A4 s.f3.f1.length c4)∧w'.cell? ⟨w.heap.size,5,none⟩=some (.int .i64 s.f4.f0)∧w'.cell? ⟨w.heap.size,6,none⟩=some (.slice A6 s.f4.f1.length c6)∧w'.cell? ⟨w.heap.size,7,none⟩=some (.bool s.f5)∧w'.cell? (ad7.add (i * 8))=some (.int .i64 y)) (ds:=[]) #[false,false,false,false,false,false,false,false,false,false,false,false,false,false,false] (by kernel_rfl) rfl rfl ⟨hs0,hs1,hs2,hs3,hs4,hs5,hs6,hs7,hx0'⟩ (fun hHeld=>?_)
   refine Z.p_ 0 40 ?_
   refine Z.p_ 1 41 ?_
   refine Z.p_ 2 42 ?_
   refine Z.p_ 3 43 ?_
   refine Z.p_ 4 44 ?_
   refine Z.t_ 5 45 hHeld ?_
   refine Z.p_ 7 47 ?_
   refine Z.p_ 8 48 ?_
   refine Z.p_ 9 49 ?_
   refine Z.p_ 10 50 ?_
   refine Z.t_ 11 51 hHeld ?_
   refine Z.on 6 (some 46) fun K hK=>?_
   refine Z.gs Tryz.func94 #[.agg #[.int .i64 s.f0,.int .i64 s.f1,.int .i64 s.f2,.int .i64 s.f3.f0,.slice A4 s.f3.f1.length c4,.int .i64 s.f4.f0,.slice A6 s.f4.f1.length c6,.bool s.f5]] ?_
   refine (span_end.calls s.f0 s.f1 s.f2 s.f3.f0 A4 c4 s.f3.f1 s.f4.f0 A6 c6 s.f4.f1 s.f5 (wrap64 (s.f0 + s.f1)) w35.drew (Kd.C_below H4.out (below_drew1 HB35.out)) h4l (Kd.C_below H6.out (below_drew1 HB35.out)) h6l rfl).mono ?_
   rintro e w46 ⟨rfl,hb⟩
   refine⟨_,rfl,?_⟩
   have hbx:=blk_below (blk_drew HBX.out) hb
   have hN:=Kd.N_below (Kd.N_drew HN.out) hb
   have HB46:=As (below_step (below_drew1 HB35.out) hb)
   refine hK.out _ _ ⟨keepc hb hs0,keepc hb hs1,keepc hb hs2,keepc hb hs3,keepc hb hs4,keepc hb hs5,keepc hb hs6,keepc hb hs7,keepc hb hx0'⟩ (fun hHeld=>?_)
   clear HBX HN HB35 hs0 hs1 hs2 hs3 hs4 hs5 hs6 hs7 hx0 hx0' hb hgw
   have HBX:=As hbx
   have HN:=As hN
   clear hbx hN
   clear hK K
   refine Z.n_ 46 ?_
   refine Z.p_ 12 52 ?_
   refine Z.p_ 13 53 ?_
   refine Z.p_ 14 25 ?_
   refine done_ (by kernel_rfl) ?_
   clear hHeld hgt h1d h1t
   have h256:((l.length:Int) == 256)=false:=beq_eq_false_iff_ne.mpr (by omega)
   have hgw:w.heap.size < w46.heap.size:=blk_lt HBX.out
   have hs0:=Z.c0 HBX.out
   have hs1:=Z.c1 HBX.out
   have hs2:=Z.c2 HBX.out
   have hs3:=Z.c3 HBX.out
   have hs4:=Z.c4 HBX.out
   have hs5:=Z.c5 HBX.out
   have hs6:=Z.c6 HBX.out
   have hs7:=Z.c7 HBX.out
   go_wp2_with (fail)
   refine (span_One.calls s.f0 s.f1 s.f2 s.f3.f0 A4 c4 s.f3.f1 s.f4.f0 A6 c6 s.f4.f1 s.f5 _ _ _ _ _ _ _ _ w46 (Kd.C_below H4.out HB46.out) h4l (Kd.C_below H6.out HB46.out) h6l hs.one).mono ?_
   rintro e w63 ⟨v4,v6,rfl,ho4,ho6,hb⟩
   have HFS:=As (Kd.FK_of_M (k51_mkM w63 w46.heap.size (fun k=>w46.heap.size≤k) s (Kd.R_mono (Kd.R_bound ho4) (fun k hk=>hk.2.1)) (Kd.R_mono (Kd.R_bound ho6) (fun k hk=>hk.2.1))))
   obtain⟨A4',c4',rfl⟩:=Kd.R_slice ho4
   obtain⟨A6',c6',rfl⟩:=Kd.R_slice ho6
   have hlt46:=Kd.N_lt HN.out
   have hle46:=HB46.out.size
   have HN63:=As (Kd.N_below HN.out hb)
   have HB63:=As (below_step HB46.out hb)
   clear hb ho4 ho6 HN HB46 HBX hs0 hs1 hs2 hs3 hs4 hs5 hs6 hs7 h256 H4 H6
   dsimp only
   go_wp2_with (fail)
   obtain⟨hown,rows,hrl,hR,hfk⟩:=Kd.N_alloc HN63.out (Obj.cells #[.int .i64 s.f0,.int .i64 s.f1,.int .i64 s.f2,.int .i64 s.f3.f0,.slice A4' s.f3.f1.length c4',.int .i64 s.f4.f0,.slice A6' s.f4.f1.length c6',.bool s.f5] 51)
   have HFK:=As hfk
   have HOWN:=As hown
   clear hfk hown
   have hR2:Kd.R (Kd.raw 8) 51 (w63.alloc (Obj.cells #[.int .i64 s.f0,.int .i64 s.f1,.int .i64 s.f2,.int .i64 s.f3.f0,.slice A4' s.f3.f1.length c4',.int .i64 s.f4.f0,.slice A6' s.f4.f1.length c6',.bool s.f5] 51)) w.heap.size (fun k=>k≠w63.heap.size) (.slice (some ad7) l.length c) rows:=
    Kd.R_mono (Kd.R_lower hR HB13.out.size) (fun k hk=>by have:=Kd.N_lt HN63.out k hk.symm;omega)
   refine (insSn_mid w63.heap.size i [.int .i64 s.f0,.int .i64 s.f1,.int .i64 s.f2,.int .i64 s.f3.f0,.slice A4' s.f3.f1.length c4',.int .i64 s.f4.f0,.slice A6' s.f4.f1.length c6',.bool s.f5] (.slice (some ad7) l.length c) rows w _ (by omega) (below_alloc HB63.out _) hR2 (blk_new _ _) rfl (by simp[Value.oneCell']) (by omega)).mono ?_
   rintro e w65 ⟨v',rfl,hR',hb',hkept,hat⟩
   dsimp only
   go_wp2
   go_ret2
   have hne:∀k,k < (w63.alloc (Obj.cells #[.int .i64 s.f0,.int .i64 s.f1,.int .i64 s.f2,.int .i64 s.f3.f0,.slice A4' s.f3.f1.length c4',.int .i64 s.f4.f0,.slice A6' s.f4.f1.length c6',.bool s.f5] 51)).heap.size→some k≠(Value.slice (some ad7) l.length c).ownBlock→some k≠v'.ownBlock:=fun k hk hn=>by
    rcases hat with e|⟨b,e,hle⟩
    ·rw[e];exact hn
    ·rw[e];intro h;injection h with h;omega
   have hin:=ins_pair (R:=fun x c=>Kd.FK k51 w65 (fun k=>okP k∧some k≠v'.ownBlock) x c) (s:=s) (xc:=[.int .i64 s.f0,.int .i64 s.f1,.int .i64 s.f2,.int .i64 s.f3.f0,.slice A4' s.f3.f1.length c4',.int .i64 s.f4.f0,.slice A6' s.f4.f1.length c6',.bool s.f5])
    (Kd.FK_mono (Kd.FK_step (Kd.FK_bound (Kd.FK_below HFS.out (below_alloc (Below.refl _ _) _))) (fun k hk hlt=>hkept k hlt (fun e=>by have:=hlt46 k e.symm;have:=hk.1;omega))) (fun k hk=>⟨HNW.out k (by have:=hk.1;omega),hne k hk.2 (fun e=>by have:=hlt46 k e.symm;have:=hk.1;omega)⟩))
    i l rows (by omega) hrl (fun j x c hx hc=>Kd.FK_mono (Kd.FK_step (Kd.FK_bound (HFK.out j x c hx hc)) (fun k hk hlt=>hkept k hlt hk.1.2)) (fun k hk=>⟨hk.1.1,hne k hk.2 hk.1.2⟩))
   refine⟨v',rfl,⟨fun k hk=>?_,_,hin.1,Kd.raw_tight hR',hin.2⟩,hb'⟩
   rcases hat with e|⟨b,e,hle⟩
   ·exact HOWN.out k (by rw[←e];exact hk)
   ·rw[e] at hk;injection hk with hk
    exact HNW.out k (by have:=HB63.out.size;have:w63.heap.size≤(w63.alloc (Obj.cells #[.int .i64 s.f0,.int .i64 s.f1,.int .i64 s.f2,.int .i64 s.f3.f0,.slice A4' s.f3.f1.length c4',.int .i64 s.f4.f0,.slice A6' s.f4.f1.length c6',.bool s.f5] 51)).heap.size:=(by simp);omega)
  ·have h1d:decide (i < l.length)=false:=decide_eq_false h1
   have hN:=Kd.N_drew HN.out
   have hbx:=blk_drew HBX.out
   refine start_ (n:=15) (S:=fun w'=>True) (ds:=[]) #[false,false,false,false,false,false,false,false,false,false,false,false,false,false,false] (by kernel_rfl) rfl rfl trivial (fun hHeld=>?_)
   have HB46:=As (below_drew1 HB35.out)
   clear HBX HN HB35 hgw
   have HBX:=As hbx
   have HN:=As hN
   clear hbx hN
   generalize w35.drew=w46 at HB46 HBX HN hHeld ⊢
   refine Z.p_ 0 40 ?_
   refine Z.p_ 1 41 ?_
   refine Z.p_ 2 42 ?_
   refine Z.p_ 3 43 ?_
   refine Z.p_ 4 44 ?_
   refine Z.x_ 5 45 ?_
   refine Z.x_ 6 46 ?_
   refine Z.x_ 7 47 ?_
   refine Z.x_ 8 48 ?_
   refine Z.x_ 9 49 ?_
   refine Z.x_ 10 50 ?_
   refine Z.x_ 11 51 ?_
   refine Z.x_ 12 52 ?_
   refine Z.p_ 13 53 ?_
   refine Z.p_ 14 25 ?_
   refine done_ (by kernel_rfl) ?_
   clear hHeld h1d
   have h256:((l.length:Int) == 256)=false:=beq_eq_false_iff_ne.mpr (by omega)
   have hgw:w.heap.size < w46.heap.size:=blk_lt HBX.out
   have hs0:=Z.c0 HBX.out
   have hs1:=Z.c1 HBX.out
   have hs2:=Z.c2 HBX.out
   have hs3:=Z.c3 HBX.out
   have hs4:=Z.c4 HBX.out
   have hs5:=Z.c5 HBX.out
   have hs6:=Z.c6 HBX.out
   have hs7:=Z.c7 HBX.out
   go_wp2_with (fail)
   refine (span_One.calls s.f0 s.f1 s.f2 s.f3.f0 A4 c4 s.f3.f1 s.f4.f0 A6 c6 s.f4.f1 s.f5 _ _ _ _ _ _ _ _ w46 (Kd.C_below H4.out HB46.out) h4l (Kd.C_below H6.out HB46.out) h6l hs.one).mono ?_
   rintro e w63 ⟨v4,v6,rfl,ho4,ho6,hb⟩
   have HFS:=As (Kd.FK_of_M (k51_mkM w63 w46.heap.size (fun k=>w46.heap.size≤k) s (Kd.R_mono (Kd.R_bound ho4) (fun k hk=>hk.2.1)) (Kd.R_mono (Kd.R_bound ho6) (fun k hk=>hk.2.1))))
   obtain⟨A4',c4',rfl⟩:=Kd.R_slice ho4
   obtain⟨A6',c6',rfl⟩:=Kd.R_slice ho6
   have hlt46:=Kd.N_lt HN.out
   have hle46:=HB46.out.size
   have HN63:=As (Kd.N_below HN.out hb)
   have HB63:=As (below_step HB46.out hb)
   clear hb ho4 ho6 HN HB46 HBX hs0 hs1 hs2 hs3 hs4 hs5 hs6 hs7 h256 H4 H6
   dsimp only
   go_wp2_with (fail)
   obtain⟨hown,rows,hrl,hR,hfk⟩:=Kd.N_alloc HN63.out (Obj.cells #[.int .i64 s.f0,.int .i64 s.f1,.int .i64 s.f2,.int .i64 s.f3.f0,.slice A4' s.f3.f1.length c4',.int .i64 s.f4.f0,.slice A6' s.f4.f1.length c6',.bool s.f5] 51)
   have HFK:=As hfk
   have HOWN:=As hown
   clear hfk hown
   have hR2:Kd.R (Kd.raw 8) 51 (w63.alloc (Obj.cells #[.int .i64 s.f0,.int .i64 s.f1,.int .i64 s.f2,.int .i64 s.f3.f0,.slice A4' s.f3.f1.length c4',.int .i64 s.f4.f0,.slice A6' s.f4.f1.length c6',.bool s.f5] 51)) w.heap.size (fun _=>True) (.slice A7 l.length c) rows:=
    Kd.R_mono (Kd.R_lower hR HB13.out.size) (fun _ _=>trivial)
   have hil:(i:Int)=(rows.length:Int):=by omega
   have htd:l.take i ++ [s] ++ l.drop i=l ++ [s]:=by rw[List.take_of_length_le (by omega),List.drop_eq_nil_of_le (by omega),List.append_nil]
   have htr:∀xc:List Value,rows.take i ++ [xc] ++ rows.drop i=rows ++ [xc]:=fun xc=>by rw[List.take_of_length_le (by omega),List.drop_eq_nil_of_le (by omega),List.append_nil]
   rw[hil]
   refine (insSn_end w63.heap.size [.int .i64 s.f0,.int .i64 s.f1,.int .i64 s.f2,.int .i64 s.f3.f0,.slice A4' s.f3.f1.length c4',.int .i64 s.f4.f0,.slice A6' s.f4.f1.length c6',.bool s.f5] (.slice A7 l.length c) rows w _ (below_alloc HB63.out _) hR2 (blk_new _ _) rfl (by simp[Value.oneCell']) (by omega)).mono ?_
   rintro e w65 ⟨v',rfl,hR',hb',hkept,hat⟩
   dsimp only
   go_wp2
   go_ret2
   have hne:∀k,k < (w63.alloc (Obj.cells #[.int .i64 s.f0,.int .i64 s.f1,.int .i64 s.f2,.int .i64 s.f3.f0,.slice A4' s.f3.f1.length c4',.int .i64 s.f4.f0,.slice A6' s.f4.f1.length c6',.bool s.f5] 51)).heap.size→some k≠(Value.slice A7 l.length c).ownBlock→some k≠v'.ownBlock:=fun k hk hn=>by
    rcases hat with e|⟨b,e,hle⟩
    ·rw[e];exact hn
    ·rw[e];intro h;injection h with h;omega
   have hin:=ins_pair (R:=fun x c=>Kd.FK k51 w65 (fun k=>okP k∧some k≠v'.ownBlock) x c) (s:=s) (xc:=[.int .i64 s.f0,.int .i64 s.f1,.int .i64 s.f2,.int .i64 s.f3.f0,.slice A4' s.f3.f1.length c4',.int .i64 s.f4.f0,.slice A6' s.f4.f1.length c6',.bool s.f5])
    (Kd.FK_mono (Kd.FK_step (Kd.FK_bound (Kd.FK_below HFS.out (below_alloc (Below.refl _ _) _))) (fun k hk hlt=>hkept k hlt (fun e=>by have:=hlt46 k e.symm;have:=hk.1;omega))) (fun k hk=>⟨HNW.out k (by have:=hk.1;omega),hne k hk.2 (fun e=>by have:=hlt46 k e.symm;have:=hk.1;omega)⟩))
    i l rows (by omega) hrl (fun j x c hx hc=>Kd.FK_mono (Kd.FK_step (Kd.FK_bound (HFK.out j x c hx hc)) (fun k hk hlt=>hkept k hlt hk.1.2)) (fun k hk=>⟨hk.1.1,hne k hk.2 hk.1.2⟩))
   rw[←htr] at hR'
   refine⟨v',rfl,⟨fun k hk=>?_,_,hin.1,Kd.raw_tight hR',hin.2⟩,hb'⟩
   rcases hat with e|⟨b,e,hle⟩
   ·exact HOWN.out k (by rw[←e];exact hk)
   ·rw[e] at hk;injection hk with hk
    exact HNW.out k (by have:=HB63.out.size;have:w63.heap.size≤(w63.alloc (Obj.cells #[.int .i64 s.f0,.int .i64 s.f1,.int .i64 s.f2,.int .i64 s.f3.f0,.slice A4' s.f3.f1.length c4',.int .i64 s.f4.f0,.slice A6' s.f4.f1.length c6',.bool s.f5] 51)).heap.size:=(by simp);omega)
end Go.Proofs.YtmmfchnbfnegnaaGreatDoor.K
end
