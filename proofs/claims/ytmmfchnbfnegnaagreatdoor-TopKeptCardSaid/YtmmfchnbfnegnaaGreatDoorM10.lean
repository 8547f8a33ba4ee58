import Derived.Test.YtmmfchnbfnegnaaGreatDoorM08
import Derived.Test.YtmmfchnbfnegnaaGreatDoorM03
import Derived.Test.YtmmfchnbfnegnaaGreatDoorM04
import Derived.Test.YtmmfchnbfnegnaaGreatDoorM07
section
namespace Go.Proofs.YtmmfchnbfnegnaaGreatDoor.K
open Go.RowKit Go.Proofs.YtmmfchnbfnegnaaGreatDoorW.PrintWords Go.Proofs.YtmmfchnbfnegnaaGreatDoorW.PrintLast Go.Proofs.YtmmfchnbfnegnaaGreatDoorW.PrintMore Go.Proofs.YtmmfchnbfnegnaaGreatDoor.GK
attribute [local go_sem] max2_int min2_int max_two min_two max_three min_three max_four min_four
set_option maxHeartbeats 8000000 in
set_option maxRecDepth 100000 in
theorem ixSp {F:FuncId} {first cap:Array Value} (p:List Value→Bool) (A:Option Addr) (c:Nat) (rows:List (List Value)) (w:World) (hr:Kd.C (Kd.raw 3) w A rows.length rows) (hfn:FnIs Tryz.prog F)
  (hp:∀W x,Below w.heap.size w W→x∈rows→Calls Tryz.prog F (first ++ #[.agg x.toArray] ++ cap) W fun e W'=>e=.returned (.bool (p x))∧Below W.heap.size W W'):
  Calls Tryz.prog 72 #[.slice A rows.length c,.func (.func F) first cap] w fun e w'=>e=.returned (.int .i64 (ixP p rows 0))∧Below w.heap.size w w':=by
 have hue:=Tryz.underlying48
 have hml:rows.length≤9223372036854775807:=hr.2.1
 have HR:=As hr
 have HP:=As hp
 have HF:=As hfn
 clear hr hp hfn
 obtain⟨res,hres⟩:∃r,r=ixP p rows 0:=⟨_,rfl⟩
 have HE:=As hres
 rw[←hres]
 clear hres
 go_enter Tryz.func72,Tryz.ntmps72
 go_wp2
 go_loopw [8] (fun v8 wr=>∃i:Nat,v8=.int .i64 (i:Int)∧Aside0 (i≤rows.length)∧Aside0 (res=ixP p (rows.drop i) (i:Int))∧Aside0 (Below w.heap.size w wr)) (fun v8 _=>rows.length - (intOf v8).toNat)
 case atStart=>exact⟨0,rfl,⟨Nat.zero_le _⟩,HE,⟨by repeat (first|exact Below.refl _ _|apply pw_below_drewN|apply below_drew1)⟩⟩
 case round=>
  clear HE
  obtain⟨i,rfl,HI,HE,HB⟩:=hrel
  by_cases hlt:i < rows.length
  ·obtain⟨ad,eA,hlen,hcell0,hcell⟩:=raw_at (Kd.C_below HR.out HB.out) hlt
   subst eA
   have hE:=HE.out
   rw[ixP_drop p rows hlt] at hE
   have hcall:=fun W (hb:Below wr.heap.size wr W)=>HP.out W rows[i] (below_step HB.out hb) (List.getElem_mem hlt)
   have HX:=As (show rows[i]∈rows from List.getElem_mem hlt)
   obtain⟨x,hx⟩:∃x,x=rows[i]:=⟨_,rfl⟩
   rw[←hx] at hlen hcell0 hcell hE hcall
   obtain⟨v0,v1,v2,rfl⟩:=three hlen
   have hc0:wr.cell? (ad.add (i * 3))=some v0:=hcell0 _ rfl
   have hc1:wr.cell? ⟨(ad.add (i * 3)).block,(ad.add (i * 3)).off + 1,none⟩=some v1:=hcell 1 _ (by decide) rfl
   have hc2:wr.cell? ⟨(ad.add (i * 3)).block,(ad.add (i * 3)).off + 2,none⟩=some v2:=hcell 2 _ (by decide) rfl
   obtain⟨b,hb⟩:∃b,b=p [v0,v1,v2]:=⟨_,rfl⟩
   rw[←hb] at hE hcall
   have HC:=As hcall
   have HLT:=As hlt
   have hltd:((i:Int) < (rows.length:Int))=True:=eq_true (by omega)
   clear hcell0 hcell hlen hx hb hcall HE
   cases b with
   |true=>
    rw[if_pos rfl] at hE
    have HE:=As hE
    clear hE
    go_wp2_with ((with_reducible refine gateF_ rfl ?_);refine goesF_ (some 16) rfl rfl HF.out _ #[.agg #[v0,v1,v2]] _ rfl (by rfl) (by simp only[List.map_toArray,List.map_cons,List.map_nil];rfl) ?_;refine (HC.out _ (by repeat (first|exact Below.refl _ _|apply pw_below_drewN|apply below_drew1))).mono ?_;rintro e w16 ⟨rfl,hb⟩;refine⟨_,rfl,?_⟩;have HB2:=As (below_step HB.out (below_step (by repeat (first|exact Below.refl _ _|apply pw_below_drewN|apply below_drew1)) hb));clear hb)
    go_ret
    exact⟨by rw[HE.out];rfl,HB2.out⟩
   |false=>
    rw[if_neg (by decide)] at hE
    have HE:=As hE
    clear hE
    go_wp2_with ((with_reducible refine gateF_ rfl ?_);refine goesF_ (some 16) rfl rfl HF.out _ #[.agg #[v0,v1,v2]] _ rfl (by rfl) (by simp only[List.map_toArray,List.map_cons,List.map_nil];rfl) ?_;refine (HC.out _ (by repeat (first|exact Below.refl _ _|apply pw_below_drewN|apply below_drew1))).mono ?_;rintro e w16 ⟨rfl,hb⟩;refine⟨_,rfl,?_⟩;have HB2:=As (below_step HB.out (below_step (by repeat (first|exact Below.refl _ _|apply pw_below_drewN|apply below_drew1)) hb));clear hb)
    go_roundw
    case rel=>exact⟨i + 1,by go_num,⟨HLT.out⟩,HE,⟨by repeat (first|exact HB2.out|apply pw_below_drewN|apply below_drew1)⟩⟩
    case measure=>have:=HLT.out;simp[intOf];omega
  ·have hnl:decide (i < rows.length)=false:=decide_eq_false hlt
   have hi:i=rows.length:=by have:=HI.out;omega
   have hE:=HE.out
   rw[hi,List.drop_length,ixP] at hE
   have HE2:=As hE
   clear hE hi hlt HE
   go_wp2
   go_ret
   exact⟨by rw[HE2.out];rfl,by repeat (first|exact HB.out|apply pw_below_drewN|apply below_drew1)⟩
set_option maxHeartbeats 8000000 in
set_option maxRecDepth 100000 in
theorem ixSn {F:FuncId} {first cap:Array Value} (p:List Value→Bool) (A:Option Addr) (c:Nat) (rows:List (List Value)) (w:World) (hr:Kd.C (Kd.raw 8) w A rows.length rows) (hfn:FnIs Tryz.prog F)
  (hp:∀W x,Below w.heap.size w W→x∈rows→Calls Tryz.prog F (first ++ #[.agg x.toArray] ++ cap) W fun e W'=>e=.returned (.bool (p x))∧Below W.heap.size W W'):
  Calls Tryz.prog 36 #[.slice A rows.length c,.func (.func F) first cap] w fun e w'=>e=.returned (.int .i64 (ixP p rows 0))∧Below w.heap.size w w':=by
 have hue:=Tryz.underlying51
 have hml:rows.length≤9223372036854775807:=hr.2.1
 have HR:=As hr
 have HP:=As hp
 have HF:=As hfn
 clear hr hp hfn
 obtain⟨res,hres⟩:∃r,r=ixP p rows 0:=⟨_,rfl⟩
 have HE:=As hres
 rw[←hres]
 clear hres
 go_enter Tryz.func36,Tryz.ntmps36
 go_wp2
 go_loopw [8] (fun v8 wr=>∃i:Nat,v8=.int .i64 (i:Int)∧Aside0 (i≤rows.length)∧Aside0 (res=ixP p (rows.drop i) (i:Int))∧Aside0 (Below w.heap.size w wr)) (fun v8 _=>rows.length - (intOf v8).toNat)
 case atStart=>exact⟨0,rfl,⟨Nat.zero_le _⟩,HE,⟨by repeat (first|exact Below.refl _ _|apply pw_below_drewN|apply below_drew1)⟩⟩
 case round=>
  clear HE
  obtain⟨i,rfl,HI,HE,HB⟩:=hrel
  by_cases hlt:i < rows.length
  ·obtain⟨ad,eA,hlen,hcell0,hcell⟩:=raw_at (Kd.C_below HR.out HB.out) hlt
   subst eA
   have hE:=HE.out
   rw[ixP_drop p rows hlt] at hE
   have hcall:=fun W (hb:Below wr.heap.size wr W)=>HP.out W rows[i] (below_step HB.out hb) (List.getElem_mem hlt)
   have HX:=As (show rows[i]∈rows from List.getElem_mem hlt)
   obtain⟨x,hx⟩:∃x,x=rows[i]:=⟨_,rfl⟩
   rw[←hx] at hlen hcell0 hcell hE hcall
   obtain⟨v0,v1,v2,v3,v4,v5,v6,v7,rfl⟩:=eight hlen
   have hc0:wr.cell? (ad.add (i * 8))=some v0:=hcell0 _ rfl
   have hc1:wr.cell? ⟨(ad.add (i * 8)).block,(ad.add (i * 8)).off + 1,none⟩=some v1:=hcell 1 _ (by decide) rfl
   have hc2:wr.cell? ⟨(ad.add (i * 8)).block,(ad.add (i * 8)).off + 2,none⟩=some v2:=hcell 2 _ (by decide) rfl
   have hc3:wr.cell? ⟨(ad.add (i * 8)).block,(ad.add (i * 8)).off + 3,none⟩=some v3:=hcell 3 _ (by decide) rfl
   have hc4:wr.cell? ⟨(ad.add (i * 8)).block,(ad.add (i * 8)).off + 4,none⟩=some v4:=hcell 4 _ (by decide) rfl
   have hc5:wr.cell? ⟨(ad.add (i * 8)).block,(ad.add (i * 8)).off + 5,none⟩=some v5:=hcell 5 _ (by decide) rfl
   have hc6:wr.cell? ⟨(ad.add (i * 8)).block,(ad.add (i * 8)).off + 6,none⟩=some v6:=hcell 6 _ (by decide) rfl
   have hc7:wr.cell? ⟨(ad.add (i * 8)).block,(ad.add (i * 8)).off + 7,none⟩=some v7:=hcell 7 _ (by decide) rfl
   obtain⟨b,hb⟩:∃b,b=p [v0,v1,v2,v3,v4,v5,v6,v7]:=⟨_,rfl⟩
   rw[←hb] at hE hcall
   have HC:=As hcall
   have HLT:=As hlt
   have hltd:((i:Int) < (rows.length:Int))=True:=eq_true (by omega)
   clear hcell0 hcell hlen hx hb hcall HE
   cases b with
   |true=>
    rw[if_pos rfl] at hE
    have HE:=As hE
    clear hE
    go_wp2_with ((with_reducible refine gateF_ rfl ?_);refine goesF_ (some 16) rfl rfl HF.out _ #[.agg #[v0,v1,v2,v3,v4,v5,v6,v7]] _ rfl (by rfl) (by simp only[List.map_toArray,List.map_cons,List.map_nil];rfl) ?_;refine (HC.out _ (by repeat (first|exact Below.refl _ _|apply pw_below_drewN|apply below_drew1))).mono ?_;rintro e w16 ⟨rfl,hb⟩;refine⟨_,rfl,?_⟩;have HB2:=As (below_step HB.out (below_step (by repeat (first|exact Below.refl _ _|apply pw_below_drewN|apply below_drew1)) hb));clear hb)
    go_ret
    exact⟨by rw[HE.out];rfl,HB2.out⟩
   |false=>
    rw[if_neg (by decide)] at hE
    have HE:=As hE
    clear hE
    go_wp2_with ((with_reducible refine gateF_ rfl ?_);refine goesF_ (some 16) rfl rfl HF.out _ #[.agg #[v0,v1,v2,v3,v4,v5,v6,v7]] _ rfl (by rfl) (by simp only[List.map_toArray,List.map_cons,List.map_nil];rfl) ?_;refine (HC.out _ (by repeat (first|exact Below.refl _ _|apply pw_below_drewN|apply below_drew1))).mono ?_;rintro e w16 ⟨rfl,hb⟩;refine⟨_,rfl,?_⟩;have HB2:=As (below_step HB.out (below_step (by repeat (first|exact Below.refl _ _|apply pw_below_drewN|apply below_drew1)) hb));clear hb)
    go_roundw
    case rel=>exact⟨i + 1,by go_num,⟨HLT.out⟩,HE,⟨by repeat (first|exact HB2.out|apply pw_below_drewN|apply below_drew1)⟩⟩
    case measure=>have:=HLT.out;simp[intOf];omega
  ·have hnl:decide (i < rows.length)=false:=decide_eq_false hlt
   have hi:i=rows.length:=by have:=HI.out;omega
   have hE:=HE.out
   rw[hi,List.drop_length,ixP] at hE
   have HE2:=As hE
   clear hE hi hlt HE
   go_wp2
   go_ret
   exact⟨by rw[HE2.out];rfl,by repeat (first|exact HB.out|apply pw_below_drewN|apply below_drew1)⟩
end Go.Proofs.YtmmfchnbfnegnaaGreatDoor.K
end
section
namespace Go.Proofs.YtmmfchnbfnegnaaGreatDoor.K
open Go.RowKit Go.Proofs.YtmmfchnbfnegnaaGreatDoorW.PrintWords Go.Proofs.YtmmfchnbfnegnaaGreatDoorW.PrintLast Go.Proofs.YtmmfchnbfnegnaaGreatDoorW.PrintMore Go.Proofs.YtmmfchnbfnegnaaGreatDoor.GK
attribute [local go_sem] max2_int min2_int max_two min_two max_three min_three max_four min_four
theorem ixP_none {α:Type} (p:α→Bool):∀(l:List α) (i:Int),0≤i→ixP p l i= -1→l.filter (fun x=>!p x)=l
 | [],_,_,_=>rfl
 |x::r,i,h,e=>by
  unfold ixP at e
  by_cases c:p x=true
  ·rw[if_pos c] at e;omega
  ·rw[if_neg c] at e
   rw[List.filter_cons,if_pos (by simpa using c),ixP_none p r (i + 1) (by omega) e]
theorem ixP_some {α:Type} (p:α→Bool):∀(l:List α) (i:Int),0≤i→ixP p l i≠ -1→∃j:Nat,ixP p l i=i + j∧j < l.length∧(l.take (j + 1)).filter (fun x=>!p x)=l.take j
 | [],_,_,e=>absurd rfl e
 |x::r,i,h,e=>by
  unfold ixP at e ⊢
  by_cases c:p x=true
  ·rw[if_pos c]
   exact⟨0,by simp,by simp,by simp[c]⟩
  ·rw[if_neg c] at e ⊢
   obtain⟨j,h1,h2,h3⟩:=ixP_some p r (i + 1) (by omega) e
   refine⟨j + 1,by rw[h1];omega,by simpa using h2,?_⟩
   rw[List.take_succ_cons,List.filter_cons,if_pos (by simpa using c),h3,List.take_succ_cons]
theorem set_take {α:Type} (L:List α) {i:Nat} (x:α) (h:i < L.length):(L.set i x).take (i + 1)=L.take i ++ [x]:=by
 rw[List.set_eq_take_append_cons_drop,if_pos h,List.take_append,List.take_take,List.length_take]
 simp[Nat.min_eq_left (Nat.le_of_lt h)]
theorem drop_next {α:Type} {L M:List α} {j:Nat} (h:L.drop j=M.drop j):L.drop (j + 1)=M.drop (j + 1):=by
 rw[←List.drop_drop,←List.drop_drop,h]
set_option maxHeartbeats 8000000 in
set_option maxRecDepth 100000 in
theorem delSp {F:FuncId} {first cap:Array Value} (p:List Value→Bool) (gv:Nat) (v:Value) (rows:List (List Value)) (w0 w:World) (hB:Below w0.heap.size w0 w) (hr:Kd.R (Kd.raw 3) 48 w w0.heap.size (fun k=>k=gv) v rows) (hfn:FnIs Tryz.prog F) (hform:∀x∈rows,FormSp x)
  (hp:∀W x,KeepBut w W gv none→x∈rows→Calls Tryz.prog F (first ++ #[.agg x.toArray] ++ cap) W fun e W'=>e=.returned (.bool (p x))∧Below W.heap.size W W'):
  Calls Tryz.prog 41 #[v,.func (.func F) first cap] w fun e w'=>∃A c,e=.returned (.slice A (rows.filter fun x=>!p x).length c)∧(rows.filter fun x=>!p x).length≤c∧Kd.C (Kd.raw 3) w' A (rows.filter fun x=>!p x).length (rows.filter fun x=>!p x)∧Below w0.heap.size w0 w'∧Kd.R (Kd.raw 3) 48 w' w0.heap.size (fun k=>k=gv) (.slice A (rows.filter fun x=>!p x).length c) (rows.filter fun x=>!p x)∧KeepBut w w' gv none:=by
 have hue:=Tryz.underlying48
 obtain⟨A,c,rfl⟩:=Kd.R_slice hr
 obtain⟨hn,hnc,hC⟩:=Kd.R_reads' hr
 have HIX:=As (ixSp (F:=F) (first:=first) (cap:=cap) p A c rows w hC hfn (fun W x hb hx=>hp W x (KeepBut.of_below hb _ _) hx))
 have hml:rows.length≤9223372036854775807:=hC.2.1
 by_cases h1:ixP p rows 0= -1
 ·rw[h1] at HIX
  rw[ixP_none p rows 0 (by omega) h1]
  have HC:=As hC
  have HB:=As hB
  have HR1:=As hr
  clear hr hp hC hB h1
  go_enter Tryz.func41,Tryz.ntmps41
  go_wp2_with (go_at_call 72;refine HIX.out.mono ?_;rintro e w10 ⟨rfl,hb⟩;have HB2:=As hb;clear hb)
  go_ret
  exact⟨_,_,rfl,hnc,Kd.C_below HC.out HB2.out,below_step HB.out HB2.out,Kd.R_below HR1.out HB2.out,KeepBut.of_below HB2.out _ _⟩
 ·obtain⟨j0,e0,hj0,hf0⟩:=ixP_some p rows 0 (by omega) h1
  rw[Int.zero_add] at e0
  rw[e0] at HIX
  obtain⟨g,cap',ev,hgb,hgl,cl,hgc⟩:=Kd.R_form hr (by omega)
  injection ev with e1 e2 e3
  subst e1
  subst e3
  have hgv:g=gv:=hr.1 g (by simp[Value.ownBlock])
  subst hgv
  have hw:((j0:Int) == -1)=false:=beq_eq_false_iff_ne.mpr (by omega)
  have HR:=As hr
  have HP:=As hp
  have HF:=As hfn
  have HFM:=As hform
  have HB:=As hB
  have HG:=As hgb
  have HF0:=As hf0
  have HJ0:=As hj0
  clear hr hp hfn hform hB h1 e0 hf0 hgc hgb hgl hC
  go_enter Tryz.func41,Tryz.ntmps41
  go_wp2_with (go_at_call 72;refine HIX.out.mono ?_;rintro e w10 ⟨rfl,hb⟩;have HB2:=As hb;clear hb)
  go_loopw [5,6] (fun v5 v6 wr=>∃(i j:Nat) (L:List (List Value)),v5=.int .i64 (i:Int)∧v6=.int .i64 (j:Int)∧Aside0 (i < j∧j≤rows.length∧L.length=rows.length)∧Aside0 (L.take i=(rows.take j).filter fun x=>!p x)∧Aside0 (L.drop j=rows.drop j)∧Aside0 (Kd.R (Kd.raw 3) 48 wr w0.heap.size (fun k=>k=g) (.slice (some ⟨g,0,none⟩) rows.length c) L)∧Aside0 (Below w0.heap.size w0 wr)∧Aside0 (KeepBut w wr g none)) (fun _ v6 _=>rows.length - (intOf v6).toNat)
  case atStart=>exact⟨j0,j0 + 1,rows,by first|rfl|go_num,by first|rfl|go_num,⟨by have:=HJ0.out;omega⟩,⟨HF0.out.symm⟩,⟨rfl⟩,⟨Kd.R_below HR.out HB2.out⟩,⟨below_step HB.out HB2.out⟩,⟨KeepBut.of_below HB2.out _ _⟩⟩
  case round=>
   clear HJ0 HF0 HR HB HB2
   obtain⟨i,j,L,rfl,rfl,HIJ,HT,HD,HR,HB,HK⟩:=hrel
   by_cases hlt:j < rows.length
   ·have hLl:=HIJ.out.2.2
    have hij:=HIJ.out.1
    obtain⟨cs,hcl,hM,hcc,hfr⟩:=Kd.R_elem HR.out [] (j:Int) (by omega) (by omega)
    have hx:L.getD j []=rows[j]:=by
     have h0:=congrArg (fun l=>l[0]?) HD.out
     simp only[List.getElem?_drop,Nat.add_zero] at h0
     rw[List.getElem?_eq_getElem hlt] at h0
     rw[List.getD_eq_getElem?_getD,h0];rfl
    have hcx:cs=rows[j]:=by
     have:=hM.1
     rw[Int.toNat_natCast,hx] at this;exact this
    have HX:=As (show rows[j]∈rows from List.getElem_mem hlt)
    have HT2:=As (show (rows.take (j + 1)).filter (fun x=>!p x)=L.take i ++ if p rows[j]=true then[] else[rows[j]] by
     rw[List.take_succ_eq_append_getElem hlt,List.filter_append,←HT.out]
     by_cases c1:p rows[j]=true <;> simp[c1])
    have hcall:=fun W (hb:KeepBut w W g none)=>HP.out W rows[j] hb HX.out
    rw[Int.toNat_natCast] at hcc hfr
    obtain⟨x,hxx⟩:∃x,x=rows[j]:=⟨_,rfl⟩
    have HXX:=As hxx
    rw[←hxx] at hcx hcall HT2
    subst hcx
    obtain⟨a0,a1,a2,rfl⟩:=HFM.out _ (HXX.out▸HX.out)
    have hc0:wr.cell? ⟨g,j * 3,none⟩=some (.int .u64 a0):=hcc 0 _ rfl
    have hf0:wr.frozen? ⟨g,j * 3,none⟩=false:=hfr 0
    have hc1:wr.cell? ⟨g,j * 3 + 1,none⟩=some (.int .u8 a1):=hcc 1 _ rfl
    have hf1:wr.frozen? ⟨g,j * 3 + 1,none⟩=false:=hfr 1
    have hc2:wr.cell? ⟨g,j * 3 + 2,none⟩=some (.int .u64 a2):=hcc 2 _ rfl
    have hf2:wr.frozen? ⟨g,j * 3 + 2,none⟩=false:=hfr 2
    obtain⟨b,hb⟩:∃b,b=p [(.int .u64 a0),(.int .u8 a1),(.int .u64 a2)]:=⟨_,rfl⟩
    rw[←hb] at hcall HT2
    have HC:=As hcall
    have HLT:=As hlt
    clear hcl hM hcc hx hxx hb hcall HX hLl hij
    cases b with
    |true=>
     go_wp2_with (first|((with_reducible refine gateF_ rfl ?_);refine goesF_ (some 28) rfl rfl HF.out _ #[.agg #[(.int .u64 a0),(.int .u8 a1),(.int .u64 a2)]] _ rfl (by rfl) (by simp only[List.map_toArray,List.map_cons,List.map_nil];rfl) ?_;refine (HC.out _ (KeepBut.trans HK.out (KeepBut.of_below (by repeat (first|exact Below.refl _ _|apply below_alloc|apply pw_below_drewN|apply below_drew1)) g none) (.inl rfl))).mono ?_;rintro e w28 ⟨rfl,hb⟩;refine⟨_,rfl,?_⟩;have hb0:=below_step (w:=wr) (by repeat (first|exact Below.refl _ _|apply below_alloc|apply pw_below_drewN|apply below_drew1)) hb;have HB2:=As (below_step HB.out hb0);have HK2:=As (KeepBut.trans HK.out (KeepBut.of_below hb0 g none) (.inl rfl));have HR2:=As (Kd.R_below HR.out hb0);have BK:=As (blk_below (g:=wr.heap.size) (o:=.cells #[(.int .u64 a0),(.int .u8 a1),(.int .u64 a2)] 48 (0,0)) (by (with_reducible repeat (first|refine blk_drewN ?_ _|refine blk_drew ?_));exact blk_new _ _) hb);clear hb hb0 HR HB HK))
     go_roundw
     case rel=>exact⟨i,j + 1,L,by first|rfl|go_num,by first|rfl|go_num,⟨by have:=HIJ.out;have:=HLT.out;omega⟩,⟨by rw[HT2.out];simp⟩,⟨drop_next HD.out⟩,⟨by repeat (first|exact HR2.out|apply Kd.R_alloc|apply Kd.R_drewN|apply Kd.R_drew)⟩,⟨by repeat (first|exact HB2.out|apply below_alloc|apply pw_below_drewN|apply below_drew1)⟩,⟨by repeat (first|exact HK2.out|refine keep_drewN ?_ _)⟩⟩
     case measure=>have:=HLT.out;simp[intOf];omega
    |false=>
     have hii:i < rows.length:=by have:=HIJ.out;omega
     have hiid:decide (i < rows.length)=true:=decide_eq_true hii
     go_wp2_with (first|((with_reducible refine gateF_ rfl ?_);refine goesF_ (some 28) rfl rfl HF.out _ #[.agg #[(.int .u64 a0),(.int .u8 a1),(.int .u64 a2)]] _ rfl (by rfl) (by simp only[List.map_toArray,List.map_cons,List.map_nil];rfl) ?_;refine (HC.out _ (KeepBut.trans HK.out (KeepBut.of_below (by repeat (first|exact Below.refl _ _|apply below_alloc|apply pw_below_drewN|apply below_drew1)) g none) (.inl rfl))).mono ?_;rintro e w28 ⟨rfl,hb⟩;refine⟨_,rfl,?_⟩;have hb0:=below_step (w:=wr) (by repeat (first|exact Below.refl _ _|apply below_alloc|apply pw_below_drewN|apply below_drew1)) hb;have HB2:=As (below_step HB.out hb0);have HK2:=As (KeepBut.trans HK.out (KeepBut.of_below hb0 g none) (.inl rfl));have HR2:=As (Kd.R_below HR.out hb0);have BK:=As (blk_below (g:=wr.heap.size) (o:=.cells #[(.int .u64 a0),(.int .u8 a1),(.int .u64 a2)] 48 (0,0)) (by (with_reducible repeat (first|refine blk_drewN ?_ _|refine blk_drew ?_));exact blk_new _ _) hb);clear hb hb0 HR HB HK;obtain⟨cs2,hcl2,hM2,hcc2,hfr2⟩:=Kd.R_elem HR2.out [] (i:Int) (by omega) (by have:=HIJ.out;omega);rw[Int.toNat_natCast] at hcc2 hfr2;obtain⟨u0,u1,u2,rfl⟩:=three hcl2;have hq0:w28.cell? ⟨g,i * 3 + 0,none⟩=some u0:=hcc2 0 _ rfl;have hg0:=hfr2 0;obtain⟨hk0,hl0⟩:=Z.b1 BK;have hq1:w28.cell? ⟨g,i * 3 + 1,none⟩=some u1:=hcc2 1 _ rfl;have hg1:=hfr2 1;have hk1:=Z.c1 BK.out;have hl1:=blk_frozen BK.out 1;have hq2:w28.cell? ⟨g,i * 3 + 2,none⟩=some u2:=hcc2 2 _ rfl;have hg2:=hfr2 2;have hk2:=Z.c2 BK.out;have hl2:=blk_frozen BK.out 2;simp only[Nat.add_zero,show (Kd.raw 3).sz=3 from rfl] at hq0 hg0 hg1 hg2;have HS:=As (Kd.R_seg HR2.out (i:Int) (by omega) (by have:=HIJ.out;omega) (seg:=[(.int .u64 a0),(.int .u8 a1),(.int .u64 a2)]) (j:=0) hcl2 hcc2 (show 3≤3 from by decide) (x':=[(.int .u64 a0),(.int .u8 a1),(.int .u64 a2)]) (okp:=fun _=>False) ⟨rfl,rfl,by simp[Value.oneCell']⟩ (fun _ hk=>hk.elim));clear hcl2 hM2 hcc2 hfr2))
     go_roundw
     case rel=>exact⟨i + 1,j + 1,L.set i [(.int .u64 a0),(.int .u8 a1),(.int .u64 a2)],by first|rfl|go_num,by first|rfl|go_num,⟨by have:=HIJ.out;have:=HLT.out;simp only[List.length_set];omega⟩,⟨by rw[HT2.out,set_take L _ (by have:=HIJ.out;omega)];simp⟩,⟨by rw[List.drop_set_of_lt (by have:=HIJ.out;omega)];exact drop_next HD.out⟩,⟨by have h:=HS.out.1;simp only[Int.toNat_natCast,World.setCells,Nat.add_zero,Nat.add_assoc,Nat.reduceAdd,show (Kd.raw 3).sz=3 from rfl] at h;exact h⟩,⟨by with_reducible repeat (first|exact HB2.out|refine below_set ?_ HG.out)⟩,⟨by with_reducible repeat (first|exact HK2.out|refine KeepBut.set_ ?_ _ _)⟩⟩
     case measure=>have:=HLT.out;simp[intOf];omega
   ·have hjn:j=rows.length:=by have:=HIJ.out;omega
    have hin:i < rows.length:=by have:=HIJ.out;omega
    have hjd:decide (j < rows.length)=false:=decide_eq_false hlt
    have hT:=HT.out
    rw[hjn,List.take_length] at hT
    obtain⟨cur,hcb, -,hnc2,hcm,hcs,hct, -, -⟩:=raw_open (by decide) HR.out
    have hcells:=raw_cells HR.out
    have hct2:cur.toList.take (i * 3)=(L.take i).flatten:=by
     rw[flat_take i hcells.len,←hct,List.take_take,Nat.min_eq_left (by omega)]
    have hrun:=fun ty=>clear_run (P:=Tryz.prog) (W:=wr) Tryz.underlying38 Tryz.zeroValue48 (by simp[Value.cells,Value.oneCell']) (g:=g) (off:=i * 3) (n:=rows.length - i) (c:=c - i) (by omega) hcb (by rw[hcs];show i * 3 + (rows.length - i) * 3≤c * 3;omega) ty
    obtain⟨arr,harr⟩:∃a,a=(cur.toList.take (i * 3) ++ (Builtin.zeroCells (Value.cells (.agg #[.int .u64 0,.int .u8 0,.int .u64 0])) (rows.length - i)).toList ++ cur.toList.drop (i * 3 + (rows.length - i) * (Value.cells (.agg #[.int .u64 0,.int .u8 0,.int .u64 0])).size)).toArray:=⟨_,rfl⟩
    rw[←harr] at hrun
    have hW:(wr.setRow g arr).heap[g]? =some (.cells arr 48 (0,0)):=setRow_heap wr g cur arr _ _ hcb
    have hlen:(L.take i).length=i:=by rw[List.length_take];have:=HIJ.out.2.2;omega
    have hat:arr.toList.take (i * 3)=(L.take i).flatten:=by
     rw[harr,List.append_assoc,List.take_append_of_le_length (by rw[List.length_take,Array.length_toList,hcs];omega),List.take_take,Nat.min_self,hct2]
    have has:arr.size=c * 3:=by
     rw[harr]
     simp only[List.size_toArray,List.length_append,List.length_take,List.length_drop,Array.length_toList,hcs,zeroCells_len,show (Value.cells (.agg #[.int .u64 0,.int .u8 0,.int .u64 0])).size=3 from rfl]
     omega
    have HRR:=As (raw_close (rows:=L.take i) (base:=w0.heap.size) (ok:=fun k=>k=g) (hcells.sub (fun x hx=>List.mem_of_mem_take hx)) hW (by omega) hcm has (by rw[hlen];exact hat) HG.out rfl)
    rw[hlen,hT] at HRR
    have HRUN:=As hrun
    have HI:=As (show i=(rows.filter fun x=>!p x).length by rw[←hT,hlen])
    have hile:i≤c:=by omega
    have hid:decide (i≤rows.length)=true:=decide_eq_true (by omega)
    clear hT hct hct2 hrun harr hW hlen hat has hcells HT HD hjn
    go_wp2_with (first|((with_reducible refine gate_builtin (b:=.clear) (xs:=#[.tmp 38]) rfl ?_);refine clear_event rfl _ _ rfl _ (by rfl) HRUN.out ?_))
    go_ret
    refine⟨some ⟨g,0,none⟩,c,by rw[←HI.out];rfl,by rw[←HI.out];exact hile,(Kd.R_reads' HRR.out).2.2,?_⟩
    refine⟨pw_below_grown HB.out _ (below_size HB.out) (setRow_grown _ _ _) (fun k hk=>by injection hk with hk;subst hk;exact HG.out),by rw[←HI.out];exact HRR.out,?_⟩
    exact KeepBut.trans HK.out ⟨by simp[World.setRow],fun k hk hne _=>setRow_far wr g arr k hne⟩ (.inl rfl)
set_option maxHeartbeats 8000000 in
set_option maxRecDepth 100000 in
theorem delSn {F:FuncId} {first cap:Array Value} (p:List Value→Bool) (gv:Nat) (v:Value) (rows:List (List Value)) (w0 w:World) (hB:Below w0.heap.size w0 w) (hr:Kd.R (Kd.raw 8) 51 w w0.heap.size (fun k=>k=gv) v rows) (hfn:FnIs Tryz.prog F) (hform:∀x∈rows,FormSn x)
  (hp:∀W x,KeepBut w W gv none→x∈rows→Calls Tryz.prog F (first ++ #[.agg x.toArray] ++ cap) W fun e W'=>e=.returned (.bool (p x))∧Below W.heap.size W W'):
  Calls Tryz.prog 82 #[v,.func (.func F) first cap] w fun e w'=>∃A c,e=.returned (.slice A (rows.filter fun x=>!p x).length c)∧(rows.filter fun x=>!p x).length≤c∧Kd.C (Kd.raw 8) w' A (rows.filter fun x=>!p x).length (rows.filter fun x=>!p x)∧Below w0.heap.size w0 w'∧Kd.R (Kd.raw 8) 51 w' w0.heap.size (fun k=>k=gv) (.slice A (rows.filter fun x=>!p x).length c) (rows.filter fun x=>!p x)∧KeepBut w w' gv none:=by
 have hue:=Tryz.underlying51
 obtain⟨A,c,rfl⟩:=Kd.R_slice hr
 obtain⟨hn,hnc,hC⟩:=Kd.R_reads' hr
 have HIX:=As (ixSn (F:=F) (first:=first) (cap:=cap) p A c rows w hC hfn (fun W x hb hx=>hp W x (KeepBut.of_below hb _ _) hx))
 have hml:rows.length≤9223372036854775807:=hC.2.1
 by_cases h1:ixP p rows 0= -1
 ·rw[h1] at HIX
  rw[ixP_none p rows 0 (by omega) h1]
  have HC:=As hC
  have HB:=As hB
  have HR1:=As hr
  clear hr hp hC hB h1
  go_enter Tryz.func82,Tryz.ntmps82
  go_wp2_with (go_at_call 36;refine HIX.out.mono ?_;rintro e w10 ⟨rfl,hb⟩;have HB2:=As hb;clear hb)
  go_ret
  exact⟨_,_,rfl,hnc,Kd.C_below HC.out HB2.out,below_step HB.out HB2.out,Kd.R_below HR1.out HB2.out,KeepBut.of_below HB2.out _ _⟩
 ·obtain⟨j0,e0,hj0,hf0⟩:=ixP_some p rows 0 (by omega) h1
  rw[Int.zero_add] at e0
  rw[e0] at HIX
  obtain⟨g,cap',ev,hgb,hgl,cl,hgc⟩:=Kd.R_form hr (by omega)
  injection ev with e1 e2 e3
  subst e1
  subst e3
  have hgv:g=gv:=hr.1 g (by simp[Value.ownBlock])
  subst hgv
  have hw:((j0:Int) == -1)=false:=beq_eq_false_iff_ne.mpr (by omega)
  have HR:=As hr
  have HP:=As hp
  have HF:=As hfn
  have HFM:=As hform
  have HB:=As hB
  have HG:=As hgb
  have HF0:=As hf0
  have HJ0:=As hj0
  clear hr hp hfn hform hB h1 e0 hf0 hgc hgb hgl hC
  go_enter Tryz.func82,Tryz.ntmps82
  go_wp2_with (go_at_call 36;refine HIX.out.mono ?_;rintro e w10 ⟨rfl,hb⟩;have HB2:=As hb;clear hb)
  go_loopw [5,6] (fun v5 v6 wr=>∃(i j:Nat) (L:List (List Value)),v5=.int .i64 (i:Int)∧v6=.int .i64 (j:Int)∧Aside0 (i < j∧j≤rows.length∧L.length=rows.length)∧Aside0 (L.take i=(rows.take j).filter fun x=>!p x)∧Aside0 (L.drop j=rows.drop j)∧Aside0 (Kd.R (Kd.raw 8) 51 wr w0.heap.size (fun k=>k=g) (.slice (some ⟨g,0,none⟩) rows.length c) L)∧Aside0 (Below w0.heap.size w0 wr)∧Aside0 (KeepBut w wr g none)) (fun _ v6 _=>rows.length - (intOf v6).toNat)
  case atStart=>exact⟨j0,j0 + 1,rows,by first|rfl|go_num,by first|rfl|go_num,⟨by have:=HJ0.out;omega⟩,⟨HF0.out.symm⟩,⟨rfl⟩,⟨Kd.R_below HR.out HB2.out⟩,⟨below_step HB.out HB2.out⟩,⟨KeepBut.of_below HB2.out _ _⟩⟩
  case round=>
   clear HJ0 HF0 HR HB HB2
   obtain⟨i,j,L,rfl,rfl,HIJ,HT,HD,HR,HB,HK⟩:=hrel
   by_cases hlt:j < rows.length
   ·have hLl:=HIJ.out.2.2
    have hij:=HIJ.out.1
    obtain⟨cs,hcl,hM,hcc,hfr⟩:=Kd.R_elem HR.out [] (j:Int) (by omega) (by omega)
    have hx:L.getD j []=rows[j]:=by
     have h0:=congrArg (fun l=>l[0]?) HD.out
     simp only[List.getElem?_drop,Nat.add_zero] at h0
     rw[List.getElem?_eq_getElem hlt] at h0
     rw[List.getD_eq_getElem?_getD,h0];rfl
    have hcx:cs=rows[j]:=by
     have:=hM.1
     rw[Int.toNat_natCast,hx] at this;exact this
    have HX:=As (show rows[j]∈rows from List.getElem_mem hlt)
    have HT2:=As (show (rows.take (j + 1)).filter (fun x=>!p x)=L.take i ++ if p rows[j]=true then[] else[rows[j]] by
     rw[List.take_succ_eq_append_getElem hlt,List.filter_append,←HT.out]
     by_cases c1:p rows[j]=true <;> simp[c1])
    have hcall:=fun W (hb:KeepBut w W g none)=>HP.out W rows[j] hb HX.out
    rw[Int.toNat_natCast] at hcc hfr
    obtain⟨x,hxx⟩:∃x,x=rows[j]:=⟨_,rfl⟩
    have HXX:=As hxx
    rw[←hxx] at hcx hcall HT2
    subst hcx
    obtain⟨a0,a1,a2,a3,A4,n4,c4,a5,A6,n6,c6,a7,rfl⟩:=HFM.out _ (HXX.out▸HX.out)
    have hc0:wr.cell? ⟨g,j * 8,none⟩=some (.int .i64 a0):=hcc 0 _ rfl
    have hf0:wr.frozen? ⟨g,j * 8,none⟩=false:=hfr 0
    have hc1:wr.cell? ⟨g,j * 8 + 1,none⟩=some (.int .i64 a1):=hcc 1 _ rfl
    have hf1:wr.frozen? ⟨g,j * 8 + 1,none⟩=false:=hfr 1
    have hc2:wr.cell? ⟨g,j * 8 + 2,none⟩=some (.int .i64 a2):=hcc 2 _ rfl
    have hf2:wr.frozen? ⟨g,j * 8 + 2,none⟩=false:=hfr 2
    have hc3:wr.cell? ⟨g,j * 8 + 3,none⟩=some (.int .i64 a3):=hcc 3 _ rfl
    have hf3:wr.frozen? ⟨g,j * 8 + 3,none⟩=false:=hfr 3
    have hc4:wr.cell? ⟨g,j * 8 + 4,none⟩=some (.slice A4 n4 c4):=hcc 4 _ rfl
    have hf4:wr.frozen? ⟨g,j * 8 + 4,none⟩=false:=hfr 4
    have hc5:wr.cell? ⟨g,j * 8 + 5,none⟩=some (.int .i64 a5):=hcc 5 _ rfl
    have hf5:wr.frozen? ⟨g,j * 8 + 5,none⟩=false:=hfr 5
    have hc6:wr.cell? ⟨g,j * 8 + 6,none⟩=some (.slice A6 n6 c6):=hcc 6 _ rfl
    have hf6:wr.frozen? ⟨g,j * 8 + 6,none⟩=false:=hfr 6
    have hc7:wr.cell? ⟨g,j * 8 + 7,none⟩=some (.bool a7):=hcc 7 _ rfl
    have hf7:wr.frozen? ⟨g,j * 8 + 7,none⟩=false:=hfr 7
    obtain⟨b,hb⟩:∃b,b=p [(.int .i64 a0),(.int .i64 a1),(.int .i64 a2),(.int .i64 a3),(.slice A4 n4 c4),(.int .i64 a5),(.slice A6 n6 c6),(.bool a7)]:=⟨_,rfl⟩
    rw[←hb] at hcall HT2
    have HC:=As hcall
    have HLT:=As hlt
    clear hcl hM hcc hx hxx hb hcall HX hLl hij
    cases b with
    |true=>
     go_wp2_with (first|((with_reducible refine gateF_ rfl ?_);refine goesF_ (some 28) rfl rfl HF.out _ #[.agg #[(.int .i64 a0),(.int .i64 a1),(.int .i64 a2),(.int .i64 a3),(.slice A4 n4 c4),(.int .i64 a5),(.slice A6 n6 c6),(.bool a7)]] _ rfl (by rfl) (by simp only[List.map_toArray,List.map_cons,List.map_nil];rfl) ?_;refine (HC.out _ (KeepBut.trans HK.out (KeepBut.of_below (by repeat (first|exact Below.refl _ _|apply below_alloc|apply pw_below_drewN|apply below_drew1)) g none) (.inl rfl))).mono ?_;rintro e w28 ⟨rfl,hb⟩;refine⟨_,rfl,?_⟩;have hb0:=below_step (w:=wr) (by repeat (first|exact Below.refl _ _|apply below_alloc|apply pw_below_drewN|apply below_drew1)) hb;have HB2:=As (below_step HB.out hb0);have HK2:=As (KeepBut.trans HK.out (KeepBut.of_below hb0 g none) (.inl rfl));have HR2:=As (Kd.R_below HR.out hb0);have BK:=As (blk_below (g:=wr.heap.size) (o:=.cells #[(.int .i64 a0),(.int .i64 a1),(.int .i64 a2),(.int .i64 a3),(.slice A4 n4 c4),(.int .i64 a5),(.slice A6 n6 c6),(.bool a7)] 51 (0,0)) (by (with_reducible repeat (first|refine blk_drewN ?_ _|refine blk_drew ?_));exact blk_new _ _) hb);clear hb hb0 HR HB HK))
     go_roundw
     case rel=>exact⟨i,j + 1,L,by first|rfl|go_num,by first|rfl|go_num,⟨by have:=HIJ.out;have:=HLT.out;omega⟩,⟨by rw[HT2.out];simp⟩,⟨drop_next HD.out⟩,⟨by repeat (first|exact HR2.out|apply Kd.R_alloc|apply Kd.R_drewN|apply Kd.R_drew)⟩,⟨by repeat (first|exact HB2.out|apply below_alloc|apply pw_below_drewN|apply below_drew1)⟩,⟨by repeat (first|exact HK2.out|refine keep_drewN ?_ _)⟩⟩
     case measure=>have:=HLT.out;simp[intOf];omega
    |false=>
     have hii:i < rows.length:=by have:=HIJ.out;omega
     have hiid:decide (i < rows.length)=true:=decide_eq_true hii
     go_wp2_with (first|((with_reducible refine gateF_ rfl ?_);refine goesF_ (some 28) rfl rfl HF.out _ #[.agg #[(.int .i64 a0),(.int .i64 a1),(.int .i64 a2),(.int .i64 a3),(.slice A4 n4 c4),(.int .i64 a5),(.slice A6 n6 c6),(.bool a7)]] _ rfl (by rfl) (by simp only[List.map_toArray,List.map_cons,List.map_nil];rfl) ?_;refine (HC.out _ (KeepBut.trans HK.out (KeepBut.of_below (by repeat (first|exact Below.refl _ _|apply below_alloc|apply pw_below_drewN|apply below_drew1)) g none) (.inl rfl))).mono ?_;rintro e w28 ⟨rfl,hb⟩;refine⟨_,rfl,?_⟩;have hb0:=below_step (w:=wr) (by repeat (first|exact Below.refl _ _|apply below_alloc|apply pw_below_drewN|apply below_drew1)) hb;have HB2:=As (below_step HB.out hb0);have HK2:=As (KeepBut.trans HK.out (KeepBut.of_below hb0 g none) (.inl rfl));have HR2:=As (Kd.R_below HR.out hb0);have BK:=As (blk_below (g:=wr.heap.size) (o:=.cells #[(.int .i64 a0),(.int .i64 a1),(.int .i64 a2),(.int .i64 a3),(.slice A4 n4 c4),(.int .i64 a5),(.slice A6 n6 c6),(.bool a7)] 51 (0,0)) (by (with_reducible repeat (first|refine blk_drewN ?_ _|refine blk_drew ?_));exact blk_new _ _) hb);clear hb hb0 HR HB HK;obtain⟨cs2,hcl2,hM2,hcc2,hfr2⟩:=Kd.R_elem HR2.out [] (i:Int) (by omega) (by have:=HIJ.out;omega);rw[Int.toNat_natCast] at hcc2 hfr2;obtain⟨u0,u1,u2,u3,u4,u5,u6,u7,rfl⟩:=eight hcl2;have hq0:w28.cell? ⟨g,i * 8 + 0,none⟩=some u0:=hcc2 0 _ rfl;have hg0:=hfr2 0;obtain⟨hk0,hl0⟩:=Z.b1 BK;have hq1:w28.cell? ⟨g,i * 8 + 1,none⟩=some u1:=hcc2 1 _ rfl;have hg1:=hfr2 1;have hk1:=Z.c1 BK.out;have hl1:=blk_frozen BK.out 1;have hq2:w28.cell? ⟨g,i * 8 + 2,none⟩=some u2:=hcc2 2 _ rfl;have hg2:=hfr2 2;have hk2:=Z.c2 BK.out;have hl2:=blk_frozen BK.out 2;have hq3:w28.cell? ⟨g,i * 8 + 3,none⟩=some u3:=hcc2 3 _ rfl;have hg3:=hfr2 3;have hk3:=Z.c3 BK.out;have hl3:=blk_frozen BK.out 3;have hq4:w28.cell? ⟨g,i * 8 + 4,none⟩=some u4:=hcc2 4 _ rfl;have hg4:=hfr2 4;have hk4:=Z.c4 BK.out;have hl4:=blk_frozen BK.out 4;have hq5:w28.cell? ⟨g,i * 8 + 5,none⟩=some u5:=hcc2 5 _ rfl;have hg5:=hfr2 5;have hk5:=Z.c5 BK.out;have hl5:=blk_frozen BK.out 5;have hq6:w28.cell? ⟨g,i * 8 + 6,none⟩=some u6:=hcc2 6 _ rfl;have hg6:=hfr2 6;have hk6:=Z.c6 BK.out;have hl6:=blk_frozen BK.out 6;have hq7:w28.cell? ⟨g,i * 8 + 7,none⟩=some u7:=hcc2 7 _ rfl;have hg7:=hfr2 7;have hk7:=Z.c7 BK.out;have hl7:=blk_frozen BK.out 7;simp only[Nat.add_zero,show (Kd.raw 8).sz=8 from rfl] at hq0 hg0 hg1 hg2 hg3 hg4 hg5 hg6 hg7;have HS:=As (Kd.R_seg HR2.out (i:Int) (by omega) (by have:=HIJ.out;omega) (seg:=[(.int .i64 a0),(.int .i64 a1),(.int .i64 a2),(.int .i64 a3),(.slice A4 n4 c4),(.int .i64 a5),(.slice A6 n6 c6),(.bool a7)]) (j:=0) hcl2 hcc2 (show 8≤8 from by decide) (x':=[(.int .i64 a0),(.int .i64 a1),(.int .i64 a2),(.int .i64 a3),(.slice A4 n4 c4),(.int .i64 a5),(.slice A6 n6 c6),(.bool a7)]) (okp:=fun _=>False) ⟨rfl,rfl,by simp[Value.oneCell']⟩ (fun _ hk=>hk.elim));clear hcl2 hM2 hcc2 hfr2))
     go_roundw
     case rel=>exact⟨i + 1,j + 1,L.set i [(.int .i64 a0),(.int .i64 a1),(.int .i64 a2),(.int .i64 a3),(.slice A4 n4 c4),(.int .i64 a5),(.slice A6 n6 c6),(.bool a7)],by first|rfl|go_num,by first|rfl|go_num,⟨by have:=HIJ.out;have:=HLT.out;simp only[List.length_set];omega⟩,⟨by rw[HT2.out,set_take L _ (by have:=HIJ.out;omega)];simp⟩,⟨by rw[List.drop_set_of_lt (by have:=HIJ.out;omega)];exact drop_next HD.out⟩,⟨by have h:=HS.out.1;simp only[Int.toNat_natCast,World.setCells,Nat.add_zero,Nat.add_assoc,Nat.reduceAdd,show (Kd.raw 8).sz=8 from rfl] at h;exact h⟩,⟨by with_reducible repeat (first|exact HB2.out|refine below_set ?_ HG.out)⟩,⟨by with_reducible repeat (first|exact HK2.out|refine KeepBut.set_ ?_ _ _)⟩⟩
     case measure=>have:=HLT.out;simp[intOf];omega
   ·have hjn:j=rows.length:=by have:=HIJ.out;omega
    have hin:i < rows.length:=by have:=HIJ.out;omega
    have hjd:decide (j < rows.length)=false:=decide_eq_false hlt
    have hT:=HT.out
    rw[hjn,List.take_length] at hT
    obtain⟨cur,hcb, -,hnc2,hcm,hcs,hct, -, -⟩:=raw_open (by decide) HR.out
    have hcells:=raw_cells HR.out
    have hct2:cur.toList.take (i * 8)=(L.take i).flatten:=by
     rw[flat_take i hcells.len,←hct,List.take_take,Nat.min_eq_left (by omega)]
    have hrun:=fun ty=>clear_run (P:=Tryz.prog) (W:=wr) Tryz.underlying32 Tryz.zeroValue51 (by simp[Value.cells,Value.oneCell']) (g:=g) (off:=i * 8) (n:=rows.length - i) (c:=c - i) (by omega) hcb (by rw[hcs];show i * 8 + (rows.length - i) * 8≤c * 8;omega) ty
    obtain⟨arr,harr⟩:∃a,a=(cur.toList.take (i * 8) ++ (Builtin.zeroCells (Value.cells (.agg #[.int .i64 0,.int .i64 0,.int .i64 0,.int .i64 0,.slice none 0 0,.int .i64 0,.slice none 0 0,.bool false])) (rows.length - i)).toList ++ cur.toList.drop (i * 8 + (rows.length - i) * (Value.cells (.agg #[.int .i64 0,.int .i64 0,.int .i64 0,.int .i64 0,.slice none 0 0,.int .i64 0,.slice none 0 0,.bool false])).size)).toArray:=⟨_,rfl⟩
    rw[←harr] at hrun
    have hW:(wr.setRow g arr).heap[g]? =some (.cells arr 51 (0,0)):=setRow_heap wr g cur arr _ _ hcb
    have hlen:(L.take i).length=i:=by rw[List.length_take];have:=HIJ.out.2.2;omega
    have hat:arr.toList.take (i * 8)=(L.take i).flatten:=by
     rw[harr,List.append_assoc,List.take_append_of_le_length (by rw[List.length_take,Array.length_toList,hcs];omega),List.take_take,Nat.min_self,hct2]
    have has:arr.size=c * 8:=by
     rw[harr]
     simp only[List.size_toArray,List.length_append,List.length_take,List.length_drop,Array.length_toList,hcs,zeroCells_len,show (Value.cells (.agg #[.int .i64 0,.int .i64 0,.int .i64 0,.int .i64 0,.slice none 0 0,.int .i64 0,.slice none 0 0,.bool false])).size=8 from rfl]
     omega
    have HRR:=As (raw_close (rows:=L.take i) (base:=w0.heap.size) (ok:=fun k=>k=g) (hcells.sub (fun x hx=>List.mem_of_mem_take hx)) hW (by omega) hcm has (by rw[hlen];exact hat) HG.out rfl)
    rw[hlen,hT] at HRR
    have HRUN:=As hrun
    have HI:=As (show i=(rows.filter fun x=>!p x).length by rw[←hT,hlen])
    have hile:i≤c:=by omega
    have hid:decide (i≤rows.length)=true:=decide_eq_true (by omega)
    clear hT hct hct2 hrun harr hW hlen hat has hcells HT HD hjn
    go_wp2_with (first|((with_reducible refine gate_builtin (b:=.clear) (xs:=#[.tmp 38]) rfl ?_);refine clear_event rfl _ _ rfl _ (by rfl) HRUN.out ?_))
    go_ret
    refine⟨some ⟨g,0,none⟩,c,by rw[←HI.out];rfl,by rw[←HI.out];exact hile,(Kd.R_reads' HRR.out).2.2,?_⟩
    refine⟨pw_below_grown HB.out _ (below_size HB.out) (setRow_grown _ _ _) (fun k hk=>by injection hk with hk;subst hk;exact HG.out),by rw[←HI.out];exact HRR.out,?_⟩
    exact KeepBut.trans HK.out ⟨by simp[World.setRow],fun k hk hne _=>setRow_far wr g arr k hne⟩ (.inl rfl)
end Go.Proofs.YtmmfchnbfnegnaaGreatDoor.K
end
section
namespace Go.Proofs.YtmmfchnbfnegnaaGreatDoor.GK
open Go.RowKit Go.Proofs.YtmmfchnbfnegnaaGreatDoorW.PrintWords Go.Proofs.YtmmfchnbfnegnaaGreatDoorW.PrintLast Go.Proofs.YtmmfchnbfnegnaaGreatDoorW.PrintMore
attribute [local go_sem] max2_int min2_int max_two min_two max_three min_three max_four min_four
set_option linter.unusedVariables false
set_option linter.unusedSimpArgs false
def special_Check_1.f (a0_0:Int) (a0_1:Int) (a0_2:Int) (a1_0:Int) (a1_1:Int) (a1_2:Int):Option (Int):=(cmp_Compare_uint64.f a0_0 a1_0).bind fun t341=>(some t341)
set_option maxHeartbeats 8000000 in
set_option maxRecDepth 100000 in
theorem special_Check_1.calls (a0_0:Int) (a0_1:Int) (a0_2:Int) (a1_0:Int) (a1_1:Int) (a1_2:Int) (r:Int) (w:World) (h:special_Check_1.f a0_0 a0_1 a0_2 a1_0 a1_1 a1_2=some r):
  Calls Tryz.prog 68 #[.agg #[.int .u64 a0_0,.int .u8 a0_1,.int .u64 a0_2],.agg #[.int .u64 a1_0,.int .u8 a1_1,.int .u64 a1_2]] w fun e w'=>e=.returned (.int .i64 r)∧Below w.heap.size w w':=by
 have hu48:=Tryz.underlying48
 have HB:=As (Below.refl w.heap.size w)
 have H:((cmp_Compare_uint64.f a0_0 a1_0).bind fun t341=>(some t341))=some r:=h
 clear h
 replace H:=Option.bind_eq_some_iff.mp H
 obtain⟨t341,A30,H⟩:=H
 replace H:(some t341)=some r:=H
 have A3:=As A30
 clear A30
 obtain rfl:=Option.some.inj H
 go_enter Tryz.func68,Tryz.ntmps68
 go_wp2_with (first|((with_reducible refine gate_dst (N:=2) rfl ?_);refine Z.bx 2 #[.int .u64 a0_0,.int .u8 a0_1,.int .u64 a0_2] 48 fun gb339 hg w4 hbox hb=>?_;have BK339:=As hbox;have GW339:=Z.ge hg;have GE339:=Z.ge hg;replace HB:=Z.sb hb;clear hb hbox hg)|((with_reducible refine gate_dst (N:=3) rfl ?_);refine Z.bx 3 #[.int .u64 a1_0,.int .u8 a1_1,.int .u64 a1_2] 48 fun gb340 hg w5 hbox hb=>?_;have BK340:=As hbox;have GW340:=Z.ge hg;have GE340:=Z.ge hg;have NB339_340:=Z.nl BK339 hg;have NB340_339:=Z.ng BK339 hg;replace HB:=Z.sb hb;replace BK339:=Z.kb BK339 hb;clear hb hbox hg;have hnb6:=NB339_340.out;have hnc6:=NB340_339.out;have hcz7_0:=Z.c0 BK339.out;have hcz7_1:=Z.c1 BK339.out;have hcz7_2:=Z.c2 BK339.out;have hfz7_0:=blk_frozen BK339.out 0;have hfz7_1:=blk_frozen BK339.out 1;have hfz7_2:=blk_frozen BK339.out 2;have hcz8_0:=Z.c0 BK340.out;have hcz8_1:=Z.c1 BK340.out;have hcz8_2:=Z.c2 BK340.out;have hfz8_0:=blk_frozen BK340.out 0;have hfz8_1:=blk_frozen BK340.out 1;have hfz8_2:=blk_frozen BK340.out 2)|((with_reducible refine gate_callee (f:=69) rfl ?_);refine Z.gl 9 Tryz.func69 #[.int .u64 a0_0,.int .u64 a1_0] ?_;(with_reducible refine (cmp_Compare_uint64.calls a0_0 a1_0 t341 _ A3.out).mono ?_);rintro e w' ⟨rfl,⟨nd,rfl⟩⟩;refine⟨_,rfl,?_⟩))
 go_ret
 exact⟨Z.e_,Z.bl⟩
end Go.Proofs.YtmmfchnbfnegnaaGreatDoor.GK
end
section
namespace Go.Proofs.YtmmfchnbfnegnaaGreatDoor.GK
open Go.RowKit Go.Proofs.YtmmfchnbfnegnaaGreatDoorW.PrintWords Go.Proofs.YtmmfchnbfnegnaaGreatDoorW.PrintLast Go.Proofs.YtmmfchnbfnegnaaGreatDoorW.PrintMore
attribute [local go_sem] max2_int min2_int max_two min_two max_three min_three max_four min_four
set_option linter.unusedVariables false
set_option linter.unusedSimpArgs false
theorem goesW67_ {P:Program} {ops:Array Oper} {Q:Exit→Act→World→Prop} {oi:Oper} {N:Option Tmp} {a:Act} {w:World} {K:Act→World→Prop} {f:FuncId} {fn:Func} {t:Tmp} {os_:Array Operand} {ts:Array TypeId} (hf:P.funcs[f]? =some fn) (hname:(fn.name == "runtime.NumGoroutine")=false) (hb:fn.body.isSome=true) (args:Array Value)
  (hw:Region.wanted oi (yielded ops a.tmps)=true) (hN:oi.dst=N) (hop:oi.op=.call {callee:=.value (.tmp t),args:=os_,argTypes:=ts}) (hv:a.eval (.tmp t)=.func (.func f) #[] #[]) (hargs:os_.map a.eval=args)
  (h:Calls P f args w fun e w'=>∃v,e=.returned v∧K (a.put N v) w'):if Region.wanted oi (yielded ops a.tmps)=true then Oper.wp P oi a w K Q else K (a.put N undef) w:=by
 refine call_ f args hw hN ?_ h
 have he:=enters_ hf hname hb args w
 unfold execOp
 simp[hop,resolve,Deferred.ofValue,invoke,hv,hargs,he]
def api_Special_67.l0:Nat→List (S48)→Int→Option (Bool)
 |0,_,_=>none
 |k + 1,x0,x5=>if x5 > 0 then (if 0≤x5 then (if x5 < (x0.length:Int) then (if 0≤(wrap64 (x5 - 1)) then (if (wrap64 (x5 - 1)) < (x0.length:Int) then ((special_Check_1.f ((rd_T48 x0 x5).f0) ((rd_T48 x0 x5).f1) ((rd_T48 x0 x5).f2) ((rd_T48 x0 (wrap64 (x5 - 1))).f0) ((rd_T48 x0 (wrap64 (x5 - 1))).f1) ((rd_T48 x0 (wrap64 (x5 - 1))).f2)).bind fun t344=>(if t344 < 0 then (some false) else (api_Special_67.l0 k x0 (wrap64 (x5 - 1))))) else (none)) else (none)) else (none)) else (none)) else (some true)
def api_Special_67.f (k:Nat) (l0:List (S48)):Option (Bool):=api_Special_67.l0 k l0 (wrap64 ((l0.length:Int) - 1))
def api_Special_67.T4:Bool×List (List Nat×List Nat):=(true,[([],[]),([],[]),([],[]),([1,2],[1,2]),([3],[3]),([],[]),([],[]),([6],[6]),([5,7],[5,7]),([8],[8]),([0,4,9],[0,4,9]),([10],[10])])
def api_Special_67.B4:List Nat:=[0,0,0,6,14,0,0,64,224,480,1023,2047]
theorem api_Special_67.tab4:rtab .any (opsOf Tryz.f67 4)=api_Special_67.T4:=by kernel_rfl
theorem api_Special_67.bits4:waitsOk api_Special_67.T4.2 api_Special_67.B4=true:=by kernel_rfl
set_option maxHeartbeats 8000000 in
set_option maxRecDepth 100000 in
theorem api_Special_67.calls (k:Nat) (A0:Option Addr) (c0:Nat) (l0:List (S48)) (r:Bool) (w:World) (hr0:Kd.C k48 w A0 l0.length l0) (hc0:l0.length≤c0) (h:api_Special_67.f k l0=some r):
  Calls Tryz.prog 67 #[.slice A0 l0.length c0,.func (.func 68) #[] #[]] w fun e w'=>e=.returned (.bool r)∧Below w.heap.size w w':=by
 have hu48:=Tryz.underlying48
 have HR0:=As hr0
 have HC0:=As hc0
 clear hr0 hc0
 have HB:=As (Below.refl w.heap.size w)
 have H:(api_Special_67.l0 k l0 (wrap64 ((l0.length:Int) - 1)))=some r:=h
 clear h
 have H':=As H
 clear H
 go_enter Tryz.func67,Tryz.ntmps67
 go_wp2
 go_loopg [5] k (fun kq v5 w'=>∃(x5_1:Int),v5=.int .i64 x5_1∧Aside0 (api_Special_67.l0 kq l0 x5_1=some r)∧Aside0 (kq≤k)∧Aside0 (Below w.heap.size w w'))
 case atStart=>exact⟨(wrap64 ((l0.length:Int) - 1)),Z.r_,H',⟨Nat.le_refl _⟩,⟨Z.bl⟩⟩
 case round=>
  clear H'
  obtain⟨x5_1,rfl,HA,HK1,HB⟩:=hrel
  cases gk with
  |zero=>exact absurd HA.out (by simp[api_Special_67.l0])
  |succ k1=>
   have H:=HA.out
   clear HA
   simp only[api_Special_67.l0] at H
   by_cases c2:x5_1 > 0
   ·rw[if_pos c2] at H
    have c2b0:decide (0 < x5_1)=true:=decide_eq_true c2
    clear c2
    by_cases c3:0≤x5_1
    ·rw[if_pos c3] at H
     replace c3:=decide_eq_true c3
     by_cases c4:x5_1 < (l0.length:Int)
     ·rw[if_pos c4] at H
      replace c4:=decide_eq_true c4
      obtain⟨ji5,hji5⟩:∃j_:Int,(wrap64 (x5_1 - 1))=j_:=⟨_,rfl⟩
      replace H:(if 0≤(ji5) then (if (ji5) < (l0.length:Int) then ((special_Check_1.f ((rd_T48 l0 x5_1).f0) ((rd_T48 l0 x5_1).f1) ((rd_T48 l0 x5_1).f2) ((rd_T48 l0 (ji5)).f0) ((rd_T48 l0 (ji5)).f1) ((rd_T48 l0 (ji5)).f2)).bind fun t344=>(if t344 < 0 then (some false) else (api_Special_67.l0 k1 l0 ji5))) else (none)) else (none))=some r:=by first|(rw[hji5] at H;exact H)|(simp only[hji5] at H ⊢;exact H)
      have hji5w:(IntKind.i64.wrap (x5_1 - 1))=ji5:=(i64_w _).trans hji5
      by_cases c6:0≤(ji5)
      ·rw[if_pos c6] at H
       replace c6:=decide_eq_true c6
       by_cases c7:(ji5) < (l0.length:Int)
       ·rw[if_pos c7] at H
        replace c7:=decide_eq_true c7
        replace H:=Option.bind_eq_some_iff.mp H
        obtain⟨t344,A80,H⟩:=H
        replace H:(if t344 < 0 then (some false) else (api_Special_67.l0 k1 l0 ji5))=some r:=H
        have A8:=As A80
        clear A80
        by_cases c9:t344 < 0
        ·rw[if_pos c9] at H
         have c9b0:decide (t344 < 0)=true:=decide_eq_true c9
         clear c9
         obtain rfl:=Option.some.inj H
         try go_wp2
         replace HB:=As (below_drew1 HB.out)
         have p342:0≤(x5_1:Int):=Z.od
         have q342:x5_1 < (l0.length:Int):=Z.od
         obtain⟨ad342,e342,hx342_0,hx342_1,hx342_2⟩:=at_T48 HR0.out x5_1 p342 q342
         have hw342_2:=hx342_2
         have hw342_1:=hx342_1
         have hw342_0:=hx342_0
         cases e342
         replace hx342_0:=Z.kc HB hx342_0
         replace hx342_1:=Z.kc HB hx342_1
         replace hx342_2:=Z.kc HB hx342_2
         replace p342:=eq_true p342
         replace q342:=eq_true q342
         have p343:0≤((ji5):Int):=Z.od
         have q343:(ji5) < (l0.length:Int):=Z.od
         obtain⟨ad343,e343,hx343_0,hx343_1,hx343_2⟩:=at_T48 HR0.out (ji5) p343 q343
         have hw343_2:=hx343_2
         have hw343_1:=hx343_1
         have hw343_0:=hx343_0
         obtain rfl:ad342=ad343:=(by injection e343)
         replace hx343_0:=Z.kc HB hx343_0
         replace hx343_1:=Z.kc HB hx343_1
         replace hx343_2:=Z.kc HB hx343_2
         replace p343:=eq_true p343
         replace q343:=eq_true q343
         refine start_ (n:=12) (S:=fun w'=>w'.cell? (ad342.add ((x5_1).toNat * 3))=some (.int .u64 ((rd_T48 l0 x5_1).f0))∧w'.cell? ⟨(ad342.add ((x5_1).toNat * 3)).block,(ad342.add ((x5_1).toNat * 3)).off + 1,none⟩=some (.int .u8 ((rd_T48 l0 x5_1).f1))∧w'.cell? ⟨(ad342.add ((x5_1).toNat * 3)).block,(ad342.add ((x5_1).toNat * 3)).off + 2,none⟩=some (.int .u64 ((rd_T48 l0 x5_1).f2))∧w'.cell? (ad342.add (((ji5)).toNat * 3))=some (.int .u64 ((rd_T48 l0 (ji5)).f0))∧w'.cell? ⟨(ad342.add (((ji5)).toNat * 3)).block,(ad342.add (((ji5)).toNat * 3)).off + 1,none⟩=some (.int .u8 ((rd_T48 l0 (ji5)).f1))∧w'.cell? ⟨(ad342.add (((ji5)).toNat * 3)).block,(ad342.add (((ji5)).toNat * 3)).off + 2,none⟩=some (.int .u64 ((rd_T48 l0 (ji5)).f2))) (ds:=[]) #[false,false,false,false,false,false,false,false,false,false,false,false] (by kernel_rfl) rfl rfl ⟨(Z.kc HB hw342_0),(Z.kc HB hw342_1),(Z.kc HB hw342_2),(Z.kc HB hw343_0),(Z.kc HB hw343_1),(Z.kc HB hw343_2)⟩ (fun hHeld=>?_);refine with_tabW api_Special_67.tab4 api_Special_67.bits4 (fun HT_ HW_=>?_)
         generalize wr.drew=w10 at HB hx342_0 hx342_1 hx342_2 hx343_0 hx343_1 hx343_2 hHeld ⊢
         refine Z.q_ 0 13 HT_ ?_
         refine Z.q_ 1 14 HT_ ?_
         refine Z.q_ 2 15 HT_ ?_
         refine Z.q_ 3 16 HT_ ?_
         refine Z.q_ 5 18 HT_ ?_
         refine Z.q_ 6 19 HT_ ?_
         refine Z.q_ 7 20 HT_ ?_
         refine Z.q_ 8 21 HT_ ?_
         refine Z.u_ 4 17 HT_ HW_ hHeld ?_
         refine Z.u_ 9 22 HT_ HW_ hHeld ?_
         refine one_ (i:=10) (N:=some 23) #[true,true,true,true,true,true,true,true,true,true,true,false] rfl rfl (one_of HT_.out (by kernel_rfl)) (by decide) (fun K hK=>?_)
         refine goesW67_ Tryz.func68 (by kernel_rfl) rfl #[.agg #[.int .u64 ((rd_T48 l0 x5_1).f0),.int .u8 ((rd_T48 l0 x5_1).f1),.int .u64 ((rd_T48 l0 x5_1).f2)],.agg #[.int .u64 ((rd_T48 l0 (ji5)).f0),.int .u8 ((rd_T48 l0 (ji5)).f1),.int .u64 ((rd_T48 l0 (ji5)).f2)]] (by rfl) rfl rfl (by rfl) (by (try simp only[List.map_toArray,List.map_cons,List.map_nil]);first|done|(simp only[hji5];rfl)|rfl|(simp only[List.length_drop,List.length_take];rfl)) ?_
         with_reducible refine (special_Check_1.calls ((rd_T48 l0 x5_1).f0) ((rd_T48 l0 x5_1).f1) ((rd_T48 l0 x5_1).f2) ((rd_T48 l0 (ji5)).f0) ((rd_T48 l0 (ji5)).f1) ((rd_T48 l0 (ji5)).f2) t344 _ A8.out).mono ?_
         rintro e w11 ⟨rfl,hb⟩
         refine⟨_,rfl,?_⟩
         replace HB:=Z.sb hb
         (try clear hb)
         (try clear hb2)
         (try clear hk)
         (try clear hi)
         refine hK.out _ _ ⟨(Z.kc HB hw342_0),(Z.kc HB hw342_1),(Z.kc HB hw342_2),(Z.kc HB hw343_0),(Z.kc HB hw343_1),(Z.kc HB hw343_2)⟩ (fun hHeld=>?_)
         clear hK K
         refine Z.n_ 23 ?_
         refine Z.q_ 11 24 HT_ ?_
         refine done_ (done_of HT_.out (by kernel_rfl)) ?_
         try go_wp2
         go_ret
         exact⟨by first|rfl|(simp[errW_none,errW_some] <;> rfl)|(simp only[←hji5];first|rfl|(simp[errW_none,errW_some] <;> rfl))|(simp[*,errW_none,errW_some] <;> rfl),Z.bl⟩
        ·rw[if_neg c9] at H
         have c9b0:decide (t344 < 0)=false:=decide_eq_false c9
         clear c9
         have H':=As H
         clear H
         try go_wp2
         replace HB:=As (below_drew1 HB.out)
         have p342:0≤(x5_1:Int):=Z.od
         have q342:x5_1 < (l0.length:Int):=Z.od
         obtain⟨ad342,e342,hx342_0,hx342_1,hx342_2⟩:=at_T48 HR0.out x5_1 p342 q342
         have hw342_2:=hx342_2
         have hw342_1:=hx342_1
         have hw342_0:=hx342_0
         cases e342
         replace hx342_0:=Z.kc HB hx342_0
         replace hx342_1:=Z.kc HB hx342_1
         replace hx342_2:=Z.kc HB hx342_2
         replace p342:=eq_true p342
         replace q342:=eq_true q342
         have p343:0≤((ji5):Int):=Z.od
         have q343:(ji5) < (l0.length:Int):=Z.od
         obtain⟨ad343,e343,hx343_0,hx343_1,hx343_2⟩:=at_T48 HR0.out (ji5) p343 q343
         have hw343_2:=hx343_2
         have hw343_1:=hx343_1
         have hw343_0:=hx343_0
         obtain rfl:ad342=ad343:=(by injection e343)
         replace hx343_0:=Z.kc HB hx343_0
         replace hx343_1:=Z.kc HB hx343_1
         replace hx343_2:=Z.kc HB hx343_2
         replace p343:=eq_true p343
         replace q343:=eq_true q343
         refine start_ (n:=12) (S:=fun w'=>w'.cell? (ad342.add ((x5_1).toNat * 3))=some (.int .u64 ((rd_T48 l0 x5_1).f0))∧w'.cell? ⟨(ad342.add ((x5_1).toNat * 3)).block,(ad342.add ((x5_1).toNat * 3)).off + 1,none⟩=some (.int .u8 ((rd_T48 l0 x5_1).f1))∧w'.cell? ⟨(ad342.add ((x5_1).toNat * 3)).block,(ad342.add ((x5_1).toNat * 3)).off + 2,none⟩=some (.int .u64 ((rd_T48 l0 x5_1).f2))∧w'.cell? (ad342.add (((ji5)).toNat * 3))=some (.int .u64 ((rd_T48 l0 (ji5)).f0))∧w'.cell? ⟨(ad342.add (((ji5)).toNat * 3)).block,(ad342.add (((ji5)).toNat * 3)).off + 1,none⟩=some (.int .u8 ((rd_T48 l0 (ji5)).f1))∧w'.cell? ⟨(ad342.add (((ji5)).toNat * 3)).block,(ad342.add (((ji5)).toNat * 3)).off + 2,none⟩=some (.int .u64 ((rd_T48 l0 (ji5)).f2))) (ds:=[]) #[false,false,false,false,false,false,false,false,false,false,false,false] (by kernel_rfl) rfl rfl ⟨(Z.kc HB hw342_0),(Z.kc HB hw342_1),(Z.kc HB hw342_2),(Z.kc HB hw343_0),(Z.kc HB hw343_1),(Z.kc HB hw343_2)⟩ (fun hHeld=>?_);refine with_tabW api_Special_67.tab4 api_Special_67.bits4 (fun HT_ HW_=>?_)
         generalize wr.drew=w12 at HB hx342_0 hx342_1 hx342_2 hx343_0 hx343_1 hx343_2 hHeld ⊢
         refine Z.q_ 0 13 HT_ ?_
         refine Z.q_ 1 14 HT_ ?_
         refine Z.q_ 2 15 HT_ ?_
         refine Z.q_ 3 16 HT_ ?_
         refine Z.q_ 5 18 HT_ ?_
         refine Z.q_ 6 19 HT_ ?_
         refine Z.q_ 7 20 HT_ ?_
         refine Z.q_ 8 21 HT_ ?_
         refine Z.u_ 4 17 HT_ HW_ hHeld ?_
         refine Z.u_ 9 22 HT_ HW_ hHeld ?_
         refine one_ (i:=10) (N:=some 23) #[true,true,true,true,true,true,true,true,true,true,true,false] rfl rfl (one_of HT_.out (by kernel_rfl)) (by decide) (fun K hK=>?_)
         refine goesW67_ Tryz.func68 (by kernel_rfl) rfl #[.agg #[.int .u64 ((rd_T48 l0 x5_1).f0),.int .u8 ((rd_T48 l0 x5_1).f1),.int .u64 ((rd_T48 l0 x5_1).f2)],.agg #[.int .u64 ((rd_T48 l0 (ji5)).f0),.int .u8 ((rd_T48 l0 (ji5)).f1),.int .u64 ((rd_T48 l0 (ji5)).f2)]] (by rfl) rfl rfl (by rfl) (by (try simp only[List.map_toArray,List.map_cons,List.map_nil]);first|done|(simp only[hji5];rfl)|rfl|(simp only[List.length_drop,List.length_take];rfl)) ?_
         with_reducible refine (special_Check_1.calls ((rd_T48 l0 x5_1).f0) ((rd_T48 l0 x5_1).f1) ((rd_T48 l0 x5_1).f2) ((rd_T48 l0 (ji5)).f0) ((rd_T48 l0 (ji5)).f1) ((rd_T48 l0 (ji5)).f2) t344 _ A8.out).mono ?_
         rintro e w13 ⟨rfl,hb⟩
         refine⟨_,rfl,?_⟩
         replace HB:=Z.sb hb
         (try clear hb)
         (try clear hb2)
         (try clear hk)
         (try clear hi)
         refine hK.out _ _ ⟨(Z.kc HB hw342_0),(Z.kc HB hw342_1),(Z.kc HB hw342_2),(Z.kc HB hw343_0),(Z.kc HB hw343_1),(Z.kc HB hw343_2)⟩ (fun hHeld=>?_)
         clear hK K
         refine Z.n_ 23 ?_
         refine Z.q_ 11 24 HT_ ?_
         refine done_ (done_of HT_.out (by kernel_rfl)) ?_
         try go_wp2
         go_roundg k1
         case measure=>have:=HK1.out;omega
         case rel=>exact⟨(ji5),(by first|rfl|(simp;done)|(simp only[←hji5] <;> (first|rfl|simp))|(simp[*];done)),H',⟨by have:=HK1.out;omega⟩,⟨Z.bl⟩⟩
       ·rw[if_neg c7] at H
        exact absurd H (by simp)
      ·rw[if_neg c6] at H
       exact absurd H (by simp)
     ·rw[if_neg c4] at H
      exact absurd H (by simp)
    ·rw[if_neg c3] at H
     exact absurd H (by simp)
   ·rw[if_neg c2] at H
    have c2b0:decide (0 < x5_1)=false:=decide_eq_false c2
    clear c2
    obtain rfl:=Option.some.inj H
    go_wp2
    go_ret
    exact⟨Z.e_,Z.bl⟩
end Go.Proofs.YtmmfchnbfnegnaaGreatDoor.GK
end
section
namespace Go.Proofs.YtmmfchnbfnegnaaGreatDoor.GK
open Go.RowKit Go.Proofs.YtmmfchnbfnegnaaGreatDoorW.PrintWords Go.Proofs.YtmmfchnbfnegnaaGreatDoorW.PrintLast Go.Proofs.YtmmfchnbfnegnaaGreatDoorW.PrintMore
attribute [local go_sem] max2_int min2_int max_two min_two max_three min_three max_four min_four
set_option linter.unusedVariables false
set_option linter.unusedSimpArgs false
def special_one.f (a0_0:Int) (a0_1:Int) (a0_2:Int):Option (Bool):=if a0_0 > 0 then (if a0_1 > 0 then (some (decide (a0_1 < 3))) else (some false)) else (some false)
set_option maxHeartbeats 8000000 in
set_option maxRecDepth 100000 in
theorem special_one.calls (a0_0:Int) (a0_1:Int) (a0_2:Int) (r:Bool) (w:World) (h:special_one.f a0_0 a0_1 a0_2=some r):
  Calls Tryz.prog 70 #[.agg #[.int .u64 a0_0,.int .u8 a0_1,.int .u64 a0_2]] w fun e w'=>e=.returned (.bool r)∧Below w.heap.size w w':=by
 have hu48:=Tryz.underlying48
 have HB:=As (Below.refl w.heap.size w)
 have H:(if a0_0 > 0 then (if a0_1 > 0 then (some (decide (a0_1 < 3))) else (some false)) else (some false))=some r:=h
 clear h
 by_cases c2:a0_0 > 0
 ·rw[if_pos c2] at H
  have c2b0:decide (0 < a0_0)=true:=decide_eq_true c2
  clear c2
  by_cases c3:a0_1 > 0
  ·rw[if_pos c3] at H
   have c3b0:decide (0 < a0_1)=true:=decide_eq_true c3
   clear c3
   obtain rfl:=Option.some.inj H
   go_enter Tryz.func70,Tryz.ntmps70
   go_wp2_with (first|((with_reducible refine gate_dst (N:=1) rfl ?_);refine Z.bx 1 #[.int .u64 a0_0,.int .u8 a0_1,.int .u64 a0_2] 48 fun gb345 hg w4 hbox hb=>?_;have BK345:=As hbox;have GW345:=Z.ge hg;have GE345:=Z.ge hg;replace HB:=Z.sb hb;clear hb hbox hg;have hcz5_0:=Z.c0 BK345.out;have hcz5_1:=Z.c1 BK345.out;have hcz5_2:=Z.c2 BK345.out;have hfz5_0:=blk_frozen BK345.out 0;have hfz5_1:=blk_frozen BK345.out 1;have hfz5_2:=blk_frozen BK345.out 2))
   go_ret
   exact⟨Z.e_,Z.bl⟩
  ·rw[if_neg c3] at H
   have c3b0:decide (0 < a0_1)=false:=decide_eq_false c3
   clear c3
   obtain rfl:=Option.some.inj H
   go_enter Tryz.func70,Tryz.ntmps70
   go_wp2_with (first|((with_reducible refine gate_dst (N:=1) rfl ?_);refine Z.bx 1 #[.int .u64 a0_0,.int .u8 a0_1,.int .u64 a0_2] 48 fun gb345 hg w6 hbox hb=>?_;have BK345:=As hbox;have GW345:=Z.ge hg;have GE345:=Z.ge hg;replace HB:=Z.sb hb;clear hb hbox hg;have hcz7_0:=Z.c0 BK345.out;have hcz7_1:=Z.c1 BK345.out;have hcz7_2:=Z.c2 BK345.out;have hfz7_0:=blk_frozen BK345.out 0;have hfz7_1:=blk_frozen BK345.out 1;have hfz7_2:=blk_frozen BK345.out 2))
   go_ret
   exact⟨Z.e_,Z.bl⟩
 ·rw[if_neg c2] at H
  have c2b0:decide (0 < a0_0)=false:=decide_eq_false c2
  clear c2
  obtain rfl:=Option.some.inj H
  go_enter Tryz.func70,Tryz.ntmps70
  go_wp2_with (first|((with_reducible refine gate_dst (N:=1) rfl ?_);refine Z.bx 1 #[.int .u64 a0_0,.int .u8 a0_1,.int .u64 a0_2] 48 fun gb345 hg w8 hbox hb=>?_;have BK345:=As hbox;have GW345:=Z.ge hg;have GE345:=Z.ge hg;replace HB:=Z.sb hb;clear hb hbox hg;have hcz9_0:=Z.c0 BK345.out;have hcz9_1:=Z.c1 BK345.out;have hcz9_2:=Z.c2 BK345.out;have hfz9_0:=blk_frozen BK345.out 0;have hfz9_1:=blk_frozen BK345.out 1;have hfz9_2:=blk_frozen BK345.out 2))
  go_ret
  exact⟨Z.e_,Z.bl⟩
def special_final.f (l0:List S48) (a1:Int):Option (Bool):=none
theorem special_final.calls (A0:Option Addr) (c0:Nat) (l0:List S48) (a1:Int) (r:Bool) (w:World) (hr0:Kd.C k48 w A0 l0.length l0) (hc0:l0.length≤c0) (h:special_final.f l0 a1=some (r)):
  Calls Tryz.prog 71 #[.slice A0 l0.length c0,.int .u64 a1] w fun e w'=>e=.returned (.bool r)∧Below w.heap.size w w':=by
 unfold special_final.f at h;cases h
end Go.Proofs.YtmmfchnbfnegnaaGreatDoor.GK
end
section
namespace Go.Proofs.YtmmfchnbfnegnaaGreatDoor.GK
open Go.RowKit Go.Proofs.YtmmfchnbfnegnaaGreatDoorW.PrintWords Go.Proofs.YtmmfchnbfnegnaaGreatDoorW.PrintLast Go.Proofs.YtmmfchnbfnegnaaGreatDoorW.PrintMore
attribute [local go_sem] max2_int min2_int max_two min_two max_three min_three max_four min_four
set_option linter.unusedVariables false
set_option linter.unusedSimpArgs false
mutual
def special_Check.j0:Nat→List (S48)→Bool→Option (Int)
 |0,_,_=>none
 |k + 1,x0,x14=>if x14=true then (some 2) else (special_Check.l0 k x0 x0 (x0.length:Int) 0)
def special_Check.l0:Nat→List (S48)→List (S48)→Int→Int→Option (Int)
 |0,_,_,_,_=>none
 |k + 1,x0,x15,x16,x17=>if x17 < x16 then (if 0≤x17 then (if x17 < (x15.length:Int) then ((special_one.f ((rd_T48 x15 x17).f0) ((rd_T48 x15 x17).f1) ((rd_T48 x15 x17).f2)).bind fun t349=>(if t349=true then (if ((rd_T48 x15 x17).f1)=1 then (if x17≤(x0.length:Int) then ((special_final.f (x0.take (x17:Int).toNat) ((rd_T48 x15 x17).f0)).bind fun t354=>(if t354=true then (some 2) else (special_Check.l0 k x0 x15 x16 (wrap64 (x17 + 1))))) else (none)) else (special_Check.l0 k x0 x15 x16 (wrap64 (x17 + 1)))) else (some 2))) else (none)) else (none)) else (some 0)
end
def special_Check.f (k:Nat) (l0:List (S48)):Option (Int):=(api_Special_67.f k l0).bind fun t346=>(if (l0.length:Int) > 64 then (special_Check.j0 k l0 true) else (special_Check.j0 k l0 (!t346)))
def special_Check.T7:Bool×List (List Nat×List Nat):=(true,[([],[]),([0],[0]),([1],[1]),([2,1],[2]),([3],[3]),([4,3],[3,4]),([5,3],[3,5]),([6,3,3],[3,6]),([7],[7]),([7],[7]),([8,9,7],[7,8,9]),([7],[7]),([11,7],[7,11]),([10,12,7,7],[7,10,12]),([7,13,3],[3,7,13]),([3,14],[3,14])])
def special_Check.B7:List Nat:=[0,1,3,7,15,31,63,127,255,255,1023,255,2303,8191,16383,32767]
theorem special_Check.tab7:rtab .any (opsOf Tryz.f28 7)=special_Check.T7:=by kernel_rfl
theorem special_Check.bits7:waitsOk special_Check.T7.2 special_Check.B7=true:=by kernel_rfl
set_option maxHeartbeats 8000000 in
set_option maxRecDepth 100000 in
theorem special_Check.calls (k:Nat) (A0:Option Addr) (c0:Nat) (l0:List (S48)) (r:Int) (w:World) (hr0:Kd.C k48 w A0 l0.length l0) (hc0:l0.length≤c0) (h:special_Check.f k l0=some r):
  Calls Tryz.prog 28 #[.slice A0 l0.length c0] w fun e w'=>e=.returned (.int .i64 r)∧Below w.heap.size w w':=by
 have hu48:=Tryz.underlying48
 have HR0:=As hr0
 have HC0:=As hc0
 clear hr0 hc0
 have HB:=As (Below.refl w.heap.size w)
 have H:((api_Special_67.f k l0).bind fun t346=>(if (l0.length:Int) > 64 then (special_Check.j0 k l0 true) else (special_Check.j0 k l0 (!t346))))=some r:=h
 clear h
 replace H:=Option.bind_eq_some_iff.mp H
 obtain⟨t346,A20,H⟩:=H
 replace H:(if (l0.length:Int) > 64 then (special_Check.j0 k l0 true) else (special_Check.j0 k l0 (!t346)))=some r:=H
 have A2:=As A20
 clear A20
 have HC3:=As H
 clear H
 go_enter Tryz.func28,Tryz.ntmps28
 go_upto_region 2 with (first|((with_reducible refine gate_callee (f:=67) rfl ?_);refine Z.gl 7 Tryz.func67 #[.slice A0 l0.length c0,.func (.func 68) #[] #[]] ?_;(with_reducible refine (api_Special_67.calls k _ _ l0 t346 _ ?side1 ?side2 A2.out).mono ?_);(case side1=>repeat (first|exact HR0.out|(with_reducible refine Kd.C_alloc ?_ _)|(with_reducible refine Kd.C_drewN ?_ _)|(with_reducible refine Kd.C_drew ?_)));(case side2=>exact HC0.out);rintro e w4 ⟨rfl,hb⟩;refine⟨_,rfl,?_⟩;replace HB:=Z.sb hb;(try clear hb);(try clear hb2);(try clear hk);(try clear hi)))
 (try simp only[Act.put,List.setIfInBounds_toArray,List.set_cons_zero,List.set_cons_succ])
 go_cut [14] (fun v14 wc=>∃(kq:Nat) (x14_2:Bool),v14=.bool x14_2∧Aside0 (special_Check.j0 kq l0 x14_2=some r)∧Aside0 (kq≤k)∧Aside0 (Below w.heap.size w wc))
 case first=>
  have H:=HC3.out
  clear HC3
  by_cases c5:(l0.length:Int) > 64
  ·rw[if_pos c5] at H
   have c5b0:decide (64 < (l0.length:Int))=true:=decide_eq_true c5
   have c5b1:decide (64 < l0.length)=true:=decide_eq_true (by omega)
   clear c5
   (first|rw[c5b0]|(simp only[i64_w,i32_w];rw[c5b0])|skip)
   have H':=As H
   clear H
   go_wp2
   go_meet
   case rel=>exact⟨_,(true),Z.r_,H',⟨by first|omega|exact Nat.le_refl _⟩,⟨Z.bl⟩⟩
  ·rw[if_neg c5] at H
   have c5b0:decide (64 < (l0.length:Int))=false:=decide_eq_false c5
   have c5b1:decide (64 < l0.length)=false:=decide_eq_false (by omega)
   clear c5
   (first|rw[c5b0]|(simp only[i64_w,i32_w];rw[c5b0])|skip)
   have H':=As H
   clear H
   go_wp2
   go_meet
   case rel=>exact⟨_,(!t346),Z.r_,H',⟨by first|omega|exact Nat.le_refl _⟩,⟨Z.bl⟩⟩
 case rest=>
  clear HC3
  try clear c2
  try clear p2
  try clear c5
  try clear c5b0
  try clear c5b1
  obtain⟨kq,x14_2,rfl,HA,HJ2,HB⟩:=hcut
  cases kq with
  |zero=>exact absurd HA.out (by simp[special_Check.j0])
  |succ kj2=>
   have H:=HA.out
   clear HA
   simp only[special_Check.j0] at H
   by_cases c6:x14_2=true
   ·subst c6
    have H1:(some 2)=some r:=by rw[if_pos rfl] at H;exact H
    clear H
    have H:=H1
    clear H1
    obtain rfl:=Option.some.inj H
    go_wp2
    go_ret
    exact⟨Z.e_,Z.bl⟩
   ·replace c6:=Bool.eq_false_iff.mpr c6
    subst c6
    have H1:(special_Check.l0 kj2 l0 l0 (l0.length:Int) 0)=some r:=by rw[if_neg (show ¬(false=true) by decide)] at H;exact H
    clear H
    have H:=H1
    clear H1
    have H':=As H
    clear H
    go_wp2
    go_loopg [17] kj2 (fun kq v17 w'=>∃(x17_2:Int),v17=.int .i64 x17_2∧Aside0 (special_Check.l0 kq l0 l0 (l0.length:Int) x17_2=some r)∧Aside0 (kq≤kj2)∧Aside0 (Below w.heap.size w w'))
    case atStart=>exact⟨(0),Z.r_,H',⟨Nat.le_refl _⟩,⟨Z.bl⟩⟩
    case round=>
     clear H'
     try clear c2
     try clear p2
     try clear c5
     try clear c5b0
     try clear c5b1
     try clear c6
     try clear p2
     obtain⟨x17_2,rfl,HA,HK2,HB⟩:=hrel
     cases gk with
     |zero=>exact absurd HA.out (by simp[special_Check.l0])
     |succ k2=>
      have H:=HA.out
      clear HA
      simp only[special_Check.l0] at H
      by_cases c7:x17_2 < (l0.length:Int)
      ·rw[if_pos c7] at H
       have c7b0:decide (x17_2 < (l0.length:Int))=true:=decide_eq_true c7
       clear c7
       by_cases c8:0≤x17_2
       ·rw[if_pos c8] at H
        replace c8:=decide_eq_true c8
        by_cases c9:x17_2 < (l0.length:Int)
        ·rw[if_pos c9] at H
         replace c9:=decide_eq_true c9
         replace H:=Option.bind_eq_some_iff.mp H
         obtain⟨t349,A100,H⟩:=H
         replace H:(if t349=true then (if ((rd_T48 l0 x17_2).f1)=1 then (if x17_2≤(l0.length:Int) then ((special_final.f (l0.take (x17_2:Int).toNat) ((rd_T48 l0 x17_2).f0)).bind fun t354=>(if t354=true then (some 2) else (special_Check.l0 k2 l0 l0 (l0.length:Int) (wrap64 (x17_2 + 1))))) else (none)) else (special_Check.l0 k2 l0 l0 (l0.length:Int) (wrap64 (x17_2 + 1)))) else (some 2))=some r:=H
         have A10:=As A100
         clear A100
         by_cases c11:t349=true
         ·subst c11
          have H1:(if ((rd_T48 l0 x17_2).f1)=1 then (if x17_2≤(l0.length:Int) then ((special_final.f (l0.take (x17_2:Int).toNat) ((rd_T48 l0 x17_2).f0)).bind fun t354=>(if t354=true then (some 2) else (special_Check.l0 k2 l0 l0 (l0.length:Int) (wrap64 (x17_2 + 1))))) else (none)) else (special_Check.l0 k2 l0 l0 (l0.length:Int) (wrap64 (x17_2 + 1))))=some r:=by rw[if_pos rfl] at H;exact H
          clear H
          have H:=H1
          clear H1
          by_cases c12:((rd_T48 l0 x17_2).f1)=1
          ·rw[if_pos c12] at H
           have c12b0:(((rd_T48 l0 x17_2).f1) == 1)=true:=beq_iff_eq.mpr c12
           have c12b1:(((rd_T48 l0 x17_2).f1) != 1)=false:=bne_eq_false_iff_eq.mpr c12
           clear c12
           have c13b0:=eq_true (Z.od:0≤x17_2)
           by_cases c14:x17_2≤(l0.length:Int)
           ·rw[if_pos c14] at H
            have c14b0:=eq_true c14
            have c14b1:decide (x17_2≤(l0.length:Int))=true:=decide_eq_true c14
            clear c14
            obtain⟨y350,hy350⟩:∃y_:List (S48),y_=(l0.take (x17_2:Int).toNat):=⟨_,rfl⟩
            replace H:((special_final.f y350 ((rd_T48 l0 x17_2).f0)).bind fun t354=>(if t354=true then (some 2) else (special_Check.l0 k2 l0 l0 (l0.length:Int) (wrap64 (x17_2 + 1)))))=some r:=by first|(rw[hy350];with_reducible exact H)|(have H2_:=(Option.bind_some _ _).symm.trans H;rw[hy350];with_reducible exact H2_)|(have H2_:=(Option.bind_some _ _).symm.trans H;with_reducible exact H2_)|with_reducible exact H|(rw[hy350];exact H)|exact H
            have Ny350:=As hy350
            clear hy350
            replace H:=Option.bind_eq_some_iff.mp H
            obtain⟨t354,A150,H⟩:=H
            replace H:(if t354=true then (some 2) else (special_Check.l0 k2 l0 l0 (l0.length:Int) (wrap64 (x17_2 + 1))))=some r:=H
            have A15:=As A150
            clear A150
            by_cases c16:t354=true
            ·subst c16
             have H1:(some 2)=some r:=by rw[if_pos rfl] at H;exact H
             clear H
             have H:=H1
             clear H1
             obtain rfl:=Option.some.inj H
             have p347:0≤(x17_2:Int):=Z.od
             have q347:x17_2 < (l0.length:Int):=Z.od
             obtain⟨ad347,e347,hx347_0,hx347_1,hx347_2⟩:=at_T48 HR0.out x17_2 p347 q347
             cases e347
             replace hx347_0:=Z.kc HB hx347_0
             replace hx347_1:=Z.kc HB hx347_1
             replace hx347_2:=Z.kc HB hx347_2
             replace p347:=eq_true p347
             replace q347:=eq_true q347
             try go_wp2_with (first|((with_reducible refine gate_dst (N:=5) rfl ?_);refine Z.bx 5 #[.int .u64 0,.int .u8 0,.int .u64 0] 48 fun gb348 hg w17 hbox hb=>?_;have BK348:=As hbox;have GW348:=Z.ge hg;have GE348:=Z.ge hg;replace HB:=Z.sb hb;clear hb hbox hg;have hcz18_0:=Z.c0 BK348.out;have hcz18_1:=Z.c1 BK348.out;have hcz18_2:=Z.c2 BK348.out;have hfz18_0:=blk_frozen BK348.out 0;have hfz18_1:=blk_frozen BK348.out 1;have hfz18_2:=blk_frozen BK348.out 2))
             have n0_:Aside0 ((((w17.setCell ⟨gb348,0,none⟩ (.int .u64 ((rd_T48 l0 x17_2).f0))).setCell ⟨gb348,1,none⟩ (.int .u8 ((rd_T48 l0 x17_2).f1))).setCell ⟨gb348,2,none⟩ (.int .u64 ((rd_T48 l0 x17_2).f2))).heap[gb348]? =some (.cells #[.int .u64 ((rd_T48 l0 x17_2).f0),.int .u8 ((rd_T48 l0 x17_2).f1),.int .u64 ((rd_T48 l0 x17_2).f2)] 48 (0,0))):=⟨Z.bs⟩
             have n1_:Aside0 (Below w.heap.size w (((w17.setCell ⟨gb348,0,none⟩ (.int .u64 ((rd_T48 l0 x17_2).f0))).setCell ⟨gb348,1,none⟩ (.int .u8 ((rd_T48 l0 x17_2).f1))).setCell ⟨gb348,2,none⟩ (.int .u64 ((rd_T48 l0 x17_2).f2)))):=⟨Z.bl⟩
             (try clear BK348)
             (try clear HB)
             generalize (((w17.setCell ⟨gb348,0,none⟩ (.int .u64 ((rd_T48 l0 x17_2).f0))).setCell ⟨gb348,1,none⟩ (.int .u8 ((rd_T48 l0 x17_2).f1))).setCell ⟨gb348,2,none⟩ (.int .u64 ((rd_T48 l0 x17_2).f2)))=w19 at n0_ n1_ ⊢
             have BK348:=n0_
             have HB:=n1_
             clear n0_ n1_
             replace BK348:=As (blk_drew BK348.out)
             replace HB:=As (below_drew1 HB.out)
             refine start_ (n:=16) (S:=fun w'=>w'.cell? ⟨gb348,0,none⟩=some (.int .u64 ((rd_T48 l0 x17_2).f0))∧w'.cell? ⟨gb348,1,none⟩=some (.int .u8 ((rd_T48 l0 x17_2).f1))∧w'.cell? ⟨gb348,2,none⟩=some (.int .u64 ((rd_T48 l0 x17_2).f2))) (ds:=[]) #[false,false,false,false,false,false,false,false,false,false,false,false,false,false,false,false] (by kernel_rfl) rfl rfl ⟨(blk_cell BK348.out 0).trans rfl,(blk_cell BK348.out 1).trans rfl,(blk_cell BK348.out 2).trans rfl⟩ (fun hHeld=>?_);refine with_tabW special_Check.tab7 special_Check.bits7 (fun HT_ HW_=>?_)
             generalize w19.drew=w20 at BK348 HB hHeld ⊢
             refine Z.u_ 0 22 HT_ HW_ hHeld ?_
             refine one_ (i:=1) (N:=some 23) #[true,true,false,false,false,false,false,false,false,false,false,false,false,false,false,false] rfl rfl (one_of HT_.out (by kernel_rfl)) (by decide) (fun K hK=>?_)
             refine goes_ Tryz.func70 (by kernel_rfl) rfl #[.agg #[.int .u64 ((rd_T48 l0 x17_2).f0),.int .u8 ((rd_T48 l0 x17_2).f1),.int .u64 ((rd_T48 l0 x17_2).f2)]] (by rfl) rfl rfl (by (try simp only[List.map_toArray,List.map_cons,List.map_nil]);first|done|rfl|(simp only[List.length_drop,List.length_take];rfl)) ?_
             with_reducible refine (special_one.calls ((rd_T48 l0 x17_2).f0) ((rd_T48 l0 x17_2).f1) ((rd_T48 l0 x17_2).f2) true _ A10.out).mono ?_
             rintro e w21 ⟨rfl,hb⟩
             refine⟨_,rfl,?_⟩
             replace HB:=Z.sb hb
             replace BK348:=Z.kb BK348 hb
             (try clear hb)
             (try clear hb2)
             (try clear hk)
             (try clear hi)
             have q22:(x17_2:Int)≤((l0.length:Int):Int):=Z.od
             obtain⟨i022,hi022,_,hsz22,_⟩:=info_parts info48
             have hroom22:l0.length≤c0:=HC0.out
             have hC22:Kd.C k48 _ (some ad347) l0.length l0:=HR0.out
             have hcut22:=cut_to (P:=Tryz.prog) 38 48 .i64 Tryz.underlying38 hi022 (some ad347) l0.length c0 x17_2 (Z.od) q22 hroom22
             have hr22:=Kd.C_take (m:=(x17_2:Int).toNat) hC22 (by omega)
             have hy22:y350.length=(x17_2:Int).toNat:=(by rw[Ny350.out,List.length_take];omega)
             rw[←Ny350.out] at hr22
             rw[←hy22] at hcut22
             have HR353:=As hr22
             have HC353:=As (show y350.length≤c0 from by omega)
             clear hr22 hC22 hroom22 hi022 hsz22
             have KY22:=As hy22
             clear hy22
             replace q22:=eq_true q22
             refine hK.out _ _ ⟨(blk_cell BK348.out 0).trans rfl,(blk_cell BK348.out 1).trans rfl,(blk_cell BK348.out 2).trans rfl⟩ (fun hHeld=>?_)
             clear hK K
             refine Z.n_ 23 ?_
             refine Z.q_ 2 24 HT_ ?_
             refine Z.q_ 3 25 HT_ ?_
             refine Z.q_ 4 26 HT_ ?_
             refine Z.u_ 5 27 HT_ HW_ hHeld ?_
             refine Z.q_ 6 28 HT_ ?_
             refine Z.q_ 7 29 HT_ ?_
             refine Z.q_ 8 30 HT_ ?_
             refine Z.q_ 9 31 HT_ ?_
             refine Z.q_ 10 32 HT_ ?_
             refine Z.q_ 11 33 HT_ ?_
             refine Z.u_ 12 34 HT_ HW_ hHeld ?_
             refine one_ (i:=13) (N:=some 35) #[true,true,true,true,true,true,true,true,true,true,true,true,true,true,false,false] rfl rfl (one_of HT_.out (by kernel_rfl)) (by decide) (fun K hK=>?_)
             refine goes_ Tryz.func71 (by kernel_rfl) rfl #[.slice (some ad347) y350.length c0,.int .u64 ((rd_T48 l0 x17_2).f0)] (by rfl) rfl rfl (by (try simp only[List.map_toArray,List.map_cons,List.map_nil]);first|done|rfl|(simp only[List.length_drop,List.length_take];rfl)) ?_
             with_reducible refine (special_final.calls _ _ y350 ((rd_T48 l0 x17_2).f0) true _ ?side1 ?side2 A15.out).mono ?_
             (case side1=>repeat (first|exact (Kd.C_below HR353.out HB.out)|(with_reducible refine Kd.C_alloc ?_ _)|(with_reducible refine Kd.C_drewN ?_ _)|(with_reducible refine Kd.C_drew ?_)))
             (case side2=>exact HC353.out)
             rintro e w23 ⟨rfl,hb⟩
             refine⟨_,rfl,?_⟩
             replace HB:=Z.sb hb
             replace BK348:=Z.kb BK348 hb
             (try clear hb)
             (try clear hb2)
             (try clear hk)
             (try clear hi)
             refine hK.out _ _ ⟨(blk_cell BK348.out 0).trans rfl,(blk_cell BK348.out 1).trans rfl,(blk_cell BK348.out 2).trans rfl⟩ (fun hHeld=>?_)
             clear hK K
             refine Z.n_ 35 ?_
             refine Z.q_ 14 36 HT_ ?_
             refine Z.q_ 15 37 HT_ ?_
             refine done_ (done_of HT_.out (by kernel_rfl)) ?_
             try go_wp2
             go_ret
             exact⟨Z.e_,Z.bl⟩
            ·replace c16:=Bool.eq_false_iff.mpr c16
             subst c16
             have H1:(special_Check.l0 k2 l0 l0 (l0.length:Int) (wrap64 (x17_2 + 1)))=some r:=by rw[if_neg (show ¬(false=true) by decide)] at H;exact H
             clear H
             have H:=H1
             clear H1
             have H':=As H
             clear H
             have p347:0≤(x17_2:Int):=Z.od
             have q347:x17_2 < (l0.length:Int):=Z.od
             obtain⟨ad347,e347,hx347_0,hx347_1,hx347_2⟩:=at_T48 HR0.out x17_2 p347 q347
             cases e347
             replace hx347_0:=Z.kc HB hx347_0
             replace hx347_1:=Z.kc HB hx347_1
             replace hx347_2:=Z.kc HB hx347_2
             replace p347:=eq_true p347
             replace q347:=eq_true q347
             try go_wp2_with (first|((with_reducible refine gate_dst (N:=5) rfl ?_);refine Z.bx 5 #[.int .u64 0,.int .u8 0,.int .u64 0] 48 fun gb348 hg w24 hbox hb=>?_;have BK348:=As hbox;have GW348:=Z.ge hg;have GE348:=Z.ge hg;replace HB:=Z.sb hb;clear hb hbox hg;have hcz25_0:=Z.c0 BK348.out;have hcz25_1:=Z.c1 BK348.out;have hcz25_2:=Z.c2 BK348.out;have hfz25_0:=blk_frozen BK348.out 0;have hfz25_1:=blk_frozen BK348.out 1;have hfz25_2:=blk_frozen BK348.out 2))
             have n0_:Aside0 ((((w24.setCell ⟨gb348,0,none⟩ (.int .u64 ((rd_T48 l0 x17_2).f0))).setCell ⟨gb348,1,none⟩ (.int .u8 ((rd_T48 l0 x17_2).f1))).setCell ⟨gb348,2,none⟩ (.int .u64 ((rd_T48 l0 x17_2).f2))).heap[gb348]? =some (.cells #[.int .u64 ((rd_T48 l0 x17_2).f0),.int .u8 ((rd_T48 l0 x17_2).f1),.int .u64 ((rd_T48 l0 x17_2).f2)] 48 (0,0))):=⟨Z.bs⟩
             have n1_:Aside0 (Below w.heap.size w (((w24.setCell ⟨gb348,0,none⟩ (.int .u64 ((rd_T48 l0 x17_2).f0))).setCell ⟨gb348,1,none⟩ (.int .u8 ((rd_T48 l0 x17_2).f1))).setCell ⟨gb348,2,none⟩ (.int .u64 ((rd_T48 l0 x17_2).f2)))):=⟨Z.bl⟩
             (try clear BK348)
             (try clear HB)
             generalize (((w24.setCell ⟨gb348,0,none⟩ (.int .u64 ((rd_T48 l0 x17_2).f0))).setCell ⟨gb348,1,none⟩ (.int .u8 ((rd_T48 l0 x17_2).f1))).setCell ⟨gb348,2,none⟩ (.int .u64 ((rd_T48 l0 x17_2).f2)))=w26 at n0_ n1_ ⊢
             have BK348:=n0_
             have HB:=n1_
             clear n0_ n1_
             replace BK348:=As (blk_drew BK348.out)
             replace HB:=As (below_drew1 HB.out)
             refine start_ (n:=16) (S:=fun w'=>w'.cell? ⟨gb348,0,none⟩=some (.int .u64 ((rd_T48 l0 x17_2).f0))∧w'.cell? ⟨gb348,1,none⟩=some (.int .u8 ((rd_T48 l0 x17_2).f1))∧w'.cell? ⟨gb348,2,none⟩=some (.int .u64 ((rd_T48 l0 x17_2).f2))) (ds:=[]) #[false,false,false,false,false,false,false,false,false,false,false,false,false,false,false,false] (by kernel_rfl) rfl rfl ⟨(blk_cell BK348.out 0).trans rfl,(blk_cell BK348.out 1).trans rfl,(blk_cell BK348.out 2).trans rfl⟩ (fun hHeld=>?_);refine with_tabW special_Check.tab7 special_Check.bits7 (fun HT_ HW_=>?_)
             generalize w26.drew=w27 at BK348 HB hHeld ⊢
             refine Z.u_ 0 22 HT_ HW_ hHeld ?_
             refine one_ (i:=1) (N:=some 23) #[true,true,false,false,false,false,false,false,false,false,false,false,false,false,false,false] rfl rfl (one_of HT_.out (by kernel_rfl)) (by decide) (fun K hK=>?_)
             refine goes_ Tryz.func70 (by kernel_rfl) rfl #[.agg #[.int .u64 ((rd_T48 l0 x17_2).f0),.int .u8 ((rd_T48 l0 x17_2).f1),.int .u64 ((rd_T48 l0 x17_2).f2)]] (by rfl) rfl rfl (by (try simp only[List.map_toArray,List.map_cons,List.map_nil]);first|done|rfl|(simp only[List.length_drop,List.length_take];rfl)) ?_
             with_reducible refine (special_one.calls ((rd_T48 l0 x17_2).f0) ((rd_T48 l0 x17_2).f1) ((rd_T48 l0 x17_2).f2) true _ A10.out).mono ?_
             rintro e w28 ⟨rfl,hb⟩
             refine⟨_,rfl,?_⟩
             replace HB:=Z.sb hb
             replace BK348:=Z.kb BK348 hb
             (try clear hb)
             (try clear hb2)
             (try clear hk)
             (try clear hi)
             have q29:(x17_2:Int)≤((l0.length:Int):Int):=Z.od
             obtain⟨i029,hi029,_,hsz29,_⟩:=info_parts info48
             have hroom29:l0.length≤c0:=HC0.out
             have hC29:Kd.C k48 _ (some ad347) l0.length l0:=HR0.out
             have hcut29:=cut_to (P:=Tryz.prog) 38 48 .i64 Tryz.underlying38 hi029 (some ad347) l0.length c0 x17_2 (Z.od) q29 hroom29
             have hr29:=Kd.C_take (m:=(x17_2:Int).toNat) hC29 (by omega)
             have hy29:y350.length=(x17_2:Int).toNat:=(by rw[Ny350.out,List.length_take];omega)
             rw[←Ny350.out] at hr29
             rw[←hy29] at hcut29
             have HR353:=As hr29
             have HC353:=As (show y350.length≤c0 from by omega)
             clear hr29 hC29 hroom29 hi029 hsz29
             have KY29:=As hy29
             clear hy29
             replace q29:=eq_true q29
             refine hK.out _ _ ⟨(blk_cell BK348.out 0).trans rfl,(blk_cell BK348.out 1).trans rfl,(blk_cell BK348.out 2).trans rfl⟩ (fun hHeld=>?_)
             clear hK K
             refine Z.n_ 23 ?_
             refine Z.q_ 2 24 HT_ ?_
             refine Z.q_ 3 25 HT_ ?_
             refine Z.q_ 4 26 HT_ ?_
             refine Z.u_ 5 27 HT_ HW_ hHeld ?_
             refine Z.q_ 6 28 HT_ ?_
             refine Z.q_ 7 29 HT_ ?_
             refine Z.q_ 8 30 HT_ ?_
             refine Z.q_ 9 31 HT_ ?_
             refine Z.q_ 10 32 HT_ ?_
             refine Z.q_ 11 33 HT_ ?_
             refine Z.u_ 12 34 HT_ HW_ hHeld ?_
             refine one_ (i:=13) (N:=some 35) #[true,true,true,true,true,true,true,true,true,true,true,true,true,true,false,false] rfl rfl (one_of HT_.out (by kernel_rfl)) (by decide) (fun K hK=>?_)
             refine goes_ Tryz.func71 (by kernel_rfl) rfl #[.slice (some ad347) y350.length c0,.int .u64 ((rd_T48 l0 x17_2).f0)] (by rfl) rfl rfl (by (try simp only[List.map_toArray,List.map_cons,List.map_nil]);first|done|rfl|(simp only[List.length_drop,List.length_take];rfl)) ?_
             with_reducible refine (special_final.calls _ _ y350 ((rd_T48 l0 x17_2).f0) false _ ?side1 ?side2 A15.out).mono ?_
             (case side1=>repeat (first|exact (Kd.C_below HR353.out HB.out)|(with_reducible refine Kd.C_alloc ?_ _)|(with_reducible refine Kd.C_drewN ?_ _)|(with_reducible refine Kd.C_drew ?_)))
             (case side2=>exact HC353.out)
             rintro e w30 ⟨rfl,hb⟩
             refine⟨_,rfl,?_⟩
             replace HB:=Z.sb hb
             replace BK348:=Z.kb BK348 hb
             (try clear hb)
             (try clear hb2)
             (try clear hk)
             (try clear hi)
             refine hK.out _ _ ⟨(blk_cell BK348.out 0).trans rfl,(blk_cell BK348.out 1).trans rfl,(blk_cell BK348.out 2).trans rfl⟩ (fun hHeld=>?_)
             clear hK K
             refine Z.n_ 35 ?_
             refine Z.q_ 14 36 HT_ ?_
             refine Z.q_ 15 37 HT_ ?_
             refine done_ (done_of HT_.out (by kernel_rfl)) ?_
             try go_wp2
             go_roundg k2
             case measure=>have:=HJ2.out;have:=HK2.out;omega
             case rel=>exact⟨(wrap64 (x17_2 + 1)),Z.r_,H',⟨by have:=HJ2.out;have:=HK2.out;omega⟩,⟨Z.bl⟩⟩
           ·rw[if_neg c14] at H
            exact absurd H (by simp)
          ·rw[if_neg c12] at H
           have c12b0:(((rd_T48 l0 x17_2).f1) == 1)=false:=beq_eq_false_iff_ne.mpr c12
           have c12b1:(((rd_T48 l0 x17_2).f1) != 1)=true:=bne_iff_ne.mpr c12
           have H':=As H
           clear H
           have p347:0≤(x17_2:Int):=Z.od
           have q347:x17_2 < (l0.length:Int):=Z.od
           obtain⟨ad347,e347,hx347_0,hx347_1,hx347_2⟩:=at_T48 HR0.out x17_2 p347 q347
           cases e347
           replace hx347_0:=Z.kc HB hx347_0
           replace hx347_1:=Z.kc HB hx347_1
           replace hx347_2:=Z.kc HB hx347_2
           replace p347:=eq_true p347
           replace q347:=eq_true q347
           try go_wp2_with (first|((with_reducible refine gate_dst (N:=5) rfl ?_);refine Z.bx 5 #[.int .u64 0,.int .u8 0,.int .u64 0] 48 fun gb348 hg w31 hbox hb=>?_;have BK348:=As hbox;have GW348:=Z.ge hg;have GE348:=Z.ge hg;replace HB:=Z.sb hb;clear hb hbox hg;have hcz32_0:=Z.c0 BK348.out;have hcz32_1:=Z.c1 BK348.out;have hcz32_2:=Z.c2 BK348.out;have hfz32_0:=blk_frozen BK348.out 0;have hfz32_1:=blk_frozen BK348.out 1;have hfz32_2:=blk_frozen BK348.out 2))
           have n0_:Aside0 ((((w31.setCell ⟨gb348,0,none⟩ (.int .u64 ((rd_T48 l0 x17_2).f0))).setCell ⟨gb348,1,none⟩ (.int .u8 ((rd_T48 l0 x17_2).f1))).setCell ⟨gb348,2,none⟩ (.int .u64 ((rd_T48 l0 x17_2).f2))).heap[gb348]? =some (.cells #[.int .u64 ((rd_T48 l0 x17_2).f0),.int .u8 ((rd_T48 l0 x17_2).f1),.int .u64 ((rd_T48 l0 x17_2).f2)] 48 (0,0))):=⟨Z.bs⟩
           have n1_:Aside0 (Below w.heap.size w (((w31.setCell ⟨gb348,0,none⟩ (.int .u64 ((rd_T48 l0 x17_2).f0))).setCell ⟨gb348,1,none⟩ (.int .u8 ((rd_T48 l0 x17_2).f1))).setCell ⟨gb348,2,none⟩ (.int .u64 ((rd_T48 l0 x17_2).f2)))):=⟨Z.bl⟩
           (try clear BK348)
           (try clear HB)
           generalize (((w31.setCell ⟨gb348,0,none⟩ (.int .u64 ((rd_T48 l0 x17_2).f0))).setCell ⟨gb348,1,none⟩ (.int .u8 ((rd_T48 l0 x17_2).f1))).setCell ⟨gb348,2,none⟩ (.int .u64 ((rd_T48 l0 x17_2).f2)))=w33 at n0_ n1_ ⊢
           have BK348:=n0_
           have HB:=n1_
           clear n0_ n1_
           replace BK348:=As (blk_drew BK348.out)
           replace HB:=As (below_drew1 HB.out)
           refine start_ (n:=16) (S:=fun w'=>w'.cell? ⟨gb348,0,none⟩=some (.int .u64 ((rd_T48 l0 x17_2).f0))∧w'.cell? ⟨gb348,1,none⟩=some (.int .u8 ((rd_T48 l0 x17_2).f1))∧w'.cell? ⟨gb348,2,none⟩=some (.int .u64 ((rd_T48 l0 x17_2).f2))) (ds:=[]) #[false,false,false,false,false,false,false,false,false,false,false,false,false,false,false,false] (by kernel_rfl) rfl rfl ⟨(blk_cell BK348.out 0).trans rfl,(blk_cell BK348.out 1).trans rfl,(blk_cell BK348.out 2).trans rfl⟩ (fun hHeld=>?_);refine with_tabW special_Check.tab7 special_Check.bits7 (fun HT_ HW_=>?_)
           generalize w33.drew=w34 at BK348 HB hHeld ⊢
           refine Z.u_ 0 22 HT_ HW_ hHeld ?_
           refine one_ (i:=1) (N:=some 23) #[true,true,false,false,false,false,false,false,false,false,false,false,false,false,false,false] rfl rfl (one_of HT_.out (by kernel_rfl)) (by decide) (fun K hK=>?_)
           refine goes_ Tryz.func70 (by kernel_rfl) rfl #[.agg #[.int .u64 ((rd_T48 l0 x17_2).f0),.int .u8 ((rd_T48 l0 x17_2).f1),.int .u64 ((rd_T48 l0 x17_2).f2)]] (by rfl) rfl rfl (by (try simp only[List.map_toArray,List.map_cons,List.map_nil]);first|done|rfl|(simp only[List.length_drop,List.length_take];rfl)) ?_
           with_reducible refine (special_one.calls ((rd_T48 l0 x17_2).f0) ((rd_T48 l0 x17_2).f1) ((rd_T48 l0 x17_2).f2) true _ A10.out).mono ?_
           rintro e w35 ⟨rfl,hb⟩
           refine⟨_,rfl,?_⟩
           replace HB:=Z.sb hb
           replace BK348:=Z.kb BK348 hb
           (try clear hb)
           (try clear hb2)
           (try clear hk)
           (try clear hi)
           refine hK.out _ _ ⟨(blk_cell BK348.out 0).trans rfl,(blk_cell BK348.out 1).trans rfl,(blk_cell BK348.out 2).trans rfl⟩ (fun hHeld=>?_)
           clear hK K
           refine Z.n_ 23 ?_
           refine Z.q_ 2 24 HT_ ?_
           refine Z.q_ 3 25 HT_ ?_
           refine Z.q_ 4 26 HT_ ?_
           refine Z.u_ 5 27 HT_ HW_ hHeld ?_
           refine Z.q_ 6 28 HT_ ?_
           refine Z.q_ 7 29 HT_ ?_
           refine Z.y_ 8 30 HT_ ?_
           refine Z.y_ 9 31 HT_ ?_
           refine Z.y_ 10 32 HT_ ?_
           refine Z.y_ 11 33 HT_ ?_
           refine Z.y_ 12 34 HT_ ?_
           refine Z.y_ 13 35 HT_ ?_
           refine Z.q_ 14 36 HT_ ?_
           refine Z.q_ 15 37 HT_ ?_
           refine done_ (done_of HT_.out (by kernel_rfl)) ?_
           try go_wp2
           go_roundg k2
           case measure=>have:=HJ2.out;have:=HK2.out;omega
           case rel=>exact⟨(wrap64 (x17_2 + 1)),Z.r_,H',⟨by have:=HJ2.out;have:=HK2.out;omega⟩,⟨Z.bl⟩⟩
         ·replace c11:=Bool.eq_false_iff.mpr c11
          subst c11
          have H1:(some 2)=some r:=by rw[if_neg (show ¬(false=true) by decide)] at H;exact H
          clear H
          have H:=H1
          clear H1
          obtain rfl:=Option.some.inj H
          have p347:0≤(x17_2:Int):=Z.od
          have q347:x17_2 < (l0.length:Int):=Z.od
          obtain⟨ad347,e347,hx347_0,hx347_1,hx347_2⟩:=at_T48 HR0.out x17_2 p347 q347
          cases e347
          replace hx347_0:=Z.kc HB hx347_0
          replace hx347_1:=Z.kc HB hx347_1
          replace hx347_2:=Z.kc HB hx347_2
          replace p347:=eq_true p347
          replace q347:=eq_true q347
          try go_wp2_with (first|((with_reducible refine gate_dst (N:=5) rfl ?_);refine Z.bx 5 #[.int .u64 0,.int .u8 0,.int .u64 0] 48 fun gb348 hg w36 hbox hb=>?_;have BK348:=As hbox;have GW348:=Z.ge hg;have GE348:=Z.ge hg;replace HB:=Z.sb hb;clear hb hbox hg;have hcz37_0:=Z.c0 BK348.out;have hcz37_1:=Z.c1 BK348.out;have hcz37_2:=Z.c2 BK348.out;have hfz37_0:=blk_frozen BK348.out 0;have hfz37_1:=blk_frozen BK348.out 1;have hfz37_2:=blk_frozen BK348.out 2))
          have n0_:Aside0 ((((w36.setCell ⟨gb348,0,none⟩ (.int .u64 ((rd_T48 l0 x17_2).f0))).setCell ⟨gb348,1,none⟩ (.int .u8 ((rd_T48 l0 x17_2).f1))).setCell ⟨gb348,2,none⟩ (.int .u64 ((rd_T48 l0 x17_2).f2))).heap[gb348]? =some (.cells #[.int .u64 ((rd_T48 l0 x17_2).f0),.int .u8 ((rd_T48 l0 x17_2).f1),.int .u64 ((rd_T48 l0 x17_2).f2)] 48 (0,0))):=⟨Z.bs⟩
          have n1_:Aside0 (Below w.heap.size w (((w36.setCell ⟨gb348,0,none⟩ (.int .u64 ((rd_T48 l0 x17_2).f0))).setCell ⟨gb348,1,none⟩ (.int .u8 ((rd_T48 l0 x17_2).f1))).setCell ⟨gb348,2,none⟩ (.int .u64 ((rd_T48 l0 x17_2).f2)))):=⟨Z.bl⟩
          (try clear BK348)
          (try clear HB)
          generalize (((w36.setCell ⟨gb348,0,none⟩ (.int .u64 ((rd_T48 l0 x17_2).f0))).setCell ⟨gb348,1,none⟩ (.int .u8 ((rd_T48 l0 x17_2).f1))).setCell ⟨gb348,2,none⟩ (.int .u64 ((rd_T48 l0 x17_2).f2)))=w38 at n0_ n1_ ⊢
          have BK348:=n0_
          have HB:=n1_
          clear n0_ n1_
          replace BK348:=As (blk_drew BK348.out)
          replace HB:=As (below_drew1 HB.out)
          refine start_ (n:=16) (S:=fun w'=>w'.cell? ⟨gb348,0,none⟩=some (.int .u64 ((rd_T48 l0 x17_2).f0))∧w'.cell? ⟨gb348,1,none⟩=some (.int .u8 ((rd_T48 l0 x17_2).f1))∧w'.cell? ⟨gb348,2,none⟩=some (.int .u64 ((rd_T48 l0 x17_2).f2))) (ds:=[]) #[false,false,false,false,false,false,false,false,false,false,false,false,false,false,false,false] (by kernel_rfl) rfl rfl ⟨(blk_cell BK348.out 0).trans rfl,(blk_cell BK348.out 1).trans rfl,(blk_cell BK348.out 2).trans rfl⟩ (fun hHeld=>?_);refine with_tabW special_Check.tab7 special_Check.bits7 (fun HT_ HW_=>?_)
          generalize w38.drew=w39 at BK348 HB hHeld ⊢
          refine Z.u_ 0 22 HT_ HW_ hHeld ?_
          refine one_ (i:=1) (N:=some 23) #[true,true,false,false,false,false,false,false,false,false,false,false,false,false,false,false] rfl rfl (one_of HT_.out (by kernel_rfl)) (by decide) (fun K hK=>?_)
          refine goes_ Tryz.func70 (by kernel_rfl) rfl #[.agg #[.int .u64 ((rd_T48 l0 x17_2).f0),.int .u8 ((rd_T48 l0 x17_2).f1),.int .u64 ((rd_T48 l0 x17_2).f2)]] (by rfl) rfl rfl (by (try simp only[List.map_toArray,List.map_cons,List.map_nil]);first|done|rfl|(simp only[List.length_drop,List.length_take];rfl)) ?_
          with_reducible refine (special_one.calls ((rd_T48 l0 x17_2).f0) ((rd_T48 l0 x17_2).f1) ((rd_T48 l0 x17_2).f2) false _ A10.out).mono ?_
          rintro e w40 ⟨rfl,hb⟩
          refine⟨_,rfl,?_⟩
          replace HB:=Z.sb hb
          replace BK348:=Z.kb BK348 hb
          (try clear hb)
          (try clear hb2)
          (try clear hk)
          (try clear hi)
          refine hK.out _ _ ⟨(blk_cell BK348.out 0).trans rfl,(blk_cell BK348.out 1).trans rfl,(blk_cell BK348.out 2).trans rfl⟩ (fun hHeld=>?_)
          clear hK K
          refine Z.n_ 23 ?_
          refine Z.q_ 2 24 HT_ ?_
          refine Z.q_ 3 25 HT_ ?_
          refine Z.y_ 4 26 HT_ ?_
          refine Z.y_ 5 27 HT_ ?_
          refine Z.y_ 6 28 HT_ ?_
          refine Z.y_ 7 29 HT_ ?_
          refine Z.y_ 8 30 HT_ ?_
          refine Z.y_ 9 31 HT_ ?_
          refine Z.y_ 10 32 HT_ ?_
          refine Z.y_ 11 33 HT_ ?_
          refine Z.y_ 12 34 HT_ ?_
          refine Z.y_ 13 35 HT_ ?_
          refine Z.y_ 14 36 HT_ ?_
          refine Z.q_ 15 37 HT_ ?_
          refine done_ (done_of HT_.out (by kernel_rfl)) ?_
          try go_wp2
          go_ret
          exact⟨Z.e_,Z.bl⟩
        ·rw[if_neg c9] at H
         exact absurd H (by simp)
       ·rw[if_neg c8] at H
        exact absurd H (by simp)
      ·rw[if_neg c7] at H
       have c7b0:decide (x17_2 < (l0.length:Int))=false:=decide_eq_false c7
       clear c7
       obtain rfl:=Option.some.inj H
       go_wp2
       go_ret
       exact⟨Z.e_,Z.bl⟩
end Go.Proofs.YtmmfchnbfnegnaaGreatDoor.GK
end
