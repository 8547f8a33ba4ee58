import Derived.Test.YtmmfchnbfnegnaaGreatDoorM08
import Derived.Lib.Overlaps
import Derived.Lib.AppendZerosOnto
import Derived.Deep.RegionLaw
import Derived.Test.YtmmfchnbfnegnaaGreatDoorM03
namespace Go.Proofs.YtmmfchnbfnegnaaGreatDoor.K
open Go.RowKit Go.Proofs.YtmmfchnbfnegnaaGreatDoorW.PrintWords Go.Proofs.YtmmfchnbfnegnaaGreatDoorW.PrintLast Go.Proofs.YtmmfchnbfnegnaaGreatDoorW.PrintMore Go.Proofs.YtmmfchnbfnegnaaGreatDoor.GK
attribute [local go_sem] max2_int min2_int max_two min_two max_three min_three max_four min_four
section
variable {P:Program} {ops:Array Oper} {rest:List Oper} {o:Oper} {a:Act} {Q:Exit→Act→World→Prop} {W:World}
theorem copy_event {w':World} {v':Value} (hgd:o.guard=none) (d s:Operand) (t t':TypeId) (ho:o.op=.call {callee:=.builtin .copy,args:=#[d,s],argTypes:=#[t,t']}) (v u:Value) (hd:a.eval d=v) (hs:a.eval s=u)
  (hr:∀ty,(Builtin.copy_ #[t,t'] ty #[v,u]).run P W=.ok v' w') (h:wpList P ops Q rest (a.put o.dst v') w'):wpList P ops Q (o::rest) a W:=by
 refine wpList_plain hgd fun K hK=>?_
 unfold Oper.wp execOp
 simp only[ho,resolve,invoke,builtin,Sem.run_bind,Sem.run_pure,Result.andThen_ok,List.map_toArray,List.map_cons,List.map_nil,hd,hs,hr]
 exact hK _ _ h
theorem copy_step {w':World} {v':Value} {K:Act→World→Prop} {E:Prop} (hg:o.guard=none) (d s:Operand) (t t':TypeId) (ho:o.op=.call {callee:=.builtin .copy,args:=#[d,s],argTypes:=#[t,t']}) (v u:Value) (hd:a.eval d=v) (hs:a.eval s=u)
  (hr:∀ty,(Builtin.copy_ #[t,t'] ty #[v,u]).run P W=.ok v' w') (h:K (a.put o.dst v') w'):if Region.wanted o (yielded ops a.tmps)=true then Oper.wp P o a W K Q else E:=by
 have hw:Region.wanted o (yielded ops a.tmps)=true:=by simp[Region.wanted,hg]
 rw[if_pos hw]
 unfold Oper.wp
 simp[execOp,ho,resolve,invoke,builtin,hd,hs,hr,Result.andThen]
 exact h
end
theorem copy_run {P:Program} {W:World} {dT sT elem:TypeId} (hu:P.underlying dT=some (.slice elem)) {sz:Nat} (hs:(P.info? elem).map (·.size)=some sz) {g o dLen dCap sLen sCap:Nat} {a:Addr} {cur:Array Value} {t:TypeId} (cs:List Value)
  (hg:W.heap[g]? =some (.cells cur t (0,0))) (hn:cs.length=Nat.min sLen dLen * sz) (hsrc:∀j v,cs[j]? =some v→W.cell? (a.add j)=some v) (hfit:o + cs.length≤cur.size) (h1:∀v∈cs,v.oneCell'=true) (ty:TypeId):
  (Builtin.copy_ #[dT,sT] ty #[.slice (some ⟨g,o,none⟩) dLen dCap,.slice (some a) sLen sCap]).run P W=.ok (goInt (Nat.min sLen dLen)) (W.setRow g (cur.toList.take o ++ cs ++ cur.toList.drop (o + cs.length)).toArray):=by
 have hl:=run_loadCells_list (P:=P) W a cs hsrc
 have hst:=run_storeCells_at P g o t cs 0 cur W hg (by simpa using hfit) h1
 cases hq:P.info? elem with
 |none=>simp[hq] at hs
 |some i=>
  have hi:i.size=sz:=by simpa[hq] using hs
  simp[Builtin.copy_,run_underlying hu,Builtin.lenOf,Builtin.firstCells,sizeOf,typeInfo,hq,hi,←hn,hl,hst]
def spl (L:List Value) (o:Nat) (s:List Value):List Value:=L.take o ++ s ++ L.drop (o + s.length)
theorem spl_len {L:List Value} {o:Nat} {s:List Value} (h:o + s.length≤L.length):(spl L o s).length=L.length:=by
 unfold spl;simp only[List.length_append,List.length_take,List.length_drop];omega
theorem spl_get {L:List Value} {o:Nat} {s:List Value} (h:o + s.length≤L.length) (k:Nat):(spl L o s)[k]? =if k < o then L[k]? else if k < o + s.length then s[k - o]? else L[k]? :=by
 unfold spl
 have hl:(L.take o).length=o:=by rw[List.length_take];omega
 by_cases h1:k < o
 ·rw[if_pos h1,List.append_assoc,List.getElem?_append_left (by omega),List.getElem?_take,if_pos h1]
 ·rw[if_neg h1]
  by_cases h2:k < o + s.length
  ·rw[if_pos h2,List.getElem?_append_left (by rw[List.length_append];omega),List.getElem?_append_right (by omega),hl]
  ·rw[if_neg h2,List.getElem?_append_right (by rw[List.length_append];omega),List.length_append,hl,List.getElem?_drop,show o + s.length + (k - (o + s.length))=k by omega]
theorem spl_two {L F x cs:List Value} {a sz:Nat} (hF:L.take a=F) (hx:x.length=sz) (hl:a + sz + cs.length≤L.length):
  (spl (spl L a x) (a + sz) cs).take (a + sz + cs.length)=F ++ x ++ cs∧(spl (spl L (a + sz) cs) a x).take (a + sz + cs.length)=F ++ x ++ cs:=by
 have hFl:F.length=a:=by rw[←hF,List.length_take];omega
 have l1:(spl L a x).length=L.length:=spl_len (by omega)
 have l2:(spl L (a + sz) cs).length=L.length:=spl_len (by omega)
 have rhs:∀k,(F ++ x ++ cs)[k]? =if k < a then L[k]? else if k < a + sz then x[k - a]? else cs[k - (a + sz)]? :=by
  intro k
  by_cases h1:k < a
  ·rw[if_pos h1,List.append_assoc,List.getElem?_append_left (by omega),←hF,List.getElem?_take,if_pos h1]
  ·rw[if_neg h1]
   by_cases h2:k < a + sz
   ·rw[if_pos h2,List.getElem?_append_left (by rw[List.length_append];omega),List.getElem?_append_right (by omega),hFl]
   ·rw[if_neg h2,List.getElem?_append_right (by rw[List.length_append];omega),List.length_append,hFl,hx]
 constructor
 ·apply List.ext_getElem?
  intro k
  rw[rhs,List.getElem?_take]
  by_cases h0:k < a + sz + cs.length
  ·rw[if_pos h0,spl_get (by omega),spl_get (by omega),hx]
   by_cases h1:k < a
   ·rw[if_pos (by omega),if_pos h1,if_pos h1]
   ·by_cases h2:k < a + sz
    ·rw[if_pos h2,if_neg h1,if_pos h2,if_neg h1,if_pos h2]
    ·rw[if_neg h2,if_pos h0,if_neg h1,if_neg h2]
  ·rw[if_neg h0,if_neg (by omega),if_neg (by omega),List.getElem?_eq_none (by omega)]
 ·apply List.ext_getElem?
  intro k
  rw[rhs,List.getElem?_take]
  by_cases h0:k < a + sz + cs.length
  ·rw[if_pos h0,spl_get (by omega),spl_get (by omega),hx]
   by_cases h1:k < a
   ·rw[if_pos h1,if_pos (by omega),if_pos h1]
   ·by_cases h2:k < a + sz
    ·rw[if_neg h1,if_pos h2,if_neg h1,if_pos h2]
    ·rw[if_neg h1,if_neg h2,if_neg h2,if_pos h0,if_neg h1,if_neg h2]
  ·rw[if_neg h0,if_neg (by omega),if_neg (by omega),List.getElem?_eq_none (by omega)]
set_option maxHeartbeats 8000000 in
set_option maxRecDepth 100000 in
theorem insSp_end (gx:Nat) (x:List Value) (v:Value) (rows:List (List Value)) (w0 w:World) (hB:Below w0.heap.size w0 w) (hr:Kd.R (Kd.raw 3) 48 w w0.heap.size (fun _=>True) v rows) (hx:w.heap[gx]? =some (.cells x.toArray 48 (0,0))) (hxl:x.length=3) (hx1:∀u∈x,u.oneCell'=true) (hlen:rows.length < 1000000):
  Calls Tryz.prog 74 #[v,.int .i64 (rows.length:Int),.slice (some ⟨gx,0,none⟩) 1 1] w fun e w'=>∃v':Value,e=.returned v'∧Kd.R (Kd.raw 3) 48 w' w0.heap.size (fun _=>True) v' (rows ++ [x])∧Below w0.heap.size w0 w'∧(∀k,k < w.heap.size→some k≠v.ownBlock→w'.heap[k]? =w.heap[k]?)∧(v'.ownBlock=v.ownBlock∨∃b,v'.ownBlock=some b∧w.heap.size≤b):=by
 have hue:=Tryz.underlying48
 obtain⟨A,c,rfl⟩:=Kd.R_slice hr
 obtain⟨hn,hnc,hC⟩:=Kd.R_reads' hr
 have hxr:ReadsRow ((Kd.raw 3).K w) 3 w (some ⟨gx,0,none⟩) 1 [x]:=by
  refine⟨rfl,by decide,fun _=>⟨_,rfl,fun j p hj=>?_⟩⟩
  match j,hj with
  |0,hj=>
   have hp:x=p:=by simpa using hj
   subst hp
   refine⟨x,hxl,⟨rfl,hxl,hx1⟩,fun i u hu=>?_⟩
   rw[Nat.zero_mul,Nat.zero_add,show (⟨gx,0,none⟩:Addr).add i=⟨gx,i,none⟩ by unfold Addr.add;split <;> simp_all,blk_cell hx]
   simpa using hu
 have HR:=As hr
 have HX:=As hxr
 have HB:=As hB
 have HLN:=As hlen
 have hl1:rows.length≤1000000:=by omega
 have hm1:((rows.length:Int) == (rows.length:Int))=true:=beq_self_eq_true _
 clear hr hx hxr hB hlen hC hn
 go_enter Tryz.func74,Tryz.ntmps74
 go_wp2_with (first|((with_reducible refine gate_builtin (b:=.append) (xs:=#[.tmp 23,.tmp 24]) rfl ?_);at_builtin;refine Kd.R_append_rows (Kd.raw 3) (w0:=w0) w0.heap.size rfl (.tmp 23) (.tmp 24) 38 48 (.agg #[.int .u64 0,.int .u8 0,.int .u64 0]) 24 rfl Tryz.underlying38 infoSp rfl (by decide) (by omega) (.slice A rows.length c) rows [x] _ _ _ (fun _=>True) (fun _=>False) rfl rfl ?aO HX.out (fun _ _ h=>h) (fun _ h=>h.elim) (fun _ _=>trivial) ?aB ?aS ?aL ?_;(case aO=>exact HR.out);(case aB=>exact HB.out);(case aS=>exact (below_size HB.out));(case aL=>omega);intro v2 w2 ho2 hb2 hg2 hat2;have HG2:=As hg2;have HAT2:=As hat2;clear hg2 hat2;have HO2:=As ho2;have HB2:=As hb2;clear ho2 hb2))
 all_goals (go_ret;exact⟨_,rfl,HO2.out,HB2.out,fun k hk hne=>HG2.out.block k hk (fun e=>hne (e.trans (by cases A <;> rfl))),HAT2.out.imp (fun e=>e.trans (by cases A <;> rfl)) (fun e=>e)⟩)
set_option maxHeartbeats 8000000 in
set_option maxRecDepth 100000 in
theorem insSp_mid (gx i:Nat) (x:List Value) (v:Value) (rows:List (List Value)) (w0 w:World) (hi:i < rows.length) (hB:Below w0.heap.size w0 w) (hr:Kd.R (Kd.raw 3) 48 w w0.heap.size (fun k=>k≠gx) v rows) (hx:w.heap[gx]? =some (.cells x.toArray 48 (0,0))) (hxl:x.length=3) (hx1:∀u∈x,u.oneCell'=true) (hlen:rows.length < 1000000):
  Calls Tryz.prog 74 #[v,.int .i64 (i:Int),.slice (some ⟨gx,0,none⟩) 1 1] w fun e w'=>∃v':Value,e=.returned v'∧Kd.R (Kd.raw 3) 48 w' w0.heap.size (fun _=>True) v' (rows.take i ++ [x] ++ rows.drop i)∧Below w0.heap.size w0 w'∧(∀k,k < w.heap.size→some k≠v.ownBlock→w'.heap[k]? =w.heap[k]?)∧(v'.ownBlock=v.ownBlock∨∃b,v'.ownBlock=some b∧w.heap.size≤b):=by
 have hue:=Tryz.underlying48
 obtain⟨g,c,rfl,hgb,hgl, -⟩:=Kd.R_form hr (by omega)
 obtain⟨cur,hcb, -,hnc,hcm,hcs,hct, -,hne⟩:=raw_open (by decide) hr
 have hcells:=raw_cells hr
 have hcx:Cells 3 (rows.take i ++ [x] ++ rows.drop i):=fun y hy=>by
  rcases List.mem_append.1 hy with hy|hy
  ·rcases List.mem_append.1 hy with hy|hy
   ·exact hcells y (List.mem_of_mem_take hy)
   ·rw[List.mem_singleton.1 hy];exact⟨hxl,hx1⟩
  ·exact hcells y (List.mem_of_mem_drop hy)
 have hflat:(rows.take i ++ [x] ++ rows.drop i).flatten=(rows.take i).flatten ++ x ++ (rows.drop i).flatten:=by simp
 have hnl:(rows.take i ++ [x] ++ rows.drop i).length=rows.length + 1:=by simp;omega
 have hdl:(rows.drop i).flatten.length=(rows.length - i) * 3:=by rw[flat_len (fun y hy=>hcells.len y (List.mem_of_mem_drop hy)),List.length_drop]
 have hF:cur.toList.take (i * 3)=(rows.take i).flatten:=by rw[flat_take i hcells.len,←hct,List.take_take,Nat.min_eq_left (by omega)]
 have hD:∀j u,(rows.drop i).flatten[j]? =some u→cur[i * 3 + j]? =some u:=fun j u hj=>by
  rw[flat_drop i hcells.len,←hct,List.getElem?_drop,List.getElem?_take] at hj
  split at hj
  ·rw[←Array.getElem?_toList];exact hj
  ·cases hj
 have hd1:∀u∈(rows.drop i).flatten,u.oneCell'=true:=(hcells.sub (fun y hy=>List.mem_of_mem_drop hy)).one
 have hinf:(Tryz.prog.info? 48).map (·.size)=some 3:=by
  obtain⟨i0,h0,_,h2,_⟩:=info_parts infoSp
  rw[h0];simp[h2]
 have hm2:decide (i=rows.length)=false:=decide_eq_false (by omega)
 have hm3:((i:Int) == (rows.length:Int))=false:=beq_eq_false_iff_ne.mpr (by omega)
 have hl1:rows.length≤1000000:=by omega
 have hxs:∀j u,x[j]? =some u→w.cell? ((⟨gx,0,none⟩:Addr).add j)=some u:=fun j u hj=>by
  rw[show (⟨gx,0,none⟩:Addr).add j=⟨gx,j,none⟩ by unfold Addr.add;split <;> simp_all,blk_cell hx]
  simpa using hj
 by_cases hroom:rows.length + 1≤c
 ·
  have hov:∀lb cb,(callFunc 105 #[.slice (some ⟨gx,0,none⟩) 1 1,.slice (some ⟨g,(i + 1) * 3,none⟩) lb cb]).run Tryz.prog w=.ok (.value (.bool false)) w:=fun lb cb=>by
   rw[run_callFunc_extern Tryz.func105 (by kernel_rfl) (by kernel_rfl) (by kernel_rfl) (e:=Extern.SlicesOverlaps.overlaps #[38,38] #[4]) (by kernel_rfl),
    Lib.run_overlaps_apart w 38 4 48 Tryz.underlying38 3 Tryz.sizeOf48 ⟨gx,0,none⟩ ⟨g,(i + 1) * 3,none⟩ 1 1 lb cb (Ne.symm hne) 48 48 x.toArray.size cur.size (by simp[World.shape?,hx]) (by simp[World.shape?,hcb]) (by rw[hcs];omega) (blk_frozen hx _) (blk_frozen hx _)]
   rfl
  obtain⟨L1,hL1⟩:∃L,L=spl cur.toList ((i + 1) * 3) (rows.drop i).flatten:=⟨_,rfl⟩
  obtain⟨L2,hL2⟩:∃L,L=spl L1 (i * 3) x:=⟨_,rfl⟩
  have hcl:cur.toList.length=c * 3:=by rw[Array.length_toList,hcs]
  have l1:L1.length=c * 3:=by rw[hL1,spl_len (by rw[hcl,hdl];omega),hcl]
  have l2:L2.length=c * 3:=by rw[hL2,spl_len (by rw[l1,hxl];omega),l1]
  have hcp1:∀(W:World),W.heap[g]? =some (.cells cur 48 (0,0))→∀dc sc ty,(Builtin.copy_ #[38,38] ty #[.slice (some ⟨g,(i + 1) * 3,none⟩) (rows.length - i) dc,.slice (some ⟨g,i * 3,none⟩) (rows.length + 1 - i) sc]).run Tryz.prog W=.ok (goInt (Nat.min (rows.length + 1 - i) (rows.length - i))) (W.setRow g L1.toArray):=fun W hW dc sc ty=>by
   have:=copy_run (P:=Tryz.prog) (W:=W) (dT:=38) (sT:=38) (elem:=48) Tryz.underlying38 hinf (g:=g) (o:=(i + 1) * 3) (dLen:=rows.length - i) (dCap:=dc) (sLen:=rows.length + 1 - i) (sCap:=sc) (a:=⟨g,i * 3,none⟩) (rows.drop i).flatten hW (by rw[hdl];show (rows.length - i) * 3=min (rows.length + 1 - i) (rows.length - i) * 3;omega) (fun j u hj=>by
    rw[show (⟨g,i * 3,none⟩:Addr).add j=⟨g,i * 3 + j,none⟩ by unfold Addr.add;split <;> simp_all,blk_cell hW]
    exact hD j u hj) (by rw[hdl,hcs];omega) hd1 ty
   rw[this,hL1];rfl
  have hcp2:∀(W:World),W.heap[g]? =some (.cells L1.toArray 48 (0,0))→W.heap[gx]? =some (.cells x.toArray 48 (0,0))→∀dc ty,(Builtin.copy_ #[38,38] ty #[.slice (some ⟨g,i * 3,none⟩) (rows.length + 1 - i) dc,.slice (some ⟨gx,0,none⟩) 1 1]).run Tryz.prog W=.ok (goInt (Nat.min 1 (rows.length + 1 - i))) (W.setRow g L2.toArray):=fun W hW hWx dc ty=>by
   have:=copy_run (P:=Tryz.prog) (W:=W) (dT:=38) (sT:=38) (elem:=48) Tryz.underlying38 hinf (g:=g) (o:=i * 3) (dLen:=rows.length + 1 - i) (dCap:=dc) (sLen:=1) (sCap:=1) (a:=⟨gx,0,none⟩) x hW (by rw[hxl];show 3=min 1 (rows.length + 1 - i) * 3;omega) (fun j u hj=>by
    rw[show (⟨gx,0,none⟩:Addr).add j=⟨gx,j,none⟩ by unfold Addr.add;split <;> simp_all,blk_cell hWx]
    simpa using hj) (by rw[hxl,List.size_toArray,l1];omega) hx1 ty
   rw[this,hL2];rfl
  have hend:L2.take ((rows.length + 1) * 3)=(rows.take i ++ [x] ++ rows.drop i).flatten:=by
   rw[hflat,hL2,hL1,show (i + 1) * 3=i * 3 + 3 by omega,show (rows.length + 1) * 3=i * 3 + 3 + (rows.drop i).flatten.length by rw[hdl];omega]
   exact (spl_two hF hxl (by rw[hdl,hcl];omega)).2
  have HC1:=As hcp1
  have HC2:=As hcp2
  have HOV:=As hov
  have HE:=As hend
  have HX:=As hx
  have HCB:=As hcb
  have HNE:=As hne
  have HL2:=As l2
  have HNL:=As hnl
  have HCX:=As hcx
  have hgt:decide ((c:Int) < (rows.length:Int) + 1)=false:=decide_eq_false (by omega)
  have hci:¬c=i:=by omega
  have hci1:¬c=i + 1:=by omega
  have HB:=As hB
  clear hL1 hL2 l1 l2 hcl hcp1 hcp2 hend hov hx hcb hne hnl hcx hflat hdl hF hD hd1 hinf hxs hct hcs hcells hr hB
  go_enter Tryz.func74,Tryz.ntmps74
  go_wp2_with (simp only[HOV.out])
  have hw1:IntKind.i64.wrap ((i:Int) + 1)=(i:Int) + 1:=by rw[IntKind.wrap_i64];omega
  have hb1:(0:Int)≤(i:Int) + 1:=by omega
  have hin:i≤rows.length:=by omega
  have htn:((i:Int) + 1).toNat=i + 1:=by omega
  have hb3:(i:Int)≤(rows.length:Int) + 1:=by omega
  have hb5:i≤rows.length + 1:=by omega
  go_region_law (refine copy_step rfl (.tmp 73) (.tmp 76) 38 38 rfl (.slice (some ⟨g,(i + 1) * 3,none⟩) (rows.length - i) (c - (i + 1))) (.slice (some ⟨g,i * 3,none⟩) (rows.length + 1 - i) (c - i)) (by simp[Act.eval,Act.put]) (by simp[Act.eval,Act.put]) (fun ty=>HC1.out w.drew HCB.out _ _ ty) ?_)
  go_wp2_with (first|((with_reducible refine gate_builtin (b:=.copy) (xs:=#[.tmp 80,.tmp 81]) rfl ?_);refine copy_event rfl _ _ _ _ rfl _ _ (by rfl) (by rfl) (fun ty=>HC2.out (w.drew.setRow g L1.toArray) (setRow_heap w.drew g cur L1.toArray _ _ HCB.out) ((setRow_far w.drew g _ gx HNE.out.symm).trans HX.out) _ ty) ?_))
  go_ret
  have hR:Kd.R (Kd.raw 3) 48 ((w.drew.setRow g L1.toArray).setRow g L2.toArray) w0.heap.size (fun _=>True) (.slice (some ⟨g,0,none⟩) (rows.take i ++ [x] ++ rows.drop i).length c) (rows.take i ++ [x] ++ rows.drop i):=
   raw_close HCX.out (setRow_heap _ g L1.toArray _ _ _ (setRow_heap w.drew g cur L1.toArray _ _ HCB.out)) (by rw[HNL.out];omega) hcm (by rw[List.size_toArray,HL2.out]) (by rw[HNL.out];exact HE.out) hgb trivial
  have hb0:=below_drew1 HB.out
  have hb1:=pw_below_grown hb0 _ (below_size hb0) (setRow_grown w.drew g L1.toArray) (fun k hk=>by injection hk with hk;subst hk;exact hgb)
  exact⟨_,by rw[HNL.out];rfl,hR,pw_below_grown hb1 _ (below_size hb1) (setRow_grown _ g L2.toArray) (fun k hk=>by injection hk with hk;subst hk;exact hgb),fun k hk hne=>by
   have hk2:k≠g:=fun e=>hne (by rw[e];simp[Value.ownBlock])
   exact (setRow_far _ g _ k hk2).trans (setRow_far w.drew g _ k hk2),.inl (by simp[Value.ownBlock])⟩
 ·
  obtain⟨i0,hi0,hz0,hzs,hzb⟩:=info_parts infoSp
  have hc:c=rows.length:=by omega
  obtain⟨G,hG⟩:∃G,G=grownCap w (rows.length + 1) c 48:=⟨_,rfl⟩
  have hG0:rows.length + 1≤G:=by rw[hG];exact grownCap_ge w _ _ _
  have hGm:G≤maxLen:=by rw[hG];exact grownCap_le_maxLen w _ c _ (by unfold maxLen;omega)
  obtain⟨ROW,hROW⟩:∃R:Array Value,R=(rows.take i).flatten.toArray ++ Builtin.zeroCells (Value.cells (.agg #[.int .u64 0,.int .u8 0,.int .u64 0])) (rows.length + 1 - i) ++ Builtin.zeroCells (Value.cells (.agg #[.int .u64 0,.int .u8 0,.int .u64 0])) (G - (rows.length + 1)):=⟨_,rfl⟩
  have hzc:(Value.cells (.agg #[.int .u64 0,.int .u8 0,.int .u64 0])).size=3:=rfl
  have htl:(rows.take i).flatten.length=i * 3:=by rw[flat_len (fun y hy=>hcells.len y (List.mem_of_mem_take hy)),List.length_take,Nat.min_eq_left (by omega)]
  have hRs:ROW.size=G * 3:=by
   rw[hROW,Array.size_append,Array.size_append,zeroCells_len,zeroCells_len,hzc,List.size_toArray,htl];omega
  have hRF:ROW.toList.take (i * 3)=(rows.take i).flatten:=by
   rw[hROW,Array.toList_append,Array.toList_append,List.append_assoc,List.take_append_of_le_length (by rw[List.toList_toArray,htl];omega),List.toList_toArray,List.take_of_length_le (by omega)]
  have hold:(Builtin.firstCells i0.size i (.slice (some ⟨g,0,none⟩) i c)).run Tryz.prog w.drew=.ok (rows.take i).flatten.toArray w.drew:=by
   rw[hzs]
   exact run_firstCells_some w.drew 3 i ⟨g,0,none⟩ i c (rows.take i).flatten htl (fun j u hj=>by
    rw[show (⟨g,0,none⟩:Addr).add j=⟨g,j,none⟩ by unfold Addr.add;split <;> simp_all,blk_cell (w:=w.drew) hcb j]
    rw[←hF,List.getElem?_take] at hj
    split at hj
    ·rw[←Array.getElem?_toList];exact hj
    ·cases hj)
  have hik:i + (rows.length + 1 - i)=rows.length + 1:=by omega
  have hkk:(rows.length:Int) + 1 - (i:Int)=((rows.length + 1 - i:Nat):Int):=by omega
  have hrz:∀ty,(Builtin.append_ #[38,3] ty #[.slice (some ⟨g,0,none⟩) i c,.int .i64 ((rows.length:Int) + 1 - (i:Int))]).run Tryz.prog w=.ok (.slice (some ⟨w.heap.size,0,none⟩) (rows.length + 1) G) (w.drew.alloc (.cells ROW 48)):=fun ty=>by
   have h:=Lib.run_append_grow_zeros w 38 3 ty 48 i0 _ .i64 .i64 Tryz.underlying38 Tryz.underlying3 hi0 hz0 (some ⟨g,0,none⟩) i c (rows.take i).flatten hold (rows.length + 1 - i) (by omega) (by omega) (by omega) (by omega) (by rw[hzb];omega) (by rw[hzb,hik];exact growslice_fits (by omega) (by omega))
   rw[hik] at h
   rw[hkk,hG,hROW,hG]
   exact h
  obtain⟨L1,hL1⟩:∃L,L=spl ROW.toList (i * 3) x:=⟨_,rfl⟩
  obtain⟨L2,hL2⟩:∃L,L=spl L1 ((i + 1) * 3) (rows.drop i).flatten:=⟨_,rfl⟩
  have hRl:ROW.toList.length=G * 3:=by rw[Array.length_toList,hRs]
  have l1:L1.length=G * 3:=by rw[hL1,spl_len (by rw[hRl,hxl];omega),hRl]
  have l2:L2.length=G * 3:=by rw[hL2,spl_len (by rw[l1,hdl];omega),l1]
  have hcp1:∀(W:World) (g2:Nat),W.heap[g2]? =some (.cells ROW 48 (0,0))→W.heap[gx]? =some (.cells x.toArray 48 (0,0))→∀dc ty,(Builtin.copy_ #[38,38] ty #[.slice (some ⟨g2,i * 3,none⟩) (rows.length + 1 - i) dc,.slice (some ⟨gx,0,none⟩) 1 1]).run Tryz.prog W=.ok (goInt (Nat.min 1 (rows.length + 1 - i))) (W.setRow g2 L1.toArray):=fun W g2 hW hWx dc ty=>by
   have:=copy_run (P:=Tryz.prog) (W:=W) (dT:=38) (sT:=38) (elem:=48) Tryz.underlying38 hinf (g:=g2) (o:=i * 3) (dLen:=rows.length + 1 - i) (dCap:=dc) (sLen:=1) (sCap:=1) (a:=⟨gx,0,none⟩) x hW (by rw[hxl];show 3=min 1 (rows.length + 1 - i) * 3;omega) (fun j u hj=>by
    rw[show (⟨gx,0,none⟩:Addr).add j=⟨gx,j,none⟩ by unfold Addr.add;split <;> simp_all,blk_cell hWx]
    simpa using hj) (by rw[hxl,hRs];omega) hx1 ty
   rw[this,hL1];rfl
  have hcp2:∀(W:World) (g2:Nat),W.heap[g2]? =some (.cells L1.toArray 48 (0,0))→W.heap[g]? =some (.cells cur 48 (0,0))→∀dc sc ty,(Builtin.copy_ #[38,38] ty #[.slice (some ⟨g2,(i + 1) * 3,none⟩) (rows.length - i) dc,.slice (some ⟨g,i * 3,none⟩) (rows.length - i) sc]).run Tryz.prog W=.ok (goInt (Nat.min (rows.length - i) (rows.length - i))) (W.setRow g2 L2.toArray):=fun W g2 hW hWg dc sc ty=>by
   have:=copy_run (P:=Tryz.prog) (W:=W) (dT:=38) (sT:=38) (elem:=48) Tryz.underlying38 hinf (g:=g2) (o:=(i + 1) * 3) (dLen:=rows.length - i) (dCap:=dc) (sLen:=rows.length - i) (sCap:=sc) (a:=⟨g,i * 3,none⟩) (rows.drop i).flatten hW (by rw[hdl];show (rows.length - i) * 3=min (rows.length - i) (rows.length - i) * 3;omega) (fun j u hj=>by
    rw[show (⟨g,i * 3,none⟩:Addr).add j=⟨g,i * 3 + j,none⟩ by unfold Addr.add;split <;> simp_all,blk_cell hWg]
    exact hD j u hj) (by rw[hdl,List.size_toArray,l1];omega) hd1 ty
   rw[this,hL2];rfl
  have hend:L2.take ((rows.length + 1) * 3)=(rows.take i ++ [x] ++ rows.drop i).flatten:=by
   rw[hflat,hL2,hL1,show (i + 1) * 3=i * 3 + 3 by omega,show (rows.length + 1) * 3=i * 3 + 3 + (rows.drop i).flatten.length by rw[hdl];omega]
   exact (spl_two hRF hxl (by rw[hdl,hRl];omega)).1
  have HRZ:=As hrz
  have HC1:=As hcp1
  have HC2:=As hcp2
  have HE:=As hend
  have HX:=As hx
  have HCB:=As hcb
  have HL2:=As l2
  have HNL:=As hnl
  have HCX:=As hcx
  have HB:=As hB
  have HGX:=As (blk_lt hx)
  have HC:=As hc
  have hgt:decide ((c:Int) < (rows.length:Int) + 1)=true:=decide_eq_true (by omega)
  have hci:¬c=i:=by omega
  have hgi:¬G=i:=by omega
  have hgi1:¬G=i + 1:=by omega
  have hGl:G≤9223372036854775807:=by unfold maxLen at hGm;omega
  clear hL1 hL2 l1 l2 hcp1 hcp2 hend hx hcb hne hnl hcx hflat hdl hF hD hd1 hinf hxs hct hcs hcells hr hB hG hROW hzc htl hRs hRF hold hik hkk hrz hRl hc hi0 hz0 hzs hzb hroom
  go_enter Tryz.func74,Tryz.ntmps74
  go_wp2_with (first|((with_reducible refine gate_builtin (b:=.append) (xs:=#[.tmp 34,.tmp 39]) rfl ?_);at_builtin;refine Lib.wpList_append_run _ rfl _ _ _ _ rfl _ _ rfl rfl _ _ (HRZ.out _) ?_;have HR2:Aside0 ((w.drew.alloc (.cells ROW 48)).heap[w.heap.size]? =some (.cells ROW 48 (0,0))):=⟨blk_new w.drew (.cells ROW 48)⟩;have HW:=As (below_alloc (below_drew1 (Below.refl w.heap.size w)) (.cells ROW 48));generalize w.drew.alloc (.cells ROW 48)=W1 at HR2 HW ⊢)|((with_reducible refine gate_builtin (b:=.copy) (xs:=#[.tmp 43,.tmp 44]) rfl ?_);refine copy_event rfl _ _ _ _ rfl _ _ (by rfl) (by rfl) (fun ty=>HC1.out W1 w.heap.size HR2.out ((HW.out.block gx HGX.out).trans HX.out) _ ty) ?_;have HR3:Aside0 ((W1.setRow w.heap.size L1.toArray).heap[w.heap.size]? =some (.cells L1.toArray 48 (0,0))):=⟨setRow_heap W1 _ ROW _ _ _ HR2.out⟩;have HG3:Aside0 ((W1.setRow w.heap.size L1.toArray).heap[g]? =some (.cells cur 48 (0,0))):=⟨(setRow_far W1 _ _ g (by omega)).trans ((HW.out.block g hgl).trans HCB.out)⟩;have HW3:=As (pw_below_grown HW.out _ (below_size HW.out) (setRow_grown W1 w.heap.size L1.toArray) (fun k hk=>by injection hk with hk;subst hk;exact Nat.le_refl _));clear HR2 HW;generalize W1.setRow w.heap.size L1.toArray=W2 at HR3 HG3 HW3 ⊢))
  have hw1:IntKind.i64.wrap ((i:Int) + 1)=(i:Int) + 1:=by rw[IntKind.wrap_i64];omega
  have hb1:(0:Int)≤(i:Int) + 1:=by omega
  have hin:i≤rows.length:=by omega
  have htn:((i:Int) + 1).toNat=i + 1:=by omega
  have hb3:(i:Int)≤(rows.length:Int) + 1:=by omega
  have hb5:i≤rows.length + 1:=by omega
  go_region_law (refine copy_step rfl (.tmp 50) (.tmp 53) 38 38 rfl (.slice (some ⟨w.heap.size,(i + 1) * 3,none⟩) (rows.length - i) (G - (i + 1))) (.slice (some ⟨g,i * 3,none⟩) (rows.length - i) (c - i)) (by simp[Act.eval,Act.put]) (by simp[Act.eval,Act.put]) (fun ty=>HC2.out W2.drew w.heap.size HR3.out HG3.out _ _ ty) ?_)
  go_wp2
  go_ret
  have hR:Kd.R (Kd.raw 3) 48 (W2.drew.setRow w.heap.size L2.toArray) w0.heap.size (fun _=>True) (.slice (some ⟨w.heap.size,0,none⟩) (rows.take i ++ [x] ++ rows.drop i).length G) (rows.take i ++ [x] ++ rows.drop i):=
   raw_close HCX.out (setRow_heap _ _ L1.toArray _ _ _ HR3.out) (by rw[HNL.out];exact hG0) hGm (by rw[List.size_toArray,HL2.out]) (by rw[HNL.out];exact HE.out) HB.out.size trivial
  have hb1:=below_drew1 (below_step HB.out HW3.out)
  exact⟨_,by rw[HNL.out];rfl,hR,pw_below_grown hb1 _ (below_size hb1) (setRow_grown _ _ L2.toArray) (fun k hk=>by injection hk with hk;subst hk;exact HB.out.size),fun k hk hne=>(setRow_far _ _ _ k (by omega)).trans (HW3.out.block k hk),.inr ⟨_,rfl,Nat.le_refl _⟩⟩
set_option maxHeartbeats 8000000 in
set_option maxRecDepth 100000 in
theorem insSn_end (gx:Nat) (x:List Value) (v:Value) (rows:List (List Value)) (w0 w:World) (hB:Below w0.heap.size w0 w) (hr:Kd.R (Kd.raw 8) 51 w w0.heap.size (fun _=>True) v rows) (hx:w.heap[gx]? =some (.cells x.toArray 51 (0,0))) (hxl:x.length=8) (hx1:∀u∈x,u.oneCell'=true) (hlen:rows.length < 1000000):
  Calls Tryz.prog 100 #[v,.int .i64 (rows.length:Int),.slice (some ⟨gx,0,none⟩) 1 1] w fun e w'=>∃v':Value,e=.returned v'∧Kd.R (Kd.raw 8) 51 w' w0.heap.size (fun _=>True) v' (rows ++ [x])∧Below w0.heap.size w0 w'∧(∀k,k < w.heap.size→some k≠v.ownBlock→w'.heap[k]? =w.heap[k]?)∧(v'.ownBlock=v.ownBlock∨∃b,v'.ownBlock=some b∧w.heap.size≤b):=by
 have hue:=Tryz.underlying51
 obtain⟨A,c,rfl⟩:=Kd.R_slice hr
 obtain⟨hn,hnc,hC⟩:=Kd.R_reads' hr
 have hxr:ReadsRow ((Kd.raw 8).K w) 8 w (some ⟨gx,0,none⟩) 1 [x]:=by
  refine⟨rfl,by decide,fun _=>⟨_,rfl,fun j p hj=>?_⟩⟩
  match j,hj with
  |0,hj=>
   have hp:x=p:=by simpa using hj
   subst hp
   refine⟨x,hxl,⟨rfl,hxl,hx1⟩,fun i u hu=>?_⟩
   rw[Nat.zero_mul,Nat.zero_add,show (⟨gx,0,none⟩:Addr).add i=⟨gx,i,none⟩ by unfold Addr.add;split <;> simp_all,blk_cell hx]
   simpa using hu
 have HR:=As hr
 have HX:=As hxr
 have HB:=As hB
 have HLN:=As hlen
 have hl1:rows.length≤1000000:=by omega
 have hm1:((rows.length:Int) == (rows.length:Int))=true:=beq_self_eq_true _
 clear hr hx hxr hB hlen hC hn
 go_enter Tryz.func100,Tryz.ntmps100
 go_wp2_with (first|((with_reducible refine gate_builtin (b:=.append) (xs:=#[.tmp 23,.tmp 24]) rfl ?_);at_builtin;refine Kd.R_append_rows (Kd.raw 8) (w0:=w0) w0.heap.size rfl (.tmp 23) (.tmp 24) 32 51 (.agg #[.int .i64 0,.int .i64 0,.int .i64 0,.int .i64 0,.slice none 0 0,.int .i64 0,.slice none 0 0,.bool false]) 96 rfl Tryz.underlying32 infoSn rfl (by decide) (by omega) (.slice A rows.length c) rows [x] _ _ _ (fun _=>True) (fun _=>False) rfl rfl ?aO HX.out (fun _ _ h=>h) (fun _ h=>h.elim) (fun _ _=>trivial) ?aB ?aS ?aL ?_;(case aO=>exact HR.out);(case aB=>exact HB.out);(case aS=>exact (below_size HB.out));(case aL=>omega);intro v2 w2 ho2 hb2 hg2 hat2;have HG2:=As hg2;have HAT2:=As hat2;clear hg2 hat2;have HO2:=As ho2;have HB2:=As hb2;clear ho2 hb2))
 all_goals (go_ret;exact⟨_,rfl,HO2.out,HB2.out,fun k hk hne=>HG2.out.block k hk (fun e=>hne (e.trans (by cases A <;> rfl))),HAT2.out.imp (fun e=>e.trans (by cases A <;> rfl)) (fun e=>e)⟩)
set_option maxHeartbeats 8000000 in
set_option maxRecDepth 100000 in
theorem insSn_mid (gx i:Nat) (x:List Value) (v:Value) (rows:List (List Value)) (w0 w:World) (hi:i < rows.length) (hB:Below w0.heap.size w0 w) (hr:Kd.R (Kd.raw 8) 51 w w0.heap.size (fun k=>k≠gx) v rows) (hx:w.heap[gx]? =some (.cells x.toArray 51 (0,0))) (hxl:x.length=8) (hx1:∀u∈x,u.oneCell'=true) (hlen:rows.length < 1000000):
  Calls Tryz.prog 100 #[v,.int .i64 (i:Int),.slice (some ⟨gx,0,none⟩) 1 1] w fun e w'=>∃v':Value,e=.returned v'∧Kd.R (Kd.raw 8) 51 w' w0.heap.size (fun _=>True) v' (rows.take i ++ [x] ++ rows.drop i)∧Below w0.heap.size w0 w'∧(∀k,k < w.heap.size→some k≠v.ownBlock→w'.heap[k]? =w.heap[k]?)∧(v'.ownBlock=v.ownBlock∨∃b,v'.ownBlock=some b∧w.heap.size≤b):=by
 have hue:=Tryz.underlying51
 obtain⟨g,c,rfl,hgb,hgl, -⟩:=Kd.R_form hr (by omega)
 obtain⟨cur,hcb, -,hnc,hcm,hcs,hct, -,hne⟩:=raw_open (by decide) hr
 have hcells:=raw_cells hr
 have hcx:Cells 8 (rows.take i ++ [x] ++ rows.drop i):=fun y hy=>by
  rcases List.mem_append.1 hy with hy|hy
  ·rcases List.mem_append.1 hy with hy|hy
   ·exact hcells y (List.mem_of_mem_take hy)
   ·rw[List.mem_singleton.1 hy];exact⟨hxl,hx1⟩
  ·exact hcells y (List.mem_of_mem_drop hy)
 have hflat:(rows.take i ++ [x] ++ rows.drop i).flatten=(rows.take i).flatten ++ x ++ (rows.drop i).flatten:=by simp
 have hnl:(rows.take i ++ [x] ++ rows.drop i).length=rows.length + 1:=by simp;omega
 have hdl:(rows.drop i).flatten.length=(rows.length - i) * 8:=by rw[flat_len (fun y hy=>hcells.len y (List.mem_of_mem_drop hy)),List.length_drop]
 have hF:cur.toList.take (i * 8)=(rows.take i).flatten:=by rw[flat_take i hcells.len,←hct,List.take_take,Nat.min_eq_left (by omega)]
 have hD:∀j u,(rows.drop i).flatten[j]? =some u→cur[i * 8 + j]? =some u:=fun j u hj=>by
  rw[flat_drop i hcells.len,←hct,List.getElem?_drop,List.getElem?_take] at hj
  split at hj
  ·rw[←Array.getElem?_toList];exact hj
  ·cases hj
 have hd1:∀u∈(rows.drop i).flatten,u.oneCell'=true:=(hcells.sub (fun y hy=>List.mem_of_mem_drop hy)).one
 have hinf:(Tryz.prog.info? 51).map (·.size)=some 8:=by
  obtain⟨i0,h0,_,h2,_⟩:=info_parts infoSn
  rw[h0];simp[h2]
 have hm2:decide (i=rows.length)=false:=decide_eq_false (by omega)
 have hm3:((i:Int) == (rows.length:Int))=false:=beq_eq_false_iff_ne.mpr (by omega)
 have hl1:rows.length≤1000000:=by omega
 have hxs:∀j u,x[j]? =some u→w.cell? ((⟨gx,0,none⟩:Addr).add j)=some u:=fun j u hj=>by
  rw[show (⟨gx,0,none⟩:Addr).add j=⟨gx,j,none⟩ by unfold Addr.add;split <;> simp_all,blk_cell hx]
  simpa using hj
 by_cases hroom:rows.length + 1≤c
 ·
  have hov:∀lb cb,(callFunc 119 #[.slice (some ⟨gx,0,none⟩) 1 1,.slice (some ⟨g,(i + 1) * 8,none⟩) lb cb]).run Tryz.prog w=.ok (.value (.bool false)) w:=fun lb cb=>by
   rw[run_callFunc_extern Tryz.func119 (by kernel_rfl) (by kernel_rfl) (by kernel_rfl) (e:=Extern.SlicesOverlaps.overlaps #[32,32] #[4]) (by kernel_rfl),
    Lib.run_overlaps_apart w 32 4 51 Tryz.underlying32 8 Tryz.sizeOf51 ⟨gx,0,none⟩ ⟨g,(i + 1) * 8,none⟩ 1 1 lb cb (Ne.symm hne) 51 51 x.toArray.size cur.size (by simp[World.shape?,hx]) (by simp[World.shape?,hcb]) (by rw[hcs];omega) (blk_frozen hx _) (blk_frozen hx _)]
   rfl
  obtain⟨L1,hL1⟩:∃L,L=spl cur.toList ((i + 1) * 8) (rows.drop i).flatten:=⟨_,rfl⟩
  obtain⟨L2,hL2⟩:∃L,L=spl L1 (i * 8) x:=⟨_,rfl⟩
  have hcl:cur.toList.length=c * 8:=by rw[Array.length_toList,hcs]
  have l1:L1.length=c * 8:=by rw[hL1,spl_len (by rw[hcl,hdl];omega),hcl]
  have l2:L2.length=c * 8:=by rw[hL2,spl_len (by rw[l1,hxl];omega),l1]
  have hcp1:∀(W:World),W.heap[g]? =some (.cells cur 51 (0,0))→∀dc sc ty,(Builtin.copy_ #[32,32] ty #[.slice (some ⟨g,(i + 1) * 8,none⟩) (rows.length - i) dc,.slice (some ⟨g,i * 8,none⟩) (rows.length + 1 - i) sc]).run Tryz.prog W=.ok (goInt (Nat.min (rows.length + 1 - i) (rows.length - i))) (W.setRow g L1.toArray):=fun W hW dc sc ty=>by
   have:=copy_run (P:=Tryz.prog) (W:=W) (dT:=32) (sT:=32) (elem:=51) Tryz.underlying32 hinf (g:=g) (o:=(i + 1) * 8) (dLen:=rows.length - i) (dCap:=dc) (sLen:=rows.length + 1 - i) (sCap:=sc) (a:=⟨g,i * 8,none⟩) (rows.drop i).flatten hW (by rw[hdl];show (rows.length - i) * 8=min (rows.length + 1 - i) (rows.length - i) * 8;omega) (fun j u hj=>by
    rw[show (⟨g,i * 8,none⟩:Addr).add j=⟨g,i * 8 + j,none⟩ by unfold Addr.add;split <;> simp_all,blk_cell hW]
    exact hD j u hj) (by rw[hdl,hcs];omega) hd1 ty
   rw[this,hL1];rfl
  have hcp2:∀(W:World),W.heap[g]? =some (.cells L1.toArray 51 (0,0))→W.heap[gx]? =some (.cells x.toArray 51 (0,0))→∀dc ty,(Builtin.copy_ #[32,32] ty #[.slice (some ⟨g,i * 8,none⟩) (rows.length + 1 - i) dc,.slice (some ⟨gx,0,none⟩) 1 1]).run Tryz.prog W=.ok (goInt (Nat.min 1 (rows.length + 1 - i))) (W.setRow g L2.toArray):=fun W hW hWx dc ty=>by
   have:=copy_run (P:=Tryz.prog) (W:=W) (dT:=32) (sT:=32) (elem:=51) Tryz.underlying32 hinf (g:=g) (o:=i * 8) (dLen:=rows.length + 1 - i) (dCap:=dc) (sLen:=1) (sCap:=1) (a:=⟨gx,0,none⟩) x hW (by rw[hxl];show 8=min 1 (rows.length + 1 - i) * 8;omega) (fun j u hj=>by
    rw[show (⟨gx,0,none⟩:Addr).add j=⟨gx,j,none⟩ by unfold Addr.add;split <;> simp_all,blk_cell hWx]
    simpa using hj) (by rw[hxl,List.size_toArray,l1];omega) hx1 ty
   rw[this,hL2];rfl
  have hend:L2.take ((rows.length + 1) * 8)=(rows.take i ++ [x] ++ rows.drop i).flatten:=by
   rw[hflat,hL2,hL1,show (i + 1) * 8=i * 8 + 8 by omega,show (rows.length + 1) * 8=i * 8 + 8 + (rows.drop i).flatten.length by rw[hdl];omega]
   exact (spl_two hF hxl (by rw[hdl,hcl];omega)).2
  have HC1:=As hcp1
  have HC2:=As hcp2
  have HOV:=As hov
  have HE:=As hend
  have HX:=As hx
  have HCB:=As hcb
  have HNE:=As hne
  have HL2:=As l2
  have HNL:=As hnl
  have HCX:=As hcx
  have hgt:decide ((c:Int) < (rows.length:Int) + 1)=false:=decide_eq_false (by omega)
  have hci:¬c=i:=by omega
  have hci1:¬c=i + 1:=by omega
  have HB:=As hB
  clear hL1 hL2 l1 l2 hcl hcp1 hcp2 hend hov hx hcb hne hnl hcx hflat hdl hF hD hd1 hinf hxs hct hcs hcells hr hB
  go_enter Tryz.func100,Tryz.ntmps100
  go_wp2_with (simp only[HOV.out])
  have hw1:IntKind.i64.wrap ((i:Int) + 1)=(i:Int) + 1:=by rw[IntKind.wrap_i64];omega
  have hb1:(0:Int)≤(i:Int) + 1:=by omega
  have hin:i≤rows.length:=by omega
  have htn:((i:Int) + 1).toNat=i + 1:=by omega
  have hb3:(i:Int)≤(rows.length:Int) + 1:=by omega
  have hb5:i≤rows.length + 1:=by omega
  go_region_law (refine copy_step rfl (.tmp 73) (.tmp 76) 32 32 rfl (.slice (some ⟨g,(i + 1) * 8,none⟩) (rows.length - i) (c - (i + 1))) (.slice (some ⟨g,i * 8,none⟩) (rows.length + 1 - i) (c - i)) (by simp[Act.eval,Act.put]) (by simp[Act.eval,Act.put]) (fun ty=>HC1.out w.drew HCB.out _ _ ty) ?_)
  go_wp2_with (first|((with_reducible refine gate_builtin (b:=.copy) (xs:=#[.tmp 80,.tmp 81]) rfl ?_);refine copy_event rfl _ _ _ _ rfl _ _ (by rfl) (by rfl) (fun ty=>HC2.out (w.drew.setRow g L1.toArray) (setRow_heap w.drew g cur L1.toArray _ _ HCB.out) ((setRow_far w.drew g _ gx HNE.out.symm).trans HX.out) _ ty) ?_))
  go_ret
  have hR:Kd.R (Kd.raw 8) 51 ((w.drew.setRow g L1.toArray).setRow g L2.toArray) w0.heap.size (fun _=>True) (.slice (some ⟨g,0,none⟩) (rows.take i ++ [x] ++ rows.drop i).length c) (rows.take i ++ [x] ++ rows.drop i):=
   raw_close HCX.out (setRow_heap _ g L1.toArray _ _ _ (setRow_heap w.drew g cur L1.toArray _ _ HCB.out)) (by rw[HNL.out];omega) hcm (by rw[List.size_toArray,HL2.out]) (by rw[HNL.out];exact HE.out) hgb trivial
  have hb0:=below_drew1 HB.out
  have hb1:=pw_below_grown hb0 _ (below_size hb0) (setRow_grown w.drew g L1.toArray) (fun k hk=>by injection hk with hk;subst hk;exact hgb)
  exact⟨_,by rw[HNL.out];rfl,hR,pw_below_grown hb1 _ (below_size hb1) (setRow_grown _ g L2.toArray) (fun k hk=>by injection hk with hk;subst hk;exact hgb),fun k hk hne=>by
   have hk2:k≠g:=fun e=>hne (by rw[e];simp[Value.ownBlock])
   exact (setRow_far _ g _ k hk2).trans (setRow_far w.drew g _ k hk2),.inl (by simp[Value.ownBlock])⟩
 ·
  obtain⟨i0,hi0,hz0,hzs,hzb⟩:=info_parts infoSn
  have hc:c=rows.length:=by omega
  obtain⟨G,hG⟩:∃G,G=grownCap w (rows.length + 1) c 51:=⟨_,rfl⟩
  have hG0:rows.length + 1≤G:=by rw[hG];exact grownCap_ge w _ _ _
  have hGm:G≤maxLen:=by rw[hG];exact grownCap_le_maxLen w _ c _ (by unfold maxLen;omega)
  obtain⟨ROW,hROW⟩:∃R:Array Value,R=(rows.take i).flatten.toArray ++ Builtin.zeroCells (Value.cells (.agg #[.int .i64 0,.int .i64 0,.int .i64 0,.int .i64 0,.slice none 0 0,.int .i64 0,.slice none 0 0,.bool false])) (rows.length + 1 - i) ++ Builtin.zeroCells (Value.cells (.agg #[.int .i64 0,.int .i64 0,.int .i64 0,.int .i64 0,.slice none 0 0,.int .i64 0,.slice none 0 0,.bool false])) (G - (rows.length + 1)):=⟨_,rfl⟩
  have hzc:(Value.cells (.agg #[.int .i64 0,.int .i64 0,.int .i64 0,.int .i64 0,.slice none 0 0,.int .i64 0,.slice none 0 0,.bool false])).size=8:=rfl
  have htl:(rows.take i).flatten.length=i * 8:=by rw[flat_len (fun y hy=>hcells.len y (List.mem_of_mem_take hy)),List.length_take,Nat.min_eq_left (by omega)]
  have hRs:ROW.size=G * 8:=by
   rw[hROW,Array.size_append,Array.size_append,zeroCells_len,zeroCells_len,hzc,List.size_toArray,htl];omega
  have hRF:ROW.toList.take (i * 8)=(rows.take i).flatten:=by
   rw[hROW,Array.toList_append,Array.toList_append,List.append_assoc,List.take_append_of_le_length (by rw[List.toList_toArray,htl];omega),List.toList_toArray,List.take_of_length_le (by omega)]
  have hold:(Builtin.firstCells i0.size i (.slice (some ⟨g,0,none⟩) i c)).run Tryz.prog w.drew=.ok (rows.take i).flatten.toArray w.drew:=by
   rw[hzs]
   exact run_firstCells_some w.drew 8 i ⟨g,0,none⟩ i c (rows.take i).flatten htl (fun j u hj=>by
    rw[show (⟨g,0,none⟩:Addr).add j=⟨g,j,none⟩ by unfold Addr.add;split <;> simp_all,blk_cell (w:=w.drew) hcb j]
    rw[←hF,List.getElem?_take] at hj
    split at hj
    ·rw[←Array.getElem?_toList];exact hj
    ·cases hj)
  have hik:i + (rows.length + 1 - i)=rows.length + 1:=by omega
  have hkk:(rows.length:Int) + 1 - (i:Int)=((rows.length + 1 - i:Nat):Int):=by omega
  have hrz:∀ty,(Builtin.append_ #[32,3] ty #[.slice (some ⟨g,0,none⟩) i c,.int .i64 ((rows.length:Int) + 1 - (i:Int))]).run Tryz.prog w=.ok (.slice (some ⟨w.heap.size,0,none⟩) (rows.length + 1) G) (w.drew.alloc (.cells ROW 51)):=fun ty=>by
   have h:=Lib.run_append_grow_zeros w 32 3 ty 51 i0 _ .i64 .i64 Tryz.underlying32 Tryz.underlying3 hi0 hz0 (some ⟨g,0,none⟩) i c (rows.take i).flatten hold (rows.length + 1 - i) (by omega) (by omega) (by omega) (by omega) (by rw[hzb];omega) (by rw[hzb,hik];exact growslice_fits (by omega) (by omega))
   rw[hik] at h
   rw[hkk,hG,hROW,hG]
   exact h
  obtain⟨L1,hL1⟩:∃L,L=spl ROW.toList (i * 8) x:=⟨_,rfl⟩
  obtain⟨L2,hL2⟩:∃L,L=spl L1 ((i + 1) * 8) (rows.drop i).flatten:=⟨_,rfl⟩
  have hRl:ROW.toList.length=G * 8:=by rw[Array.length_toList,hRs]
  have l1:L1.length=G * 8:=by rw[hL1,spl_len (by rw[hRl,hxl];omega),hRl]
  have l2:L2.length=G * 8:=by rw[hL2,spl_len (by rw[l1,hdl];omega),l1]
  have hcp1:∀(W:World) (g2:Nat),W.heap[g2]? =some (.cells ROW 51 (0,0))→W.heap[gx]? =some (.cells x.toArray 51 (0,0))→∀dc ty,(Builtin.copy_ #[32,32] ty #[.slice (some ⟨g2,i * 8,none⟩) (rows.length + 1 - i) dc,.slice (some ⟨gx,0,none⟩) 1 1]).run Tryz.prog W=.ok (goInt (Nat.min 1 (rows.length + 1 - i))) (W.setRow g2 L1.toArray):=fun W g2 hW hWx dc ty=>by
   have:=copy_run (P:=Tryz.prog) (W:=W) (dT:=32) (sT:=32) (elem:=51) Tryz.underlying32 hinf (g:=g2) (o:=i * 8) (dLen:=rows.length + 1 - i) (dCap:=dc) (sLen:=1) (sCap:=1) (a:=⟨gx,0,none⟩) x hW (by rw[hxl];show 8=min 1 (rows.length + 1 - i) * 8;omega) (fun j u hj=>by
    rw[show (⟨gx,0,none⟩:Addr).add j=⟨gx,j,none⟩ by unfold Addr.add;split <;> simp_all,blk_cell hWx]
    simpa using hj) (by rw[hxl,hRs];omega) hx1 ty
   rw[this,hL1];rfl
  have hcp2:∀(W:World) (g2:Nat),W.heap[g2]? =some (.cells L1.toArray 51 (0,0))→W.heap[g]? =some (.cells cur 51 (0,0))→∀dc sc ty,(Builtin.copy_ #[32,32] ty #[.slice (some ⟨g2,(i + 1) * 8,none⟩) (rows.length - i) dc,.slice (some ⟨g,i * 8,none⟩) (rows.length - i) sc]).run Tryz.prog W=.ok (goInt (Nat.min (rows.length - i) (rows.length - i))) (W.setRow g2 L2.toArray):=fun W g2 hW hWg dc sc ty=>by
   have:=copy_run (P:=Tryz.prog) (W:=W) (dT:=32) (sT:=32) (elem:=51) Tryz.underlying32 hinf (g:=g2) (o:=(i + 1) * 8) (dLen:=rows.length - i) (dCap:=dc) (sLen:=rows.length - i) (sCap:=sc) (a:=⟨g,i * 8,none⟩) (rows.drop i).flatten hW (by rw[hdl];show (rows.length - i) * 8=min (rows.length - i) (rows.length - i) * 8;omega) (fun j u hj=>by
    rw[show (⟨g,i * 8,none⟩:Addr).add j=⟨g,i * 8 + j,none⟩ by unfold Addr.add;split <;> simp_all,blk_cell hWg]
    exact hD j u hj) (by rw[hdl,List.size_toArray,l1];omega) hd1 ty
   rw[this,hL2];rfl
  have hend:L2.take ((rows.length + 1) * 8)=(rows.take i ++ [x] ++ rows.drop i).flatten:=by
   rw[hflat,hL2,hL1,show (i + 1) * 8=i * 8 + 8 by omega,show (rows.length + 1) * 8=i * 8 + 8 + (rows.drop i).flatten.length by rw[hdl];omega]
   exact (spl_two hRF hxl (by rw[hdl,hRl];omega)).1
  have HRZ:=As hrz
  have HC1:=As hcp1
  have HC2:=As hcp2
  have HE:=As hend
  have HX:=As hx
  have HCB:=As hcb
  have HL2:=As l2
  have HNL:=As hnl
  have HCX:=As hcx
  have HB:=As hB
  have HGX:=As (blk_lt hx)
  have HC:=As hc
  have hgt:decide ((c:Int) < (rows.length:Int) + 1)=true:=decide_eq_true (by omega)
  have hci:¬c=i:=by omega
  have hgi:¬G=i:=by omega
  have hgi1:¬G=i + 1:=by omega
  have hGl:G≤9223372036854775807:=by unfold maxLen at hGm;omega
  clear hL1 hL2 l1 l2 hcp1 hcp2 hend hx hcb hne hnl hcx hflat hdl hF hD hd1 hinf hxs hct hcs hcells hr hB hG hROW hzc htl hRs hRF hold hik hkk hrz hRl hc hi0 hz0 hzs hzb hroom
  go_enter Tryz.func100,Tryz.ntmps100
  go_wp2_with (first|((with_reducible refine gate_builtin (b:=.append) (xs:=#[.tmp 34,.tmp 39]) rfl ?_);at_builtin;refine Lib.wpList_append_run _ rfl _ _ _ _ rfl _ _ rfl rfl _ _ (HRZ.out _) ?_;have HR2:Aside0 ((w.drew.alloc (.cells ROW 51)).heap[w.heap.size]? =some (.cells ROW 51 (0,0))):=⟨blk_new w.drew (.cells ROW 51)⟩;have HW:=As (below_alloc (below_drew1 (Below.refl w.heap.size w)) (.cells ROW 51));generalize w.drew.alloc (.cells ROW 51)=W1 at HR2 HW ⊢)|((with_reducible refine gate_builtin (b:=.copy) (xs:=#[.tmp 43,.tmp 44]) rfl ?_);refine copy_event rfl _ _ _ _ rfl _ _ (by rfl) (by rfl) (fun ty=>HC1.out W1 w.heap.size HR2.out ((HW.out.block gx HGX.out).trans HX.out) _ ty) ?_;have HR3:Aside0 ((W1.setRow w.heap.size L1.toArray).heap[w.heap.size]? =some (.cells L1.toArray 51 (0,0))):=⟨setRow_heap W1 _ ROW _ _ _ HR2.out⟩;have HG3:Aside0 ((W1.setRow w.heap.size L1.toArray).heap[g]? =some (.cells cur 51 (0,0))):=⟨(setRow_far W1 _ _ g (by omega)).trans ((HW.out.block g hgl).trans HCB.out)⟩;have HW3:=As (pw_below_grown HW.out _ (below_size HW.out) (setRow_grown W1 w.heap.size L1.toArray) (fun k hk=>by injection hk with hk;subst hk;exact Nat.le_refl _));clear HR2 HW;generalize W1.setRow w.heap.size L1.toArray=W2 at HR3 HG3 HW3 ⊢))
  have hw1:IntKind.i64.wrap ((i:Int) + 1)=(i:Int) + 1:=by rw[IntKind.wrap_i64];omega
  have hb1:(0:Int)≤(i:Int) + 1:=by omega
  have hin:i≤rows.length:=by omega
  have htn:((i:Int) + 1).toNat=i + 1:=by omega
  have hb3:(i:Int)≤(rows.length:Int) + 1:=by omega
  have hb5:i≤rows.length + 1:=by omega
  go_region_law (refine copy_step rfl (.tmp 50) (.tmp 53) 32 32 rfl (.slice (some ⟨w.heap.size,(i + 1) * 8,none⟩) (rows.length - i) (G - (i + 1))) (.slice (some ⟨g,i * 8,none⟩) (rows.length - i) (c - i)) (by simp[Act.eval,Act.put]) (by simp[Act.eval,Act.put]) (fun ty=>HC2.out W2.drew w.heap.size HR3.out HG3.out _ _ ty) ?_)
  go_wp2
  go_ret
  have hR:Kd.R (Kd.raw 8) 51 (W2.drew.setRow w.heap.size L2.toArray) w0.heap.size (fun _=>True) (.slice (some ⟨w.heap.size,0,none⟩) (rows.take i ++ [x] ++ rows.drop i).length G) (rows.take i ++ [x] ++ rows.drop i):=
   raw_close HCX.out (setRow_heap _ _ L1.toArray _ _ _ HR3.out) (by rw[HNL.out];exact hG0) hGm (by rw[List.size_toArray,HL2.out]) (by rw[HNL.out];exact HE.out) HB.out.size trivial
  have hb1:=below_drew1 (below_step HB.out HW3.out)
  exact⟨_,by rw[HNL.out];rfl,hR,pw_below_grown hb1 _ (below_size hb1) (setRow_grown _ _ L2.toArray) (fun k hk=>by injection hk with hk;subst hk;exact HB.out.size),fun k hk hne=>(setRow_far _ _ _ k (by omega)).trans (HW3.out.block k hk),.inr ⟨_,rfl,Nat.le_refl _⟩⟩
end Go.Proofs.YtmmfchnbfnegnaaGreatDoor.K
