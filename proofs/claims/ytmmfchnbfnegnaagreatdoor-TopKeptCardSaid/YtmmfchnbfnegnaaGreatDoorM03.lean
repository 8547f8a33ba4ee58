import Derived.Test.YtmmfchnbfnegnaaGreatDoorM02
import Derived.Test.YtmmfchnbfnegnaaGreatDoorM01
section
namespace Go.Proofs.YtmmfchnbfnegnaaGreatDoorW.PrintLast
open Go.Proofs.YtmmfchnbfnegnaaGreatDoorW.PrintWords (Aside0)
def needsOf (md:Region.Mode) (o:Oper):List Nat:=(o.after.toList.filter (fun e=>Region.binds md e)).map (fun e=>e.on)
def clashOf (md:Region.Mode) (ops:Array Oper) (i:Nat) (oi:Oper):List Nat:=(List.range ops.size).filter fun j=>!(j == i) && match ops[j]? with
 |some oj=>!(oj.after.any (fun e=>Region.binds md e && e.on == i) || oi.apart ops oj)
 |none=>false
def rtab (md:Region.Mode) (ops:Array Oper):Bool×List (List Nat×List Nat):=(Region.noSelect ops,(List.range ops.size).map fun i=>match ops[i]? with
 |some o=>(needsOf md o,clashOf md ops i o)
 |none=>([],[]))
def readyAt (T:List (List Nat×List Nat)) (l:List Bool) (i:Nat):Bool:=!l.getD i true && match T[i]? with
 |some r=>r.1.all (fun j=>l.getD j false)
 |none=>false
def readyT (T:List (List Nat×List Nat)) (l:List Bool):List Nat:=(List.range T.length).filter (readyAt T l)
def freeT (T:List (List Nat×List Nat)) (l:List Bool) (i:Nat):Bool:=match T[i]? with
 |some r=>r.2.all (fun j=>l.getD j true)
 |none=>false
def closedT (T:List (List Nat×List Nat)) (l:List Bool):Bool:=(List.range T.length).all fun j=>!l.getD j false || match T[j]? with
 |some r=>r.1.all (fun k=>l.getD k false)
 |none=>true
def reachT (T:List (List Nat×List Nat)) (i:Nat):Nat→Nat→Bool
 |0,_=>false
 |fuel + 1,d=>match T[d]? with
  |some r=>r.1.any fun j=>j == i || reachT T i fuel j
  |none=>false
def lastT (T:List (List Nat×List Nat)) (l:List Bool) (ds:List Nat) (i:Nat):Bool:=ds.all fun d=>l.getD d true || reachT T i T.length d
section
variable {md:Region.Mode} {ops:Array Oper} {T:Bool×List (List Nat×List Nat)} {l l' li lj lk:Array Bool} {ds:List Nat} {i j k:Nat}
theorem gd (l:Array Bool) (j:Nat) (b:Bool):l.getD j b=l.toList.getD j b:=by simp[Array.getD_eq_getD_getElem?,List.getD_eq_getElem?_getD]
theorem needs_all (o:Oper) (p:Nat→Bool):o.after.all (fun e=>!Region.binds md e || p e.on)=(needsOf md o).all p:=by
 unfold needsOf
 rw[←Array.all_toList]
 induction o.after.toList with
 |nil=>rfl
 |cons e r ih=>
  rw[List.all_cons,ih,List.filter_cons]
  cases h:Region.binds md e <;> simp
theorem needs_any (o:Oper) (p:Nat→Bool):o.after.any (fun e=>Region.binds md e && p e.on)=(needsOf md o).any p:=by
 unfold needsOf
 rw[←Array.any_toList]
 induction o.after.toList with
 |nil=>rfl
 |cons e r ih=>
  rw[List.any_cons,ih,List.filter_cons]
  cases h:Region.binds md e <;> simp
theorem rtab_length:(rtab md ops).2.length=ops.size:=by simp[rtab]
theorem rtab_some {o:Oper} (h:ops[i]? =some o):(rtab md ops).2[i]? =some (needsOf md o,clashOf md ops i o):=by
 have hi:=(Array.getElem?_eq_some_iff.1 h).1
 unfold rtab
 rw[List.getElem?_map,List.getElem?_range hi,Option.map_some,h]
theorem rtab_none (h:ops[i]? =none):(rtab md ops).2[i]? =none:=by
 have hi:ops.size≤i:=Array.getElem?_eq_none_iff.1 h
 exact List.getElem?_eq_none (by rw[rtab_length];exact hi)
theorem readyAt_eq:readyAt (rtab md ops).2 l.toList i=(!l.getD i true && ((ops[i]?).map (·.after.all fun e=>!Region.binds md e || l.getD e.on false)).getD false):=by
 unfold readyAt
 rw[gd]
 cases h:ops[i]? with
 |none=>rw[rtab_none h];rfl
 |some o=>
  rw[rtab_some h]
  simp only[Option.map_some,Option.getD_some]
  rw[←needs_all]
  simp only[gd]
theorem ready_eq:Region.ready md ops l=readyT (rtab md ops).2 l.toList:=by
 unfold Region.ready readyT
 rw[rtab_length]
 refine List.filter_congr (fun i _=>?_)
 rw[readyAt_eq]
theorem free_eq:Region.free md ops l i=freeT (rtab md ops).2 l.toList i:=by
 unfold Region.free freeT
 cases h:ops[i]? with
 |none=>rw[rtab_none h]
 |some oi=>
  rw[rtab_some h]
  simp only[clashOf]
  rw[List.all_filter]
  congr 1
  funext j
  rw[gd]
  cases hj:ops[j]? with
  |none=>cases (j == i) <;> cases (l.toList.getD j true) <;> simp
  |some oj=>
   cases (j == i) <;> cases (l.toList.getD j true) <;> cases (oj.after.any (fun e=>Region.binds md e && e.on == i) || oi.apart ops oj) <;> simp_all
theorem closed_eq:Region.closedB md ops l=closedT (rtab md ops).2 l.toList:=by
 unfold Region.closedB closedT
 rw[rtab_length]
 congr 1
 funext j
 rw[gd]
 cases h:ops[j]? with
 |none=>rw[rtab_none h]
 |some o=>
  rw[rtab_some h]
  simp only
  rw[←needs_all]
  simp only[gd]
theorem reach_eq:∀(fuel d:Nat),Region.reachB md ops i fuel d=reachT (rtab md ops).2 i fuel d
 |0,_=>rfl
 |fuel + 1,d=>by
  unfold Region.reachB reachT
  cases h:ops[d]? with
  |none=>rw[rtab_none h]
  |some o=>
   rw[rtab_some h]
   simp only
   rw[←needs_any]
   congr 1
   funext e
   rw[reach_eq fuel]
theorem last_eq:Region.lastB md ops l ds i=lastT (rtab md ops).2 l.toList ds i:=by
 unfold Region.lastB lastT
 rw[rtab_length]
 congr 1
 funext d
 rw[gd,reach_eq]
theorem readyAt_mem (h:readyAt T.2 l.toList i=true) (hT:rtab md ops=T):(Region.ready md ops l).contains i=true:=by
 subst hT
 rw[ready_eq]
 unfold readyT
 rw[List.contains_iff_mem,List.mem_filter,List.mem_range]
 refine⟨?_,h⟩
 unfold readyAt at h
 rw[Bool.and_eq_true] at h
 cases hq:(rtab md ops).2[i]? with
 |none=>rw[hq] at h;simp at h
 |some r=>exact (List.getElem?_eq_some_iff.1 hq).1
theorem set_of (h:(l.toList.set i true == l'.toList)=true):(l.setIfInBounds i true == l')=true:=by
 rw[beq_iff_eq] at h ⊢
 apply Array.ext'
 rw[Array.toList_setIfInBounds]
 exact h
def anyT (T:Bool×List (List Nat×List Nat)) (l l':List Bool) (i:Nat):Bool:=T.1 && freeT T.2 l i && readyAt T.2 l i && (l.set i true == l')
theorem any_of (hT:rtab md ops=T) (h:anyT T l.toList l'.toList i=true):anyB md ops l l' i=true:=by
 simp only[anyT,Bool.and_eq_true] at h
 obtain⟨⟨⟨h1,h2⟩,h3⟩,h4⟩:=h
 have h5:=readyAt_mem h3 hT
 have h6:=set_of h4
 subst hT
 simp only[anyB,Bool.and_eq_true]
 exact⟨⟨⟨h1,by rw[free_eq];exact h2⟩,h5⟩,h6⟩
def takeT (T:Bool×List (List Nat×List Nat)) (ds:List Nat) (l l':List Bool) (i:Nat):Bool:=T.1 && freeT T.2 l i && readyAt T.2 l i && closedT T.2 l && lastT T.2 l ds i && (l.set i true == l')
theorem take_of (hT:rtab md ops=T) (h:takeT T ds l.toList l'.toList i=true):takeB md ops ds l l' i=true:=by
 simp only[takeT,Bool.and_eq_true] at h
 obtain⟨⟨⟨⟨⟨h1,h2⟩,h3⟩,h4⟩,h5⟩,h6⟩:=h
 have h7:=readyAt_mem h3 hT
 have h8:=set_of h6
 subst hT
 simp only[takeB,Bool.and_eq_true]
 exact⟨⟨⟨⟨⟨h1,by rw[free_eq];exact h2⟩,h7⟩,by rw[closed_eq];exact h4⟩,by rw[last_eq];exact h5⟩,h8⟩
theorem one_of (hT:rtab md ops=T) (h:(readyT T.2 l.toList == [i] && l.toList.set i true == l'.toList)=true):readyB md ops l l' i=true:=by
 simp only[Bool.and_eq_true] at h
 obtain⟨h1,h2⟩:=h
 subst hT
 simp only[readyB,Bool.and_eq_true]
 exact⟨by rw[ready_eq];exact h1,set_of h2⟩
theorem two_of (hT:rtab md ops=T) (h:(readyT T.2 l.toList == [i,j] && l.toList.set i true == li.toList && l.toList.set j true == lj.toList)=true):(Region.ready md ops l == [i,j] && l.setIfInBounds i true == li && l.setIfInBounds j true == lj)=true:=by
 simp only[Bool.and_eq_true] at h ⊢
 obtain⟨⟨h1,h2⟩,h3⟩:=h
 subst hT
 exact⟨⟨by rw[ready_eq];exact h1,set_of h2⟩,set_of h3⟩
theorem done_of (hT:rtab md ops=T) (h:(readyT T.2 l.toList == [])=true):(Region.ready md ops l == [])=true:=by
 subst hT
 rw[ready_eq]
 exact h
def upM (B:List Nat) (d:Nat):List Nat→Nat
 | []=>0
 |n::r=>(2 ^ n |||(if n < d then B.getD n 0 else 0)) |||upM B d r
def waitsOk (T:List (List Nat×List Nat)) (B:List Nat):Bool:=(List.range T.length).all fun d=>match T[d]? with
 |some r=>(B.getD d 0 |||upM B d r.1) == upM B d r.1
 |none=>false
theorem upM_bit {B:List Nat} {d i:Nat}:∀{ns:List Nat},(upM B d ns).testBit i=true→∃n∈ns,n=i∨(n < d∧(B.getD n 0).testBit i=true)
 | [],h=>by simp[upM] at h
 |n::r,h=>by
  unfold upM at h
  rw[Nat.testBit_or,Nat.testBit_or,Bool.or_eq_true,Bool.or_eq_true] at h
  rcases h with (h|h)|h
  ·rw[Nat.testBit_two_pow] at h
   exact⟨n,List.mem_cons_self,.inl (by simpa using h)⟩
  ·by_cases hn:n < d
   ·rw[if_pos hn] at h
    exact⟨n,List.mem_cons_self,.inr ⟨hn,h⟩⟩
   ·rw[if_neg hn] at h
    simp at h
  ·obtain⟨m,hm,h2⟩:=upM_bit h
   exact⟨m,List.mem_cons_of_mem _ hm,h2⟩
theorem reach_bit {T:List (List Nat×List Nat)} {B:List Nat} (hB:waitsOk T B=true):∀(fuel d:Nat),d < fuel→d < T.length→(B.getD d 0).testBit i=true→reachT T i fuel d=true
 |0,d,h,_,_=>by omega
 |fuel + 1,d,h,hd,hb=>by
  have h1:=List.all_eq_true.1 hB d (List.mem_range.2 hd)
  cases hr:T[d]? with
  |none=>rw[hr] at h1;simp at h1
  |some r=>
   rw[hr] at h1
   simp only[beq_iff_eq] at h1
   have h2:(upM B d r.1).testBit i=true:=by rw[←h1,Nat.testBit_or,hb,Bool.true_or]
   obtain⟨n,hn,h3⟩:=upM_bit h2
   unfold reachT
   rw[hr]
   simp only
   rw[List.any_eq_true]
   refine⟨n,hn,?_⟩
   rcases h3 with rfl|⟨h4,h5⟩
   ·simp
   ·rw[reach_bit hB fuel n (by omega) (by omega) h5,Bool.or_true]
def lastW (T:List (List Nat×List Nat)) (B:List Nat) (l:List Bool) (ds:List Nat) (i:Nat):Bool:=ds.all fun d=>l.getD d true || (decide (d < T.length) && (B.getD d 0).testBit i)
def takeW (T:Bool×List (List Nat×List Nat)) (B:List Nat) (ds:List Nat) (l l':List Bool) (i:Nat):Bool:=T.1 && freeT T.2 l i && readyAt T.2 l i && closedT T.2 l && lastW T.2 B l ds i && (l.set i true == l')
theorem take_ofW {B:List Nat} (hT:rtab md ops=T) (hB:waitsOk T.2 B=true) (h:takeW T B ds l.toList l'.toList i=true):takeB md ops ds l l' i=true:=by
 refine take_of hT ?_
 simp only[takeW,takeT,Bool.and_eq_true] at h ⊢
 obtain⟨⟨⟨⟨⟨h1,h2⟩,h3⟩,h4⟩,h5⟩,h6⟩:=h
 refine⟨⟨⟨⟨⟨h1,h2⟩,h3⟩,h4⟩,?_⟩,h6⟩
 unfold lastW at h5
 unfold lastT
 rw[List.all_eq_true] at h5 ⊢
 intro d hd
 have h7:=h5 d hd
 rw[Bool.or_eq_true,Bool.and_eq_true,decide_eq_true_eq] at h7
 rcases h7 with h7|⟨h8,h9⟩
 ·rw[h7,Bool.true_or]
 ·rw[reach_bit hB _ d h8 h8 h9,Bool.or_true]
theorem with_tabW {P:Program} {Q:Exit→Act→World→Prop} {S:World→Prop} {n:Nat} {a:Act} {w:World} {B:List Nat} (hT:rtab md ops=T) (hB:waitsOk T.2 B=true) (h:Aside0 (rtab md ops=T)→Aside0 (waitsOk T.2 B=true)→wpAnyLast P md ops Q S ds n l a w):wpAnyLast P md ops Q S ds n l a w:=h ⟨hT⟩ ⟨hB⟩
end
def opsIn:Code→Nat→Option (Array Oper)
 |.region id ops _,k=>if id == k then some ops else none
 |.seq a b,k=>match opsIn a k with
  |some o=>some o
  |none=>opsIn b k
 |.cond _ a b,k=>match opsIn a k with
  |some o=>some o
  |none=>opsIn b k
 |.block _ c,k=>opsIn c k
 |.loop c,k=>opsIn c k
 |.scope c,k=>opsIn c k
 |.rangeFunc _ _ a b,k=>match opsIn a k with
  |some o=>some o
  |none=>opsIn b k
 |_,_=>none
def opsOf (f:Func) (k:Nat):Array Oper:=((f.body.bind fun c=>opsIn c k)).getD #[]
end Go.Proofs.YtmmfchnbfnegnaaGreatDoorW.PrintLast
end
section
namespace Go.Proofs.YtmmfchnbfnegnaaGreatDoorW.PrintWords
open Go.RowKit
namespace Kd
def tag {α:Type} (f:Nat→Nat) (d:Kd α):Kd (α×Nat) where
 sz:=d.sz
 E:=d.E
 K:=fun w x cs=>d.K w x.1 cs
 M:=fun w base ok x cs=>d.M w base (fun k=>ok k∧f k=x.2) x.1 cs
 K_len:=fun h=>d.K_len h
 K_one:=fun h=>d.K_one h
 K_below:=fun hb h=>d.K_below hb h
 K_of_M:=fun h=>d.K_of_M h
 M_mono:=fun hok h=>d.M_mono (fun k hk=>⟨hok k hk.1,hk.2⟩) h
 M_bound:=fun h=>d.M_mono (fun _ hk=>⟨⟨hk.1.1,hk.2⟩,hk.1.2⟩) (d.M_bound h)
 M_move:=fun hm h=>d.M_move (fun k hk=>hm k hk.1) h
 M_lower:=fun hb h=>d.M_lower hb h
def raw (sz:Nat):Kd (List Value) where
 sz:=sz
 E:=[]
 K:=fun _ x cs=>cs=x∧cs.length=sz∧∀u∈cs,u.oneCell'=true
 M:=fun _ _ _ x cs=>cs=x∧cs.length=sz∧∀u∈cs,u.oneCell'=true
 K_len:=fun h=>h.2.1
 K_one:=fun h=>h.2.2
 K_below:=fun _ h=>h
 K_of_M:=fun h=>h
 M_mono:=fun _ h=>h
 M_bound:=fun h=>h
 M_move:=fun _ h=>h
 M_lower:=fun _ h=>h
def S {α:Type} (d:Kd α) (e:Nat) (w:World) (base:Nat) (ok:Nat→Prop) (v:Value) (xs:List α):Prop:=∃f,(tag f d).R e w base ok v xs.zipIdx
section
variable {α β:Type} {d:Kd α} {d':Kd β} {e e':Nat} {w w1 W:World} {base b:Nat} {ok ok' okv oku:Nat→Prop} {u v:Value} {xs:List α} {ys:List β}
theorem zip_at {xs:List α} {j:Nat} {p:α} (h:xs[j]? =some p):xs.zipIdx[j]? =some (p,j):=by rw[List.getElem?_zipIdx,h,Nat.zero_add];rfl
theorem S_R (h:S d e w base ok v xs):d.R e w base ok v xs:=by
 obtain⟨f,h0,inner,ho,hr⟩:=h
 rw[List.length_zipIdx] at ho
 exact⟨h0,inner,ho,by have:=hr.1;rw[List.length_zipIdx] at this;exact this,fun j p hj=>d.M_mono (fun _ hk=>hk.1) (hr.2 j (p,j) (zip_at hj))⟩
theorem R_tight (hE:d.E=[]) (h:d.R e w base ok v xs):d.R e w base (fun k=>some k=v.ownBlock) v xs:=by
 obtain⟨h0,inner,ho,hr⟩:=h
 refine⟨fun k hk=>hk.symm,inner,ho,hr.imp_ (fun p c hp=>d.M_mono (fun k hk=>?_) (d.M_bound hp))⟩
 obtain⟨_,_,_,q,hq,_⟩:=hk
 rw[hE] at hq
 cases hq
theorem S_nil (d:Kd α) (e:Nat) (w:World) (base:Nat) (ok:Nat→Prop):S d e w base ok (.slice none 0 0) []:=⟨fun _=>0,R_nil _ _ _ _ _⟩
end
section
variable {α β:Type} {d:Kd α} {d':Kd β} {e e' g:Nat} {w w1 W:World} {base b:Nat} {ok ok' okv oku:Nat→Prop} {u v:Value} {xs:List α} {ys:List β}
end
section
variable {P:Program} {ops:Array Oper} {rest:List Oper} {o:Oper} {a:Act} {Q:Exit→Act→World→Prop} {Kc:Act→World→Prop} {α:Type}
end
section
variable {α β:Type} {d:Kd α} {e e' g n cap:Nat} {w w1 W:World} {base:Nat} {ok ok' oki okp:Nat→Prop} {u v:Value} {xs:List α} {i:Int} {c:List Value}
end
section
variable {P:Program} {ops:Array Oper} {rest:List Oper} {o:Oper} {a:Act} {Q:Exit→Act→World→Prop} {α:Type}
end
end Kd
end Go.Proofs.YtmmfchnbfnegnaaGreatDoorW.PrintWords
end
section
namespace Go.Proofs.YtmmfchnbfnegnaaGreatDoorW.PrintWords
open Go.RowKit
def Foot (P:World→Prop) (W:World) (ok:Nat→Prop):Prop:=∀W':World,(∀k,ok k→k < W.heap.size→W'.heap[k]? =W.heap[k]?)→P W'
theorem heap_lt {W W1:World} {k:Nat} (h:W1.heap[k]? =W.heap[k]?) (hlt:k < W.heap.size):k < W1.heap.size:=by
 rw[Array.getElem?_eq_getElem hlt] at h
 exact (Array.getElem?_eq_some_iff.1 h).1
namespace Foot
variable {P Q:World→Prop} {W W1:World} {ok ok':Nat→Prop}
theorem now (h:Foot P W ok):P W:=h W (fun _ _ _=>rfl)
theorem mono (h:Foot P W ok) (hok:∀k,ok k→ok' k):Foot P W ok':=fun W' hW=>h W' (fun k hk hlt=>hW k (hok k hk) hlt)
theorem bound (h:Foot P W ok):Foot P W (fun k=>ok k∧k < W.heap.size):=fun W' hW=>h W' (fun k hk hlt=>hW k ⟨hk,hlt⟩ hlt)
theorem step (h:Foot P W ok) (hm:∀k,ok k→k < W.heap.size→W1.heap[k]? =W.heap[k]?):Foot P W1 ok:=fun W' hW=>h W' (fun k hk hlt=>(hW k hk (heap_lt (hm k hk hlt) hlt)).trans (hm k hk hlt))
end Foot
namespace Kd
def F {α:Type} (d:Kd α) (W:World) (ok:Nat→Prop) (A:Option Addr) (n:Nat) (xs:List α):Prop:=Foot (fun W=>d.C W A n xs) W ok
def FK {α:Type} (d:Kd α) (W:World) (ok:Nat→Prop) (x:α) (c:List Value):Prop:=Foot (fun W=>d.K W x c) W ok
section
variable {α β:Type} {d:Kd α} {e base n n' cc g N:Nat} {ok ok' okp S:Nat→Prop} {w w0 w1 W W1:World} {A A':Option Addr} {u v v1:Value} {xs:List α} {xs':List β} {d':Kd β} {x:α} {c:List Value}
theorem F_now (h:F d W ok A n xs):d.C W A n xs:=Foot.now h
theorem F_mono (h:F d W ok A n xs) (hok:∀k,ok k→ok' k):F d W ok' A n xs:=Foot.mono h hok
theorem F_bound (h:F d W ok A n xs):F d W (fun k=>ok k∧k < W.heap.size) A n xs:=Foot.bound h
theorem F_step (h:F d W ok A n xs) (hm:∀k,ok k→k < W.heap.size→W1.heap[k]? =W.heap[k]?):F d W1 ok A n xs:=Foot.step h hm
theorem F_below (h:F d W ok A n xs) (hb:Below W.heap.size W W1):F d W1 ok A n xs:=F_step h (fun k _ hlt=>hb.block k hlt)
theorem F_grown (h:F d W ok A n xs) {row:Option Nat} (hg:W.grownBy W1 row) (hok:∀k,ok k→some k≠row):F d W1 ok A n xs:=F_step h (fun k hk hlt=>hg.block k hlt (hok k hk))
theorem F_far (h:F d W ok A n xs) {p:Addr} (hok:∀k,ok k→k≠p.block) (u:Value):F d (W.setCell p u) ok A n xs:=F_step h (fun k hk _=>Below.heap_setCell W p u k (hok k hk))
theorem F_nil (d:Kd α) (W:World) (ok:Nat→Prop):F d W ok none ([]:List α).length []:=fun W' _=>C_nil d W'
theorem F_after (h:F d W (fun k=>ok k∧some k≠v.ownBlock) A n xs) (hg:W.grownBy W1 v.ownBlock) (hat:v1.ownBlock=v.ownBlock∨∃b,v1.ownBlock=some b∧W.heap.size≤b):F d W1 (fun k=>ok k∧some k≠v1.ownBlock) A n xs:=by
 refine F_mono (Foot.step (F_bound h) (fun k hk hlt=>hg.block k hlt hk.1.2)) (fun k hk=>⟨hk.1.1,?_⟩)
 rcases hat with hat|⟨b,hb,hle⟩
 ·rw[hat];exact hk.1.2
 ·rw[hb]
  intro he
  injection he with he
  have:=hk.2
  omega
theorem R_F (h:d.R e W base ok (.slice A n cc) xs):F d W ok A n xs:=fun W' hW=>by
 have h2:=R_reads' (R_step h hW)
 rw[h2.1]
 exact h2.2.2
theorem FK_now (h:FK d W ok x c):d.K W x c:=Foot.now h
theorem FK_mono (h:FK d W ok x c) (hok:∀k,ok k→ok' k):FK d W ok' x c:=Foot.mono h hok
theorem FK_bound (h:FK d W ok x c):FK d W (fun k=>ok k∧k < W.heap.size) x c:=Foot.bound h
theorem FK_step (h:FK d W ok x c) (hm:∀k,ok k→k < W.heap.size→W1.heap[k]? =W.heap[k]?):FK d W1 ok x c:=Foot.step h hm
theorem FK_below (h:FK d W ok x c) (hb:Below W.heap.size W W1):FK d W1 ok x c:=FK_step h (fun k _ hlt=>hb.block k hlt)
theorem FK_of_M (h:d.M W base ok x c):FK d W ok x c:=fun _ hW=>d.K_of_M (M_step h hW)
theorem emptied (W:World) (g:Nat):∃W':World,(∀k,k≠g→W'.heap[k]? =W.heap[k]?)∧∀a:Addr,a.block=g→W'.cell? a=none:=by
 refine⟨{W with heap:=W.heap.setIfInBounds g (.cells #[] 0)},fun k hk=>by simp[Ne.symm hk],fun a ha=>?_⟩
 subst ha
 by_cases hlt:a.block < W.heap.size
 ·simp[World.cell?,hlt]
 ·simp[World.cell?,hlt]
end
end Kd
end Go.Proofs.YtmmfchnbfnegnaaGreatDoorW.PrintWords
end
section
namespace Go.Proofs.YtmmfchnbfnegnaaGreatDoorW.PrintWords
open Go.RowKit
namespace Kd
def chunks (sz:Nat) (n:Nat) (inner:List Value):List (List Value):=(List.range n).map fun j=>(inner.drop (j * sz)).take sz
theorem chunks_length (sz n:Nat) (inner:List Value):(chunks sz n inner).length=n:=by simp[chunks]
theorem chunks_at {sz n:Nat} {inner:List Value} {j:Nat} (hj:j < n):(chunks sz n inner)[j]? =some ((inner.drop (j * sz)).take sz):=by simp[chunks,hj]
theorem chunks_get {sz n:Nat} {inner:List Value} {j:Nat} {c:List Value} (h:(chunks sz n inner)[j]? =some c):c=(inner.drop (j * sz)).take sz:=by
 have hj:j < n:=by have:=(List.getElem?_eq_some_iff.1 h).1;rwa [chunks_length] at this
 rw[chunks_at hj] at h
 injection h with h
 exact h.symm
theorem reps_raw {α:Type} {Rr:α→List Value→Prop} {sz:Nat} {xs:List α} {inner:List Value} (h:Reps Rr sz xs inner) (hR:∀x c,Rr x c→c.length=sz∧∀u∈c,u.oneCell'=true):Reps (fun x cs=>cs=x∧cs.length=sz∧∀u∈cs,u.oneCell'=true) sz (chunks sz xs.length inner) inner:=by
 refine⟨by rw[chunks_length];exact h.1,fun j p hj=>?_⟩
 have hjl:j < xs.length:=by have:=(List.getElem?_eq_some_iff.1 hj).1;rwa [chunks_length] at this
 have hp:=chunks_get hj
 exact⟨hp.symm,hR _ _ (h.2 j _ (List.getElem?_eq_getElem hjl))⟩
section
variable {α:Type} {d:Kd α} {e base n cc g:Nat} {ok ok' okp S:Nat→Prop} {w w1 W W1:World} {A:Option Addr} {u v v1:Value} {xs:List α} {x:α} {c:List Value}
theorem F_get (h:F d W ok A n xs) (z:α) (i:Int) (h0:0≤i) (h1:i < n):
  ∃ad c,A=some ad∧c.length=d.sz∧FK d W ok (xs.getD i.toNat z) c∧(∀j u,c[j]? =some u→W.cell? (ad.add (i.toNat * d.sz + j))=some u)∧(0 < d.sz→ok ad.block):=by
 obtain⟨ad,c,rfl,hcl,hK,hcc⟩:=C_get (F_now h) z i h0 h1
 have hin:0 < d.sz→ok ad.block:=by
  intro hs
  by_cases hk:ok ad.block
  ·exact hk
  ·obtain⟨W',h2,h3⟩:=emptied W ad.block
   obtain⟨ad',c',he,hcl',_,hcc'⟩:=C_get (h W' (fun k hk' _=>h2 k (fun e=>hk (e▸hk')))) z i h0 h1
   injection he with he
   subst he
   have h4:=hcc' 0 _ (List.getElem?_eq_getElem (by omega))
   rw[h3 _ (add_block _ _)] at h4
   cases h4
 refine⟨ad,c,rfl,hcl,fun W' hW=>?_,hcc,hin⟩
 obtain⟨ad',c',he,hcl',hK',hcc'⟩:=C_get (h W' hW) z i h0 h1
 injection he with he
 subst he
 have hc:c=c':=by
  apply List.ext_getElem?
  intro j
  by_cases hj:j < d.sz
  ·have hb:W'.heap[ad.block]? =W.heap[ad.block]? :=by
    have h5:=hcc j _ (List.getElem?_eq_getElem (by omega))
    have h6:=World.block_lt_of_cell? W _ h5
    rw[add_block] at h6
    exact hW _ (hin (by omega)) h6
   have h5:=hcc j _ (List.getElem?_eq_getElem (by omega))
   have h6:=hcc' j _ (List.getElem?_eq_getElem (by omega))
   have h7:W'.cell? (ad.add (i.toNat * d.sz + j))=W.cell? (ad.add (i.toNat * d.sz + j)):=by simp[World.cell?,add_block,hb]
   rw[h7,h5] at h6
   rw[List.getElem?_eq_getElem (by omega),List.getElem?_eq_getElem (by omega)]
   exact h6
  ·rw[List.getElem?_eq_none (by omega),List.getElem?_eq_none (by omega)]
 rw[hc]
 exact hK'
theorem F_rows (h:F d W ok A n xs):ReadsRow (fun x c=>FK d W ok x c) d.sz W A n xs:=by
 obtain⟨hl,hm,hn⟩:=F_now h
 refine⟨hl,hm,fun hp=>?_⟩
 obtain⟨ad,rfl,_⟩:=hn hp
 refine⟨ad,rfl,fun j p hj=>?_⟩
 obtain⟨hjl,hjp⟩:=List.getElem?_eq_some_iff.1 hj
 obtain⟨ad',c,he,hcl,hK,hcc,_⟩:=F_get h p (j:Int) (by omega) (by omega)
 injection he with he
 subst he
 simp only[Int.toNat_natCast] at hK hcc
 rw[List.getD_eq_getElem?_getD,hj] at hK
 exact⟨c,hcl,hK,hcc⟩
def N {α:Type} (d:Kd α) (e:Nat) (w:World) (base:Nat) (ok:Nat→Prop) (v:Value) (xs:List α):Prop:=
 (∀k,v.ownBlock=some k→ok k)∧∃rows:List (List Value),rows.length=xs.length∧(raw d.sz).R e w base (fun k=>some k=v.ownBlock) v rows∧∀(j:Nat) (x:α) (c:List Value),xs[j]? =some x→rows[j]? =some c→FK d w (fun k=>ok k∧some k≠v.ownBlock) x c
theorem raw_tight {sz:Nat} {rows:List (List Value)} (h:(raw sz).R e w base ok v rows):(raw sz).R e w base (fun k=>some k=v.ownBlock) v rows:=R_tight rfl h
theorem raw_any {sz:Nat} {rows:List (List Value)} (h:(raw sz).R e w base ok v rows):(raw sz).R e w base (fun _=>True) v rows:=R_mono h (fun _ _=>trivial)
theorem R_N (h:d.R e w base ok v xs):N d e w base ok v xs:=by
 obtain⟨h0,inner,ho,hr⟩:=h
 refine⟨h0,chunks d.sz xs.length inner,chunks_length _ _ _,⟨fun k hk=>hk.symm,inner,by rw[chunks_length];exact ho,reps_raw hr (fun x c hp=>⟨d.K_len (d.K_of_M hp),d.K_one (d.K_of_M hp)⟩)⟩,fun j x c hx hc=>?_⟩
 rw[chunks_get hc]
 exact FK_of_M (hr.2 j x hx)
theorem S_N (h:Kd.S d e w base ok v xs):N d e w base ok v xs:=R_N (S_R h)
theorem N_nil (d:Kd α) (e:Nat) (w:World) (base:Nat) (ok:Nat→Prop):N d e w base ok (.slice none 0 0) []:=R_N (R_nil _ _ _ _ _)
theorem N_mono (h:N d e w base ok v xs) (hok:∀k,ok k→ok' k):N d e w base ok' v xs:=by
 obtain⟨h0,rows,hl,hR,hf⟩:=h
 exact⟨fun k hk=>hok k (h0 k hk),rows,hl,hR,fun j x c hx hc=>FK_mono (hf j x c hx hc) (fun k hk=>⟨hok k hk.1,hk.2⟩)⟩
theorem N_lt (h:N d e w base ok v xs):∀k,v.ownBlock=some k→k < w.heap.size:=by
 obtain⟨_,rows,_,hR,_⟩:=h
 exact R_lt hR
theorem N_base (h:N d e w base ok v xs):∀k,v.ownBlock=some k→base≤k:=by
 obtain⟨_,rows,_,hR,_⟩:=h
 exact R_base hR
theorem N_typed (h:N d e w base ok v xs):∀k,v.ownBlock=some k→∃cells,w.heap[k]? =some (.cells cells e (0,0)):=by
 obtain⟨_,rows,_,hR,_⟩:=h
 exact R_typed hR
theorem N_ne (h:N d e w base ok v xs) {t:Nat} {cells:Array Value} (hb:w.heap[g]? =some (.cells cells t (0,0))) (ht:e≠t):some g≠v.ownBlock:=by
 obtain⟨_,rows,_,hR,_⟩:=h
 exact R_ne hR hb ht
theorem N_bound (h:N d e w base ok v xs):N d e w base (fun k=>ok k∧k < w.heap.size) v xs:=by
 have hlt:=N_lt h
 obtain⟨h0,rows,hl,hR,hf⟩:=h
 exact⟨fun k hk=>⟨h0 k hk,hlt k hk⟩,rows,hl,hR,fun j x c hx hc=>FK_mono (FK_bound (hf j x c hx hc)) (fun k hk=>⟨⟨hk.1.1,hk.2⟩,hk.1.2⟩)⟩
theorem N_lower {base':Nat} (h:N d e w base ok v xs) (hb:base'≤base):N d e w base' ok v xs:=by
 obtain⟨h0,rows,hl,hR,hf⟩:=h
 exact⟨h0,rows,hl,R_lower hR hb,hf⟩
theorem N_step (h:N d e w base ok v xs) (hm:∀k,ok k→k < w.heap.size→w1.heap[k]? =w.heap[k]?):N d e w1 base ok v xs:=by
 obtain⟨h0,rows,hl,hR,hf⟩:=h
 exact⟨h0,rows,hl,R_step hR (fun k hk hlt=>hm k (h0 k hk.symm) hlt),fun j x c hx hc=>FK_step (hf j x c hx hc) (fun k hk hlt=>hm k hk.1 hlt)⟩
theorem N_below (h:N d e w base ok v xs) (hb:Below w.heap.size w w1):N d e w1 base ok v xs:=N_step h (fun k _ hk=>hb.block k hk)
theorem N_alloc (h:N d e w base ok v xs) (o:Obj):N d e (w.alloc o) base ok v xs:=N_below h (below_alloc (Below.refl _ _) o)
theorem N_drew (h:N d e w base ok v xs):N d e w.drew base ok v xs:=N_below h (below_drew (Below.refl _ _))
theorem N_grown (h:N d e w base ok v xs) {row:Option Nat} (hg:w.grownBy w1 row) (hok:∀k,ok k→some k≠row):N d e w1 base ok v xs:=N_step h (fun k ho hk=>hg.block k hk (hok k ho))
theorem N_far (h:N d e w base ok v xs) {p:Addr} (hok:∀k,ok k→k≠p.block) (u:Value):N d e (w.setCell p u) base ok v xs:=N_step h (fun k ho _=>Below.heap_setCell w p u k (hok k ho))
theorem N_after (h:N d e W base (fun k=>ok k∧some k≠u.ownBlock) v xs) {u1:Value} (hg:W.grownBy w1 u.ownBlock) (hat:u1.ownBlock=u.ownBlock∨∃b,u1.ownBlock=some b∧W.heap.size≤b):N d e w1 base (fun k=>ok k∧some k≠u1.ownBlock) v xs:=by
 refine N_mono (N_step (N_bound h) (fun k hk hlt=>hg.block k hlt hk.1.2)) (fun k hk=>⟨hk.1.1,?_⟩)
 rcases hat with hat|⟨b,hb,hle⟩
 ·rw[hat];exact hk.1.2
 ·rw[hb]
  intro he
  injection he with he
  have:=hk.2
  omega
theorem N_slice (h:N d e w base ok v xs):∃A c,v=.slice A xs.length c:=by
 obtain⟨_,rows,hl,hR,_⟩:=h
 obtain⟨A,c,he⟩:=R_slice hR
 exact⟨A,c,by rw[he,hl]⟩
theorem N_form (h:N d e w base ok v xs) (hp:0 < xs.length):∃g cap,v=.slice (some ⟨g,0,none⟩) xs.length cap∧base≤g∧g < w.heap.size∧∃cells,w.heap[g]? =some (.cells cells e (0,0)):=by
 obtain⟨_,rows,hl,hR,_⟩:=h
 rw[←hl] at hp ⊢
 exact R_form hR hp
theorem N_reads' {n c:Nat} (h:N d e w base ok (.slice A n c) xs):n=xs.length∧n≤c∧d.C w A xs.length xs:=by
 obtain⟨_,rows,hl,hR,hf⟩:=h
 obtain⟨hn,hc,hC⟩:=R_reads' hR
 refine⟨by omega,hc,?_⟩
 rw[hl] at hC
 refine⟨rfl,hC.2.1,fun hp=>?_⟩
 obtain⟨ad,he,hcell⟩:=hC.2.2 hp
 refine⟨ad,he,fun j p hj=>?_⟩
 have hjl:j < rows.length:=by have:=(List.getElem?_eq_some_iff.1 hj).1;omega
 obtain⟨c',hcl,hK,hcc⟩:=hcell j _ (List.getElem?_eq_getElem hjl)
 have hk:=FK_now (hf j p _ hj (List.getElem?_eq_getElem hjl))
 refine⟨c',hcl,?_,hcc⟩
 rw[show c'=rows[j] from hK.1]
 exact hk
theorem N_F {n:Nat} (h:N d e w base ok (.slice A n cc) xs):F d w ok A n xs:=fun W' hW=>by
 have h2:=N_reads' (N_step h hW)
 rw[h2.1]
 exact h2.2.2
theorem N_elem {n cap:Nat} (h:N d e W base ok (.slice (some ⟨g,0,none⟩) n cap) xs) (z:α) (i:Int) (h0:0≤i) (h1:i < n):
  ∃c,c.length=d.sz∧FK d W (fun k=>ok k∧k≠g) (xs.getD i.toNat z) c∧(∀j u,c[j]? =some u→W.cell? ⟨g,i.toNat * d.sz + j,none⟩=some u)∧∀j,W.frozen? ⟨g,i.toNat * d.sz + j,none⟩=false:=by
 obtain⟨_,rows,hl,hR,hf⟩:=h
 have hn:=(R_reads' hR).1
 obtain⟨c,hcl,hM,hcc,hfr⟩:=R_elem hR [] i h0 h1
 have hil:i.toNat < rows.length:=by omega
 have hil':i.toNat < xs.length:=by omega
 have hc:c=rows[i.toNat]:=by
  have h2:=hM.1
  rwa [List.getD_eq_getElem?_getD,List.getElem?_eq_getElem hil] at h2
 refine⟨c,hcl,?_,hcc,hfr⟩
 rw[List.getD_eq_getElem?_getD,List.getElem?_eq_getElem hil']
 exact FK_mono (hf _ _ _ (List.getElem?_eq_getElem hil') (by rw[hc];exact List.getElem?_eq_getElem hil)) (fun k hk=>⟨hk.1,fun he=>hk.2 (by rw[he];simp[Value.ownBlock])⟩)
end
end Kd
end Go.Proofs.YtmmfchnbfnegnaaGreatDoorW.PrintWords
end
section
namespace Go.Proofs.YtmmfchnbfnegnaaGreatDoorW.PrintWords
open Go.RowKit
section
variable {P:Program} {ops:Array Oper} {rest:List Oper} {o:Oper} {a:Act} {Q:Exit→Act→World→Prop} {W:World}
theorem gate_guard (hw:Region.wanted o (yielded ops a.tmps)=true) (h:wpList P ops Q ({o with guard:=none}::rest) a W):wpList P ops Q (o::rest) a W:=by
 have h1:Region.wanted {o with guard:=none} (yielded ops a.tmps)=true:=rfl
 unfold wpList at h ⊢
 rw[if_pos h1] at h
 rw[if_pos hw]
 exact h
end
end Go.Proofs.YtmmfchnbfnegnaaGreatDoorW.PrintWords
end
section
namespace Go.Proofs.YtmmfchnbfnegnaaGreatDoorW.PrintWords
open Go.RowKit
namespace Kd
section
variable {α:Type} {d:Kd α} {e base n cap g:Nat} {ok ok' okp:Nat→Prop} {w w1 W:World} {v v1:Value} {xs ys:List α}
theorem FK_raw {x:α} {c:List Value} (h:FK d W ok x c):c=c∧c.length=d.sz∧∀u∈c,u.oneCell'=true:=⟨rfl,d.K_len (FK_now h),d.K_one (FK_now h)⟩
theorem N_written {rows:List (List Value)} {i:Int} {x':α} {c':List Value} (h0:∀k,(Value.slice (some ⟨g,0,none⟩) n cap).ownBlock=some k→ok k) (hl:rows.length=xs.length) (hf:∀(j:Nat) (x:α) (c:List Value),xs[j]? =some x→rows[j]? =some c→FK d W (fun k=>ok k∧some k≠(Value.slice (some ⟨g,0,none⟩) n cap).ownBlock) x c)
  (hR:(raw d.sz).R e w1 base (fun _=>True) (.slice (some ⟨g,0,none⟩) n cap) (rows.set i.toNat c')) (hg:W.grownBy w1 (some g)) (hM:FK d W okp x' c') (hokp:∀k,okp k→ok k∧k≠g):N d e w1 base ok (.slice (some ⟨g,0,none⟩) n cap) (xs.set i.toNat x'):=by
 have hgo:some g=(Value.slice (some ⟨g,0,none⟩) n cap).ownBlock:=by simp[Value.ownBlock]
 refine⟨h0,rows.set i.toNat c',by rw[List.length_set,List.length_set,hl],raw_tight hR,fun j x c hx hc=>?_⟩
 have hjl:j < xs.length:=by have:=(List.getElem?_eq_some_iff.1 hx).1;rwa [List.length_set] at this
 by_cases hji:j=i.toNat
 ·subst hji
  rw[List.getElem?_set_self hjl] at hx
  rw[List.getElem?_set_self (by omega)] at hc
  injection hx with hx
  injection hc with hc
  rw[←hx,←hc]
  exact FK_mono (FK_step hM (fun k hk hlt=>hg.block k hlt (fun he=>(hokp k hk).2 (by injection he)))) (fun k hk=>⟨(hokp k hk).1,fun he=>(hokp k hk).2 (by rw[←hgo] at he;injection he)⟩)
 ·rw[List.getElem?_set_ne (Ne.symm hji)] at hx hc
  exact FK_step (hf j x c hx hc) (fun k hk hlt=>hg.block k hlt (by rw[hgo];exact hk.2))
theorem N_seg (h:N d e W base ok (.slice (some ⟨g,0,none⟩) n cap) xs) (i:Int) (h0:0≤i) (h1:i < n) {c seg:List Value} {j:Nat} (hcl:c.length=d.sz) (hcc:∀j u,c[j]? =some u→W.cell? ⟨g,i.toNat * d.sz + j,none⟩=some u)
  (hj:j + seg.length≤d.sz) {x':α} (hM:FK d W okp x' (c.take j ++ seg ++ c.drop (j + seg.length))) (hokp:∀k,okp k→ok k∧k≠g):
  N d e (W.setCells g (i.toNat * d.sz + j) seg) base ok (.slice (some ⟨g,0,none⟩) n cap) (xs.set i.toNat x')∧W.grownBy (W.setCells g (i.toNat * d.sz + j) seg) (some g):=by
 obtain⟨hown,rows,hl,hR,hf⟩:=h
 obtain⟨h2,h3⟩:=R_seg (raw_any hR) i h0 h1 (c:=c) (seg:=seg) (j:=j) (x':=c.take j ++ seg ++ c.drop (j + seg.length)) (okp:=fun _=>False) hcl hcc hj ⟨rfl,d.K_len (FK_now hM),d.K_one (FK_now hM)⟩ (fun _ hk=>hk.elim)
 exact⟨N_written hown hl hf h2 h3 hM hokp,h3⟩
theorem reads_raw {Rr:α→List Value→Prop} {sz m:Nat} {A:Option Addr} (h:ReadsRow Rr sz W A m ys) (hR:∀x c,Rr x c→c.length=sz∧∀u∈c,u.oneCell'=true):
  ∃news:List (List Value),news.length=ys.length∧ReadsRow (fun x cs=>cs=x∧cs.length=sz∧∀u∈cs,u.oneCell'=true) sz W A m news∧∀(j:Nat) (x:α) (c:List Value),ys[j]? =some x→news[j]? =some c→Rr x c:=by
 rcases Nat.eq_zero_or_pos m with h0|hp
 ·have hy:ys=[]:=List.eq_nil_of_length_eq_zero (h.1.trans h0)
  subst hy
  exact⟨[],rfl,⟨h0▸rfl,h.2.1,fun hp=>by omega⟩,fun j x c hx=>by simp at hx⟩
 ·obtain⟨ad,rfl,_⟩:=h.2.2 hp
  obtain⟨inner,hr,hc⟩:=ReadsRow.inner_ h
  refine⟨chunks sz ys.length inner,chunks_length _ _ _,⟨by rw[chunks_length];exact h.1,h.2.1,fun _=>⟨ad,rfl,fun j p hj=>?_⟩⟩,fun j x c hx hcc=>?_⟩
  ·have hjl:j < ys.length:=by have:=(List.getElem?_eq_some_iff.1 hj).1;rwa [chunks_length] at this
   have hpe:=chunks_get hj
   have hq:=hR _ _ (hr.2 j _ (List.getElem?_eq_getElem hjl))
   rw[←hpe] at hq
   refine⟨p,hq.1,⟨rfl,hq⟩,fun i u hu=>?_⟩
   have hu2:inner[j * sz + i]? =some u:=by
    rw[hpe,List.getElem?_take] at hu
    split at hu
    ·rw[List.getElem?_drop] at hu
     exact hu
    ·cases hu
   exact hc _ u hu2
  ·rw[chunks_get hcc]
   exact hr.2 j x hx
end
section
variable {P:Program} {ops:Array Oper} {rest:List Oper} {o:Oper} {a:Act} {Q:Exit→Act→World→Prop} {Kc:Act→World→Prop} {α:Type}
theorem N_store (d:Kd α) {w0 W:World} (base:Nat) (hN:o.dst=none) (hgd:o.guard=none) (t:TypeId) (p x:Operand) (ho:o.op=.store t p x) (e:TypeId) {g n cap o':Nat} (i:Int) (j:Nat) (xs:List α) (x':α) (u:Value) (seg c:List Value) (ok okp:Nat→Prop)
  (haddr:a.eval p=.pointer (some ⟨g,o',none⟩)) (hoff:o'=i.toNat * d.sz + j) (hx:a.eval x=u) (hu:u.cells.toList=seg) (ht:(P.info? t).map (·.size)=some seg.length) (h1:∀q∈seg,q.oneCell'=true)
  (HO:N d e W base ok (.slice (some ⟨g,0,none⟩) n cap) xs) (h0:0≤i) (hi:i < n) (hcl:c.length=d.sz) (hcc:∀j u,c[j]? =some u→W.cell? ⟨g,i.toNat * d.sz + j,none⟩=some u)
  (hj:j + seg.length≤d.sz) (hM:FK d W okp x' (c.take j ++ seg ++ c.drop (j + seg.length))) (hokp:∀k,okp k→ok k∧k≠g) (HB:Below base w0 W)
  (h:∀w1,N d e w1 base ok (.slice (some ⟨g,0,none⟩) n cap) (xs.set i.toNat x')→Below base w0 w1→W.grownBy w1 (some g)→wpList P ops Q rest a w1):wpList P ops Q (o::rest) a W:=by
 obtain⟨hown,rows,hl,hR,hf⟩:=HO
 refine R_store (raw d.sz) base hN hgd t p x ho e i j rows (c.take j ++ seg ++ c.drop (j + seg.length)) u seg c (fun _=>True) (fun _=>False) haddr hoff hx hu ht h1 (raw_any hR) h0 hi hcl hcc hj (FK_raw hM) (fun _ hk=>hk.elim) HB ?_
 intro w1 hr hb hg
 exact h w1 (N_written hown hl hf hr hg hM hokp) hb hg
end
end Kd
end Go.Proofs.YtmmfchnbfnegnaaGreatDoorW.PrintWords
end
section
namespace Go.Proofs.YtmmfchnbfnegnaaGreatDoorW.PrintMore
open Go.RowKit Go.Proofs.YtmmfchnbfnegnaaGreatDoorW.PrintWords
namespace Kd
open Go.Proofs.YtmmfchnbfnegnaaGreatDoorW.PrintWords.Kd
end Kd
namespace Kd
open Go.Proofs.YtmmfchnbfnegnaaGreatDoorW.PrintWords.Kd
section
variable {α:Type} {d:Kd α} {e base g N:Nat} {ok:Nat→Prop} {W w1:World} {u v:Value} {xs:List α}
end
end Kd
theorem max2_int (k k':IntKind) (x y:Int):Builtin.max2 (.int k x) (.int k' y)=pure (.int k (if x < y then y else x)):=by simp only[Builtin.max2,gt_iff_lt]
theorem min2_int (k k':IntKind) (x y:Int):Builtin.min2 (.int k x) (.int k' y)=pure (.int k (if y < x then y else x)):=by simp only[Builtin.min2]
theorem max_two (ats:Array TypeId) (ty:TypeId) (a b:Value):Builtin.max_ ats ty #[a,b]=(Builtin.max2 a b >>= fun s=>pure s):=by simp only[Builtin.max_,List.foldlM_cons,List.foldlM_nil]
theorem min_two (ats:Array TypeId) (ty:TypeId) (a b:Value):Builtin.min_ ats ty #[a,b]=(Builtin.min2 a b >>= fun s=>pure s):=by simp only[Builtin.min_,List.foldlM_cons,List.foldlM_nil]
theorem max_three (ats:Array TypeId) (ty:TypeId) (a b c:Value):Builtin.max_ ats ty #[a,b,c]=(Builtin.max2 a b >>= fun s=>Builtin.max2 s c >>= fun s=>pure s):=by simp only[Builtin.max_,List.foldlM_cons,List.foldlM_nil]
theorem min_three (ats:Array TypeId) (ty:TypeId) (a b c:Value):Builtin.min_ ats ty #[a,b,c]=(Builtin.min2 a b >>= fun s=>Builtin.min2 s c >>= fun s=>pure s):=by simp only[Builtin.min_,List.foldlM_cons,List.foldlM_nil]
theorem max_four (ats:Array TypeId) (ty:TypeId) (a b c d:Value):Builtin.max_ ats ty #[a,b,c,d]=(Builtin.max2 a b >>= fun s=>Builtin.max2 s c >>= fun s=>Builtin.max2 s d >>= fun s=>pure s):=by simp only[Builtin.max_,List.foldlM_cons,List.foldlM_nil]
theorem min_four (ats:Array TypeId) (ty:TypeId) (a b c d:Value):Builtin.min_ ats ty #[a,b,c,d]=(Builtin.min2 a b >>= fun s=>Builtin.min2 s c >>= fun s=>Builtin.min2 s d >>= fun s=>pure s):=by simp only[Builtin.min_,List.foldlM_cons,List.foldlM_nil]
end Go.Proofs.YtmmfchnbfnegnaaGreatDoorW.PrintMore
namespace Go.Proofs.YtmmfchnbfnegnaaGreatDoorW.PrintWords
open Go.RowKit
section
variable {P:Program} {ops:Array Oper} {rest:List Oper} {o:Oper} {a:Act} {Q:Exit→Act→World→Prop} {W:World}
theorem gate_callee {f:FuncId} {as:Array Operand} {ts:Array TypeId} (_ho:o.op=.call {callee:=.value (.func f),args:=as,argTypes:=ts}) (h:wpList P ops Q (o::rest) a W):wpList P ops Q (o::rest) a W:=h
theorem gate_builtin {b:Builtin} {xs:Array Operand} {ts:Array TypeId} (_ho:o.op=.call {callee:=.builtin b,args:=xs,argTypes:=ts}) (h:wpList P ops Q (o::rest) a W):wpList P ops Q (o::rest) a W:=h
end
def mx (a b:Int):Int:=if a < b then b else a
def mn (a b:Int):Int:=if b < a then b else a
def shl (k:IntKind) (x y:Int):Int:=k.wrap (x * 2 ^ min y.toNat k.bits)
def shr (k:IntKind) (x y:Int):Int:=x / 2 ^ min y.toNat k.bits
theorem shl_small {k:IntKind} {x y j:Int} (h:shl k x y=j) (hy:y≤k.bits):k.wrap (x * 2 ^ y.toNat)=j:=by rw[←h];unfold shl;rw[Nat.min_eq_left (by omega)]
theorem shr_small {k:IntKind} {x y j:Int} (h:shr k x y=j) (hy:y≤k.bits):x / 2 ^ y.toNat=j:=by rw[←h];unfold shr;rw[Nat.min_eq_left (by omega)]
theorem drewN_self (w:World) (n:Nat):w.drewN n=w.drewN n:=rfl
namespace Kd
section
variable {α:Type} {d:Kd α} {e base:Nat} {ok:Nat→Prop} {W w1:World} {v:Value} {xs:List α}
theorem R_grown2 (h:d.R e W base ok v xs) (hE:d.E=[]) {row:Option Nat} (hg:W.grownBy w1 row) (hne:∀k,row=some k→some k≠v.ownBlock):d.R e w1 base ok v xs:=
 R_mono (R_grown (R_tight hE h) hg (fun k hk e_=>hne k e_.symm hk)) (fun k hk=>h.1 k hk.symm)
end
section
variable {α:Type} {d:Kd α} {e base g n cap:Nat} {ok oki okp:Nat→Prop} {W:World} {xs:List α} {i:Int} {c:List Value}
end
section
variable {α:Type} {d:Kd α} {e base b b' g N:Nat} {ok ok1:Nat→Prop} {W W2 w1:World} {u v:Value} {xs ys:List α} {S:Nat→Prop}
end
end Kd
end Go.Proofs.YtmmfchnbfnegnaaGreatDoorW.PrintWords
namespace Go.Proofs.YtmmfchnbfnegnaaGreatDoorW.PrintWords
open Go.RowKit
namespace Kd
def V {α:Type} (d:Kd α) (_e:Nat) (W:World) (_base:Nat) (ok:Nat→Prop) (v:Value) (xs:List α):Prop:=∃A c,v=.slice A xs.length c∧xs.length≤c∧F d W ok A xs.length xs
section
variable {α β:Type} {d:Kd α} {e base base' n m c g N' lo hi:Nat} {ok ok' S:Nat→Prop} {w W w1:World} {A:Option Addr} {ad:Addr} {u v v1:Value} {xs:List α}
theorem V_nil (d:Kd α) (e:Nat) (W:World) (base:Nat) (ok:Nat→Prop):V d e W base ok (.slice none 0 0) []:=⟨none,0,rfl,Nat.le_refl _,F_nil d W ok⟩
end
end Kd
end Go.Proofs.YtmmfchnbfnegnaaGreatDoorW.PrintWords
end
section
namespace Go.Proofs.YtmmfchnbfnegnaaGreatDoor.Z
open Go.RowKit Go.Proofs.YtmmfchnbfnegnaaGreatDoorW.PrintWords Go.Proofs.YtmmfchnbfnegnaaGreatDoorW.PrintLast
set_option linter.unusedVariables false
section
variable {P:Program} {ops:Array Oper} {Q:Exit→Act→World→Prop} {md:Region.Mode} {S:World→Prop} {ds:List Nat}
variable {oi:Oper} {v:Value} {fuel n:Nat} {l l':Array Bool} {a a':Act} {w:World} {T:Bool×List (List Nat×List Nat)} {B:List Nat}
theorem p_ (i m:Nat) (h:wpAnyLast P md ops Q S ds fuel l' a' w) (hi:ops[i]? =some oi:=by exact rfl) (hN:oi.dst=some m:=by exact rfl)
  (hy:Yields P ops oi v a:=by refine Or.inl ⟨by rfl,?_⟩;intro w';go_simp;with_reducible rfl)
  (ha:a.put (some m) v=a':=by simp only[Act.put,List.setIfInBounds_toArray,List.set_cons_zero,List.set_cons_succ,i64_w,i32_w];rfl) (hl:l.setIfInBounds i true=l':=by simp only[List.setIfInBounds_toArray,List.set_cons_zero,List.set_cons_succ];rfl)
  (hc:anyB md ops l l' i=true:=by kernel_rfl)
  (hQ:∀c a w,Q (.panic c) (a.put oi.dst v) w→Q (.panic c) a w:=by exact fun _ _ _ h=>h):wpAnyLast P md ops Q S ds (fuel + 1) l a w:=
 pure_ l' hi hN hc hQ hy ha h
theorem q_ (i m:Nat) (hT:Aside0 (rtab md ops=T)) (h:wpAnyLast P md ops Q S ds fuel l' a' w) (hi:ops[i]? =some oi:=by exact rfl) (hN:oi.dst=some m:=by exact rfl)
  (hy:Yields P ops oi v a:=by refine Or.inl ⟨by rfl,?_⟩;intro w';go_simp;with_reducible rfl)
  (ha:a.put (some m) v=a':=by simp only[Act.put,List.setIfInBounds_toArray,List.set_cons_zero,List.set_cons_succ,i64_w,i32_w];rfl) (hl:l.setIfInBounds i true=l':=by simp only[List.setIfInBounds_toArray,List.set_cons_zero,List.set_cons_succ];rfl)
  (hc:anyT T l.toList l'.toList i=true:=by kernel_rfl)
  (hQ:∀c a w,Q (.panic c) (a.put oi.dst v) w→Q (.panic c) a w:=by exact fun _ _ _ h=>h):wpAnyLast P md ops Q S ds (fuel + 1) l a w:=
 pure_ l' hi hN (any_of hT.out hc) hQ hy ha h
theorem x_ (i m:Nat) (h:wpAnyLast P md ops Q S ds fuel l' a' w) (hi:ops[i]? =some oi:=by exact rfl) (hN:oi.dst=some m:=by exact rfl)
  (hy:Yields P ops oi undef a:=by exact Or.inr ⟨by rfl,rfl⟩)
  (ha:a.put (some m) undef=a':=by simp only[Act.put,List.setIfInBounds_toArray,List.set_cons_zero,List.set_cons_succ,i64_w,i32_w];rfl) (hl:l.setIfInBounds i true=l':=by simp only[List.setIfInBounds_toArray,List.set_cons_zero,List.set_cons_succ];rfl)
  (hc:anyB md ops l l' i=true:=by kernel_rfl)
  (hQ:∀c a w,Q (.panic c) (a.put oi.dst undef) w→Q (.panic c) a w:=by exact fun _ _ _ h=>h):wpAnyLast P md ops Q S ds (fuel + 1) l a w:=
 pure_ l' hi hN hc hQ hy ha h
theorem y_ (i m:Nat) (hT:Aside0 (rtab md ops=T)) (h:wpAnyLast P md ops Q S ds fuel l' a' w) (hi:ops[i]? =some oi:=by exact rfl) (hN:oi.dst=some m:=by exact rfl)
  (hy:Yields P ops oi undef a:=by exact Or.inr ⟨by rfl,rfl⟩)
  (ha:a.put (some m) undef=a':=by simp only[Act.put,List.setIfInBounds_toArray,List.set_cons_zero,List.set_cons_succ,i64_w,i32_w];rfl) (hl:l.setIfInBounds i true=l':=by simp only[List.setIfInBounds_toArray,List.set_cons_zero,List.set_cons_succ];rfl)
  (hc:anyT T l.toList l'.toList i=true:=by kernel_rfl)
  (hQ:∀c a w,Q (.panic c) (a.put oi.dst undef) w→Q (.panic c) a w:=by exact fun _ _ _ h=>h):wpAnyLast P md ops Q S ds (fuel + 1) l a w:=
 pure_ l' hi hN (any_of hT.out hc) hQ hy ha h
theorem t_ (i m:Nat) (hS:S w) (h:wpAnyLast P md ops Q S ds fuel l' a' w) (hi:ops[i]? =some oi:=by exact rfl) (hN:oi.dst=some m:=by exact rfl)
  (hy:YieldsIf P ops S oi v a:=by refine Or.inl ⟨by rfl,?_⟩;intro w' s_;(repeat (have t_:=And.left s_;replace s_:=And.right s_));go_simp;with_reducible rfl)
  (ha:a.put (some m) v=a':=by simp only[Act.put,List.setIfInBounds_toArray,List.set_cons_zero,List.set_cons_succ,i64_w,i32_w];rfl) (hl:l.setIfInBounds i true=l':=by simp only[List.setIfInBounds_toArray,List.set_cons_zero,List.set_cons_succ];rfl)
  (hc:takeB md ops ds l l' i=true:=by kernel_rfl)
  (hQ:∀c a w,Q (.panic c) (a.put oi.dst v) w→Q (.panic c) a w:=by exact fun _ _ _ h=>h):wpAnyLast P md ops Q S ds (fuel + 1) l a w:=
 take_ l' hi hN hc hQ hy hS ha h
theorem u_ (i m:Nat) (hT:Aside0 (rtab md ops=T)) (hB:Aside0 (waitsOk T.2 B=true)) (hS:S w) (h:wpAnyLast P md ops Q S ds fuel l' a' w) (hi:ops[i]? =some oi:=by exact rfl) (hN:oi.dst=some m:=by exact rfl)
  (hy:YieldsIf P ops S oi v a:=by refine Or.inl ⟨by rfl,?_⟩;intro w' s_;(repeat (have t_:=And.left s_;replace s_:=And.right s_));go_simp;with_reducible rfl)
  (ha:a.put (some m) v=a':=by simp only[Act.put,List.setIfInBounds_toArray,List.set_cons_zero,List.set_cons_succ,i64_w,i32_w];rfl) (hl:l.setIfInBounds i true=l':=by simp only[List.setIfInBounds_toArray,List.set_cons_zero,List.set_cons_succ];rfl)
  (hc:takeW T B ds l.toList l'.toList i=true:=by kernel_rfl)
  (hQ:∀c a w,Q (.panic c) (a.put oi.dst v) w→Q (.panic c) a w:=by exact fun _ _ _ h=>h):wpAnyLast P md ops Q S ds (fuel + 1) l a w:=
 take_ l' hi hN (take_ofW hT.out hB.out hc) hQ hy hS ha h
theorem n_ (m:Nat) (h:wpAnyLast P md ops Q S ds fuel l a' w) (ha:a.put (some m) v=a':=by simp only[Act.put,List.setIfInBounds_toArray,List.set_cons_zero,List.set_cons_succ,i64_w,i32_w];rfl):wpAnyLast P md ops Q S ds fuel l (a.put (some m) v) w:=norm_ ha h
end
section
variable {P:Program} {ops:Array Oper} {Q:Exit→Act→World→Prop} {rest:List Oper} {o:Oper} {a:Act} {W:World}
theorem gl (n:Nat) {f:FuncId} {fn:Func} {as:Array Operand} {ts:Array TypeId} (hf:P.funcs[f]? =some fn) (args:Array Value)
  (h:Calls P f args W fun e w'=>∃v,e=.returned v∧wpList P ops Q rest (a.put (some n) v) w') (hd:o.dst=some n:=by exact rfl) (hg:o.guard=none:=by exact rfl) (hname:(fn.name == "runtime.NumGoroutine")=false:=by kernel_rfl) (hb:fn.body.isSome=true:=by exact rfl)
  (hop:o.op=.call {callee:=.value (.func f),args:=as,argTypes:=ts}:=by exact rfl)
  (hargs:as.map a.eval=args:=by (try simp only[List.map_toArray,List.map_cons,List.map_nil]);first|done|rfl|(simp only[List.length_drop,List.length_take];rfl)):wpList P ops Q (o::rest) a W:=goesL_ (some n) hd hg hf hname hb args hop hargs h
theorem bx (n:Nat) (cs:Array Value) (t:TypeId) (h:∀g,g=W.heap.size→∀w1,w1.heap[g]? =some (.cells cs t (0,0))→Below W.heap.size W w1→wpList P ops Q rest (a.put o.dst (.pointer (some ⟨g,0,none⟩))) w1)
  (hd:o.dst=some n:=by exact rfl) (hgd:o.guard=none:=by exact rfl)
  (hr:(execOp a.eval o).run P W=.ok (.value (.pointer (some ⟨W.heap.size,0,none⟩))) (W.alloc (.cells cs t (0,0))):=by first|(go_simp;done)|(go_simp;rfl)):wpList P ops Q (o::rest) a W:=box_event hgd hd hr h
theorem bl {B:Nat} {w0 w2:World} (h:Below B w0 w2:=by repeat (first|(with_reducible first|exact HB.out|apply below_alloc|apply pw_below_drewN|apply below_drew1|refine below_set ?_ (Aside0.out (by assumption)))|exact HB.out)):Below B w0 w2:=h
theorem bk {w2:World} {g:Nat} {o:Obj} (h:w2.heap[g]? =some o:=by (with_reducible repeat (first|refine blk_drewN ?_ _|refine blk_drew ?_|refine blk_alloc ?_ _));first|(with_reducible exact Aside0.out (by assumption))|exact Aside0.out (by assumption)):w2.heap[g]? =some o:=h
theorem dr {w w':World} (h:Drawn0 w w':=by repeat (first|exact Drawn0.refl _|apply Drawn0.step)):Drawn0 w w':=h
theorem fa {w:World} {g:Nat} {p:Addr} {u:Value} {o:Option Obj} (hp:Aside0 (g≠p.block)) (h:w.heap[g]? =o):(w.setCell p u).heap[g]? =o:=(Below.heap_setCell w p u g hp.out).trans h
theorem bs {w2:World} {g t:Nat} {cs cs':Array Value} (h:w2.heap[g]? =some (.cells cs' t (0,0)):=by repeat (first|(with_reducible exact Aside0.out (by assumption))|(with_reducible first|refine blk_drewN ?_ _|refine blk_drew ?_|refine blk_alloc ?_ _)|(with_reducible (refine blk_set (cs:=?_) ?_ _ _;rotate_left))|(refine Z.fa ?_ ?_;assumption))) (e:cs'=cs:=by first|(with_reducible rfl)|(simp only[List.setIfInBounds_toArray,List.set_cons_zero,List.set_cons_succ];done)|(simp only[List.setIfInBounds_toArray,List.set_cons_zero,List.set_cons_succ];rfl)|rfl):w2.heap[g]? =some (.cells cs t (0,0)):=e▸h
theorem kb {w1 w2 w3:World} {g:Nat} {o:Obj} (_H:Aside0 (w1.heap[g]? =some o)) (hb:Below w2.heap.size w2 w3) (h:w2.heap[g]? =some o:=by (with_reducible repeat (first|refine blk_drewN ?_ _|refine blk_drew ?_|refine blk_alloc ?_ _));first|(with_reducible exact Aside0.out (by assumption))|exact Aside0.out (by assumption)):Aside0 (w3.heap[g]? =some o):=⟨blk_below h hb⟩
theorem sb {w0 w2 w3:World} (hb:Below w2.heap.size w2 w3) (h:Below w0.heap.size w0 w2:=by repeat (first|(with_reducible first|exact HB.out|apply below_alloc|apply pw_below_drewN|apply below_drew1|refine below_set ?_ (Aside0.out (by assumption)))|exact HB.out)):Aside0 (Below w0.heap.size w0 w3):=⟨below_step h hb⟩
theorem ge {w0 w2:World} {g:Nat} (hg:g=w2.heap.size) (h:Below w0.heap.size w0 w2:=by repeat (first|(with_reducible first|exact HB.out|apply below_alloc|apply pw_below_drewN|apply below_drew1|refine below_set ?_ (Aside0.out (by assumption)))|exact HB.out)):Aside0 (w0.heap.size≤g):=⟨hg▸below_size h⟩
theorem nl {w1 w2:World} {g g':Nat} {o:Obj} (_H:Aside0 (w1.heap[g]? =some o)) (hg:g'=w2.heap.size) (h:w2.heap[g]? =some o:=by (with_reducible repeat (first|refine blk_drewN ?_ _|refine blk_drew ?_|refine blk_alloc ?_ _));first|(with_reducible exact Aside0.out (by assumption))|exact Aside0.out (by assumption)):Aside0 (g≠g'):=⟨by rw[hg];exact Nat.ne_of_lt (blk_lt h)⟩
theorem ng {w1 w2:World} {g g':Nat} {o:Obj} (_H:Aside0 (w1.heap[g]? =some o)) (hg:g'=w2.heap.size) (h:w2.heap[g]? =some o:=by (with_reducible repeat (first|refine blk_drewN ?_ _|refine blk_drew ?_|refine blk_alloc ?_ _));first|(with_reducible exact Aside0.out (by assumption))|exact Aside0.out (by assumption)):Aside0 (g'≠g):=⟨by rw[hg];exact Nat.ne_of_gt (blk_lt h)⟩
theorem kc {w w':World} {x:Addr} {v:Value} (H:Aside0 (Below w.heap.size w w')) (h:w.cell? x=some v):w'.cell? x=some v:=(H.out.cell (World.block_lt_of_cell? w _ h)).trans h
theorem e_ {α:Type} {x y:α} (h:x=y:=by first|rfl|(simp[errW_none,errW_some] <;> rfl)|(simp[*,errW_none,errW_some] <;> rfl)):x=y:=h
theorem r_ {α:Type} {x y:α} (h:x=y:=by first|rfl|(simp;done)|(simp[*];done)):x=y:=h
theorem c0 {w:World} {g t:Nat} {x0:Value} {r:List Value} (h:w.heap[g]? =some (.cells (List.toArray (x0::r)) t (0,0))):w.cell? ⟨g,0,none⟩=some x0:=(blk_cell h 0).trans rfl
theorem c1 {w:World} {g t:Nat} {x0 x1:Value} {r:List Value} (h:w.heap[g]? =some (.cells (List.toArray (x0::x1::r)) t (0,0))):w.cell? ⟨g,1,none⟩=some x1:=(blk_cell h 1).trans rfl
theorem c2 {w:World} {g t:Nat} {x0 x1 x2:Value} {r:List Value} (h:w.heap[g]? =some (.cells (List.toArray (x0::x1::x2::r)) t (0,0))):w.cell? ⟨g,2,none⟩=some x2:=(blk_cell h 2).trans rfl
theorem c3 {w:World} {g t:Nat} {x0 x1 x2 x3:Value} {r:List Value} (h:w.heap[g]? =some (.cells (List.toArray (x0::x1::x2::x3::r)) t (0,0))):w.cell? ⟨g,3,none⟩=some x3:=(blk_cell h 3).trans rfl
theorem c4 {w:World} {g t:Nat} {x0 x1 x2 x3 x4:Value} {r:List Value} (h:w.heap[g]? =some (.cells (List.toArray (x0::x1::x2::x3::x4::r)) t (0,0))):w.cell? ⟨g,4,none⟩=some x4:=(blk_cell h 4).trans rfl
theorem c5 {w:World} {g t:Nat} {x0 x1 x2 x3 x4 x5:Value} {r:List Value} (h:w.heap[g]? =some (.cells (List.toArray (x0::x1::x2::x3::x4::x5::r)) t (0,0))):w.cell? ⟨g,5,none⟩=some x5:=(blk_cell h 5).trans rfl
theorem c6 {w:World} {g t:Nat} {x0 x1 x2 x3 x4 x5 x6:Value} {r:List Value} (h:w.heap[g]? =some (.cells (List.toArray (x0::x1::x2::x3::x4::x5::x6::r)) t (0,0))):w.cell? ⟨g,6,none⟩=some x6:=(blk_cell h 6).trans rfl
theorem c7 {w:World} {g t:Nat} {x0 x1 x2 x3 x4 x5 x6 x7:Value} {r:List Value} (h:w.heap[g]? =some (.cells (List.toArray (x0::x1::x2::x3::x4::x5::x6::x7::r)) t (0,0))):w.cell? ⟨g,7,none⟩=some x7:=(blk_cell h 7).trans rfl
theorem b1 {w:World} {g t:Nat} {x0:Value} {r:List Value} (h:Aside0 (w.heap[g]? =some (.cells (List.toArray (x0::r)) t (0,0)))):w.cell? ⟨g,0,none⟩=some x0∧w.frozen? ⟨g,0,none⟩=false:=⟨c0 h.out,blk_frozen h.out 0⟩
theorem b2 {w:World} {g t:Nat} {x0 x1:Value} {r:List Value} (h:Aside0 (w.heap[g]? =some (.cells (List.toArray (x0::x1::r)) t (0,0)))):w.cell? ⟨g,0,none⟩=some x0∧w.frozen? ⟨g,0,none⟩=false∧w.cell? ⟨g,1,none⟩=some x1∧w.frozen? ⟨g,1,none⟩=false:=⟨c0 h.out,blk_frozen h.out 0,c1 h.out,blk_frozen h.out 1⟩
theorem b3 {w:World} {g t:Nat} {x0 x1 x2:Value} {r:List Value} (h:Aside0 (w.heap[g]? =some (.cells (List.toArray (x0::x1::x2::r)) t (0,0)))):w.cell? ⟨g,0,none⟩=some x0∧w.frozen? ⟨g,0,none⟩=false∧w.cell? ⟨g,1,none⟩=some x1∧w.frozen? ⟨g,1,none⟩=false∧w.cell? ⟨g,2,none⟩=some x2∧w.frozen? ⟨g,2,none⟩=false:=⟨c0 h.out,blk_frozen h.out 0,c1 h.out,blk_frozen h.out 1,c2 h.out,blk_frozen h.out 2⟩
theorem b4 {w:World} {g t:Nat} {x0 x1 x2 x3:Value} {r:List Value} (h:Aside0 (w.heap[g]? =some (.cells (List.toArray (x0::x1::x2::x3::r)) t (0,0)))):w.cell? ⟨g,0,none⟩=some x0∧w.frozen? ⟨g,0,none⟩=false∧w.cell? ⟨g,1,none⟩=some x1∧w.frozen? ⟨g,1,none⟩=false∧w.cell? ⟨g,2,none⟩=some x2∧w.frozen? ⟨g,2,none⟩=false∧w.cell? ⟨g,3,none⟩=some x3∧w.frozen? ⟨g,3,none⟩=false:=⟨c0 h.out,blk_frozen h.out 0,c1 h.out,blk_frozen h.out 1,c2 h.out,blk_frozen h.out 2,c3 h.out,blk_frozen h.out 3⟩
theorem b5 {w:World} {g t:Nat} {x0 x1 x2 x3 x4:Value} {r:List Value} (h:Aside0 (w.heap[g]? =some (.cells (List.toArray (x0::x1::x2::x3::x4::r)) t (0,0)))):w.cell? ⟨g,0,none⟩=some x0∧w.frozen? ⟨g,0,none⟩=false∧w.cell? ⟨g,1,none⟩=some x1∧w.frozen? ⟨g,1,none⟩=false∧w.cell? ⟨g,2,none⟩=some x2∧w.frozen? ⟨g,2,none⟩=false∧w.cell? ⟨g,3,none⟩=some x3∧w.frozen? ⟨g,3,none⟩=false∧w.cell? ⟨g,4,none⟩=some x4∧w.frozen? ⟨g,4,none⟩=false:=⟨c0 h.out,blk_frozen h.out 0,c1 h.out,blk_frozen h.out 1,c2 h.out,blk_frozen h.out 2,c3 h.out,blk_frozen h.out 3,c4 h.out,blk_frozen h.out 4⟩
theorem b6 {w:World} {g t:Nat} {x0 x1 x2 x3 x4 x5:Value} {r:List Value} (h:Aside0 (w.heap[g]? =some (.cells (List.toArray (x0::x1::x2::x3::x4::x5::r)) t (0,0)))):w.cell? ⟨g,0,none⟩=some x0∧w.frozen? ⟨g,0,none⟩=false∧w.cell? ⟨g,1,none⟩=some x1∧w.frozen? ⟨g,1,none⟩=false∧w.cell? ⟨g,2,none⟩=some x2∧w.frozen? ⟨g,2,none⟩=false∧w.cell? ⟨g,3,none⟩=some x3∧w.frozen? ⟨g,3,none⟩=false∧w.cell? ⟨g,4,none⟩=some x4∧w.frozen? ⟨g,4,none⟩=false∧w.cell? ⟨g,5,none⟩=some x5∧w.frozen? ⟨g,5,none⟩=false:=⟨c0 h.out,blk_frozen h.out 0,c1 h.out,blk_frozen h.out 1,c2 h.out,blk_frozen h.out 2,c3 h.out,blk_frozen h.out 3,c4 h.out,blk_frozen h.out 4,c5 h.out,blk_frozen h.out 5⟩
theorem b7 {w:World} {g t:Nat} {x0 x1 x2 x3 x4 x5 x6:Value} {r:List Value} (h:Aside0 (w.heap[g]? =some (.cells (List.toArray (x0::x1::x2::x3::x4::x5::x6::r)) t (0,0)))):w.cell? ⟨g,0,none⟩=some x0∧w.frozen? ⟨g,0,none⟩=false∧w.cell? ⟨g,1,none⟩=some x1∧w.frozen? ⟨g,1,none⟩=false∧w.cell? ⟨g,2,none⟩=some x2∧w.frozen? ⟨g,2,none⟩=false∧w.cell? ⟨g,3,none⟩=some x3∧w.frozen? ⟨g,3,none⟩=false∧w.cell? ⟨g,4,none⟩=some x4∧w.frozen? ⟨g,4,none⟩=false∧w.cell? ⟨g,5,none⟩=some x5∧w.frozen? ⟨g,5,none⟩=false∧w.cell? ⟨g,6,none⟩=some x6∧w.frozen? ⟨g,6,none⟩=false:=⟨c0 h.out,blk_frozen h.out 0,c1 h.out,blk_frozen h.out 1,c2 h.out,blk_frozen h.out 2,c3 h.out,blk_frozen h.out 3,c4 h.out,blk_frozen h.out 4,c5 h.out,blk_frozen h.out 5,c6 h.out,blk_frozen h.out 6⟩
theorem b8 {w:World} {g t:Nat} {x0 x1 x2 x3 x4 x5 x6 x7:Value} {r:List Value} (h:Aside0 (w.heap[g]? =some (.cells (List.toArray (x0::x1::x2::x3::x4::x5::x6::x7::r)) t (0,0)))):w.cell? ⟨g,0,none⟩=some x0∧w.frozen? ⟨g,0,none⟩=false∧w.cell? ⟨g,1,none⟩=some x1∧w.frozen? ⟨g,1,none⟩=false∧w.cell? ⟨g,2,none⟩=some x2∧w.frozen? ⟨g,2,none⟩=false∧w.cell? ⟨g,3,none⟩=some x3∧w.frozen? ⟨g,3,none⟩=false∧w.cell? ⟨g,4,none⟩=some x4∧w.frozen? ⟨g,4,none⟩=false∧w.cell? ⟨g,5,none⟩=some x5∧w.frozen? ⟨g,5,none⟩=false∧w.cell? ⟨g,6,none⟩=some x6∧w.frozen? ⟨g,6,none⟩=false∧w.cell? ⟨g,7,none⟩=some x7∧w.frozen? ⟨g,7,none⟩=false:=⟨c0 h.out,blk_frozen h.out 0,c1 h.out,blk_frozen h.out 1,c2 h.out,blk_frozen h.out 2,c3 h.out,blk_frozen h.out 3,c4 h.out,blk_frozen h.out 4,c5 h.out,blk_frozen h.out 5,c6 h.out,blk_frozen h.out 6,c7 h.out,blk_frozen h.out 7⟩
theorem od {p:Prop} [Decidable p] (h:decide p=true:=by first|(with_reducible assumption)|assumption):p:=of_decide_eq_true h
end
section
variable {P:Program} {ops:Array Oper} {Q:Exit→Act→World→Prop} {S:World→Prop} {ds:List Nat} {md:Region.Mode}
theorem gs {oi:Oper} {N:Option Tmp} {a:Act} {w:World} {K:Act→World→Prop} {f:FuncId} {fn:Func} {as:Array Operand} {ts:Array TypeId} (hf:P.funcs[f]? =some fn) (args:Array Value)
  (h:Calls P f args w fun e w'=>∃v,e=.returned v∧K (a.put N v) w') (hname:(fn.name == "runtime.NumGoroutine")=false:=by kernel_rfl) (hb:fn.body.isSome=true:=by exact rfl)
  (hw:Region.wanted oi (yielded ops a.tmps)=true:=by rfl) (hN:oi.dst=N:=by exact rfl) (hop:oi.op=.call {callee:=.value (.func f),args:=as,argTypes:=ts}:=by exact rfl)
  (hargs:as.map a.eval=args:=by (try simp only[List.map_toArray,List.map_cons,List.map_nil]);first|done|rfl):if Region.wanted oi (yielded ops a.tmps)=true then Oper.wp P oi a w K Q else K (a.put N undef) w:=goes_ hf hname hb args hw hN hop hargs h
theorem on {oi:Oper} {fuel:Nat} {l l':Array Bool} {a:Act} {w:World} (i:Nat) (N:Option Tmp)
  (h:∀K:Act→World→Prop,Shut (∀a' w',S w'→(S w'→wpAnyLast P md ops Q S ds fuel l' a' w')→K a' w')→if Region.wanted oi (yielded ops a.tmps)=true then Oper.wp P oi a w K Q else K (a.put N undef) w)
  (hl:l.setIfInBounds i true=l':=by simp only[List.setIfInBounds_toArray,List.set_cons_zero,List.set_cons_succ];rfl)
  (hi:ops[i]? =some oi:=by exact rfl) (hN:oi.dst=N:=by exact rfl) (hc:readyB md ops l l' i=true:=by kernel_rfl) (hd:i ∉ ds:=by decide):wpAnyLast P md ops Q S ds (fuel + 1) l a w:=one_ l' hi hN hc hd h
theorem la {oi:Oper} {fuel:Nat} {l l':Array Bool} {a:Act} {w:World} (i:Nat) (N:Option Tmp)
  (h:∀K:Act→World→Prop,Shut (∀a' w',wpAnyLast P md ops Q S ds fuel l' a' w'→K a' w')→if Region.wanted oi (yielded ops a.tmps)=true then Oper.wp P oi a w K Q else K (a.put N undef) w)
  (hl:l.setIfInBounds i true=l':=by simp only[List.setIfInBounds_toArray,List.set_cons_zero,List.set_cons_succ];rfl)
  (hi:ops[i]? =some oi:=by exact rfl) (hN:oi.dst=N:=by exact rfl) (hc:readyB md ops l l' i=true:=by kernel_rfl) (hd:i∈ds:=by decide):wpAnyLast P md ops Q S ds (fuel + 1) l a w:=last_ l' hi hN hc hd h
end
end Go.Proofs.YtmmfchnbfnegnaaGreatDoor.Z
namespace Go.Proofs.YtmmfchnbfnegnaaGreatDoor
open Go.Proofs.YtmmfchnbfnegnaaGreatDoorW.PrintWords
theorem As {p:Prop} (h:p):Aside0 p:=⟨h⟩
end Go.Proofs.YtmmfchnbfnegnaaGreatDoor
end
