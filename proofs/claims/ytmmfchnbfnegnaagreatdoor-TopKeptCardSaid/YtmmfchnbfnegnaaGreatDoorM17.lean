import Derived.Test.YtmmfchnbfnegnaaGreatDoorM15
import Derived.Test.YtmmfchnbfnegnaaGreatDoorM16
import Derived.Test.YtmmfchnbfnegnaaGreatDoorM03
import Derived.Test.YtmmfchnbfnegnaaGreatDoorM14
import Derived.Test.YtmmfchnbfnegnaaGreatDoorM06
import Derived.Test.YtmmfchnbfnegnaaGreatDoorM13
import Derived.Test.YtmmfchnbfnegnaaGreatDoorM04
section
namespace Go.Proofs.YtmmfchnbfnegnaaGreatDoor.K
open Go.RowKit Go.Proofs.YtmmfchnbfnegnaaGreatDoorW.PrintWords Go.Proofs.YtmmfchnbfnegnaaGreatDoorW.PrintLast Go.Proofs.YtmmfchnbfnegnaaGreatDoorW.PrintMore Go.Proofs.YtmmfchnbfnegnaaGreatDoor.GK Go.Proofs.YtmmfchnbfnegnaaGreatDoor.Pu Go.Proofs.YtmmfchnbfnegnaaGreatDoor.PuBitW Go.Proofs.YtmmfchnbfnegnaaGreatDoor.PuBits Go.Proofs.YtmmfchnbfnegnaaGreatDoor.PuBitsLay Go.Proofs.YtmmfchnbfnegnaaGreatDoor.PuBitsBoth Go.Proofs.YtmmfchnbfnegnaaGreatDoor.PuBitsFillJ Go.Proofs.YtmmfchnbfnegnaaGreatDoor.PuPages Go.Proofs.YtmmfchnbfnegnaaGreatDoor.PuBitsRunI
set_option linter.unusedVariables false
def spNew (f n0:Nat):Sp:=⟨f,pgOf n0,szOf n0,true,fun _=>none⟩
def xNew (f n0:Nat):S51:=⟨(f:Int),(pgOf n0:Int),(szOf n0:Int),⟨((slotsOf (szOf n0):Nat):Int),[0]⟩,⟨((slotsOf (szOf n0):Nat):Int),[0]⟩,true⟩
theorem sz_cases (n0:Nat) (hn:n0≤48):(szOf n0=0∧2≤pgOf n0∧pgOf n0≤4)∨((szOf n0=2∨szOf n0=4∨szOf n0=8∨szOf n0=16)∧pgOf n0=1):=by
 unfold szOf pgOf
 repeat' split
 all_goals omega
theorem zero_bit (k:Nat):bitAt [0] k=false:=by
 unfold bitAt
 by_cases h:k / 64=0
 ·rw[h];simp
 ·obtain⟨q,hq⟩:∃q,k / 64=q + 1:=⟨k / 64 - 1,by omega⟩
  rw[hq];simp
theorem new_good {f n0:Nat} (hn:n0≤48) (h1:1≤f) (h2:f + pgOf n0≤30):SpGood (spNew f n0):=⟨sz_cases n0 hn,h1,h2,fun k o h=>by cases h⟩
theorem new_rel (f n0:Nat) (hn:n0≤48) (h1:1≤f) (h2:f + pgOf n0≤30):XRel (xNew f n0) (spNew f n0):=by
 have hs:=(new_good hn h1 h2).slots_pos
 have hb:BRel [0] (spNew f n0).slots (fun _=>false):=by
  refine⟨fun x hx=>by rw[List.mem_singleton.1 hx];decide,⟨by omega,by omega,?_,fun i _ _=>zero_bit i⟩,fun k=>zero_bit k⟩
  show (1:Int)=_
  omega
 exact⟨rfl,rfl,rfl,rfl,rfl,hb,hb,rfl⟩
theorem make_ev {f n0:Nat} (hn:n0≤48) (h1:1≤f) (h2:f + pgOf n0≤30):Ev (fun k=>span_Make.f k (f:Int) (pgOf n0:Int) (szOf n0:Int)) ((f:Int),(pgOf n0:Int),(szOf n0:Int),((slotsOf (szOf n0):Nat):Int),[0],((slotsOf (szOf n0):Nat):Int),[0],true,0):=by
 have hr:=(new_rel f n0 hn h1 h2).right (new_good hn h1 h2)
 have hsh:span_shaped.f (pgOf n0:Int) (szOf n0:Int)=some true:=by
  unfold span_shaped.f
  rcases sz_cases n0 hn with⟨e,e1,e2⟩|⟨e|e|e|e,e1⟩ <;> rw[e]
  ·simp[show (2:Int)≤(pgOf n0:Int) by omega,show (pgOf n0:Int)≤4 by omega]
  all_goals simp[e1]
 have hsl:span_slots.f (szOf n0:Int)=some ((slotsOf (szOf n0):Nat):Int):=by
  unfold span_slots.f slotsOf
  rcases sz_cases n0 hn with⟨e,e1,e2⟩|⟨e|e|e|e,e1⟩ <;> rw[e] <;> decide +kernel
 have hbm:bits_Make.f ((slotsOf (szOf n0):Nat):Int)=some (((slotsOf (szOf n0):Nat):Int),[0],0):=by
  unfold slotsOf
  rcases sz_cases n0 hn with⟨e,e1,e2⟩|⟨e|e|e|e,e1⟩ <;> rw[e] <;> decide +kernel
 unfold span_Make.f
 simp only[hsh,hsl,hbm,Option.bind_some,if_true]
 refine Ev.bind (ev_const (own_eq _ [0] (by decide))) ?_
 exact Ev.bind hr (ev_const rfl)
theorem place_of {ps:List Sp} (h:Good ps) (s n:Nat) (hn:1≤n) (hd:∀p∈ps,p.first + p.pages≤s∨s + n≤p.first):∃i,i≤ps.length∧(∀j p,ps[j]? =some p→j < i→p.first + p.pages≤s)∧∀j p,ps[j]? =some p→i≤j→s + n≤p.first:=by
 induction ps with
 |nil=>exact⟨0,Nat.le_refl _,fun j p hp=>by simp at hp,fun j p hp=>by simp at hp⟩
 |cons q r ih=>
  have hr:Good r:=⟨fun p hp=>h.sp p (List.mem_cons_of_mem _ hp),(List.pairwise_cons.1 h.ap).2⟩
  rcases hd q List.mem_cons_self with c|c
  ·obtain⟨i,h1,h2,h3⟩:=ih hr (fun p hp=>hd p (List.mem_cons_of_mem _ hp))
   refine⟨i + 1,by simpa using h1,fun j p hp hj=>?_,fun j p hp hj=>?_⟩
   ·cases j with
    |zero=>simp at hp;subst hp;exact c
    |succ j=>exact h2 j p hp (by omega)
   ·cases j with
    |zero=>omega
    |succ j=>exact h3 j p hp (by omega)
  ·refine⟨0,Nat.zero_le _,fun j p hp hj=>by omega,fun j p hp _=>?_⟩
   cases j with
   |zero=>simp at hp;subst hp;exact c
   |succ j=>
    have h1:=(List.pairwise_cons.1 h.ap).1 p (List.mem_of_getElem? hp)
    omega
theorem ins_get {α:Type} (l:List α) (a:α) {i:Nat} (hi:i≤l.length) (j:Nat):(l.take i ++ [a] ++ l.drop i)[j]? =if j < i then l[j]? else if j=i then some a else l[j - 1]? :=by
 have hl:(l.take i).length=i:=by rw[List.length_take];omega
 rw[List.append_assoc,List.getElem?_append,hl]
 by_cases c:j < i
 ·rw[if_pos c,if_pos c,List.getElem?_take,if_pos c]
 ·rw[if_neg c,if_neg c]
  by_cases e:j=i
  ·subst e;simp
  ·rw[if_neg e]
   obtain⟨d,hd⟩:∃d,j - i=d + 1:=⟨j - i - 1,by omega⟩
   rw[hd,List.singleton_append,List.getElem?_cons_succ,List.getElem?_drop]
   congr 1;omega
theorem ins_mem {α:Type} (l:List α) (a b:α) (i:Nat):b∈l.take i ++ [a] ++ l.drop i↔b=a∨b∈l:=by
 rw[List.append_assoc,List.mem_append,List.mem_append,List.mem_singleton]
 constructor
 ·rintro (h|h|h)
  ·exact .inr (List.mem_of_mem_take h)
  ·exact .inl h
  ·exact .inr (List.mem_of_mem_drop h)
 ·rintro (h|h)
  ·exact .inr (.inl h)
  ·rw[←List.take_append_drop i l,List.mem_append] at h
   rcases h with h|h
   ·exact .inl h
   ·exact .inr (.inr h)
theorem ins_good {ps:List Sp} (h:Good ps) {p:Sp} (hp:SpGood p) {i:Nat} (hi:i≤ps.length) (hlo:∀j q,ps[j]? =some q→j < i→q.first + q.pages≤p.first) (hhi:∀j q,ps[j]? =some q→i≤j→p.first + p.pages≤q.first):Good (ps.take i ++ [p] ++ ps.drop i):=by
 refine⟨fun q hq=>?_,?_⟩
 ·rcases (ins_mem ps p q i).1 hq with rfl|hq
  ·exact hp
  ·exact h.sp q hq
 ·rw[List.append_assoc,List.pairwise_append,List.singleton_append,List.pairwise_cons]
  have hs:=h.ap
  rw[←List.take_append_drop i ps,List.pairwise_append] at hs
  refine⟨hs.1,⟨fun q hq=>?_,hs.2.1⟩,fun a ha b hb=>?_⟩
  ·obtain⟨j,hj,rfl⟩:=List.mem_iff_getElem.1 hq
   rw[List.length_drop] at hj
   rw[List.getElem_drop]
   exact hhi (i + j) _ (List.getElem?_eq_getElem (by omega)) (by omega)
  ·rcases List.mem_cons.1 hb with rfl|hb
   ·obtain⟨j,hj,rfl⟩:=List.mem_iff_getElem.1 ha
    rw[List.length_take] at hj
    rw[List.getElem_take]
    exact hlo j _ (List.getElem?_eq_getElem (by omega)) (by omega)
   ·exact hs.2.2 a ha b hb
theorem ins_has {ps:List Sp} {f n0 i:Nat} (a:Nat) (o:Ob):Has (ps.take i ++ [spNew f n0] ++ ps.drop i) a o↔Has ps a o:=by
 constructor
 ·rintro⟨p,hp,k,h1,h2⟩
  rcases (ins_mem ps _ p i).1 hp with rfl|hp
  ·cases h1
  ·exact⟨p,hp,k,h1,h2⟩
 ·rintro⟨p,hp,k,h1,h2⟩
  exact⟨p,(ins_mem ps _ p i).2 (.inr hp),k,h1,h2⟩
theorem HRel.grow {ps:List Sp} {ws us:List Int} {xs:List S51} (h:HRel ps ws us xs) {n0:Nat} (hn:n0≤48):
  (∃q,pages_Take.f q 30 us (pgOf n0:Int)=some (30,us,0,6))∨
  ∃(f i:Nat) (us':List Int) (q:Nat),pages_Take.f q 30 us (pgOf n0:Int)=some (30,us',(f:Int),0)∧1≤f∧f + pgOf n0≤30∧i≤xs.length∧(∀j x,xs[j]? =some x→j < i→x.f0 + x.f1≤(f:Int))∧(∀j x,xs[j]? =some x→i≤j→(f:Int) + (pgOf n0:Int)≤x.f0)∧
   HRel (ps.take i ++ [spNew f n0] ++ ps.drop i) ws us' (xs.take i ++ [xNew f n0] ++ xs.drop i):=by
 have hpg:1≤pgOf n0∧pgOf n0≤4:=by rcases sz_cases n0 hn with⟨_,a,b⟩|⟨_,a⟩ <;> omega
 have hf:BFit 30 us:=h.u.fit
 rcases Take_ev (n:=30) h.u.wf h.u.small (pgOf n0:Int) (by omega) with⟨hb,_⟩|⟨_,⟨hb,_⟩|⟨_,⟨s,hs,he⟩|⟨_,he⟩⟩⟩
 ·exact absurd hf hb
 ·omega
 ·refine .inr ?_
  obtain⟨f,rfl⟩:∃f:Nat,s=(f:Int):=⟨s.toNat,by have:=hs.ge;omega⟩
  have hle:=hs.le
  have hclr:∀j:Nat,f≤j→j < f + pgOf n0→inSp ps j=false:=fun j j0 j1=>by
   have:=hs.so (j:Int) (by omega) (by omega)
   rwa [Int.toNat_natCast,h.u.bit] at this
  have h1:1≤f:=by
   apply Classical.byContradiction;intro c
   have:=hclr 0 (by omega) (by omega)
   simp[inSp] at this
  have hdis:∀p∈ps,p.first + p.pages≤f∨f + pgOf n0≤p.first:=fun p hp=>by
   have hpp:1≤p.pages:=by rcases (h.good.sp p hp).shaped with⟨_,a,b⟩|⟨_,a⟩ <;> omega
   have hin:∀j,p.first≤j→j < p.first + p.pages→inSp ps j=true:=fun j j0 j1=>by
    unfold inSp
    rw[Bool.or_eq_true,List.any_eq_true]
    exact .inr ⟨p,hp,by simp;omega⟩
   apply Classical.byContradiction;intro c
   have c1:f < p.first + p.pages:=by omega
   have c2:p.first < f + pgOf n0:=by omega
   by_cases c3:f≤p.first
   ·have a:=hin p.first (Nat.le_refl _) (by omega)
    rw[hclr p.first c3 c2] at a;cases a
   ·have a:=hin f (by omega) c1
    rw[hclr f (Nat.le_refl _) (by omega)] at a;cases a
  obtain⟨i,hi,hlo,hhi⟩:=place_of h.good f (pgOf n0) hpg.1 hdis
  have hxl:=h.xl
  have hng:=new_good (f:=f) hn h1 (by omega)
  refine⟨f,i,fillAt true f (pgOf n0) 0 us,he.choose,?_,h1,by omega,by omega,?_,?_,?_⟩
  ·have:=he.choose_spec he.choose (Nat.le_refl _)
   simpa using this
  ·intro j x hx hj
   obtain⟨hl,rfl⟩:=List.getElem?_eq_some_iff.1 hx
   obtain⟨hxr,_⟩:=h.at hl
   have:=hlo j _ (List.getElem?_eq_getElem (by omega)) hj
   rw[hxr.f0,hxr.f1];omega
  ·intro j x hx hj
   obtain⟨hl,rfl⟩:=List.getElem?_eq_some_iff.1 hx
   obtain⟨hxr,_⟩:=h.at hl
   have:=hhi j _ (List.getElem?_eq_getElem (by omega)) hj
   rw[hxr.f0];omega
  ·refine⟨ins_good h.good hng hi hlo hhi,⟨h.w.wf,h.w.len,fun a o ho=>h.w.hd a o ((ins_has a o).1 ho),fun a ha=>h.w.z a (fun o ho=>ha o ((ins_has a o).2 ho))⟩,?_,?_,?_⟩
   ·obtain⟨_,hb2⟩:=in_more h.u hng
    refine⟨hb2.wf,hb2.fit,fun k=>?_⟩
    have e:=hb2.bit k
    refine e.trans ?_
    unfold inSp
    simp only[List.any_append,List.any_cons,List.any_nil,Bool.or_false]
    conv=>lhs;rw[←List.take_append_drop i ps]
    rw[List.any_append]
    cases (ps.take i).any (fun p=>decide (p.first≤k) && decide (k < p.first + p.pages)) <;> cases (ps.drop i).any (fun p=>decide (p.first≤k) && decide (k < p.first + p.pages)) <;> simp
   ·simp only[List.length_append,List.length_take,List.length_drop,List.length_singleton];omega
   ·intro j x p hx hp
    rw[ins_get xs _ (by omega)] at hx
    rw[ins_get ps _ hi] at hp
    by_cases c:j < i
    ·rw[if_pos c] at hx hp;exact h.x j x p hx hp
    ·rw[if_neg c] at hx hp
     by_cases e:j=i
     ·rw[if_pos e] at hx hp
      injection hx with hx;injection hp with hp
      subst hx;subst hp
      exact new_rel f n0 hn h1 (by omega)
     ·rw[if_neg e] at hx hp
      exact h.x (j - 1) x p hx hp
 ·refine .inl ⟨he.choose,?_⟩
  exact he.choose_spec he.choose (Nat.le_refl _)
end Go.Proofs.YtmmfchnbfnegnaaGreatDoor.K
end
section
namespace Go.Proofs.YtmmfchnbfnegnaaGreatDoor.K
open Go.RowKit Go.Proofs.YtmmfchnbfnegnaaGreatDoorW.PrintWords Go.Proofs.YtmmfchnbfnegnaaGreatDoorW.PrintLast Go.Proofs.YtmmfchnbfnegnaaGreatDoorW.PrintMore Go.Proofs.YtmmfchnbfnegnaaGreatDoor.GK Go.Proofs.YtmmfchnbfnegnaaGreatDoor.Pu Go.Proofs.YtmmfchnbfnegnaaGreatDoor.PuBitW Go.Proofs.YtmmfchnbfnegnaaGreatDoor.PuBits Go.Proofs.YtmmfchnbfnegnaaGreatDoor.PuBitsLay Go.Proofs.YtmmfchnbfnegnaaGreatDoor.PuBitsBoth Go.Proofs.YtmmfchnbfnegnaaGreatDoor.PuBitsFillJ Go.Proofs.YtmmfchnbfnegnaaGreatDoor.PuPages Go.Proofs.YtmmfchnbfnegnaaGreatDoor.PuBitsFirst Go.Proofs.YtmmfchnbfnegnaaGreatDoor.PuHeadI
set_option linter.unusedVariables false
def Sp.put (p:Sp) (k:Nat) (o:Ob):Sp:={p with ob:=fun j=>if j=k then some o else p.ob j}
def xPut (x:S51) (k:Nat) (b:Bool):S51:=⟨x.f0,x.f1,x.f2,⟨x.f3.f0,setAt true x.f3.f1 k⟩,⟨x.f4.f0,setAt b x.f4.f1 k⟩,x.f5⟩
theorem BRel.set {W:List Int} {n:Nat} {f:Nat→Bool} (h:BRel W n f) {k:Nat} (hk:k < n) (v:Bool):BRel (setAt v W k) n (fun j=>if j=k then v else f j):=by
 have hl:=h.len
 have hf:=h.fit
 refine⟨setAt_words h.wf v k,⟨hf.1,hf.2.1,by rw[setAt_len];exact hf.2.2.1,fun i i0 i1=>?_⟩,fun j=>?_⟩
 ·rw[setAt_len] at i1
  rw[setAt_bit h.wf v k i (by omega),if_neg (by omega)]
  exact hf.2.2.2 i i0 i1
 ·rw[setAt_bit h.wf v k j (by omega),h.bit]
theorem put_xrel {x:S51} {p:Sp} (h:XRel x p) {k:Nat} (hk:k < p.slots) (o:Ob):XRel (xPut x k o.b) (p.put k o):=by
 have h1:=h.al.set hk true
 have h2:=h.mb.set hk o.b
 refine⟨h.f0,h.f1,h.f2,h.n3,h.n4,?_,?_,h.f5⟩
 ·refine⟨h1.wf,h1.fit,fun j=>(h1.bit j).trans ?_⟩
  show _=(if j=k then some o else p.ob j).isSome
  by_cases e:j=k <;> simp[e]
 ·refine⟨h2.wf,h2.fit,fun j=>(h2.bit j).trans ?_⟩
  show _=(if j=k then some o else p.ob j).any (·.b)
  by_cases e:j=k <;> simp[e]
theorem put_good {p:Sp} (h:SpGood p) {k:Nat} {o:Ob} (ho:ObGood p k o):SpGood (p.put k o):=by
 refine⟨h.shaped,h.lo,h.hi,fun j u hu=>?_⟩
 have hu':(if j=k then some o else p.ob j)=some u:=hu
 by_cases e:j=k
 ·rw[if_pos e] at hu'
  injection hu' with hu'
  subst hu';subst e
  exact⟨ho.lt,ho.n,ho.m,ho.sz,ho.pg⟩
 ·rw[if_neg e] at hu'
  have g:=h.ob j u hu'
  exact⟨g.lt,g.n,g.m,g.sz,g.pg⟩
theorem set_mem {α:Type} {l:List α} {i:Nat} {a b:α} (h:b∈l.set i a):b=a∨b∈l:=(List.mem_or_eq_of_mem_set h).elim .inr .inl
theorem put_ps {ps:List Sp} (h:Good ps) {i:Nat} {p:Sp} (hp:ps[i]? =some p) {k:Nat} {o:Ob} (ho:ObGood p k o):Good (ps.set i (p.put k o)):=by
 refine⟨fun q hq=>?_,?_⟩
 ·rcases set_mem hq with rfl|hq
  ·exact put_good (h.at hp) ho
  ·exact h.sp q hq
 ·rw[List.pairwise_iff_getElem]
  intro a b ha hb hab
  rw[List.length_set] at ha hb
  have key:∀c (hc:c < ps.length),((ps.set i (p.put k o))[c]'(by rw[List.length_set];exact hc)).first=ps[c].first∧((ps.set i (p.put k o))[c]'(by rw[List.length_set];exact hc)).pages=ps[c].pages:=fun c hc=>by
   rw[List.getElem_set]
   by_cases e:i=c
   ·subst e
    rw[if_pos rfl]
    have:ps[i]=p:=by
     have:=List.getElem?_eq_some_iff.1 hp
     exact this.2
    rw[this];exact⟨rfl,rfl⟩
   ·rw[if_neg e];exact⟨rfl,rfl⟩
  rw[(key a ha).1,(key a ha).2,(key b hb).1]
  exact List.pairwise_iff_getElem.1 h.ap a b ha hb hab
theorem put_has {ps:List Sp} (h:Good ps) {i:Nat} {p:Sp} (hp:ps[i]? =some p) {k:Nat} (hk:p.ob k=none) (o:Ob) (a:Nat) (u:Ob):Has (ps.set i (p.put k o)) a u↔(a=p.ad k∧u=o)∨Has ps a u:=by
 obtain⟨hi,hpe⟩:=List.getElem?_eq_some_iff.1 hp
 constructor
 ·rintro⟨q,hq,j,h1,h2⟩
  rcases set_mem hq with rfl|hq
  ·have h1':(if j=k then some o else p.ob j)=some u:=h1
   by_cases e:j=k
   ·rw[if_pos e] at h1'
    injection h1' with h1'
    subst e
    exact .inl ⟨h2.symm,h1'.symm⟩
   ·rw[if_neg e] at h1'
    exact .inr ⟨p,List.mem_of_getElem? hp,j,h1',h2⟩
  ·exact .inr ⟨q,hq,j,h1,h2⟩
 ·rintro (⟨rfl,rfl⟩|⟨q,hq,j,h1,h2⟩)
  ·exact⟨p.put k u,List.mem_iff_getElem.2 ⟨i,by rw[List.length_set];exact hi,by rw[List.getElem_set,if_pos rfl]⟩,k,by show (if k=k then some u else p.ob k)=some u;rw[if_pos rfl],rfl⟩
  ·obtain⟨c,hc,rfl⟩:=List.mem_iff_getElem.1 hq
   by_cases e:i=c
   ·subst e
    rw[hpe] at h1 h2
    refine⟨p.put k o,List.mem_iff_getElem.2 ⟨i,by rw[List.length_set];exact hi,by rw[List.getElem_set,if_pos rfl]⟩,j,?_,h2⟩
    show (if j=k then some o else p.ob j)=some u
    rw[if_neg (fun e=>by rw[e,hk] at h1;cases h1)];exact h1
   ·exact⟨ps[c],List.mem_iff_getElem.2 ⟨c,by rw[List.length_set];exact hc,by rw[List.getElem_set,if_neg e]⟩,j,h1,h2⟩
theorem inSp_map {ps qs:List Sp} (h:ps.map (fun p=>(p.first,p.pages))=qs.map (fun p=>(p.first,p.pages))) (j:Nat):inSp ps j=inSp qs j:=by
 have e:∀l:List Sp,inSp l j=(j == 0 || (l.map (fun p=>(p.first,p.pages))).any fun q=>decide (q.1≤j) && decide (j < q.1 + q.2)):=fun l=>by
  unfold inSp
  rw[List.any_map]
  rfl
 rw[e,e,h]
theorem set_map {α β:Type} (g:α→β) {l:List α} {i:Nat} {a b:α} (h:l[i]? =some a) (e:g b=g a):(l.set i b).map g=l.map g:=by
 apply List.ext_getElem?
 intro j
 rw[List.getElem?_map,List.getElem?_map,List.getElem?_set]
 split
 ·rename_i c
  subst c
  rw[h]
  split
  ·simp[e]
  ·rename_i c2
   rw[List.getElem?_eq_none (by omega)] at h
   cases h
 ·rfl
theorem ad_in {p:Sp} (h:SpGood p) {k:Nat} (hk:k < p.slots):p.first * 16≤p.ad k∧p.ad k < (p.first + p.pages) * 16:=by
 unfold Sp.ad
 unfold Sp.slots slotsOf at hk
 rcases h.shaped with⟨e,e1,e2⟩|⟨e|e|e|e,e1⟩ <;> rw[e] at hk ⊢ <;> simp only[if_true,show ¬(2=0) by decide,show ¬(4=0) by decide,show ¬(8=0) by decide,show ¬(16=0) by decide,if_false] at hk <;> omega
theorem free_ad {ps:List Sp} (h:Good ps) {i:Nat} {p:Sp} (hp:ps[i]? =some p) {k:Nat} (hks:k < p.slots) (hk:p.ob k=none) (u:Ob):¬Has ps (p.ad k) u:=by
 rintro⟨q,hq,l,h1,h2⟩
 obtain⟨c,hc,rfl⟩:=List.mem_iff_getElem.1 hq
 have hg:=h.at hp
 have gq:=h.sp _ (List.getElem_mem hc)
 have a1:=ad_in hg hks
 have hl:=(gq.ob l u h1).lt
 have a2:=ad_in gq hl
 rcases Nat.lt_trichotomy i c with d|d|d
 ·have:=h.lt hp (List.getElem?_eq_getElem hc) d;omega
 ·subst d
  obtain⟨_,rfl⟩:=List.getElem?_eq_some_iff.1 hp
  have:l=k:=by
   unfold Sp.ad at h2
   unfold Sp.slots slotsOf at hks hl
   rcases hg.shaped with⟨e,e1,e2⟩|⟨e|e|e|e,e1⟩ <;> rw[e] at hks hl h2 <;> simp only[if_true,show ¬(2=0) by decide,show ¬(4=0) by decide,show ¬(8=0) by decide,show ¬(16=0) by decide,if_false] at hks hl <;> omega
  rw[this,hk] at h1;cases h1
 ·have:=h.lt (List.getElem?_eq_getElem hc) hp d;omega
theorem hw_word {n m:Nat} (hn:n≤48) (hm:m < 2 ^ n):0≤hw n m∧hw n m≤18446744073709551615:=by
 have hf:HFit (n:Int) m:=⟨by omega,by omega,by simpa using hm⟩
 have hl:=hf.lt48
 unfold hw;omega
theorem ad_lt' {p:Sp} (h:SpGood p) {k:Nat} (hk:k < p.slots):p.ad k < 480:=by
 have:=ad_in h hk
 have:=h.hi
 omega
theorem HRel.put {ps:List Sp} {ws us:List Int} {xs:List S51} (h:HRel ps ws us xs) {i:Nat} {p:Sp} {x:S51} (hp:ps[i]? =some p) (hx:xs[i]? =some x) {k:Nat} {o:Ob} (ho:ObGood p k o) (hk:p.ob k=none):
  HRel (ps.set i (p.put k o)) (ws.set (p.ad k) (hw o.n o.m)) us (xs.set i (xPut x k o.b)):=by
 have hgood:=put_ps h.good hp ho
 have hhas:=put_has h.good hp hk o
 have hlt:=ad_lt' (h.good.at hp) ho.lt
 refine⟨hgood,⟨h.w.wf.set _ (hw_word ho.n ho.m).1 (hw_word ho.n ho.m).2,by rw[List.length_set];exact h.w.len,fun a u hu=>?_,fun a ha=>?_⟩,?_,?_,?_⟩
 ·have hwl:=h.w.len
  rcases (hhas a u).1 hu with⟨rfl,rfl⟩|hu
  ·rw[Pu.rd_nat,List.getD_eq_getElem?_getD,List.getElem?_set_self (by omega)];rfl
  ·have hne:a≠p.ad k:=fun e=>free_ad h.good hp ho.lt hk u (e▸hu)
   rw[Pu.rd_nat,List.getD_eq_getElem?_getD,List.getElem?_set_ne (Ne.symm hne),←List.getD_eq_getElem?_getD,←Pu.rd_nat]
   exact h.w.hd a u hu
 ·have hne:a≠p.ad k:=fun e=>ha o ((hhas a o).2 (.inl ⟨e,rfl⟩))
  rw[Pu.rd_nat,List.getD_eq_getElem?_getD,List.getElem?_set_ne (Ne.symm hne),←List.getD_eq_getElem?_getD,←Pu.rd_nat]
  exact h.w.z a (fun u hu=>ha u ((hhas a u).2 (.inr hu)))
 ·refine⟨h.u.wf,h.u.fit,fun j=>(h.u.bit j).trans (inSp_map (set_map _ hp (b:=p.put k o) rfl).symm j)⟩
 ·rw[List.length_set,List.length_set];exact h.xl
 ·intro j y q hy hq
  rw[List.getElem?_set] at hy hq
  by_cases e:i=j
  ·subst e
   obtain⟨l1,_⟩:=List.getElem?_eq_some_iff.1 hx
   obtain⟨l2,_⟩:=List.getElem?_eq_some_iff.1 hp
   rw[if_pos rfl,if_pos l1] at hy
   rw[if_pos rfl,if_pos l2] at hq
   injection hy with hy;injection hq with hq
   subst hy;subst hq
   exact put_xrel (h.x i x p hx hp) ho.lt o
  ·rw[if_neg e] at hy hq
   exact h.x j y q hy hq
theorem HRel.room {ps:List Sp} {ws us:List Int} {xs:List S51} (h:HRel ps ws us xs) (s:Nat):
  Ev (fun k=>span_Room.f k xs (s:Int)) (0,0,3)∨∃(i slot:Nat) (p:Sp),ps[i]? =some p∧p.size=s∧slot < p.slots∧p.ob slot=none∧Ev (fun k=>span_Room.f k xs (s:Int)) ((i:Int),(slot:Int),0):=by
 have hlen:xs.length≤29:=by have:=h.good.len;have:=h.xl;omega
 have hck:=h.check (by omega)
 have step:∀(d:Nat) (i:Nat),xs.length - i=d→Ev (fun k=>span_Room.l0 k (s:Int) xs (xs.length:Int) (i:Int)) (0,0,3)∨∃(j slot:Nat) (p:Sp),ps[j]? =some p∧p.size=s∧slot < p.slots∧p.ob slot=none∧Ev (fun k=>span_Room.l0 k (s:Int) xs (xs.length:Int) (i:Int)) ((j:Int),(slot:Int),0):=by
  intro d
  induction d with
  |zero=>
   intro i hd
   refine .inl (ev_of (K:=1) fun k hk=>?_)
   obtain⟨k,rfl⟩:∃m,k=m + 1:=⟨k - 1,by omega⟩
   simp only[span_Room.l0];rw[if_neg (by omega)]
  |succ d ih=>
   intro i hd
   have hlt:i < xs.length:=by omega
   obtain⟨hx,hg⟩:=h.at hlt
   have e:=rd51 (l:=xs) (i:=(i:Int)) (by omega) (by omega)
   simp only[Int.toNat_natCast] at e
   have nx:=ih (i + 1) (by omega)
   have hw:wrap64 ((i:Int) + 1)=((i + 1:Nat):Int):=by rw[w64 (by omega) (by omega)];omega
   have hsl:=hg.slots_pos
   have go:∀r b,b=(if xs[i].f2=(s:Int) then !xs[i].f5 else true)→Ev (fun k=>span_Room.j1 k (s:Int) (i:Int) xs (xs.length:Int) (i:Int) b xs[i].f0 xs[i].f1 xs[i].f2 xs[i].f3.f0 xs[i].f3.f1 xs[i].f4.f0 xs[i].f4.f1 xs[i].f5) r→Ev (fun k=>span_Room.l0 k (s:Int) xs (xs.length:Int) (i:Int)) r:=fun r b hb hr=>by
    refine ev_succ (f:=fun k=>_) (fun k=>?_) hr
    rw[span_Room.l0,if_pos (by omega),if_pos (by omega),if_pos (by omega),e]
    subst hb
    by_cases c:xs[i].f2=(s:Int)
    ·rw[if_pos c,if_pos c]
    ·rw[if_neg c,if_neg c]
   have skip:∀r,(if xs[i].f2=(s:Int) then !xs[i].f5 else true)=true→Ev (fun k=>span_Room.l0 k (s:Int) xs (xs.length:Int) ((i + 1:Nat):Int)) r→Ev (fun k=>span_Room.l0 k (s:Int) xs (xs.length:Int) (i:Int)) r:=fun r hb hr=>by
    refine go r true hb.symm (ev_succ (f:=fun k=>_) (fun k=>?_) hr)
    rw[span_Room.j1,if_pos rfl,hw]
   by_cases hb:(if xs[i].f2=(s:Int) then !xs[i].f5 else true)=true
   ·rcases nx with hn|⟨j,slot,p,h1,h2,h3,h4,hn⟩
    ·exact .inl (skip _ hb hn)
    ·exact .inr ⟨j,slot,p,h1,h2,h3,h4,skip _ hb hn⟩
   ·have hb':(if xs[i].f2=(s:Int) then !xs[i].f5 else true)=false:=by simpa using hb
    have hsz:xs[i].f2=(s:Int):=by
     apply Classical.byContradiction;intro c
     rw[if_neg c] at hb';cases hb'
    have hfit:BFit xs[i].f3.f0 xs[i].f3.f1:=by rw[hx.n3];exact hx.al.fit
    rcases First_ev (n:=xs[i].f3.f0) hx.al.wf hx.al.small 0 false with⟨hn,_⟩|⟨_,⟨hn,_⟩|⟨_,R,hR,hE⟩⟩
    ·exact absurd hfit hn
    ·have:=hfit.1;omega
    ·have hge:=hR.ge
     have hle:=hR.le
     by_cases c:R=xs[i].f3.f0
     ·rw[if_pos c] at hE
      have cont:∀r,Ev (fun k=>span_Room.l0 k (s:Int) xs (xs.length:Int) ((i + 1:Nat):Int)) r→Ev (fun k=>span_Room.l0 k (s:Int) xs (xs.length:Int) (i:Int)) r:=fun r hr=>by
       refine go r false hb'.symm (ev_succ (f:=fun k=>(bits_First.f k xs[i].f3.f0 xs[i].f3.f1 0 false).bind fun bt293=>(if bt293.2=0 then (some ((i:Int),bt293.1,0)) else (span_Room.l0 k (s:Int) xs (xs.length:Int) ((i + 1:Nat):Int)))) (fun k=>?_) (Ev.bind hE ?_))
       ·rw[span_Room.j1,if_neg (by decide),hw]
       ·simp only[show ¬((3:Int)=0) by decide,if_false];exact hr
      rcases nx with hn|⟨j,slot,p,h1,h2,h3,h4,hn⟩
      ·exact .inl (cont _ hn)
      ·exact .inr ⟨j,slot,p,h1,h2,h3,h4,cont _ hn⟩
     ·rw[if_neg c] at hE
      obtain⟨q,rfl⟩:∃q:Nat,R=(q:Int):=⟨R.toNat,by omega⟩
      have hlt2:(q:Int) < xs[i].f3.f0:=by omega
      have hso:=hR.so hlt2
      rw[Int.toNat_natCast,hx.al.bit] at hso
      rw[hx.n3] at hlt2
      refine .inr ⟨i,q,_,List.getElem?_eq_getElem (by have:=h.xl;omega),?_,by omega,by simpa using hso,?_⟩
      ·have:=hx.f2;omega
      ·refine go _ false hb'.symm (ev_succ (f:=fun k=>(bits_First.f k xs[i].f3.f0 xs[i].f3.f1 0 false).bind fun bt293=>(if bt293.2=0 then (some ((i:Int),bt293.1,0)) else (span_Room.l0 k (s:Int) xs (xs.length:Int) ((i + 1:Nat):Int)))) (fun k=>?_) (Ev.bind hE ?_))
       ·rw[span_Room.j1,if_neg (by decide),hw]
       ·simp only[if_true];exact ev_const rfl
 have fin:∀r,Ev (fun k=>span_Room.l0 k (s:Int) xs (xs.length:Int) ((0:Nat):Int)) r→Ev (fun k=>span_Room.f k xs (s:Int)) r:=fun r hr=>by
  unfold span_Room.f
  refine Ev.bind hck ?_
  simp only[if_true]
  exact hr
 rcases step xs.length 0 (by omega) with hn|⟨j,slot,p,h1,h2,h3,h4,hn⟩
 ·exact .inl (fin _ hn)
 ·exact .inr ⟨j,slot,p,h1,h2,h3,h4,fin _ hn⟩
end Go.Proofs.YtmmfchnbfnegnaaGreatDoor.K
end
section
namespace Go.Proofs.YtmmfchnbfnegnaaGreatDoor.K
open Go.RowKit Go.Proofs.YtmmfchnbfnegnaaGreatDoorW.PrintWords Go.Proofs.YtmmfchnbfnegnaaGreatDoorW.PrintLast Go.Proofs.YtmmfchnbfnegnaaGreatDoorW.PrintMore Go.Proofs.YtmmfchnbfnegnaaGreatDoor.GK Go.Proofs.YtmmfchnbfnegnaaGreatDoor.Pu Go.Proofs.YtmmfchnbfnegnaaGreatDoor.PuBitW Go.Proofs.YtmmfchnbfnegnaaGreatDoor.PuBits Go.Proofs.YtmmfchnbfnegnaaGreatDoor.PuBitsLay Go.Proofs.YtmmfchnbfnegnaaGreatDoor.PuBitsBoth Go.Proofs.YtmmfchnbfnegnaaGreatDoor.PuBitsFillJ Go.Proofs.YtmmfchnbfnegnaaGreatDoor.PuPages Go.Proofs.YtmmfchnbfnegnaaGreatDoor.PuBitsFirst Go.Proofs.YtmmfchnbfnegnaaGreatDoor.PuHeadI Go.Proofs.YtmmfchnbfnegnaaGreatDoor.PuBitsCount Go.Proofs.YtmmfchnbfnegnaaGreatDoor.PuBitsCountL
set_option linter.unusedVariables false
def Sp.un (p:Sp):Sp:={p with swept:=false}
def xUn (x:S51):S51:=⟨x.f0,x.f1,x.f2,x.f3,x.f4,false⟩
def Sp.sw (p:Sp):Sp:={p with swept:=true}
def xSw (x:S51):S51:=⟨x.f0,x.f1,x.f2,x.f3,x.f4,true⟩
def Sp.del (p:Sp) (k:Nat):Sp:={p with ob:=fun j=>if j=k then none else p.ob j}
def xDel (x:S51) (k:Nat):S51:=⟨x.f0,x.f1,x.f2,⟨x.f3.f0,setAt false x.f3.f1 k⟩,x.f4,x.f5⟩
theorem un_good {p:Sp} (h:SpGood p):SpGood p.un:=⟨h.shaped,h.lo,h.hi,fun k o ho=>have g:=h.ob k o ho;⟨g.lt,g.n,g.m,g.sz,g.pg⟩⟩
theorem sw_good {p:Sp} (h:SpGood p):SpGood p.sw:=⟨h.shaped,h.lo,h.hi,fun k o ho=>have g:=h.ob k o ho;⟨g.lt,g.n,g.m,g.sz,g.pg⟩⟩
theorem un_xrel {x:S51} {p:Sp} (h:XRel x p):XRel (xUn x) p.un:=⟨h.f0,h.f1,h.f2,h.n3,h.n4,h.al,h.mb,rfl⟩
theorem sw_xrel {x:S51} {p:Sp} (h:XRel x p):XRel (xSw x) p.sw:=⟨h.f0,h.f1,h.f2,h.n3,h.n4,h.al,h.mb,rfl⟩
theorem del_some {p:Sp} {k j:Nat} {o:Ob} (h:(p.del k).ob j=some o):j≠k∧p.ob j=some o:=by
 have h':(if j=k then none else p.ob j)=some o:=h
 by_cases e:j=k
 ·rw[if_pos e] at h';cases h'
 ·rw[if_neg e] at h';exact⟨e,h'⟩
theorem del_good {p:Sp} (h:SpGood p) (k:Nat):SpGood (p.del k):=⟨h.shaped,h.lo,h.hi,fun j o ho=>have g:=h.ob j o (del_some ho).2;⟨g.lt,g.n,g.m,g.sz,g.pg⟩⟩
theorem del_xrel {x:S51} {p:Sp} (h:XRel x p) {k:Nat} (hk:k < p.slots) (hb:∀o,p.ob k=some o→o.b=false):XRel (xDel x k) (p.del k):=by
 have h1:=h.al.set hk false
 refine⟨h.f0,h.f1,h.f2,h.n3,h.n4,⟨h1.wf,h1.fit,fun j=>(h1.bit j).trans ?_⟩,⟨h.mb.wf,h.mb.fit,fun j=>(h.mb.bit j).trans ?_⟩,h.f5⟩
 ·show _=(if j=k then none else p.ob j).isSome
  by_cases e:j=k <;> simp[e]
 ·show _=(if j=k then none else p.ob j).any (·.b)
  by_cases e:j=k
  ·subst e
   cases ho:p.ob j with
   |none=>simp
   |some o=>simp[hb o ho]
  ·simp[e]
theorem un_has {ps:List Sp} (a:Nat) (o:Ob):Has (ps.map Sp.un) a o↔Has ps a o:=by
 constructor
 ·rintro⟨p,hp,k,h1,h2⟩
  obtain⟨q,hq,rfl⟩:=List.mem_map.1 hp
  exact⟨q,hq,k,h1,h2⟩
 ·rintro⟨p,hp,k,h1,h2⟩
  exact⟨p.un,List.mem_map_of_mem hp,k,h1,h2⟩
theorem HRel.un {ps:List Sp} {ws us:List Int} {xs:List S51} (h:HRel ps ws us xs):HRel (ps.map Sp.un) ws us (xs.map xUn):=by
 refine⟨⟨fun p hp=>?_,?_⟩,⟨h.w.wf,h.w.len,fun a o ho=>h.w.hd a o ((un_has a o).1 ho),fun a ha=>h.w.z a (fun o ho=>ha o ((un_has a o).2 ho))⟩,⟨h.u.wf,h.u.fit,fun j=>(h.u.bit j).trans (inSp_map (by rw[List.map_map];rfl) j)⟩,by rw[List.length_map,List.length_map];exact h.xl,fun j x p hx hp=>?_⟩
 ·obtain⟨q,hq,rfl⟩:=List.mem_map.1 hp
  exact un_good (h.good.sp q hq)
 ·rw[List.pairwise_map]
  exact h.good.ap
 ·rw[List.getElem?_map] at hx hp
  obtain⟨y,hy,rfl⟩:=Option.map_eq_some_iff.1 hx
  obtain⟨q,hq,rfl⟩:=Option.map_eq_some_iff.1 hp
  exact un_xrel (h.x j y q hy hq)
theorem Good.set {ps:List Sp} (h:Good ps) {i:Nat} {p q:Sp} (hp:ps[i]? =some p) (hq:SpGood q) (e1:q.first=p.first) (e2:q.pages=p.pages):Good (ps.set i q):=by
 obtain⟨hi,hpe⟩:=List.getElem?_eq_some_iff.1 hp
 refine⟨fun r hr=>?_,?_⟩
 ·rcases set_mem hr with rfl|hr
  ·exact hq
  ·exact h.sp r hr
 ·rw[List.pairwise_iff_getElem]
  intro a b ha hb hab
  rw[List.length_set] at ha hb
  have key:∀c (hc:c < ps.length),((ps.set i q)[c]'(by rw[List.length_set];exact hc)).first=ps[c].first∧((ps.set i q)[c]'(by rw[List.length_set];exact hc)).pages=ps[c].pages:=fun c hc=>by
   rw[List.getElem_set]
   by_cases e:i=c
   ·subst e
    rw[if_pos rfl,hpe];exact⟨e1,e2⟩
   ·rw[if_neg e];exact⟨rfl,rfl⟩
  rw[(key a ha).1,(key a ha).2,(key b hb).1]
  exact List.pairwise_iff_getElem.1 h.ap a b ha hb hab
theorem mem_set_iff {α:Type} {l:List α} {i:Nat} {a:α} (h:l[i]? =some a) (b c:α):c∈l.set i b↔c=b∨∃j,j≠i∧l[j]? =some c:=by
 obtain⟨hi, -⟩:=List.getElem?_eq_some_iff.1 h
 rw[List.mem_iff_getElem?]
 constructor
 ·rintro⟨j,hj⟩
  rw[List.getElem?_set] at hj
  by_cases e:i=j
  ·rw[if_pos e,if_pos (e▸hi)] at hj
   injection hj with hj
   exact .inl hj.symm
  ·rw[if_neg e] at hj
   exact .inr ⟨j,Ne.symm e,hj⟩
 ·rintro (rfl|⟨j,hj,hc⟩)
  ·exact⟨i,by rw[List.getElem?_set,if_pos rfl,if_pos hi]⟩
  ·exact⟨j,by rw[List.getElem?_set,if_neg (Ne.symm hj)];exact hc⟩
theorem sw_has {ps:List Sp} {i:Nat} {p:Sp} (hp:ps[i]? =some p) (a:Nat) (o:Ob):Has (ps.set i p.sw) a o↔Has ps a o:=by
 constructor
 ·rintro⟨q,hq,k,h1,h2⟩
  rcases (mem_set_iff hp _ _).1 hq with rfl|⟨j,_,hj⟩
  ·exact⟨p,List.mem_of_getElem? hp,k,h1,h2⟩
  ·exact⟨q,List.mem_of_getElem? hj,k,h1,h2⟩
 ·rintro⟨q,hq,k,h1,h2⟩
  obtain⟨j,hj⟩:=List.mem_iff_getElem?.1 hq
  by_cases e:j=i
  ·subst e
   rw[hp] at hj
   injection hj with hj
   subst hj
   exact⟨p.sw,(mem_set_iff hp _ _).2 (.inl rfl),k,h1,h2⟩
  ·exact⟨q,(mem_set_iff hp _ _).2 (.inr ⟨j,e,hj⟩),k,h1,h2⟩
theorem HRel.sw {ps:List Sp} {ws us:List Int} {xs:List S51} (h:HRel ps ws us xs) {i:Nat} {p:Sp} {x:S51} (hp:ps[i]? =some p) (hx:xs[i]? =some x):HRel (ps.set i p.sw) ws us (xs.set i (xSw x)):=by
 refine⟨h.good.set hp (sw_good (h.good.at hp)) rfl rfl,⟨h.w.wf,h.w.len,fun a o ho=>h.w.hd a o ((sw_has hp a o).1 ho),fun a ha=>h.w.z a (fun o ho=>ha o ((sw_has hp a o).2 ho))⟩,⟨h.u.wf,h.u.fit,fun j=>(h.u.bit j).trans (inSp_map (set_map _ hp (b:=p.sw) rfl).symm j)⟩,by rw[List.length_set,List.length_set];exact h.xl,fun j y q hy hq=>?_⟩
 rw[List.getElem?_set] at hy hq
 by_cases e:i=j
 ·subst e
  obtain⟨l1,_⟩:=List.getElem?_eq_some_iff.1 hx
  obtain⟨l2,_⟩:=List.getElem?_eq_some_iff.1 hp
  rw[if_pos rfl,if_pos l1] at hy
  rw[if_pos rfl,if_pos l2] at hq
  injection hy with hy;injection hq with hq
  subst hy;subst hq
  exact sw_xrel (h.x i x p hx hp)
 ·rw[if_neg e] at hy hq
  exact h.x j y q hy hq
theorem del_has {ps:List Sp} (h:Good ps) {i:Nat} {p:Sp} (hp:ps[i]? =some p) {k:Nat} {o:Ob} (ho:p.ob k=some o) (a:Nat) (u:Ob):Has (ps.set i (p.del k)) a u↔Has ps a u∧a≠p.ad k:=by
 constructor
 ·rintro⟨q,hq,j,h1,h2⟩
  rcases (mem_set_iff hp _ _).1 hq with rfl|⟨c,hc,hqc⟩
  ·obtain⟨hne,h1'⟩:=del_some h1
   refine⟨⟨p,List.mem_of_getElem? hp,j,h1',h2⟩,fun e=>hne ?_⟩
   exact (h.inj hp hp h1' ho (show p.ad j=p.ad k from h2.trans e)).2.1
  ·refine⟨⟨q,List.mem_of_getElem? hqc,j,h1,h2⟩,fun e=>hc ?_⟩
   exact (h.inj hqc hp h1 ho (h2.trans e)).1
 ·rintro⟨⟨q,hq,j,h1,h2⟩,hne⟩
  obtain⟨c,hc⟩:=List.mem_iff_getElem?.1 hq
  by_cases e:c=i
  ·subst e
   rw[hp] at hc
   injection hc with hc
   subst hc
   refine⟨p.del k,(mem_set_iff hp _ _).2 (.inl rfl),j,?_,h2⟩
   show (if j=k then none else p.ob j)=some u
   rw[if_neg (fun e=>hne (by rw[←h2,e]))];exact h1
  ·exact⟨q,(mem_set_iff hp _ _).2 (.inr ⟨c,e,hc⟩),j,h1,h2⟩
theorem HRel.del {ps:List Sp} {ws us:List Int} {xs:List S51} (h:HRel ps ws us xs) {i:Nat} {p:Sp} {x:S51} (hp:ps[i]? =some p) (hx:xs[i]? =some x) {k:Nat} {o:Ob} (ho:p.ob k=some o) (hb:o.b=false):
  HRel (ps.set i (p.del k)) (ws.set (p.ad k) 0) us (xs.set i (xDel x k)):=by
 have hg:=h.good.at hp
 have hk:=(hg.ob k o ho).lt
 have hhas:=del_has h.good hp ho
 have hlt:=ad_lt' hg hk
 have hwl:=h.w.len
 refine⟨h.good.set hp (del_good hg k) rfl rfl,⟨h.w.wf.set _ (by decide) (by decide),by rw[List.length_set];exact hwl,fun a u hu=>?_,fun a ha=>?_⟩,⟨h.u.wf,h.u.fit,fun j=>(h.u.bit j).trans (inSp_map (set_map _ hp (b:=p.del k) rfl).symm j)⟩,by rw[List.length_set,List.length_set];exact h.xl,fun j y q hy hq=>?_⟩
 ·obtain⟨hu,hne⟩:=(hhas a u).1 hu
  rw[Pu.rd_nat,List.getD_eq_getElem?_getD,List.getElem?_set_ne (Ne.symm hne),←List.getD_eq_getElem?_getD,←Pu.rd_nat]
  exact h.w.hd a u hu
 ·by_cases e:a=p.ad k
  ·subst e
   rw[Pu.rd_nat,List.getD_eq_getElem?_getD,List.getElem?_set_self (by omega)];rfl
  ·rw[Pu.rd_nat,List.getD_eq_getElem?_getD,List.getElem?_set_ne (Ne.symm e),←List.getD_eq_getElem?_getD,←Pu.rd_nat]
   exact h.w.z a (fun u hu=>ha u ((hhas a u).2 ⟨hu,e⟩))
 ·rw[List.getElem?_set] at hy hq
  by_cases e:i=j
  ·subst e
   obtain⟨l1,_⟩:=List.getElem?_eq_some_iff.1 hx
   obtain⟨l2,_⟩:=List.getElem?_eq_some_iff.1 hp
   rw[if_pos rfl,if_pos l1] at hy
   rw[if_pos rfl,if_pos l2] at hq
   injection hy with hy;injection hq with hq
   subst hy;subst hq
   refine del_xrel (h.x i x p hx hp) hk (fun o' ho'=>?_)
   rw[ho] at ho'
   injection ho' with ho'
   subst ho';exact hb
  ·rw[if_neg e] at hy hq
   exact h.x j y q hy hq
def sweepS (i:Nat):List S92→Sp→Sp
 | [],p=>p
 |x::l,p=>sweepS i l (if x.f0=(i:Int)∧x.f4=false then p.del x.f1.toNat else p)
def goneS (i:Nat) (l:List S92):List Int:=(l.filter fun x=>decide (x.f0=(i:Int)) && !x.f4).map (·.f2)
theorem sweepS_snoc (i:Nat):∀(l:List S92) (x:S92) (p:Sp),sweepS i (l ++ [x]) p=if x.f0=(i:Int)∧x.f4=false then (sweepS i l p).del x.f1.toNat else sweepS i l p
 | [],x,p=>rfl
 |y::l,x,p=>sweepS_snoc i l x _
theorem goneS_snoc (i:Nat) (l:List S92) (x:S92):goneS i (l ++ [x])=if x.f0=(i:Int)∧x.f4=false then goneS i l ++ [x.f2] else goneS i l:=by
 unfold goneS
 rw[List.filter_append,List.map_append]
 by_cases h:x.f0=(i:Int)∧x.f4=false
 ·rw[if_pos h];simp[h.1,h.2]
 ·rw[if_neg h]
  have:(decide (x.f0=(i:Int)) && !x.f4)=false:=by
   by_cases h1:x.f0=(i:Int)
   ·have h2:¬x.f4=false:=fun h2=>h ⟨h1,h2⟩
    simp[h1,h2]
   ·simp[h1]
  simp[this]
theorem sweepS_same (i:Nat):∀(l:List S92) (p:Sp),(sweepS i l p).first=p.first∧(sweepS i l p).pages=p.pages∧(sweepS i l p).size=p.size∧(sweepS i l p).swept=p.swept
 | [],p=>⟨rfl,rfl,rfl,rfl⟩
 |x::l,p=>by
  have h:=sweepS_same i l (if x.f0=(i:Int)∧x.f4=false then p.del x.f1.toNat else p)
  rw[sweepS]
  obtain⟨h1,h2,h3,h4⟩:=h
  rw[h1,h2,h3,h4]
  split <;> exact⟨rfl,rfl,rfl,rfl⟩
theorem sweepS_ob (i:Nat):∀(l:List S92) (p:Sp) (k:Nat) (o:Ob),(sweepS i l p).ob k=some o↔p.ob k=some o∧∀x∈l,x.f0=(i:Int)→x.f4=false→x.f1.toNat≠k
 | [],p,k,o=>by simp[sweepS]
 |x::l,p,k,o=>by
  rw[sweepS,sweepS_ob i l]
  by_cases h:x.f0=(i:Int)∧x.f4=false
  ·rw[if_pos h]
   constructor
   ·rintro⟨h1,h2⟩
    obtain⟨h3,h4⟩:=del_some h1
    refine⟨h4,fun y hy=>?_⟩
    rcases List.mem_cons.1 hy with rfl|hy
    ·exact fun _ _ e=>h3 e.symm
    ·exact h2 y hy
   ·rintro⟨h1,h2⟩
    refine⟨?_,fun y hy=>h2 y (List.mem_cons_of_mem _ hy)⟩
    show (if k=x.f1.toNat then none else p.ob k)=some o
    rw[if_neg (fun e=>h2 x List.mem_cons_self h.1 h.2 e.symm)];exact h1
  ·rw[if_neg h]
   constructor
   ·rintro⟨h1,h2⟩
    refine⟨h1,fun y hy=>?_⟩
    rcases List.mem_cons.1 hy with rfl|hy
    ·exact fun e1 e2=>absurd ⟨e1,e2⟩ h
    ·exact h2 y hy
   ·rintro⟨h1,h2⟩
    exact⟨h1,fun y hy=>h2 y (List.mem_cons_of_mem _ hy)⟩
structure Cl (ps ps':List Sp) (p:Sp) (gone:List Int):Prop where
 mem:∀a:Int,a∈gone↔∃k o,p.ob k=some o∧o.b=false∧a=((p.ad k:Nat):Int)
 nd:gone.Nodup
 has:∀a u,Has ps' a u↔Has ps a u∧((a:Nat):Int) ∉ gone
 keep:∀q∈ps,q.first≠p.first→q∈ps'
 sw:∀q∈ps',(q.swept=true∧∀k o,q.ob k=some o→o.b=true)∨(q∈ps∧q.first≠p.first)
theorem Good.firsts {ps:List Sp} (h:Good ps) {i j:Nat} {p q:Sp} (hi:ps[i]? =some p) (hj:ps[j]? =some q) (e:p.first=q.first):i=j:=by
 have hp:=(h.at hi).shaped
 have hq:=(h.at hj).shaped
 rcases Nat.lt_trichotomy i j with c|c|c
 ·have:=h.lt hi hj c;omega
 ·exact c
 ·have:=h.lt hj hi c;omega
theorem goneS_mem {ps:List Sp} (h:Good ps) {i:Nat} {p:Sp} (hp:ps[i]? =some p) (hs:p.swept=false) (a:Int):a∈goneS i (objsF 0 ps)↔∃k o,p.ob k=some o∧o.b=false∧a=((p.ad k:Nat):Int):=by
 unfold goneS
 rw[List.mem_map]
 constructor
 ·rintro⟨x,hx,rfl⟩
  obtain⟨hx,hc⟩:=List.mem_filter.1 hx
  obtain⟨j,q,k,o,hq,hk,ho,rfl⟩:=mem_objsF.1 hx
  rw[Bool.and_eq_true] at hc
  have h1:((0 + j:Nat):Int)=(i:Int):=of_decide_eq_true hc.1
  have h2:(q.swept || o.b)=false:=by simpa[oS] using hc.2
  have e:j=i:=by omega
  subst e
  rw[hp] at hq
  injection hq with hq
  subst hq
  exact⟨k,o,ho,by simpa[hs] using h2,rfl⟩
 ·rintro⟨k,o,ho,hb,rfl⟩
  refine⟨oS (0 + i) k p o,List.mem_filter.2 ⟨mem_objsF.2 ⟨i,p,k,o,hp,((h.at hp).ob k o ho).lt,ho,rfl⟩,?_⟩,rfl⟩
  simp[oS,hs,hb]
theorem goneS_nodup {ps:List Sp} (h:Good ps) (i:Nat):(goneS i (objsF 0 ps)).Nodup:=by
 unfold goneS
 have hs:=objsF_sorted h 0
 have hn:∀x∈objsF 0 ps,0≤x.f3.f0:=fun x hx=>(objsF_bounds h hx).2.2.1
 have h2:(objsF 0 ps).Pairwise fun a b=>a.f2 < b.f2:=by
  rw[List.pairwise_iff_getElem] at hs ⊢
  intro a b ha hb hab
  have h1:=hs a b ha hb hab
  have h3:=hn _ (List.getElem_mem ha)
  unfold Behind at h1
  omega
 have h3:=(List.Pairwise.filter (fun x=>decide (x.f0=(i:Int)) && !x.f4) h2)
 rw[List.Nodup,List.pairwise_map]
 exact h3.imp (fun hab e=>by omega)
theorem sweepS_left {ps:List Sp} (h:Good ps) {i:Nat} {p:Sp} (hp:ps[i]? =some p) (hs:p.swept=false) (k:Nat) (o:Ob):(sweepS i (objsF 0 ps) p).ob k=some o↔p.ob k=some o∧o.b=true:=by
 rw[sweepS_ob]
 constructor
 ·rintro⟨h1,h2⟩
  refine⟨h1,?_⟩
  cases hb:o.b with
  |true=>rfl
  |false=>
   have:=h2 (oS (0 + i) k p o) (mem_objsF.2 ⟨i,p,k,o,hp,((h.at hp).ob k o h1).lt,h1,rfl⟩) (by simp[oS]) (by simp[oS,hs,hb])
   exact absurd (by simp[oS]) this
 ·rintro⟨h1,h2⟩
  refine⟨h1,fun x hx e1 e2 e3=>?_⟩
  obtain⟨j,q,l,u,hq,hl,hu,rfl⟩:=mem_objsF.1 hx
  simp only[oS] at e1 e2 e3
  have e:j=i:=by omega
  subst e
  rw[hp] at hq
  injection hq with hq
  subst hq
  have e4:l=k:=by simpa using e3
  subst e4
  rw[hu] at h1
  injection h1 with h1
  subst h1
  rw[h2] at e2
  simp at e2
theorem cl_stay {ps:List Sp} (h:Good ps) {i:Nat} {p:Sp} (hp:ps[i]? =some p) (hs:p.swept=false):Cl ps (ps.set i (sweepS i (objsF 0 ps) p).sw) p (goneS i (objsF 0 ps)):=by
 have hsame:=sweepS_same i (objsF 0 ps) p
 have had:∀k,(sweepS i (objsF 0 ps) p).sw.ad k=p.ad k:=fun k=>by
  show (sweepS i (objsF 0 ps) p).first * 16 + k * (sweepS i (objsF 0 ps) p).size=_
  rw[hsame.1,hsame.2.2.1];rfl
 refine⟨goneS_mem h hp hs,goneS_nodup h i,fun a u=>?_,fun q hq hne=>?_,fun q hq=>?_⟩
 ·constructor
  ·rintro⟨q,hq,k,h1,h2⟩
   rcases (mem_set_iff hp _ _).1 hq with rfl|⟨c,hc,hqc⟩
   ·obtain⟨h3,h4⟩:=(sweepS_left h hp hs k u).1 h1
    rw[had] at h2
    refine⟨⟨p,List.mem_of_getElem? hp,k,h3,h2⟩,fun hg=>?_⟩
    obtain⟨l,o,ho,hb,e⟩:=(goneS_mem h hp hs _).1 hg
    have:=(h.inj hp hp h3 ho (by omega)).2.2
    rw[←this,h4] at hb;cases hb
   ·refine⟨⟨q,List.mem_of_getElem? hqc,k,h1,h2⟩,fun hg=>?_⟩
    obtain⟨l,o,ho,hb,e⟩:=(goneS_mem h hp hs _).1 hg
    exact hc (h.inj hqc hp h1 ho (by omega)).1
  ·rintro⟨⟨q,hq,k,h1,h2⟩,hg⟩
   obtain⟨c,hc⟩:=List.mem_iff_getElem?.1 hq
   by_cases e:c=i
   ·subst e
    rw[hp] at hc
    injection hc with hc
    subst hc
    refine⟨_,(mem_set_iff hp _ _).2 (.inl rfl),k,(sweepS_left h hp hs k u).2 ⟨h1,?_⟩,by rw[had];exact h2⟩
    cases hb:u.b with
    |true=>rfl
    |false=>exact absurd ((goneS_mem h hp hs _).2 ⟨k,u,h1,hb,by rw[h2]⟩) hg
   ·exact⟨q,(mem_set_iff hp _ _).2 (.inr ⟨c,e,hc⟩),k,h1,h2⟩
 ·obtain⟨c,hc⟩:=List.mem_iff_getElem?.1 hq
  refine (mem_set_iff hp _ _).2 (.inr ⟨c,fun e=>hne ?_,hc⟩)
  subst e
  rw[hp] at hc
  injection hc with hc
  rw[hc]
 ·rcases (mem_set_iff hp _ _).1 hq with rfl|⟨c,hc,hqc⟩
  ·exact .inl ⟨rfl,fun k o ho=>((sweepS_left h hp hs k o).1 ho).2⟩
  ·exact .inr ⟨List.mem_of_getElem? hqc,fun e=>hc (h.firsts hqc hp e)⟩
end Go.Proofs.YtmmfchnbfnegnaaGreatDoor.K
end
section
namespace Go.Proofs.YtmmfchnbfnegnaaGreatDoor.K
open Go.RowKit Go.Proofs.YtmmfchnbfnegnaaGreatDoorW.PrintWords Go.Proofs.YtmmfchnbfnegnaaGreatDoorW.PrintLast Go.Proofs.YtmmfchnbfnegnaaGreatDoorW.PrintMore Go.Proofs.YtmmfchnbfnegnaaGreatDoor.GK Go.Proofs.YtmmfchnbfnegnaaGreatDoor.Pu Go.Proofs.YtmmfchnbfnegnaaGreatDoor.PuBitW Go.Proofs.YtmmfchnbfnegnaaGreatDoor.PuBits Go.Proofs.YtmmfchnbfnegnaaGreatDoor.PuBitsLay Go.Proofs.YtmmfchnbfnegnaaGreatDoor.PuBitsBoth Go.Proofs.YtmmfchnbfnegnaaGreatDoor.PuBitsFillJ Go.Proofs.YtmmfchnbfnegnaaGreatDoor.PuPages Go.Proofs.YtmmfchnbfnegnaaGreatDoor.PuBitsFirst Go.Proofs.YtmmfchnbfnegnaaGreatDoor.PuHeadI Go.Proofs.YtmmfchnbfnegnaaGreatDoor.PuBitsCount Go.Proofs.YtmmfchnbfnegnaaGreatDoor.PuBitsCountL
set_option linter.unusedVariables false
theorem cntI_pos (l:List Int):∀(d i j:Nat),i≤j→j < i + d→bitAt l j=true→0 < cntI l i d
 |0,i,j,h1,h2,_=>by omega
 |d + 1,i,j,h1,h2,h=>by
  rw[cntI]
  by_cases e:i=j
  ·subst e;rw[if_pos h];omega
  ·have:=cntI_pos l d (i + 1) j (by omega) (by omega) h
   omega
theorem XRel.count {x:S51} {p:Sp} (h:XRel x p):∃n:Int,Ev (fun k=>bits_Count.f k x.f3.f0 x.f3.f1) (n,0)∧((n == 0)=true∧(∀k,k < p.slots→p.ob k=none)∨(n == 0)=false∧¬ ∀k,k < p.slots→p.ob k=none):=by
 have he:=count_ev (n:=x.f3.f0) h.al.wf h.al.small
 have hf:BFit x.f3.f0 x.f3.f1:=by rw[h.n3];exact h.al.fit
 unfold countS at he
 rw[if_pos hf,h.n3,Int.toNat_natCast] at he
 refine⟨_,by rw[h.n3];exact he,?_⟩
 by_cases hn:∀k,k < p.slots→p.ob k=none
 ·left
  refine⟨?_,hn⟩
  rw[cntI_zero x.f3.f1 p.slots 0 (fun j _ h2=>by rw[h.al.bit,hn j (by omega)];rfl)]
  rfl
 ·right
  refine⟨?_,hn⟩
  obtain⟨k,hk⟩:=Classical.not_forall.1 hn
  obtain⟨hk1,hk2⟩:=Classical.not_imp.1 hk
  have hb:bitAt x.f3.f1 k=true:=by
   rw[h.al.bit]
   cases ho:p.ob k with
   |none=>exact absurd ho hk2
   |some o=>rfl
  have:=cntI_pos x.f3.f1 p.slots 0 k (Nat.zero_le _) (by omega) hb
  simp;omega
theorem erase_filter {α:Type} (q:α→Bool):∀(l:List α) (i:Nat),i < l.length→(∀j x,l[j]? =some x→(q x=false↔j=i))→l.filter q=l.eraseIdx i
 | [],i,h,_=>by simp at h
 |x::r,0,_,h=>by
  have h0:=(h 0 x rfl).2 rfl
  rw[List.filter_cons,if_neg (by rw[h0];decide)]
  show r.filter q=r
  rw[List.filter_eq_self]
  intro y hy
  obtain⟨j,hj⟩:=List.mem_iff_getElem?.1 hy
  cases hq:q y with
  |true=>rfl
  |false=>exact absurd ((h (j + 1) y hj).1 hq) (by omega)
 |x::r,i + 1,hi,h=>by
  have h0:q x=true:=by
   cases hq:q x with
   |true=>rfl
   |false=>exact absurd ((h 0 x rfl).1 hq) (by omega)
  rw[List.filter_cons,if_pos h0,List.eraseIdx_cons_succ,erase_filter q r i (by simpa using hi) (fun j y hy=>by
   have:=h (j + 1) y hy
   rw[this];omega)]
theorem HRel.drop_filter {ps:List Sp} {ws us:List Int} {xs:List S51} (h:HRel ps ws us xs) {i:Nat} {p:Sp} (hp:ps[i]? =some p):xs.filter (fun x=>!decide (x.f0=(p.first:Int)))=xs.eraseIdx i:=by
 have hi:=(List.getElem?_eq_some_iff.1 hp).1
 refine erase_filter _ xs i (by rw[h.xl];exact hi) (fun j x hx=>?_)
 have hj:=(List.getElem?_eq_some_iff.1 hx).1
 have hjp:ps[j]? =some (ps[j]'(by rw[←h.xl];exact hj)):=List.getElem?_eq_getElem _
 have hxr:=h.x j x _ hx hjp
 rw[Bool.not_eq_false',decide_eq_true_eq,hxr.f0]
 constructor
 ·intro e
  exact h.good.firsts hjp hp (by omega)
 ·rintro rfl
  rw[hp] at hjp
  injection hjp with hjp
  rw[←hjp]
theorem erase_has {ps:List Sp} {i:Nat} {p:Sp} (hp:ps[i]? =some p) (hn:∀k,p.ob k=none) (a:Nat) (o:Ob):Has (ps.eraseIdx i) a o↔Has ps a o:=by
 constructor
 ·rintro⟨q,hq,k,h1,h2⟩
  obtain⟨c,_,hc⟩:=List.mem_eraseIdx_iff_getElem?.1 hq
  exact⟨q,List.mem_of_getElem? hc,k,h1,h2⟩
 ·rintro⟨q,hq,k,h1,h2⟩
  obtain⟨c,hc⟩:=List.mem_iff_getElem?.1 hq
  refine⟨q,List.mem_eraseIdx_iff_getElem?.2 ⟨c,fun e=>?_,hc⟩,k,h1,h2⟩
  subst e
  rw[hp] at hc
  injection hc with hc
  rw[←hc,hn k] at h1;cases h1
theorem inSp_iff (ps:List Sp) (j:Nat):inSp ps j=true↔j=0∨∃q∈ps,q.first≤j∧j < q.first + q.pages:=by
 unfold inSp
 rw[Bool.or_eq_true,List.any_eq_true]
 simp
theorem HRel.drop {ps:List Sp} {ws us:List Int} {xs:List S51} (h:HRel ps ws us xs) {i:Nat} {p:Sp} (hp:ps[i]? =some p) (hn:∀k,p.ob k=none):
  ∃us',Ev (fun k=>pages_Give.f k 30 us (p.first:Int) (p.pages:Int)) (30,us',0)∧HRel (ps.eraseIdx i) ws us' (xs.eraseIdx i):=by
 have hg:=h.good.at hp
 have hlo:=hg.lo
 have hhi:=hg.hi
 have hpg:1≤p.pages:=by rcases hg.shaped with⟨_,a,b⟩|⟨_,a⟩ <;> omega
 have hl:=h.u.len
 have hf:BFit 30 us:=h.u.fit
 have hall:AllSet us (p.first:Int) (p.pages:Int):=fun j j0 j1=>by
  rw[h.u.bit,inSp_iff]
  exact .inr ⟨p,List.mem_of_getElem? hp,by omega,by omega⟩
 refine⟨fillAt false p.first p.pages 0 us,?_,⟨fun q hq=>?_,List.Pairwise.sublist (List.eraseIdx_sublist _ _) h.good.ap⟩,⟨h.w.wf,h.w.len,fun a o ho=>h.w.hd a o ((erase_has hp hn a o).1 ho),fun a ha=>h.w.z a (fun o ho=>ha o ((erase_has hp hn a o).2 ho))⟩,⟨fillAt_words false p.first p.pages 0 h.u.wf,fill_fit h.u.wf hf false p.first p.pages (by omega),fun k=>?_⟩,?_,fun j x q hx hq=>?_⟩
 ·rcases Give_ev (n:=30) h.u.wf h.u.small (p.first:Int) (p.pages:Int) with⟨hb,_⟩|⟨_,⟨hb,_⟩|⟨_,⟨_,he⟩|⟨hb,_⟩⟩⟩
  ·exact absurd hf hb
  ·exact absurd ⟨by omega,by omega,by omega,by omega⟩ hb
  ·simpa using he
  ·exact absurd hall hb
 ·obtain⟨c,_,hc⟩:=List.mem_eraseIdx_iff_getElem?.1 hq
  exact h.good.at hc
 ·rw[fillAt_bit false p.first p.pages 0 k h.u.wf (by omega),Nat.add_zero]
  by_cases c:p.first≤k∧k < p.first + p.pages
  ·rw[if_pos c]
   symm
   rw[←Bool.not_eq_true,inSp_iff]
   rintro (e|⟨q,hq,q1,q2⟩)
   ·omega
   ·obtain⟨j,hj,hqj⟩:=List.mem_eraseIdx_iff_getElem?.1 hq
    rcases Nat.lt_or_gt_of_ne hj with d|d
    ·have:=h.good.lt hqj hp d;omega
    ·have:=h.good.lt hp hqj d;omega
  ·rw[if_neg c,h.u.bit]
   apply Bool.eq_iff_iff.2
   rw[inSp_iff,inSp_iff]
   constructor
   ·rintro (e|⟨q,hq,q1,q2⟩)
    ·exact .inl e
    ·obtain⟨j,hj⟩:=List.mem_iff_getElem?.1 hq
     refine .inr ⟨q,List.mem_eraseIdx_iff_getElem?.2 ⟨j,fun e=>c ?_,hj⟩,q1,q2⟩
     subst e
     rw[hp] at hj
     injection hj with hj
     subst hj
     exact⟨q1,q2⟩
   ·rintro (e|⟨q,hq,q1,q2⟩)
    ·exact .inl e
    ·obtain⟨j,_,hqj⟩:=List.mem_eraseIdx_iff_getElem?.1 hq
     exact .inr ⟨q,List.mem_of_getElem? hqj,q1,q2⟩
 ·rw[List.length_eraseIdx,List.length_eraseIdx,h.xl]
 ·rw[List.getElem?_eraseIdx] at hx hq
  by_cases e:j < i
  ·rw[if_pos e] at hx hq;exact h.x j x q hx hq
  ·rw[if_neg e] at hx hq;exact h.x (j + 1) x q hx hq
theorem Cl.drop {ps:List Sp} (hg:Good ps) {i:Nat} {p q:Sp} {gone:List Int} (hp:ps[i]? =some p) (h:Cl ps (ps.set i q) p gone) (hn:∀k,q.ob k=none):Cl ps ((ps.set i q).eraseIdx i) p gone:=by
 have hq:(ps.set i q)[i]? =some q:=by
  rw[List.getElem?_set,if_pos rfl,if_pos (List.getElem?_eq_some_iff.1 hp).1]
 refine⟨h.mem,h.nd,fun a u=>(erase_has hq hn a u).trans (h.has a u),fun r hr hne=>?_,fun r hr=>?_⟩
 ·obtain⟨c,hc⟩:=List.mem_iff_getElem?.1 hr
  have hci:c≠i:=fun e=>hne (by subst e;rw[hp] at hc;injection hc with hc;rw[hc])
  exact List.mem_eraseIdx_iff_getElem?.2 ⟨c,hci,by rw[List.getElem?_set,if_neg (Ne.symm hci)];exact hc⟩
 ·obtain⟨c,_,hc⟩:=List.mem_eraseIdx_iff_getElem?.1 hr
  exact h.sw r (List.mem_of_getElem? hc)
theorem ob_slots {p:Sp} (h:SpGood p) (hn:∀k,k < p.slots→p.ob k=none) (k:Nat):p.ob k=none:=by
 cases ho:p.ob k with
 |none=>rfl
 |some o=>exact (hn k (h.ob k o ho).lt▸ho).symm▸rfl
end Go.Proofs.YtmmfchnbfnegnaaGreatDoor.K
end
section
namespace Go.Proofs.YtmmfchnbfnegnaaGreatDoor.K
open Go.RowKit Go.Proofs.YtmmfchnbfnegnaaGreatDoorW.PrintWords Go.Proofs.YtmmfchnbfnegnaaGreatDoorW.PrintLast Go.Proofs.YtmmfchnbfnegnaaGreatDoorW.PrintMore Go.Proofs.YtmmfchnbfnegnaaGreatDoor.GK Go.Proofs.YtmmfchnbfnegnaaGreatDoor.Pu Go.Proofs.YtmmfchnbfnegnaaGreatDoor.PuBitW Go.Proofs.YtmmfchnbfnegnaaGreatDoor.PuBits Go.Proofs.YtmmfchnbfnegnaaGreatDoor.PuBitsLay Go.Proofs.YtmmfchnbfnegnaaGreatDoor.PuBitsBoth
set_option linter.unusedVariables false
theorem set_self {α:Type} {l:List α} {i:Nat} {a:α} (h:l[i]? =some a):l.set i a=l:=by
 apply List.ext_getElem?
 intro j
 rw[List.getElem?_set]
 split
 ·rename_i e
  subst e
  rw[h,if_pos (List.getElem?_eq_some_iff.1 h).1]
 ·rfl
theorem clear_set {ws:List Int} {a m:Nat} (ham:a + m≤ws.length) (hm:0 < m) (hz:∀j,0 < j→j < m→rd ws ((a + j:Nat):Int)=0):ws.take a ++ List.replicate m 0 ++ ws.drop (a + m)=ws.set a 0:=by
 apply List.ext_getElem?
 intro q
 have hl2:(ws.take a).length=a:=by rw[List.length_take];omega
 rw[List.append_assoc,List.getElem?_append,hl2,List.getElem?_set]
 by_cases c1:q < a
 ·rw[if_pos c1,if_neg (by omega),List.getElem?_take,if_pos c1]
 ·rw[if_neg c1,List.getElem?_append,List.length_replicate]
  by_cases c2:q - a < m
  ·rw[if_pos c2,List.getElem?_replicate,if_pos c2]
   by_cases c3:a=q
   ·rw[if_pos c3,if_pos (by omega)]
   ·rw[if_neg c3]
    have:=hz (q - a) (by omega) c2
    rw[show a + (q - a)=q by omega,Pu.rd_nat,List.getD_eq_getElem?_getD,List.getElem?_eq_getElem (show q < ws.length by omega)] at this
    rw[List.getElem?_eq_getElem (show q < ws.length by omega)]
    exact congrArg some this.symm
  ·rw[if_neg c2,if_neg (by omega),List.getElem?_drop,show a + m + (q - a - m)=q by omega]
theorem sweep_next {ps:List Sp} (h:Good ps) {os:List S92} (hos:os=objsF 0 ps) {i:Nat} {p:Sp} (hp:ps[i]? =some p) {j:Nat} {x:S92} (hx:os[j]? =some x) (e0:x.f0=(i:Int)) (e4:x.f4=false):
  ∃(k:Nat) (o:Ob),x.f1=(k:Int)∧x.f2=((p.ad k:Nat):Int)∧x.f3.f0=(o.n:Int)∧x.f3.f1=(o.m:Int)∧o.b=false∧p.ob k=some o∧(sweepS i (os.take j) p).ob k=some o:=by
 subst hos
 have hxm:=List.mem_of_getElem? hx
 obtain⟨hj,hxe⟩:=List.getElem?_eq_some_iff.1 hx
 obtain⟨i',q,k,o,hq,hk,ho,e⟩:=mem_objsF.1 hxm
 rw[e] at e0 e4
 have ei:i'=i:=by have:((0 + i':Nat):Int)=(i:Int):=e0;omega
 subst ei
 rw[hp] at hq
 injection hq with hq
 subst hq
 have hb:o.b=false:=by
  have:(p.swept || o.b)=false:=e4
  revert this
  cases o.b <;> simp
 refine⟨k,o,by rw[e];rfl,by rw[e];rfl,by rw[e];rfl,by rw[e];rfl,hb,ho,(sweepS_ob i' _ p k o).2 ⟨ho,fun y hy f0 f4 f1=>?_⟩⟩
 obtain⟨m,hm,hye⟩:=List.mem_iff_getElem.1 hy
 rw[List.getElem_take] at hye
 rw[List.length_take] at hm
 have hs:=List.pairwise_iff_getElem.1 (objsF_sorted h 0) m j (by omega) hj (by omega)
 rw[hye,hxe] at hs
 have hym:y∈objsF 0 ps:=by rw[←hye];exact List.getElem_mem _
 have hy0:=(objsF_bounds h hym).2.2.1
 obtain⟨i2,q2,k2,o2,hq2,_,ho2,e2⟩:=mem_objsF.1 hym
 rw[e2] at f0 f1
 have ei2:i2=i':=by have:((0 + i2:Nat):Int)=(i':Int):=f0;omega
 subst ei2
 rw[hp] at hq2
 injection hq2 with hq2
 subst hq2
 have ek:k2=k:=by have:(k2:Int).toNat=k:=f1;omega
 subst ek
 unfold Behind at hs
 rw[e2] at hs hy0
 rw[e] at hs
 have a1:(oS (0 + i2) k2 p o2).f2=((p.ad k2:Nat):Int):=rfl
 have a2:(oS (0 + i2) k2 p o).f2=((p.ad k2:Nat):Int):=rfl
 rw[a1,a2] at hs
 omega
theorem sweepS_ad (i:Nat) (l:List S92) (p:Sp) (k:Nat):(sweepS i l p).ad k=p.ad k:=by
 have h:=sweepS_same i l p
 unfold Sp.ad
 rw[h.1,h.2.2.1]
theorem HRel.sweep1 {ps:List Sp} (hg:Good ps) {os:List S92} (hos:os=objsF 0 ps) {ws us:List Int} {xs:List S51} {i:Nat} {p:Sp} (hp:ps[i]? =some p) {j:Nat} {x:S92} (hx:os[j]? =some x) (e0:x.f0=(i:Int)) (e4:x.f4=false) (h:HRel (ps.set i (sweepS i (os.take j) p)) ws us xs) {y:S51} (hy:xs[i]? =some y):
  ∃(k:Nat) (o:Ob),x.f1=(k:Int)∧x.f2=((p.ad k:Nat):Int)∧x.f3.f0=(o.n:Int)∧x.f3.f1=(o.m:Int)∧o.n≤48∧p.ad k + 1 + o.n≤480∧XRel y (sweepS i (os.take j) p)∧k < (sweepS i (os.take j) p).slots∧
   ws.take (p.ad k) ++ List.replicate (1 + o.n) 0 ++ ws.drop (p.ad k + (1 + o.n))=ws.set (p.ad k) 0∧HRel (ps.set i (sweepS i (os.take (j + 1)) p)) (ws.set (p.ad k) 0) us (xs.set i (xDel y k))∧goneS i (os.take (j + 1))=goneS i (os.take j) ++ [x.f2]:=by
 obtain⟨k,o,a1,a2,a3,a4,hb,ho,hsw⟩:=sweep_next hg hos hp hx e0 e4
 have hj:=(List.getElem?_eq_some_iff.1 hx).1
 have htk:os.take (j + 1)=os.take j ++ [x]:=by
  rw[List.take_succ_eq_append_getElem hj]
  rw[(List.getElem?_eq_some_iff.1 hx).2]
 have hpi:(ps.set i (sweepS i (os.take j) p))[i]? =some (sweepS i (os.take j) p):=by rw[List.getElem?_set,if_pos rfl,if_pos (List.getElem?_eq_some_iff.1 hp).1]
 have hgj:=h.good.at hpi
 have hob:=hgj.ob k o hsw
 have hdel:=h.del hpi hy hsw hb
 have hfit:=hgj.fit hsw
 have hhi:=hgj.hi
 rw[sweepS_ad] at hdel hfit
 rw[List.set_set] at hdel
 refine⟨k,o,a1,a2,a3,a4,hob.n,by omega,h.x i y _ hy hpi,hob.lt,?_,?_,?_⟩
 ·have hwl:=h.w.len
  refine clear_set (by omega) (by omega) (fun f f0 f1=>?_)
  have hm:oS (0 + i) k (sweepS i (os.take j) p) o∈objsF 0 (ps.set i (sweepS i (os.take j) p)):=mem_objsF.2 ⟨i,_,k,o,hpi,hob.lt,hsw,rfl⟩
  have:=field_zero h.good h.w hm ((f - 1:Nat):Int) (by omega) (show ((f - 1:Nat):Int) < (o.n:Int) by omega)
  have e:(oS (0 + i) k (sweepS i (os.take j) p) o).f2=((p.ad k:Nat):Int):=by show (((sweepS i (os.take j) p).ad k:Nat):Int)=_;rw[sweepS_ad]
  rw[e] at this
  rw[show ((p.ad k + f:Nat):Int)=((p.ad k:Nat):Int) + 1 + ((f - 1:Nat):Int) by omega]
  exact this
 ·rw[htk,sweepS_snoc,if_pos ⟨e0,e4⟩,a1,Int.toNat_natCast]
  exact hdel
 ·rw[htk,goneS_snoc,if_pos ⟨e0,e4⟩]
theorem sweep0 {os:List S92} {i:Nat} {p:Sp} {j:Nat} {x:S92} (hx:os[j]? =some x) (hn:¬(x.f0=(i:Int)∧x.f4=false)):sweepS i (os.take (j + 1)) p=sweepS i (os.take j) p∧goneS i (os.take (j + 1))=goneS i (os.take j):=by
 have hj:=(List.getElem?_eq_some_iff.1 hx).1
 have htk:os.take (j + 1)=os.take j ++ [x]:=by
  rw[List.take_succ_eq_append_getElem hj]
  rw[(List.getElem?_eq_some_iff.1 hx).2]
 rw[htk,sweepS_snoc,goneS_snoc,if_neg hn,if_neg hn]
 exact⟨rfl,rfl⟩
end Go.Proofs.YtmmfchnbfnegnaaGreatDoor.K
end
