import Derived.Test.YtmmfchnbfnegnaaGreatDoorM17
import Derived.Test.YtmmfchnbfnegnaaGreatDoorM11
import Derived.Test.YtmmfchnbfnegnaaGreatDoorM16
import Derived.Test.YtmmfchnbfnegnaaGreatDoorM13
import Derived.Test.YtmmfchnbfnegnaaGreatDoorM18
import Derived.Test.YtmmfchnbfnegnaaGreatDoorM04
import Derived.Test.YtmmfchnbfnegnaaGreatDoorM05
import Derived.Test.YtmmfchnbfnegnaaGreatDoorM10
import Derived.Test.YtmmfchnbfnegnaaGreatDoorM03
import Derived.Test.YtmmfchnbfnegnaaGreatDoorM15
import Derived.Test.YtmmfchnbfnegnaaGreatDoorM07
import Derived.Test.YtmmfchnbfnegnaaGreatDoorM06
section
namespace Go.Proofs.YtmmfchnbfnegnaaGreatDoor.K
open Go.RowKit Go.Proofs.YtmmfchnbfnegnaaGreatDoorW.PrintWords Go.Proofs.YtmmfchnbfnegnaaGreatDoorW.PrintLast Go.Proofs.YtmmfchnbfnegnaaGreatDoorW.PrintMore Go.Proofs.YtmmfchnbfnegnaaGreatDoor.GK Go.Proofs.YtmmfchnbfnegnaaGreatDoor.Pu Go.Proofs.YtmmfchnbfnegnaaGreatDoor.PuBitW Go.Proofs.YtmmfchnbfnegnaaGreatDoor.PuBits Go.Proofs.YtmmfchnbfnegnaaGreatDoor.PuBitsLay Go.Proofs.YtmmfchnbfnegnaaGreatDoor.PuBitsBoth
set_option linter.unusedVariables false
theorem sorted_eq:∀{l m:List Int},l.Pairwise (· < ·)→m.Pairwise (· < ·)→(∀a,a∈l↔a∈m)→l=m
 | [],[],_,_,_=>rfl
 | [],y::m,_,_,h=>absurd ((h y).2 List.mem_cons_self) (by simp)
 |x::l,[],_,_,h=>absurd ((h x).1 List.mem_cons_self) (by simp)
 |x::l,y::m,hl,hm,h=>by
  have h1:=List.pairwise_cons.1 hl
  have h2:=List.pairwise_cons.1 hm
  have e:x=y:=by
   rcases List.mem_cons.1 ((h x).1 List.mem_cons_self) with e|e
   ·exact e
   ·rcases List.mem_cons.1 ((h y).2 List.mem_cons_self) with e'|e'
    ·exact e'.symm
    ·have:=h1.1 y e';have:=h2.1 x e;omega
  subst e
  rw[sorted_eq h1.2 h2.2 (fun a=>?_)]
  constructor
  ·intro ha
   rcases List.mem_cons.1 ((h a).1 (List.mem_cons_of_mem _ ha)) with e|e
   ·have:=h1.1 a ha;omega
   ·exact e
  ·intro ha
   rcases List.mem_cons.1 ((h a).2 (List.mem_cons_of_mem _ ha)) with e|e
   ·have:=h2.1 a ha;omega
   ·exact e
theorem sorted_nodup {l:List Int} (h:l.Pairwise (· < ·)):l.Nodup:=h.imp (fun hab e=>by omega)
theorem nodup_len {l m:List Int} (hl:l.Nodup) (hm:m.Nodup) (h:∀a,a∈l↔a∈m):l.length=m.length:=((List.perm_ext_iff_of_nodup hl hm).2 h).length_eq
theorem rd_nth {l:List Int} {i:Nat} (h:i < l.length):rd l (i:Int)=l[i]:=by
 simp[rd,h]
theorem has_ev (l:List Int) (a:Int) (hl:l.length < 1000000):Ev (fun k=>besomtop_has.f k l a) (decide (a∈l)):=by
 have step:∀(d i:Nat),l.length - i=d→Ev (fun k=>besomtop_has.l0 k a l (l.length:Int) (i:Int)) (decide (a∈l.drop i)):=by
  intro d
  induction d with
  |zero=>
   intro i hd
   refine ev_of (K:=1) fun k hk=>?_
   obtain⟨k,rfl⟩:∃m,k=m + 1:=⟨k - 1,by omega⟩
   rw[besomtop_has.l0,if_neg (by omega),List.drop_eq_nil_of_le (by omega)]
   simp
  |succ d ih=>
   intro i hd
   have hlt:i < l.length:=by omega
   have nx:=ih (i + 1) (by omega)
   rw[List.drop_eq_getElem_cons hlt]
   by_cases e:l[i]=a
   ·refine ev_of (K:=1) fun k hk=>?_
    obtain⟨k,rfl⟩:∃m,k=m + 1:=⟨k - 1,by omega⟩
    rw[besomtop_has.l0,if_pos (by omega),if_pos (by omega),if_pos (by omega),rd_nth hlt,if_pos e]
    simp[e]
   ·refine ev_succ (f:=fun k=>besomtop_has.l0 k a l (l.length:Int) ((i + 1:Nat):Int)) (fun k=>?_) ?_
    ·rw[besomtop_has.l0,if_pos (by omega),if_pos (by omega),if_pos (by omega),rd_nth hlt,if_neg e,w64 (by omega) (by omega)]
     rfl
    ·have:decide (a∈l[i]::l.drop (i + 1))=decide (a∈l.drop (i + 1)):=by
      apply decide_eq_decide.2
      rw[List.mem_cons]
      exact⟨fun h=>h.elim (fun h=>absurd h.symm e) id,.inr⟩
     rw[this];exact nx
 unfold besomtop_has.f
 have:=step l.length 0 (by omega)
 rw[List.drop_zero] at this
 exact this
theorem same_ev (l:List Int) (hl:l.length < 1000000):Ev (fun k=>besomtop_same.f k l l) true:=by
 have step:∀(d i:Nat),l.length - i=d→Ev (fun k=>besomtop_same.l0 k l l (l.length:Int) (i:Int)) true:=by
  intro d
  induction d with
  |zero=>
   intro i hd
   refine ev_of (K:=1) fun k hk=>?_
   obtain⟨k,rfl⟩:∃m,k=m + 1:=⟨k - 1,by omega⟩
   rw[besomtop_same.l0,if_neg (by omega)]
  |succ d ih=>
   intro i hd
   refine ev_succ (f:=fun k=>besomtop_same.l0 k l l (l.length:Int) ((i + 1:Nat):Int)) (fun k=>?_) (ih (i + 1) (by omega))
   rw[besomtop_same.l0,if_pos (by omega),if_pos (by omega),if_pos (by omega),if_pos (by omega),if_pos rfl,w64 (by omega) (by omega)]
   rfl
 unfold besomtop_same.f
 simp only[if_true]
 exact step l.length 0 (by omega)
structure SpOk (ls:List S48):Prop where
 srt:ls.Pairwise fun a b=>a.f0 < b.f0
 k:∀x∈ls,x.f1=2∧16≤x.f0
theorem rd48 {l:List S48} {i:Nat} (h:i < l.length):rd_T48 l (i:Int)=l[i]:=by simp[rd_T48,h]
theorem SpOk.check {ls:List S48} (h:SpOk ls) (hl:ls.length≤60):Ev (fun k=>special_Check.f k ls) 0:=by
 have hs:=List.pairwise_iff_getElem.1 h.srt
 have s1:∀(i:Nat),i < ls.length→Ev (fun k=>api_Special_67.l0 k ls (i:Int)) true:=by
  intro i
  induction i with
  |zero=>
   intro _
   refine ev_of (K:=1) fun k hk=>?_
   obtain⟨k,rfl⟩:∃m,k=m + 1:=⟨k - 1,by omega⟩
   rw[api_Special_67.l0,if_neg (by decide)]
  |succ i ih=>
   intro hi
   refine ev_succ (f:=fun k=>api_Special_67.l0 k ls (i:Int)) (fun k=>?_) (ih (by omega))
   have e:wrap64 (((i + 1:Nat):Int) - 1)=(i:Int):=by rw[w64 (by omega) (by omega)];omega
   have hlt:=hs i (i + 1) (by omega) hi (by omega)
   rw[api_Special_67.l0,e,if_pos (by omega),if_pos (by omega),if_pos (by omega),if_pos (by omega),if_pos (by omega),rd48 hi,rd48 (show i < ls.length by omega)]
   unfold special_Check_1.f
   rw[cmpU,if_neg (by omega),if_pos (by omega)]
   rfl
 have s2:Ev (fun k=>api_Special_67.f k ls) true:=by
  unfold api_Special_67.f
  rcases Nat.eq_zero_or_pos ls.length with e|e
  ·refine ev_of (K:=1) fun k hk=>?_
   obtain⟨k,rfl⟩:∃m,k=m + 1:=⟨k - 1,by omega⟩
   rw[api_Special_67.l0,e,if_neg (by decide +kernel)]
  ·have:=s1 (ls.length - 1) (by omega)
   rw[show wrap64 ((ls.length:Int) - 1)=((ls.length - 1:Nat):Int) by rw[w64 (by omega) (by omega)];omega]
   exact this
 have s3:∀(d i:Nat),ls.length - i=d→Ev (fun k=>special_Check.l0 k ls ls (ls.length:Int) (i:Int)) 0:=by
  intro d
  induction d with
  |zero=>
   intro i hd
   refine ev_of (K:=1) fun k hk=>?_
   obtain⟨k,rfl⟩:∃m,k=m + 1:=⟨k - 1,by omega⟩
   rw[special_Check.l0,if_neg (by omega)]
  |succ d ih=>
   intro i hd
   have hlt:i < ls.length:=by omega
   obtain⟨k1,k2⟩:=h.k _ (List.getElem_mem hlt)
   refine ev_succ (f:=fun k=>special_Check.l0 k ls ls (ls.length:Int) ((i + 1:Nat):Int)) (fun k=>?_) (ih (i + 1) (by omega))
   rw[special_Check.l0,if_pos (by omega),if_pos (by omega),if_pos (by omega),rd48 hlt]
   unfold special_one.f
   rw[if_pos (by omega),if_pos (by omega),show decide (ls[i].f1 < 3)=true from decide_eq_true (by omega),w64 (by omega) (by omega)]
   simp only[Option.bind_some,if_true]
   rw[if_neg (by omega)]
   rfl
 unfold special_Check.f
 refine Ev.bind s2 ?_
 simp only[show ¬((ls.length:Int) > 64) by omega,if_false]
 refine ev_succ (f:=fun k=>special_Check.l0 k ls ls (ls.length:Int) ((0:Nat):Int)) (fun k=>?_) (s3 ls.length 0 (by omega))
 rfl
def insS (s:S48):List S48→List S48
 | []=>[s]
 |x::r=>if x.f0 > s.f0 then s::x::r else x::insS s r
theorem insS_mem (s:S48):∀(l:List S48) (x:S48),x∈insS s l↔x=s∨x∈l
 | [],x=>by simp[insS]
 |y::r,x=>by
  rw[insS]
  split
  ·rw[List.mem_cons]
  ·rw[List.mem_cons,insS_mem s r,List.mem_cons]
   constructor
   ·rintro (h|h|h)
    ·exact .inr (.inl h)
    ·exact .inl h
    ·exact .inr (.inr h)
   ·rintro (h|h|h)
    ·exact .inr (.inl h)
    ·exact .inl h
    ·exact .inr (.inr h)
theorem insS_len (s:S48):∀(l:List S48),(insS s l).length=l.length + 1
 | []=>rfl
 |y::r=>by
  rw[insS]
  split
  ·rfl
  ·rw[List.length_cons,insS_len s r,List.length_cons]
theorem insS_sorted (s:S48):∀(l:List S48),l.Pairwise (fun a b=>a.f0 < b.f0)→(∀x∈l,x.f0≠s.f0)→(insS s l).Pairwise fun a b=>a.f0 < b.f0
 | [],_,_=>by simp[insS]
 |y::r,h,hn=>by
  have h1:=List.pairwise_cons.1 h
  rw[insS]
  split
  ·rename_i c
   refine List.pairwise_cons.2 ⟨fun x hx=>?_,h⟩
   rcases List.mem_cons.1 hx with rfl|hx
   ·omega
   ·have:=h1.1 x hx;omega
  ·rename_i c
   refine List.pairwise_cons.2 ⟨fun x hx=>?_,insS_sorted s r h1.2 (fun x hx=>hn x (List.mem_cons_of_mem _ hx))⟩
   rcases (insS_mem s r x).1 hx with rfl|hx
   ·have:=hn y List.mem_cons_self;omega
   ·exact h1.1 x hx
theorem insS_put (s:S48):∀(l:List S48),∃j,j≤l.length∧insS s l=l.take j ++ [s] ++ l.drop j∧∀i:Nat,(j=l.length→ixP (spP s.f0) (l.map encS) (i:Int)= -1)∧(j < l.length→ixP (spP s.f0) (l.map encS) (i:Int)=((i + j:Nat):Int))
 | []=>⟨0,Nat.le_refl _,rfl,fun i=>⟨fun _=>rfl,fun h=>by simp at h⟩⟩
 |y::r=>by
  by_cases c:y.f0 > s.f0
  ·refine⟨0,Nat.zero_le _,by rw[insS,if_pos c];rfl,fun i=>⟨fun h=>by simp at h,fun _=>?_⟩⟩
   rw[List.map_cons,ixP,if_pos (by simpa[spP,encS] using c)];rfl
  ·obtain⟨j,h1,h2,h3⟩:=insS_put s r
   refine⟨j + 1,by simpa using h1,by rw[insS,if_neg c,h2];rfl,fun i=>⟨fun h=>?_,fun h=>?_⟩⟩
   ·rw[List.map_cons,ixP,if_neg (by simpa[spP,encS] using c)]
    exact (h3 (i + 1)).1 (by simpa using h)
   ·rw[List.map_cons,ixP,if_neg (by simpa[spP,encS] using c)]
    have:=(h3 (i + 1)).2 (by simpa using h)
    rw[show (i:Int) + 1=((i + 1:Nat):Int) by omega,this]
    congr 1;omega
theorem putR_eq (s:S48) (l:List S48):putR s.f0 (encS s) (l.map encS)=(insS s l).map encS:=by
 obtain⟨j,h1,h2,h3⟩:=insS_put s l
 unfold putR
 rw[h2]
 rcases Nat.lt_or_ge j l.length with c|c
 ·have e:=(h3 0).2 c
  have e':ixP (spP s.f0) (l.map encS) 0=(j:Int):=by rw[Nat.zero_add] at e;exact e
  rw[e',if_neg (by omega),Int.toNat_natCast]
  simp[List.map_take,List.map_drop]
 ·have ej:j=l.length:=by omega
  have e:=(h3 0).1 ej
  have e':ixP (spP s.f0) (l.map encS) 0= -1:=e
  rw[e',if_pos (by decide),ej]
  simp
theorem takeS_eq (a:Int):∀(l:List S48),(∀x∈l,x.f1=2)→(l.map encS).filter (fun x=>!isP a 2 x)=(l.filter fun x=>!decide (x.f0=a)).map encS∧(l.map encS).filter (fun x=>isP a 2 x)=(l.filter fun x=>decide (x.f0=a)).map encS
 | [],_=>⟨rfl,rfl⟩
 |y::r,h=>by
  obtain⟨h1,h2⟩:=takeS_eq a r (fun x hx=>h x (List.mem_cons_of_mem _ hx))
  have hy:=h y List.mem_cons_self
  have e:isP a 2 (encS y)=decide (y.f0=a):=by
   unfold isP encS
   rw[hy]
   by_cases c:y.f0=a <;> simp[c]
  rw[List.map_cons,List.filter_cons,List.filter_cons,List.filter_cons,List.filter_cons,e,h1,h2]
  by_cases c:y.f0=a <;> simp[c]
theorem one_of {a:Int}:∀{l:List S48},l.Pairwise (fun x y=>x.f0 < y.f0)→a∈l.map (·.f0)→(l.filter fun x=>decide (x.f0=a)).length=1
 | [],_,h=>by simp at h
 |y::r,hp,h=>by
  have h1:=List.pairwise_cons.1 hp
  rw[List.filter_cons]
  by_cases c:y.f0=a
  ·rw[if_pos (by simpa using c)]
   have:r.filter (fun x=>decide (x.f0=a))=[]:=by
    rw[List.filter_eq_nil_iff]
    intro x hx
    have:=h1.1 x hx
    simp;omega
   rw[this];rfl
  ·rw[if_neg (by simpa using c)]
   rw[List.map_cons,List.mem_cons] at h
   exact one_of h1.2 (h.resolve_left (fun e=>c e.symm))
theorem SpOk.filter {ls:List S48} (h:SpOk ls) (p:S48→Bool):SpOk (ls.filter p):=⟨h.srt.filter _,fun x hx=>h.k x (List.mem_filter.1 hx).1⟩
theorem SpOk.ins {ls:List S48} (h:SpOk ls) {s:S48} (hs:s.f1=2) (h16:16≤s.f0) (hn:s.f0 ∉ ls.map (·.f0)):SpOk (insS s ls):=by
 refine⟨insS_sorted s ls h.srt (fun x hx e=>hn (List.mem_map.2 ⟨x,hx,e⟩)),fun x hx=>?_⟩
 rcases (insS_mem s ls x).1 hx with rfl|hx
 ·exact⟨hs,h16⟩
 ·exact h.k x hx
theorem SpOk.sorted {ls:List S48} (h:SpOk ls):(ls.map (·.f0)).Pairwise (· < ·):=by
 rw[List.pairwise_map];exact h.srt
theorem begins_ev:besomtop_begins.f 20=some true:=by decide +kernel
theorem make0:heap_Make.f 40 30=some (List.replicate 480 0,30,[1],[],0):=by kernel_rfl
theorem rel0:HRel [] (List.replicate 480 0) [1] []:=by
 have hz:∀a:Nat,rd (List.replicate 480 0) (a:Int)=0:=fun a=>by
  rw[Pu.rd_nat,List.getD_eq_getElem?_getD,List.getElem?_replicate]
  split <;> rfl
 refine⟨⟨fun p hp=>(by cases hp),List.Pairwise.nil⟩,⟨fun x hx=>?_,List.length_replicate,fun a o ho=>?_,fun a _=>hz a⟩,in_nil,rfl,fun j x p hx=>by simp at hx⟩
 ·rw[(List.mem_replicate.1 hx).2];decide
 ·obtain⟨p,hp,_⟩:=ho
  cases hp
end Go.Proofs.YtmmfchnbfnegnaaGreatDoor.K
end
section
namespace Go.Proofs.YtmmfchnbfnegnaaGreatDoor.K
open Go.RowKit Go.Proofs.YtmmfchnbfnegnaaGreatDoorW.PrintWords Go.Proofs.YtmmfchnbfnegnaaGreatDoorW.PrintLast Go.Proofs.YtmmfchnbfnegnaaGreatDoorW.PrintMore Go.Proofs.YtmmfchnbfnegnaaGreatDoor.GK Go.Proofs.YtmmfchnbfnegnaaGreatDoor.Pu Go.Proofs.YtmmfchnbfnegnaaGreatDoor.PuBitW Go.Proofs.YtmmfchnbfnegnaaGreatDoor.PuBits
set_option linter.unusedVariables false
set_option linter.unusedSimpArgs false
attribute [local go_sem] max2_int min2_int max_two min_two max_three min_three max_four min_four
def obV (x:S92):Value:=.agg #[.int .i64 x.f0,.int .i64 x.f1,.int .u64 x.f2,.int .i64 x.f3.f0,.int .u64 x.f3.f1,.bool x.f4]
def ob0:Value:=.agg #[.int .i64 0,.int .i64 0,.int .u64 0,.int .i64 0,.int .u64 0,.bool false]
theorem rd92 {l:List S92} {i:Nat} (h:i < l.length):rd_T92 l (i:Int)=l[i]:=by simp[rd_T92,h]
theorem find0_ev {os:List S92} (hp:∀x∈os,16≤x.f2) (hl:os.length < 500000):Ev (fun k=>heap_object_uint64.f k os 0) (0,false):=by
 have h:=search92 os 0 0 hl (Nat.zero_le _) (fun i h0 h1=>by omega) (fun i h0 h1=>by
  obtain⟨n,rfl⟩:∃n:Nat,i=(n:Int):=⟨i.toNat,by omega⟩
  rw[rd92 (by omega)]
  have:=hp _ (List.getElem_mem (show n < os.length by omega));omega)
 have e:decide (0 < os.length∧(rd_T92 os ((0:Nat):Int)).f2=0)=false:=by
  refine decide_eq_false (fun h=>?_)
  have h2:=h.2
  rw[rd92 h.1] at h2
  have:=hp _ (List.getElem_mem h.1);omega
 rw[e] at h
 exact h
theorem find_ev {os:List S92} (hs:os.Pairwise Behind) (hn:∀x∈os,0≤x.f3.f0) (hl:os.length < 500000) {j:Nat} (hj:j < os.length):Ev (fun k=>heap_object_uint64.f k os os[j].f2) ((j:Int),true):=by
 have hp:=List.pairwise_iff_getElem.1 hs
 have h:=search92 os os[j].f2 j hl (by omega) (fun i h0 h1=>by
  obtain⟨n,rfl⟩:∃n:Nat,i=(n:Int):=⟨i.toNat,by omega⟩
  rw[rd92 (by omega)]
  have:=hp n j (by omega) hj (by omega)
  have:=hn _ (List.getElem_mem (show n < os.length by omega))
  unfold Behind at *;omega) (fun i h0 h1=>by
  obtain⟨n,rfl⟩:∃n:Nat,i=(n:Int):=⟨i.toNat,by omega⟩
  rw[rd92 (by omega)]
  by_cases e:j=n
  ·subst e;exact Int.le_refl _
  ·have:=hp j n hj (by omega) (by omega)
   have:=hn _ (List.getElem_mem hj)
   unfold Behind at *;omega)
 have e:decide (j < os.length∧(rd_T92 os (j:Int)).f2=os[j].f2)=true:=decide_eq_true ⟨hj,by rw[rd92 hj]⟩
 rw[e] at h
 exact h
set_option maxHeartbeats 8000000 in
set_option maxRecDepth 100000 in
theorem hpFind0 (A5:Option Addr) (c5:Nat) (os:List S92) (sb:Nat) (w:World) (hp:∀x∈os,16≤x.f2) (hl:os.length < 500000) (hC:Kd.C k92 w A5 os.length os) (h5:os.length≤c5) (hc4:w.cell? ⟨sb,4,none⟩=some (.slice A5 os.length c5)):
  Calls Tryz.prog 33 #[.pointer (some ⟨sb,0,none⟩),.int .u64 0] w fun e w'=>e=.returned (.tuple #[ob0,.bool false])∧Below w.heap.size w w':=by
 have hue:=Tryz.underlying81
 have hu92:=Tryz.underlying92
 obtain⟨k0,hk0⟩:=find0_ev hp hl
 have hk0:=hk0 k0 (Nat.le_refl _)
 have HC:=As hC
 have hsl:=World.block_lt_of_cell? _ _ hc4
 clear hp hC
 unfold ob0
 go_enter Tryz.func33,Tryz.ntmps33
 go_wp2_with (fail)
 have hb0:=below_alloc (Below.refl w.heap.size w) (Obj.cells #[.int .i64 0,.int .i64 0,.int .u64 0,.int .i64 0,.int .u64 0,.bool false] 92)
 have hbo:=blk_new w (Obj.cells #[.int .i64 0,.int .i64 0,.int .u64 0,.int .i64 0,.int .u64 0,.bool false] 92)
 refine (heap_object_uint64.calls k0 A5 c5 os 0 0 false _ (Kd.C_below HC.out hb0) h5 hk0).mono ?_
 rintro e w14 ⟨rfl,hb⟩
 have hbo2:=blk_below hbo hb
 have HB:=As (below_step hb0 hb)
 have hf:=fun j=>blk_frozen hbo2 j
 have ho0:=Z.c0 hbo2
 have ho1:=Z.c1 hbo2
 have ho2:=Z.c2 hbo2
 have ho3:=Z.c3 hbo2
 have ho4:=Z.c4 hbo2
 have ho5:=Z.c5 hbo2
 clear hb hb0 hbo hk0
 dsimp only
 go_wp2_with (fail)
 have hres:=(blk_put (cs:=#[.int .i64 0,.int .i64 0,.int .u64 0,.int .i64 0,.int .u64 0,.bool false]) (cs':=#[.int .i64 0,.int .i64 0,.int .u64 0,.int .i64 0,.int .u64 0,.bool false]) (blk_put (cs:=#[.int .i64 0,.int .i64 0,.int .u64 0,.int .i64 0,.int .u64 0,.bool false]) (cs':=#[.int .i64 0,.int .i64 0,.int .u64 0,.int .i64 0,.int .u64 0,.bool false]) (blk_put (cs:=#[.int .i64 0,.int .i64 0,.int .u64 0,.int .i64 0,.int .u64 0,.bool false]) (cs':=#[.int .i64 0,.int .i64 0,.int .u64 0,.int .i64 0,.int .u64 0,.bool false]) (blk_put (cs:=#[.int .i64 0,.int .i64 0,.int .u64 0,.int .i64 0,.int .u64 0,.bool false]) (cs':=#[.int .i64 0,.int .i64 0,.int .u64 0,.int .i64 0,.int .u64 0,.bool false]) (blk_put (cs:=#[.int .i64 0,.int .i64 0,.int .u64 0,.int .i64 0,.int .u64 0,.bool false]) (cs':=#[.int .i64 0,.int .i64 0,.int .u64 0,.int .i64 0,.int .u64 0,.bool false]) (blk_put (cs:=#[.int .i64 0,.int .i64 0,.int .u64 0,.int .i64 0,.int .u64 0,.bool false]) (cs':=#[.int .i64 0,.int .i64 0,.int .u64 0,.int .i64 0,.int .u64 0,.bool false]) hbo2 0 (.int .i64 0) rfl) 1 (.int .i64 0) rfl) 2 (.int .u64 0) rfl) 3 (.int .i64 0) rfl) 4 (.int .u64 0) rfl) 5 (.bool false) rfl)
 (try simp only[Exit.inBlock,Exit.then])
 refine bodyPost_ret (results_list (rs:=[.cell 4 92,.tmp 5]) rfl (by simp) (.cell w.heap.size 92 #[.int .i64 0,.int .i64 0,.int .u64 0,.int .i64 0,.int .u64 0,.bool false] (0,0) _ rfl hres Tryz.underlying92 rfl (by kernel_rfl) (.tmp .nil))) rfl ?_
 exact⟨rfl,(by with_reducible repeat (first|exact HB.out|refine below_alloc ?_ _|refine pw_below_drewN ?_ _|refine below_drew1 ?_|refine below_set ?_ (Nat.le_refl _)|(refine below_set ?_ ?_;rotate_left;omega)))⟩
set_option maxHeartbeats 8000000 in
set_option maxRecDepth 100000 in
theorem hpFind (A5:Option Addr) (c5:Nat) (os:List S92) (sb:Nat) (w:World) (hs:os.Pairwise Behind) (hn:∀x∈os,0≤x.f3.f0) (hl:os.length < 500000) (j:Nat) (hj:j < os.length) (x:S92) (hx:x=os[j]) (hcur:x.f4=true) (hC:Kd.C k92 w A5 os.length os) (h5:os.length≤c5) (hc4:w.cell? ⟨sb,4,none⟩=some (.slice A5 os.length c5)):
  Calls Tryz.prog 33 #[.pointer (some ⟨sb,0,none⟩),.int .u64 x.f2] w fun e w'=>e=.returned (.tuple #[obV x,.bool true])∧Below w.heap.size w w':=by
 have hue:=Tryz.underlying81
 have hu92:=Tryz.underlying92
 obtain⟨k0,hk0⟩:=find_ev hs hn hl hj
 have hk0:=hk0 k0 (Nat.le_refl _)
 rw[←hx] at hk0
 obtain⟨ad,eA,hx0,hx1,hx2,hx3,hx4,hx5⟩:=at_T92 hC (j:Int) (by omega) (by omega)
 subst eA
 have HC:=As hC
 have hsl:=World.block_lt_of_cell? _ _ hc4
 rw[Int.toNat_natCast] at hx0 hx1 hx2 hx3 hx4 hx5
 rw[rd92 hj,←hx] at hx0 hx1 hx2 hx3 hx4 hx5
 rw[hcur] at hx5
 clear hs hn hC hx
 unfold obV
 rw[hcur]
 have hjd:(j < os.length)=True:=eq_true hj
 go_enter Tryz.func33,Tryz.ntmps33
 go_wp2_with (fail)
 have hb0:=below_alloc (Below.refl w.heap.size w) (Obj.cells #[.int .i64 0,.int .i64 0,.int .u64 0,.int .i64 0,.int .u64 0,.bool false] 92)
 have hbo:=blk_new w (Obj.cells #[.int .i64 0,.int .i64 0,.int .u64 0,.int .i64 0,.int .u64 0,.bool false] 92)
 refine (heap_object_uint64.calls k0 (some ad) c5 os x.f2 (j:Int) true _ (Kd.C_below HC.out hb0) h5 hk0).mono ?_
 rintro e w14 ⟨rfl,hb⟩
 have hbo2:=blk_below hbo hb
 have hb1:=below_step hb0 hb
 have HB:=As hb1
 have hf:=fun j=>blk_frozen hbo2 j
 have ho0:=Z.c0 hbo2
 have ho1:=Z.c1 hbo2
 have ho2:=Z.c2 hbo2
 have ho3:=Z.c3 hbo2
 have ho4:=Z.c4 hbo2
 have ho5:=Z.c5 hbo2
 have hc4:=keepc hb1 hc4
 have hx0:=keepc hb1 hx0
 have hx1:=keepc hb1 hx1
 have hx2:=keepc hb1 hx2
 have hx3:=keepc hb1 hx3
 have hx4:=keepc hb1 hx4
 have hx5:=keepc hb1 hx5
 clear hb hb0 hbo hk0 hb1
 dsimp only
 go_wp2_with (fail)
 have hres:=(blk_put (cs:=#[.int .i64 x.f0,.int .i64 x.f1,.int .u64 x.f2,.int .i64 x.f3.f0,.int .u64 x.f3.f1,.bool false]) (cs':=#[.int .i64 x.f0,.int .i64 x.f1,.int .u64 x.f2,.int .i64 x.f3.f0,.int .u64 x.f3.f1,.bool true]) (blk_put (cs:=#[.int .i64 x.f0,.int .i64 x.f1,.int .u64 x.f2,.int .i64 x.f3.f0,.int .u64 0,.bool false]) (cs':=#[.int .i64 x.f0,.int .i64 x.f1,.int .u64 x.f2,.int .i64 x.f3.f0,.int .u64 x.f3.f1,.bool false]) (blk_put (cs:=#[.int .i64 x.f0,.int .i64 x.f1,.int .u64 x.f2,.int .i64 0,.int .u64 0,.bool false]) (cs':=#[.int .i64 x.f0,.int .i64 x.f1,.int .u64 x.f2,.int .i64 x.f3.f0,.int .u64 0,.bool false]) (blk_put (cs:=#[.int .i64 x.f0,.int .i64 x.f1,.int .u64 0,.int .i64 0,.int .u64 0,.bool false]) (cs':=#[.int .i64 x.f0,.int .i64 x.f1,.int .u64 x.f2,.int .i64 0,.int .u64 0,.bool false]) (blk_put (cs:=#[.int .i64 x.f0,.int .i64 0,.int .u64 0,.int .i64 0,.int .u64 0,.bool false]) (cs':=#[.int .i64 x.f0,.int .i64 x.f1,.int .u64 0,.int .i64 0,.int .u64 0,.bool false]) (blk_put (cs:=#[.int .i64 0,.int .i64 0,.int .u64 0,.int .i64 0,.int .u64 0,.bool false]) (cs':=#[.int .i64 x.f0,.int .i64 0,.int .u64 0,.int .i64 0,.int .u64 0,.bool false]) hbo2 0 (.int .i64 x.f0) rfl) 1 (.int .i64 x.f1) rfl) 2 (.int .u64 x.f2) rfl) 3 (.int .i64 x.f3.f0) rfl) 4 (.int .u64 x.f3.f1) rfl) 5 (.bool true) rfl)
 (try simp only[Exit.inBlock,Exit.then])
 refine bodyPost_ret (results_list (rs:=[.cell 4 92,.tmp 5]) rfl (by simp) (.cell w.heap.size 92 #[.int .i64 x.f0,.int .i64 x.f1,.int .u64 x.f2,.int .i64 x.f3.f0,.int .u64 x.f3.f1,.bool true] (0,0) _ rfl hres Tryz.underlying92 rfl (by kernel_rfl) (.tmp .nil))) rfl ?_
 exact⟨rfl,(by with_reducible repeat (first|exact HB.out|refine below_alloc ?_ _|refine pw_below_drewN ?_ _|refine below_drew1 ?_|refine below_set ?_ (Nat.le_refl _)|(refine below_set ?_ ?_;rotate_left;omega)))⟩
end Go.Proofs.YtmmfchnbfnegnaaGreatDoor.K
end
section
namespace Go.Proofs.YtmmfchnbfnegnaaGreatDoor.K
open Go.RowKit Go.Proofs.YtmmfchnbfnegnaaGreatDoorW.PrintWords Go.Proofs.YtmmfchnbfnegnaaGreatDoorW.PrintLast Go.Proofs.YtmmfchnbfnegnaaGreatDoorW.PrintMore Go.Proofs.YtmmfchnbfnegnaaGreatDoor.GK Go.Proofs.YtmmfchnbfnegnaaGreatDoor.Pu Go.Proofs.YtmmfchnbfnegnaaGreatDoor.PuBitW Go.Proofs.YtmmfchnbfnegnaaGreatDoor.PuBits
set_option linter.unusedVariables false
set_option linter.unusedSimpArgs false
attribute [local go_sem] max2_int min2_int max_two min_two max_three min_three max_four min_four
theorem goesX_ {P:Program} {ops:Array Oper} {Q:Exit→Act→World→Prop} {oi:Oper} {N:Option Tmp} {a:Act} {w:World} {K:Act→World→Prop} {f:FuncId} {t:Tmp} {os_:Array Operand} {ts:Array TypeId} (hf:FnIs P f) (first args cap:Array Value)
  (hw:Region.wanted oi (yielded ops a.tmps)=true) (hN:oi.dst=N) (hop:oi.op=.call {callee:=.value (.tmp t),args:=os_,argTypes:=ts}) (hv:a.eval (.tmp t)=.func (.func f) first cap) (hargs:os_.map a.eval=args)
  (h:Calls P f (first ++ args ++ cap) w fun e w'=>∃v,e=.returned v∧K (a.put N v) w'):if Region.wanted oi (yielded ops a.tmps)=true then Oper.wp P oi a w K Q else K (a.put N undef) w:=by
 obtain⟨fn,hf1,hf2,hf3⟩:=hf.ex
 refine call_ f (first ++ args ++ cap) hw hN ?_ h
 have he:=enters_ hf1 hf2 hf3 (first ++ args ++ cap) w
 unfold execOp
 simp only[hop,resolve,Sem.run_bind,Sem.run_pure,Result.andThen_ok,hv,Deferred.ofValue,hargs,invoke]
 exact he
set_option maxHeartbeats 8000000 in
set_option maxRecDepth 100000 in
theorem hpLeads0 (A5:Option Addr) (c5:Nat) (os:List S92) (sb:Nat) (w:World) (hp:∀x∈os,16≤x.f2) (hl:os.length < 500000) (hC:Kd.C k92 w A5 os.length os) (h5:os.length≤c5) (hc4:w.cell? ⟨sb,4,none⟩=some (.slice A5 os.length c5)):
  Calls Tryz.prog 114 #[.pointer (some ⟨sb,0,none⟩),.int .u64 0] w fun e w'=>e=.returned (.bool true)∧Below w.heap.size w w':=by
 have hue:=Tryz.underlying81
 have hu92:=Tryz.underlying92
 have HF:=As (hpFind0 A5 c5 os sb w hp hl hC h5 hc4)
 clear hp hl hC h5 hc4
 go_enter Tryz.func114,Tryz.ntmps114
 go_wp2_with (fail)
 refine HF.out.mono ?_
 rintro e w10 ⟨rfl,hb⟩
 have HB:=As hb
 clear hb
 unfold ob0
 dsimp only
 go_wp2_with (fail)
 go_ret
 exact⟨rfl,(by with_reducible repeat (first|exact HB.out|refine below_alloc ?_ _|refine pw_below_drewN ?_ _|refine below_drew1 ?_|refine below_set ?_ (Nat.le_refl _)|(refine below_set ?_ ?_;rotate_left;omega)))⟩
theorem fnLeads:FnIs Tryz.prog 114:=⟨_,Tryz.func114,by kernel_rfl,rfl⟩
theorem fnZero:FnIs Tryz.prog 111:=⟨_,Tryz.func111,by kernel_rfl,rfl⟩
theorem fnZero1:FnIs Tryz.prog 113:=⟨_,Tryz.func113,by kernel_rfl,rfl⟩
theorem hpZero1 (W:World):Calls Tryz.prog 113 #[.int .u64 0] W fun e W'=>e=.returned (.bool false)∧Below W.heap.size W W':=by
 go_enter Tryz.func113,Tryz.ntmps113
 go_wp2
 go_ret
 exact⟨rfl,Below.refl _ _⟩
set_option maxHeartbeats 8000000 in
set_option maxRecDepth 100000 in
theorem ixZ (A:Option Addr) (c:Nat) (l:List Int) (w:World) (hz:∀x∈l,x=0) (hC:Kd.C (Kd.int .u64) w A l.length l) (hc:l.length≤c):
  Calls Tryz.prog 122 #[.slice A l.length c,.func (.func 113) #[] #[]] w fun e w'=>e=.returned (.int .i64 (-1))∧Below w.heap.size w w':=by
 have hml:l.length≤9223372036854775807:=hC.2.1
 have HR:=As hC
 have HZ:=As hz
 clear hC hz
 go_enter Tryz.func122,Tryz.ntmps122
 go_wp2
 go_loopw [8] (fun v8 wr=>∃i:Nat,v8=.int .i64 (i:Int)∧Aside0 (i≤l.length)∧Aside0 (Below w.heap.size w wr)) (fun v8 _=>l.length - (intOf v8).toNat)
 case atStart=>exact⟨0,rfl,⟨Nat.zero_le _⟩,⟨Below.refl _ _⟩⟩
 case round=>
  obtain⟨i,rfl,HI,HB⟩:=hrel
  by_cases hlt:i < l.length
  ·obtain⟨ad,eA,hx⟩:=Kd.at_int (Kd.C_below HR.out HB.out) (i:Int) (by omega) (by omega)
   subst eA
   rw[Int.toNat_natCast] at hx
   have hx0:rd l (i:Int)=0:=by
    have:=HZ.out l[i] (List.getElem_mem hlt)
    simpa[rd,hlt] using this
   rw[hx0] at hx
   clear hx0
   have hltd:(i < l.length)=True:=eq_true hlt
   go_wp2_with ((with_reducible refine gateF_ rfl ?_);refine goesF_ (some 16) rfl rfl fnZero1 #[] #[.int .u64 0] #[] rfl (by rfl) (by (try simp only[List.map_toArray,List.map_cons,List.map_nil]);first|done|rfl) ?_;refine (hpZero1 _).mono ?_;rintro e w16 ⟨rfl,hb⟩;refine⟨_,rfl,?_⟩;have HB2:=As (below_step HB.out hb);clear hb)
   go_roundw
   case rel=>exact⟨i + 1,by go_num,⟨hlt⟩,HB2⟩
   case measure=>simp[intOf];omega
  ·have hnl:decide (i < l.length)=false:=decide_eq_false hlt
   go_wp2
   go_ret
   exact⟨rfl,HB.out⟩
set_option maxHeartbeats 8000000 in
set_option maxRecDepth 100000 in
theorem hasZ (A:Option Addr) (c:Nat) (l:List Int) (w:World) (hz:∀x∈l,x=0) (hC:Kd.C (Kd.int .u64) w A l.length l) (hc:l.length≤c):
  Calls Tryz.prog 112 #[.slice A l.length c,.func (.func 113) #[] #[]] w fun e w'=>e=.returned (.bool false)∧Below w.heap.size w w':=by
 have HF:=As (ixZ A c l w hz hC hc)
 clear hz hC hc
 go_enter Tryz.func112,Tryz.ntmps112
 go_wp2_with (fail)
 refine HF.out.mono ?_
 rintro e w10 ⟨rfl,hb⟩
 have HB:=As hb
 clear hb
 dsimp only
 go_wp2_with (fail)
 go_ret
 exact⟨rfl,HB.out⟩
set_option maxHeartbeats 8000000 in
set_option maxRecDepth 100000 in
theorem hpZero (g1 g2 sb:Nat) (a b:Int) (A1:Option Addr) (c1:Nat) (ws:List Int) (w:World) (h0:0≤a) (h1:a≤b) (h2:b≤ws.length) (hz:∀i:Int,a≤i→i < b→rd ws i=0)
  (hg1:w.cell? ⟨g1,0,none⟩=some (.pointer (some ⟨sb,0,none⟩))) (hg2:w.cell? ⟨g2,0,none⟩=some (.int .u64 a)) (hs:w.cell? ⟨sb,0,none⟩=some (.slice A1 ws.length c1)) (hC:Kd.C (Kd.int .u64) w A1 ws.length ws) (hc:ws.length≤c1):
  Calls Tryz.prog 111 #[.int .u64 b,.pointer (some ⟨g1,0,none⟩),.pointer (some ⟨g2,0,none⟩)] w fun e w'=>e=.returned (.bool true)∧Below w.heap.size w w':=by
 have hue:=Tryz.underlying81
 have hu34:=Tryz.underlying34
 have hu27:=Tryz.underlying27
 obtain⟨i0,hi0,_,hsz,_⟩:=info_parts info39
 obtain⟨A',hrun,hread,hle⟩:=print_mid_of (P:=Tryz.prog) (Value.int .u64) (0:Int) 25 39 .u64 .u64 Tryz.underlying25 hi0 hsz A1 c1 ws a b h0 h1 h2 hc
 obtain⟨l,hl⟩:∃l,l=(ws.take b.toNat).drop a.toNat:=⟨_,rfl⟩
 have hlz:∀x∈l,x=0:=fun x hx=>by
  rw[hl] at hx
  obtain⟨j,hj,rfl⟩:=List.mem_iff_getElem.1 hx
  rw[List.length_drop,List.length_take] at hj
  have:=hz (a + (j:Int)) (by omega) (by omega)
  rw[List.getElem_drop,List.getElem_take]
  rw[show a + (j:Int)=((a.toNat + j:Nat):Int) by omega] at this
  rw[Pu.rd_nat,List.getD_eq_getElem?_getD,List.getElem?_eq_getElem (show a.toNat + j < ws.length by omega)] at this
  exact this
 rw[←hl] at hrun hread hle
 have HF:=As (fun W (hb:Below w.heap.size w W)=>hasZ A' (c1 - a.toNat) l W hlz (Kd.C_below (Kd.C_of_reads (hread w (Kd.reads_of_C hC))) hb) hle)
 clear hlz hl hz hread
 go_enter Tryz.func111,Tryz.ntmps111
 go_wp2_with (fail)
 have hg1':w.drew.cell? ⟨g1,0,none⟩=some (.pointer (some ⟨sb,0,none⟩)):=hg1
 have hg2':w.drew.cell? ⟨g2,0,none⟩=some (.int .u64 a):=hg2
 have hs':w.drew.cell? ⟨sb,0,none⟩=some (.slice A1 ws.length c1):=hs
 refine start_ (n:=12) (S:=fun w'=>w'.cell? ⟨g1,0,none⟩=some (.pointer (some ⟨sb,0,none⟩))∧w'.cell? ⟨g2,0,none⟩=some (.int .u64 a)∧w'.cell? ⟨sb,0,none⟩=some (.slice A1 ws.length c1)) (ds:=[]) #[false,false,false,false,false,false,false,false,false,false,false,false] (by kernel_rfl) rfl rfl ⟨hg1',hg2',hs'⟩ (fun hHeld=>?_)
 refine Z.t_ 0 5 hHeld ?_
 refine Z.p_ 1 6 ?_
 refine Z.p_ 2 7 ?_
 refine Z.p_ 3 8 ?_
 refine Z.p_ 4 9 ?_
 refine Z.t_ 5 10 hHeld ?_
 refine Z.t_ 6 11 hHeld ?_
 refine Z.p_ 7 12 ?_
 refine Z.p_ 8 13 ?_
 refine Z.on 9 (some 14) fun K hK=>?_
 refine Z.gs Tryz.func112 #[.slice A' l.length (c1 - a.toNat),.func (.func 113) #[] #[]] ?_
 refine (HF.out w.drew (below_drew1 (Below.refl _ _))).mono ?_
 rintro e w14 ⟨rfl,hb⟩
 refine⟨_,rfl,?_⟩
 have HB:=As (below_step (below_drew1 (Below.refl _ _)) hb)
 refine hK.out _ _ ⟨keepc hb hg1',keepc hb hg2',keepc hb hs'⟩ (fun hHeld=>?_)
 clear hb
 clear hK K
 refine Z.n_ 14 ?_
 refine Z.p_ 10 15 ?_
 refine Z.p_ 11 4 ?_
 refine done_ (by kernel_rfl) ?_
 go_wp2
 go_ret
 exact⟨rfl,HB.out⟩
set_option maxHeartbeats 8000000 in
set_option maxRecDepth 100000 in
theorem hpRefs {F:FuncId} {first cap:Array Value} (x:S92) (sb:Nat) (A1:Option Addr) (c1:Nat) (ws:List Int) (w:World) (hfn:FnIs Tryz.prog F)
  (hE:∀W,Below w.heap.size w W→Calls Tryz.prog F (first ++ #[.int .u64 0] ++ cap) W fun e W'=>e=.returned (.bool true)∧Below W.heap.size W W')
  (h0:0≤x.f2) (h1:x.f2 + 1 + x.f3.f0≤ws.length) (hws:ws.length < 1000000) (hz:∀f:Int,0≤f→f < x.f3.f0→rd ws (x.f2 + 1 + f)=0) (hs:w.cell? ⟨sb,0,none⟩=some (.slice A1 ws.length c1)) (hC:Kd.C (Kd.int .u64) w A1 ws.length ws):
  Calls Tryz.prog 35 #[.pointer (some ⟨sb,0,none⟩),obV x,.func (.func F) first cap] w fun e w'=>e=.returned (.bool true)∧Below w.heap.size w w':=by
 have hue:=Tryz.underlying81
 have hu34:=Tryz.underlying34
 have hu27:=Tryz.underlying27
 have hu92:=Tryz.underlying92
 have hu41:=Tryz.underlying41
 have HE:=As hE
 have HFN:=As hfn
 have HC:=As hC
 have HZ:=As hz
 have HS:=As hs
 have HWS:=As hws
 have H1:=As h1
 have hsl:=World.block_lt_of_cell? _ _ hs
 clear hE hfn hC hz hs hws h1
 unfold obV
 go_enter Tryz.func35,Tryz.ntmps35
 go_wp2_with (fail)
 have hbo:=blk_new w (Obj.cells #[.int .i64 x.f0,.int .i64 x.f1,.int .u64 x.f2,.int .i64 x.f3.f0,.int .u64 x.f3.f1,.bool x.f4] 92)
 have HB0:=As (below_alloc (Below.refl w.heap.size w) (Obj.cells #[.int .i64 x.f0,.int .i64 x.f1,.int .u64 x.f2,.int .i64 x.f3.f0,.int .u64 x.f3.f1,.bool x.f4] 92))
 generalize w.alloc (Obj.cells #[.int .i64 x.f0,.int .i64 x.f1,.int .u64 x.f2,.int .i64 x.f3.f0,.int .u64 x.f3.f1,.bool x.f4] 92)=w4 at hbo HB0 ⊢
 have HBO:=As hbo
 clear hbo
 go_loopw [11] (fun v11 wr=>∃i:Int,v11=.int .i64 i∧Aside0 (0≤i∧i≤max 0 x.f3.f0)∧Aside0 (wr.heap[w.heap.size]? =some (.cells #[.int .i64 x.f0,.int .i64 x.f1,.int .u64 x.f2,.int .i64 x.f3.f0,.int .u64 x.f3.f1,.bool x.f4] 92 (0,0)))∧Aside0 (Below w.heap.size w wr)) (fun v11 _=>(x.f3.f0 - intOf v11).toNat)
 case atStart=>exact⟨0,rfl,⟨by omega⟩,HBO,HB0⟩
 case round=>
  clear HBO HB0
  obtain⟨i,rfl,HI,HBO,HB⟩:=hrel
  by_cases hlt:i < x.f3.f0
  ·have hi0:=HI.out.1
   have hzi:=HZ.out i hi0 hlt
   obtain⟨ad,eA,hxw⟩:=Kd.at_int (Kd.C_below HC.out HB.out) (x.f2 + 1 + i) (by omega) (by have:=H1.out;omega)
   subst eA
   rw[hzi] at hxw
   have hk1:IntKind.u64.wrap (x.f2 + 1)=x.f2 + 1:=wu64' (by omega) (by have:=HWS.out;have:=H1.out;omega)
   have hk2:IntKind.u64.wrap i=i:=wu64' (by omega) (by have:=HWS.out;have:=H1.out;omega)
   have hk3:IntKind.u64.wrap (x.f2 + 1 + i)=x.f2 + 1 + i:=wu64' (by omega) (by have:=HWS.out;have:=H1.out;omega)
   have hb0:(0≤x.f2 + 1 + i)=True:=eq_true (by omega)
   have hb1:(x.f2 + 1 + i < (ws.length:Int))=True:=eq_true (by have:=H1.out;omega)
   have hltd:(i < x.f3.f0)=True:=eq_true hlt
   have hi0d:(0≤i)=True:=eq_true hi0
   have hw1:wrap64 (i + 1)=i + 1:=w64 (by omega) (by have:=HWS.out;have:=H1.out;omega)
   have hgo:=blk_lt HBO.out
   clear hzi h0
   obtain⟨b,hb⟩:∃b,b=(Go.bits .and .u64 (shr .u64 x.f3.f1 i) 1 == 1):=⟨_,rfl⟩
   have his:head_Is.f x.f3.f0 x.f3.f1 i=some b:=by unfold head_Is.f;rw[if_pos hi0,hb]
   clear hb
   have ho0:wr.drew.cell? ⟨w.heap.size,0,none⟩=some (.int .i64 x.f0):=(blk_cell (blk_drew HBO.out) 0).trans rfl
   have ho1:wr.drew.cell? ⟨w.heap.size,1,none⟩=some (.int .i64 x.f1):=(blk_cell (blk_drew HBO.out) 1).trans rfl
   have ho2:wr.drew.cell? ⟨w.heap.size,2,none⟩=some (.int .u64 x.f2):=(blk_cell (blk_drew HBO.out) 2).trans rfl
   have ho3:wr.drew.cell? ⟨w.heap.size,3,none⟩=some (.int .i64 x.f3.f0):=(blk_cell (blk_drew HBO.out) 3).trans rfl
   have ho4:wr.drew.cell? ⟨w.heap.size,4,none⟩=some (.int .u64 x.f3.f1):=(blk_cell (blk_drew HBO.out) 4).trans rfl
   have ho5:wr.drew.cell? ⟨w.heap.size,5,none⟩=some (.bool x.f4):=(blk_cell (blk_drew HBO.out) 5).trans rfl
   have hs0:wr.drew.cell? ⟨sb,0,none⟩=some (.slice (some ad) ws.length c1):=keepc (below_drew1 HB.out) HS.out
   have hxw':wr.drew.cell? (ad.add (x.f2 + 1 + i).toNat)=some (.int .u64 0):=hxw
   go_wp2
   refine start_ (n:=23) (S:=fun w'=>w'.cell? ⟨sb,0,none⟩=some (.slice (some ad) ws.length c1)∧w'.cell? (ad.add (x.f2 + 1 + i).toNat)=some (.int .u64 0)∧w'.cell? ⟨w.heap.size,2,none⟩=some (.int .u64 x.f2)∧w'.cell? ⟨w.heap.size,3,none⟩=some (.int .i64 x.f3.f0)∧w'.cell? ⟨w.heap.size,4,none⟩=some (.int .u64 x.f3.f1)) (ds:=[]) #[false,false,false,false,false,false,false,false,false,false,false,false,false,false,false,false,false,false,false,false,false,false,false] (by kernel_rfl) rfl rfl ⟨hs0,hxw',ho2,ho3,ho4⟩ (fun hHeld=>?_)
   refine Z.p_ 0 14 ?_
   refine Z.t_ 1 15 hHeld ?_
   refine Z.p_ 2 16 ?_
   refine Z.on 3 (some 17) fun K hK=>?_
   refine Z.gs Tryz.func80 #[.agg #[.int .i64 x.f3.f0,.int .u64 x.f3.f1],.int .i64 i] ?_
   refine (head_Is.calls x.f3.f0 x.f3.f1 i b wr.drew his).mono ?_
   rintro e w17 ⟨rfl,hb⟩
   refine⟨_,rfl,?_⟩
   have HBO2:=As (blk_below (blk_drew HBO.out) hb)
   have HB2:=As (below_step (below_drew1 HB.out) hb)
   have hs0:=keepc hb hs0
   have hxw':=keepc hb hxw'
   have ho2:=keepc hb ho2
   have ho3:=keepc hb ho3
   have ho4:=keepc hb ho4
   refine hK.out _ _ ⟨hs0,hxw',ho2,ho3,ho4⟩ (fun hHeld=>?_)
   clear hb HBO HB his
   clear hK K
   refine Z.n_ 17 ?_
   cases b with
   |false=>
    refine Z.p_ 4 18 ?_
    refine Z.x_ 5 19 ?_
    refine Z.x_ 6 20 ?_
    refine Z.x_ 7 21 ?_
    refine Z.x_ 8 22 ?_
    refine Z.x_ 9 23 ?_
    refine Z.x_ 10 24 ?_
    refine Z.x_ 11 25 ?_
    refine Z.x_ 12 26 ?_
    refine Z.x_ 13 27 ?_
    refine Z.x_ 14 28 ?_
    refine Z.x_ 15 29 ?_
    refine Z.x_ 16 30 ?_
    refine Z.x_ 17 31 ?_
    refine Z.x_ 18 32 ?_
    refine Z.x_ 19 33 ?_
    refine Z.x_ 20 34 ?_
    refine Z.x_ 21 35 ?_
    refine Z.p_ 22 36 ?_
    refine done_ (by kernel_rfl) ?_
    go_wp2
    go_roundw
    case rel=>exact⟨i + 1,by rw[hw1],⟨by omega⟩,HBO2,HB2⟩
    case measure=>simp[intOf,hw1];omega
   |true=>
    refine Z.p_ 4 18 ?_
    refine Z.p_ 5 19 ?_
    refine Z.p_ 6 20 ?_
    refine Z.p_ 7 21 ?_
    refine Z.p_ 8 22 ?_
    refine Z.p_ 9 23 ?_
    refine Z.p_ 10 24 ?_
    refine Z.t_ 11 25 hHeld ?_
    refine Z.p_ 12 26 ?_
    refine Z.t_ 13 27 hHeld ?_
    refine Z.p_ 14 28 ?_
    refine Z.p_ 15 29 ?_
    refine Z.p_ 16 30 ?_
    refine Z.p_ 17 31 ?_
    refine Z.p_ 18 32 ?_
    refine Z.t_ 19 33 hHeld ?_
    refine Z.on 20 (some 34) fun K hK=>?_
    refine goesX_ HFN.out first #[.int .u64 0] cap (by rfl) rfl rfl (by rfl) (by (try simp only[List.map_toArray,List.map_cons,List.map_nil]);first|done|rfl) ?_
    refine (HE.out w17 HB2.out).mono ?_
    rintro e w34 ⟨rfl,hb⟩
    refine⟨_,rfl,?_⟩
    have HBO3:=As (blk_below HBO2.out hb)
    have HB3:=As (below_step HB2.out hb)
    refine hK.out _ _ ⟨keepc hb hs0,keepc hb hxw',keepc hb ho2,keepc hb ho3,keepc hb ho4⟩ (fun hHeld=>?_)
    clear hb HBO2 HB2
    clear hK K
    refine Z.n_ 34 ?_
    refine Z.p_ 21 35 ?_
    refine Z.p_ 22 36 ?_
    refine done_ (by kernel_rfl) ?_
    go_wp2
    go_roundw
    case rel=>exact⟨i + 1,by rw[hw1],⟨by omega⟩,HBO3,HB3⟩
    case measure=>simp[intOf,hw1];omega
  ·have hnl:decide (i < x.f3.f0)=false:=decide_eq_false hlt
   go_wp2
   go_ret
   exact⟨rfl,HB.out⟩
set_option maxHeartbeats 8000000 in
set_option maxRecDepth 100000 in
theorem hpSound (ps:List Sp) (A1 A2 A3 A5:Option Addr) (c1 c2 c3 c5:Nat) (ws us:List Int) (xs:List S51) (os:List S92) (sb:Nat) (w:World) (hr:HRel ps ws us xs) (hos:os=objsF 0 ps) (hm:HMem w A1 A2 A3 c1 c2 c3 ws us xs) (hO:Kd.C k92 w A5 os.length os) (h5:os.length≤c5)
  (hb:w.heap[sb]? =some (.cells (stV A1 A2 A3 c1 c2 c3 ws us xs (.slice A5 os.length c5)) 81 (0,0))):
  Calls Tryz.prog 86 #[.pointer (some ⟨sb,0,none⟩)] w fun e w'=>e=.returned (.bool true)∧Below w.heap.size w w':=by
 have hue:=Tryz.underlying81
 have hu34:=Tryz.underlying34
 have hu27:=Tryz.underlying27
 have hu92:=Tryz.underlying92
 have hu41:=Tryz.underlying41
 have hwl:=hr.w.len
 have hsrt:os.Pairwise Behind:=by rw[hos];exact objsF_sorted hr.good 0
 have hbd:∀x∈os,16≤x.f2∧x.f2 + 1 + x.f3.f0≤480∧0≤x.f3.f0∧x.f3.f0≤48:=fun x hx=>objsF_bounds hr.good (by rw[←hos];exact hx)
 have hfew:os.length < 500000:=by rw[hos];exact hr.good.few 0
 have hgap:=fun j (hj:j≤os.length)=>zero_gap hr.good hr.w j (by rw[←hos];exact hj)
 rw[←hos] at hgap
 have HFZ:=As (fun x (hx:x∈os) f h0 h1=>field_zero hr.good hr.w (x:=x) (by rw[←hos];exact hx) f h0 h1)
 have HG:=As hgap
 have HBD:=As hbd
 have HWL:=As hwl
 have HM:=As hm
 have HO:=As hO
 have HBX:=As hb
 have hsb:=blk_lt hb
 clear hr hos hm hO hb hsrt hbd hgap hwl
 have hc0:=Z.c0 HBX.out
 have hc4:=Z.c4 HBX.out
 go_enter Tryz.func86,Tryz.ntmps86
 go_wp2_with (fail)
 have hb1:=blk_alloc (blk_new w (Obj.cells #[.pointer (some ⟨sb,0,none⟩)] 75)) (Obj.cells #[.int .u64 0] 39)
 have hb2:=blk_new (w.alloc (Obj.cells #[.pointer (some ⟨sb,0,none⟩)] 75)) (Obj.cells #[.int .u64 0] 39)
 have hbx:=blk_alloc (blk_alloc HBX.out (Obj.cells #[.pointer (some ⟨sb,0,none⟩)] 75)) (Obj.cells #[.int .u64 0] 39)
 have hbl:=below_alloc (below_alloc (Below.refl w.heap.size w) (Obj.cells #[.pointer (some ⟨sb,0,none⟩)] 75)) (Obj.cells #[.int .u64 0] 39)
 rw[World.size_alloc] at hb2
 generalize (w.alloc (Obj.cells #[.pointer (some ⟨sb,0,none⟩)] 75)).alloc (Obj.cells #[.int .u64 0] 39)=w3 at hb1 hb2 hbx hbl ⊢
 clear HBX hc0 hc4
 go_loopw [13] (fun v13 wr=>∃i:Nat,v13=.int .i64 (i:Int)∧Aside0 (i≤os.length)∧Aside0 (wr.heap[w.heap.size]? =some (.cells #[.pointer (some ⟨sb,0,none⟩)] 75 (0,0)))∧Aside0 (wr.heap[w.heap.size + 1]? =some (.cells #[.int .u64 (endAt os i)] 39 (0,0)))∧Aside0 (wr.heap[sb]? =some (.cells (stV A1 A2 A3 c1 c2 c3 ws us xs (.slice A5 os.length c5)) 81 (0,0)))∧Aside0 (Below w.heap.size w wr)) (fun v13 _=>os.length - (intOf v13).toNat)
 case atStart=>exact⟨0,rfl,⟨Nat.zero_le _⟩,⟨hb1⟩,⟨hb2⟩,⟨hbx⟩,⟨hbl⟩⟩
 case round=>
  clear hb1 hb2 hbx hbl
  obtain⟨i,rfl,HI,HB1,HB2,HBX,HB⟩:=hrel
  have hgl1:=blk_lt HB1.out
  have hgl2:=blk_lt HB2.out
  have hgl3:=blk_lt HBX.out
  have hc1:=Z.c0 HB1.out
  have hc2:wr.cell? ⟨w.heap.size + 1,0,none⟩=some (.int .u64 (endAt os i)):=(blk_cell HB2.out 0).trans rfl
  have hs0:=Z.c0 HBX.out
  have hs4:=Z.c4 HBX.out
  have hg:=HG.out i HI.out
  have HZC:=As (fun W (hb:Below wr.heap.size wr W)=>hpZero w.heap.size (w.heap.size + 1) sb (endAt os i) (nextAt os i) A1 c1 ws W hg.1 hg.2.1 (by have:=hg.2.2.1;have:=HWL.out;omega) hg.2.2.2 (keepc hb hc1) (keepc hb hc2) (keepc hb hs0) (Kd.C_below HM.out.m1 (below_step HB.out hb)) HM.out.l1)
  clear hg
  by_cases hlt:i < os.length
  ·obtain⟨ad,eA,hx0,hx1,hx2,hx3,hx4,hx5⟩:=at_T92 (Kd.C_below HO.out HB.out) (i:Int) (by omega) (by omega)
   subst eA
   have hnx:nextAt os i=os[i].f2:=by unfold nextAt;rw[if_pos hlt];simp[hlt]
   have hen:endAt os (i + 1)=os[i].f2 + 1 + os[i].f3.f0:=by unfold endAt;rw[if_neg (by omega),Nat.add_sub_cancel];simp[hlt]
   rw[Int.toNat_natCast] at hx0 hx1 hx2 hx3 hx4 hx5
   rw[rd92 hlt] at hx0 hx1 hx2 hx3 hx4 hx5
   have hxm:os[i]∈os:=List.getElem_mem hlt
   obtain⟨x,hx⟩:∃x,x=os[i]:=⟨_,rfl⟩
   rw[hnx] at HZC
   rw[←hx] at hx0 hx1 hx2 hx3 hx4 hx5 hen hxm HZC
   have hbx:=HBD.out x hxm
   have HRF:=As (fun W (hb:Below wr.heap.size wr W)=>hpRefs (first:=#[.pointer (some ⟨sb,0,none⟩)]) (cap:=#[]) x sb A1 c1 ws W fnLeads (fun W' hb'=>by
    have:=hpLeads0 (some ad) c5 os sb W' (fun y hy=>(HBD.out y hy).1) hfew (Kd.C_below HO.out (below_step HB.out (below_step hb hb'))) h5 (keepc hb' (keepc hb hs4))
    simpa only[List.append_toArray,List.nil_append,List.cons_append] using this) (by omega) (by have:=HWL.out;omega) (by have:=HWL.out;omega) (HFZ.out x hxm) (keepc hb hs0) (Kd.C_below HM.out.m1 (below_step HB.out hb)))
   have hk1:IntKind.u64.wrap (x.f2 + 1)=x.f2 + 1:=wu64' (by omega) (by omega)
   have hk2:IntKind.u64.wrap x.f3.f0=x.f3.f0:=wu64' (by omega) (by omega)
   have hk3:IntKind.u64.wrap (x.f2 + 1 + x.f3.f0)=x.f2 + 1 + x.f3.f0:=wu64' (by omega) (by omega)
   have HEN:=As hen
   have hltd:(i < os.length)=True:=eq_true hlt
   clear hnx hen hx hbx hxm
   have hne1:(wr.heap.size=w.heap.size + 1)=False:=eq_false (by omega)
   have hne2:(w.heap.size=w.heap.size + 1)=False:=eq_false (by omega)
   obtain⟨b,hbb⟩:∃b,b=x.f4:=⟨_,rfl⟩
   unfold obV at HRF
   rw[←hbb] at hx5 HRF
   clear hbb
   cases b with
   |false=>
    go_wp2_with ((with_reducible refine gateF_ rfl ?_);refine goesF_ (some 20) rfl rfl fnZero #[] #[.int .u64 x.f2] #[.pointer (some ⟨w.heap.size,0,none⟩),.pointer (some ⟨w.heap.size + 1,0,none⟩)] rfl (by rfl) (by (try simp only[List.map_toArray,List.map_cons,List.map_nil]);first|done|rfl) ?_;refine (HZC.out _ (below_alloc (Below.refl _ _) _)).mono ?_;rintro e w20 ⟨rfl,hb⟩;refine⟨_,rfl,?_⟩;have hbo:=blk_below (blk_new wr (Obj.cells #[.int .i64 x.f0,.int .i64 x.f1,.int .u64 x.f2,.int .i64 x.f3.f0,.int .u64 x.f3.f1,.bool false] 92)) hb;have HB5:=As (below_step (below_alloc (Below.refl wr.heap.size wr) (Obj.cells #[.int .i64 x.f0,.int .i64 x.f1,.int .u64 x.f2,.int .i64 x.f3.f0,.int .u64 x.f3.f1,.bool false] 92)) hb);have ho2:=Z.c2 hbo;have ho0:=Z.c0 hbo;have ho1:=Z.c1 hbo;have ho3:=Z.c3 hbo;have ho4:=Z.c4 hbo;have ho5:=Z.c5 hbo;have hc1:w20.cell? ⟨w.heap.size,0,none⟩=some (.pointer (some ⟨sb,0,none⟩)):=keepc HB5.out hc1;have hf2:w20.frozen? ⟨w.heap.size + 1,0,none⟩=false:=blk_frozen (blk_below HB2.out HB5.out) 0;have hc2:w20.cell? ⟨w.heap.size + 1,0,none⟩=some (.int .u64 (endAt os i)):=keepc HB5.out hc2;clear hb hbo)
    have hb1:=blk_far (p:=⟨w.heap.size + 1,0,none⟩) (blk_below HB1.out HB5.out) (show w.heap.size≠w.heap.size + 1 by omega) (.int .u64 (x.f2 + 1 + x.f3.f0))
    have hb2:=blk_put (blk_below HB2.out HB5.out) 0 (.int .u64 (x.f2 + 1 + x.f3.f0)) rfl
    have hbx:=blk_far (p:=⟨w.heap.size + 1,0,none⟩) (blk_below HBX.out HB5.out) (show sb≠w.heap.size + 1 by omega) (.int .u64 (x.f2 + 1 + x.f3.f0))
    have hbl:=below_set (j:=0) (v:=.int .u64 (x.f2 + 1 + x.f3.f0)) (below_step HB.out HB5.out) (show w.heap.size≤w.heap.size + 1 by omega)
    go_roundw
    case rel=>exact⟨i + 1,by go_num,⟨hlt⟩,⟨hb1⟩,⟨by rw[HEN.out];exact hb2⟩,⟨hbx⟩,⟨hbl⟩⟩
    case measure=>simp[intOf];omega
   |true=>
    go_wp2_with ((with_reducible refine gateF_ rfl ?_);refine goesF_ (some 20) rfl rfl fnZero #[] #[.int .u64 x.f2] #[.pointer (some ⟨w.heap.size,0,none⟩),.pointer (some ⟨w.heap.size + 1,0,none⟩)] rfl (by rfl) (by (try simp only[List.map_toArray,List.map_cons,List.map_nil]);first|done|rfl) ?_;refine (HZC.out _ (below_alloc (Below.refl _ _) _)).mono ?_;rintro e w20 ⟨rfl,hb⟩;refine⟨_,rfl,?_⟩;have hbo:=blk_below (blk_new wr (Obj.cells #[.int .i64 x.f0,.int .i64 x.f1,.int .u64 x.f2,.int .i64 x.f3.f0,.int .u64 x.f3.f1,.bool true] 92)) hb;have HB5:=As (below_step (below_alloc (Below.refl wr.heap.size wr) (Obj.cells #[.int .i64 x.f0,.int .i64 x.f1,.int .u64 x.f2,.int .i64 x.f3.f0,.int .u64 x.f3.f1,.bool true] 92)) hb);have ho2:=Z.c2 hbo;have ho0:=Z.c0 hbo;have ho1:=Z.c1 hbo;have ho3:=Z.c3 hbo;have ho4:=Z.c4 hbo;have ho5:=Z.c5 hbo;have hc1:w20.cell? ⟨w.heap.size,0,none⟩=some (.pointer (some ⟨sb,0,none⟩)):=keepc HB5.out hc1;have hf2:w20.frozen? ⟨w.heap.size + 1,0,none⟩=false:=blk_frozen (blk_below HB2.out HB5.out) 0;have hc2:w20.cell? ⟨w.heap.size + 1,0,none⟩=some (.int .u64 (endAt os i)):=keepc HB5.out hc2;clear hb hbo)
    refine (HRF.out w20 HB5.out).mono ?_
    rintro e w30 ⟨rfl,hb⟩
    have HB6:=As (below_step HB5.out hb)
    have ho2:=keepc hb ho2
    have ho3:=keepc hb ho3
    have hc2:=keepc hb hc2
    have hf2:w30.frozen? ⟨w.heap.size + 1,0,none⟩=false:=blk_frozen (blk_below HB2.out HB6.out) 0
    clear hb
    dsimp only
    go_wp2_with (fail)
    have hb1:=blk_far (p:=⟨w.heap.size + 1,0,none⟩) (blk_below HB1.out HB6.out) (show w.heap.size≠w.heap.size + 1 by omega) (.int .u64 (x.f2 + 1 + x.f3.f0))
    have hb2:=blk_put (blk_below HB2.out HB6.out) 0 (.int .u64 (x.f2 + 1 + x.f3.f0)) rfl
    have hbx:=blk_far (p:=⟨w.heap.size + 1,0,none⟩) (blk_below HBX.out HB6.out) (show sb≠w.heap.size + 1 by omega) (.int .u64 (x.f2 + 1 + x.f3.f0))
    have hbl:=below_set (j:=0) (v:=.int .u64 (x.f2 + 1 + x.f3.f0)) (below_step HB.out HB6.out) (show w.heap.size≤w.heap.size + 1 by omega)
    go_roundw
    case rel=>exact⟨i + 1,by go_num,⟨hlt⟩,⟨hb1⟩,⟨by rw[HEN.out];exact hb2⟩,⟨hbx⟩,⟨hbl⟩⟩
    case measure=>simp[intOf];omega
  ·have hnl:decide (i < os.length)=false:=decide_eq_false hlt
   have hnx:nextAt os i=480:=by unfold nextAt;rw[if_neg hlt]
   have hwl:ws.length=480:=HWL.out
   rw[hnx] at HZC
   have hk:IntKind.u64.wrap (ws.length:Int)=(480:Int):=by rw[hwl];decide +kernel
   clear hwl hnx
   go_wp2_with ((with_reducible refine gateF_ rfl ?_);refine goesF_ (some 52) rfl rfl fnZero #[] #[.int .u64 480] #[.pointer (some ⟨w.heap.size,0,none⟩),.pointer (some ⟨w.heap.size + 1,0,none⟩)] rfl (by rfl) (by (try simp only[List.map_toArray,List.map_cons,List.map_nil]);first|done|rfl) ?_;refine (HZC.out _ ?hbl).mono ?_;(case hbl=>exact (Below.refl _ _));rintro e w52 ⟨rfl,hb⟩;refine⟨_,rfl,?_⟩;have HB2:=As (below_step (HB.out) hb);clear hb)
   go_ret
   exact⟨rfl,HB2.out⟩
end Go.Proofs.YtmmfchnbfnegnaaGreatDoor.K
end
section
namespace Go.Proofs.YtmmfchnbfnegnaaGreatDoor.K
open Go.RowKit Go.Proofs.YtmmfchnbfnegnaaGreatDoorW.PrintWords Go.Proofs.YtmmfchnbfnegnaaGreatDoorW.PrintLast Go.Proofs.YtmmfchnbfnegnaaGreatDoorW.PrintMore Go.Proofs.YtmmfchnbfnegnaaGreatDoor.GK Go.Proofs.YtmmfchnbfnegnaaGreatDoor.Pu Go.Proofs.YtmmfchnbfnegnaaGreatDoor.PuBitW Go.Proofs.YtmmfchnbfnegnaaGreatDoor.PuBits Go.Proofs.YtmmfchnbfnegnaaGreatDoor.PuHeadI
set_option linter.unusedVariables false
set_option linter.unusedSimpArgs false
attribute [local go_sem] max2_int min2_int max_two min_two max_three min_three max_four min_four
theorem info92:(Tryz.prog.info? 92).map (fun i=>(i.zero,i.size,i.bytes))=some (some (.agg #[.int .i64 0,.int .i64 0,.int .u64 0,.int .i64 0,.int .u64 0,.bool false]),6,48):=by kernel_rfl
theorem BRel.is {W:List Int} {n:Nat} {f:Nat→Bool} (h:BRel W n f) (a:Int) (k:Nat) (hk:k < n):bits_Is.f a W (k:Int)=some (f k):=by
 have hl:=h.len
 rw[is_eq h.wf a (k:Int) (by omega) (by omega) h.small,Int.toNat_natCast,h.bit]
theorem unpack_hw {n m:Nat} (hn:n≤48) (hm:m < 2 ^ n):head_Unpack.f (hw n m)=some ((n:Int),(m:Int),0):=by
 have hf:HFit (n:Int) m:=⟨by omega,by omega,by simpa using hm⟩
 have hl:=hf.lt48
 have e:hw n m=((11889503016258109440 + m * 256 + n:Nat):Int):=by unfold hw;omega
 rw[e,unpack_eq _ (by omega)]
 unfold unpackS
 rw[show (11889503016258109440 + m * 256 + n) / 72057594037927936=165 by omega,show (11889503016258109440 + m * 256 + n) % 256=n by omega,show (11889503016258109440 + m * 256 + n) % 72057594037927936 / 256=m by omega,if_pos ⟨rfl,hf⟩]
theorem sizes_small:∀n:Fin 49,heap_sizes.f 9 ((n.1:Int) + 1)=some ((szOf n.1:Int),(pgOf n.1:Int)):=by decide +kernel
theorem sizes_eq {n:Nat} (hn:n≤48):heap_sizes.f 9 ((n:Int) + 1)=some ((szOf n:Int),(pgOf n:Int)):=sizes_small ⟨n,by omega⟩
theorem ad_lt {p:Sp} (h:SpGood p) {k:Nat} (hk:k < p.slots):p.ad k < 480:=by
 have h1:=h.hi
 have h2:=h.slots_pos
 unfold Sp.ad Sp.slots slotsOf at *
 rcases h.shaped with⟨e,e1,e2⟩|⟨e|e|e|e,e1⟩ <;> rw[e] at hk ⊢ <;> simp only[if_true,show ¬(2=0) by decide,show ¬(4=0) by decide,show ¬(8=0) by decide,show ¬(16=0) by decide,if_false] at hk <;> omega
theorem st_put {w:World} {A1 A2 A3:Option Addr} {c1 c2 c3:Nat} {ws us:List Int} {xs:List S51} {v:Value} {sb:Nat} (h:w.heap[sb]? =some (.cells (stV A1 A2 A3 c1 c2 c3 ws us xs v) 81 (0,0))) (u:Value):(w.setCell ⟨sb,4,none⟩ u).heap[sb]? =some (.cells (stV A1 A2 A3 c1 c2 c3 ws us xs u) 81 (0,0)):=blk_put h 4 u rfl
theorem objs_bound {ps:List Sp} (h:Good ps) (p:Sp) (i k:Nat) (hk:k≤8):(objsF 0 (ps.take i) ++ p.objs i k).length≤1000:=by
 have h1:=objsF_len (ps:=ps.take i) (fun q hq=>h.sp q (List.mem_of_mem_take hq)) 0
 have h2:=objs_len p i k
 have h3:(ps.take i).length≤ps.length:=by rw[List.length_take];exact Nat.min_le_right _ _
 have h4:=h.len
 rw[List.length_append]
 omega
theorem ad_nums (f k s q a:Nat) (h1:f≤30) (hq:q≤128) (hm:(k:Int) * (s:Int)=(q:Int)) (ha:a=f * 16 + q):
  IntKind.u64.wrap (wrap64 ((f:Int) * 16))=((f:Int) * 16)∧wrap64 ((k:Int) * (s:Int))=(q:Int)∧IntKind.u64.wrap (q:Int)=(q:Int)∧IntKind.u64.wrap (((f:Int) * 16) + (q:Int))=(a:Int):=by
 rw[hm]
 clear hm
 refine⟨?_,w64 (by omega) (by omega),wu64' (by omega) (by omega),?_⟩
 ·rw[w64 (by omega) (by omega),wu64' (by omega) (by omega)]
 ·rw[wu64' (by omega) (by omega)];omega
theorem ad_words {p:Sp} (h:SpGood p) {k:Nat} (hk:k < p.slots):∃q:Nat,IntKind.u64.wrap (wrap64 ((p.first:Int) * 16))=((p.first:Int) * 16)∧wrap64 ((k:Int) * (p.size:Int))=(q:Int)∧IntKind.u64.wrap (q:Int)=(q:Int)∧IntKind.u64.wrap (((p.first:Int) * 16) + (q:Int))=((p.ad k:Nat):Int):=by
 have h1:=h.hi
 have h2:=h.slots_pos
 have h3:p.size≤16:=by rcases h.shaped with⟨e,_⟩|⟨e|e|e|e,_⟩ <;> omega
 have h4:k * p.size≤8 * 16:=Nat.mul_le_mul (by omega) h3
 exact⟨k * p.size,ad_nums p.first k p.size (k * p.size) (p.ad k) (by omega) h4 (Int.natCast_mul _ _).symm rfl⟩
set_option maxHeartbeats 3000000 in
set_option maxRecDepth 100000 in
theorem hpLook (ps:List Sp) (A1 A2 A3:Option Addr) (c1 c2 c3:Nat) (ws us:List Int) (xs:List S51) (sb:Nat) (w0 w:World) (hr:HRel ps ws us xs) (hm:HMem w0 A1 A2 A3 c1 c2 c3 ws us xs) (hB:Below w0.heap.size w0 w) (hsb:w0.heap.size≤sb)
  (hb:w.heap[sb]? =some (.cells (stV A1 A2 A3 c1 c2 c3 ws us xs (.slice none 0 0)) 81 (0,0))):
  Calls Tryz.prog 85 #[.pointer (some ⟨sb,0,none⟩)] w fun e w'=>∃v,e=.returned (.bool true)∧w'.heap[sb]? =some (.cells (stV A1 A2 A3 c1 c2 c3 ws us xs v) 81 (0,0))∧Kd.R k92 92 w' w0.heap.size (fun k=>k≠sb) v (objsF 0 ps)∧Below w0.heap.size w0 w':=by
 have hue:=Tryz.underlying81
 have hu34:=Tryz.underlying34
 have hu27:=Tryz.underlying27
 have hu92:=Tryz.underlying92
 have hu41:=Tryz.underlying41
 have hu51:=Tryz.underlying51
 have HM:=As hm
 have HR:=As hr
 have HBX:=As hb
 have HB:=As hB
 have hxs:xs.length≤29:=by have:=hr.good.len;have:=hr.xl;omega
 have HXL:=As hr.xl
 have hc3:=Z.c3 hb
 clear hm hr hb hB
 go_enter Tryz.func85,Tryz.ntmps85
 go_wp2_with (fail)
 go_loopw [17] (fun v17 wr=>∃(i:Nat) (v:Value),v17=.int .i64 (i:Int)∧Aside0 (i≤xs.length)∧Aside0 (wr.heap[sb]? =some (.cells (stV A1 A2 A3 c1 c2 c3 ws us xs v) 81 (0,0)))∧Aside0 (Kd.R k92 92 wr w0.heap.size (fun k=>k≠sb) v (objsF 0 (ps.take i)))∧Aside0 (Below w0.heap.size w0 wr)) (fun v17 _=>xs.length - (intOf v17).toNat)
 case atStart=>exact⟨0,.slice none 0 0,rfl,⟨Nat.zero_le _⟩,HBX,⟨Kd.R_nil _ _ _ _ _⟩,HB⟩
 case round=>
  clear HBX HB hc3
  obtain⟨i,v,rfl,HI,HBX,HRW,HB⟩:=hrel
  by_cases hlt:i < xs.length
  ·obtain⟨ad,B4,d4,B6,d6,eA,hx0,hx1,hx2,hx3,hx4,hx5,hx6,hx7,hy4,hy4C,hy6,hy6C⟩:=at_T51 HM.out.m3 (i:Int) (by omega) (by omega)
   subst eA
   rw[Int.toNat_natCast] at hx0 hx1 hx2 hx3 hx4 hx5 hx6 hx7
   rw[rd51 (by omega) (by omega)] at hx0 hx1 hx2 hx3 hx4 hx5 hx6 hx7 hy4 hy4C hy6 hy6C
   obtain⟨hxr,hpg⟩:=HR.out.at hlt
   simp only[Int.toNat_natCast] at hx0 hx1 hx2 hx3 hx4 hx5 hx6 hx7 hy4 hy4C hy6 hy6C
   have hpm:ps[i]'(by have:=HXL.out;omega)∈ps:=List.getElem_mem _
   obtain⟨x,hx⟩:∃x,x=xs[i]:=⟨_,rfl⟩
   obtain⟨p,hp⟩:∃p,p=ps[i]'(by have:=HXL.out;omega):=⟨_,rfl⟩
   rw[←hx] at hx0 hx1 hx2 hx3 hx4 hx5 hx6 hx7 hxr hy4 hy4C hy6 hy6C
   rw[←hp] at hxr hpg hpm
   have htk:objsF 0 (ps.take (i + 1))=objsF 0 (ps.take i) ++ p.objs i p.slots:=by
    rw[List.take_succ_eq_append_getElem (by have:=HXL.out;omega),←hp,objsF_append,List.length_take,Nat.min_eq_left (by have:=HXL.out;omega)]
    simp[objsF]
   rw[hxr.f0] at hx0
   rw[hxr.f1] at hx1
   rw[hxr.f2] at hx2
   rw[hxr.n3] at hx3
   rw[hxr.n4] at hx5
   rw[hxr.f5] at hx7
   have HXR:=As hxr
   have HPG:=As hpg
   have HPM:=As hpm
   have HTK:=As htk
   have HC4:=As hy4C
   have HC6:=As hy6C
   replace hx0:=keepc HB.out hx0
   replace hx1:=keepc HB.out hx1
   replace hx2:=keepc HB.out hx2
   replace hx3:=keepc HB.out hx3
   replace hx4:=keepc HB.out hx4
   replace hx5:=keepc HB.out hx5
   replace hx6:=keepc HB.out hx6
   replace hx7:=keepc HB.out hx7
   clear hx hp htk hxr hpg hpm hy4C hy6C
   have hltd:(i < xs.length)=True:=eq_true hlt
   go_wp2_with (fail)
   have hbo:=blk_new wr (Obj.cells #[.int .i64 (p.first:Int),.int .i64 (p.pages:Int),.int .i64 (p.size:Int),.int .i64 (p.slots:Int),.slice B4 x.f3.f1.length d4,.int .i64 (p.slots:Int),.slice B6 x.f4.f1.length d6,.bool p.swept] 51)
   have hbx:=blk_alloc HBX.out (Obj.cells #[.int .i64 (p.first:Int),.int .i64 (p.pages:Int),.int .i64 (p.size:Int),.int .i64 (p.slots:Int),.slice B4 x.f3.f1.length d4,.int .i64 (p.slots:Int),.slice B6 x.f4.f1.length d6,.bool p.swept] 51)
   have hrw:=Kd.R_alloc HRW.out (Obj.cells #[.int .i64 (p.first:Int),.int .i64 (p.pages:Int),.int .i64 (p.size:Int),.int .i64 (p.slots:Int),.slice B4 x.f3.f1.length d4,.int .i64 (p.slots:Int),.slice B6 x.f4.f1.length d6,.bool p.swept] 51)
   have HB4:=As (below_alloc HB.out (Obj.cells #[.int .i64 (p.first:Int),.int .i64 (p.pages:Int),.int .i64 (p.size:Int),.int .i64 (p.slots:Int),.slice B4 x.f3.f1.length d4,.int .i64 (p.slots:Int),.slice B6 x.f4.f1.length d6,.bool p.swept] 51))
   have hgx:=blk_lt HBX.out
   have hgw:=HB.out.size
   clear HBX HRW HB hx0 hx1 hx2 hx3 hx4 hx5 hx6 hx7
   generalize wr.alloc (Obj.cells #[.int .i64 (p.first:Int),.int .i64 (p.pages:Int),.int .i64 (p.size:Int),.int .i64 (p.slots:Int),.slice B4 x.f3.f1.length d4,.int .i64 (p.slots:Int),.slice B6 x.f4.f1.length d6,.bool p.swept] 51)=w4 at hbo hbx hrw HB4 ⊢
   obtain⟨gx,hgxe⟩:∃gx,gx=wr.heap.size:=⟨_,rfl⟩
   rw[←hgxe] at hbo hgx hgw ⊢
   clear hgxe
   go_loopw [25] (fun v25 wq=>∃(k:Nat) (v:Value),v25=.int .i64 (k:Int)∧Aside0 (k≤p.slots)∧Aside0 (wq.heap[sb]? =some (.cells (stV A1 A2 (some ad) c1 c2 c3 ws us xs v) 81 (0,0)))∧Aside0 (Kd.R k92 92 wq w0.heap.size (fun k=>k≠sb) v (objsF 0 (ps.take i) ++ p.objs i k))∧Aside0 (wq.heap[gx]? =some (.cells #[.int .i64 (p.first:Int),.int .i64 (p.pages:Int),.int .i64 (p.size:Int),.int .i64 (p.slots:Int),.slice B4 x.f3.f1.length d4,.int .i64 (p.slots:Int),.slice B6 x.f4.f1.length d6,.bool p.swept] 51 (0,0)))∧Aside0 (Below w0.heap.size w0 wq)) (fun v25 _=>p.slots - (intOf v25).toNat)
   case atStart=>exact⟨0,v,rfl,⟨Nat.zero_le _⟩,⟨hbx⟩,⟨by simpa[Sp.objs] using hrw⟩,⟨hbo⟩,HB4⟩
   case round=>
    clear hbo hbx hrw HB4
    obtain⟨k,v,rfl,HK,HBX,HRW,HBO,HB⟩:=hrel
    have hs8:=HPG.out.slots_pos.2
    by_cases hk:k < p.slots
    ·have hkd:(k < p.slots)=True:=eq_true hk
     have ho0:=Z.c0 HBO.out
     have ho1:=Z.c1 HBO.out
     have ho2:=Z.c2 HBO.out
     have ho3:=Z.c3 HBO.out
     have ho4:=Z.c4 HBO.out
     have ho5:=Z.c5 HBO.out
     have ho6:=Z.c6 HBO.out
     have ho7:=Z.c7 HBO.out
     have his:=HXR.out.al.is (p.slots:Int) k hk
     have hgq:=blk_lt HBO.out
     have hgs:=blk_lt HBX.out
     cases hob:p.ob k with
     |none=>
      rw[hob] at his
      go_wp2_with (fail)
      refine (bits_Is.calls p.slots B4 d4 x.f3.f1 k false wr (Kd.C_below HC4.out HB.out) hy4 his).mono ?_
      rintro e w31 ⟨rfl,hb⟩
      have hbx:=blk_below HBX.out hb
      have hbo:=blk_below HBO.out hb
      have hrw:=Kd.R_below HRW.out hb
      have hbl:=below_step HB.out hb
      have hso:=objs_succ p i k
      rw[hob,List.append_nil] at hso
      rw[←hso] at hrw
      clear hso hob his
      dsimp only
      go_wp2_with (fail)
      go_roundw
      case rel=>exact⟨k + 1,v,by go_num,⟨hk⟩,⟨hbx⟩,⟨hrw⟩,⟨hbo⟩,⟨hbl⟩⟩
      case measure=>simp[intOf];omega
     |some o=>
      rw[hob] at his
      have hog:=HPG.out.ob k o hob
      have hat:=ad_lt HPG.out hk
      have hwd:=HR.out.w.hd (p.ad k) o ⟨p,HPM.out,k,hob,rfl⟩
      obtain⟨adw,eAw,hxw⟩:=Kd.at_int HM.out.m1 ((p.ad k:Nat):Int) (by omega) (by have:=HR.out.w.len;omega)
      subst eAw
      rw[hwd,Int.toNat_natCast] at hxw
      clear hwd
      have hup:=unpack_hw hog.n hog.m
      generalize hw (o.n:Int) (o.m:Int)=hww at hxw hup
      have HUP:=As hup
      clear hup
      replace hxw:=keepc HB.out hxw
      obtain⟨q,hb1,hb2,hb3,hb4⟩:=ad_words HPG.out hk
      have hin1:(p.ad k < ws.length)=True:=eq_true (by have:=HR.out.w.len;omega)
      obtain⟨a,ha⟩:∃a,a=p.ad k:=⟨_,rfl⟩
      rw[←ha] at hxw hb4 hin1
      have HWD:=As ha
      clear hat ha
      go_wp2_with (fail)
      refine (bits_Is.calls p.slots B4 d4 x.f3.f1 k true wr (Kd.C_below HC4.out HB.out) hy4 his).mono ?_
      rintro e w31 ⟨rfl,hb⟩
      have hbx:=blk_below HBX.out hb
      have hbo:=blk_below HBO.out hb
      have hrw:=Kd.R_below HRW.out hb
      have hbl:=below_step HB.out hb
      replace hxw:=keepc hb hxw
      clear HBX HBO HRW HB hb ho0 ho1 ho2 ho3 ho4 ho5 ho6 ho7 his
      have HBX:=As hbx
      have HBO:=As hbo
      have HRW:=As hrw
      have HB:=As hbl
      clear hbx hbo hrw hbl
      dsimp only
      go_wp2_with (fail)
      have ho0:w31.drew.cell? ⟨gx,0,none⟩=some (.int .i64 (p.first:Int)):=(blk_cell (blk_drew HBO.out) 0).trans rfl
      have ho1:w31.drew.cell? ⟨gx,1,none⟩=some (.int .i64 (p.pages:Int)):=(blk_cell (blk_drew HBO.out) 1).trans rfl
      have ho2:w31.drew.cell? ⟨gx,2,none⟩=some (.int .i64 (p.size:Int)):=(blk_cell (blk_drew HBO.out) 2).trans rfl
      have ho3:w31.drew.cell? ⟨gx,3,none⟩=some (.int .i64 (p.slots:Int)):=(blk_cell (blk_drew HBO.out) 3).trans rfl
      have ho4:w31.drew.cell? ⟨gx,4,none⟩=some (.slice B4 x.f3.f1.length d4):=(blk_cell (blk_drew HBO.out) 4).trans rfl
      have ho5:w31.drew.cell? ⟨gx,5,none⟩=some (.int .i64 (p.slots:Int)):=(blk_cell (blk_drew HBO.out) 5).trans rfl
      have ho6:w31.drew.cell? ⟨gx,6,none⟩=some (.slice B6 x.f4.f1.length d6):=(blk_cell (blk_drew HBO.out) 6).trans rfl
      have ho7:w31.drew.cell? ⟨gx,7,none⟩=some (.bool p.swept):=(blk_cell (blk_drew HBO.out) 7).trans rfl
      refine start_ (n:=9) (S:=fun w'=>w'.cell? ⟨gx,0,none⟩=some (.int .i64 (p.first:Int))∧w'.cell? ⟨gx,1,none⟩=some (.int .i64 (p.pages:Int))∧w'.cell? ⟨gx,2,none⟩=some (.int .i64 (p.size:Int))∧w'.cell? ⟨gx,3,none⟩=some (.int .i64 (p.slots:Int))∧w'.cell? ⟨gx,4,none⟩=some (.slice B4 x.f3.f1.length d4)∧w'.cell? ⟨gx,5,none⟩=some (.int .i64 (p.slots:Int))∧w'.cell? ⟨gx,6,none⟩=some (.slice B6 x.f4.f1.length d6)∧w'.cell? ⟨gx,7,none⟩=some (.bool p.swept)) (ds:=[]) #[false,false,false,false,false,false,false,false,false] (by kernel_rfl) rfl rfl ⟨ho0,ho1,ho2,ho3,ho4,ho5,ho6,ho7⟩ (fun hHeld=>?_)
      refine Z.t_ 0 33 hHeld ?_
      refine Z.p_ 2 35 ?_
      refine Z.p_ 3 36 ?_
      refine Z.t_ 4 37 hHeld ?_
      refine Z.p_ 5 38 ?_
      refine Z.p_ 6 39 ?_
      refine Z.on 1 (some 34) fun K hK=>?_
      refine Z.gs Tryz.func65 #[.agg #[.int .i64 (p.first:Int),.int .i64 (p.pages:Int),.int .i64 (p.size:Int),.int .i64 (p.slots:Int),.slice B4 x.f3.f1.length d4,.int .i64 (p.slots:Int),.slice B6 x.f4.f1.length d6,.bool p.swept]] ?_
      refine (span_Base.calls p.first p.pages p.size p.slots B4 d4 x.f3.f1 p.slots B6 d6 x.f4.f1 p.swept ((p.first:Int) * 16) w31.drew (Kd.C_below HC4.out (below_drew1 HB.out)) hy4 (Kd.C_below HC6.out (below_drew1 HB.out)) hy6 (by unfold span_Base.f;rw[hb1])).mono ?_
      rintro e w34 ⟨rfl,hb⟩
      refine⟨_,rfl,?_⟩
      have hbx:=blk_below (blk_drew HBX.out) hb
      have hbo:=blk_below (blk_drew HBO.out) hb
      have hrw:=Kd.R_below (Kd.R_drew HRW.out) hb
      have hbl:=below_step (below_drew1 HB.out) hb
      replace hxw:=keepc (W:=w31.drew) hb hxw
      refine hK.out _ _ ⟨keepc hb ho0,keepc hb ho1,keepc hb ho2,keepc hb ho3,keepc hb ho4,keepc hb ho5,keepc hb ho6,keepc hb ho7⟩ (fun hHeld=>?_)
      clear HBX HBO HRW HB hb ho0 ho1 ho2 ho3 ho4 ho5 ho6 ho7
      have HBX:=As hbx
      have HBO:=As hbo
      have HRW:=As hrw
      have HB:=As hbl
      clear hbx hbo hrw hbl
      clear hK K
      refine Z.n_ 34 ?_
      refine Z.p_ 7 40 ?_
      refine Z.p_ 8 6 ?_
      refine done_ (by kernel_rfl) ?_
      clear hHeld
      have hs0:=Z.c0 HBX.out
      go_wp2_with (fail)
      refine (head_Unpack.calls hww o.n o.m 0 w34 HUP.out).mono ?_
      rintro e w51 ⟨rfl,hb⟩
      clear hs0 hxw hb1 hb2 hb3 hb4 hin1 HUP
      have hbx:=blk_below HBX.out hb
      have hbo:=blk_below HBO.out hb
      have hrw:=Kd.R_below HRW.out hb
      have hbl:=below_step HB.out hb
      clear HBX HBO HRW HB hb
      have HBX:=As hbx
      have HBO:=As hbo
      have HRW:=As hrw
      have HB:=As hbl
      clear hbx hbo hrw hbl
      have hn48:=hog.n
      have hsze:=sizes_eq hog.n
      rw[hog.sz,hog.pg] at hsze
      have HSZ:=As hsze
      clear hsze
      clear hog
      dsimp only
      go_wp2_with (fail)
      have hbs:=blk_new w51 (Obj.cells #[.int .i64 (o.n:Int),.int .u64 (o.m:Int)] 41)
      have hbx:=blk_alloc HBX.out (Obj.cells #[.int .i64 (o.n:Int),.int .u64 (o.m:Int)] 41)
      have hbo:=blk_alloc HBO.out (Obj.cells #[.int .i64 (o.n:Int),.int .u64 (o.m:Int)] 41)
      have hrw:=Kd.R_alloc HRW.out (Obj.cells #[.int .i64 (o.n:Int),.int .u64 (o.m:Int)] 41)
      have hbl:=below_alloc HB.out (Obj.cells #[.int .i64 (o.n:Int),.int .u64 (o.m:Int)] 41)
      have hgs:=blk_lt HBX.out
      have hgq:=blk_lt HBO.out
      have hgw2:=HB.out.size
      refine (heap_sizes.calls 9 ((o.n:Int) + 1) p.size p.pages _ HSZ.out).mono ?_
      clear HBX HBO HRW HB HSZ
      generalize w51.alloc (Obj.cells #[.int .i64 (o.n:Int),.int .u64 (o.m:Int)] 41)=w52 at hbs hbx hbo hrw hbl ⊢
      obtain⟨gh,hgh⟩:∃gh,gh=w51.heap.size:=⟨_,rfl⟩
      rw[←hgh] at hbs hgs hgq hgw2 ⊢
      clear hgh
      rintro e w58 ⟨rfl,hb⟩
      have HBS:=As (blk_below hbs hb)
      have HBX:=As (blk_below hbx hb)
      have HBO:=As (blk_below hbo hb)
      have HRW:=As (Kd.R_below hrw hb)
      have HB:=As (below_step hbl hb)
      clear hb hbs hbx hbo hrw hbl
      have ho0:=Z.c0 HBO.out
      have ho1:=Z.c1 HBO.out
      have ho2:=Z.c2 HBO.out
      have ho3:=Z.c3 HBO.out
      have ho4:=Z.c4 HBO.out
      have ho5:=Z.c5 HBO.out
      have ho6:=Z.c6 HBO.out
      have ho7:=Z.c7 HBO.out
      dsimp only
      go_wp2_with (fail)
      clear ho0 ho1 ho2 ho3 ho4 ho5 ho6 ho7
      have hs4:w58.drew.cell? ⟨sb,4,none⟩=some v:=(blk_cell (blk_drew HBX.out) 4).trans rfl
      have hh0:w58.drew.cell? ⟨gh,0,none⟩=some (.int .i64 (o.n:Int)):=(blk_cell (blk_drew HBS.out) 0).trans rfl
      have hh1:w58.drew.cell? ⟨gh,1,none⟩=some (.int .u64 (o.m:Int)):=(blk_cell (blk_drew HBS.out) 1).trans rfl
      have ho5:w58.drew.cell? ⟨gx,5,none⟩=some (.int .i64 (p.slots:Int)):=(blk_cell (blk_drew HBO.out) 5).trans rfl
      have ho6:w58.drew.cell? ⟨gx,6,none⟩=some (.slice B6 x.f4.f1.length d6):=(blk_cell (blk_drew HBO.out) 6).trans rfl
      have ho7:w58.drew.cell? ⟨gx,7,none⟩=some (.bool p.swept):=(blk_cell (blk_drew HBO.out) 7).trans rfl
      refine start_ (n:=23) (S:=fun w'=>w'.cell? ⟨sb,4,none⟩=some v∧w'.cell? ⟨gh,0,none⟩=some (.int .i64 (o.n:Int))∧w'.cell? ⟨gh,1,none⟩=some (.int .u64 (o.m:Int))∧w'.cell? ⟨gx,5,none⟩=some (.int .i64 (p.slots:Int))∧w'.cell? ⟨gx,6,none⟩=some (.slice B6 x.f4.f1.length d6)∧w'.cell? ⟨gx,7,none⟩=some (.bool p.swept)) (ds:=[19,22]) #[false,false,false,false,false,false,false,false,false,false,false,false,false,false,false,false,false,false,false,false,false,false,false] (by kernel_rfl) rfl rfl ⟨hs4,hh0,hh1,ho5,ho6,ho7⟩ (fun hHeld=>?_)
      have hbx:=blk_drew HBX.out
      have hbo:=blk_drew HBO.out
      have hrw:=Kd.R_drew HRW.out
      have hbl:=below_drew1 HB.out
      have hgs:sb < w58.drew.heap.size:=blk_lt (blk_drew HBX.out)
      clear HBX HBO HRW HB HBS hs4 hh0 hh1 ho5 ho6 ho7
      generalize w58.drew=w59 at hbx hbo hrw hbl hgs hHeld ⊢
      have HBX:=As hbx
      have HBO:=As hbo
      have HRW:=As hrw
      have HB:=As hbl
      clear hbx hbo hrw hbl
      refine Z.p_ 0 75 ?_
      refine Z.p_ 1 76 ?_
      refine Z.p_ 2 77 ?_
      refine Z.p_ 3 78 ?_
      refine Z.t_ 4 79 hHeld ?_
      refine Z.p_ 5 80 ?_
      refine Z.p_ 6 81 ?_
      refine Z.p_ 7 82 ?_
      refine Z.t_ 8 83 hHeld ?_
      refine Z.p_ 9 84 ?_
      have HLEN:=As (objs_bound HR.out.good p i k (Nat.le_trans (Nat.le_of_lt hk) hs8))
      have HSL:=As hgs
      rcases (Bool.eq_false_or_eq_true p.swept) with hswt|hswt
      ·
       refine Z.t_ 10 85 hHeld ?_
       refine Z.p_ 11 86 ?_
       refine Z.x_ 12 87 ?_
       refine Z.x_ 13 88 ?_
       refine Z.x_ 14 89 ?_
       refine Z.x_ 15 90 ?_
       refine Z.p_ 16 91 ?_
       have HSW:=As hswt
       clear hswt
       refine Z.p_ 17 92 ?_
       refine Z.on 18 (some 93) fun K hK=>?_
       have hba:=below_alloc (Below.refl w59.heap.size w59) (.cells #[.int .i64 (i:Int),.int .i64 (k:Int),.int .u64 (a:Int),.int .i64 (o.n:Int),.int .u64 (o.m:Int),.bool true] 92 (0,0))
       refine event_step (by rfl) (w1:=w59.alloc (.cells #[.int .i64 (i:Int),.int .i64 (k:Int),.int .u64 (a:Int),.int .i64 (o.n:Int),.int .u64 (o.m:Int),.bool true] 92 (0,0))) (v:=.slice (some ⟨w59.heap.size,0,none⟩) 1 1) ?hr ?_
       case hr=>first|(go_simp;done)|(go_simp;rfl)
       refine hK.out _ _ ⟨keepc hba hHeld.1,keepc hba hHeld.2.1,keepc hba hHeld.2.2.1,keepc hba hHeld.2.2.2.1,keepc hba hHeld.2.2.2.2.1,keepc hba hHeld.2.2.2.2.2⟩ (fun hHeld2=>?_)
       clear hba hHeld2
       clear hK K
       refine Z.n_ 93 ?_
       refine Z.la 19 (some 94) fun K hK=>?_
       refine Kd.R_append_step k92 (w0:=w0) w0.heap.size (by rfl) (.tmp 79) (.tmp 93) 79 92 _ 48 rfl Tryz.underlying79 info92 rfl (by decide) (by decide) v (objsF 0 (ps.take i) ++ p.objs i k) ⟨(i:Int),(k:Int),(a:Int),⟨(o.n:Int),(o.m:Int)⟩,true⟩ [.int .i64 (i:Int),.int .i64 (k:Int),.int .u64 (a:Int),.int .i64 (o.n:Int),.int .u64 (o.m:Int),.bool true] (fun k=>k≠sb) (fun _=>False) rfl (by rfl) (k92_mkM w59 w0.heap.size (fun _=>False) ⟨(i:Int),(k:Int),(a:Int),⟨(o.n:Int),(o.m:Int)⟩,true⟩) (fun _ hk=>hk.elim) (fun k hk e=>absurd (e▸hk) (Nat.not_le.2 hgs)) HRW.out HB.out HB.out.size (Nat.le_trans (Nat.mul_le_mul_right 48 (Nat.succ_le_succ HLEN.out)) (by decide)) ?_
       intro v1 w1 ho1 hb1 hg1 hat1
       refine hK.out _ _ ?_
       have hso:=objs_succ p i k
       rw[hob] at hso
       have hoe:oS i k p o=⟨(i:Int),(k:Int),(a:Int),⟨(o.n:Int),(o.m:Int)⟩,true⟩:=by unfold oS;rw[←HWD.out,HSW.out];rfl
       rw[List.append_assoc,←hoe,←hso] at ho1
       have hbx:=blk_grown HBX.out hg1 (fun e=>HRW.out.1 sb e.symm rfl)
       have hbo:=blk_grown HBO.out hg1 (Kd.R_ne HRW.out HBO.out (by decide))
       have HO1:=As ho1
       have HB1:=As hb1
       clear HBX HBO HRW HB ho1 hb1 hg1 hat1 hso hoe
       clear hK K
       refine Z.n_ 94 ?_
       refine Z.p_ 20 95 ?_
       refine Z.p_ 21 96 ?_
       have hs4:=Z.c4 hbx
       have hfs:w1.frozen? ⟨sb,4,none⟩=false:=blk_frozen hbx 4
       obtain⟨L,hL⟩:∃L,L=objsF 0 (ps.take i) ++ p.objs i (k + 1):=⟨_,rfl⟩
       rw[←hL] at HO1
       have HL:=As hL
       clear hL
       obtain⟨Av,cv,rfl⟩:=Kd.R_slice HO1.out
       refine Z.la 22 none fun K hK=>?_
       refine skip_ (w1:=?_) (by rfl) rfl ?_ ?_
       rotate_left
       ·go_simp
        rfl
       refine hK.out _ _ ?_
       clear hK K
       refine done_ (by kernel_rfl) ?_
       clear hs4 hfs
       go_wp2
       have hbx2:=st_put hbx (.slice Av L.length cv)
       have hbo2:=blk_far (p:=⟨sb,4,none⟩) hbo (Nat.ne_of_gt hgx) (.slice Av L.length cv)
       have hrw2:=Kd.R_far (p:=⟨sb,4,none⟩) HO1.out (fun k hk=>hk) (.slice Av L.length cv)
       have hbl2:=below_set (j:=4) (v:=.slice Av L.length cv) HB1.out hsb
       have hrw3:=Eq.mp (congrArg (Kd.R k92 92 (w1.setCell ⟨sb,4,none⟩ (.slice Av L.length cv)) w0.heap.size (fun k=>k≠sb) (.slice Av L.length cv)) HL.out) hrw2
       clear hob
       go_roundw
       case rel=>exact⟨k + 1,.slice Av L.length cv,by go_num,⟨hk⟩,⟨hbx2⟩,⟨hrw3⟩,⟨hbo2⟩,⟨hbl2⟩⟩
       case measure=>simp[intOf];omega
      ·
       refine Z.t_ 10 85 hHeld ?_
       refine Z.p_ 11 86 ?_
       refine Z.p_ 12 87 ?_
       refine Z.t_ 13 88 hHeld ?_
       refine Z.p_ 14 89 ?_
       have hmk:=HXR.out.mb.is (p.slots:Int) k hk
       rw[hob] at hmk
       refine Z.on 15 (some 90) fun K hK=>?_
       refine Z.gs Tryz.func79 #[.agg #[.int .i64 (p.slots:Int),.slice B6 x.f4.f1.length d6],.int .i64 (k:Int)] ?_
       refine (bits_Is.calls p.slots B6 d6 x.f4.f1 k o.b w59 (Kd.C_below HC6.out HB.out) hy6 hmk).mono ?_
       rintro e w60 ⟨rfl,hb⟩
       refine⟨_,rfl,?_⟩
       refine hK.out _ _ ⟨keepc hb hHeld.1,keepc hb hHeld.2.1,keepc hb hHeld.2.2.1,keepc hb hHeld.2.2.2.1,keepc hb hHeld.2.2.2.2.1,keepc hb hHeld.2.2.2.2.2⟩ (fun hHeld2=>?_)
       replace hHeld:=hHeld2
       clear hHeld2
       have hbx:=blk_below HBX.out hb
       have hbo:=blk_below HBO.out hb
       have hrw:=Kd.R_below HRW.out hb
       have hbl:=below_step HB.out hb
       clear HBX HBO HRW HB hb hmk hgs
       have hgs:=blk_lt hbx
       have HBX:=As hbx
       have HBO:=As hbo
       have HRW:=As hrw
       have HB:=As hbl
       clear hbx hbo hrw hbl
       clear hK K
       refine Z.n_ 90 ?_
       refine Z.p_ 16 91 ?_
       have HSW:=As hswt
       clear hswt
       refine Z.p_ 17 92 ?_
       refine Z.on 18 (some 93) fun K hK=>?_
       have hba:=below_alloc (Below.refl w60.heap.size w60) (.cells #[.int .i64 (i:Int),.int .i64 (k:Int),.int .u64 (a:Int),.int .i64 (o.n:Int),.int .u64 (o.m:Int),.bool o.b] 92 (0,0))
       refine event_step (by rfl) (w1:=w60.alloc (.cells #[.int .i64 (i:Int),.int .i64 (k:Int),.int .u64 (a:Int),.int .i64 (o.n:Int),.int .u64 (o.m:Int),.bool o.b] 92 (0,0))) (v:=.slice (some ⟨w60.heap.size,0,none⟩) 1 1) ?hr ?_
       case hr=>first|(go_simp;done)|(go_simp;rfl)
       refine hK.out _ _ ⟨keepc hba hHeld.1,keepc hba hHeld.2.1,keepc hba hHeld.2.2.1,keepc hba hHeld.2.2.2.1,keepc hba hHeld.2.2.2.2.1,keepc hba hHeld.2.2.2.2.2⟩ (fun hHeld2=>?_)
       clear hba hHeld2
       clear hK K
       refine Z.n_ 93 ?_
       refine Z.la 19 (some 94) fun K hK=>?_
       refine Kd.R_append_step k92 (w0:=w0) w0.heap.size (by rfl) (.tmp 79) (.tmp 93) 79 92 _ 48 rfl Tryz.underlying79 info92 rfl (by decide) (by decide) v (objsF 0 (ps.take i) ++ p.objs i k) ⟨(i:Int),(k:Int),(a:Int),⟨(o.n:Int),(o.m:Int)⟩,o.b⟩ [.int .i64 (i:Int),.int .i64 (k:Int),.int .u64 (a:Int),.int .i64 (o.n:Int),.int .u64 (o.m:Int),.bool o.b] (fun k=>k≠sb) (fun _=>False) rfl (by rfl) (k92_mkM w60 w0.heap.size (fun _=>False) ⟨(i:Int),(k:Int),(a:Int),⟨(o.n:Int),(o.m:Int)⟩,o.b⟩) (fun _ hk=>hk.elim) (fun k hk e=>absurd (e▸hk) (Nat.not_le.2 hgs)) HRW.out HB.out HB.out.size (Nat.le_trans (Nat.mul_le_mul_right 48 (Nat.succ_le_succ HLEN.out)) (by decide)) ?_
       intro v1 w1 ho1 hb1 hg1 hat1
       refine hK.out _ _ ?_
       have hso:=objs_succ p i k
       rw[hob] at hso
       have hoe:oS i k p o=⟨(i:Int),(k:Int),(a:Int),⟨(o.n:Int),(o.m:Int)⟩,o.b⟩:=by unfold oS;rw[←HWD.out,HSW.out];rfl
       rw[List.append_assoc,←hoe,←hso] at ho1
       have hbx:=blk_grown HBX.out hg1 (fun e=>HRW.out.1 sb e.symm rfl)
       have hbo:=blk_grown HBO.out hg1 (Kd.R_ne HRW.out HBO.out (by decide))
       have HO1:=As ho1
       have HB1:=As hb1
       clear HBX HBO HRW HB ho1 hb1 hg1 hat1 hso hoe
       clear hK K
       refine Z.n_ 94 ?_
       refine Z.p_ 20 95 ?_
       refine Z.p_ 21 96 ?_
       have hs4:=Z.c4 hbx
       have hfs:w1.frozen? ⟨sb,4,none⟩=false:=blk_frozen hbx 4
       obtain⟨L,hL⟩:∃L,L=objsF 0 (ps.take i) ++ p.objs i (k + 1):=⟨_,rfl⟩
       rw[←hL] at HO1
       have HL:=As hL
       clear hL
       obtain⟨Av,cv,rfl⟩:=Kd.R_slice HO1.out
       refine Z.la 22 none fun K hK=>?_
       refine skip_ (w1:=?_) (by rfl) rfl ?_ ?_
       rotate_left
       ·go_simp
        rfl
       refine hK.out _ _ ?_
       clear hK K
       refine done_ (by kernel_rfl) ?_
       clear hs4 hfs
       go_wp2
       have hbx2:=st_put hbx (.slice Av L.length cv)
       have hbo2:=blk_far (p:=⟨sb,4,none⟩) hbo (Nat.ne_of_gt hgx) (.slice Av L.length cv)
       have hrw2:=Kd.R_far (p:=⟨sb,4,none⟩) HO1.out (fun k hk=>hk) (.slice Av L.length cv)
       have hbl2:=below_set (j:=4) (v:=.slice Av L.length cv) HB1.out hsb
       have hrw3:=Eq.mp (congrArg (Kd.R k92 92 (w1.setCell ⟨sb,4,none⟩ (.slice Av L.length cv)) w0.heap.size (fun k=>k≠sb) (.slice Av L.length cv)) HL.out) hrw2
       clear hob
       go_roundw
       case rel=>exact⟨k + 1,.slice Av L.length cv,by go_num,⟨hk⟩,⟨hbx2⟩,⟨hrw3⟩,⟨hbo2⟩,⟨hbl2⟩⟩
       case measure=>simp[intOf];omega
    ·have hnl:decide (k < p.slots)=false:=decide_eq_false hk
     have hke:k=p.slots:=by have:=HK.out;omega
     have hrw:=HRW.out
     rw[hke,←HTK.out] at hrw
     have HRW2:=As hrw
     clear hrw HRW hke
     go_wp2
     go_roundw
     case rel=>exact⟨i + 1,v,by go_num,⟨hlt⟩,HBX,HRW2,HB⟩
     case measure=>simp[intOf];omega
  ·have hnl:decide (i < xs.length)=false:=decide_eq_false hlt
   have hrw:=HRW.out
   rw[List.take_of_length_le (by have:=HI.out;have:=HXL.out;omega)] at hrw
   have HRW2:=As hrw
   clear hrw HRW
   go_wp2
   go_ret
   exact⟨v,rfl,HBX.out,HRW2.out,HB.out⟩
end Go.Proofs.YtmmfchnbfnegnaaGreatDoor.K
end
section
namespace Go.Proofs.YtmmfchnbfnegnaaGreatDoor.K
open Go.RowKit Go.Proofs.YtmmfchnbfnegnaaGreatDoorW.PrintWords Go.Proofs.YtmmfchnbfnegnaaGreatDoorW.PrintLast Go.Proofs.YtmmfchnbfnegnaaGreatDoorW.PrintMore Go.Proofs.YtmmfchnbfnegnaaGreatDoor.GK Go.Proofs.YtmmfchnbfnegnaaGreatDoor.Pu Go.Proofs.YtmmfchnbfnegnaaGreatDoor.PuBitW Go.Proofs.YtmmfchnbfnegnaaGreatDoor.PuBits
set_option linter.unusedVariables false
set_option linter.unusedSimpArgs false
attribute [local go_sem] max2_int min2_int max_two min_two max_three min_three max_four min_four
set_option maxHeartbeats 3000000 in
set_option maxRecDepth 100000 in
theorem hpOpen (ps:List Sp) (A1 A2 A3:Option Addr) (c1 c2 c3:Nat) (ws us:List Int) (xs:List S51) (w:World) (hr:HRel ps ws us xs) (hm:HMem w A1 A2 A3 c1 c2 c3 ws us xs):
  Calls Tryz.prog 43 #[.agg #[.slice A1 ws.length c1,.int .i64 30,.slice A2 us.length c2,.slice A3 xs.length c3]] w fun e w'=>∃(sb:Nat) (A5:Option Addr) (c5:Nat),e=.returned (.tuple #[.pointer (some ⟨sb,0,none⟩),.int .i64 0])∧w.heap.size≤sb∧w'.heap[sb]? =some (.cells (stV A1 A2 A3 c1 c2 c3 ws us xs (.slice A5 (objsF 0 ps).length c5)) 81 (0,0))∧Kd.R k92 92 w' w.heap.size (fun k=>k≠sb) (.slice A5 (objsF 0 ps).length c5) (objsF 0 ps)∧Below w.heap.size w w':=by
 have hue:=Tryz.underlying81
 have hu34:=Tryz.underlying34
 have HM:=As hm
 have HR:=As hr
 clear hm hr
 go_enter Tryz.func43,Tryz.ntmps43
 go_wp2_with (fail)
 have hbx:=blk_new (w.alloc (Obj.cells #[.slice A1 ws.length c1,.int .i64 30,.slice A2 us.length c2,.slice A3 xs.length c3] 34)) (Obj.cells (stV A1 A2 A3 c1 c2 c3 ws us xs (.slice none 0 0)) 81)
 rw[World.size_alloc] at hbx
 have HB:=As (below_alloc (below_alloc (Below.refl w.heap.size w) (Obj.cells #[.slice A1 ws.length c1,.int .i64 30,.slice A2 us.length c2,.slice A3 xs.length c3] 34)) (Obj.cells (stV A1 A2 A3 c1 c2 c3 ws us xs (.slice none 0 0)) 81))
 have hlen:xs.length≤29:=by have:=HR.out.good.len;have:=HR.out.xl;omega
 refine (hpFramed ps A1 A2 A3 c1 c2 c3 ws us xs (.slice none 0 0) (w.heap.size + 1) _ HR.out (HM.out.below HB.out) (Nat.le_trans hlen (by decide)) hbx).mono ?_
 rintro e w9 ⟨rfl,hb⟩
 have HBX:=As (blk_below hbx hb)
 have HB9:=As (below_step HB.out hb)
 clear hbx HB hb hlen
 dsimp only
 go_wp2_with (fail)
 refine (hpLook ps A1 A2 A3 c1 c2 c3 ws us xs (w.heap.size + 1) w w9 HR.out HM.out HB9.out (Nat.le_succ _) HBX.out).mono ?_
 rintro e w13 ⟨v,rfl,hbx,ho,hb⟩
 obtain⟨A5,c5,rfl⟩:=Kd.R_slice ho
 have HBX2:=As hbx
 have HO:=As ho
 have HB13:=As hb
 clear HBX HB9 hbx ho hb
 dsimp only
 go_wp2_with (fail)
 obtain⟨-,h5,hC5⟩:=Kd.R_reads' HO.out
 refine (hpSound ps A1 A2 A3 A5 c1 c2 c3 c5 ws us xs (objsF 0 ps) (w.heap.size + 1) w13 HR.out rfl (HM.out.below HB13.out) hC5 h5 HBX2.out).mono ?_
 rintro e w18 ⟨rfl,hb⟩
 have HB:=As hb
 clear hb h5 hC5
 dsimp only
 go_wp2_with (fail)
 go_ret2
 exact⟨w.heap.size + 1,A5,c5,rfl,Nat.le_succ _,blk_below HBX2.out HB.out,Kd.R_below HO.out HB.out,below_step HB13.out HB.out⟩
set_option maxHeartbeats 3000000 in
set_option maxRecDepth 100000 in
theorem hpOwn (ps:List Sp) (A1 A2 A3:Option Addr) (c1 c2 c3:Nat) (ws us:List Int) (xs:List S51) (w0 w:World) (hr:HRel ps ws us xs) (hm:HMem w0 A1 A2 A3 c1 c2 c3 ws us xs) (hB:Below w0.heap.size w0 w) (P:Nat→Prop) (hf3:Kd.F k51 w0 P A3 xs.length xs) (hP:∀k,P k→k < w0.heap.size):
  Calls Tryz.prog 55 #[.agg #[.slice A1 ws.length c1,.int .i64 30,.slice A2 us.length c2,.slice A3 xs.length c3]] w fun e w'=>∃(s2 s3:Nat) (v1 v2 v3:Value),e=.returned (.agg #[v1,.int .i64 30,v2,v3])∧w.heap.size≤s2∧s2≤s3∧s3≤w'.heap.size∧Kd.R (Kd.int .u64) 39 w' w.heap.size (fun k=>w.heap.size≤k∧k < s2) v1 ws∧Kd.R (Kd.int .u64) 39 w' w.heap.size (fun k=>s2≤k∧k < s3) v2 us∧Kd.N k51 51 w' s3 (fun k=>P k∨s3≤k) v3 xs∧Below w.heap.size w w':=by
 have hu34:=Tryz.underlying34
 have HM0:=As hm
 have HF3:=As hf3
 have HPL:=As hP
 have HB00:=As hB
 have HM:=As (hm.below hB)
 have HR:=As hr
 clear hm hr hB hf3 hP
 go_enter Tryz.func55,Tryz.ntmps55
 go_wp2_with (fail)
 have hbb:=blk_alloc (blk_new w (Obj.cells #[.slice A1 ws.length c1,.int .i64 30,.slice A2 us.length c2,.slice A3 xs.length c3] 34)) (Obj.cells #[.slice none 0 0,.int .i64 0,.slice none 0 0,.slice none 0 0] 34)
 have hbz:=blk_new (w.alloc (Obj.cells #[.slice A1 ws.length c1,.int .i64 30,.slice A2 us.length c2,.slice A3 xs.length c3] 34)) (Obj.cells #[.slice none 0 0,.int .i64 0,.slice none 0 0,.slice none 0 0] 34)
 rw[World.size_alloc] at hbz
 have HB:=As (below_drew1 (below_alloc (below_alloc (Below.refl w.heap.size w) (Obj.cells #[.slice A1 ws.length c1,.int .i64 30,.slice A2 us.length c2,.slice A3 xs.length c3] 34)) (Obj.cells #[.slice none 0 0,.int .i64 0,.slice none 0 0,.slice none 0 0] 34)))
 generalize (w.alloc (Obj.cells #[.slice A1 ws.length c1,.int .i64 30,.slice A2 us.length c2,.slice A3 xs.length c3] 34)).alloc (Obj.cells #[.slice none 0 0,.int .i64 0,.slice none 0 0,.slice none 0 0] 34)=w1 at hbb hbz HB ⊢
 have hb0:w1.drew.cell? ⟨w.heap.size,0,none⟩=some (.slice A1 ws.length c1):=(blk_cell (blk_drew hbb) 0).trans rfl
 have hb1:w1.drew.cell? ⟨w.heap.size,1,none⟩=some (.int .i64 30):=(blk_cell (blk_drew hbb) 1).trans rfl
 have hb2:w1.drew.cell? ⟨w.heap.size,2,none⟩=some (.slice A2 us.length c2):=(blk_cell (blk_drew hbb) 2).trans rfl
 have hb3:w1.drew.cell? ⟨w.heap.size,3,none⟩=some (.slice A3 xs.length c3):=(blk_cell (blk_drew hbb) 3).trans rfl
 refine start_ (n:=11) (S:=fun w'=>w'.cell? ⟨w.heap.size,0,none⟩=some (.slice A1 ws.length c1)∧w'.cell? ⟨w.heap.size,1,none⟩=some (.int .i64 30)∧w'.cell? ⟨w.heap.size,2,none⟩=some (.slice A2 us.length c2)∧w'.cell? ⟨w.heap.size,3,none⟩=some (.slice A3 xs.length c3)) (ds:=[10]) #[false,false,false,false,false,false,false,false,false,false,false] (by kernel_rfl) rfl rfl ⟨hb0,hb1,hb2,hb3⟩ (fun hHeld=>?_)
 have HBZ:=As (blk_drew hbz)
 clear hbb hbz hb0 hb1 hb2 hb3
 generalize w1.drew=w2 at HB HBZ hHeld ⊢
 refine Z.p_ 0 3 ?_
 refine Z.t_ 1 4 hHeld ?_
 refine Z.p_ 3 6 ?_
 refine Z.t_ 4 7 hHeld ?_
 refine Z.p_ 6 9 ?_
 refine Z.t_ 7 10 hHeld ?_
 refine Z.on 2 (some 5) fun K hK=>?_
 refine Z.gs Tryz.func91 #[.agg #[.slice A1 ws.length c1]] ?_
 refine (arena_Own.calls A1 c1 ws ws w2 (HM.out.below HB.out).m1 HM.out.l1 (by have:=HR.out.w.len;unfold arena_Own.f slices_Clone_uint64_uint64.f;rw[if_pos (by omega)];rfl)).mono ?_
 rintro e w5 ⟨v1,rfl,ho,hb⟩
 refine⟨_,rfl,?_⟩
 refine hK.out _ _ ⟨keepc hb hHeld.1,keepc hb hHeld.2.1,keepc hb hHeld.2.2.1,keepc hb hHeld.2.2.2⟩ (fun hHeld2=>?_)
 replace hHeld:=hHeld2
 clear hHeld2
 have HBZ5:=As (blk_below HBZ.out hb)
 have HB5:=As (below_step HB.out hb)
 have HO1:=As (Kd.R_lower (Kd.R_mono (ok':=fun k=>w2.heap.size≤k∧k < w5.heap.size) (Kd.R_bound ho) (fun k hk=>⟨hk.2.1,hk.2.2.1⟩)) HB.out.size)
 have HGZ:=As (blk_lt HBZ.out)
 have hs25:=hb.size
 have hs02:=HB.out.size
 clear HB HBZ ho hb
 clear hK K
 refine Z.n_ 5 ?_
 refine Z.on 5 (some 8) fun K hK=>?_
 refine Z.gs Tryz.func52 #[.agg #[.int .i64 30,.slice A2 us.length c2]] ?_
 refine (pages_Own.calls 30 A2 c2 us 30 us w5 (HM.out.below HB5.out).m2 HM.out.l2 (PuPages.pown_eq 30 us HR.out.u.small)).mono ?_
 rintro e w8 ⟨v2,rfl,ho,hb⟩
 refine⟨_,rfl,?_⟩
 refine hK.out _ _ ⟨keepc hb hHeld.1,keepc hb hHeld.2.1,keepc hb hHeld.2.2.1,keepc hb hHeld.2.2.2⟩ (fun hHeld2=>?_)
 replace hHeld:=hHeld2
 clear hHeld2
 have HBZ8:=As (blk_below HBZ5.out hb)
 have HB8:=As (below_step HB5.out hb)
 have hs23:=hb.size
 have hs12:=HB5.out.size
 have HO2:=As (Kd.R_lower (Kd.R_mono (ok':=fun k=>w5.heap.size≤k∧k < w8.heap.size) (Kd.R_bound ho) (fun k hk=>⟨hk.2.1,hk.2.2.1⟩)) HB5.out.size)
 have HO1b:=As (Kd.R_below HO1.out hb)
 clear HB5 HBZ5 ho hb HO1
 clear hK K
 refine Z.n_ 8 ?_
 refine Z.on 8 (some 11) fun K hK=>?_
 refine Z.gs Tryz.func81 #[.slice A3 xs.length c3] ?_
 refine (snOwn (fun k=>P k∨w8.heap.size≤k) A3 c3 xs w8 (Kd.F_mono (Kd.F_below (Kd.F_below HF3.out HB00.out) HB8.out) (fun k hk=>.inl hk)) (fun k hk=>.inr hk) (by have:=HR.out.good.len;have:=HR.out.xl;omega) (fun x hx=>by
  obtain⟨j,hj,rfl⟩:=List.mem_iff_getElem.1 hx
  exact (HR.out.at hj).1.ss)).mono ?_
 rintro e w11 ⟨v3,rfl,ho,hb⟩
 refine⟨_,rfl,?_⟩
 refine hK.out _ _ ⟨keepc hb hHeld.1,keepc hb hHeld.2.1,keepc hb hHeld.2.2.1,keepc hb hHeld.2.2.2⟩ (fun hHeld2=>?_)
 clear hHeld2 hHeld
 have hbz:=blk_below HBZ8.out hb
 have HB11:=As (below_step HB8.out hb)
 have HO2b:=As (Kd.R_below HO2.out hb)
 have HO1c:=As (Kd.R_below HO1b.out hb)
 have HN:=As ho
 have hs3:=hb.size
 clear HB8 HBZ8 ho hb HO1b HO2
 clear hK K
 refine Z.n_ 11 ?_
 obtain⟨B1,d1,rfl⟩:=Kd.R_slice HO1c.out
 obtain⟨B2,d2,rfl⟩:=Kd.R_slice HO2b.out
 obtain⟨B3,d3,rfl⟩:=Kd.N_slice HN.out
 refine Z.p_ 9 12 ?_
 have hz0:w11.cell? ⟨(w.heap.size+1),0,none⟩=some (.slice none 0 0):=(blk_cell hbz 0).trans rfl
 have hz1:w11.cell? ⟨(w.heap.size+1),1,none⟩=some (.int .i64 0):=(blk_cell hbz 1).trans rfl
 have hz2:w11.cell? ⟨(w.heap.size+1),2,none⟩=some (.slice none 0 0):=(blk_cell hbz 2).trans rfl
 have hz3:w11.cell? ⟨(w.heap.size+1),3,none⟩=some (.slice none 0 0):=(blk_cell hbz 3).trans rfl
 have hf0:=blk_frozen hbz 0
 have hf1:=blk_frozen hbz 1
 have hf2:=blk_frozen hbz 2
 have hf3:=blk_frozen hbz 3
 refine Z.la 10 none fun K hK=>?_
 refine skip_ (w1:=?_) (by rfl) rfl ?_ ?_
 rotate_left
 ·go_simp
  rfl
 refine hK.out _ _ ?_
 clear hK K
 refine done_ (by kernel_rfl) ?_
 clear hz0 hz1 hz2 hz3 hf0 hf1 hf2 hf3
 go_wp2
 have hres:=(blk_put (cs:=#[.slice B1 ws.length d1,.int .i64 30,.slice B2 us.length d2,.slice none 0 0]) (cs':=#[.slice B1 ws.length d1,.int .i64 30,.slice B2 us.length d2,.slice B3 xs.length d3]) (blk_put (cs:=#[.slice B1 ws.length d1,.int .i64 30,.slice none 0 0,.slice none 0 0]) (cs':=#[.slice B1 ws.length d1,.int .i64 30,.slice B2 us.length d2,.slice none 0 0]) (blk_put (cs:=#[.slice B1 ws.length d1,.int .i64 0,.slice none 0 0,.slice none 0 0]) (cs':=#[.slice B1 ws.length d1,.int .i64 30,.slice none 0 0,.slice none 0 0]) (blk_put (cs:=#[.slice none 0 0,.int .i64 0,.slice none 0 0,.slice none 0 0]) (cs':=#[.slice B1 ws.length d1,.int .i64 0,.slice none 0 0,.slice none 0 0]) hbz 0 (.slice B1 ws.length d1) rfl) 1 (.int .i64 30) rfl) 2 (.slice B2 us.length d2) rfl) 3 (.slice B3 xs.length d3) rfl)
 (try simp only[Exit.inBlock,Exit.then])
 refine bodyPost_ret (results_single (r:=.cell 2 34) rfl (.cell (w.heap.size+1) 34 #[.slice B1 ws.length d1,.int .i64 30,.slice B2 us.length d2,.slice B3 xs.length d3] (0,0) _ rfl hres Tryz.underlying34 rfl (by kernel_rfl) .nil)) rfl ?_
 have HB:=HB11
 have hgz:w.heap.size + 1 < w2.heap.size:=HGZ.out
 have hr1:=(Kd.R_far (p:=⟨w.heap.size + 1,3,none⟩) (Kd.R_far (p:=⟨w.heap.size + 1,2,none⟩) (Kd.R_far (p:=⟨w.heap.size + 1,1,none⟩) (Kd.R_far (p:=⟨w.heap.size + 1,0,none⟩) HO1c.out (fun k hk=>Nat.ne_of_gt (Nat.lt_of_lt_of_le hgz hk.1)) (.slice B1 ws.length d1)) (fun k hk=>Nat.ne_of_gt (Nat.lt_of_lt_of_le hgz hk.1)) (.int .i64 30)) (fun k hk=>Nat.ne_of_gt (Nat.lt_of_lt_of_le hgz hk.1)) (.slice B2 us.length d2)) (fun k hk=>Nat.ne_of_gt (Nat.lt_of_lt_of_le hgz hk.1)) (.slice B3 xs.length d3))
 have hr2:=(Kd.R_far (p:=⟨w.heap.size + 1,3,none⟩) (Kd.R_far (p:=⟨w.heap.size + 1,2,none⟩) (Kd.R_far (p:=⟨w.heap.size + 1,1,none⟩) (Kd.R_far (p:=⟨w.heap.size + 1,0,none⟩) HO2b.out (fun k hk=>Nat.ne_of_gt (Nat.lt_of_lt_of_le hgz (Nat.le_trans hs25 hk.1))) (.slice B1 ws.length d1)) (fun k hk=>Nat.ne_of_gt (Nat.lt_of_lt_of_le hgz (Nat.le_trans hs25 hk.1))) (.int .i64 30)) (fun k hk=>Nat.ne_of_gt (Nat.lt_of_lt_of_le hgz (Nat.le_trans hs25 hk.1))) (.slice B2 us.length d2)) (fun k hk=>Nat.ne_of_gt (Nat.lt_of_lt_of_le hgz (Nat.le_trans hs25 hk.1))) (.slice B3 xs.length d3))
 have hr3:=(Kd.N_far (p:=⟨w.heap.size + 1,3,none⟩) (Kd.N_far (p:=⟨w.heap.size + 1,2,none⟩) (Kd.N_far (p:=⟨w.heap.size + 1,1,none⟩) (Kd.N_far (p:=⟨w.heap.size + 1,0,none⟩) HN.out (fun k hk=>hk.elim (fun h=>Nat.ne_of_lt (Nat.lt_succ_of_lt (Nat.lt_of_lt_of_le (HPL.out k h) HB00.out.size))) (fun h=>Nat.ne_of_gt (Nat.lt_of_lt_of_le hgz (Nat.le_trans (Nat.le_trans hs25 hs23) h)))) (.slice B1 ws.length d1)) (fun k hk=>hk.elim (fun h=>Nat.ne_of_lt (Nat.lt_succ_of_lt (Nat.lt_of_lt_of_le (HPL.out k h) HB00.out.size))) (fun h=>Nat.ne_of_gt (Nat.lt_of_lt_of_le hgz (Nat.le_trans (Nat.le_trans hs25 hs23) h)))) (.int .i64 30)) (fun k hk=>hk.elim (fun h=>Nat.ne_of_lt (Nat.lt_succ_of_lt (Nat.lt_of_lt_of_le (HPL.out k h) HB00.out.size))) (fun h=>Nat.ne_of_gt (Nat.lt_of_lt_of_le hgz (Nat.le_trans (Nat.le_trans hs25 hs23) h)))) (.slice B2 us.length d2)) (fun k hk=>hk.elim (fun h=>Nat.ne_of_lt (Nat.lt_succ_of_lt (Nat.lt_of_lt_of_le (HPL.out k h) HB00.out.size))) (fun h=>Nat.ne_of_gt (Nat.lt_of_lt_of_le hgz (Nat.le_trans (Nat.le_trans hs25 hs23) h)))) (.slice B3 xs.length d3))
 exact⟨w5.heap.size,w8.heap.size,_,_,_,rfl,hs12,hs23,by simp only[World.size_setCell];exact hs3,Kd.R_mono hr1 (fun k hk=>⟨Nat.le_trans hs02 hk.1,hk.2⟩),hr2,hr3,(by with_reducible repeat (first|exact HB.out|refine below_alloc ?_ _|refine pw_below_drewN ?_ _|refine below_drew1 ?_|refine below_set ?_ (Nat.le_refl _)|(refine below_set ?_ ?_;rotate_left;omega)))⟩
structure Mine (w:World) (L:Nat→Prop) (B sb gw cw:Nat) (A2 A5:Option Addr) (c2 c5:Nat) (v3:Value) (ws us:List Int) (xs:List S51) (os:List S92):Prop where
 hsb:B≤sb
 hgw:B≤gw
 ne:gw≠sb
 blk:w.heap[sb]? =some (.cells #[.slice (some ⟨gw,0,none⟩) ws.length cw,.int .i64 30,.slice A2 us.length c2,v3,.slice A5 os.length c5] 81 (0,0))
 m1:Kd.R (Kd.int .u64) 39 w B (fun k=>k=gw) (.slice (some ⟨gw,0,none⟩) ws.length cw) ws
 m2:Kd.F (Kd.int .u64) w (fun k=>(L k∨B≤k)∧k≠sb∧k≠gw∧some k≠v3.ownBlock) A2 us.length us
 l2:us.length≤c2
 m3:Kd.N k51 51 w B (fun k=>(L k∨B≤k)∧k≠sb∧k≠gw) v3 xs
 m5:Kd.F k92 w (fun k=>(L k∨B≤k)∧k≠sb∧k≠gw∧some k≠v3.ownBlock) A5 os.length os
 l5:os.length≤c5
set_option maxHeartbeats 3000000 in
set_option maxRecDepth 100000 in
theorem hpMine (ps:List Sp) (A1 A2 A3:Option Addr) (c1 c2 c3:Nat) (ws us:List Int) (xs:List S51) (w0 w:World) (hr:HRel ps ws us xs) (hm:HMem w0 A1 A2 A3 c1 c2 c3 ws us xs) (hB:Below w0.heap.size w0 w) (P:Nat→Prop) (hf3:Kd.F k51 w0 P A3 xs.length xs) (hP:∀k,P k→k < w0.heap.size):
  Calls Tryz.prog 22 #[.agg #[.slice A1 ws.length c1,.int .i64 30,.slice A2 us.length c2,.slice A3 xs.length c3]] w fun e w'=>∃(sb gw cw:Nat) (A2' A5:Option Addr) (c2' c5:Nat) (v3:Value),e=.returned (.tuple #[.pointer (some ⟨sb,0,none⟩),.int .i64 0])∧Mine w' P w.heap.size sb gw cw A2' A5 c2' c5 v3 ws us xs (objsF 0 ps)∧Below w.heap.size w w':=by
 have hue:=Tryz.underlying81
 have hu34:=Tryz.underlying34
 have HM0:=As hm
 have HF3:=As hf3
 have HPL:=As hP
 have HB00:=As hB
 have HM:=As (hm.below hB)
 have HR:=As hr
 clear hm hr hB hf3 hP
 go_enter Tryz.func22,Tryz.ntmps22
 go_wp2_with (fail)
 have hbb:=blk_new w (Obj.cells #[.slice A1 ws.length c1,.int .i64 30,.slice A2 us.length c2,.slice A3 xs.length c3] 34)
 have hb0:=below_alloc (Below.refl w.heap.size w) (Obj.cells #[.slice A1 ws.length c1,.int .i64 30,.slice A2 us.length c2,.slice A3 xs.length c3] 34)
 have hgl:=blk_lt hbb
 refine (hpOpen ps A1 A2 A3 c1 c2 c3 ws us xs _ HR.out (HM.out.below hb0)).mono ?_
 rintro e w8 ⟨sb,A5,c5,rfl,hsb,hbx,ho,hb⟩
 have hbb8:=blk_below hbb hb
 have HB8:=As (below_step hb0 hb)
 have HBX:=As hbx
 have HO:=As ho
 have hsb0:=Nat.le_trans hb0.size hsb
 have hs00:=Nat.le_trans HB00.out.size hsb0
 have hsw1:=hb0.size
 have hsl:=blk_lt hbx
 have hq0:=Z.c0 hbb8
 have hq1:=Z.c1 hbb8
 have hq2:=Z.c2 hbb8
 have hq3:=Z.c3 hbb8
 clear hbb hb0 hb hbx ho
 dsimp only
 go_wp2_with (fail)
 refine (hpOwn ps A1 A2 A3 c1 c2 c3 ws us xs w0 w8 HR.out HM0.out (below_step HB00.out HB8.out) P HF3.out HPL.out).mono ?_
 rintro e w15 ⟨s2,s3,v1,v2,v3,rfl,h2,h3,h4,ho1,ho2,hn,hb⟩
 obtain⟨gw,cw,rfl,hgw,hgwl, -⟩:=Kd.R_form ho1 (by have:=HR.out.w.len;omega)
 obtain⟨B2,d2,rfl⟩:=Kd.R_slice ho2
 obtain⟨B3,d3,rfl⟩:=Kd.N_slice hn
 have hbx:=blk_below HBX.out hb
 have hgs2:gw < s2:=(ho1.1 gw (by simp[Value.ownBlock])).2
 have hR1:=As (Kd.R_mono (ok':=fun k=>k=gw) (Kd.R_tight rfl ho1) (fun k hk=>by simpa[Value.ownBlock] using hk))
 have hR2:=As (Kd.R_F ho2)
 have hR3:=As hn
 have hd2:=(Kd.R_reads' ho2).2.1
 have hR5:=As (Kd.R_F (Kd.R_below (Kd.R_bound HO.out) hb))
 have hd5:=(Kd.R_reads' HO.out).2.1
 have HB:=As (below_step HB8.out hb)
 have hszw:=HB8.out.size
 have hvb:=Kd.N_base hn
 have hc0:=Z.c0 hbx
 have hc1:=Z.c1 hbx
 have hc2:=Z.c2 hbx
 have hc3:=Z.c3 hbx
 have hf0:=blk_frozen hbx 0
 have hf1:=blk_frozen hbx 1
 have hf2:=blk_frozen hbx 2
 have hf3:=blk_frozen hbx 3
 clear HBX HO HB8 hb ho1 ho2 hn hq0 hq1 hq2 hq3
 dsimp only
 go_wp2_with (fail)
 go_ret2
 refine⟨sb,gw,cw,B2,A5,d2,c5,.slice B3 xs.length d3,rfl,⟨hsb0,Nat.le_trans hszw hgw,Nat.ne_of_gt (Nat.lt_of_lt_of_le hsl hgw),(blk_put (cs:=#[.slice (some ⟨gw,0,none⟩) ws.length cw,.int .i64 30,.slice B2 us.length d2,.slice A3 xs.length c3,.slice A5 (objsF 0 ps).length c5]) (cs':=#[.slice (some ⟨gw,0,none⟩) ws.length cw,.int .i64 30,.slice B2 us.length d2,.slice B3 xs.length d3,.slice A5 (objsF 0 ps).length c5]) (blk_put (cs:=#[.slice (some ⟨gw,0,none⟩) ws.length cw,.int .i64 30,.slice A2 us.length c2,.slice A3 xs.length c3,.slice A5 (objsF 0 ps).length c5]) (cs':=#[.slice (some ⟨gw,0,none⟩) ws.length cw,.int .i64 30,.slice B2 us.length d2,.slice A3 xs.length c3,.slice A5 (objsF 0 ps).length c5]) (blk_put (cs:=#[.slice (some ⟨gw,0,none⟩) ws.length cw,.int .i64 30,.slice A2 us.length c2,.slice A3 xs.length c3,.slice A5 (objsF 0 ps).length c5]) (cs':=#[.slice (some ⟨gw,0,none⟩) ws.length cw,.int .i64 30,.slice A2 us.length c2,.slice A3 xs.length c3,.slice A5 (objsF 0 ps).length c5]) (blk_put (cs:=#[.slice A1 ws.length c1,.int .i64 30,.slice A2 us.length c2,.slice A3 xs.length c3,.slice A5 (objsF 0 ps).length c5]) (cs':=#[.slice (some ⟨gw,0,none⟩) ws.length cw,.int .i64 30,.slice A2 us.length c2,.slice A3 xs.length c3,.slice A5 (objsF 0 ps).length c5]) hbx 0 (.slice (some ⟨gw,0,none⟩) ws.length cw) rfl) 1 (.int .i64 30) rfl) 2 (.slice B2 us.length d2) rfl) 3 (.slice B3 xs.length d3) rfl),?_,?_,hd2,?_,?_,hd5⟩,(by with_reducible repeat (first|exact HB.out|refine below_alloc ?_ _|refine pw_below_drewN ?_ _|refine below_drew1 ?_|refine below_set ?_ (Nat.le_refl _)|(refine below_set ?_ ?_;rotate_left;omega)))⟩
 ·exact Kd.R_lower (Kd.R_far (p:=⟨sb,3,none⟩) (Kd.R_far (p:=⟨sb,2,none⟩) (Kd.R_far (p:=⟨sb,1,none⟩) (Kd.R_far (p:=⟨sb,0,none⟩) hR1.out (fun k hk=>hk▸Nat.ne_of_gt (Nat.lt_of_lt_of_le hsl hgw)) (.slice (some ⟨gw,0,none⟩) ws.length cw)) (fun k hk=>hk▸Nat.ne_of_gt (Nat.lt_of_lt_of_le hsl hgw)) (.int .i64 30)) (fun k hk=>hk▸Nat.ne_of_gt (Nat.lt_of_lt_of_le hsl hgw)) (.slice B2 us.length d2)) (fun k hk=>hk▸Nat.ne_of_gt (Nat.lt_of_lt_of_le hsl hgw)) (.slice B3 xs.length d3)) hszw
 ·refine Kd.F_mono (Kd.F_far (p:=⟨sb,3,none⟩) (Kd.F_far (p:=⟨sb,2,none⟩) (Kd.F_far (p:=⟨sb,1,none⟩) (Kd.F_far (p:=⟨sb,0,none⟩) hR2.out (fun k hk=>Nat.ne_of_gt (Nat.lt_of_lt_of_le hsl (Nat.le_trans h2 hk.1))) (.slice (some ⟨gw,0,none⟩) ws.length cw)) (fun k hk=>Nat.ne_of_gt (Nat.lt_of_lt_of_le hsl (Nat.le_trans h2 hk.1))) (.int .i64 30)) (fun k hk=>Nat.ne_of_gt (Nat.lt_of_lt_of_le hsl (Nat.le_trans h2 hk.1))) (.slice B2 us.length d2)) (fun k hk=>Nat.ne_of_gt (Nat.lt_of_lt_of_le hsl (Nat.le_trans h2 hk.1))) (.slice B3 xs.length d3)) (fun k hk=>⟨.inr (Nat.le_trans hszw (Nat.le_trans h2 hk.1)),Nat.ne_of_gt (Nat.lt_of_lt_of_le hsl (Nat.le_trans h2 hk.1)),Nat.ne_of_gt (Nat.lt_of_lt_of_le hgs2 hk.1),fun e=>absurd (hvb k e.symm) (Nat.not_le.2 hk.2)⟩)
 ·refine Kd.N_lower (Kd.N_mono (Kd.N_far (p:=⟨sb,3,none⟩) (Kd.N_far (p:=⟨sb,2,none⟩) (Kd.N_far (p:=⟨sb,1,none⟩) (Kd.N_far (p:=⟨sb,0,none⟩) hR3.out (fun k hk=>hk.elim (fun h=>Nat.ne_of_lt (Nat.lt_of_lt_of_le (HPL.out k h) hs00)) (fun h=>Nat.ne_of_gt (Nat.lt_of_lt_of_le hsl (Nat.le_trans h2 (Nat.le_trans h3 h))))) (.slice (some ⟨gw,0,none⟩) ws.length cw)) (fun k hk=>hk.elim (fun h=>Nat.ne_of_lt (Nat.lt_of_lt_of_le (HPL.out k h) hs00)) (fun h=>Nat.ne_of_gt (Nat.lt_of_lt_of_le hsl (Nat.le_trans h2 (Nat.le_trans h3 h))))) (.int .i64 30)) (fun k hk=>hk.elim (fun h=>Nat.ne_of_lt (Nat.lt_of_lt_of_le (HPL.out k h) hs00)) (fun h=>Nat.ne_of_gt (Nat.lt_of_lt_of_le hsl (Nat.le_trans h2 (Nat.le_trans h3 h))))) (.slice B2 us.length d2)) (fun k hk=>hk.elim (fun h=>Nat.ne_of_lt (Nat.lt_of_lt_of_le (HPL.out k h) hs00)) (fun h=>Nat.ne_of_gt (Nat.lt_of_lt_of_le hsl (Nat.le_trans h2 (Nat.le_trans h3 h))))) (.slice B3 xs.length d3)) (fun k hk=>⟨hk.imp id (fun h=>Nat.le_trans hszw (Nat.le_trans h2 (Nat.le_trans h3 h))),hk.elim (fun h=>Nat.ne_of_lt (Nat.lt_of_lt_of_le (HPL.out k h) hs00)) (fun h=>Nat.ne_of_gt (Nat.lt_of_lt_of_le hsl (Nat.le_trans h2 (Nat.le_trans h3 h)))),hk.elim (fun h=>Nat.ne_of_lt (Nat.lt_of_lt_of_le (HPL.out k h) (Nat.le_trans HB00.out.size (Nat.le_trans hszw hgw)))) (fun h=>Nat.ne_of_gt (Nat.lt_of_lt_of_le hgs2 (Nat.le_trans h3 h)))⟩)) (Nat.le_trans hszw (Nat.le_trans h2 h3))
 ·refine Kd.F_mono (Kd.F_far (p:=⟨sb,3,none⟩) (Kd.F_far (p:=⟨sb,2,none⟩) (Kd.F_far (p:=⟨sb,1,none⟩) (Kd.F_far (p:=⟨sb,0,none⟩) hR5.out (fun k hk=>hk.1) (.slice (some ⟨gw,0,none⟩) ws.length cw)) (fun k hk=>hk.1) (.int .i64 30)) (fun k hk=>hk.1) (.slice B2 us.length d2)) (fun k hk=>hk.1) (.slice B3 xs.length d3)) (fun k hk=>⟨.inr (Nat.le_trans hsw1 hk.2.1),hk.1,Nat.ne_of_lt (Nat.lt_of_lt_of_le hk.2.2.1 hgw),fun e=>absurd (hvb k e.symm) (Nat.not_le.2 (Nat.lt_of_lt_of_le hk.2.2.1 (Nat.le_trans h2 h3)))⟩)
end Go.Proofs.YtmmfchnbfnegnaaGreatDoor.K
end
