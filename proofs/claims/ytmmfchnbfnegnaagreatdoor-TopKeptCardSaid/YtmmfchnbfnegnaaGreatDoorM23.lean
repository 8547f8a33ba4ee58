import Derived.Test.YtmmfchnbfnegnaaGreatDoorM04
import Derived.Test.YtmmfchnbfnegnaaGreatDoorM03
import Derived.Test.YtmmfchnbfnegnaaGreatDoorProg
import Derived.WalkKit
import Derived.ProofKit
import Derived.OpenShut
import Derived.ShutString
import Derived.ChangeOld
import Derived.Below
import Derived.SizedLaws
import Derived.Deep.SlicePairs
namespace Go.Proofs.YtmmfchnbfnegnaaGreatDoor.RsK
open Go.ChangeShapes Go.WideShapes Go.ChangeAt Go.RowKit Go.Proofs.YtmmfchnbfnegnaaGreatDoorW.PrintWords Go.Proofs.YtmmfchnbfnegnaaGreatDoor.GK
structure ShapesIn (W:World) (A:Option Addr) (c:Nat) (l:List S41):Prop where
 reads:Kd.C k41 W A l.length l
 cap:l.length≤c
 wf:∀x∈l,(Lit.int .u64 x.f1).wf=true
set_option maxRecDepth 100000 in
theorem shapes_in {H:Type} {enc:TypeId×Value→H} {W:World} {base:Nat} {v:Value} {d:DataW H} {p:List MemPlace}
  (hv:Value.okWide Tryz.prog W .any base 22 v) (h:DataW.Trod enc Tryz.prog W 0 (fun _=>true) true 22 v d p):
  ∃(A:Option Addr) (l:List S41) (c:Nat),v=.slice A l.length c∧ShapesIn W A c l:=by
 obtain⟨a,n,c,rfl⟩:=okWide_slice Tryz.underlying22 hv
 obtain⟨fuel,hf⟩:=h
 have hf':DataW.trod enc Tryz.prog W 0 (fun _=>true) true fuel 22 [.slice a n c]=some (d,p):=by simpa[Value.cells] using hf
 rcases Go.Deep.open_slice_pairs Tryz.underlying22 Tryz.underlying41 (by kernel_rfl) rfl rfl (by kernel_rfl) (by kernel_rfl) hf' with⟨hcs,_⟩|⟨ad,len,cap,m,n',V0,V1,D0,D1,P0,P1,hcs,_,hl,hm,hmm,_,hx⟩
 ·have e:Value.slice a n c=.slice none 0 0:=by simpa using hcs
  exact⟨none,[],0,e,Kd.C_nil _ _,Nat.le_refl _,by simp⟩
 ·have e:Value.slice a n c=.slice (some ad) len cap:=by simpa using hcs
  have each:∀i,i < len→∃q:Int×Int,V0 i=.int .i64 q.1∧V1 i=.int .u64 q.2∧(Lit.int .u64 q.2).wf=true:=by
   intro i hi
   have hmi:i < m:=by rw[hmm];simp;omega
   obtain⟨_,_,h0,h1⟩:=hx i hmi
   obtain⟨b,eb,_⟩:=DataW.trod_int Tryz.underlying3 h0
   obtain⟨u,eu,_,wu⟩:=DataW.trod_int Tryz.underlying39 h1
   exact⟨(b,u),by simpa using eb,by simpa using eu,wu⟩
  obtain⟨q,hq⟩:=Go.Deep.choose_lt each
  have hlen:((List.range len).map (fun i=>(⟨(q i).1,(q i).2⟩:S41))).length=len:=by simp
  refine⟨some ad,(List.range len).map (fun i=>⟨(q i).1,(q i).2⟩),cap,by rw[hlen];exact e,?_,by rw[hlen];exact hl,?_⟩
  ·refine⟨rfl,by rw[hlen];unfold maxLen at hm;omega,fun _=>⟨ad,rfl,fun j pj hj=>?_⟩⟩
   have hjl:j < len:=by
    have:=(List.getElem?_eq_some_iff.1 hj).1
    rwa [hlen] at this
   have ej:pj=⟨(q j).1,(q j).2⟩:=by
    rw[List.getElem?_map,List.getElem?_range hjl] at hj
    simpa using hj.symm
   subst ej
   have hmj:j < m:=by rw[hmm];simp;omega
   obtain⟨h0,h1,_⟩:=hx j hmj
   obtain⟨e0,e1,_⟩:=hq j hjl
   refine⟨[.int .i64 (q j).1,.int .u64 (q j).2],rfl,k41_mk W _,fun i u hi=>?_⟩
   match i,hi with
   |0,hi=>rw[←e0] at hi;rw[show u=V0 j by simpa using hi.symm];exact h0
   |1,hi=>rw[←e1] at hi;rw[show u=V1 j by simpa using hi.symm];exact h1
  ·intro x hxm
   obtain⟨i,hi,rfl⟩:=List.mem_map.1 hxm
   exact (hq i (List.mem_range.1 hi)).2.2
structure BoolsIn (W:World) (A:Option Addr) (c:Nat) (l:List Bool):Prop where
 reads:Kd.C Kd.bool W A l.length l
 cap:l.length≤c
set_option maxRecDepth 100000 in
theorem bools_in {H:Type} {enc:TypeId×Value→H} {W:World} {base:Nat} {v:Value} {d:DataW H} {p:List MemPlace}
  (hv:Value.okWide Tryz.prog W .any base 23 v) (h:DataW.Trod enc Tryz.prog W 0 (fun _=>true) true 23 v d p):
  ∃(A:Option Addr) (l:List Bool) (c:Nat),v=.slice A l.length c∧BoolsIn W A c l:=by
 obtain⟨a,n,c,rfl⟩:=okWide_slice Tryz.underlying23 hv
 obtain⟨fuel,hf⟩:=h
 have hf':DataW.trod enc Tryz.prog W 0 (fun _=>true) true fuel 23 [.slice a n c]=some (d,p):=by simpa[Value.cells] using hf
 have ce:Tryz.prog.cellsOf 4=1:=by kernel_rfl
 rcases Go.Deep.open_slice Tryz.underlying23 hf' with⟨hcs,_⟩|⟨ad,len,cap,m,n',D,Pl,hcs,_,hl,hm,hmm,_,hx⟩
 ·have e:Value.slice a n c=.slice none 0 0:=by simpa using hcs
  exact⟨none,[],0,e,Kd.C_nil _ _,Nat.le_refl _⟩
 ·have e:Value.slice a n c=.slice (some ad) len cap:=by simpa using hcs
  rw[ce] at hx
  have each:∀i,i < len→∃b:Bool,W.cell? (ad.add i)=some (.bool b):=by
   intro i hi
   have hmi:i < m:=by rw[hmm];simp;omega
   obtain⟨cs',h1,h2⟩:=hx i hmi
   obtain⟨b,eb,_⟩:=DataW.trod_bool Tryz.underlying4 h2
   obtain⟨_,hlen,hcell⟩:=World.cells?_some h1
   have e0:=hcell 0 (by omega)
   rw[eb] at e0
   exact⟨b,by simpa[Nat.mul_one,Addr.add] using e0⟩
  obtain⟨q,hq⟩:=Go.Deep.choose_lt each
  have hlen:((List.range len).map q).length=len:=by simp
  refine⟨some ad,(List.range len).map q,cap,by rw[hlen];exact e,?_,by rw[hlen];exact hl⟩
  refine⟨rfl,by rw[hlen];unfold maxLen at hm;omega,fun _=>⟨ad,rfl,fun j pj hj=>?_⟩⟩
  have hjl:j < len:=by
   have:=(List.getElem?_eq_some_iff.1 hj).1
   rwa [hlen] at this
  have ej:pj=q j:=by
   rw[List.getElem?_map,List.getElem?_range hjl] at hj
   simpa using hj.symm
  subst ej
  refine⟨[.bool (q j)],rfl,rfl,fun i u hi=>?_⟩
  match i,hi with
  |0,hi=>rw[show u=.bool (q j) by simpa using hi.symm];exact (by simpa[show Kd.bool.sz=1 from rfl,Addr.add] using hq j hjl)
end Go.Proofs.YtmmfchnbfnegnaaGreatDoor.RsK
