import Derived.Test.YtmmfchnbfnegnaaGreatDoorM03
import Derived.Laws.BitsLemmas
import Derived.Laws.Bits64b
section
namespace Go.Proofs.YtmmfchnbfnegnaaGreatDoor.Pu
open Go.RowKit Go.Proofs.YtmmfchnbfnegnaaGreatDoorW.PrintWords Go.Proofs.YtmmfchnbfnegnaaGreatDoorW.PrintLast Go.Proofs.YtmmfchnbfnegnaaGreatDoorW.PrintMore
theorem wf_u64 {a:Int} (h:(Lit.int .u64 a).wf=true):0≤a∧a≤18446744073709551615:=by
 simp[Lit.wf,IntKind.min,IntKind.max,IntKind.signed,IntKind.bits] at h;omega
theorem w64 {a:Int} (h0: -9223372036854775808≤a) (h1:a≤9223372036854775807):wrap64 a=a:=by unfold wrap64;omega
theorem wu64 (a:Int):IntKind.u64.wrap a=a % 18446744073709551616:=by rw[IntKind.wrap_u64]
theorem wu64' {a:Int} (h0:0≤a) (h1:a≤18446744073709551615):IntKind.u64.wrap a=a:=by rw[wu64];omega
theorem rd_nat (l:List Int) (i:Nat):rd l (i:Int)=l.getD i 0:=by simp[rd]
theorem drop_rd {l:List Int} {i:Int} (h0:0≤i) (h:i < (l.length:Int)):l.drop i.toNat=rd l i::l.drop (i + 1).toNat:=by
 have hn:i.toNat < l.length:=by omega
 rw[List.drop_eq_getElem_cons hn,show (i + 1).toNat=i.toNat + 1 by omega]
 simp[rd,List.getD_eq_getElem?_getD,List.getElem?_eq_getElem hn]
theorem rd_mem {l:List Int} {i:Int} (h0:0≤i) (h:i < (l.length:Int)):rd l i∈l:=by
 have hn:i.toNat < l.length:=by omega
 simp[rd,List.getD_eq_getElem?_getD,List.getElem?_eq_getElem hn]
theorem ev_of {α:Type} {g:Nat→Option α} {r:α} {K:Nat} (h:∀k,K≤k→g k=some r):Ev g r:=⟨K,h⟩
theorem ev_const {α:Type} {g:Option α} {r:α} (h:g=some r):Ev (fun _=>g) r:=⟨0,fun _ _=>h⟩
theorem ev_succ {α:Type} {g f:Nat→Option α} {r:α} (h:∀k,g (k + 1)=f k) (k:Ev f r):Ev g r:=Ev.step h k
end Go.Proofs.YtmmfchnbfnegnaaGreatDoor.Pu
end
section
namespace Go.Proofs.YtmmfchnbfnegnaaGreatDoor.PuBitW
open Go.RowKit Go.Proofs.YtmmfchnbfnegnaaGreatDoorW.PrintWords Go.Proofs.YtmmfchnbfnegnaaGreatDoorW.PrintLast Go.Proofs.YtmmfchnbfnegnaaGreatDoorW.PrintMore Go.Proofs.YtmmfchnbfnegnaaGreatDoor.Pu
theorem two64:(2:Nat) ^ 64=18446744073709551616:=by decide
theorem bitsof (a:Nat) (ha:a < 18446744073709551616):(BitVec.ofInt 64 (a:Int)).toNat=a:=by
 rw[BitVec.ofInt_natCast,BitVec.toNat_ofNat];exact Nat.mod_eq_of_lt (by omega)
theorem wrapn (a:Nat) (ha:a < 18446744073709551616):IntKind.u64.wrap (a:Int)=(a:Int):=wu64' (by omega) (by omega)
theorem xor_nat (a b:Nat) (ha:a < 18446744073709551616) (hb:b < 18446744073709551616):bits .xor .u64 (a:Int) (b:Int)=((a ^^^ b:Nat):Int):=by
 have hx:a ^^^ b < 2 ^ 64:=Nat.xor_lt_two_pow (by omega) (by omega)
 show IntKind.u64.wrap ((BitVec.ofInt 64 (a:Int) ^^^ BitVec.ofInt 64 (b:Int)).toNat:Int)=_
 rw[BitVec.toNat_xor,bitsof a ha,bitsof b hb]
 exact wrapn _ (by omega)
def without (a b:Nat):Nat:=a ^^^ (a &&& b)
theorem without_bit (a b j:Nat):(without a b).testBit j=(a.testBit j && !b.testBit j):=by
 unfold without;rw[Nat.testBit_xor,Nat.testBit_and];cases a.testBit j <;> cases b.testBit j <;> rfl
theorem without_lt (a b:Nat) (ha:a < 18446744073709551616):without a b < 18446744073709551616:=by
 unfold without
 have h1:a &&& b < 2 ^ 64:=Nat.lt_of_le_of_lt Nat.and_le_left (by omega)
 have:=Nat.xor_lt_two_pow (x:=a) (y:=a &&& b) (n:=64) (by omega) h1
 omega
theorem andNot_nat (a b:Nat) (ha:a < 18446744073709551616) (hb:b < 18446744073709551616):bits .andNot .u64 (a:Int) (b:Int)=((without a b:Nat):Int):=by
 have e:(BitVec.ofInt 64 (a:Int) &&& ~~~(BitVec.ofInt 64 (b:Int))).toNat=without a b:=by
  apply Nat.eq_of_testBit_eq
  intro j
  rw[without_bit,BitVec.testBit_toNat,BitVec.getLsbD_and,BitVec.getLsbD_not,←BitVec.testBit_toNat,←BitVec.testBit_toNat,bitsof a ha,bitsof b hb]
  by_cases hj:j < 64
  ·simp[hj]
  ·have:a.testBit j=false:=Nat.testBit_lt_two_pow (Nat.lt_of_lt_of_le ha (by rw[←two64];exact Nat.pow_le_pow_right (by decide) (by omega)))
   simp[hj,this]
 show IntKind.u64.wrap ((BitVec.ofInt 64 (a:Int) &&& ~~~(BitVec.ofInt 64 (b:Int))).toNat:Int)=_
 rw[e];exact wrapn _ (without_lt a b ha)
theorem shr_nat (a j:Nat) (hj:j≤64):shr .u64 (a:Int) (j:Int)=((a >>> j:Nat):Int):=by
 unfold shr
 rw[Int.toNat_natCast,Nat.min_eq_left (by simpa[IntKind.bits] using hj),Nat.shiftRight_eq_div_pow];simp
theorem shl_one (j:Nat) (hj:j < 64):shl .u64 1 (j:Int)=((2 ^ j:Nat):Int):=by
 unfold shl
 rw[Int.one_mul,Int.toNat_natCast,Nat.min_eq_left (by simp[IntKind.bits];omega)]
 have:2 ^ j < 2 ^ 64:=Nat.pow_lt_pow_right (by decide) hj
 have:=wrapn (2 ^ j) (by omega)
 simpa using this
theorem pow_lt (j:Nat) (hj:j < 64):2 ^ j < 18446744073709551616:=by have:2 ^ j < 2 ^ 64:=Nat.pow_lt_pow_right (by decide) hj;omega
theorem high (a j:Nat) (ha:a < 18446744073709551616) (hj:64≤j):a.testBit j=false:=
 Nat.testBit_lt_two_pow (Nat.lt_of_lt_of_le ha (by rw[←two64];exact Nat.pow_le_pow_right (by decide) hj))
theorem shr_zero (a r:Nat) (hr:r≤64):shr .u64 (a:Int) (r:Int)=0↔∀j,r≤j→a.testBit j=false:=by
 rw[shr_nat a r hr,Int.natCast_eq_zero,Nat.shiftRight_eq_div_pow]
 constructor
 ·intro h j hj
  have:a < 2 ^ r:=by
   rcases Nat.div_eq_zero_iff.1 h with h|h
   ·exact absurd h (by have:=Nat.two_pow_pos r;omega)
   ·exact h
  exact Nat.testBit_lt_two_pow (Nat.lt_of_lt_of_le this (Nat.pow_le_pow_right (by decide) hj))
 ·intro h
  exact Nat.div_eq_of_lt (Nat.lt_pow_two_of_testBit _ h)
theorem odd_bit (a r:Nat):(a >>> r) % 2=if a.testBit r=true then 1 else 0:=by
 rw[Nat.testBit,Nat.one_and_eq_mod_two]
 rcases Nat.mod_two_eq_zero_or_one (a >>> r) with h|h <;> simp[h]
theorem is_and (a r:Nat) (ha:a < 18446744073709551616) (hr:r < 64):(bits .and .u64 (shr .u64 (a:Int) (r:Int)) 1 == 1)=a.testBit r:=by
 have hlt:a >>> r < 18446744073709551616:=Nat.lt_of_le_of_lt (Nat.shiftRight_le a r) ha
 rw[shr_nat a r (by omega),show (1:Int)=((1:Nat):Int) from rfl,bits_and_u64_nat _ _ hlt (by decide),Nat.and_one_is_mod,odd_bit]
 cases a.testBit r <;> rfl
def bitAt (l:List Int) (i:Nat):Bool:=(l.getD (i / 64) 0).toNat.testBit (i % 64)
def Words (l:List Int):Prop:=∀x∈l,0≤x∧x≤18446744073709551615
theorem Words.get {l:List Int} (h:Words l) (i:Nat):0≤l.getD i 0∧l.getD i 0≤18446744073709551615:=by
 rw[List.getD_eq_getElem?_getD]
 cases e:l[i]? with
 |none=>simp
 |some x=>exact h x (List.mem_of_getElem? e)
theorem Words.rd_nat {l:List Int} (h:Words l) (i:Nat):rd l (i:Int)=(((l.getD i 0).toNat:Nat):Int)∧(l.getD i 0).toNat < 18446744073709551616:=by
 have:=h.get i
 rw[Pu.rd_nat];omega
theorem Words.set {l:List Int} (h:Words l) (i:Nat) {x:Int} (h0:0≤x) (h1:x≤18446744073709551615):Words (l.set i x):=by
 intro y hy
 rcases List.mem_or_eq_of_mem_set hy with hy|rfl
 ·exact h y hy
 ·exact⟨h0,h1⟩
theorem put_nat (v:Bool) (a r:Nat) (ha:a < 18446744073709551616) (hr:r < 64):
  (if v=true then bits .or .u64 (a:Int) (shl .u64 1 (r:Int)) else bits .andNot .u64 (a:Int) (shl .u64 1 (r:Int)))=(((if v=true then a |||2 ^ r else without a (2 ^ r)):Nat):Int):=by
 rw[shl_one r hr]
 cases v
 ·simp only[Bool.false_eq_true,if_false];exact andNot_nat a _ ha (pow_lt r hr)
 ·simp only[if_true];exact bits_or_u64_nat a _ ha (pow_lt r hr)
theorem put_lt (v:Bool) (a r:Nat) (ha:a < 18446744073709551616) (hr:r < 64):(if v=true then a |||2 ^ r else without a (2 ^ r)) < 18446744073709551616:=by
 cases v
 ·exact without_lt a _ ha
 ·have:=Nat.or_lt_two_pow (x:=a) (y:=2 ^ r) (n:=64) (by omega) (by have:=pow_lt r hr;omega)
  simp only[if_true];omega
theorem put_bit (v:Bool) (a r j:Nat):(if v=true then a |||2 ^ r else without a (2 ^ r)).testBit j=if r=j then v else a.testBit j:=by
 cases v
 ·simp only[Bool.false_eq_true,if_false];rw[without_bit,Nat.testBit_two_pow];by_cases h:r=j <;> simp[h]
 ·simp only[if_true];rw[Nat.testBit_or,Nat.testBit_two_pow];by_cases h:r=j <;> simp[h]
end Go.Proofs.YtmmfchnbfnegnaaGreatDoor.PuBitW
end
