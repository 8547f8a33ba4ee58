import Derived.Test.YtmmfchnbfnegnaaGreatDoorM14
import Derived.Test.YtmmfchnbfnegnaaGreatDoorM08
import Derived.Test.YtmmfchnbfnegnaaGreatDoorM12
import Derived.Test.YtmmfchnbfnegnaaGreatDoorM03
namespace Go.Proofs.YtmmfchnbfnegnaaGreatDoor.K
open Go.RowKit Go.Proofs.YtmmfchnbfnegnaaGreatDoorW.PrintWords Go.Proofs.YtmmfchnbfnegnaaGreatDoorW.PrintLast Go.Proofs.YtmmfchnbfnegnaaGreatDoorW.PrintMore Go.Proofs.YtmmfchnbfnegnaaGreatDoor.GK Go.Proofs.YtmmfchnbfnegnaaGreatDoor.Pu
theorem mid_eq {lo hi:Int} (h0:0≤lo) (h1:lo≤hi) (h2:hi≤1000000):wrap64 ((IntKind.u64.wrap (wrap64 (lo + hi))) / 2)=(lo + hi) / 2:=by
 rw[w64 (a:=lo + hi) (by omega) (by omega),wu64' (by omega) (by omega),w64 (by omega) (by omega)]
theorem cmpU (a b:Int):cmp_Compare_uint64.f a b=some (if a < b then -1 else if a > b then 1 else 0):=by
 unfold cmp_Compare_uint64.f cmp_isNaN_uint64.f
 simp only[bne_self_eq_false,Option.bind_some,Bool.false_eq_true,if_false]
 split
 ·rfl
 ·split <;> rfl
theorem cmpI (a b:Int):cmp_Compare_int.f a b=some (if a < b then -1 else if a > b then 1 else 0):=by
 unfold cmp_Compare_int.f cmp_isNaN_int.f
 simp only[bne_self_eq_false,Option.bind_some,Bool.false_eq_true,if_false]
 split
 ·rfl
 ·split <;> rfl
theorem search92 (os:List S92) (a:Int) (r:Nat) (hn:os.length < 500000) (hr:r≤os.length) (hlo:∀i:Int,0≤i→i < r→(rd_T92 os i).f2 < a) (hhi:∀i:Int,r≤i→i < os.length→a≤(rd_T92 os i).f2):
  Ev (fun k=>heap_object_uint64.f k os a) ((r:Int),decide (r < os.length∧(rd_T92 os (r:Int)).f2=a)):=by
 have step:∀(d:Nat) (lo hi:Int),0≤lo→lo≤r→(r:Int)≤hi→hi≤os.length→hi - lo≤d→Ev (fun k=>heap_object_uint64.l0 k os a (os.length:Int) lo hi) ((r:Int),decide (r < os.length∧(rd_T92 os (r:Int)).f2=a)):=by
  intro d
  induction d with
  |zero=>
   intro lo hi h0 h1 h2 h3 hd
   have e:lo=r:=by omega
   subst e
   refine ev_of (K:=1) fun k hk=>?_
   obtain⟨k,rfl⟩:∃m,k=m + 1:=⟨k - 1,by omega⟩
   rw[heap_object_uint64.l0,if_neg (by omega)]
   by_cases c:(r:Int) < (os.length:Int)
   ·have c2:r < os.length:=by omega
    rw[if_pos c,if_pos h0,if_pos c]
    unfold heap_store_find_1.f
    rw[cmpU]
    simp only[Option.bind_some,c2,true_and]
    by_cases e:(rd_T92 os (r:Int)).f2=a
    ·simp[e]
    ·have:=hhi r (by omega) c
     rw[if_neg (by omega),if_pos (by omega)]
     simp[e]
   ·have c2:¬r < os.length:=by omega
    rw[if_neg c]
    simp[c2]
  |succ d ih=>
   intro lo hi h0 h1 h2 h3 hd
   by_cases hq:lo < hi
   ·have hm:=mid_eq h0 (show lo≤hi by omega) (by omega)
    obtain⟨m,hme⟩:∃m,m=(lo + hi) / 2:=⟨_,rfl⟩
    rw[←hme] at hm
    have hm1:lo≤m:=by omega
    have hm2:m < hi:=by omega
    have hw:wrap64 (m + 1)=m + 1:=w64 (by omega) (by omega)
    refine ev_succ (f:=fun k=>if (rd_T92 os m).f2 < a then heap_object_uint64.l0 k os a (os.length:Int) (m + 1) hi else heap_object_uint64.l0 k os a (os.length:Int) lo m) (fun k=>?_) ?_
    ·rw[heap_object_uint64.l0,if_pos hq,hm,if_pos (by omega),if_pos (by omega),hw]
     unfold heap_store_find_1.f
     rw[cmpU]
     simp only[Option.bind_some]
     by_cases c:(rd_T92 os m).f2 < a
     ·simp[c]
     ·rw[if_neg c,if_neg c]
      rw[if_neg (by split <;> omega)]
    ·by_cases c:(rd_T92 os m).f2 < a
     ·simp only[c,if_true]
      refine ih (m + 1) hi (by omega) ?_ h2 h3 (by omega)
      apply Classical.byContradiction;intro hc
      have:=hhi m (by omega) (by omega)
      omega
     ·simp only[c,if_false]
      refine ih lo m h0 h1 ?_ (by omega) (by omega)
      apply Classical.byContradiction;intro hc
      exact c (hlo m (by omega) (by omega))
   ·exact (by
     have e:lo=r:=by omega
     have e2:hi=r:=by omega
     subst e
     subst e2
     exact ih (r:Int) (r:Int) h0 (by omega) (by omega) h3 (by omega))
 unfold heap_object_uint64.f
 exact step os.length 0 os.length (by omega) (by omega) (by omega) (by omega) (by omega)
theorem search51 (os:List S51) (a:Int) (r:Nat) (hn:os.length < 500000) (hr:r≤os.length) (hlo:∀i:Int,0≤i→i < r→(rd_T51 os i).f0 < a) (hhi:∀i:Int,r≤i→i < os.length→a≤(rd_T51 os i).f0):
  Ev (fun k=>api_Span_int.f k os a) ((r:Int),decide (r < os.length∧(rd_T51 os (r:Int)).f0=a)):=by
 have step:∀(d:Nat) (lo hi:Int),0≤lo→lo≤r→(r:Int)≤hi→hi≤os.length→hi - lo≤d→Ev (fun k=>api_Span_int.l0 k os a (os.length:Int) lo hi) ((r:Int),decide (r < os.length∧(rd_T51 os (r:Int)).f0=a)):=by
  intro d
  induction d with
  |zero=>
   intro lo hi h0 h1 h2 h3 hd
   have e:lo=r:=by omega
   subst e
   refine ev_of (K:=1) fun k hk=>?_
   obtain⟨k,rfl⟩:∃m,k=m + 1:=⟨k - 1,by omega⟩
   rw[api_Span_int.l0,if_neg (by omega)]
   by_cases c:(r:Int) < (os.length:Int)
   ·have c2:r < os.length:=by omega
    rw[if_pos c,if_pos h0,if_pos c]
    unfold span_Add_1.f
    rw[cmpI]
    simp only[Option.bind_some,c2,true_and]
    by_cases e:(rd_T51 os (r:Int)).f0=a
    ·simp[e]
    ·have:=hhi r (by omega) c
     rw[if_neg (by omega),if_pos (by omega)]
     simp[e]
   ·have c2:¬r < os.length:=by omega
    rw[if_neg c]
    simp[c2]
  |succ d ih=>
   intro lo hi h0 h1 h2 h3 hd
   by_cases hq:lo < hi
   ·have hm:=mid_eq h0 (show lo≤hi by omega) (by omega)
    obtain⟨m,hme⟩:∃m,m=(lo + hi) / 2:=⟨_,rfl⟩
    rw[←hme] at hm
    have hm1:lo≤m:=by omega
    have hm2:m < hi:=by omega
    have hw:wrap64 (m + 1)=m + 1:=w64 (by omega) (by omega)
    refine ev_succ (f:=fun k=>if (rd_T51 os m).f0 < a then api_Span_int.l0 k os a (os.length:Int) (m + 1) hi else api_Span_int.l0 k os a (os.length:Int) lo m) (fun k=>?_) ?_
    ·rw[api_Span_int.l0,if_pos hq,hm,if_pos (by omega),if_pos (by omega),hw]
     unfold span_Add_1.f
     rw[cmpI]
     simp only[Option.bind_some]
     by_cases c:(rd_T51 os m).f0 < a
     ·simp[c]
     ·rw[if_neg c,if_neg c]
      rw[if_neg (by split <;> omega)]
    ·by_cases c:(rd_T51 os m).f0 < a
     ·simp only[c,if_true]
      refine ih (m + 1) hi (by omega) ?_ h2 h3 (by omega)
      apply Classical.byContradiction;intro hc
      have:=hhi m (by omega) (by omega)
      omega
     ·simp only[c,if_false]
      refine ih lo m h0 h1 ?_ (by omega) (by omega)
      apply Classical.byContradiction;intro hc
      exact c (hlo m (by omega) (by omega))
   ·exact (by
     have e:lo=r:=by omega
     have e2:hi=r:=by omega
     subst e
     subst e2
     exact ih (r:Int) (r:Int) h0 (by omega) (by omega) h3 (by omega))
 unfold api_Span_int.f
 exact step os.length 0 os.length (by omega) (by omega) (by omega) (by omega) (by omega)
end Go.Proofs.YtmmfchnbfnegnaaGreatDoor.K
