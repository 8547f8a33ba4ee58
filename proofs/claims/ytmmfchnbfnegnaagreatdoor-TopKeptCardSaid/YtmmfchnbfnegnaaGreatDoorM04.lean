import Derived.Test.YtmmfchnbfnegnaaGreatDoorProg
import Derived.Below
import Derived.Deep.Draws
import Derived.Deep.AppendLies
import Derived.Maps.AppendAt
import Derived.OwnWalk
import Derived.Laws.BytesArg
import Derived.Laws.MakeOwn
import Derived.Laws.OwnMore
import Derived.Deep.OwnRows
import Derived.Tactics
import Derived.Lib.ConvBytes
import Derived.Laws.Slices
import Derived.WalkKit
import Derived.KernelRfl
import Derived.RowKit3
import Derived.Deep.LoopGhost
import Derived.Deep.QuietTactic
import Derived.BigQuiet
import Derived.WideLaws
import Derived.Deep.DeepCutAuto
import Derived.Deep.CutBlock
import Derived.Deep.RegionHeld3
import Derived.Laws.Rows
import Derived.Lib.AppendStr
import Derived.ArgAppend
import Derived.Laws.IdiomCopy
import Derived.OrdersHeld
import Derived.Laws.BitsLemmas
import Derived.RowKit
import Derived.WalkSpells
import Derived.Lib.SliceRun
import Derived.StillTailTactics
import Derived.Test.YtmmfchnbfnegnaaGreatDoorM00
import Derived.Shelf.Spec.TrailingZeros
import Derived.Test.YtmmfchnbfnegnaaGreatDoorM01
import Derived.Test.YtmmfchnbfnegnaaGreatDoorM02
import Derived.Test.YtmmfchnbfnegnaaGreatDoorM03
import Derived.Laws.StructEq
section
namespace Go.Proofs.YtmmfchnbfnegnaaGreatDoor.GK
open Go.RowKit Go.Proofs.YtmmfchnbfnegnaaGreatDoorW.PrintWords Go.Proofs.YtmmfchnbfnegnaaGreatDoorW.PrintLast Go.Proofs.YtmmfchnbfnegnaaGreatDoorW.PrintMore
attribute [local go_sem] max2_int min2_int max_two min_two max_three min_three max_four min_four
set_option linter.unusedVariables false
set_option linter.unusedSimpArgs false
def errW:Option Int→Value
 |none=>.nilIface
 |some c=>.iface 0 (.int .i64 c)
theorem errW_none:errW none=.nilIface:=rfl
theorem errW_some (c:Int):errW (some c)=.iface 0 (.int .i64 c):=rfl
theorem info39:(Tryz.prog.info? 39).map (fun i=>(i.zero,i.size,i.bytes))=some (some (.int .u64 0),1,8):=by kernel_rfl
theorem info48:(Tryz.prog.info? 48).map (fun i=>(i.zero,i.size,i.bytes))=some (some (.agg #[(.int .u64 0),(.int .u8 0),(.int .u64 0)]),3,24):=by kernel_rfl
structure S29 where
 f0:Int
 f1:(List Int)
def z29:S29:=⟨(0:Int),([]:List Int)⟩
def k29:Kd S29:=Kd.iso (Kd.pair (Kd.int .i64) (Kd.slice 39 (Kd.int .u64))) (fun x:S29=>(x.f0,x.f1))
theorem k29_open {w:World} {x:S29} {cs:List Value} (h:k29.K w x cs):∃A1 c1,cs=[.int .i64 x.f0,.slice A1 x.f1.length c1]∧x.f1.length≤c1∧(Kd.int .u64).C w A1 x.f1.length x.f1:=by
 obtain⟨_,_,rfl,rfl,⟨A1,c1,rfl,l1,g1⟩⟩:=h
 exact⟨A1,c1,rfl,l1,g1⟩
theorem k29_mk (w:World) (x:S29) {A1:Option Addr} {c1:Nat} (l1:x.f1.length≤c1) (g1:(Kd.int .u64).C w A1 x.f1.length x.f1):k29.K w x [.int .i64 x.f0,.slice A1 x.f1.length c1]:=⟨[.int .i64 x.f0],[.slice A1 x.f1.length c1],rfl,rfl,⟨A1,c1,rfl,l1,g1⟩⟩
theorem k29_mkM (w:World) (base:Nat) (ok:Nat→Prop) (x:S29) {v1:Value} (g1:(Kd.int .u64).R 39 w base ok v1 x.f1):k29.M w base ok x [.int .i64 x.f0,v1]:=⟨[.int .i64 x.f0],[v1],rfl,rfl,⟨v1,rfl,g1⟩⟩
structure S51 where
 f0:Int
 f1:Int
 f2:Int
 f3:S29
 f4:S29
 f5:Bool
def z51:S51:=⟨(0:Int),(0:Int),(0:Int),z29,z29,false⟩
def k51:Kd S51:=Kd.iso (Kd.pair (Kd.int .i64) (Kd.pair (Kd.int .i64) (Kd.pair (Kd.int .i64) (Kd.pair k29 (Kd.pair k29 Kd.bool))))) (fun x:S51=>(x.f0,x.f1,x.f2,x.f3,x.f4,x.f5))
theorem k51_open {w:World} {x:S51} {cs:List Value} (h:k51.K w x cs):∃A4 c4 A6 c6,cs=[.int .i64 x.f0,.int .i64 x.f1,.int .i64 x.f2,.int .i64 x.f3.f0,.slice A4 x.f3.f1.length c4,.int .i64 x.f4.f0,.slice A6 x.f4.f1.length c6,.bool x.f5]∧x.f3.f1.length≤c4∧(Kd.int .u64).C w A4 x.f3.f1.length x.f3.f1∧x.f4.f1.length≤c6∧(Kd.int .u64).C w A6 x.f4.f1.length x.f4.f1:=by
 obtain⟨_,_,rfl,rfl,⟨_,_,rfl,rfl,⟨_,_,rfl,rfl,⟨_,_,rfl,s3,⟨_,_,rfl,s5,rfl⟩⟩⟩⟩⟩:=h
 obtain⟨A4,c4,rfl,l4,g4⟩:=k29_open s3
 obtain⟨A6,c6,rfl,l6,g6⟩:=k29_open s5
 exact⟨A4,c4,A6,c6,rfl,l4,g4,l6,g6⟩
theorem k51_mk (w:World) (x:S51) {A4:Option Addr} {c4:Nat} (l4:x.f3.f1.length≤c4) (g4:(Kd.int .u64).C w A4 x.f3.f1.length x.f3.f1) {A6:Option Addr} {c6:Nat} (l6:x.f4.f1.length≤c6) (g6:(Kd.int .u64).C w A6 x.f4.f1.length x.f4.f1):k51.K w x [.int .i64 x.f0,.int .i64 x.f1,.int .i64 x.f2,.int .i64 x.f3.f0,.slice A4 x.f3.f1.length c4,.int .i64 x.f4.f0,.slice A6 x.f4.f1.length c6,.bool x.f5]:=⟨[.int .i64 x.f0],[.int .i64 x.f1,.int .i64 x.f2,.int .i64 x.f3.f0,.slice A4 x.f3.f1.length c4,.int .i64 x.f4.f0,.slice A6 x.f4.f1.length c6,.bool x.f5],rfl,rfl,⟨[.int .i64 x.f1],[.int .i64 x.f2,.int .i64 x.f3.f0,.slice A4 x.f3.f1.length c4,.int .i64 x.f4.f0,.slice A6 x.f4.f1.length c6,.bool x.f5],rfl,rfl,⟨[.int .i64 x.f2],[.int .i64 x.f3.f0,.slice A4 x.f3.f1.length c4,.int .i64 x.f4.f0,.slice A6 x.f4.f1.length c6,.bool x.f5],rfl,rfl,⟨[.int .i64 x.f3.f0,.slice A4 x.f3.f1.length c4],[.int .i64 x.f4.f0,.slice A6 x.f4.f1.length c6,.bool x.f5],rfl,(k29_mk w x.f3 l4 g4),⟨[.int .i64 x.f4.f0,.slice A6 x.f4.f1.length c6],[.bool x.f5],rfl,(k29_mk w x.f4 l6 g6),rfl⟩⟩⟩⟩⟩
theorem k51_mkM (w:World) (base:Nat) (ok:Nat→Prop) (x:S51) {v4:Value} (g4:(Kd.int .u64).R 39 w base ok v4 x.f3.f1) {v6:Value} (g6:(Kd.int .u64).R 39 w base ok v6 x.f4.f1):k51.M w base ok x [.int .i64 x.f0,.int .i64 x.f1,.int .i64 x.f2,.int .i64 x.f3.f0,v4,.int .i64 x.f4.f0,v6,.bool x.f5]:=⟨[.int .i64 x.f0],[.int .i64 x.f1,.int .i64 x.f2,.int .i64 x.f3.f0,v4,.int .i64 x.f4.f0,v6,.bool x.f5],rfl,rfl,⟨[.int .i64 x.f1],[.int .i64 x.f2,.int .i64 x.f3.f0,v4,.int .i64 x.f4.f0,v6,.bool x.f5],rfl,rfl,⟨[.int .i64 x.f2],[.int .i64 x.f3.f0,v4,.int .i64 x.f4.f0,v6,.bool x.f5],rfl,rfl,⟨[.int .i64 x.f3.f0,v4],[.int .i64 x.f4.f0,v6,.bool x.f5],rfl,(k29_mkM w base ok x.f3 g4),⟨[.int .i64 x.f4.f0,v6],[.bool x.f5],rfl,(k29_mkM w base ok x.f4 g6),rfl⟩⟩⟩⟩⟩
def rd_T51 (xs:List S51) (i:Int):S51:=xs.getD i.toNat z51
theorem at_T51 {w:World} {A:Option Addr} {n:Nat} {xs:List S51} (h:Kd.C k51 w A n xs) (i:Int) (h0:0≤i) (h1:i < n):∃ad A4 c4 A6 c6,A=some ad∧w.cell? (ad.add (i.toNat * 8))=some (.int .i64 (rd_T51 xs i).f0)∧w.cell? ⟨(ad.add (i.toNat * 8)).block,(ad.add (i.toNat * 8)).off + 1,none⟩=some (.int .i64 (rd_T51 xs i).f1)∧w.cell? ⟨(ad.add (i.toNat * 8)).block,(ad.add (i.toNat * 8)).off + 2,none⟩=some (.int .i64 (rd_T51 xs i).f2)∧w.cell? ⟨(ad.add (i.toNat * 8)).block,(ad.add (i.toNat * 8)).off + 3,none⟩=some (.int .i64 (rd_T51 xs i).f3.f0)∧w.cell? ⟨(ad.add (i.toNat * 8)).block,(ad.add (i.toNat * 8)).off + 4,none⟩=some (.slice A4 (rd_T51 xs i).f3.f1.length c4)∧w.cell? ⟨(ad.add (i.toNat * 8)).block,(ad.add (i.toNat * 8)).off + 5,none⟩=some (.int .i64 (rd_T51 xs i).f4.f0)∧w.cell? ⟨(ad.add (i.toNat * 8)).block,(ad.add (i.toNat * 8)).off + 6,none⟩=some (.slice A6 (rd_T51 xs i).f4.f1.length c6)∧w.cell? ⟨(ad.add (i.toNat * 8)).block,(ad.add (i.toNat * 8)).off + 7,none⟩=some (.bool (rd_T51 xs i).f5)∧(rd_T51 xs i).f3.f1.length≤c4∧(Kd.int .u64).C w A4 (rd_T51 xs i).f3.f1.length (rd_T51 xs i).f3.f1∧(rd_T51 xs i).f4.f1.length≤c6∧(Kd.int .u64).C w A6 (rd_T51 xs i).f4.f1.length (rd_T51 xs i).f4.f1:=by
 obtain⟨ad,c,e,_,hK,hc0⟩:=Kd.C_get h z51 i h0 h1
 have hc:∀j u,c[j]? =some u→w.cell? (ad.add (i.toNat * 8 + j))=some u:=hc0
 obtain⟨A4,c4,A6,c6,rfl,l4,g4,l6,g6⟩:=k51_open hK
 exact⟨ad,A4,c4,A6,c6,e,hc 0 _ rfl,by rw[←add_field _ _ 1 (by omega)];exact hc 1 _ rfl,by rw[←add_field _ _ 2 (by omega)];exact hc 2 _ rfl,by rw[←add_field _ _ 3 (by omega)];exact hc 3 _ rfl,by rw[←add_field _ _ 4 (by omega)];exact hc 4 _ rfl,by rw[←add_field _ _ 5 (by omega)];exact hc 5 _ rfl,by rw[←add_field _ _ 6 (by omega)];exact hc 6 _ rfl,by rw[←add_field _ _ 7 (by omega)];exact hc 7 _ rfl,l4,g4,l6,g6⟩
structure S41 where
 f0:Int
 f1:Int
def z41:S41:=⟨(0:Int),(0:Int)⟩
def k41:Kd S41:=Kd.iso (Kd.pair (Kd.int .i64) (Kd.int .u64)) (fun x:S41=>(x.f0,x.f1))
theorem k41_open {w:World} {x:S41} {cs:List Value} (h:k41.K w x cs):cs=[.int .i64 x.f0,.int .u64 x.f1]:=by
 obtain⟨_,_,rfl,rfl,rfl⟩:=h
 exact rfl
theorem k41_mk (w:World) (x:S41):k41.K w x [.int .i64 x.f0,.int .u64 x.f1]:=⟨[.int .i64 x.f0],[.int .u64 x.f1],rfl,rfl,rfl⟩
theorem k41_mkM (w:World) (base:Nat) (ok:Nat→Prop) (x:S41):k41.M w base ok x [.int .i64 x.f0,.int .u64 x.f1]:=⟨[.int .i64 x.f0],[.int .u64 x.f1],rfl,rfl,rfl⟩
def rd_T41 (xs:List S41) (i:Int):S41:=xs.getD i.toNat z41
theorem at_T41 {w:World} {A:Option Addr} {n:Nat} {xs:List S41} (h:Kd.C k41 w A n xs) (i:Int) (h0:0≤i) (h1:i < n):∃ad,A=some ad∧w.cell? (ad.add (i.toNat * 2))=some (.int .i64 (rd_T41 xs i).f0)∧w.cell? ⟨(ad.add (i.toNat * 2)).block,(ad.add (i.toNat * 2)).off + 1,none⟩=some (.int .u64 (rd_T41 xs i).f1):=by
 obtain⟨ad,c,e,_,hK,hc0⟩:=Kd.C_get h z41 i h0 h1
 have hc:∀j u,c[j]? =some u→w.cell? (ad.add (i.toNat * 2 + j))=some u:=hc0
 obtain rfl:=k41_open hK
 exact⟨ad,e,hc 0 _ rfl,by rw[←add_field _ _ 1 (by omega)];exact hc 1 _ rfl⟩
structure S92 where
 f0:Int
 f1:Int
 f2:Int
 f3:S41
 f4:Bool
def z92:S92:=⟨(0:Int),(0:Int),(0:Int),z41,false⟩
def k92:Kd S92:=Kd.iso (Kd.pair (Kd.int .i64) (Kd.pair (Kd.int .i64) (Kd.pair (Kd.int .u64) (Kd.pair k41 Kd.bool)))) (fun x:S92=>(x.f0,x.f1,x.f2,x.f3,x.f4))
theorem k92_open {w:World} {x:S92} {cs:List Value} (h:k92.K w x cs):cs=[.int .i64 x.f0,.int .i64 x.f1,.int .u64 x.f2,.int .i64 x.f3.f0,.int .u64 x.f3.f1,.bool x.f4]:=by
 obtain⟨_,_,rfl,rfl,⟨_,_,rfl,rfl,⟨_,_,rfl,rfl,⟨_,_,rfl,s3,rfl⟩⟩⟩⟩:=h
 obtain rfl:=k41_open s3
 exact rfl
theorem k92_mkM (w:World) (base:Nat) (ok:Nat→Prop) (x:S92):k92.M w base ok x [.int .i64 x.f0,.int .i64 x.f1,.int .u64 x.f2,.int .i64 x.f3.f0,.int .u64 x.f3.f1,.bool x.f4]:=⟨[.int .i64 x.f0],[.int .i64 x.f1,.int .u64 x.f2,.int .i64 x.f3.f0,.int .u64 x.f3.f1,.bool x.f4],rfl,rfl,⟨[.int .i64 x.f1],[.int .u64 x.f2,.int .i64 x.f3.f0,.int .u64 x.f3.f1,.bool x.f4],rfl,rfl,⟨[.int .u64 x.f2],[.int .i64 x.f3.f0,.int .u64 x.f3.f1,.bool x.f4],rfl,rfl,⟨[.int .i64 x.f3.f0,.int .u64 x.f3.f1],[.bool x.f4],rfl,(k41_mkM w base ok x.f3),rfl⟩⟩⟩⟩
def rd_T92 (xs:List S92) (i:Int):S92:=xs.getD i.toNat z92
theorem at_T92 {w:World} {A:Option Addr} {n:Nat} {xs:List S92} (h:Kd.C k92 w A n xs) (i:Int) (h0:0≤i) (h1:i < n):∃ad,A=some ad∧w.cell? (ad.add (i.toNat * 6))=some (.int .i64 (rd_T92 xs i).f0)∧w.cell? ⟨(ad.add (i.toNat * 6)).block,(ad.add (i.toNat * 6)).off + 1,none⟩=some (.int .i64 (rd_T92 xs i).f1)∧w.cell? ⟨(ad.add (i.toNat * 6)).block,(ad.add (i.toNat * 6)).off + 2,none⟩=some (.int .u64 (rd_T92 xs i).f2)∧w.cell? ⟨(ad.add (i.toNat * 6)).block,(ad.add (i.toNat * 6)).off + 3,none⟩=some (.int .i64 (rd_T92 xs i).f3.f0)∧w.cell? ⟨(ad.add (i.toNat * 6)).block,(ad.add (i.toNat * 6)).off + 4,none⟩=some (.int .u64 (rd_T92 xs i).f3.f1)∧w.cell? ⟨(ad.add (i.toNat * 6)).block,(ad.add (i.toNat * 6)).off + 5,none⟩=some (.bool (rd_T92 xs i).f4):=by
 obtain⟨ad,c,e,_,hK,hc0⟩:=Kd.C_get h z92 i h0 h1
 have hc:∀j u,c[j]? =some u→w.cell? (ad.add (i.toNat * 6 + j))=some u:=hc0
 obtain rfl:=k92_open hK
 exact⟨ad,e,hc 0 _ rfl,by rw[←add_field _ _ 1 (by omega)];exact hc 1 _ rfl,by rw[←add_field _ _ 2 (by omega)];exact hc 2 _ rfl,by rw[←add_field _ _ 3 (by omega)];exact hc 3 _ rfl,by rw[←add_field _ _ 4 (by omega)];exact hc 4 _ rfl,by rw[←add_field _ _ 5 (by omega)];exact hc 5 _ rfl⟩
structure S48 where
 f0:Int
 f1:Int
 f2:Int
def z48:S48:=⟨(0:Int),(0:Int),(0:Int)⟩
def k48:Kd S48:=Kd.iso (Kd.pair (Kd.int .u64) (Kd.pair (Kd.int .u8) (Kd.int .u64))) (fun x:S48=>(x.f0,x.f1,x.f2))
theorem k48_open {w:World} {x:S48} {cs:List Value} (h:k48.K w x cs):cs=[.int .u64 x.f0,.int .u8 x.f1,.int .u64 x.f2]:=by
 obtain⟨_,_,rfl,rfl,⟨_,_,rfl,rfl,rfl⟩⟩:=h
 exact rfl
theorem k48_mk (w:World) (x:S48):k48.K w x [.int .u64 x.f0,.int .u8 x.f1,.int .u64 x.f2]:=⟨[.int .u64 x.f0],[.int .u8 x.f1,.int .u64 x.f2],rfl,rfl,⟨[.int .u8 x.f1],[.int .u64 x.f2],rfl,rfl,rfl⟩⟩
def rd_T48 (xs:List S48) (i:Int):S48:=xs.getD i.toNat z48
theorem at_T48 {w:World} {A:Option Addr} {n:Nat} {xs:List S48} (h:Kd.C k48 w A n xs) (i:Int) (h0:0≤i) (h1:i < n):∃ad,A=some ad∧w.cell? (ad.add (i.toNat * 3))=some (.int .u64 (rd_T48 xs i).f0)∧w.cell? ⟨(ad.add (i.toNat * 3)).block,(ad.add (i.toNat * 3)).off + 1,none⟩=some (.int .u8 (rd_T48 xs i).f1)∧w.cell? ⟨(ad.add (i.toNat * 3)).block,(ad.add (i.toNat * 3)).off + 2,none⟩=some (.int .u64 (rd_T48 xs i).f2):=by
 obtain⟨ad,c,e,_,hK,hc0⟩:=Kd.C_get h z48 i h0 h1
 have hc:∀j u,c[j]? =some u→w.cell? (ad.add (i.toNat * 3 + j))=some u:=hc0
 obtain rfl:=k48_open hK
 exact⟨ad,e,hc 0 _ rfl,by rw[←add_field _ _ 1 (by omega)];exact hc 1 _ rfl,by rw[←add_field _ _ 2 (by omega)];exact hc 2 _ rfl⟩
end Go.Proofs.YtmmfchnbfnegnaaGreatDoor.GK
end
section
namespace Go.Proofs.YtmmfchnbfnegnaaGreatDoor.GK
open Go.RowKit Go.Proofs.YtmmfchnbfnegnaaGreatDoorW.PrintWords Go.Proofs.YtmmfchnbfnegnaaGreatDoorW.PrintLast Go.Proofs.YtmmfchnbfnegnaaGreatDoorW.PrintMore
attribute [local go_sem] max2_int min2_int max_two min_two max_three min_three max_four min_four
set_option linter.unusedVariables false
set_option linter.unusedSimpArgs false
def bits_Make.f (a0:Int):Option (Int×List Int×Int):=if a0 < 0 then (some (0,([]:List Int),1)) else (if a0 > 4096 then (some (0,([]:List Int),1)) else (if 0≤(wrap64 (Int.tdiv (wrap64 ((wrap64 (a0 + 64)) - 1)) 64)) then (if (wrap64 (Int.tdiv (wrap64 ((wrap64 (a0 + 64)) - 1)) 64):Int).toNat≤35184372088832 then (some (a0,(List.replicate (wrap64 (Int.tdiv (wrap64 ((wrap64 (a0 + 64)) - 1)) 64):Int).toNat 0),0)) else (none)) else (none)))
set_option maxHeartbeats 8000000 in
set_option maxRecDepth 100000 in
theorem bits_Make.calls (a0:Int) (r1:Int) (r2:List Int) (r3:Int) (w:World) (h:bits_Make.f a0=some (r1,r2,r3)):
  Calls Tryz.prog 16 #[.int .i64 a0] w fun e w'=>∃v1_:Value,e=.returned (.tuple #[.agg #[.int .i64 r1,v1_],.int .i64 r3])∧Kd.R (Kd.int .u64) 39 w' w.heap.size (fun _=>True) v1_ r2∧Below w.heap.size w w':=by
 have hu29:=Tryz.underlying29
 have HB:=As (Below.refl w.heap.size w)
 have H:(if a0 < 0 then (some (0,([]:List Int),1)) else (if a0 > 4096 then (some (0,([]:List Int),1)) else (if 0≤(wrap64 (Int.tdiv (wrap64 ((wrap64 (a0 + 64)) - 1)) 64)) then (if (wrap64 (Int.tdiv (wrap64 ((wrap64 (a0 + 64)) - 1)) 64):Int).toNat≤35184372088832 then (some (a0,(List.replicate (wrap64 (Int.tdiv (wrap64 ((wrap64 (a0 + 64)) - 1)) 64):Int).toNat 0),0)) else (none)) else (none))))=some (r1,r2,r3):=h
 clear h
 by_cases c2:a0 < 0
 ·rw[if_pos c2] at H
  have c2b0:decide (a0 < 0)=true:=decide_eq_true c2
  clear c2
  simp only[Option.some.injEq,Prod.mk.injEq] at H
  obtain⟨rfl,rfl,rfl⟩:=H
  go_enter Tryz.func16,Tryz.ntmps16
  go_wp2_with (first|((with_reducible refine gate_dst (N:=2) rfl ?_);refine Z.bx 2 #[.int .i64 0,.slice none 0 0] 29 fun gb101 hg w3 hbox hb=>?_;have BK101:=As hbox;have GW101:=Z.ge hg;have GE101:=Z.ge hg;replace HB:=Z.sb hb;clear hb hbox hg;have hcz4_0:=Z.c0 BK101.out;have hcz4_1:=Z.c1 BK101.out;have hfz4_0:=blk_frozen BK101.out 0;have hfz4_1:=blk_frozen BK101.out 1))
  refine bodyPost_ret (results_ct rfl _ _ gb101 29 #[.int .i64 0,.slice none 0 0] (0,0) _ rfl Z.bs Tryz.underlying29 rfl (by kernel_rfl)) rfl ?_
  exact⟨_,Z.e_,by first|exact Kd.R_nil _ _ _ _ _|exact Kd.N_nil _ _ _ _ _|exact Kd.V_nil _ _ _ _ _|exact Kd.Q_nil _ _ _ _ _|exact Kd.S_nil _ _ _ _ _,Z.bl⟩
 ·rw[if_neg c2] at H
  have c2b0:decide (a0 < 0)=false:=decide_eq_false c2
  clear c2
  by_cases c5:a0 > 4096
  ·rw[if_pos c5] at H
   have c5b0:decide (4096 < a0)=true:=decide_eq_true c5
   clear c5
   simp only[Option.some.injEq,Prod.mk.injEq] at H
   obtain⟨rfl,rfl,rfl⟩:=H
   go_enter Tryz.func16,Tryz.ntmps16
   go_wp2_with (first|((with_reducible refine gate_dst (N:=2) rfl ?_);refine Z.bx 2 #[.int .i64 0,.slice none 0 0] 29 fun gb101 hg w6 hbox hb=>?_;have BK101:=As hbox;have GW101:=Z.ge hg;have GE101:=Z.ge hg;replace HB:=Z.sb hb;clear hb hbox hg;have hcz7_0:=Z.c0 BK101.out;have hcz7_1:=Z.c1 BK101.out;have hfz7_0:=blk_frozen BK101.out 0;have hfz7_1:=blk_frozen BK101.out 1))
   refine bodyPost_ret (results_ct rfl _ _ gb101 29 #[.int .i64 0,.slice none 0 0] (0,0) _ rfl Z.bs Tryz.underlying29 rfl (by kernel_rfl)) rfl ?_
   exact⟨_,Z.e_,by first|exact Kd.R_nil _ _ _ _ _|exact Kd.N_nil _ _ _ _ _|exact Kd.V_nil _ _ _ _ _|exact Kd.Q_nil _ _ _ _ _|exact Kd.S_nil _ _ _ _ _,Z.bl⟩
  ·rw[if_neg c5] at H
   have c5b0:decide (4096 < a0)=false:=decide_eq_false c5
   clear c5
   obtain⟨ji8,hji8⟩:∃j_:Int,(wrap64 (Int.tdiv (wrap64 ((wrap64 (a0 + 64)) - 1)) 64))=j_:=⟨_,rfl⟩
   replace H:(if 0≤(ji8) then (if (ji8:Int).toNat≤35184372088832 then (some (a0,(List.replicate (ji8:Int).toNat 0),0)) else (none)) else (none))=some (r1,r2,r3):=by first|(rw[hji8] at H;exact H)|(simp only[hji8] at H ⊢;exact H)
   have hji8w:(IntKind.i64.wrap (Int.tdiv (wrap64 ((wrap64 (a0 + 64)) - 1)) 64))=ji8:=(i64_w _).trans hji8
   by_cases c9:0≤(ji8)
   ·rw[if_pos c9] at H
    have c9b0:=eq_true c9
    have c9b1:decide (0≤(ji8))=true:=decide_eq_true c9
    clear c9
    by_cases c10:(ji8:Int).toNat≤35184372088832
    ·rw[if_pos c10] at H
     have c10b0:=eq_true c10
     have c10b1:decide ((ji8:Int).toNat≤35184372088832)=true:=decide_eq_true c10
     clear c10
     obtain⟨y102,hy102⟩:∃y_:List Int,y_=(List.replicate (ji8:Int).toNat 0):=⟨_,rfl⟩
     replace H:(some (a0,y102,0))=some (r1,r2,r3):=by first|(rw[hy102];with_reducible exact H)|(have H2_:=(Option.bind_some _ _).symm.trans H;rw[hy102];with_reducible exact H2_)|(have H2_:=(Option.bind_some _ _).symm.trans H;with_reducible exact H2_)|with_reducible exact H|(rw[hy102];exact H)|exact H
     have Ny102:=As hy102
     clear hy102
     simp only[Option.some.injEq,Prod.mk.injEq] at H
     obtain⟨rfl,rfl,rfl⟩:=H
     go_enter Tryz.func16,Tryz.ntmps16
     go_wp2_with (first|((with_reducible refine gate_dst (N:=2) rfl ?_);refine Z.bx 2 #[.int .i64 0,.slice none 0 0] 29 fun gb101 hg w11 hbox hb=>?_;have BK101:=As hbox;have GW101:=Z.ge hg;have GE101:=Z.ge hg;replace HB:=Z.sb hb;clear hb hbox hg)|((with_reducible refine gate_dst (N:=16) rfl ?_);refine Kd.R_make (Kd.int .u64) _ 39 rfl (N:=16) rfl 25 _ _ rfl ji8 rfl rfl Tryz.underlying25 (.int .u64 0) 8 info39 rfl (by decide) (by omega) 0 (ok:=fun _=>True) (okp:=fun _=>True) rfl (fun _ hk=>hk) trivial (Z.od) (Nat.le_trans (Nat.mul_le_mul_right _ (Z.od:ji8.toNat≤35184372088832)) (by omega)) (Below.refl _ _) (Nat.le_refl _) ?_;intro v103 w12 ho13 hb hg_ hnew_;clear hg_ hnew_;(first|rw[←Ny102.out] at ho13|(simp only[Int.reduceToNat] at ho13;rw[←Ny102.out] at ho13));have HO104:=As (Kd.R_lower ho13 (below_size Z.bl));replace HB:=Z.sb hb;replace BK101:=Z.kb BK101 hb;clear hb ho13;obtain⟨Ao14,co14,eo14⟩:=Kd.R_slice HO104.out;subst eo14;have hcz15_0:=Z.c0 BK101.out;have hcz15_1:=Z.c1 BK101.out;have hfz15_0:=blk_frozen BK101.out 0;have hfz15_1:=blk_frozen BK101.out 1))
     refine bodyPost_ret (results_ct rfl _ _ gb101 29 #[.int .i64 a0,.slice Ao14 y102.length co14] (0,0) _ rfl Z.bs Tryz.underlying29 rfl (by kernel_rfl)) rfl ?_
     exact⟨_,by first|rfl|(simp[errW_none,errW_some] <;> rfl)|(simp only[←hji8];first|rfl|(simp[errW_none,errW_some] <;> rfl))|(simp[*,errW_none,errW_some] <;> rfl),by (with_reducible repeat (first|apply Kd.R_alloc|apply Kd.R_drewN|apply Kd.R_drew));exact Kd.R_mono (Kd.R_far (p:=⟨gb101,1,none⟩) (Kd.R_far (p:=⟨gb101,0,none⟩) (Kd.R_types HO104.out BK101.out (by decide)) (fun _ hk=>hk.2) (.int .i64 a0)) (fun _ hk=>hk.2) (.slice Ao14 y102.length co14)) (fun _ hk=>trivial),Z.bl⟩
    ·rw[if_neg c10] at H
     exact absurd H (by simp)
   ·rw[if_neg c9] at H
    exact absurd H (by simp)
def bits_Check.j0:Nat→Bool→Int→List Int→Option (Int)
 |0,_,_,_=>none
 |k + 1,x22,x106000,x106001=>if x22=true then (some 2) else (if (Int.tmod x106000 64) > 0 then (if 0≤(wrap64 ((x106001.length:Int) - 1)) then (if (wrap64 ((x106001.length:Int) - 1)) < (x106001.length:Int) then (if 0≤(Int.tmod x106000 64) then (if (shr .u64 (rd x106001 (wrap64 ((x106001.length:Int) - 1))) (Int.tmod x106000 64))=0 then (some 0) else (some 2)) else (none)) else (none)) else (none)) else (some 0))
def bits_Check.f (k:Nat) (a0_0:Int) (l0_1:List Int):Option (Int):=if a0_0 < 0 then (bits_Check.j0 k true a0_0 l0_1) else (if a0_0 > 4096 then (bits_Check.j0 k true a0_0 l0_1) else (bits_Check.j0 k ((l0_1.length:Int) != (wrap64 (Int.tdiv (wrap64 ((wrap64 (a0_0 + 64)) - 1)) 64))) a0_0 l0_1))
theorem bits_Check.mono_l:∀k,(∀y0 y1 y2,LeO (bits_Check.j0 k y0 y1 y2) (bits_Check.j0 (k + 1) y0 y1 y2))
 |0=>fun _ _ _ r h=>by simp[bits_Check.j0] at h
 |k + 1=>by
  have ih0:=bits_Check.mono_l k
  ·intro y0 y1 y2
   unfold bits_Check.j0
   repeat' first
   |(with_reducible exact ih0 _ _ _)
   |(with_reducible exact LeO.refl _)
   |(with_reducible exact LeO.none _)
   |(with_reducible refine LeO.ite ?_ ?_)
   |(with_reducible refine LeO.bind ?_ (fun _=>?_))
   |exact ih0 _ _ _
   |exact LeO.none _
   |refine LeO.ite ?_ ?_
   |refine LeO.bind ?_ (fun _=>?_)
theorem bits_Check.mono:∀a0 a1 k,LeO (bits_Check.f k a0 a1) (bits_Check.f (k + 1) a0 a1):=by
 intro a0 a1 k
 have ih0:=bits_Check.mono_l k
 unfold bits_Check.f
 repeat' first
   |(with_reducible exact ih0 _ _ _)
   |(with_reducible exact LeO.refl _)
   |(with_reducible exact LeO.none _)
   |(with_reducible refine LeO.ite ?_ ?_)
   |(with_reducible refine LeO.bind ?_ (fun _=>?_))
   |exact ih0 _ _ _
   |exact LeO.none _
   |refine LeO.ite ?_ ?_
   |refine LeO.bind ?_ (fun _=>?_)
set_option maxHeartbeats 8000000 in
set_option maxRecDepth 100000 in
theorem bits_Check.calls (k:Nat) (a0_0:Int) (A0_1:Option Addr) (c0_1:Nat) (l0_1:List Int) (r:Int) (w:World) (hr0_1:Kd.C (Kd.int .u64) w A0_1 l0_1.length l0_1) (hc0_1:l0_1.length≤c0_1) (h:bits_Check.f k a0_0 l0_1=some r):
  Calls Tryz.prog 47 #[.agg #[.int .i64 a0_0,.slice A0_1 l0_1.length c0_1]] w fun e w'=>e=.returned (.int .i64 r)∧Below w.heap.size w w':=by
 have hu29:=Tryz.underlying29
 have HR0_1:=As hr0_1
 have HC0_1:=As hc0_1
 clear hr0_1 hc0_1
 have HB:=As (Below.refl w.heap.size w)
 have H:(if a0_0 < 0 then (bits_Check.j0 k true a0_0 l0_1) else (if a0_0 > 4096 then (bits_Check.j0 k true a0_0 l0_1) else (bits_Check.j0 k ((l0_1.length:Int) != (wrap64 (Int.tdiv (wrap64 ((wrap64 (a0_0 + 64)) - 1)) 64))) a0_0 l0_1)))=some r:=h
 clear h
 have HC2:=As H
 clear H
 go_enter Tryz.func47,Tryz.ntmps47
 go_upto_region 1 with (first|((with_reducible refine gate_dst (N:=1) rfl ?_);(try (refine gate_guard (by rfl) ?_;dsimp only));refine Z.bx 1 #[.int .i64 a0_0,.slice A0_1 l0_1.length c0_1] 29 fun gb105 hg w3 hbox hb=>?_;have BK105:=As hbox;have GW105:=Z.ge hg;have GE105:=Z.ge hg;replace HB:=Z.sb hb;clear hb hbox hg))
 (try simp only[Act.put,List.setIfInBounds_toArray,List.set_cons_zero,List.set_cons_succ])
 go_cut [22] (fun v22 wc=>∃(kq:Nat) (x22_1:Bool),v22=.bool x22_1∧Aside0 (bits_Check.j0 kq x22_1 a0_0 l0_1=some r)∧Aside0 (kq≤k)∧Aside0 (wc.heap[gb105]? =some (.cells #[.int .i64 a0_0,(.slice A0_1 l0_1.length c0_1)] 29 (0,0)))∧Aside0 (Below w.heap.size w wc))
 case first=>
  have H:=HC2.out
  clear HC2
  by_cases c4:a0_0 < 0
  ·rw[if_pos c4] at H
   have c4b0:decide (a0_0 < 0)=true:=decide_eq_true c4
   clear c4
   (first|rw[c4b0]|(simp only[i64_w,i32_w];rw[c4b0])|skip)
   have H':=As H
   clear H
   have hcz5_0:=Z.c0 BK105.out
   have hcz5_1:=Z.c1 BK105.out
   have hfz5_0:=blk_frozen BK105.out 0
   have hfz5_1:=blk_frozen BK105.out 1
   go_wp2
   go_meet
   case rel=>exact⟨_,(true),Z.r_,H',⟨by first|omega|exact Nat.le_refl _⟩,⟨Z.bk⟩,⟨Z.bl⟩⟩
  ·rw[if_neg c4] at H
   have c4b0:decide (a0_0 < 0)=false:=decide_eq_false c4
   clear c4
   (first|rw[c4b0]|(simp only[i64_w,i32_w];rw[c4b0])|skip)
   by_cases c6:a0_0 > 4096
   ·rw[if_pos c6] at H
    have c6b0:decide (4096 < a0_0)=true:=decide_eq_true c6
    clear c6
    have H':=As H
    clear H
    have hcz7_0:=Z.c0 BK105.out
    have hcz7_1:=Z.c1 BK105.out
    have hfz7_0:=blk_frozen BK105.out 0
    have hfz7_1:=blk_frozen BK105.out 1
    go_wp2
    go_meet
    case rel=>exact⟨_,(true),Z.r_,H',⟨by first|omega|exact Nat.le_refl _⟩,⟨Z.bk⟩,⟨Z.bl⟩⟩
   ·rw[if_neg c6] at H
    have c6b0:decide (4096 < a0_0)=false:=decide_eq_false c6
    clear c6
    have H':=As H
    clear H
    have hcz8_0:=Z.c0 BK105.out
    have hcz8_1:=Z.c1 BK105.out
    have hfz8_0:=blk_frozen BK105.out 0
    have hfz8_1:=blk_frozen BK105.out 1
    go_wp2
    go_meet
    case rel=>exact⟨_,(((l0_1.length:Int) != (wrap64 (Int.tdiv (wrap64 ((wrap64 (a0_0 + 64)) - 1)) 64)))),Z.r_,H',⟨by first|omega|exact Nat.le_refl _⟩,⟨Z.bk⟩,⟨Z.bl⟩⟩
 case rest=>
  clear HC2
  try clear p2
  try clear c4
  try clear c4b0
  try clear c6
  try clear c6b0
  try clear p6
  try clear hcz5_0
  try clear hcz5_1
  try clear hcz7_0
  try clear hcz7_1
  try clear hcz8_0
  try clear hcz8_1
  try clear hfz5_0
  try clear hfz5_1
  try clear hfz7_0
  try clear hfz7_1
  try clear hfz8_0
  try clear hfz8_1
  obtain⟨kq,x22_1,rfl,HA,HJ1,BK105,HB⟩:=hcut
  cases kq with
  |zero=>exact absurd HA.out (by simp[bits_Check.j0])
  |succ kj1=>
   have H:=HA.out
   clear HA
   simp only[bits_Check.j0] at H
   by_cases c9:x22_1=true
   ·subst c9
    have H1:(some 2)=some r:=by rw[if_pos rfl] at H;exact H
    clear H
    have H:=H1
    clear H1
    obtain rfl:=Option.some.inj H
    go_wp2
    go_ret
    exact⟨Z.e_,Z.bl⟩
   ·replace c9:=Bool.eq_false_iff.mpr c9
    subst c9
    have H1:(if (Int.tmod a0_0 64) > 0 then (if 0≤(wrap64 ((l0_1.length:Int) - 1)) then (if (wrap64 ((l0_1.length:Int) - 1)) < (l0_1.length:Int) then (if 0≤(Int.tmod a0_0 64) then (if (shr .u64 (rd l0_1 (wrap64 ((l0_1.length:Int) - 1))) (Int.tmod a0_0 64))=0 then (some 0) else (some 2)) else (none)) else (none)) else (none)) else (some 0))=some r:=by rw[if_neg (show ¬(false=true) by decide)] at H;exact H
    clear H
    have H:=H1
    clear H1
    by_cases c10:(Int.tmod a0_0 64) > 0
    ·rw[if_pos c10] at H
     have c10b0:decide (0 < (Int.tmod a0_0 64))=true:=decide_eq_true c10
     clear c10
     obtain⟨ji11,hji11⟩:∃j_:Int,(wrap64 ((l0_1.length:Int) - 1))=j_:=⟨_,rfl⟩
     replace H:(if 0≤(ji11) then (if (ji11) < (l0_1.length:Int) then (if 0≤(Int.tmod a0_0 64) then (if (shr .u64 (rd l0_1 (ji11)) (Int.tmod a0_0 64))=0 then (some 0) else (some 2)) else (none)) else (none)) else (none))=some r:=by first|(rw[hji11] at H;exact H)|(simp only[hji11] at H ⊢;exact H)
     have hji11w:(IntKind.i64.wrap ((l0_1.length:Int) - 1))=ji11:=(i64_w _).trans hji11
     by_cases c12:0≤(ji11)
     ·rw[if_pos c12] at H
      replace c12:=decide_eq_true c12
      by_cases c13:(ji11) < (l0_1.length:Int)
      ·rw[if_pos c13] at H
       replace c13:=decide_eq_true c13
       obtain⟨ji14,hji14⟩:∃j_:Int,(Int.tmod a0_0 64)=j_:=⟨_,rfl⟩
       replace H:(if 0≤(ji14) then (if (shr .u64 (rd l0_1 (ji11)) (ji14))=0 then (some 0) else (some 2)) else (none))=some r:=by first|(rw[hji14] at H;exact H)|(simp only[hji14] at H ⊢;exact H)
       (try rw[hji14] at c10b0)
       by_cases c15:0≤(ji14)
       ·rw[if_pos c15] at H
        have c15b0:=eq_true c15
        have c15b1:decide (0≤(ji14))=true:=decide_eq_true c15
        clear c15
        obtain⟨ji16,hji16⟩:∃j_:Int,(shr .u64 (rd l0_1 (ji11)) (ji14))=j_:=⟨_,rfl⟩
        replace H:(if (ji16)=0 then (some 0) else (some 2))=some r:=by first|(rw[hji16] at H;exact H)|(simp only[hji16] at H ⊢;exact H)
        have hji16_:((rd l0_1 (ji11)) / 2 ^ min (ji14).toNat 64)=ji16:=hji16
        have hji16z:(ji14)≤64→((rd l0_1 (ji11)) / 2 ^ (ji14).toNat)=ji16:=shr_small hji16
        by_cases c17:(ji16)=0
        ·rw[if_pos c17] at H
         have c17b0:((ji16) == 0)=true:=beq_iff_eq.mpr c17
         have c17b1:((ji16) != 0)=false:=bne_eq_false_iff_eq.mpr c17
         clear c17
         obtain rfl:=Option.some.inj H
         have hcz18_0:=Z.c0 BK105.out
         have hcz18_1:=Z.c1 BK105.out
         have hfz18_0:=blk_frozen BK105.out 0
         have hfz18_1:=blk_frozen BK105.out 1
         have p106:0≤((ji11):Int):=Z.od
         have q106:(ji11) < (l0_1.length:Int):=Z.od
         obtain⟨ad106,e106,hx106_0⟩:=Kd.at_int HR0_1.out (ji11) p106 q106
         cases e106
         replace hx106_0:=Z.kc HB hx106_0
         replace p106:=eq_true p106
         replace q106:=eq_true q106
         go_wp2
         go_ret
         exact⟨by first|rfl|(simp[errW_none,errW_some] <;> rfl)|(simp only[←hji11,←hji14,←hji16];first|rfl|(simp[errW_none,errW_some] <;> rfl))|(simp[*,errW_none,errW_some] <;> rfl),Z.bl⟩
        ·rw[if_neg c17] at H
         have c17b0:((ji16) == 0)=false:=beq_eq_false_iff_ne.mpr c17
         have c17b1:((ji16) != 0)=true:=bne_iff_ne.mpr c17
         obtain rfl:=Option.some.inj H
         have hcz19_0:=Z.c0 BK105.out
         have hcz19_1:=Z.c1 BK105.out
         have hfz19_0:=blk_frozen BK105.out 0
         have hfz19_1:=blk_frozen BK105.out 1
         have p106:0≤((ji11):Int):=Z.od
         have q106:(ji11) < (l0_1.length:Int):=Z.od
         obtain⟨ad106,e106,hx106_0⟩:=Kd.at_int HR0_1.out (ji11) p106 q106
         cases e106
         replace hx106_0:=Z.kc HB hx106_0
         replace p106:=eq_true p106
         replace q106:=eq_true q106
         go_wp2
         go_ret
         exact⟨by first|rfl|(simp[errW_none,errW_some] <;> rfl)|(simp only[←hji11,←hji14,←hji16];first|rfl|(simp[errW_none,errW_some] <;> rfl))|(simp[*,errW_none,errW_some] <;> rfl),Z.bl⟩
       ·rw[if_neg c15] at H
        exact absurd H (by simp)
      ·rw[if_neg c13] at H
       exact absurd H (by simp)
     ·rw[if_neg c12] at H
      exact absurd H (by simp)
    ·rw[if_neg c10] at H
     have c10b0:decide (0 < (Int.tmod a0_0 64))=false:=decide_eq_false c10
     clear c10
     obtain rfl:=Option.some.inj H
     have hcz20_0:=Z.c0 BK105.out
     have hcz20_1:=Z.c1 BK105.out
     have hfz20_0:=blk_frozen BK105.out 0
     have hfz20_1:=blk_frozen BK105.out 1
     go_wp2
     go_ret
     exact⟨Z.e_,Z.bl⟩
theorem clone_nil_eq (w:World) (a:Option Addr) (n c:Nat):(binOp .eql 25 (.slice a n c) (.slice none 0 0)).run Tryz.prog w=.ok (.bool a.isNone) w:=Lib.run_eql_slice_nil w 25 39 a n c 0 0 Tryz.underlying25
theorem clone_info:(Tryz.prog.info? 39).map (fun i=>(i.zero,i.size,i.bytes))=some (some (.int .u64 0),1,8):=by kernel_rfl
def slices_Clone_uint64_uint64.f (l0:List Int):Option (List Int):=if l0.length < 17592186044416 then some l0 else none
set_option maxHeartbeats 8000000 in
set_option maxRecDepth 100000 in
theorem slices_Clone_uint64_uint64.calls (A0:Option Addr) (c0:Nat) (l0:List Int) (r:List Int) (w:World) (hr0:Kd.C (Kd.int .u64) w A0 l0.length l0) (hc0:l0.length≤c0) (h:slices_Clone_uint64_uint64.f l0=some r):
  Calls Tryz.prog 88 #[.slice A0 l0.length c0] w fun e w'=>∃v0_:Value,e=.returned (v0_)∧Kd.R (Kd.int .u64) 39 w' w.heap.size (fun _=>True) v0_ r∧Below w.heap.size w w':=by
 unfold slices_Clone_uint64_uint64.f at h
 by_cases c2:l0.length < 17592186044416
 ·rw[if_pos c2] at h
  cases h
  have hcmp:=clone_nil_eq
  have LM:=As c2
  have HB:=As (Below.refl w.heap.size w)
  have HR0:=As hr0
  clear c2 hc0
  cases A0 with
  |none=>
   have e0:l0=[]:=by
    rcases Nat.eq_zero_or_pos l0.length with h0|h0
    ·exact List.eq_nil_of_length_eq_zero h0
    ·obtain⟨ad,e,_⟩:=hr0.2.2 h0;cases e
   subst e0
   clear hr0 HR0
   go_enter Tryz.func88,Tryz.ntmps88
   go_wp2_with (simp only[hcmp])
   go_ret
   exact⟨_,rfl,Kd.R_nil _ _ _ _ _,HB.out⟩
  |some ad=>
   clear hr0
   go_enter Tryz.func88,Tryz.ntmps88
   go_wp2_with (first|(simp only[hcmp];done)|((with_reducible refine gate_dst (N:=5) rfl ?_);refine Kd.R_lit (Kd.int .u64) _ 39 ?hg (N:=5) ?hd (xs:=([]:List Int)) (inner:=[]) (ok:=fun _=>True) (okp:=fun _=>True) ?hr ?hp (fun _ hk=>hk) trivial (Below.refl _ _) (Nat.le_refl _) (by simp) ?_;(case hd=>rfl);(case hg=>rfl);(case hr=>first|(go_simp;done)|(go_simp;rfl));(case hp=>exact (Reps.none _ _));intro v1 w1 ho1 hb1 hg1 hn1;clear hg1 hn1;have HO1:=As (Kd.R_lower ho1 (below_size HB.out));have n1:=As (below_step HB.out hb1);clear HB;have HB:=n1;clear n1 hb1 ho1)|((with_reducible refine gate_builtin (b:=.append) (xs:=#[.tmp 5,.tmp 6]) rfl ?_);at_builtin;refine Kd.R_append_rows (Kd.int .u64) (w0:=w) w.heap.size rfl (.tmp 5) (.tmp 6) 25 39 (.int .u64 0) 8 rfl Tryz.underlying25 clone_info rfl (by decide) (by omega) v1 [] l0 _ _ _ (fun _=>True) (fun _=>False) rfl rfl ?aO ?aR (fun _ _ h=>h) (fun _ h=>h.elim) ?aF ?aB ?aS ?aL ?_;(case aR=>exact Kd.C_below HR0.out HB.out);(case aB=>exact HB.out);(case aF=>exact (fun _ _=>trivial));(case aO=>exact HO1.out);(case aS=>exact (below_size HB.out));(case aL=>have:=LM.out;simp only[List.length_nil];omega);intro v2 w2 ho2 hb2 hg2 hat2;clear hg2 hat2;have HO2:=As ho2;have HB2:=As hb2;clear ho2 hb2))
   go_ret
   exact⟨_,rfl,by simpa using HO2.out,HB2.out⟩
 ·rw[if_neg c2] at h;cases h
def bits_Own.f (a0_0:Int) (l0_1:List Int):Option (Int×List Int):=(slices_Clone_uint64_uint64.f l0_1).bind fun t109=>(some (a0_0,t109))
set_option maxHeartbeats 8000000 in
set_option maxRecDepth 100000 in
theorem bits_Own.calls (a0_0:Int) (A0_1:Option Addr) (c0_1:Nat) (l0_1:List Int) (r1:Int) (r2:List Int) (w:World) (hr0_1:Kd.C (Kd.int .u64) w A0_1 l0_1.length l0_1) (hc0_1:l0_1.length≤c0_1) (h:bits_Own.f a0_0 l0_1=some (r1,r2)):
  Calls Tryz.prog 48 #[.agg #[.int .i64 a0_0,.slice A0_1 l0_1.length c0_1]] w fun e w'=>∃v1_:Value,e=.returned (.agg #[.int .i64 r1,v1_])∧Kd.R (Kd.int .u64) 39 w' w.heap.size (fun _=>True) v1_ r2∧Below w.heap.size w w':=by
 have hu29:=Tryz.underlying29
 have HR0_1:=As hr0_1
 have HC0_1:=As hc0_1
 clear hr0_1 hc0_1
 have HB:=As (Below.refl w.heap.size w)
 have H:((slices_Clone_uint64_uint64.f l0_1).bind fun t109=>(some (a0_0,t109)))=some (r1,r2):=h
 clear h
 replace H:=Option.bind_eq_some_iff.mp H
 obtain⟨t109,A20,H⟩:=H
 replace H:(some (a0_0,t109))=some (r1,r2):=H
 have A2:=As A20
 clear A20
 simp only[Option.some.injEq,Prod.mk.injEq] at H
 obtain⟨rfl,rfl⟩:=H
 go_enter Tryz.func48,Tryz.ntmps48
 go_wp2_with (first|((with_reducible refine gate_dst (N:=1) rfl ?_);refine Z.bx 1 #[.int .i64 a0_0,.slice A0_1 l0_1.length c0_1] 29 fun gb107 hg w3 hbox hb=>?_;have BK107:=As hbox;have GW107:=Z.ge hg;have GE107:=Z.ge hg;replace HB:=Z.sb hb;clear hb hbox hg)|((with_reducible refine gate_dst (N:=2) rfl ?_);refine Z.bx 2 #[.int .i64 0,.slice none 0 0] 29 fun gb108 hg w4 hbox hb=>?_;have BK108:=As hbox;have GW108:=Z.ge hg;have GE108:=Z.ge hg;have NB107_108:=Z.nl BK107 hg;have NB108_107:=Z.ng BK107 hg;replace HB:=Z.sb hb;replace BK107:=Z.kb BK107 hb;clear hb hbox hg;have hnb5:=NB107_108.out;have hnc5:=NB108_107.out;have hcz6_0:=Z.c0 BK107.out;have hcz6_1:=Z.c1 BK107.out;have hfz6_0:=blk_frozen BK107.out 0;have hfz6_1:=blk_frozen BK107.out 1)|((with_reducible refine gate_callee (f:=88) rfl ?_);refine Z.gl 5 Tryz.func88 #[.slice A0_1 l0_1.length c0_1] ?_;(with_reducible refine (slices_Clone_uint64_uint64.calls _ _ l0_1 t109 _ ?side1 ?side2 A2.out).mono ?_);(case side1=>repeat (first|exact (Kd.C_below HR0_1.out HB.out)|(with_reducible refine Kd.C_alloc ?_ _)|(with_reducible refine Kd.C_drewN ?_ _)|(with_reducible refine Kd.C_drew ?_)));(case side2=>exact HC0_1.out);rintro e w7 ⟨v110,rfl,ho0,hb⟩;refine⟨_,rfl,?_⟩;have HO111:=As (Kd.R_lower ho0 (below_size Z.bl));replace HB:=Z.sb hb;replace BK107:=Z.kb BK107 hb;replace BK108:=Z.kb BK108 hb;(try clear hb);(try clear hb2);(try clear hk);(try clear hi);(try clear ho0);obtain⟨Ao8,co8,eo8⟩:=Kd.R_slice HO111.out;subst eo8;have hcz9_0:=Z.c0 BK107.out;have hcz9_1:=Z.c1 BK107.out;have hfz9_0:=blk_frozen BK107.out 0;have hfz9_1:=blk_frozen BK107.out 1;have hcz10_0:=Z.c0 BK108.out;have hcz10_1:=Z.c1 BK108.out;have hfz10_0:=blk_frozen BK108.out 0;have hfz10_1:=blk_frozen BK108.out 1))
 refine bodyPost_ret (results_cell_row rfl _ _ gb108 29 #[.int .i64 a0_0,.slice Ao8 t109.length co8] (0,0) _ rfl Z.bs Tryz.underlying29 rfl (by kernel_rfl)) rfl ?_
 exact⟨_,Z.e_,by (with_reducible repeat (first|apply Kd.R_alloc|apply Kd.R_drewN|apply Kd.R_drew));exact Kd.R_mono (Kd.R_far (p:=⟨gb108,1,none⟩) (Kd.R_far (p:=⟨gb108,0,none⟩) (Kd.R_far (p:=⟨gb107,1,none⟩) (Kd.R_types (Kd.R_types HO111.out BK107.out (by decide)) BK108.out (by decide)) (fun _ hk=>hk.1.2) (.slice Ao8 t109.length co8)) (fun _ hk=>hk.2) (.int .i64 a0_0)) (fun _ hk=>hk.2) (.slice Ao8 t109.length co8)) (fun _ hk=>trivial),Z.bl⟩
end Go.Proofs.YtmmfchnbfnegnaaGreatDoor.GK
end
section
namespace Go.Proofs.YtmmfchnbfnegnaaGreatDoor.GK
open Go.RowKit Go.Proofs.YtmmfchnbfnegnaaGreatDoorW.PrintWords Go.Proofs.YtmmfchnbfnegnaaGreatDoorW.PrintLast Go.Proofs.YtmmfchnbfnegnaaGreatDoorW.PrintMore
attribute [local go_sem] max2_int min2_int max_two min_two max_three min_three max_four min_four
set_option linter.unusedVariables false
set_option linter.unusedSimpArgs false
def arena_Make.f (a0:Int):Option (List Int×Int):=if a0 < 0 then (some (([]:List Int),1)) else (if a0 > 16384 then (some (([]:List Int),1)) else (if 0≤a0 then (if (a0:Int).toNat≤35184372088832 then (some ((List.replicate (a0:Int).toNat 0),0)) else (none)) else (none)))
set_option maxHeartbeats 8000000 in
set_option maxRecDepth 100000 in
theorem arena_Make.calls (a0:Int) (r1:List Int) (r2:Int) (w:World) (h:arena_Make.f a0=some (r1,r2)):
  Calls Tryz.prog 19 #[.int .i64 a0] w fun e w'=>∃v0_:Value,e=.returned (.tuple #[.agg #[v0_],.int .i64 r2])∧Kd.R (Kd.int .u64) 39 w' w.heap.size (fun _=>True) v0_ r1∧Below w.heap.size w w':=by
 have hu27:=Tryz.underlying27
 have HB:=As (Below.refl w.heap.size w)
 have H:(if a0 < 0 then (some (([]:List Int),1)) else (if a0 > 16384 then (some (([]:List Int),1)) else (if 0≤a0 then (if (a0:Int).toNat≤35184372088832 then (some ((List.replicate (a0:Int).toNat 0),0)) else (none)) else (none))))=some (r1,r2):=h
 clear h
 by_cases c2:a0 < 0
 ·rw[if_pos c2] at H
  have c2b0:decide (a0 < 0)=true:=decide_eq_true c2
  clear c2
  simp only[Option.some.injEq,Prod.mk.injEq] at H
  obtain⟨rfl,rfl⟩:=H
  go_enter Tryz.func19,Tryz.ntmps19
  go_wp2_with (first|((with_reducible refine gate_dst (N:=2) rfl ?_);refine Z.bx 2 #[.slice none 0 0] 27 fun gb129 hg w3 hbox hb=>?_;have BK129:=As hbox;have GW129:=Z.ge hg;have GE129:=Z.ge hg;replace HB:=Z.sb hb;clear hb hbox hg;obtain⟨hcz4_0,hfz4_0⟩:=Z.b1 BK129))
  refine bodyPost_ret (results_ct rfl _ _ gb129 27 #[.slice none 0 0] (0,0) _ rfl Z.bs Tryz.underlying27 rfl (by kernel_rfl)) rfl ?_
  exact⟨_,Z.e_,by first|exact Kd.R_nil _ _ _ _ _|exact Kd.N_nil _ _ _ _ _|exact Kd.V_nil _ _ _ _ _|exact Kd.Q_nil _ _ _ _ _|exact Kd.S_nil _ _ _ _ _,Z.bl⟩
 ·rw[if_neg c2] at H
  have c2b0:decide (a0 < 0)=false:=decide_eq_false c2
  clear c2
  by_cases c5:a0 > 16384
  ·rw[if_pos c5] at H
   have c5b0:decide (16384 < a0)=true:=decide_eq_true c5
   clear c5
   simp only[Option.some.injEq,Prod.mk.injEq] at H
   obtain⟨rfl,rfl⟩:=H
   go_enter Tryz.func19,Tryz.ntmps19
   go_wp2_with (first|((with_reducible refine gate_dst (N:=2) rfl ?_);refine Z.bx 2 #[.slice none 0 0] 27 fun gb129 hg w6 hbox hb=>?_;have BK129:=As hbox;have GW129:=Z.ge hg;have GE129:=Z.ge hg;replace HB:=Z.sb hb;clear hb hbox hg;obtain⟨hcz7_0,hfz7_0⟩:=Z.b1 BK129))
   refine bodyPost_ret (results_ct rfl _ _ gb129 27 #[.slice none 0 0] (0,0) _ rfl Z.bs Tryz.underlying27 rfl (by kernel_rfl)) rfl ?_
   exact⟨_,Z.e_,by first|exact Kd.R_nil _ _ _ _ _|exact Kd.N_nil _ _ _ _ _|exact Kd.V_nil _ _ _ _ _|exact Kd.Q_nil _ _ _ _ _|exact Kd.S_nil _ _ _ _ _,Z.bl⟩
  ·rw[if_neg c5] at H
   have c5b0:decide (16384 < a0)=false:=decide_eq_false c5
   clear c5
   by_cases c8:0≤a0
   ·rw[if_pos c8] at H
    have c8b0:=eq_true c8
    have c8b1:decide (0≤a0)=true:=decide_eq_true c8
    clear c8
    by_cases c9:(a0:Int).toNat≤35184372088832
    ·rw[if_pos c9] at H
     have c9b0:=eq_true c9
     have c9b1:decide ((a0:Int).toNat≤35184372088832)=true:=decide_eq_true c9
     clear c9
     obtain⟨y130,hy130⟩:∃y_:List Int,y_=(List.replicate (a0:Int).toNat 0):=⟨_,rfl⟩
     replace H:(some (y130,0))=some (r1,r2):=by first|(rw[hy130];with_reducible exact H)|(have H2_:=(Option.bind_some _ _).symm.trans H;rw[hy130];with_reducible exact H2_)|(have H2_:=(Option.bind_some _ _).symm.trans H;with_reducible exact H2_)|with_reducible exact H|(rw[hy130];exact H)|exact H
     have Ny130:=As hy130
     clear hy130
     simp only[Option.some.injEq,Prod.mk.injEq] at H
     obtain⟨rfl,rfl⟩:=H
     go_enter Tryz.func19,Tryz.ntmps19
     go_wp2_with (first|((with_reducible refine gate_dst (N:=2) rfl ?_);refine Z.bx 2 #[.slice none 0 0] 27 fun gb129 hg w10 hbox hb=>?_;have BK129:=As hbox;have GW129:=Z.ge hg;have GE129:=Z.ge hg;replace HB:=Z.sb hb;clear hb hbox hg)|((with_reducible refine gate_dst (N:=12) rfl ?_);refine Kd.R_make (Kd.int .u64) _ 39 rfl (N:=12) rfl 25 _ _ rfl a0 rfl rfl Tryz.underlying25 (.int .u64 0) 8 info39 rfl (by decide) (by omega) 0 (ok:=fun _=>True) (okp:=fun _=>True) rfl (fun _ hk=>hk) trivial (Z.od) (Nat.le_trans (Nat.mul_le_mul_right _ (Z.od:a0.toNat≤35184372088832)) (by omega)) (Below.refl _ _) (Nat.le_refl _) ?_;intro v131 w11 ho12 hb hg_ hnew_;clear hg_ hnew_;(first|rw[←Ny130.out] at ho12|(simp only[Int.reduceToNat] at ho12;rw[←Ny130.out] at ho12));have HO132:=As (Kd.R_lower ho12 (below_size Z.bl));replace HB:=Z.sb hb;replace BK129:=Z.kb BK129 hb;clear hb ho12;obtain⟨Ao13,co13,eo13⟩:=Kd.R_slice HO132.out;subst eo13;obtain⟨hcz14_0,hfz14_0⟩:=Z.b1 BK129))
     refine bodyPost_ret (results_ct rfl _ _ gb129 27 #[.slice Ao13 y130.length co13] (0,0) _ rfl Z.bs Tryz.underlying27 rfl (by kernel_rfl)) rfl ?_
     exact⟨_,Z.e_,by (with_reducible repeat (first|apply Kd.R_alloc|apply Kd.R_drewN|apply Kd.R_drew));exact Kd.R_mono (Kd.R_far (p:=⟨gb129,0,none⟩) (Kd.R_types HO132.out BK129.out (by decide)) (fun _ hk=>hk.2) (.slice Ao13 y130.length co13)) (fun _ hk=>trivial),Z.bl⟩
    ·rw[if_neg c9] at H
     exact absurd H (by simp)
   ·rw[if_neg c8] at H
    exact absurd H (by simp)
def pages_Make.f (a0:Int):Option (Int×List Int×Int):=(bits_Make.f a0).bind fun bt134=>(some (bt134.1,bt134.2.1,bt134.2.2))
set_option maxHeartbeats 8000000 in
set_option maxRecDepth 100000 in
theorem pages_Make.calls (a0:Int) (r1:Int) (r2:List Int) (r3:Int) (w:World) (h:pages_Make.f a0=some (r1,r2,r3)):
  Calls Tryz.prog 20 #[.int .i64 a0] w fun e w'=>∃v1_:Value,e=.returned (.tuple #[.agg #[.int .i64 r1,v1_],.int .i64 r3])∧Kd.R (Kd.int .u64) 39 w' w.heap.size (fun _=>True) v1_ r2∧Below w.heap.size w w':=by
 have hu31:=Tryz.underlying31
 have hu29:=Tryz.underlying29
 have HB:=As (Below.refl w.heap.size w)
 have H:((bits_Make.f a0).bind fun bt134=>(some (bt134.1,bt134.2.1,bt134.2.2)))=some (r1,r2,r3):=h
 clear h
 replace H:=Option.bind_eq_some_iff.mp H
 obtain⟨⟨t134,t135,t138⟩,A20,H⟩:=H
 replace H:(some (t134,t135,t138))=some (r1,r2,r3):=H
 have A2:=As A20
 clear A20
 simp only[Option.some.injEq,Prod.mk.injEq] at H
 obtain⟨rfl,rfl,rfl⟩:=H
 go_enter Tryz.func20,Tryz.ntmps20
 go_wp2_with (first|((with_reducible refine gate_dst (N:=2) rfl ?_);refine Z.bx 2 #[.int .i64 0,.slice none 0 0] 31 fun gb133 hg w3 hbox hb=>?_;have BK133:=As hbox;have GW133:=Z.ge hg;have GE133:=Z.ge hg;replace HB:=Z.sb hb;clear hb hbox hg)|((with_reducible refine gate_callee (f:=16) rfl ?_);refine Z.gl 8 Tryz.func16 #[.int .i64 a0] ?_;(with_reducible refine (bits_Make.calls a0 t134 t135 t138 _ A2.out).mono ?_);rintro e w4 ⟨v136,rfl,ho0,hb⟩;refine⟨_,rfl,?_⟩;have HO137:=As (Kd.R_lower ho0 (below_size Z.bl));replace HB:=Z.sb hb;replace BK133:=Z.kb BK133 hb;(try clear hb);(try clear hb2);(try clear hk);(try clear hi);(try clear ho0))|((with_reducible refine gate_dst (N:=4) rfl ?_);refine Z.bx 4 #[.int .i64 0,.slice none 0 0] 29 fun gb139 hg w5 hbox hb=>?_;have BK139:=As hbox;have GW139:=Z.ge hg;have GE139:=Z.ge hg;have NB133_139:=Z.nl BK133 hg;have NB139_133:=Z.ng BK133 hg;replace HO137:=As (Kd.R_below (by (with_reducible repeat (first|apply Kd.R_alloc|apply Kd.R_drewN|apply Kd.R_drew));exact HO137.out) hb);replace HB:=Z.sb hb;replace BK133:=Z.kb BK133 hb;clear hb hbox hg;have hnb6:=NB139_133.out;have hnc6:=NB133_139.out;have hcz7_0:=Z.c0 BK139.out;have hcz7_1:=Z.c1 BK139.out;have hfz7_0:=blk_frozen BK139.out 0;have hfz7_1:=blk_frozen BK139.out 1;obtain⟨Ao8,co8,eo8⟩:=Kd.R_slice HO137.out;subst eo8;have hcz9_0:=Z.c0 BK133.out;have hcz9_1:=Z.c1 BK133.out;have hfz9_0:=blk_frozen BK133.out 0;have hfz9_1:=blk_frozen BK133.out 1))
 refine bodyPost_ret (results_ct rfl _ _ gb133 31 #[.int .i64 t134,.slice Ao8 t135.length co8] (0,0) _ rfl Z.bs Tryz.underlying31 rfl (by kernel_rfl)) rfl ?_
 exact⟨_,Z.e_,by (with_reducible repeat (first|apply Kd.R_alloc|apply Kd.R_drewN|apply Kd.R_drew));exact Kd.R_mono (Kd.R_far (p:=⟨gb133,1,none⟩) (Kd.R_far (p:=⟨gb133,0,none⟩) (Kd.R_far (p:=⟨gb139,1,none⟩) (Kd.R_far (p:=⟨gb139,0,none⟩) (Kd.R_types (Kd.R_types HO137.out BK139.out (by decide)) BK133.out (by decide)) (fun _ hk=>hk.1.2) (.int .i64 t134)) (fun _ hk=>hk.1.2) (.slice Ao8 t135.length co8)) (fun _ hk=>hk.2) (.int .i64 t134)) (fun _ hk=>hk.2) (.slice Ao8 t135.length co8)) (fun _ hk=>trivial),Z.bl⟩
def pages_Check.f (k:Nat) (a0_0:Int) (l0_1:List Int):Option (Int):=(bits_Check.f k a0_0 l0_1).bind fun t141=>(some t141)
set_option maxHeartbeats 8000000 in
set_option maxRecDepth 100000 in
theorem pages_Check.calls (k:Nat) (a0_0:Int) (A0_1:Option Addr) (c0_1:Nat) (l0_1:List Int) (r:Int) (w:World) (hr0_1:Kd.C (Kd.int .u64) w A0_1 l0_1.length l0_1) (hc0_1:l0_1.length≤c0_1) (h:pages_Check.f k a0_0 l0_1=some r):
  Calls Tryz.prog 51 #[.agg #[.int .i64 a0_0,.slice A0_1 l0_1.length c0_1]] w fun e w'=>e=.returned (.int .i64 r)∧Below w.heap.size w w':=by
 have hu31:=Tryz.underlying31
 have hu29:=Tryz.underlying29
 have HR0_1:=As hr0_1
 have HC0_1:=As hc0_1
 clear hr0_1 hc0_1
 have HB:=As (Below.refl w.heap.size w)
 have H:((bits_Check.f k a0_0 l0_1).bind fun t141=>(some t141))=some r:=h
 clear h
 replace H:=Option.bind_eq_some_iff.mp H
 obtain⟨t141,A20,H⟩:=H
 replace H:(some t141)=some r:=H
 have A2:=As A20
 clear A20
 obtain rfl:=Option.some.inj H
 go_enter Tryz.func51,Tryz.ntmps51
 go_wp2_with (first|((with_reducible refine gate_dst (N:=1) rfl ?_);refine Z.bx 1 #[.int .i64 a0_0,.slice A0_1 l0_1.length c0_1] 31 fun gb140 hg w3 hbox hb=>?_;have BK140:=As hbox;have GW140:=Z.ge hg;have GE140:=Z.ge hg;replace HB:=Z.sb hb;clear hb hbox hg;have hcz4_0:=Z.c0 BK140.out;have hcz4_1:=Z.c1 BK140.out;have hfz4_0:=blk_frozen BK140.out 0;have hfz4_1:=blk_frozen BK140.out 1)|((with_reducible refine gate_callee (f:=47) rfl ?_);refine Z.gl 5 Tryz.func47 #[.agg #[.int .i64 a0_0,.slice A0_1 l0_1.length c0_1]] ?_;(with_reducible refine (bits_Check.calls k a0_0 _ _ l0_1 t141 _ ?side1 ?side2 A2.out).mono ?_);(case side1=>repeat (first|exact (Kd.C_below HR0_1.out HB.out)|(with_reducible refine Kd.C_alloc ?_ _)|(with_reducible refine Kd.C_drewN ?_ _)|(with_reducible refine Kd.C_drew ?_)));(case side2=>exact HC0_1.out);rintro e w5 ⟨rfl,hb⟩;refine⟨_,rfl,?_⟩;replace HB:=Z.sb hb;replace BK140:=Z.kb BK140 hb;(try clear hb);(try clear hb2);(try clear hk);(try clear hi)))
 go_ret
 exact⟨Z.e_,Z.bl⟩
def pages_Own.f (a0_0:Int) (l0_1:List Int):Option (Int×List Int):=(bits_Own.f a0_0 l0_1).bind fun bt144=>(some (bt144.1,bt144.2))
set_option maxHeartbeats 8000000 in
set_option maxRecDepth 100000 in
theorem pages_Own.calls (a0_0:Int) (A0_1:Option Addr) (c0_1:Nat) (l0_1:List Int) (r1:Int) (r2:List Int) (w:World) (hr0_1:Kd.C (Kd.int .u64) w A0_1 l0_1.length l0_1) (hc0_1:l0_1.length≤c0_1) (h:pages_Own.f a0_0 l0_1=some (r1,r2)):
  Calls Tryz.prog 52 #[.agg #[.int .i64 a0_0,.slice A0_1 l0_1.length c0_1]] w fun e w'=>∃v1_:Value,e=.returned (.agg #[.int .i64 r1,v1_])∧Kd.R (Kd.int .u64) 39 w' w.heap.size (fun _=>True) v1_ r2∧Below w.heap.size w w':=by
 have hu31:=Tryz.underlying31
 have hu29:=Tryz.underlying29
 have HR0_1:=As hr0_1
 have HC0_1:=As hc0_1
 clear hr0_1 hc0_1
 have HB:=As (Below.refl w.heap.size w)
 have H:((bits_Own.f a0_0 l0_1).bind fun bt144=>(some (bt144.1,bt144.2)))=some (r1,r2):=h
 clear h
 replace H:=Option.bind_eq_some_iff.mp H
 obtain⟨⟨t144,t145⟩,A20,H⟩:=H
 replace H:(some (t144,t145))=some (r1,r2):=H
 have A2:=As A20
 clear A20
 simp only[Option.some.injEq,Prod.mk.injEq] at H
 obtain⟨rfl,rfl⟩:=H
 go_enter Tryz.func52,Tryz.ntmps52
 go_wp2_with (first|((with_reducible refine gate_dst (N:=1) rfl ?_);refine Z.bx 1 #[.int .i64 a0_0,.slice A0_1 l0_1.length c0_1] 31 fun gb142 hg w3 hbox hb=>?_;have BK142:=As hbox;have GW142:=Z.ge hg;have GE142:=Z.ge hg;replace HB:=Z.sb hb;clear hb hbox hg)|((with_reducible refine gate_dst (N:=2) rfl ?_);refine Z.bx 2 #[.int .i64 0,.slice none 0 0] 31 fun gb143 hg w4 hbox hb=>?_;have BK143:=As hbox;have GW143:=Z.ge hg;have GE143:=Z.ge hg;have NB142_143:=Z.nl BK142 hg;have NB143_142:=Z.ng BK142 hg;replace HB:=Z.sb hb;replace BK142:=Z.kb BK142 hb;clear hb hbox hg;have hnb5:=NB142_143.out;have hnc5:=NB143_142.out;have hcz6_0:=Z.c0 BK142.out;have hcz6_1:=Z.c1 BK142.out;have hfz6_0:=blk_frozen BK142.out 0;have hfz6_1:=blk_frozen BK142.out 1)|((with_reducible refine gate_callee (f:=48) rfl ?_);refine Z.gl 5 Tryz.func48 #[.agg #[.int .i64 a0_0,.slice A0_1 l0_1.length c0_1]] ?_;(with_reducible refine (bits_Own.calls a0_0 _ _ l0_1 t144 t145 _ ?side1 ?side2 A2.out).mono ?_);(case side1=>repeat (first|exact (Kd.C_below HR0_1.out HB.out)|(with_reducible refine Kd.C_alloc ?_ _)|(with_reducible refine Kd.C_drewN ?_ _)|(with_reducible refine Kd.C_drew ?_)));(case side2=>exact HC0_1.out);rintro e w7 ⟨v146,rfl,ho0,hb⟩;refine⟨_,rfl,?_⟩;have HO147:=As (Kd.R_lower ho0 (below_size Z.bl));replace HB:=Z.sb hb;replace BK142:=Z.kb BK142 hb;replace BK143:=Z.kb BK143 hb;(try clear hb);(try clear hb2);(try clear hk);(try clear hi);(try clear ho0);obtain⟨Ao8,co8,eo8⟩:=Kd.R_slice HO147.out;subst eo8;have hcz9_0:=Z.c0 BK143.out;have hcz9_1:=Z.c1 BK143.out;have hfz9_0:=blk_frozen BK143.out 0;have hfz9_1:=blk_frozen BK143.out 1))
 refine bodyPost_ret (results_cell_row rfl _ _ gb143 31 #[.int .i64 t144,.slice Ao8 t145.length co8] (0,0) _ rfl Z.bs Tryz.underlying31 rfl (by kernel_rfl)) rfl ?_
 exact⟨_,Z.e_,by (with_reducible repeat (first|apply Kd.R_alloc|apply Kd.R_drewN|apply Kd.R_drew));exact Kd.R_mono (Kd.R_far (p:=⟨gb143,1,none⟩) (Kd.R_far (p:=⟨gb143,0,none⟩) (Kd.R_types HO147.out BK143.out (by decide)) (fun _ hk=>hk.2) (.int .i64 t144)) (fun _ hk=>hk.2) (.slice Ao8 t145.length co8)) (fun _ hk=>trivial),Z.bl⟩
def tzRen:Go.Shelf.Ren:=⟨fun|29=>115|n=>n,fun|22=>39|25=>150|3=>3|4=>4|5=>5|54=>177|n=>n,fun|1=>0|n=>n⟩
theorem tzLays:Go.Proofs.Lays7.n29 Tryz.prog tzRen:={
 mixed:=by kernel_rfl
 f29:=Tryz.func115.trans (congrArg some (by kernel_rfl))
 t0:=Tryz.underlying0
 a0:=Tryz.isAgg0
 z0:=Tryz.sizeOf0
 v0:=Tryz.zeroValue0
 i0:=by kernel_rfl
 t3:=Tryz.underlying3
 a3:=Tryz.isAgg3
 z3:=Tryz.sizeOf3
 v3:=Tryz.zeroValue3
 i3:=by kernel_rfl
 t4:=Tryz.underlying4
 a4:=Tryz.isAgg4
 z4:=Tryz.sizeOf4
 v4:=Tryz.zeroValue4
 i4:=by kernel_rfl
 t5:=Tryz.underlying5
 a5:=Tryz.isAgg5
 z5:=Tryz.sizeOf5
 v5:=Tryz.zeroValue5
 i5:=by kernel_rfl
 t22:=Tryz.underlying39
 a22:=Tryz.isAgg39
 z22:=Tryz.sizeOf39
 v22:=Tryz.zeroValue39
 i22:=by kernel_rfl
 t25:=Tryz.underlying150
 a25:=Tryz.isAgg150
 z25:=Tryz.sizeOf150
 v25:=Tryz.zeroValue150
 i25:=by kernel_rfl
 t54:=Tryz.underlying177
 a54:=Tryz.isAgg177
 z54:=Tryz.sizeOf177
 g1:=by kernel_rfl}
structure TzOk (w:World):Prop where
 at_:TabAt 0 Lib.deBruijn64tab w
theorem TzOk.below {w w1:World} (h:TzOk w) (hb:Below w.heap.size w w1):TzOk w1:=⟨fun j hj=>pw_cell_below hb (h.at_ j hj)⟩
theorem TzOk.drewN {w:World} (h:TzOk w) (n:Nat):TzOk (w.drewN n):=h.below (pw_below_drewN (Below.refl _ _) n)
theorem TzOk.drew {w:World} (h:TzOk w):TzOk w.drew:=h.below (below_drew1 (Below.refl _ _))
theorem TzOk.alloc {w:World} (h:TzOk w) (o:Obj):TzOk (w.alloc o):=h.below (below_alloc (Below.refl _ _) o)
theorem TzOk.it {w:World} (h:TzOk w:=by repeat (first|exact HT.out|exact TzOk.below HT.out Z.bl|(with_reducible refine TzOk.alloc ?_ _)|(with_reducible refine TzOk.drewN ?_ _)|(with_reducible refine TzOk.drew ?_))):TzOk w:=h
def bits_TrailingZeros64.f (a0:Int):Option (Int):=if 0≤a0 then (if a0≤18446744073709551615 then some ((Lib.ctz 64 a0.toNat:Nat):Int) else none) else none
theorem bits_TrailingZeros64.calls (a0:Int) (r:Int) (w:World) (hT:TzOk w) (h:bits_TrailingZeros64.f a0=some r):
  Calls Tryz.prog 115 #[.int .u64 a0] w fun e w'=>e=.returned (.int .i64 r)∧Drawn0 w w':=by
 unfold bits_TrailingZeros64.f at h
 by_cases c1:0≤a0
 ·rw[if_pos c1] at h
  by_cases c2:a0≤18446744073709551615
  ·rw[if_pos c2] at h
   cases h
   have hx:=(Any7.bits_TrailingZeros64 tzLays a0.toNat (by omega) w (fun _=>hT.at_)).mono (fun e w' (hh:_∧_)=>(⟨hh.1,hh.2▸Drawn0.refl _⟩:e=.returned (.int .i64 ((Lib.ctz 64 a0.toNat:Nat):Int))∧Drawn0 w w'))
   rw[show ((a0.toNat:Nat):Int)=a0 by omega] at hx
   exact hx
  ·rw[if_neg c2] at h;cases h
 ·rw[if_neg c1] at h;cases h
end Go.Proofs.YtmmfchnbfnegnaaGreatDoor.GK
end
section
namespace Go.Proofs.YtmmfchnbfnegnaaGreatDoor.GK
open Go.RowKit Go.Proofs.YtmmfchnbfnegnaaGreatDoorW.PrintWords Go.Proofs.YtmmfchnbfnegnaaGreatDoorW.PrintLast Go.Proofs.YtmmfchnbfnegnaaGreatDoorW.PrintMore
attribute [local go_sem] max2_int min2_int max_two min_two max_three min_three max_four min_four
set_option linter.unusedVariables false
set_option linter.unusedSimpArgs false
def putW (v:Bool) (x:Int) (j:Nat):Int:=if v=true then bits .or .u64 x (shl .u64 1 (j:Int)) else bits .andNot .u64 x (shl .u64 1 (j:Int))
set_option maxHeartbeats 4000000 in
set_option maxRecDepth 100000 in
theorem list_put_calls (v:Bool) (g go cap j q r:Nat) (i:Int) (n:Int) (l:List Int) (w:World) (base:Nat) (ok:Nat→Prop) (hi:i=(j:Int)) (hq:q=j / 64) (hr:r=j % 64) (hj:q < l.length) (hjm:j≤9223372036854775807)
  (hg:w.heap[g]? =some (.cells #[.int .i64 n,.slice (some ⟨go,0,none⟩) l.length cap] 116 (0,0))) (hR:Kd.R (Kd.int .u64) 39 w base ok (.slice (some ⟨go,0,none⟩) l.length cap) l):
  Calls Tryz.prog 49 #[.pointer (some ⟨g,0,none⟩),.int .i64 i,.bool v] w fun e w'=>e=.returned (.tuple #[])∧Kd.R (Kd.int .u64) 39 w' base ok (.slice (some ⟨go,0,none⟩) l.length cap) (l.set q (putW v (rd l (q:Int)) r))∧w.grownBy w' (some go):=by
 subst hi
 have hc1:=Z.c1 hg
 obtain⟨hx,hfz⟩:=Kd.R_celln 0 hR (q:Int) (by omega) (by omega)
 rw[Int.toNat_natCast] at hx hfz
 obtain⟨x,hxx⟩:∃x,x=rdOf 0 l (q:Int):=⟨_,rfl⟩
 rw[←hxx] at hx
 have ex:rd l (q:Int)=x:=hxx.symm
 have hRd:=Kd.R_drew hR
 rw[ex]
 have kq:IntKind.i64.wrap ((j:Int) / 64)=(q:Int):=by rw[i64_w];unfold wrap64;omega
 have kr:(j:Int).tmod 64=(r:Int):=by rw[Int.tmod_eq_emod_of_nonneg (by omega)];omega
 have k1:(q:Int) < (l.length:Int):=by omega
 have k3:(r:Int) < 64:=by omega
 have k4:r < 64:=by omega
 have kL:=As (show l.length=l.length from rfl)
 have sh:∀y:Int,shl .u64 1 (r:Int)=y→IntKind.u64.wrap (2 ^ r)=y:=fun y hy=>by rw[←hy];unfold shl;rw[Int.one_mul,Int.toNat_natCast,Nat.min_eq_left (by simp[IntKind.bits];omega)]
 obtain⟨y,hy⟩:∃y,shl .u64 1 (r:Int)=y:=⟨_,rfl⟩
 have sh2:=sh y hy
 unfold putW
 rw[hy]
 have hP:=As (fun z=>Kd.R_putg (h1:=fun _=>rfl) hRd (q:Int) z)
 clear hxx ex hR hRd hg hq hr hy sh
 cases v
 ·obtain⟨z,hz⟩:∃z,bits .andNot .u64 x y=z:=⟨_,rfl⟩
  have hPz:=As (hP.out z)
  rw[if_neg (by decide),hz]
  clear hP
  go_enter Tryz.func49,Tryz.ntmps49
  go_wp2
  go_still_tail 14,(by kernel_rfl)
  change wpList _ _ _ _ _ w.drew
  go_wp2
  go_end0
  have hh:=hPz.out
  rw[Int.toNat_natCast] at hh
  exact⟨rfl,hh.1,⟨hh.2.os,hh.2.tape,hh.2.output,hh.2.size,hh.2.block⟩⟩
 ·obtain⟨z,hz⟩:∃z,bits .or .u64 x y=z:=⟨_,rfl⟩
  have hPz:=As (hP.out z)
  rw[if_pos rfl,hz]
  clear hP
  go_enter Tryz.func49,Tryz.ntmps49
  go_wp2
  go_still_tail 14,(by kernel_rfl)
  change wpList _ _ _ _ _ w.drew
  go_wp2
  go_end0
  have hh:=hPz.out
  rw[Int.toNat_natCast] at hh
  exact⟨rfl,hh.1,⟨hh.2.os,hh.2.tape,hh.2.output,hh.2.size,hh.2.block⟩⟩
def bits_Put.f (k:Nat) (n:Int) (l:List Int) (i:Int) (v:Bool):Option (Int×List Int×Int):=(bits_Check.f k n l).bind fun t1=>if t1=0 then ((bits_Own.f n l).bind fun b=>if i < 0 then some (b.1,b.2,1) else if i≥n then some (b.1,b.2,1) else if i.toNat / 64 < b.2.length then (if i≤9223372036854775807 then some (b.1,b.2.set (i.toNat / 64) (putW v (rd b.2 ((i.toNat / 64:Nat):Int)) (i.toNat % 64)),0) else none) else none) else some (0,[],t1)
theorem bits_Put.mono:∀a0 a1 a2 a3 k,LeO (bits_Put.f k a0 a1 a2 a3) (bits_Put.f (k + 1) a0 a1 a2 a3):=by
 intro a0 a1 a2 a3 k
 unfold bits_Put.f
 exact LeO.bind (bits_Check.mono _ _ _) (fun _=>LeO.refl _)
set_option maxHeartbeats 8000000 in
set_option maxRecDepth 100000 in
theorem bits_Put.calls (k:Nat) (n:Int) (A:Option Addr) (c:Nat) (l:List Int) (i:Int) (v:Bool) (r1:Int) (r2:List Int) (r3:Int) (w:World) (hr0:Kd.C (Kd.int .u64) w A l.length l) (hc0:l.length≤c) (h:bits_Put.f k n l i v=some (r1,r2,r3)):
  Calls Tryz.prog 17 #[.agg #[.int .i64 n,.slice A l.length c],.int .i64 i,.bool v] w fun e w'=>∃v1_:Value,e=.returned (.tuple #[.agg #[.int .i64 r1,v1_],.int .i64 r3])∧Kd.R (Kd.int .u64) 39 w' w.heap.size (fun _=>True) v1_ r2∧Below w.heap.size w w':=by
 have hu:=Tryz.underlying29
 have HR0:=As hr0
 have HC0:=As hc0
 clear hr0 hc0
 have HB:=As (Below.refl w.heap.size w)
 have H:=h
 clear h
 unfold bits_Put.f at H
 replace H:=Option.bind_eq_some_iff.mp H
 obtain⟨t1,A1,H⟩:=H
 replace A1:=As A1
 by_cases c5:t1=0
 ·rw[if_pos c5] at H
  subst c5
  replace H:=Option.bind_eq_some_iff.mp H
  obtain⟨⟨t2,t3⟩,A2,H⟩:=H
  replace A2:=As A2
  simp only at H
  by_cases c6:i < 0
  ·rw[if_pos c6] at H
   have c6b:=decide_eq_true c6
   clear c6
   simp only[Option.some.injEq,Prod.mk.injEq] at H
   obtain⟨rfl,rfl,rfl⟩:=H
   go_enter Tryz.func17,Tryz.ntmps17
   go_wp2_with (first|((with_reducible refine gate_dst (N:=3) rfl ?_);refine Z.bx 3 #[.int .i64 n,.slice A l.length c] 29 fun gb3 hg w_ hbox hb=>?_;have BK3:=As hbox;have GE3:=Z.ge hg;replace HB:=Z.sb hb;clear hb hbox hg)|((with_reducible refine gate_dst (N:=6) rfl ?_);refine Z.bx 6 #[.int .i64 0,.slice none 0 0] 29 fun gb6 hg w_ hbox hb=>?_;have BK6:=As hbox;have GE6:=Z.ge hg;have NB6_3:=Z.ng BK3 hg;replace HB:=Z.sb hb;replace BK3:=Z.kb BK3 hb;clear hb hbox hg;obtain⟨hcz3_0,hfz3_0,hcz3_1,hfz3_1⟩:=Z.b2 BK3)|((with_reducible refine gate_callee (f:=47) rfl ?_);refine Z.gl 11 Tryz.func47 #[.agg #[.int .i64 n,.slice A l.length c]] ?_;(with_reducible refine (bits_Check.calls k n _ _ l 0 _ ?side1 ?side2 A1.out).mono ?_);(case side1=>exact (Kd.C_below HR0.out HB.out));(case side2=>exact HC0.out);rintro e w16 ⟨rfl,hb⟩;refine⟨_,rfl,?_⟩;clear hcz3_0 hfz3_0 hcz3_1 hfz3_1;replace HB:=Z.sb hb;replace BK3:=Z.kb BK3 hb;replace BK6:=Z.kb BK6 hb;clear hb;obtain⟨hcz3_0,hfz3_0,hcz3_1,hfz3_1⟩:=Z.b2 BK3)|((with_reducible refine gate_callee (f:=48) rfl ?_);refine Z.gl 17 Tryz.func48 #[.agg #[.int .i64 n,.slice A l.length c]] ?_;(with_reducible refine (bits_Own.calls n _ _ l t2 t3 _ ?side1 ?side2 A2.out).mono ?_);(case side1=>exact (Kd.C_below HR0.out HB.out));(case side2=>exact HC0.out);rintro e w18 ⟨v1_,rfl,ho0,hb⟩;refine⟨_,rfl,?_⟩;clear hcz3_0 hfz3_0 hcz3_1 hfz3_1;have HO:=As (Kd.R_lower ho0 (below_size Z.bl));replace HB:=Z.sb hb;replace BK3:=Z.kb BK3 hb;replace BK6:=Z.kb BK6 hb;clear hb ho0;obtain⟨Ao,co,eo⟩:=Kd.R_slice HO.out;subst eo)|((with_reducible refine gate_dst (N:=19) rfl ?_);refine Z.bx 19 #[.int .i64 t2,.slice Ao t3.length co] 116 fun gb19 hg w_ hbox hb=>?_;have BK19:=As hbox;have GE19:=Z.ge hg;have NB19_3:=Z.ng BK3 hg;have NB19_6:=Z.ng BK6 hg;replace HO:=As (Kd.R_below (by (with_reducible repeat (first|apply Kd.R_alloc|apply Kd.R_drewN|apply Kd.R_drew));exact HO.out) hb);replace HB:=Z.sb hb;replace BK3:=Z.kb BK3 hb;replace BK6:=Z.kb BK6 hb;clear hb hbox hg;obtain⟨hcz3_0,hfz3_0,hcz3_1,hfz3_1⟩:=Z.b2 BK3;obtain⟨hcz6_0,hfz6_0,hcz6_1,hfz6_1⟩:=Z.b2 BK6;obtain⟨hcz19_0,hfz19_0,hcz19_1,hfz19_1⟩:=Z.b2 BK19))
   refine bodyPost_ret (results_ct rfl _ _ gb6 29 #[.int .i64 t2,.slice Ao t3.length co] (0,0) _ rfl Z.bs Tryz.underlying29 rfl (by kernel_rfl)) rfl ?_
   exact⟨_,rfl,by (with_reducible repeat (first|apply Kd.R_alloc|apply Kd.R_drewN|apply Kd.R_drew));exact Kd.R_mono (Kd.R_far (p:=⟨gb6,1,none⟩) (Kd.R_far (p:=⟨gb6,0,none⟩) (Kd.R_types HO.out BK6.out (by decide)) (fun _ hk=>hk.2) (.int .i64 t2)) (fun _ hk=>hk.2) (.slice Ao t3.length co)) (fun _ hk=>trivial),Z.bl⟩
  rw[if_neg c6] at H
  have c6b:=decide_eq_false c6
  by_cases c7:i≥n
  ·rw[if_pos c7] at H
   have c7b:decide (n≤i)=true:=decide_eq_true c7
   clear c6 c7
   simp only[Option.some.injEq,Prod.mk.injEq] at H
   obtain⟨rfl,rfl,rfl⟩:=H
   go_enter Tryz.func17,Tryz.ntmps17
   go_wp2_with (first|((with_reducible refine gate_dst (N:=3) rfl ?_);refine Z.bx 3 #[.int .i64 n,.slice A l.length c] 29 fun gb3 hg w_ hbox hb=>?_;have BK3:=As hbox;have GE3:=Z.ge hg;replace HB:=Z.sb hb;clear hb hbox hg)|((with_reducible refine gate_dst (N:=6) rfl ?_);refine Z.bx 6 #[.int .i64 0,.slice none 0 0] 29 fun gb6 hg w_ hbox hb=>?_;have BK6:=As hbox;have GE6:=Z.ge hg;have NB6_3:=Z.ng BK3 hg;replace HB:=Z.sb hb;replace BK3:=Z.kb BK3 hb;clear hb hbox hg;obtain⟨hcz3_0,hfz3_0,hcz3_1,hfz3_1⟩:=Z.b2 BK3)|((with_reducible refine gate_callee (f:=47) rfl ?_);refine Z.gl 11 Tryz.func47 #[.agg #[.int .i64 n,.slice A l.length c]] ?_;(with_reducible refine (bits_Check.calls k n _ _ l 0 _ ?side1 ?side2 A1.out).mono ?_);(case side1=>exact (Kd.C_below HR0.out HB.out));(case side2=>exact HC0.out);rintro e w16 ⟨rfl,hb⟩;refine⟨_,rfl,?_⟩;clear hcz3_0 hfz3_0 hcz3_1 hfz3_1;replace HB:=Z.sb hb;replace BK3:=Z.kb BK3 hb;replace BK6:=Z.kb BK6 hb;clear hb;obtain⟨hcz3_0,hfz3_0,hcz3_1,hfz3_1⟩:=Z.b2 BK3)|((with_reducible refine gate_callee (f:=48) rfl ?_);refine Z.gl 17 Tryz.func48 #[.agg #[.int .i64 n,.slice A l.length c]] ?_;(with_reducible refine (bits_Own.calls n _ _ l t2 t3 _ ?side1 ?side2 A2.out).mono ?_);(case side1=>exact (Kd.C_below HR0.out HB.out));(case side2=>exact HC0.out);rintro e w18 ⟨v1_,rfl,ho0,hb⟩;refine⟨_,rfl,?_⟩;clear hcz3_0 hfz3_0 hcz3_1 hfz3_1;have HO:=As (Kd.R_lower ho0 (below_size Z.bl));replace HB:=Z.sb hb;replace BK3:=Z.kb BK3 hb;replace BK6:=Z.kb BK6 hb;clear hb ho0;obtain⟨Ao,co,eo⟩:=Kd.R_slice HO.out;subst eo)|((with_reducible refine gate_dst (N:=19) rfl ?_);refine Z.bx 19 #[.int .i64 t2,.slice Ao t3.length co] 116 fun gb19 hg w_ hbox hb=>?_;have BK19:=As hbox;have GE19:=Z.ge hg;have NB19_3:=Z.ng BK3 hg;have NB19_6:=Z.ng BK6 hg;replace HO:=As (Kd.R_below (by (with_reducible repeat (first|apply Kd.R_alloc|apply Kd.R_drewN|apply Kd.R_drew));exact HO.out) hb);replace HB:=Z.sb hb;replace BK3:=Z.kb BK3 hb;replace BK6:=Z.kb BK6 hb;clear hb hbox hg;obtain⟨hcz3_0,hfz3_0,hcz3_1,hfz3_1⟩:=Z.b2 BK3;obtain⟨hcz6_0,hfz6_0,hcz6_1,hfz6_1⟩:=Z.b2 BK6;obtain⟨hcz19_0,hfz19_0,hcz19_1,hfz19_1⟩:=Z.b2 BK19))
   refine bodyPost_ret (results_ct rfl _ _ gb6 29 #[.int .i64 t2,.slice Ao t3.length co] (0,0) _ rfl Z.bs Tryz.underlying29 rfl (by kernel_rfl)) rfl ?_
   exact⟨_,rfl,by (with_reducible repeat (first|apply Kd.R_alloc|apply Kd.R_drewN|apply Kd.R_drew));exact Kd.R_mono (Kd.R_far (p:=⟨gb6,1,none⟩) (Kd.R_far (p:=⟨gb6,0,none⟩) (Kd.R_types HO.out BK6.out (by decide)) (fun _ hk=>hk.2) (.int .i64 t2)) (fun _ hk=>hk.2) (.slice Ao t3.length co)) (fun _ hk=>trivial),Z.bl⟩
  rw[if_neg c7] at H
  have c7b:decide (n≤i)=false:=decide_eq_false c7
  by_cases c8:i.toNat / 64 < t3.length
  ·rw[if_pos c8] at H
   by_cases c9:i≤9223372036854775807
   ·rw[if_pos c9] at H
    obtain⟨j,hj⟩:∃j:Nat,i=(j:Int):=⟨i.toNat,by omega⟩
    obtain⟨q,hq⟩:∃q,q=j / 64:=⟨_,rfl⟩
    obtain⟨r,hr⟩:∃r,r=j % 64:=⟨_,rfl⟩
    have ej:i.toNat=j:=by omega
    rw[ej,←hq,←hr] at H
    have HJ:=As hj
    have HQ:=As hq
    have HRr:=As hr
    have HM:=As (show j≤9223372036854775807 by omega)
    have HP:=As (show q < t3.length by omega)
    clear hj hq hr ej c6 c7 c8 c9
    simp only[Option.some.injEq,Prod.mk.injEq] at H
    obtain⟨rfl,rfl,rfl⟩:=H
    go_enter Tryz.func17,Tryz.ntmps17
    go_wp2_with (first|((with_reducible refine gate_dst (N:=3) rfl ?_);refine Z.bx 3 #[.int .i64 n,.slice A l.length c] 29 fun gb3 hg w_ hbox hb=>?_;have BK3:=As hbox;have GE3:=Z.ge hg;replace HB:=Z.sb hb;clear hb hbox hg)|((with_reducible refine gate_dst (N:=6) rfl ?_);refine Z.bx 6 #[.int .i64 0,.slice none 0 0] 29 fun gb6 hg w_ hbox hb=>?_;have BK6:=As hbox;have GE6:=Z.ge hg;have NB6_3:=Z.ng BK3 hg;replace HB:=Z.sb hb;replace BK3:=Z.kb BK3 hb;clear hb hbox hg;obtain⟨hcz3_0,hfz3_0,hcz3_1,hfz3_1⟩:=Z.b2 BK3)|((with_reducible refine gate_callee (f:=47) rfl ?_);refine Z.gl 11 Tryz.func47 #[.agg #[.int .i64 n,.slice A l.length c]] ?_;(with_reducible refine (bits_Check.calls k n _ _ l 0 _ ?side1 ?side2 A1.out).mono ?_);(case side1=>exact (Kd.C_below HR0.out HB.out));(case side2=>exact HC0.out);rintro e w16 ⟨rfl,hb⟩;refine⟨_,rfl,?_⟩;clear hcz3_0 hfz3_0 hcz3_1 hfz3_1;replace HB:=Z.sb hb;replace BK3:=Z.kb BK3 hb;replace BK6:=Z.kb BK6 hb;clear hb;obtain⟨hcz3_0,hfz3_0,hcz3_1,hfz3_1⟩:=Z.b2 BK3)|((with_reducible refine gate_callee (f:=48) rfl ?_);refine Z.gl 17 Tryz.func48 #[.agg #[.int .i64 n,.slice A l.length c]] ?_;(with_reducible refine (bits_Own.calls n _ _ l t2 t3 _ ?side1 ?side2 A2.out).mono ?_);(case side1=>exact (Kd.C_below HR0.out HB.out));(case side2=>exact HC0.out);rintro e w18 ⟨v1_,rfl,ho0,hb⟩;refine⟨_,rfl,?_⟩;clear hcz3_0 hfz3_0 hcz3_1 hfz3_1;have HO:=As (Kd.R_lower ho0 (below_size Z.bl));replace HB:=Z.sb hb;replace BK3:=Z.kb BK3 hb;replace BK6:=Z.kb BK6 hb;clear hb ho0;obtain⟨Ao,co,eo⟩:=Kd.R_slice HO.out;subst eo)|((with_reducible refine gate_dst (N:=19) rfl ?_);refine Z.bx 19 #[.int .i64 t2,.slice Ao t3.length co] 116 fun gb19 hg w_ hbox hb=>?_;have BK19:=As hbox;have GE19:=Z.ge hg;have NB19_3:=Z.ng BK3 hg;have NB19_6:=Z.ng BK6 hg;replace HO:=As (Kd.R_below (by (with_reducible repeat (first|apply Kd.R_alloc|apply Kd.R_drewN|apply Kd.R_drew));exact HO.out) hb);replace HB:=Z.sb hb;replace BK3:=Z.kb BK3 hb;replace BK6:=Z.kb BK6 hb;clear hb hbox hg;obtain⟨hcz3_0,hfz3_0,hcz3_1,hfz3_1⟩:=Z.b2 BK3;obtain⟨hcz6_0,hfz6_0,hcz6_1,hfz6_1⟩:=Z.b2 BK6;obtain⟨hcz19_0,hfz19_0,hcz19_1,hfz19_1⟩:=Z.b2 BK19)|((with_reducible refine gate_callee (f:=49) rfl ?_);refine Z.gl 35 Tryz.func49 #[.pointer (some ⟨gb19,0,none⟩),.int .i64 i,.bool v] ?_;obtain⟨go,co_,eo_,gb_,gl_,cl_,HG_⟩:=Kd.R_form HO.out (by have:=HP.out;omega);cases eo_;have GB:=As gb_;clear gb_ gl_ HG_;refine (list_put_calls v gb19 go co j q r i t2 t3 _ _ _ HJ.out HQ.out HRr.out HP.out HM.out BK19.out HO.out).mono ?_;rintro e w30 ⟨rfl,ho,hg⟩;refine⟨_,rfl,?_⟩;replace BK6:=As (blk_grown BK6.out hg (Kd.R_ne HO.out BK6.out (by decide)));replace BK19:=As (blk_grown BK19.out hg (Kd.R_ne HO.out BK19.out (by decide)));replace HB:=As (pw_below_grown HB.out _ (below_size HB.out) hg (fun k_ hk_=>by injection hk_ with hk_;subst hk_;exact GB.out));replace HO:=As ho;clear hcz3_0 hfz3_0 hcz3_1 hfz3_1 hcz6_0 hfz6_0 hcz6_1 hfz6_1 hcz19_0 hfz19_0 hcz19_1 hfz19_1 ho hg;obtain⟨hcz6_0,hfz6_0,hcz6_1,hfz6_1⟩:=Z.b2 BK6;obtain⟨hcz19_0,hfz19_0,hcz19_1,hfz19_1⟩:=Z.b2 BK19))
    refine bodyPost_ret (results_ct rfl _ _ gb6 29 #[.int .i64 t2,.slice (some ⟨go,0,none⟩) t3.length co] (0,0) _ rfl Z.bs Tryz.underlying29 rfl (by kernel_rfl)) rfl ?_
    exact⟨_,rfl,by (with_reducible repeat (first|apply Kd.R_alloc|apply Kd.R_drewN|apply Kd.R_drew));exact Kd.R_mono (Kd.R_far (p:=⟨gb6,1,none⟩) (Kd.R_far (p:=⟨gb6,0,none⟩) (Kd.R_types HO.out BK6.out (by decide)) (fun _ hk=>hk.2) (.int .i64 t2)) (fun _ hk=>hk.2) (.slice (some ⟨go,0,none⟩) t3.length co)) (fun _ hk=>trivial),Z.bl⟩
   ·rw[if_neg c9] at H;cases H
  ·rw[if_neg c8] at H;cases H
 ·rw[if_neg c5] at H
  have c5b0:(t1 == 0)=false:=beq_eq_false_iff_ne.mpr c5
  have c5b1:(t1 != 0)=true:=bne_iff_ne.mpr c5
  clear c5
  simp only[Option.some.injEq,Prod.mk.injEq] at H
  obtain⟨rfl,rfl,rfl⟩:=H
  go_enter Tryz.func17,Tryz.ntmps17
  go_wp2_with (first|((with_reducible refine gate_dst (N:=3) rfl ?_);refine Z.bx 3 #[.int .i64 n,.slice A l.length c] 29 fun gb3 hg w_ hbox hb=>?_;have BK3:=As hbox;have GE3:=Z.ge hg;replace HB:=Z.sb hb;clear hb hbox hg)|((with_reducible refine gate_dst (N:=6) rfl ?_);refine Z.bx 6 #[.int .i64 0,.slice none 0 0] 29 fun gb6 hg w_ hbox hb=>?_;have BK6:=As hbox;have GE6:=Z.ge hg;have NB6_3:=Z.ng BK3 hg;replace HB:=Z.sb hb;replace BK3:=Z.kb BK3 hb;clear hb hbox hg;obtain⟨hcz3_0,hfz3_0,hcz3_1,hfz3_1⟩:=Z.b2 BK3)|((with_reducible refine gate_callee (f:=47) rfl ?_);refine Z.gl 11 Tryz.func47 #[.agg #[.int .i64 n,.slice A l.length c]] ?_;(with_reducible refine (bits_Check.calls k n _ _ l t1 _ ?side1 ?side2 A1.out).mono ?_);(case side1=>exact (Kd.C_below HR0.out HB.out));(case side2=>exact HC0.out);rintro e w16 ⟨rfl,hb⟩;refine⟨_,rfl,?_⟩;clear hcz3_0 hfz3_0 hcz3_1 hfz3_1;replace HB:=Z.sb hb;replace BK3:=Z.kb BK3 hb;replace BK6:=Z.kb BK6 hb;clear hb;obtain⟨hcz6_0,hfz6_0,hcz6_1,hfz6_1⟩:=Z.b2 BK6))
  refine bodyPost_ret (results_ct rfl _ _ gb6 29 #[.int .i64 0,.slice none 0 0] (0,0) _ rfl Z.bs Tryz.underlying29 rfl (by kernel_rfl)) rfl ?_
  exact⟨_,rfl,Kd.R_nil _ _ _ _ _,Z.bl⟩
def bits_OnesCount64.f (a0:Int):Option (Int):=some (Go.bits .and .i64 (wrap64 (IntKind.u64.wrap ((IntKind.u64.wrap ((IntKind.u64.wrap ((Go.bits .and .u64 (IntKind.u64.wrap (((IntKind.u64.wrap ((Go.bits .and .u64 ((IntKind.u64.wrap ((Go.bits .and .u64 (a0 / 2) 6148914691236517205) + (Go.bits .and .u64 a0 6148914691236517205))) / 4) 3689348814741910323) + (Go.bits .and .u64 (IntKind.u64.wrap ((Go.bits .and .u64 (a0 / 2) 6148914691236517205) + (Go.bits .and .u64 a0 6148914691236517205))) 3689348814741910323))) / 16) + (IntKind.u64.wrap ((Go.bits .and .u64 ((IntKind.u64.wrap ((Go.bits .and .u64 (a0 / 2) 6148914691236517205) + (Go.bits .and .u64 a0 6148914691236517205))) / 4) 3689348814741910323) + (Go.bits .and .u64 (IntKind.u64.wrap ((Go.bits .and .u64 (a0 / 2) 6148914691236517205) + (Go.bits .and .u64 a0 6148914691236517205))) 3689348814741910323))))) 1085102592571150095) + ((Go.bits .and .u64 (IntKind.u64.wrap (((IntKind.u64.wrap ((Go.bits .and .u64 ((IntKind.u64.wrap ((Go.bits .and .u64 (a0 / 2) 6148914691236517205) + (Go.bits .and .u64 a0 6148914691236517205))) / 4) 3689348814741910323) + (Go.bits .and .u64 (IntKind.u64.wrap ((Go.bits .and .u64 (a0 / 2) 6148914691236517205) + (Go.bits .and .u64 a0 6148914691236517205))) 3689348814741910323))) / 16) + (IntKind.u64.wrap ((Go.bits .and .u64 ((IntKind.u64.wrap ((Go.bits .and .u64 (a0 / 2) 6148914691236517205) + (Go.bits .and .u64 a0 6148914691236517205))) / 4) 3689348814741910323) + (Go.bits .and .u64 (IntKind.u64.wrap ((Go.bits .and .u64 (a0 / 2) 6148914691236517205) + (Go.bits .and .u64 a0 6148914691236517205))) 3689348814741910323))))) 1085102592571150095) / 256))) + ((IntKind.u64.wrap ((Go.bits .and .u64 (IntKind.u64.wrap (((IntKind.u64.wrap ((Go.bits .and .u64 ((IntKind.u64.wrap ((Go.bits .and .u64 (a0 / 2) 6148914691236517205) + (Go.bits .and .u64 a0 6148914691236517205))) / 4) 3689348814741910323) + (Go.bits .and .u64 (IntKind.u64.wrap ((Go.bits .and .u64 (a0 / 2) 6148914691236517205) + (Go.bits .and .u64 a0 6148914691236517205))) 3689348814741910323))) / 16) + (IntKind.u64.wrap ((Go.bits .and .u64 ((IntKind.u64.wrap ((Go.bits .and .u64 (a0 / 2) 6148914691236517205) + (Go.bits .and .u64 a0 6148914691236517205))) / 4) 3689348814741910323) + (Go.bits .and .u64 (IntKind.u64.wrap ((Go.bits .and .u64 (a0 / 2) 6148914691236517205) + (Go.bits .and .u64 a0 6148914691236517205))) 3689348814741910323))))) 1085102592571150095) + ((Go.bits .and .u64 (IntKind.u64.wrap (((IntKind.u64.wrap ((Go.bits .and .u64 ((IntKind.u64.wrap ((Go.bits .and .u64 (a0 / 2) 6148914691236517205) + (Go.bits .and .u64 a0 6148914691236517205))) / 4) 3689348814741910323) + (Go.bits .and .u64 (IntKind.u64.wrap ((Go.bits .and .u64 (a0 / 2) 6148914691236517205) + (Go.bits .and .u64 a0 6148914691236517205))) 3689348814741910323))) / 16) + (IntKind.u64.wrap ((Go.bits .and .u64 ((IntKind.u64.wrap ((Go.bits .and .u64 (a0 / 2) 6148914691236517205) + (Go.bits .and .u64 a0 6148914691236517205))) / 4) 3689348814741910323) + (Go.bits .and .u64 (IntKind.u64.wrap ((Go.bits .and .u64 (a0 / 2) 6148914691236517205) + (Go.bits .and .u64 a0 6148914691236517205))) 3689348814741910323))))) 1085102592571150095) / 256))) / 65536))) + ((IntKind.u64.wrap ((IntKind.u64.wrap ((Go.bits .and .u64 (IntKind.u64.wrap (((IntKind.u64.wrap ((Go.bits .and .u64 ((IntKind.u64.wrap ((Go.bits .and .u64 (a0 / 2) 6148914691236517205) + (Go.bits .and .u64 a0 6148914691236517205))) / 4) 3689348814741910323) + (Go.bits .and .u64 (IntKind.u64.wrap ((Go.bits .and .u64 (a0 / 2) 6148914691236517205) + (Go.bits .and .u64 a0 6148914691236517205))) 3689348814741910323))) / 16) + (IntKind.u64.wrap ((Go.bits .and .u64 ((IntKind.u64.wrap ((Go.bits .and .u64 (a0 / 2) 6148914691236517205) + (Go.bits .and .u64 a0 6148914691236517205))) / 4) 3689348814741910323) + (Go.bits .and .u64 (IntKind.u64.wrap ((Go.bits .and .u64 (a0 / 2) 6148914691236517205) + (Go.bits .and .u64 a0 6148914691236517205))) 3689348814741910323))))) 1085102592571150095) + ((Go.bits .and .u64 (IntKind.u64.wrap (((IntKind.u64.wrap ((Go.bits .and .u64 ((IntKind.u64.wrap ((Go.bits .and .u64 (a0 / 2) 6148914691236517205) + (Go.bits .and .u64 a0 6148914691236517205))) / 4) 3689348814741910323) + (Go.bits .and .u64 (IntKind.u64.wrap ((Go.bits .and .u64 (a0 / 2) 6148914691236517205) + (Go.bits .and .u64 a0 6148914691236517205))) 3689348814741910323))) / 16) + (IntKind.u64.wrap ((Go.bits .and .u64 ((IntKind.u64.wrap ((Go.bits .and .u64 (a0 / 2) 6148914691236517205) + (Go.bits .and .u64 a0 6148914691236517205))) / 4) 3689348814741910323) + (Go.bits .and .u64 (IntKind.u64.wrap ((Go.bits .and .u64 (a0 / 2) 6148914691236517205) + (Go.bits .and .u64 a0 6148914691236517205))) 3689348814741910323))))) 1085102592571150095) / 256))) + ((IntKind.u64.wrap ((Go.bits .and .u64 (IntKind.u64.wrap (((IntKind.u64.wrap ((Go.bits .and .u64 ((IntKind.u64.wrap ((Go.bits .and .u64 (a0 / 2) 6148914691236517205) + (Go.bits .and .u64 a0 6148914691236517205))) / 4) 3689348814741910323) + (Go.bits .and .u64 (IntKind.u64.wrap ((Go.bits .and .u64 (a0 / 2) 6148914691236517205) + (Go.bits .and .u64 a0 6148914691236517205))) 3689348814741910323))) / 16) + (IntKind.u64.wrap ((Go.bits .and .u64 ((IntKind.u64.wrap ((Go.bits .and .u64 (a0 / 2) 6148914691236517205) + (Go.bits .and .u64 a0 6148914691236517205))) / 4) 3689348814741910323) + (Go.bits .and .u64 (IntKind.u64.wrap ((Go.bits .and .u64 (a0 / 2) 6148914691236517205) + (Go.bits .and .u64 a0 6148914691236517205))) 3689348814741910323))))) 1085102592571150095) + ((Go.bits .and .u64 (IntKind.u64.wrap (((IntKind.u64.wrap ((Go.bits .and .u64 ((IntKind.u64.wrap ((Go.bits .and .u64 (a0 / 2) 6148914691236517205) + (Go.bits .and .u64 a0 6148914691236517205))) / 4) 3689348814741910323) + (Go.bits .and .u64 (IntKind.u64.wrap ((Go.bits .and .u64 (a0 / 2) 6148914691236517205) + (Go.bits .and .u64 a0 6148914691236517205))) 3689348814741910323))) / 16) + (IntKind.u64.wrap ((Go.bits .and .u64 ((IntKind.u64.wrap ((Go.bits .and .u64 (a0 / 2) 6148914691236517205) + (Go.bits .and .u64 a0 6148914691236517205))) / 4) 3689348814741910323) + (Go.bits .and .u64 (IntKind.u64.wrap ((Go.bits .and .u64 (a0 / 2) 6148914691236517205) + (Go.bits .and .u64 a0 6148914691236517205))) 3689348814741910323))))) 1085102592571150095) / 256))) / 65536))) / 4294967296)))) 127)
set_option maxHeartbeats 8000000 in
set_option maxRecDepth 100000 in
theorem bits_OnesCount64.calls (a0:Int) (r:Int) (w:World) (h:bits_OnesCount64.f a0=some r):
  Calls Tryz.prog 50 #[.int .u64 a0] w fun e w'=>e=.returned (.int .i64 r)∧Drawn0 w w':=by
 have H:(some (Go.bits .and .i64 (wrap64 (IntKind.u64.wrap ((IntKind.u64.wrap ((IntKind.u64.wrap ((Go.bits .and .u64 (IntKind.u64.wrap (((IntKind.u64.wrap ((Go.bits .and .u64 ((IntKind.u64.wrap ((Go.bits .and .u64 (a0 / 2) 6148914691236517205) + (Go.bits .and .u64 a0 6148914691236517205))) / 4) 3689348814741910323) + (Go.bits .and .u64 (IntKind.u64.wrap ((Go.bits .and .u64 (a0 / 2) 6148914691236517205) + (Go.bits .and .u64 a0 6148914691236517205))) 3689348814741910323))) / 16) + (IntKind.u64.wrap ((Go.bits .and .u64 ((IntKind.u64.wrap ((Go.bits .and .u64 (a0 / 2) 6148914691236517205) + (Go.bits .and .u64 a0 6148914691236517205))) / 4) 3689348814741910323) + (Go.bits .and .u64 (IntKind.u64.wrap ((Go.bits .and .u64 (a0 / 2) 6148914691236517205) + (Go.bits .and .u64 a0 6148914691236517205))) 3689348814741910323))))) 1085102592571150095) + ((Go.bits .and .u64 (IntKind.u64.wrap (((IntKind.u64.wrap ((Go.bits .and .u64 ((IntKind.u64.wrap ((Go.bits .and .u64 (a0 / 2) 6148914691236517205) + (Go.bits .and .u64 a0 6148914691236517205))) / 4) 3689348814741910323) + (Go.bits .and .u64 (IntKind.u64.wrap ((Go.bits .and .u64 (a0 / 2) 6148914691236517205) + (Go.bits .and .u64 a0 6148914691236517205))) 3689348814741910323))) / 16) + (IntKind.u64.wrap ((Go.bits .and .u64 ((IntKind.u64.wrap ((Go.bits .and .u64 (a0 / 2) 6148914691236517205) + (Go.bits .and .u64 a0 6148914691236517205))) / 4) 3689348814741910323) + (Go.bits .and .u64 (IntKind.u64.wrap ((Go.bits .and .u64 (a0 / 2) 6148914691236517205) + (Go.bits .and .u64 a0 6148914691236517205))) 3689348814741910323))))) 1085102592571150095) / 256))) + ((IntKind.u64.wrap ((Go.bits .and .u64 (IntKind.u64.wrap (((IntKind.u64.wrap ((Go.bits .and .u64 ((IntKind.u64.wrap ((Go.bits .and .u64 (a0 / 2) 6148914691236517205) + (Go.bits .and .u64 a0 6148914691236517205))) / 4) 3689348814741910323) + (Go.bits .and .u64 (IntKind.u64.wrap ((Go.bits .and .u64 (a0 / 2) 6148914691236517205) + (Go.bits .and .u64 a0 6148914691236517205))) 3689348814741910323))) / 16) + (IntKind.u64.wrap ((Go.bits .and .u64 ((IntKind.u64.wrap ((Go.bits .and .u64 (a0 / 2) 6148914691236517205) + (Go.bits .and .u64 a0 6148914691236517205))) / 4) 3689348814741910323) + (Go.bits .and .u64 (IntKind.u64.wrap ((Go.bits .and .u64 (a0 / 2) 6148914691236517205) + (Go.bits .and .u64 a0 6148914691236517205))) 3689348814741910323))))) 1085102592571150095) + ((Go.bits .and .u64 (IntKind.u64.wrap (((IntKind.u64.wrap ((Go.bits .and .u64 ((IntKind.u64.wrap ((Go.bits .and .u64 (a0 / 2) 6148914691236517205) + (Go.bits .and .u64 a0 6148914691236517205))) / 4) 3689348814741910323) + (Go.bits .and .u64 (IntKind.u64.wrap ((Go.bits .and .u64 (a0 / 2) 6148914691236517205) + (Go.bits .and .u64 a0 6148914691236517205))) 3689348814741910323))) / 16) + (IntKind.u64.wrap ((Go.bits .and .u64 ((IntKind.u64.wrap ((Go.bits .and .u64 (a0 / 2) 6148914691236517205) + (Go.bits .and .u64 a0 6148914691236517205))) / 4) 3689348814741910323) + (Go.bits .and .u64 (IntKind.u64.wrap ((Go.bits .and .u64 (a0 / 2) 6148914691236517205) + (Go.bits .and .u64 a0 6148914691236517205))) 3689348814741910323))))) 1085102592571150095) / 256))) / 65536))) + ((IntKind.u64.wrap ((IntKind.u64.wrap ((Go.bits .and .u64 (IntKind.u64.wrap (((IntKind.u64.wrap ((Go.bits .and .u64 ((IntKind.u64.wrap ((Go.bits .and .u64 (a0 / 2) 6148914691236517205) + (Go.bits .and .u64 a0 6148914691236517205))) / 4) 3689348814741910323) + (Go.bits .and .u64 (IntKind.u64.wrap ((Go.bits .and .u64 (a0 / 2) 6148914691236517205) + (Go.bits .and .u64 a0 6148914691236517205))) 3689348814741910323))) / 16) + (IntKind.u64.wrap ((Go.bits .and .u64 ((IntKind.u64.wrap ((Go.bits .and .u64 (a0 / 2) 6148914691236517205) + (Go.bits .and .u64 a0 6148914691236517205))) / 4) 3689348814741910323) + (Go.bits .and .u64 (IntKind.u64.wrap ((Go.bits .and .u64 (a0 / 2) 6148914691236517205) + (Go.bits .and .u64 a0 6148914691236517205))) 3689348814741910323))))) 1085102592571150095) + ((Go.bits .and .u64 (IntKind.u64.wrap (((IntKind.u64.wrap ((Go.bits .and .u64 ((IntKind.u64.wrap ((Go.bits .and .u64 (a0 / 2) 6148914691236517205) + (Go.bits .and .u64 a0 6148914691236517205))) / 4) 3689348814741910323) + (Go.bits .and .u64 (IntKind.u64.wrap ((Go.bits .and .u64 (a0 / 2) 6148914691236517205) + (Go.bits .and .u64 a0 6148914691236517205))) 3689348814741910323))) / 16) + (IntKind.u64.wrap ((Go.bits .and .u64 ((IntKind.u64.wrap ((Go.bits .and .u64 (a0 / 2) 6148914691236517205) + (Go.bits .and .u64 a0 6148914691236517205))) / 4) 3689348814741910323) + (Go.bits .and .u64 (IntKind.u64.wrap ((Go.bits .and .u64 (a0 / 2) 6148914691236517205) + (Go.bits .and .u64 a0 6148914691236517205))) 3689348814741910323))))) 1085102592571150095) / 256))) + ((IntKind.u64.wrap ((Go.bits .and .u64 (IntKind.u64.wrap (((IntKind.u64.wrap ((Go.bits .and .u64 ((IntKind.u64.wrap ((Go.bits .and .u64 (a0 / 2) 6148914691236517205) + (Go.bits .and .u64 a0 6148914691236517205))) / 4) 3689348814741910323) + (Go.bits .and .u64 (IntKind.u64.wrap ((Go.bits .and .u64 (a0 / 2) 6148914691236517205) + (Go.bits .and .u64 a0 6148914691236517205))) 3689348814741910323))) / 16) + (IntKind.u64.wrap ((Go.bits .and .u64 ((IntKind.u64.wrap ((Go.bits .and .u64 (a0 / 2) 6148914691236517205) + (Go.bits .and .u64 a0 6148914691236517205))) / 4) 3689348814741910323) + (Go.bits .and .u64 (IntKind.u64.wrap ((Go.bits .and .u64 (a0 / 2) 6148914691236517205) + (Go.bits .and .u64 a0 6148914691236517205))) 3689348814741910323))))) 1085102592571150095) + ((Go.bits .and .u64 (IntKind.u64.wrap (((IntKind.u64.wrap ((Go.bits .and .u64 ((IntKind.u64.wrap ((Go.bits .and .u64 (a0 / 2) 6148914691236517205) + (Go.bits .and .u64 a0 6148914691236517205))) / 4) 3689348814741910323) + (Go.bits .and .u64 (IntKind.u64.wrap ((Go.bits .and .u64 (a0 / 2) 6148914691236517205) + (Go.bits .and .u64 a0 6148914691236517205))) 3689348814741910323))) / 16) + (IntKind.u64.wrap ((Go.bits .and .u64 ((IntKind.u64.wrap ((Go.bits .and .u64 (a0 / 2) 6148914691236517205) + (Go.bits .and .u64 a0 6148914691236517205))) / 4) 3689348814741910323) + (Go.bits .and .u64 (IntKind.u64.wrap ((Go.bits .and .u64 (a0 / 2) 6148914691236517205) + (Go.bits .and .u64 a0 6148914691236517205))) 3689348814741910323))))) 1085102592571150095) / 256))) / 65536))) / 4294967296)))) 127))=some r:=h
 clear h
 obtain rfl:=Option.some.inj H
 go_enter Tryz.func50,Tryz.ntmps50
 go_wp2
 go_ret
 exact⟨Z.r_,Z.dr⟩
def bits_Count.l0:Nat→Int→List Int→Int→Int→Option (Int×Int)
 |0,_,_,_,_=>none
 |k + 1,x5,x14,x15,x16=>if x16 < x15 then (if 0≤x16 then (if x16 < (x14.length:Int) then ((bits_OnesCount64.f (rd x14 x16)).bind fun t115=>(bits_Count.l0 k (wrap64 (x5 + t115)) x14 x15 (wrap64 (x16 + 1)))) else (none)) else (none)) else (some (x5,0))
def bits_Count.f (k:Nat) (a0_0:Int) (l0_1:List Int):Option (Int×Int):=(bits_Check.f k a0_0 l0_1).bind fun t113=>(if t113=0 then (bits_Count.l0 k 0 l0_1 (l0_1.length:Int) 0) else (some (0,t113)))
theorem bits_Count.mono_l:∀k,(∀y0 y1 y2 y3,LeO (bits_Count.l0 k y0 y1 y2 y3) (bits_Count.l0 (k + 1) y0 y1 y2 y3))
 |0=>fun _ _ _ _ r h=>by simp[bits_Count.l0] at h
 |k + 1=>by
  have ih0:=bits_Count.mono_l k
  ·intro y0 y1 y2 y3
   unfold bits_Count.l0
   repeat' first
   |(with_reducible exact ih0 _ _ _ _)
   |(with_reducible exact bits_Check.mono _ _ _)
   |(with_reducible exact LeO.refl _)
   |(with_reducible exact LeO.none _)
   |(with_reducible refine LeO.ite ?_ ?_)
   |(with_reducible refine LeO.bind ?_ (fun _=>?_))
   |exact ih0 _ _ _ _
   |exact bits_Check.mono _ _ _
   |exact LeO.none _
   |refine LeO.ite ?_ ?_
   |refine LeO.bind ?_ (fun _=>?_)
theorem bits_Count.mono:∀a0 a1 k,LeO (bits_Count.f k a0 a1) (bits_Count.f (k + 1) a0 a1):=by
 intro a0 a1 k
 have ih0:=bits_Count.mono_l k
 unfold bits_Count.f
 repeat' first
   |(with_reducible exact ih0 _ _ _ _)
   |(with_reducible exact bits_Check.mono _ _ _)
   |(with_reducible exact LeO.refl _)
   |(with_reducible exact LeO.none _)
   |(with_reducible refine LeO.ite ?_ ?_)
   |(with_reducible refine LeO.bind ?_ (fun _=>?_))
   |exact ih0 _ _ _ _
   |exact bits_Check.mono _ _ _
   |exact LeO.none _
   |refine LeO.ite ?_ ?_
   |refine LeO.bind ?_ (fun _=>?_)
set_option maxHeartbeats 8000000 in
set_option maxRecDepth 100000 in
theorem bits_Count.calls (k:Nat) (a0_0:Int) (A0_1:Option Addr) (c0_1:Nat) (l0_1:List Int) (r1:Int) (r2:Int) (w:World) (hr0_1:Kd.C (Kd.int .u64) w A0_1 l0_1.length l0_1) (hc0_1:l0_1.length≤c0_1) (h:bits_Count.f k a0_0 l0_1=some (r1,r2)):
  Calls Tryz.prog 18 #[.agg #[.int .i64 a0_0,.slice A0_1 l0_1.length c0_1]] w fun e w'=>e=.returned (.tuple #[.int .i64 r1,.int .i64 r2])∧Below w.heap.size w w':=by
 have hu29:=Tryz.underlying29
 have HR0_1:=As hr0_1
 have HC0_1:=As hc0_1
 clear hr0_1 hc0_1
 have HB:=As (Below.refl w.heap.size w)
 have H:((bits_Check.f k a0_0 l0_1).bind fun t113=>(if t113=0 then (bits_Count.l0 k 0 l0_1 (l0_1.length:Int) 0) else (some (0,t113))))=some (r1,r2):=h
 clear h
 replace H:=Option.bind_eq_some_iff.mp H
 obtain⟨t113,A20,H⟩:=H
 replace H:(if t113=0 then (bits_Count.l0 k 0 l0_1 (l0_1.length:Int) 0) else (some (0,t113)))=some (r1,r2):=H
 have A2:=As A20
 clear A20
 by_cases c3:t113=0
 ·rw[if_pos c3] at H
  have c3b0:(t113 == 0)=true:=beq_iff_eq.mpr c3
  have c3b1:(t113 != 0)=false:=bne_eq_false_iff_eq.mpr c3
  clear c3
  have H':=As H
  clear H
  go_enter Tryz.func18,Tryz.ntmps18
  go_wp2_with (first|((with_reducible refine gate_dst (N:=1) rfl ?_);refine Z.bx 1 #[.int .i64 a0_0,.slice A0_1 l0_1.length c0_1] 29 fun gb112 hg w4 hbox hb=>?_;have BK112:=As hbox;have GW112:=Z.ge hg;have GE112:=Z.ge hg;replace HB:=Z.sb hb;clear hb hbox hg;have hcz5_0:=Z.c0 BK112.out;have hcz5_1:=Z.c1 BK112.out;have hfz5_0:=blk_frozen BK112.out 0;have hfz5_1:=blk_frozen BK112.out 1)|((with_reducible refine gate_callee (f:=47) rfl ?_);refine Z.gl 9 Tryz.func47 #[.agg #[.int .i64 a0_0,.slice A0_1 l0_1.length c0_1]] ?_;(with_reducible refine (bits_Check.calls k a0_0 _ _ l0_1 t113 _ ?side1 ?side2 A2.out).mono ?_);(case side1=>repeat (first|exact (Kd.C_below HR0_1.out HB.out)|(with_reducible refine Kd.C_alloc ?_ _)|(with_reducible refine Kd.C_drewN ?_ _)|(with_reducible refine Kd.C_drew ?_)));(case side2=>exact HC0_1.out);rintro e w6 ⟨rfl,hb⟩;refine⟨_,rfl,?_⟩;replace HB:=Z.sb hb;replace BK112:=Z.kb BK112 hb;(try clear hb);(try clear hb2);(try clear hk);(try clear hi);have hcz7_0:=Z.c0 BK112.out;have hcz7_1:=Z.c1 BK112.out;have hfz7_0:=blk_frozen BK112.out 0;have hfz7_1:=blk_frozen BK112.out 1))
  go_loopg [5,16] k (fun kq v5 v16 w'=>∃(x5_1:Int) (x16_1:Int),v5=.int .i64 x5_1∧v16=.int .i64 x16_1∧Aside0 (bits_Count.l0 kq x5_1 l0_1 (l0_1.length:Int) x16_1=some (r1,r2))∧Aside0 (kq≤k)∧Aside0 (w'.heap[gb112]? =some (.cells #[.int .i64 a0_0,(.slice A0_1 l0_1.length c0_1)] 29 (0,0)))∧Aside0 (Below w.heap.size w w'))
  case atStart=>exact⟨(0),(0),Z.r_,Z.r_,H',⟨Nat.le_refl _⟩,⟨Z.bk⟩,⟨Z.bl⟩⟩
  case round=>
   clear H'
   try clear c1
   try clear p2
   try clear c3
   try clear c3b0
   try clear c3b1
   try clear c4
   try clear hcz5_0
   try clear hcz5_1
   try clear hcz7_0
   try clear hcz7_1
   try clear hfz5_0
   try clear hfz5_1
   try clear hfz7_0
   try clear hfz7_1
   obtain⟨x5_1,x16_1,rfl,rfl,HA,HK1,BK112,HB⟩:=hrel
   cases gk with
   |zero=>exact absurd HA.out (by simp[bits_Count.l0])
   |succ k1=>
    have H:=HA.out
    clear HA
    simp only[bits_Count.l0] at H
    by_cases c8:x16_1 < (l0_1.length:Int)
    ·rw[if_pos c8] at H
     have c8b0:decide (x16_1 < (l0_1.length:Int))=true:=decide_eq_true c8
     clear c8
     by_cases c9:0≤x16_1
     ·rw[if_pos c9] at H
      replace c9:=decide_eq_true c9
      by_cases c10:x16_1 < (l0_1.length:Int)
      ·rw[if_pos c10] at H
       replace c10:=decide_eq_true c10
       replace H:=Option.bind_eq_some_iff.mp H
       obtain⟨t115,A110,H⟩:=H
       replace H:(bits_Count.l0 k1 (wrap64 (x5_1 + t115)) l0_1 (l0_1.length:Int) (wrap64 (x16_1 + 1)))=some (r1,r2):=H
       have A11:=As A110
       clear A110
       have H':=As H
       clear H
       have p114:0≤(x16_1:Int):=Z.od
       have q114:x16_1 < (l0_1.length:Int):=Z.od
       obtain⟨ad114,e114,hx114_0⟩:=Kd.at_int HR0_1.out x16_1 p114 q114
       cases e114
       replace hx114_0:=Z.kc HB hx114_0
       replace p114:=eq_true p114
       replace q114:=eq_true q114
       go_wp2_with (first|((with_reducible refine gate_callee (f:=50) rfl ?_);refine Z.gl 22 Tryz.func50 #[.int .u64 (rd l0_1 x16_1)] ?_;(with_reducible refine (bits_OnesCount64.calls (rd l0_1 x16_1) t115 _ A11.out).mono ?_);rintro e w' ⟨rfl,⟨nd,rfl⟩⟩;refine⟨_,rfl,?_⟩))
       go_roundg k1
       case measure=>have:=HK1.out;omega
       case rel=>exact⟨(wrap64 (x5_1 + t115)),(wrap64 (x16_1 + 1)),Z.r_,Z.r_,H',⟨by have:=HK1.out;omega⟩,⟨Z.bk⟩,⟨Z.bl⟩⟩
      ·rw[if_neg c10] at H
       exact absurd H (by simp)
     ·rw[if_neg c9] at H
      exact absurd H (by simp)
    ·rw[if_neg c8] at H
     have c8b0:decide (x16_1 < (l0_1.length:Int))=false:=decide_eq_false c8
     clear c8
     simp only[Option.some.injEq,Prod.mk.injEq] at H
     obtain⟨rfl,rfl⟩:=H
     go_wp2
     go_ret2
     exact⟨Z.e_,Z.bl⟩
 ·rw[if_neg c3] at H
  have c3b0:(t113 == 0)=false:=beq_eq_false_iff_ne.mpr c3
  have c3b1:(t113 != 0)=true:=bne_iff_ne.mpr c3
  simp only[Option.some.injEq,Prod.mk.injEq] at H
  obtain⟨rfl,rfl⟩:=H
  go_enter Tryz.func18,Tryz.ntmps18
  go_wp2_with (first|((with_reducible refine gate_dst (N:=1) rfl ?_);refine Z.bx 1 #[.int .i64 a0_0,.slice A0_1 l0_1.length c0_1] 29 fun gb112 hg w12 hbox hb=>?_;have BK112:=As hbox;have GW112:=Z.ge hg;have GE112:=Z.ge hg;replace HB:=Z.sb hb;clear hb hbox hg;have hcz13_0:=Z.c0 BK112.out;have hcz13_1:=Z.c1 BK112.out;have hfz13_0:=blk_frozen BK112.out 0;have hfz13_1:=blk_frozen BK112.out 1)|((with_reducible refine gate_callee (f:=47) rfl ?_);refine Z.gl 9 Tryz.func47 #[.agg #[.int .i64 a0_0,.slice A0_1 l0_1.length c0_1]] ?_;(with_reducible refine (bits_Check.calls k a0_0 _ _ l0_1 t113 _ ?side1 ?side2 A2.out).mono ?_);(case side1=>repeat (first|exact (Kd.C_below HR0_1.out HB.out)|(with_reducible refine Kd.C_alloc ?_ _)|(with_reducible refine Kd.C_drewN ?_ _)|(with_reducible refine Kd.C_drew ?_)));(case side2=>exact HC0_1.out);rintro e w14 ⟨rfl,hb⟩;refine⟨_,rfl,?_⟩;replace HB:=Z.sb hb;replace BK112:=Z.kb BK112 hb;(try clear hb);(try clear hb2);(try clear hk);(try clear hi)))
  go_ret2
  exact⟨Z.e_,Z.bl⟩
def besomtop_begins.f (k:Nat):Option (Bool):=(bits_Make.f 70).bind fun bt116=>((bits_Put.f k bt116.1 bt116.2.1 69 true).bind fun bt122=>((bits_Count.f k bt122.1 bt122.2.1).bind fun bt127=>(if bt116.2.2=0 then (if bt122.2.2=0 then (if bt127.1=1 then (some (bt127.2 == 0)) else (some false)) else (some false)) else (some false))))
theorem besomtop_begins.mono:∀k,LeO (besomtop_begins.f k) (besomtop_begins.f (k + 1)):=by
 intro k
 unfold besomtop_begins.f
 repeat' first
   |(with_reducible exact bits_Count.mono _ _ _)
   |(with_reducible exact bits_Put.mono _ _ _ _ _)
   |(with_reducible exact LeO.refl _)
   |(with_reducible exact LeO.none _)
   |(with_reducible refine LeO.ite ?_ ?_)
   |(with_reducible refine LeO.bind ?_ (fun _=>?_))
   |exact bits_Count.mono _ _ _
   |exact bits_Put.mono _ _ _ _ _
   |exact LeO.none _
   |refine LeO.ite ?_ ?_
   |refine LeO.bind ?_ (fun _=>?_)
theorem besomtop_begins.run_:besomtop_begins.f 60=some true:=by decide +kernel
theorem besomtop_begins.true_ (k:Nat) (r:Bool) (h:besomtop_begins.f k=some r):r=true:=by
 have h1:=at_rounds (g:=fun k=>besomtop_begins.f k) besomtop_begins.mono (k:=k) (k':=k + 60) (by omega) h
 have h2:=at_rounds (g:=fun k=>besomtop_begins.f k) besomtop_begins.mono (k:=60) (k':=k + 60) (by omega) besomtop_begins.run_
 replace h1:besomtop_begins.f (k + 60)=some r:=h1
 replace h2:besomtop_begins.f (k + 60)=some true:=h2
 rw[h1] at h2;exact Option.some.inj h2
set_option maxHeartbeats 8000000 in
set_option maxRecDepth 100000 in
theorem besomtop_begins.calls (k:Nat) (r:Bool) (w:World) (h:besomtop_begins.f k=some r):
  Calls Tryz.prog 4 #[] w fun e w'=>e=.returned (.bool r)∧Below w.heap.size w w':=by
 have hu29:=Tryz.underlying29
 have HB:=As (Below.refl w.heap.size w)
 have H:((bits_Make.f 70).bind fun bt116=>((bits_Put.f k bt116.1 bt116.2.1 69 true).bind fun bt122=>((bits_Count.f k bt122.1 bt122.2.1).bind fun bt127=>(if bt116.2.2=0 then (if bt122.2.2=0 then (if bt127.1=1 then (some (bt127.2 == 0)) else (some false)) else (some false)) else (some false)))))=some r:=h
 clear h
 have HLAW:=As (besomtop_begins.true_ k r H)
 replace H:=Option.bind_eq_some_iff.mp H
 obtain⟨⟨t116,t117,t120⟩,A10,H⟩:=H
 replace H:((bits_Put.f k t116 t117 69 true).bind fun bt122=>((bits_Count.f k bt122.1 bt122.2.1).bind fun bt127=>(if t120=0 then (if bt122.2.2=0 then (if bt127.1=1 then (some (bt127.2 == 0)) else (some false)) else (some false)) else (some false))))=some r:=H
 have A1:=As A10
 clear A10
 replace H:=Option.bind_eq_some_iff.mp H
 obtain⟨⟨t122,t123,t126⟩,A20,H⟩:=H
 replace H:((bits_Count.f k t122 t123).bind fun bt127=>(if t120=0 then (if t126=0 then (if bt127.1=1 then (some (bt127.2 == 0)) else (some false)) else (some false)) else (some false)))=some r:=H
 have A2:=As A20
 clear A20
 replace H:=Option.bind_eq_some_iff.mp H
 obtain⟨⟨t127,t128⟩,A30,H⟩:=H
 replace H:(if t120=0 then (if t126=0 then (if t127=1 then (some (t128 == 0)) else (some false)) else (some false)) else (some false))=some r:=H
 have A3:=As A30
 clear A30
 by_cases c4:t120=0
 ·rw[if_pos c4] at H
  have c4b0:(t120 == 0)=true:=beq_iff_eq.mpr c4
  have c4b1:(t120 != 0)=false:=bne_eq_false_iff_eq.mpr c4
  clear c4
  by_cases c5:t126=0
  ·rw[if_pos c5] at H
   have c5b0:(t126 == 0)=true:=beq_iff_eq.mpr c5
   have c5b1:(t126 != 0)=false:=bne_eq_false_iff_eq.mpr c5
   clear c5
   by_cases c6:t127=1
   ·rw[if_pos c6] at H
    have c6b0:(t127 == 1)=true:=beq_iff_eq.mpr c6
    have c6b1:(t127 != 1)=false:=bne_eq_false_iff_eq.mpr c6
    clear c6
    obtain rfl:=Option.some.inj H
    go_enter Tryz.func4,Tryz.ntmps4
    go_wp2_with (first|((with_reducible refine gate_callee (f:=16) rfl ?_);refine Z.gl 7 Tryz.func16 #[.int .i64 70] ?_;(with_reducible refine (bits_Make.calls 70 t116 t117 t120 _ A1.out).mono ?_);rintro e w7 ⟨v118,rfl,ho0,hb⟩;refine⟨_,rfl,?_⟩;have HO119:=As (Kd.R_lower ho0 (below_size Z.bl));replace HB:=Z.sb hb;(try clear hb);(try clear hb2);(try clear hk);(try clear hi);(try clear ho0))|((with_reducible refine gate_dst (N:=1) rfl ?_);refine Z.bx 1 #[.int .i64 0,.slice none 0 0] 29 fun gb121 hg w8 hbox hb=>?_;have BK121:=As hbox;have GW121:=Z.ge hg;have GE121:=Z.ge hg;replace HO119:=As (Kd.R_below (by (with_reducible repeat (first|apply Kd.R_alloc|apply Kd.R_drewN|apply Kd.R_drew));exact HO119.out) hb);replace HB:=Z.sb hb;clear hb hbox hg;have hcz9_0:=Z.c0 BK121.out;have hcz9_1:=Z.c1 BK121.out;have hfz9_0:=blk_frozen BK121.out 0;have hfz9_1:=blk_frozen BK121.out 1;obtain⟨Ao10,co10,eo10⟩:=Kd.R_slice HO119.out;subst eo10)|((with_reducible refine gate_callee (f:=17) rfl ?_);refine Z.gl 12 Tryz.func17 #[.agg #[.int .i64 t116,.slice Ao10 t117.length co10],.int .i64 69,.bool true] ?_;(with_reducible refine (bits_Put.calls k t116 _ _ t117 69 true t122 t123 t126 _ ?side1 ?side2 A2.out).mono ?_);(case side1=>refine (Kd.R_reads' (e:=39) (base:=w.heap.size) (ok:=fun k_=>True) (n:=t117.length) (c:=co10) ?_).2.2;exact (by (with_reducible repeat (first|apply Kd.R_alloc|apply Kd.R_drewN|apply Kd.R_drew));exact (Kd.R_mono (Kd.R_far (p:=⟨gb121,1,none⟩) (Kd.R_far (p:=⟨gb121,0,none⟩) (Kd.R_types HO119.out BK121.out (by decide)) (fun _ hk=>hk.2) (.int .i64 t116)) (fun _ hk=>hk.2) (.slice Ao10 t117.length co10)) (fun _ h_=>h_.1))));(case side2=>exact (Kd.R_reads' HO119.out).2.1);rintro e w11 ⟨v124,rfl,ho0,hb⟩;refine⟨_,rfl,?_⟩;have HO125:=As (Kd.R_lower (Kd.R_new' ho0 (Kd.R_lt (by (with_reducible repeat (first|apply Kd.R_alloc|apply Kd.R_drewN|apply Kd.R_drew));exact (Kd.R_mono (Kd.R_far (p:=⟨gb121,1,none⟩) (Kd.R_far (p:=⟨gb121,0,none⟩) (Kd.R_types HO119.out BK121.out (by decide)) (fun _ hk=>hk.2) (.int .i64 t116)) (fun _ hk=>hk.2) (.slice Ao10 t117.length co10)) (fun _ h_=>h_.1))))) (below_size Z.bl));replace HO119:=As (Kd.R_elder' (by (with_reducible repeat (first|apply Kd.R_alloc|apply Kd.R_drewN|apply Kd.R_drew));exact (Kd.R_mono (Kd.R_far (p:=⟨gb121,1,none⟩) (Kd.R_far (p:=⟨gb121,0,none⟩) (Kd.R_types HO119.out BK121.out (by decide)) (fun _ hk=>hk.2) (.int .i64 t116)) (fun _ hk=>hk.2) (.slice Ao10 t117.length co10)) (fun _ h_=>h_.1))) (Kd.R_base ho0) hb);replace HB:=Z.sb hb;replace BK121:=As (blk_below (g:=gb121) (o:=.cells #[.int .i64 t116,.slice Ao10 t117.length co10] 29 (0,0)) Z.bs hb);(try clear hb);(try clear hb2);(try clear hk);(try clear hi);(try clear ho0);have hcz12_0:=Z.c0 BK121.out;have hcz12_1:=Z.c1 BK121.out;have hfz12_0:=blk_frozen BK121.out 0;have hfz12_1:=blk_frozen BK121.out 1;obtain⟨Ao13,co13,eo13⟩:=Kd.R_slice HO125.out;subst eo13)|((with_reducible refine gate_callee (f:=18) rfl ?_);refine Z.gl 17 Tryz.func18 #[.agg #[.int .i64 t122,.slice Ao13 t123.length co13]] ?_;(with_reducible refine (bits_Count.calls k t122 _ _ t123 t127 t128 _ ?side1 ?side2 A3.out).mono ?_);(case side1=>refine (Kd.R_reads' (e:=39) (base:=w.heap.size) (ok:=fun k_=>(True∧some k_≠(.slice Ao10 t117.length co10:Value).ownBlock)) (n:=t123.length) (c:=co13) ?_).2.2;exact (by (with_reducible repeat (first|apply Kd.R_alloc|apply Kd.R_drewN|apply Kd.R_drew));exact (Kd.R_mono (Kd.R_far (p:=⟨gb121,1,none⟩) (Kd.R_far (p:=⟨gb121,0,none⟩) (Kd.R_types HO125.out BK121.out (by decide)) (fun _ hk=>hk.2) (.int .i64 t122)) (fun _ hk=>hk.2) (.slice Ao13 t123.length co13)) (fun _ h_=>h_.1))));(case side2=>exact (Kd.R_reads' HO125.out).2.1);rintro e w14 ⟨rfl,hb⟩;refine⟨_,rfl,?_⟩;replace HO119:=As (Kd.R_below (by (with_reducible repeat (first|apply Kd.R_alloc|apply Kd.R_drewN|apply Kd.R_drew));exact (Kd.R_mono (Kd.R_far (p:=⟨gb121,1,none⟩) (Kd.R_far (p:=⟨gb121,0,none⟩) (Kd.R_types HO119.out BK121.out (by decide)) (fun _ hk=>hk.2) (.int .i64 t122)) (fun _ hk=>hk.2) (.slice Ao13 t123.length co13)) (fun _ h_=>h_.1))) hb);replace HO125:=As (Kd.R_below (by (with_reducible repeat (first|apply Kd.R_alloc|apply Kd.R_drewN|apply Kd.R_drew));exact (Kd.R_mono (Kd.R_far (p:=⟨gb121,1,none⟩) (Kd.R_far (p:=⟨gb121,0,none⟩) (Kd.R_types HO125.out BK121.out (by decide)) (fun _ hk=>hk.2) (.int .i64 t122)) (fun _ hk=>hk.2) (.slice Ao13 t123.length co13)) (fun _ h_=>h_.1))) hb);replace HB:=Z.sb hb;replace BK121:=As (blk_below (g:=gb121) (o:=.cells #[.int .i64 t122,.slice Ao13 t123.length co13] 29 (0,0)) Z.bs hb);(try clear hb);(try clear hb2);(try clear hk);(try clear hi)))
    go_ret
    exact⟨Z.e_,Z.bl⟩
   ·rw[if_neg c6] at H
    have c6b0:(t127 == 1)=false:=beq_eq_false_iff_ne.mpr c6
    have c6b1:(t127 != 1)=true:=bne_iff_ne.mpr c6
    exact absurd ((Option.some.inj H).trans HLAW.out) (by decide)
  ·rw[if_neg c5] at H
   have c5b0:(t126 == 0)=false:=beq_eq_false_iff_ne.mpr c5
   have c5b1:(t126 != 0)=true:=bne_iff_ne.mpr c5
   exact absurd ((Option.some.inj H).trans HLAW.out) (by decide)
 ·rw[if_neg c4] at H
  have c4b0:(t120 == 0)=false:=beq_eq_false_iff_ne.mpr c4
  have c4b1:(t120 != 0)=true:=bne_iff_ne.mpr c4
  exact absurd ((Option.some.inj H).trans HLAW.out) (by decide)
end Go.Proofs.YtmmfchnbfnegnaaGreatDoor.GK
end
