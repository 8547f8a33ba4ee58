/-
  NARROWER THAN 'FOR EVERY INPUT', by the rows' own cells (each row's printed sentence says how): BitsAsks: laid · BitsBoth: laid · BitsOne: laid · BitsRun: laid · BitsFirst: laid · BitsFilled: laid · BitsCommon: laid · BitsOwn: laid.
  DERIVED. THE GIVEN ROWS OF THIS SEAT. 8 by the template 'for every input the law returns true; each argument reads behind the call as it read before'; 0 by the template 'total and deterministic' (their statements: YtdadleamaalhiacDoorTotals.lean).
  GIVEN WITH THE SEED: the statements are not yours to turn. If you find one false, say at which input.
  Laid BY PROGRAM, IN A SANDBOX (cutbox-rows.mjs): the forced cells as the released guide's own fill.sh prints them over the translation 81d4c44af52f8312… (all of the seat's roots in one cut). By AI agents, Wed Nov 11 2026. No macro, syntax, notation, axiom, sorry.
-/
import Derived.Test.YtdadleamaalhiacDoorChecked
import GoSem.Claim
import GoSem.ClaimJoined
import GoSem.ClaimMapViews
import Derived.JoinedTies
import Derived.KernelRfl
namespace Go.Proofs.YtdadleamaalhiacDoor
/- THE CELL 'sum', in the pinned program and in every row, IS THE sha256 OF THE DUMP (.gsa) THAT YtdadleamaalhiacDoorProg.lean LOADS. Nothing in Lean hashes anything: it is a label: what it is worth is what the hold of that sum in a sandbox is worth. -/
noncomputable def Tryd.pinned : Pinned := { name := "ytdadleamaalhiacdoor", sum := "81d4c44af52f8312d7b9edb1d8a6e58b7f1f614e9de411c8b459d778c489addc", checked := Tryd.checked }
namespace Rows
def none {H : Type} : Left H := { results := [], args := [] }

/- WHAT THE LISTED PACKAGE-LEVEL VARIABLES READ AS WHEN THE CALL BEGINS. Each datum BY PROGRAM (the guide's laid-datum.mjs) off the statement by which the dump's own 'gosem.cut.vars' lays the variable. In a bare row this is a premise. The card (YtdadleamaalhiacDoorCards.lean) ties it to the program's text. -/
def laid_math_bits_deBruijn64tab {H : Type} : DataW H := .agg [.lit (.int .u8 0), .lit (.int .u8 1), .lit (.int .u8 56), .lit (.int .u8 2), .lit (.int .u8 57), .lit (.int .u8 49), .lit (.int .u8 28), .lit (.int .u8 3), .lit (.int .u8 61), .lit (.int .u8 58), .lit (.int .u8 42), .lit (.int .u8 50), .lit (.int .u8 38), .lit (.int .u8 29), .lit (.int .u8 17), .lit (.int .u8 4), .lit (.int .u8 62), .lit (.int .u8 47), .lit (.int .u8 59), .lit (.int .u8 36), .lit (.int .u8 45), .lit (.int .u8 43), .lit (.int .u8 51), .lit (.int .u8 22), .lit (.int .u8 53), .lit (.int .u8 39), .lit (.int .u8 33), .lit (.int .u8 30), .lit (.int .u8 24), .lit (.int .u8 18), .lit (.int .u8 12), .lit (.int .u8 5), .lit (.int .u8 63), .lit (.int .u8 55), .lit (.int .u8 48), .lit (.int .u8 27), .lit (.int .u8 60), .lit (.int .u8 41), .lit (.int .u8 37), .lit (.int .u8 16), .lit (.int .u8 46), .lit (.int .u8 35), .lit (.int .u8 44), .lit (.int .u8 21), .lit (.int .u8 52), .lit (.int .u8 32), .lit (.int .u8 23), .lit (.int .u8 11), .lit (.int .u8 54), .lit (.int .u8 26), .lit (.int .u8 40), .lit (.int .u8 15), .lit (.int .u8 34), .lit (.int .u8 20), .lit (.int .u8 31), .lit (.int .u8 10), .lit (.int .u8 25), .lit (.int .u8 14), .lit (.int .u8 19), .lit (.int .u8 9), .lit (.int .u8 13), .lit (.int .u8 8), .lit (.int .u8 7), .lit (.int .u8 6)]

/-- 'besomlaw01.BitsAsks': WHATEVER THE INPUT: true; the input reads as it did. -/
def bitsAsksSpec : ChangeSpec := { name := "bitsAsks", fn := fun _ => fun
  | [d1, d2, d3] => { results := [.lit (.bool true)], args := [d1, d2, d3] }
  | _ => none }
def bitsAsksRow : OpenClaim := { program := "ytdadleamaalhiacdoor", sum := "81d4c44af52f8312d7b9edb1d8a6e58b7f1f614e9de411c8b459d778c489addc", func := "besom/besomlaw01.BitsAsks", spec := "bitsAsks", named := ["math/bits.deBruijn64tab"], apart := false, laid := [("math/bits.deBruijn64tab", laid_math_bits_deBruijn64tab)] }
def BitsAsksSaid : Prop := bitsAsksRow.holds Tryd.pinned (OpenSpec.ofChange bitsAsksSpec)

/-- ITS FALSE NEIGHBOUR: 'it returns false'. Refute it at one input. -/
def bitsAsksWrong : ChangeSpec := { name := "bitsAsks", fn := fun _ => fun
  | [d1, d2, d3] => { results := [.lit (.bool false)], args := [d1, d2, d3] }
  | _ => none }
def BitsAsksWrongFalsely : Prop := bitsAsksRow.holds Tryd.pinned (OpenSpec.ofChange bitsAsksWrong)

/-- 'besomlaw01.BitsBoth': WHATEVER THE INPUT: true; the input reads as it did. -/
def bitsBothSpec : ChangeSpec := { name := "bitsBoth", fn := fun _ => fun
  | [d1, d2] => { results := [.lit (.bool true)], args := [d1, d2] }
  | _ => none }
def bitsBothRow : OpenClaim := { program := "ytdadleamaalhiacdoor", sum := "81d4c44af52f8312d7b9edb1d8a6e58b7f1f614e9de411c8b459d778c489addc", func := "besom/besomlaw01.BitsBoth", spec := "bitsBoth", named := ["math/bits.deBruijn64tab"], apart := false, laid := [("math/bits.deBruijn64tab", laid_math_bits_deBruijn64tab)] }
def BitsBothSaid : Prop := bitsBothRow.holds Tryd.pinned (OpenSpec.ofChange bitsBothSpec)

/-- ITS FALSE NEIGHBOUR: 'it returns false'. Refute it at one input. -/
def bitsBothWrong : ChangeSpec := { name := "bitsBoth", fn := fun _ => fun
  | [d1, d2] => { results := [.lit (.bool false)], args := [d1, d2] }
  | _ => none }
def BitsBothWrongFalsely : Prop := bitsBothRow.holds Tryd.pinned (OpenSpec.ofChange bitsBothWrong)

/-- 'besomlaw01.BitsOne': WHATEVER THE INPUT: true; the input reads as it did. -/
def bitsOneSpec : ChangeSpec := { name := "bitsOne", fn := fun _ => fun
  | [d1, d2, d3, d4] => { results := [.lit (.bool true)], args := [d1, d2, d3, d4] }
  | _ => none }
def bitsOneRow : OpenClaim := { program := "ytdadleamaalhiacdoor", sum := "81d4c44af52f8312d7b9edb1d8a6e58b7f1f614e9de411c8b459d778c489addc", func := "besom/besomlaw01.BitsOne", spec := "bitsOne", named := ["math/bits.deBruijn64tab"], apart := false, laid := [("math/bits.deBruijn64tab", laid_math_bits_deBruijn64tab)] }
def BitsOneSaid : Prop := bitsOneRow.holds Tryd.pinned (OpenSpec.ofChange bitsOneSpec)

/-- ITS FALSE NEIGHBOUR: 'it returns false'. Refute it at one input. -/
def bitsOneWrong : ChangeSpec := { name := "bitsOne", fn := fun _ => fun
  | [d1, d2, d3, d4] => { results := [.lit (.bool false)], args := [d1, d2, d3, d4] }
  | _ => none }
def BitsOneWrongFalsely : Prop := bitsOneRow.holds Tryd.pinned (OpenSpec.ofChange bitsOneWrong)

/-- 'besomlaw01.BitsRun': WHATEVER THE INPUT: true; the input reads as it did. -/
def bitsRunSpec : ChangeSpec := { name := "bitsRun", fn := fun _ => fun
  | [d1, d2] => { results := [.lit (.bool true)], args := [d1, d2] }
  | _ => none }
def bitsRunRow : OpenClaim := { program := "ytdadleamaalhiacdoor", sum := "81d4c44af52f8312d7b9edb1d8a6e58b7f1f614e9de411c8b459d778c489addc", func := "besom/besomlaw01.BitsRun", spec := "bitsRun", named := ["math/bits.deBruijn64tab"], apart := false, laid := [("math/bits.deBruijn64tab", laid_math_bits_deBruijn64tab)] }
def BitsRunSaid : Prop := bitsRunRow.holds Tryd.pinned (OpenSpec.ofChange bitsRunSpec)

/-- ITS FALSE NEIGHBOUR: 'it returns false'. Refute it at one input. -/
def bitsRunWrong : ChangeSpec := { name := "bitsRun", fn := fun _ => fun
  | [d1, d2] => { results := [.lit (.bool false)], args := [d1, d2] }
  | _ => none }
def BitsRunWrongFalsely : Prop := bitsRunRow.holds Tryd.pinned (OpenSpec.ofChange bitsRunWrong)

/-- 'besomlaw01.BitsFirst': WHATEVER THE INPUT: true; the input reads as it did. -/
def bitsFirstSpec : ChangeSpec := { name := "bitsFirst", fn := fun _ => fun
  | [d1, d2, d3, d4] => { results := [.lit (.bool true)], args := [d1, d2, d3, d4] }
  | _ => none }
def bitsFirstRow : OpenClaim := { program := "ytdadleamaalhiacdoor", sum := "81d4c44af52f8312d7b9edb1d8a6e58b7f1f614e9de411c8b459d778c489addc", func := "besom/besomlaw01.BitsFirst", spec := "bitsFirst", named := ["math/bits.deBruijn64tab"], apart := false, laid := [("math/bits.deBruijn64tab", laid_math_bits_deBruijn64tab)] }
def BitsFirstSaid : Prop := bitsFirstRow.holds Tryd.pinned (OpenSpec.ofChange bitsFirstSpec)

/-- ITS FALSE NEIGHBOUR: 'it returns false'. Refute it at one input. -/
def bitsFirstWrong : ChangeSpec := { name := "bitsFirst", fn := fun _ => fun
  | [d1, d2, d3, d4] => { results := [.lit (.bool false)], args := [d1, d2, d3, d4] }
  | _ => none }
def BitsFirstWrongFalsely : Prop := bitsFirstRow.holds Tryd.pinned (OpenSpec.ofChange bitsFirstWrong)

/-- 'besomlaw01.BitsFilled': WHATEVER THE INPUT: true; the input reads as it did. -/
def bitsFilledSpec : ChangeSpec := { name := "bitsFilled", fn := fun _ => fun
  | [d1, d2, d3] => { results := [.lit (.bool true)], args := [d1, d2, d3] }
  | _ => none }
def bitsFilledRow : OpenClaim := { program := "ytdadleamaalhiacdoor", sum := "81d4c44af52f8312d7b9edb1d8a6e58b7f1f614e9de411c8b459d778c489addc", func := "besom/besomlaw01.BitsFilled", spec := "bitsFilled", named := ["math/bits.deBruijn64tab"], apart := false, laid := [("math/bits.deBruijn64tab", laid_math_bits_deBruijn64tab)] }
def BitsFilledSaid : Prop := bitsFilledRow.holds Tryd.pinned (OpenSpec.ofChange bitsFilledSpec)

/-- ITS FALSE NEIGHBOUR: 'it returns false'. Refute it at one input. -/
def bitsFilledWrong : ChangeSpec := { name := "bitsFilled", fn := fun _ => fun
  | [d1, d2, d3] => { results := [.lit (.bool false)], args := [d1, d2, d3] }
  | _ => none }
def BitsFilledWrongFalsely : Prop := bitsFilledRow.holds Tryd.pinned (OpenSpec.ofChange bitsFilledWrong)

/-- 'besomlaw01.BitsCommon': WHATEVER THE INPUT: true; the input reads as it did. -/
def bitsCommonSpec : ChangeSpec := { name := "bitsCommon", fn := fun _ => fun
  | [d1, d2, d3] => { results := [.lit (.bool true)], args := [d1, d2, d3] }
  | _ => none }
def bitsCommonRow : OpenClaim := { program := "ytdadleamaalhiacdoor", sum := "81d4c44af52f8312d7b9edb1d8a6e58b7f1f614e9de411c8b459d778c489addc", func := "besom/besomlaw01.BitsCommon", spec := "bitsCommon", named := ["math/bits.deBruijn64tab"], apart := false, laid := [("math/bits.deBruijn64tab", laid_math_bits_deBruijn64tab)] }
def BitsCommonSaid : Prop := bitsCommonRow.holds Tryd.pinned (OpenSpec.ofChange bitsCommonSpec)

/-- ITS FALSE NEIGHBOUR: 'it returns false'. Refute it at one input. -/
def bitsCommonWrong : ChangeSpec := { name := "bitsCommon", fn := fun _ => fun
  | [d1, d2, d3] => { results := [.lit (.bool false)], args := [d1, d2, d3] }
  | _ => none }
def BitsCommonWrongFalsely : Prop := bitsCommonRow.holds Tryd.pinned (OpenSpec.ofChange bitsCommonWrong)

/-- 'besomlaw01.BitsOwn': WHATEVER THE INPUT: true; the input reads as it did. -/
def bitsOwnSpec : ChangeSpec := { name := "bitsOwn", fn := fun _ => fun
  | [d1, d2, d3] => { results := [.lit (.bool true)], args := [d1, d2, d3] }
  | _ => none }
def bitsOwnRow : OpenClaim := { program := "ytdadleamaalhiacdoor", sum := "81d4c44af52f8312d7b9edb1d8a6e58b7f1f614e9de411c8b459d778c489addc", func := "besom/besomlaw01.BitsOwn", spec := "bitsOwn", named := ["math/bits.deBruijn64tab"], apart := false, laid := [("math/bits.deBruijn64tab", laid_math_bits_deBruijn64tab)] }
def BitsOwnSaid : Prop := bitsOwnRow.holds Tryd.pinned (OpenSpec.ofChange bitsOwnSpec)

/-- ITS FALSE NEIGHBOUR: 'it returns false'. Refute it at one input. -/
def bitsOwnWrong : ChangeSpec := { name := "bitsOwn", fn := fun _ => fun
  | [d1, d2, d3] => { results := [.lit (.bool false)], args := [d1, d2, d3] }
  | _ => none }
def BitsOwnWrongFalsely : Prop := bitsOwnRow.holds Tryd.pinned (OpenSpec.ofChange bitsOwnWrong)

/- THE SECOND FORM. 'bulk': how many values and letters a reading holds, each counted each time it is reached (what is shared counts as often as it is met; a slice's spare places count too). A statement '..UptoSaid' is the law's where the arguments, and the package variables that the reading takes, are together of bulk at most 1048576: NARROWER than '..Said'. Prove '..Said' where nothing that the law and all that it calls make is longer than what came in: it says more and counts as full. Else prove '..UptoSaid'. A law counts once. -/
mutual
def uptoBulk {H : Type} : DataW H → Nat
  | .lit (.string bytes) => bytes.length + 1
  | .lit _ => 1
  | .nil => 1
  | .ptr d => uptoBulk d + 1
  | .slice elems spare => uptoBulkAll elems + uptoBulkAll spare + 1
  | .agg parts => uptoBulkAll parts + 1
  | .iface _ d => uptoBulk d + 1
  | .map entries => uptoBulkEntries entries + 1
  | .held _ => 1
def uptoBulkAll {H : Type} : List (DataW H) → Nat
  | [] => 0
  | d :: r => uptoBulk d + uptoBulkAll r
def uptoBulkEntries {H : Type} : List (Lit × DataW H) → Nat
  | [] => 0
  | x :: r => uptoBulkEntry x + uptoBulkEntries r
def uptoBulkEntry {H : Type} : Lit × DataW H → Nat
  | (.string bytes, d) => bytes.length + uptoBulk d + 1
  | (_, d) => uptoBulk d + 1
 end
def uptoSmall : (H : Type) → List (DataW H) → Bool := fun _ ds => decide (uptoBulkAll ds ≤ 1048576)
def OpenSpec.upto (s : _root_.Go.ChangeSpec) : _root_.Go.OpenSpec := { _root_.Go.OpenSpec.ofChange s with cond := some uptoSmall }

/-- 'besomlaw01.BitsAsks', WHERE WHAT IT READS IS OF BULK AT MOST 1048576: true; the input reads as it did. -/
def bitsAsksUptoRow : OpenClaim := { program := "ytdadleamaalhiacdoor", sum := "81d4c44af52f8312d7b9edb1d8a6e58b7f1f614e9de411c8b459d778c489addc", func := "besom/besomlaw01.BitsAsks", spec := "bitsAsks", named := ["math/bits.deBruijn64tab"], apart := false, laid := [("math/bits.deBruijn64tab", laid_math_bits_deBruijn64tab)], narrowed := true }
def BitsAsksUptoSaid : Prop := bitsAsksUptoRow.holds Tryd.pinned (OpenSpec.upto bitsAsksSpec)

/-- 'besomlaw01.BitsBoth', WHERE WHAT IT READS IS OF BULK AT MOST 1048576: true; the input reads as it did. -/
def bitsBothUptoRow : OpenClaim := { program := "ytdadleamaalhiacdoor", sum := "81d4c44af52f8312d7b9edb1d8a6e58b7f1f614e9de411c8b459d778c489addc", func := "besom/besomlaw01.BitsBoth", spec := "bitsBoth", named := ["math/bits.deBruijn64tab"], apart := false, laid := [("math/bits.deBruijn64tab", laid_math_bits_deBruijn64tab)], narrowed := true }
def BitsBothUptoSaid : Prop := bitsBothUptoRow.holds Tryd.pinned (OpenSpec.upto bitsBothSpec)

/-- 'besomlaw01.BitsOne', WHERE WHAT IT READS IS OF BULK AT MOST 1048576: true; the input reads as it did. -/
def bitsOneUptoRow : OpenClaim := { program := "ytdadleamaalhiacdoor", sum := "81d4c44af52f8312d7b9edb1d8a6e58b7f1f614e9de411c8b459d778c489addc", func := "besom/besomlaw01.BitsOne", spec := "bitsOne", named := ["math/bits.deBruijn64tab"], apart := false, laid := [("math/bits.deBruijn64tab", laid_math_bits_deBruijn64tab)], narrowed := true }
def BitsOneUptoSaid : Prop := bitsOneUptoRow.holds Tryd.pinned (OpenSpec.upto bitsOneSpec)

/-- 'besomlaw01.BitsRun', WHERE WHAT IT READS IS OF BULK AT MOST 1048576: true; the input reads as it did. -/
def bitsRunUptoRow : OpenClaim := { program := "ytdadleamaalhiacdoor", sum := "81d4c44af52f8312d7b9edb1d8a6e58b7f1f614e9de411c8b459d778c489addc", func := "besom/besomlaw01.BitsRun", spec := "bitsRun", named := ["math/bits.deBruijn64tab"], apart := false, laid := [("math/bits.deBruijn64tab", laid_math_bits_deBruijn64tab)], narrowed := true }
def BitsRunUptoSaid : Prop := bitsRunUptoRow.holds Tryd.pinned (OpenSpec.upto bitsRunSpec)

/-- 'besomlaw01.BitsFirst', WHERE WHAT IT READS IS OF BULK AT MOST 1048576: true; the input reads as it did. -/
def bitsFirstUptoRow : OpenClaim := { program := "ytdadleamaalhiacdoor", sum := "81d4c44af52f8312d7b9edb1d8a6e58b7f1f614e9de411c8b459d778c489addc", func := "besom/besomlaw01.BitsFirst", spec := "bitsFirst", named := ["math/bits.deBruijn64tab"], apart := false, laid := [("math/bits.deBruijn64tab", laid_math_bits_deBruijn64tab)], narrowed := true }
def BitsFirstUptoSaid : Prop := bitsFirstUptoRow.holds Tryd.pinned (OpenSpec.upto bitsFirstSpec)

/-- 'besomlaw01.BitsFilled', WHERE WHAT IT READS IS OF BULK AT MOST 1048576: true; the input reads as it did. -/
def bitsFilledUptoRow : OpenClaim := { program := "ytdadleamaalhiacdoor", sum := "81d4c44af52f8312d7b9edb1d8a6e58b7f1f614e9de411c8b459d778c489addc", func := "besom/besomlaw01.BitsFilled", spec := "bitsFilled", named := ["math/bits.deBruijn64tab"], apart := false, laid := [("math/bits.deBruijn64tab", laid_math_bits_deBruijn64tab)], narrowed := true }
def BitsFilledUptoSaid : Prop := bitsFilledUptoRow.holds Tryd.pinned (OpenSpec.upto bitsFilledSpec)

/-- 'besomlaw01.BitsCommon', WHERE WHAT IT READS IS OF BULK AT MOST 1048576: true; the input reads as it did. -/
def bitsCommonUptoRow : OpenClaim := { program := "ytdadleamaalhiacdoor", sum := "81d4c44af52f8312d7b9edb1d8a6e58b7f1f614e9de411c8b459d778c489addc", func := "besom/besomlaw01.BitsCommon", spec := "bitsCommon", named := ["math/bits.deBruijn64tab"], apart := false, laid := [("math/bits.deBruijn64tab", laid_math_bits_deBruijn64tab)], narrowed := true }
def BitsCommonUptoSaid : Prop := bitsCommonUptoRow.holds Tryd.pinned (OpenSpec.upto bitsCommonSpec)

/-- 'besomlaw01.BitsOwn', WHERE WHAT IT READS IS OF BULK AT MOST 1048576: true; the input reads as it did. -/
def bitsOwnUptoRow : OpenClaim := { program := "ytdadleamaalhiacdoor", sum := "81d4c44af52f8312d7b9edb1d8a6e58b7f1f614e9de411c8b459d778c489addc", func := "besom/besomlaw01.BitsOwn", spec := "bitsOwn", named := ["math/bits.deBruijn64tab"], apart := false, laid := [("math/bits.deBruijn64tab", laid_math_bits_deBruijn64tab)], narrowed := true }
def BitsOwnUptoSaid : Prop := bitsOwnUptoRow.holds Tryd.pinned (OpenSpec.upto bitsOwnSpec)

end Rows
end Go.Proofs.YtdadleamaalhiacDoor
