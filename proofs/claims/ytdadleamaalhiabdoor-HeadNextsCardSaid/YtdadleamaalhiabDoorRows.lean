/-
  NARROWER THAN 'FOR EVERY INPUT', by the rows' own cells (each row's printed sentence says how): HeadCodes: laid · TopHeld: laid · HeadFields: laid · HeadBack: laid · HeadNexts: laid · HeadEach: laid · HeadPlain: laid.
  DERIVED. THE GIVEN ROWS OF THIS SEAT. 7 by the template 'for every input the law returns true; each argument reads behind the call as it read before'; 0 by the template 'total and deterministic' (their statements: YtdadleamaalhiabDoorTotals.lean).
  GIVEN WITH THE SEED: the statements are not yours to turn. If you find one false, say at which input.
  Laid BY PROGRAM, IN A SANDBOX (cutbox-rows.mjs): the forced cells as the released guide's own fill.sh prints them over the translation 081d2d60c2814328… (all of the seat's roots in one cut). By AI agents, Wed Nov 11 2026. No macro, syntax, notation, axiom, sorry.
-/
import Derived.Test.YtdadleamaalhiabDoorChecked
import GoSem.Claim
import GoSem.ClaimJoined
import GoSem.ClaimMapViews
import Derived.JoinedTies
import Derived.KernelRfl
namespace Go.Proofs.YtdadleamaalhiabDoor
/- THE CELL 'sum', in the pinned program and in every row, IS THE sha256 OF THE DUMP (.gsa) THAT YtdadleamaalhiabDoorProg.lean LOADS. Nothing in Lean hashes anything: it is a label: what it is worth is what the hold of that sum in a sandbox is worth. -/
noncomputable def Tryd.pinned : Pinned := { name := "ytdadleamaalhiabdoor", sum := "081d2d60c2814328a4e7053d4e624e375a7510889d48c63f06b997581179a417", checked := Tryd.checked }
namespace Rows
def none {H : Type} : Left H := { results := [], args := [] }

/- WHAT THE LISTED PACKAGE-LEVEL VARIABLES READ AS WHEN THE CALL BEGINS. Each datum BY PROGRAM (the guide's laid-datum.mjs) off the statement by which the dump's own 'gosem.cut.vars' lays the variable. In a bare row this is a premise. The card (YtdadleamaalhiabDoorCards.lean) ties it to the program's text. -/
def laid_math_bits_deBruijn64tab {H : Type} : DataW H := .agg [.lit (.int .u8 0), .lit (.int .u8 1), .lit (.int .u8 56), .lit (.int .u8 2), .lit (.int .u8 57), .lit (.int .u8 49), .lit (.int .u8 28), .lit (.int .u8 3), .lit (.int .u8 61), .lit (.int .u8 58), .lit (.int .u8 42), .lit (.int .u8 50), .lit (.int .u8 38), .lit (.int .u8 29), .lit (.int .u8 17), .lit (.int .u8 4), .lit (.int .u8 62), .lit (.int .u8 47), .lit (.int .u8 59), .lit (.int .u8 36), .lit (.int .u8 45), .lit (.int .u8 43), .lit (.int .u8 51), .lit (.int .u8 22), .lit (.int .u8 53), .lit (.int .u8 39), .lit (.int .u8 33), .lit (.int .u8 30), .lit (.int .u8 24), .lit (.int .u8 18), .lit (.int .u8 12), .lit (.int .u8 5), .lit (.int .u8 63), .lit (.int .u8 55), .lit (.int .u8 48), .lit (.int .u8 27), .lit (.int .u8 60), .lit (.int .u8 41), .lit (.int .u8 37), .lit (.int .u8 16), .lit (.int .u8 46), .lit (.int .u8 35), .lit (.int .u8 44), .lit (.int .u8 21), .lit (.int .u8 52), .lit (.int .u8 32), .lit (.int .u8 23), .lit (.int .u8 11), .lit (.int .u8 54), .lit (.int .u8 26), .lit (.int .u8 40), .lit (.int .u8 15), .lit (.int .u8 34), .lit (.int .u8 20), .lit (.int .u8 31), .lit (.int .u8 10), .lit (.int .u8 25), .lit (.int .u8 14), .lit (.int .u8 19), .lit (.int .u8 9), .lit (.int .u8 13), .lit (.int .u8 8), .lit (.int .u8 7), .lit (.int .u8 6)]

/-- 'besomlaw06.HeadCodes': WHATEVER THE INPUT: true; the input reads as it did. -/
def headCodesSpec : ChangeSpec := { name := "headCodes", fn := fun _ => fun
  | [d1, d2] => { results := [.lit (.bool true)], args := [d1, d2] }
  | _ => none }
def headCodesRow : OpenClaim := { program := "ytdadleamaalhiabdoor", sum := "081d2d60c2814328a4e7053d4e624e375a7510889d48c63f06b997581179a417", func := "besom/besomlaw06.HeadCodes", spec := "headCodes", named := ["math/bits.deBruijn64tab"], apart := false, laid := [("math/bits.deBruijn64tab", laid_math_bits_deBruijn64tab)] }
def HeadCodesSaid : Prop := headCodesRow.holds Tryd.pinned (OpenSpec.ofChange headCodesSpec)

/-- ITS FALSE NEIGHBOUR: 'it returns false'. Refute it at one input. -/
def headCodesWrong : ChangeSpec := { name := "headCodes", fn := fun _ => fun
  | [d1, d2] => { results := [.lit (.bool false)], args := [d1, d2] }
  | _ => none }
def HeadCodesWrongFalsely : Prop := headCodesRow.holds Tryd.pinned (OpenSpec.ofChange headCodesWrong)

/-- 'besomtop.TopHeld': WHATEVER THE INPUT: true; the input reads as it did. -/
def topHeldSpec : ChangeSpec := { name := "topHeld", fn := fun _ => fun
  | [d1, d2, d3] => { results := [.lit (.bool true)], args := [d1, d2, d3] }
  | _ => none }
def topHeldRow : OpenClaim := { program := "ytdadleamaalhiabdoor", sum := "081d2d60c2814328a4e7053d4e624e375a7510889d48c63f06b997581179a417", func := "besom/besomtop.TopHeld", spec := "topHeld", named := ["math/bits.deBruijn64tab"], apart := false, laid := [("math/bits.deBruijn64tab", laid_math_bits_deBruijn64tab)] }
def TopHeldSaid : Prop := topHeldRow.holds Tryd.pinned (OpenSpec.ofChange topHeldSpec)

/-- ITS FALSE NEIGHBOUR: 'it returns false'. Refute it at one input. -/
def topHeldWrong : ChangeSpec := { name := "topHeld", fn := fun _ => fun
  | [d1, d2, d3] => { results := [.lit (.bool false)], args := [d1, d2, d3] }
  | _ => none }
def TopHeldWrongFalsely : Prop := topHeldRow.holds Tryd.pinned (OpenSpec.ofChange topHeldWrong)

/-- 'besomlaw06.HeadFields': WHATEVER THE INPUT: true; the input reads as it did. -/
def headFieldsSpec : ChangeSpec := { name := "headFields", fn := fun _ => fun
  | [d1, d2, d3] => { results := [.lit (.bool true)], args := [d1, d2, d3] }
  | _ => none }
def headFieldsRow : OpenClaim := { program := "ytdadleamaalhiabdoor", sum := "081d2d60c2814328a4e7053d4e624e375a7510889d48c63f06b997581179a417", func := "besom/besomlaw06.HeadFields", spec := "headFields", named := ["math/bits.deBruijn64tab"], apart := false, laid := [("math/bits.deBruijn64tab", laid_math_bits_deBruijn64tab)] }
def HeadFieldsSaid : Prop := headFieldsRow.holds Tryd.pinned (OpenSpec.ofChange headFieldsSpec)

/-- ITS FALSE NEIGHBOUR: 'it returns false'. Refute it at one input. -/
def headFieldsWrong : ChangeSpec := { name := "headFields", fn := fun _ => fun
  | [d1, d2, d3] => { results := [.lit (.bool false)], args := [d1, d2, d3] }
  | _ => none }
def HeadFieldsWrongFalsely : Prop := headFieldsRow.holds Tryd.pinned (OpenSpec.ofChange headFieldsWrong)

/-- 'besomlaw06.HeadBack': WHATEVER THE INPUT: true; the input reads as it did. -/
def headBackSpec : ChangeSpec := { name := "headBack", fn := fun _ => fun
  | [d1, d2, d3] => { results := [.lit (.bool true)], args := [d1, d2, d3] }
  | _ => none }
def headBackRow : OpenClaim := { program := "ytdadleamaalhiabdoor", sum := "081d2d60c2814328a4e7053d4e624e375a7510889d48c63f06b997581179a417", func := "besom/besomlaw06.HeadBack", spec := "headBack", named := ["math/bits.deBruijn64tab"], apart := false, laid := [("math/bits.deBruijn64tab", laid_math_bits_deBruijn64tab)] }
def HeadBackSaid : Prop := headBackRow.holds Tryd.pinned (OpenSpec.ofChange headBackSpec)

/-- ITS FALSE NEIGHBOUR: 'it returns false'. Refute it at one input. -/
def headBackWrong : ChangeSpec := { name := "headBack", fn := fun _ => fun
  | [d1, d2, d3] => { results := [.lit (.bool false)], args := [d1, d2, d3] }
  | _ => none }
def HeadBackWrongFalsely : Prop := headBackRow.holds Tryd.pinned (OpenSpec.ofChange headBackWrong)

/-- 'besomlaw06.HeadNexts': WHATEVER THE INPUT: true; the input reads as it did. -/
def headNextsSpec : ChangeSpec := { name := "headNexts", fn := fun _ => fun
  | [d] => { results := [.lit (.bool true)], args := [d] }
  | _ => none }
def headNextsRow : OpenClaim := { program := "ytdadleamaalhiabdoor", sum := "081d2d60c2814328a4e7053d4e624e375a7510889d48c63f06b997581179a417", func := "besom/besomlaw06.HeadNexts", spec := "headNexts", named := ["math/bits.deBruijn64tab"], apart := false, laid := [("math/bits.deBruijn64tab", laid_math_bits_deBruijn64tab)] }
def HeadNextsSaid : Prop := headNextsRow.holds Tryd.pinned (OpenSpec.ofChange headNextsSpec)

/-- ITS FALSE NEIGHBOUR: 'it returns false'. Refute it at one input. -/
def headNextsWrong : ChangeSpec := { name := "headNexts", fn := fun _ => fun
  | [d] => { results := [.lit (.bool false)], args := [d] }
  | _ => none }
def HeadNextsWrongFalsely : Prop := headNextsRow.holds Tryd.pinned (OpenSpec.ofChange headNextsWrong)

/-- 'besomlaw06.HeadEach': WHATEVER THE INPUT: true; the input reads as it did. -/
def headEachSpec : ChangeSpec := { name := "headEach", fn := fun _ => fun
  | [d1, d2] => { results := [.lit (.bool true)], args := [d1, d2] }
  | _ => none }
def headEachRow : OpenClaim := { program := "ytdadleamaalhiabdoor", sum := "081d2d60c2814328a4e7053d4e624e375a7510889d48c63f06b997581179a417", func := "besom/besomlaw06.HeadEach", spec := "headEach", named := ["math/bits.deBruijn64tab"], apart := false, laid := [("math/bits.deBruijn64tab", laid_math_bits_deBruijn64tab)] }
def HeadEachSaid : Prop := headEachRow.holds Tryd.pinned (OpenSpec.ofChange headEachSpec)

/-- ITS FALSE NEIGHBOUR: 'it returns false'. Refute it at one input. -/
def headEachWrong : ChangeSpec := { name := "headEach", fn := fun _ => fun
  | [d1, d2] => { results := [.lit (.bool false)], args := [d1, d2] }
  | _ => none }
def HeadEachWrongFalsely : Prop := headEachRow.holds Tryd.pinned (OpenSpec.ofChange headEachWrong)

/-- 'besomlaw06.HeadPlain': WHATEVER THE INPUT: true; the input reads as it did. -/
def headPlainSpec : ChangeSpec := { name := "headPlain", fn := fun _ => fun
  | [d1, d2] => { results := [.lit (.bool true)], args := [d1, d2] }
  | _ => none }
def headPlainRow : OpenClaim := { program := "ytdadleamaalhiabdoor", sum := "081d2d60c2814328a4e7053d4e624e375a7510889d48c63f06b997581179a417", func := "besom/besomlaw06.HeadPlain", spec := "headPlain", named := ["math/bits.deBruijn64tab"], apart := false, laid := [("math/bits.deBruijn64tab", laid_math_bits_deBruijn64tab)] }
def HeadPlainSaid : Prop := headPlainRow.holds Tryd.pinned (OpenSpec.ofChange headPlainSpec)

/-- ITS FALSE NEIGHBOUR: 'it returns false'. Refute it at one input. -/
def headPlainWrong : ChangeSpec := { name := "headPlain", fn := fun _ => fun
  | [d1, d2] => { results := [.lit (.bool false)], args := [d1, d2] }
  | _ => none }
def HeadPlainWrongFalsely : Prop := headPlainRow.holds Tryd.pinned (OpenSpec.ofChange headPlainWrong)

/- THE SECOND FORM. 'bulk': how many values and letters a reading holds, each counted each time it is reached (what is shared counts as often as it is met; a slice's spare places count too). A statement '..UptoSaid' is the law's where the arguments, and the package variables that the reading takes, are together of bulk at most 1048576: NARROWER than '..Said'. Prove '..Said' where nothing that the law and all that it calls make is longer than what came in: it says more and counts as full. Else prove '..UptoSaid'. A law counts once. -/
mutual
def uptoBulk {H : Type} : DataW H → Nat
  | .lit (.string bytes) => bytes.length + 1
  | .lit _ => 1
  | .nil => 1
  | .ptr d => uptoBulk d + 1
  | .slice elems spare => uptoBulkAll elems + uptoBulkAll spare + 1
  | .agg parts => uptoBulkAll parts + 1
  | .iface _ d => uptoBulk d + 1
  | .map entries => uptoBulkEntries entries + 1
  | .held _ => 1
def uptoBulkAll {H : Type} : List (DataW H) → Nat
  | [] => 0
  | d :: r => uptoBulk d + uptoBulkAll r
def uptoBulkEntries {H : Type} : List (Lit × DataW H) → Nat
  | [] => 0
  | x :: r => uptoBulkEntry x + uptoBulkEntries r
def uptoBulkEntry {H : Type} : Lit × DataW H → Nat
  | (.string bytes, d) => bytes.length + uptoBulk d + 1
  | (_, d) => uptoBulk d + 1
 end
def uptoSmall : (H : Type) → List (DataW H) → Bool := fun _ ds => decide (uptoBulkAll ds ≤ 1048576)
def OpenSpec.upto (s : _root_.Go.ChangeSpec) : _root_.Go.OpenSpec := { _root_.Go.OpenSpec.ofChange s with cond := some uptoSmall }

/-- 'besomlaw06.HeadCodes', WHERE WHAT IT READS IS OF BULK AT MOST 1048576: true; the input reads as it did. -/
def headCodesUptoRow : OpenClaim := { program := "ytdadleamaalhiabdoor", sum := "081d2d60c2814328a4e7053d4e624e375a7510889d48c63f06b997581179a417", func := "besom/besomlaw06.HeadCodes", spec := "headCodes", named := ["math/bits.deBruijn64tab"], apart := false, laid := [("math/bits.deBruijn64tab", laid_math_bits_deBruijn64tab)], narrowed := true }
def HeadCodesUptoSaid : Prop := headCodesUptoRow.holds Tryd.pinned (OpenSpec.upto headCodesSpec)

/-- 'besomtop.TopHeld', WHERE WHAT IT READS IS OF BULK AT MOST 1048576: true; the input reads as it did. -/
def topHeldUptoRow : OpenClaim := { program := "ytdadleamaalhiabdoor", sum := "081d2d60c2814328a4e7053d4e624e375a7510889d48c63f06b997581179a417", func := "besom/besomtop.TopHeld", spec := "topHeld", named := ["math/bits.deBruijn64tab"], apart := false, laid := [("math/bits.deBruijn64tab", laid_math_bits_deBruijn64tab)], narrowed := true }
def TopHeldUptoSaid : Prop := topHeldUptoRow.holds Tryd.pinned (OpenSpec.upto topHeldSpec)

/-- 'besomlaw06.HeadFields', WHERE WHAT IT READS IS OF BULK AT MOST 1048576: true; the input reads as it did. -/
def headFieldsUptoRow : OpenClaim := { program := "ytdadleamaalhiabdoor", sum := "081d2d60c2814328a4e7053d4e624e375a7510889d48c63f06b997581179a417", func := "besom/besomlaw06.HeadFields", spec := "headFields", named := ["math/bits.deBruijn64tab"], apart := false, laid := [("math/bits.deBruijn64tab", laid_math_bits_deBruijn64tab)], narrowed := true }
def HeadFieldsUptoSaid : Prop := headFieldsUptoRow.holds Tryd.pinned (OpenSpec.upto headFieldsSpec)

/-- 'besomlaw06.HeadBack', WHERE WHAT IT READS IS OF BULK AT MOST 1048576: true; the input reads as it did. -/
def headBackUptoRow : OpenClaim := { program := "ytdadleamaalhiabdoor", sum := "081d2d60c2814328a4e7053d4e624e375a7510889d48c63f06b997581179a417", func := "besom/besomlaw06.HeadBack", spec := "headBack", named := ["math/bits.deBruijn64tab"], apart := false, laid := [("math/bits.deBruijn64tab", laid_math_bits_deBruijn64tab)], narrowed := true }
def HeadBackUptoSaid : Prop := headBackUptoRow.holds Tryd.pinned (OpenSpec.upto headBackSpec)

/-- 'besomlaw06.HeadNexts', WHERE WHAT IT READS IS OF BULK AT MOST 1048576: true; the input reads as it did. -/
def headNextsUptoRow : OpenClaim := { program := "ytdadleamaalhiabdoor", sum := "081d2d60c2814328a4e7053d4e624e375a7510889d48c63f06b997581179a417", func := "besom/besomlaw06.HeadNexts", spec := "headNexts", named := ["math/bits.deBruijn64tab"], apart := false, laid := [("math/bits.deBruijn64tab", laid_math_bits_deBruijn64tab)], narrowed := true }
def HeadNextsUptoSaid : Prop := headNextsUptoRow.holds Tryd.pinned (OpenSpec.upto headNextsSpec)

/-- 'besomlaw06.HeadEach', WHERE WHAT IT READS IS OF BULK AT MOST 1048576: true; the input reads as it did. -/
def headEachUptoRow : OpenClaim := { program := "ytdadleamaalhiabdoor", sum := "081d2d60c2814328a4e7053d4e624e375a7510889d48c63f06b997581179a417", func := "besom/besomlaw06.HeadEach", spec := "headEach", named := ["math/bits.deBruijn64tab"], apart := false, laid := [("math/bits.deBruijn64tab", laid_math_bits_deBruijn64tab)], narrowed := true }
def HeadEachUptoSaid : Prop := headEachUptoRow.holds Tryd.pinned (OpenSpec.upto headEachSpec)

/-- 'besomlaw06.HeadPlain', WHERE WHAT IT READS IS OF BULK AT MOST 1048576: true; the input reads as it did. -/
def headPlainUptoRow : OpenClaim := { program := "ytdadleamaalhiabdoor", sum := "081d2d60c2814328a4e7053d4e624e375a7510889d48c63f06b997581179a417", func := "besom/besomlaw06.HeadPlain", spec := "headPlain", named := ["math/bits.deBruijn64tab"], apart := false, laid := [("math/bits.deBruijn64tab", laid_math_bits_deBruijn64tab)], narrowed := true }
def HeadPlainUptoSaid : Prop := headPlainUptoRow.holds Tryd.pinned (OpenSpec.upto headPlainSpec)

end Rows
end Go.Proofs.YtdadleamaalhiabDoor
