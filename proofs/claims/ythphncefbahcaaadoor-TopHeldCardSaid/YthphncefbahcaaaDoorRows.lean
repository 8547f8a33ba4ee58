/-
  NARROWER THAN 'FOR EVERY INPUT', by the rows' own cells (each row's printed sentence says how): BitsOne: laid · BitsRun: laid · BitsFilled: laid · BitsOwn: laid · PagesTake: laid · PagesAsk: laid · PagesBack: laid · PagesApart: laid · PagesFull: laid · PagesFirst: laid · PagesMore: laid · TopHeld: laid.
  DERIVED. THE GIVEN ROWS OF THIS SEAT. 12 by the template 'for every input the law returns true; each argument reads behind the call as it read before'; 0 by the template 'total and deterministic' (their statements: YthphncefbahcaaaDoorTotals.lean).
  GIVEN WITH THE SEED: the statements are not yours to turn. If you find one false, say at which input.
  Laid BY PROGRAM, IN A SANDBOX (cutbox-rows.mjs): the forced cells as the released guide's own fill.sh prints them over the translation 684b73125c4b8e10… (all of the seat's roots in one cut). By AI agents, Wed Nov 11 2026. No macro, syntax, notation, axiom, sorry.
-/
import Derived.Test.YthphncefbahcaaaDoorChecked
import GoSem.Claim
import GoSem.ClaimJoined
import GoSem.ClaimMapViews
import Derived.JoinedTies
import Derived.KernelRfl
namespace Go.Proofs.YthphncefbahcaaaDoor
/- THE CELL 'sum', in the pinned program and in every row, IS THE sha256 OF THE DUMP (.gsa) THAT YthphncefbahcaaaDoorProg.lean LOADS. Nothing in Lean hashes anything: it is a label: what it is worth is what the hold of that sum in a sandbox is worth. -/
noncomputable def Tryd.pinned : Pinned := { name := "ythphncefbahcaaadoor", sum := "684b73125c4b8e105dda0186b603d7bc8e12dfcf95f992df115fb225f31e2215", checked := Tryd.checked }
namespace Rows
def none {H : Type} : Left H := { results := [], args := [] }

/- WHAT THE LISTED PACKAGE-LEVEL VARIABLES READ AS WHEN THE CALL BEGINS. Each datum BY PROGRAM (the guide's laid-datum.mjs) off the statement by which the dump's own 'gosem.cut.vars' lays the variable. In a bare row this is a premise. The card (YthphncefbahcaaaDoorCards.lean) ties it to the program's text. -/
def laid_math_bits_deBruijn64tab {H : Type} : DataW H := .agg [.lit (.int .u8 0), .lit (.int .u8 1), .lit (.int .u8 56), .lit (.int .u8 2), .lit (.int .u8 57), .lit (.int .u8 49), .lit (.int .u8 28), .lit (.int .u8 3), .lit (.int .u8 61), .lit (.int .u8 58), .lit (.int .u8 42), .lit (.int .u8 50), .lit (.int .u8 38), .lit (.int .u8 29), .lit (.int .u8 17), .lit (.int .u8 4), .lit (.int .u8 62), .lit (.int .u8 47), .lit (.int .u8 59), .lit (.int .u8 36), .lit (.int .u8 45), .lit (.int .u8 43), .lit (.int .u8 51), .lit (.int .u8 22), .lit (.int .u8 53), .lit (.int .u8 39), .lit (.int .u8 33), .lit (.int .u8 30), .lit (.int .u8 24), .lit (.int .u8 18), .lit (.int .u8 12), .lit (.int .u8 5), .lit (.int .u8 63), .lit (.int .u8 55), .lit (.int .u8 48), .lit (.int .u8 27), .lit (.int .u8 60), .lit (.int .u8 41), .lit (.int .u8 37), .lit (.int .u8 16), .lit (.int .u8 46), .lit (.int .u8 35), .lit (.int .u8 44), .lit (.int .u8 21), .lit (.int .u8 52), .lit (.int .u8 32), .lit (.int .u8 23), .lit (.int .u8 11), .lit (.int .u8 54), .lit (.int .u8 26), .lit (.int .u8 40), .lit (.int .u8 15), .lit (.int .u8 34), .lit (.int .u8 20), .lit (.int .u8 31), .lit (.int .u8 10), .lit (.int .u8 25), .lit (.int .u8 14), .lit (.int .u8 19), .lit (.int .u8 9), .lit (.int .u8 13), .lit (.int .u8 8), .lit (.int .u8 7), .lit (.int .u8 6)]

/-- 'besomlaw01.BitsOne': WHATEVER THE INPUT: true; the input reads as it did. -/
def bitsOneSpec : ChangeSpec := { name := "bitsOne", fn := fun _ => fun
  | [d1, d2, d3, d4] => { results := [.lit (.bool true)], args := [d1, d2, d3, d4] }
  | _ => none }
def bitsOneRow : OpenClaim := { program := "ythphncefbahcaaadoor", sum := "684b73125c4b8e105dda0186b603d7bc8e12dfcf95f992df115fb225f31e2215", func := "besom/besomlaw01.BitsOne", spec := "bitsOne", named := ["math/bits.deBruijn64tab"], apart := false, laid := [("math/bits.deBruijn64tab", laid_math_bits_deBruijn64tab)] }
def BitsOneSaid : Prop := bitsOneRow.holds Tryd.pinned (OpenSpec.ofChange bitsOneSpec)

/-- ITS FALSE NEIGHBOUR: 'it returns false'. Refute it at one input. -/
def bitsOneWrong : ChangeSpec := { name := "bitsOne", fn := fun _ => fun
  | [d1, d2, d3, d4] => { results := [.lit (.bool false)], args := [d1, d2, d3, d4] }
  | _ => none }
def BitsOneWrongFalsely : Prop := bitsOneRow.holds Tryd.pinned (OpenSpec.ofChange bitsOneWrong)

/-- 'besomlaw01.BitsRun': WHATEVER THE INPUT: true; the input reads as it did. -/
def bitsRunSpec : ChangeSpec := { name := "bitsRun", fn := fun _ => fun
  | [d1, d2] => { results := [.lit (.bool true)], args := [d1, d2] }
  | _ => none }
def bitsRunRow : OpenClaim := { program := "ythphncefbahcaaadoor", sum := "684b73125c4b8e105dda0186b603d7bc8e12dfcf95f992df115fb225f31e2215", func := "besom/besomlaw01.BitsRun", spec := "bitsRun", named := ["math/bits.deBruijn64tab"], apart := false, laid := [("math/bits.deBruijn64tab", laid_math_bits_deBruijn64tab)] }
def BitsRunSaid : Prop := bitsRunRow.holds Tryd.pinned (OpenSpec.ofChange bitsRunSpec)

/-- ITS FALSE NEIGHBOUR: 'it returns false'. Refute it at one input. -/
def bitsRunWrong : ChangeSpec := { name := "bitsRun", fn := fun _ => fun
  | [d1, d2] => { results := [.lit (.bool false)], args := [d1, d2] }
  | _ => none }
def BitsRunWrongFalsely : Prop := bitsRunRow.holds Tryd.pinned (OpenSpec.ofChange bitsRunWrong)

/-- 'besomlaw01.BitsFilled': WHATEVER THE INPUT: true; the input reads as it did. -/
def bitsFilledSpec : ChangeSpec := { name := "bitsFilled", fn := fun _ => fun
  | [d1, d2, d3] => { results := [.lit (.bool true)], args := [d1, d2, d3] }
  | _ => none }
def bitsFilledRow : OpenClaim := { program := "ythphncefbahcaaadoor", sum := "684b73125c4b8e105dda0186b603d7bc8e12dfcf95f992df115fb225f31e2215", func := "besom/besomlaw01.BitsFilled", spec := "bitsFilled", named := ["math/bits.deBruijn64tab"], apart := false, laid := [("math/bits.deBruijn64tab", laid_math_bits_deBruijn64tab)] }
def BitsFilledSaid : Prop := bitsFilledRow.holds Tryd.pinned (OpenSpec.ofChange bitsFilledSpec)

/-- ITS FALSE NEIGHBOUR: 'it returns false'. Refute it at one input. -/
def bitsFilledWrong : ChangeSpec := { name := "bitsFilled", fn := fun _ => fun
  | [d1, d2, d3] => { results := [.lit (.bool false)], args := [d1, d2, d3] }
  | _ => none }
def BitsFilledWrongFalsely : Prop := bitsFilledRow.holds Tryd.pinned (OpenSpec.ofChange bitsFilledWrong)

/-- 'besomlaw01.BitsOwn': WHATEVER THE INPUT: true; the input reads as it did. -/
def bitsOwnSpec : ChangeSpec := { name := "bitsOwn", fn := fun _ => fun
  | [d1, d2, d3] => { results := [.lit (.bool true)], args := [d1, d2, d3] }
  | _ => none }
def bitsOwnRow : OpenClaim := { program := "ythphncefbahcaaadoor", sum := "684b73125c4b8e105dda0186b603d7bc8e12dfcf95f992df115fb225f31e2215", func := "besom/besomlaw01.BitsOwn", spec := "bitsOwn", named := ["math/bits.deBruijn64tab"], apart := false, laid := [("math/bits.deBruijn64tab", laid_math_bits_deBruijn64tab)] }
def BitsOwnSaid : Prop := bitsOwnRow.holds Tryd.pinned (OpenSpec.ofChange bitsOwnSpec)

/-- ITS FALSE NEIGHBOUR: 'it returns false'. Refute it at one input. -/
def bitsOwnWrong : ChangeSpec := { name := "bitsOwn", fn := fun _ => fun
  | [d1, d2, d3] => { results := [.lit (.bool false)], args := [d1, d2, d3] }
  | _ => none }
def BitsOwnWrongFalsely : Prop := bitsOwnRow.holds Tryd.pinned (OpenSpec.ofChange bitsOwnWrong)

/-- 'besomlaw03.PagesTake': WHATEVER THE INPUT: true; the input reads as it did. -/
def pagesTakeSpec : ChangeSpec := { name := "pagesTake", fn := fun _ => fun
  | [d1, d2, d3] => { results := [.lit (.bool true)], args := [d1, d2, d3] }
  | _ => none }
def pagesTakeRow : OpenClaim := { program := "ythphncefbahcaaadoor", sum := "684b73125c4b8e105dda0186b603d7bc8e12dfcf95f992df115fb225f31e2215", func := "besom/besomlaw03.PagesTake", spec := "pagesTake", named := ["math/bits.deBruijn64tab"], apart := false, laid := [("math/bits.deBruijn64tab", laid_math_bits_deBruijn64tab)] }
def PagesTakeSaid : Prop := pagesTakeRow.holds Tryd.pinned (OpenSpec.ofChange pagesTakeSpec)

/-- ITS FALSE NEIGHBOUR: 'it returns false'. Refute it at one input. -/
def pagesTakeWrong : ChangeSpec := { name := "pagesTake", fn := fun _ => fun
  | [d1, d2, d3] => { results := [.lit (.bool false)], args := [d1, d2, d3] }
  | _ => none }
def PagesTakeWrongFalsely : Prop := pagesTakeRow.holds Tryd.pinned (OpenSpec.ofChange pagesTakeWrong)

/-- 'besomlaw03.PagesAsk': WHATEVER THE INPUT: true; the input reads as it did. -/
def pagesAskSpec : ChangeSpec := { name := "pagesAsk", fn := fun _ => fun
  | [d1, d2] => { results := [.lit (.bool true)], args := [d1, d2] }
  | _ => none }
def pagesAskRow : OpenClaim := { program := "ythphncefbahcaaadoor", sum := "684b73125c4b8e105dda0186b603d7bc8e12dfcf95f992df115fb225f31e2215", func := "besom/besomlaw03.PagesAsk", spec := "pagesAsk", named := ["math/bits.deBruijn64tab"], apart := false, laid := [("math/bits.deBruijn64tab", laid_math_bits_deBruijn64tab)] }
def PagesAskSaid : Prop := pagesAskRow.holds Tryd.pinned (OpenSpec.ofChange pagesAskSpec)

/-- ITS FALSE NEIGHBOUR: 'it returns false'. Refute it at one input. -/
def pagesAskWrong : ChangeSpec := { name := "pagesAsk", fn := fun _ => fun
  | [d1, d2] => { results := [.lit (.bool false)], args := [d1, d2] }
  | _ => none }
def PagesAskWrongFalsely : Prop := pagesAskRow.holds Tryd.pinned (OpenSpec.ofChange pagesAskWrong)

/-- 'besomlaw03.PagesBack': WHATEVER THE INPUT: true; the input reads as it did. -/
def pagesBackSpec : ChangeSpec := { name := "pagesBack", fn := fun _ => fun
  | [d1, d2] => { results := [.lit (.bool true)], args := [d1, d2] }
  | _ => none }
def pagesBackRow : OpenClaim := { program := "ythphncefbahcaaadoor", sum := "684b73125c4b8e105dda0186b603d7bc8e12dfcf95f992df115fb225f31e2215", func := "besom/besomlaw03.PagesBack", spec := "pagesBack", named := ["math/bits.deBruijn64tab"], apart := false, laid := [("math/bits.deBruijn64tab", laid_math_bits_deBruijn64tab)] }
def PagesBackSaid : Prop := pagesBackRow.holds Tryd.pinned (OpenSpec.ofChange pagesBackSpec)

/-- ITS FALSE NEIGHBOUR: 'it returns false'. Refute it at one input. -/
def pagesBackWrong : ChangeSpec := { name := "pagesBack", fn := fun _ => fun
  | [d1, d2] => { results := [.lit (.bool false)], args := [d1, d2] }
  | _ => none }
def PagesBackWrongFalsely : Prop := pagesBackRow.holds Tryd.pinned (OpenSpec.ofChange pagesBackWrong)

/-- 'besomlaw03.PagesApart': WHATEVER THE INPUT: true; the input reads as it did. -/
def pagesApartSpec : ChangeSpec := { name := "pagesApart", fn := fun _ => fun
  | [d1, d2] => { results := [.lit (.bool true)], args := [d1, d2] }
  | _ => none }
def pagesApartRow : OpenClaim := { program := "ythphncefbahcaaadoor", sum := "684b73125c4b8e105dda0186b603d7bc8e12dfcf95f992df115fb225f31e2215", func := "besom/besomlaw03.PagesApart", spec := "pagesApart", named := ["math/bits.deBruijn64tab"], apart := false, laid := [("math/bits.deBruijn64tab", laid_math_bits_deBruijn64tab)] }
def PagesApartSaid : Prop := pagesApartRow.holds Tryd.pinned (OpenSpec.ofChange pagesApartSpec)

/-- ITS FALSE NEIGHBOUR: 'it returns false'. Refute it at one input. -/
def pagesApartWrong : ChangeSpec := { name := "pagesApart", fn := fun _ => fun
  | [d1, d2] => { results := [.lit (.bool false)], args := [d1, d2] }
  | _ => none }
def PagesApartWrongFalsely : Prop := pagesApartRow.holds Tryd.pinned (OpenSpec.ofChange pagesApartWrong)

/-- 'besomlaw03.PagesFull': WHATEVER THE INPUT: true; the input reads as it did. -/
def pagesFullSpec : ChangeSpec := { name := "pagesFull", fn := fun _ => fun
  | [d1, d2] => { results := [.lit (.bool true)], args := [d1, d2] }
  | _ => none }
def pagesFullRow : OpenClaim := { program := "ythphncefbahcaaadoor", sum := "684b73125c4b8e105dda0186b603d7bc8e12dfcf95f992df115fb225f31e2215", func := "besom/besomlaw03.PagesFull", spec := "pagesFull", named := ["math/bits.deBruijn64tab"], apart := false, laid := [("math/bits.deBruijn64tab", laid_math_bits_deBruijn64tab)] }
def PagesFullSaid : Prop := pagesFullRow.holds Tryd.pinned (OpenSpec.ofChange pagesFullSpec)

/-- ITS FALSE NEIGHBOUR: 'it returns false'. Refute it at one input. -/
def pagesFullWrong : ChangeSpec := { name := "pagesFull", fn := fun _ => fun
  | [d1, d2] => { results := [.lit (.bool false)], args := [d1, d2] }
  | _ => none }
def PagesFullWrongFalsely : Prop := pagesFullRow.holds Tryd.pinned (OpenSpec.ofChange pagesFullWrong)

/-- 'besomlaw03.PagesFirst': WHATEVER THE INPUT: true; the input reads as it did. -/
def pagesFirstSpec : ChangeSpec := { name := "pagesFirst", fn := fun _ => fun
  | [d1, d2, d3] => { results := [.lit (.bool true)], args := [d1, d2, d3] }
  | _ => none }
def pagesFirstRow : OpenClaim := { program := "ythphncefbahcaaadoor", sum := "684b73125c4b8e105dda0186b603d7bc8e12dfcf95f992df115fb225f31e2215", func := "besom/besomlaw03.PagesFirst", spec := "pagesFirst", named := ["math/bits.deBruijn64tab"], apart := false, laid := [("math/bits.deBruijn64tab", laid_math_bits_deBruijn64tab)] }
def PagesFirstSaid : Prop := pagesFirstRow.holds Tryd.pinned (OpenSpec.ofChange pagesFirstSpec)

/-- ITS FALSE NEIGHBOUR: 'it returns false'. Refute it at one input. -/
def pagesFirstWrong : ChangeSpec := { name := "pagesFirst", fn := fun _ => fun
  | [d1, d2, d3] => { results := [.lit (.bool false)], args := [d1, d2, d3] }
  | _ => none }
def PagesFirstWrongFalsely : Prop := pagesFirstRow.holds Tryd.pinned (OpenSpec.ofChange pagesFirstWrong)

/-- 'besomlaw03.PagesMore': WHATEVER THE INPUT: true; the input reads as it did. -/
def pagesMoreSpec : ChangeSpec := { name := "pagesMore", fn := fun _ => fun
  | [d1, d2, d3, d4] => { results := [.lit (.bool true)], args := [d1, d2, d3, d4] }
  | _ => none }
def pagesMoreRow : OpenClaim := { program := "ythphncefbahcaaadoor", sum := "684b73125c4b8e105dda0186b603d7bc8e12dfcf95f992df115fb225f31e2215", func := "besom/besomlaw03.PagesMore", spec := "pagesMore", named := ["math/bits.deBruijn64tab"], apart := false, laid := [("math/bits.deBruijn64tab", laid_math_bits_deBruijn64tab)] }
def PagesMoreSaid : Prop := pagesMoreRow.holds Tryd.pinned (OpenSpec.ofChange pagesMoreSpec)

/-- ITS FALSE NEIGHBOUR: 'it returns false'. Refute it at one input. -/
def pagesMoreWrong : ChangeSpec := { name := "pagesMore", fn := fun _ => fun
  | [d1, d2, d3, d4] => { results := [.lit (.bool false)], args := [d1, d2, d3, d4] }
  | _ => none }
def PagesMoreWrongFalsely : Prop := pagesMoreRow.holds Tryd.pinned (OpenSpec.ofChange pagesMoreWrong)

/-- 'besomtop.TopHeld': WHATEVER THE INPUT: true; the input reads as it did. -/
def topHeldSpec : ChangeSpec := { name := "topHeld", fn := fun _ => fun
  | [d1, d2, d3] => { results := [.lit (.bool true)], args := [d1, d2, d3] }
  | _ => none }
def topHeldRow : OpenClaim := { program := "ythphncefbahcaaadoor", sum := "684b73125c4b8e105dda0186b603d7bc8e12dfcf95f992df115fb225f31e2215", func := "besom/besomtop.TopHeld", spec := "topHeld", named := ["math/bits.deBruijn64tab"], apart := false, laid := [("math/bits.deBruijn64tab", laid_math_bits_deBruijn64tab)] }
def TopHeldSaid : Prop := topHeldRow.holds Tryd.pinned (OpenSpec.ofChange topHeldSpec)

/-- ITS FALSE NEIGHBOUR: 'it returns false'. Refute it at one input. -/
def topHeldWrong : ChangeSpec := { name := "topHeld", fn := fun _ => fun
  | [d1, d2, d3] => { results := [.lit (.bool false)], args := [d1, d2, d3] }
  | _ => none }
def TopHeldWrongFalsely : Prop := topHeldRow.holds Tryd.pinned (OpenSpec.ofChange topHeldWrong)

/- THE SECOND FORM. 'bulk': how many values and letters a reading holds, each counted each time it is reached (what is shared counts as often as it is met; a slice's spare places count too). A statement '..UptoSaid' is the law's where the arguments, and the package variables that the reading takes, are together of bulk at most 1048576: NARROWER than '..Said'. Prove '..Said' where nothing that the law and all that it calls make is longer than what came in: it says more and counts as full. Else prove '..UptoSaid'. A law counts once. -/
mutual
def uptoBulk {H : Type} : DataW H → Nat
  | .lit (.string bytes) => bytes.length + 1
  | .lit _ => 1
  | .nil => 1
  | .ptr d => uptoBulk d + 1
  | .slice elems spare => uptoBulkAll elems + uptoBulkAll spare + 1
  | .agg parts => uptoBulkAll parts + 1
  | .iface _ d => uptoBulk d + 1
  | .map entries => uptoBulkEntries entries + 1
  | .held _ => 1
def uptoBulkAll {H : Type} : List (DataW H) → Nat
  | [] => 0
  | d :: r => uptoBulk d + uptoBulkAll r
def uptoBulkEntries {H : Type} : List (Lit × DataW H) → Nat
  | [] => 0
  | x :: r => uptoBulkEntry x + uptoBulkEntries r
def uptoBulkEntry {H : Type} : Lit × DataW H → Nat
  | (.string bytes, d) => bytes.length + uptoBulk d + 1
  | (_, d) => uptoBulk d + 1
 end
def uptoSmall : (H : Type) → List (DataW H) → Bool := fun _ ds => decide (uptoBulkAll ds ≤ 1048576)
def OpenSpec.upto (s : _root_.Go.ChangeSpec) : _root_.Go.OpenSpec := { _root_.Go.OpenSpec.ofChange s with cond := some uptoSmall }

/-- 'besomlaw01.BitsOne', WHERE WHAT IT READS IS OF BULK AT MOST 1048576: true; the input reads as it did. -/
def bitsOneUptoRow : OpenClaim := { program := "ythphncefbahcaaadoor", sum := "684b73125c4b8e105dda0186b603d7bc8e12dfcf95f992df115fb225f31e2215", func := "besom/besomlaw01.BitsOne", spec := "bitsOne", named := ["math/bits.deBruijn64tab"], apart := false, laid := [("math/bits.deBruijn64tab", laid_math_bits_deBruijn64tab)], narrowed := true }
def BitsOneUptoSaid : Prop := bitsOneUptoRow.holds Tryd.pinned (OpenSpec.upto bitsOneSpec)

/-- 'besomlaw01.BitsRun', WHERE WHAT IT READS IS OF BULK AT MOST 1048576: true; the input reads as it did. -/
def bitsRunUptoRow : OpenClaim := { program := "ythphncefbahcaaadoor", sum := "684b73125c4b8e105dda0186b603d7bc8e12dfcf95f992df115fb225f31e2215", func := "besom/besomlaw01.BitsRun", spec := "bitsRun", named := ["math/bits.deBruijn64tab"], apart := false, laid := [("math/bits.deBruijn64tab", laid_math_bits_deBruijn64tab)], narrowed := true }
def BitsRunUptoSaid : Prop := bitsRunUptoRow.holds Tryd.pinned (OpenSpec.upto bitsRunSpec)

/-- 'besomlaw01.BitsFilled', WHERE WHAT IT READS IS OF BULK AT MOST 1048576: true; the input reads as it did. -/
def bitsFilledUptoRow : OpenClaim := { program := "ythphncefbahcaaadoor", sum := "684b73125c4b8e105dda0186b603d7bc8e12dfcf95f992df115fb225f31e2215", func := "besom/besomlaw01.BitsFilled", spec := "bitsFilled", named := ["math/bits.deBruijn64tab"], apart := false, laid := [("math/bits.deBruijn64tab", laid_math_bits_deBruijn64tab)], narrowed := true }
def BitsFilledUptoSaid : Prop := bitsFilledUptoRow.holds Tryd.pinned (OpenSpec.upto bitsFilledSpec)

/-- 'besomlaw01.BitsOwn', WHERE WHAT IT READS IS OF BULK AT MOST 1048576: true; the input reads as it did. -/
def bitsOwnUptoRow : OpenClaim := { program := "ythphncefbahcaaadoor", sum := "684b73125c4b8e105dda0186b603d7bc8e12dfcf95f992df115fb225f31e2215", func := "besom/besomlaw01.BitsOwn", spec := "bitsOwn", named := ["math/bits.deBruijn64tab"], apart := false, laid := [("math/bits.deBruijn64tab", laid_math_bits_deBruijn64tab)], narrowed := true }
def BitsOwnUptoSaid : Prop := bitsOwnUptoRow.holds Tryd.pinned (OpenSpec.upto bitsOwnSpec)

/-- 'besomlaw03.PagesTake', WHERE WHAT IT READS IS OF BULK AT MOST 1048576: true; the input reads as it did. -/
def pagesTakeUptoRow : OpenClaim := { program := "ythphncefbahcaaadoor", sum := "684b73125c4b8e105dda0186b603d7bc8e12dfcf95f992df115fb225f31e2215", func := "besom/besomlaw03.PagesTake", spec := "pagesTake", named := ["math/bits.deBruijn64tab"], apart := false, laid := [("math/bits.deBruijn64tab", laid_math_bits_deBruijn64tab)], narrowed := true }
def PagesTakeUptoSaid : Prop := pagesTakeUptoRow.holds Tryd.pinned (OpenSpec.upto pagesTakeSpec)

/-- 'besomlaw03.PagesAsk', WHERE WHAT IT READS IS OF BULK AT MOST 1048576: true; the input reads as it did. -/
def pagesAskUptoRow : OpenClaim := { program := "ythphncefbahcaaadoor", sum := "684b73125c4b8e105dda0186b603d7bc8e12dfcf95f992df115fb225f31e2215", func := "besom/besomlaw03.PagesAsk", spec := "pagesAsk", named := ["math/bits.deBruijn64tab"], apart := false, laid := [("math/bits.deBruijn64tab", laid_math_bits_deBruijn64tab)], narrowed := true }
def PagesAskUptoSaid : Prop := pagesAskUptoRow.holds Tryd.pinned (OpenSpec.upto pagesAskSpec)

/-- 'besomlaw03.PagesBack', WHERE WHAT IT READS IS OF BULK AT MOST 1048576: true; the input reads as it did. -/
def pagesBackUptoRow : OpenClaim := { program := "ythphncefbahcaaadoor", sum := "684b73125c4b8e105dda0186b603d7bc8e12dfcf95f992df115fb225f31e2215", func := "besom/besomlaw03.PagesBack", spec := "pagesBack", named := ["math/bits.deBruijn64tab"], apart := false, laid := [("math/bits.deBruijn64tab", laid_math_bits_deBruijn64tab)], narrowed := true }
def PagesBackUptoSaid : Prop := pagesBackUptoRow.holds Tryd.pinned (OpenSpec.upto pagesBackSpec)

/-- 'besomlaw03.PagesApart', WHERE WHAT IT READS IS OF BULK AT MOST 1048576: true; the input reads as it did. -/
def pagesApartUptoRow : OpenClaim := { program := "ythphncefbahcaaadoor", sum := "684b73125c4b8e105dda0186b603d7bc8e12dfcf95f992df115fb225f31e2215", func := "besom/besomlaw03.PagesApart", spec := "pagesApart", named := ["math/bits.deBruijn64tab"], apart := false, laid := [("math/bits.deBruijn64tab", laid_math_bits_deBruijn64tab)], narrowed := true }
def PagesApartUptoSaid : Prop := pagesApartUptoRow.holds Tryd.pinned (OpenSpec.upto pagesApartSpec)

/-- 'besomlaw03.PagesFull', WHERE WHAT IT READS IS OF BULK AT MOST 1048576: true; the input reads as it did. -/
def pagesFullUptoRow : OpenClaim := { program := "ythphncefbahcaaadoor", sum := "684b73125c4b8e105dda0186b603d7bc8e12dfcf95f992df115fb225f31e2215", func := "besom/besomlaw03.PagesFull", spec := "pagesFull", named := ["math/bits.deBruijn64tab"], apart := false, laid := [("math/bits.deBruijn64tab", laid_math_bits_deBruijn64tab)], narrowed := true }
def PagesFullUptoSaid : Prop := pagesFullUptoRow.holds Tryd.pinned (OpenSpec.upto pagesFullSpec)

/-- 'besomlaw03.PagesFirst', WHERE WHAT IT READS IS OF BULK AT MOST 1048576: true; the input reads as it did. -/
def pagesFirstUptoRow : OpenClaim := { program := "ythphncefbahcaaadoor", sum := "684b73125c4b8e105dda0186b603d7bc8e12dfcf95f992df115fb225f31e2215", func := "besom/besomlaw03.PagesFirst", spec := "pagesFirst", named := ["math/bits.deBruijn64tab"], apart := false, laid := [("math/bits.deBruijn64tab", laid_math_bits_deBruijn64tab)], narrowed := true }
def PagesFirstUptoSaid : Prop := pagesFirstUptoRow.holds Tryd.pinned (OpenSpec.upto pagesFirstSpec)

/-- 'besomlaw03.PagesMore', WHERE WHAT IT READS IS OF BULK AT MOST 1048576: true; the input reads as it did. -/
def pagesMoreUptoRow : OpenClaim := { program := "ythphncefbahcaaadoor", sum := "684b73125c4b8e105dda0186b603d7bc8e12dfcf95f992df115fb225f31e2215", func := "besom/besomlaw03.PagesMore", spec := "pagesMore", named := ["math/bits.deBruijn64tab"], apart := false, laid := [("math/bits.deBruijn64tab", laid_math_bits_deBruijn64tab)], narrowed := true }
def PagesMoreUptoSaid : Prop := pagesMoreUptoRow.holds Tryd.pinned (OpenSpec.upto pagesMoreSpec)

/-- 'besomtop.TopHeld', WHERE WHAT IT READS IS OF BULK AT MOST 1048576: true; the input reads as it did. -/
def topHeldUptoRow : OpenClaim := { program := "ythphncefbahcaaadoor", sum := "684b73125c4b8e105dda0186b603d7bc8e12dfcf95f992df115fb225f31e2215", func := "besom/besomtop.TopHeld", spec := "topHeld", named := ["math/bits.deBruijn64tab"], apart := false, laid := [("math/bits.deBruijn64tab", laid_math_bits_deBruijn64tab)], narrowed := true }
def TopHeldUptoSaid : Prop := topHeldUptoRow.holds Tryd.pinned (OpenSpec.upto topHeldSpec)

end Rows
end Go.Proofs.YthphncefbahcaaaDoor
