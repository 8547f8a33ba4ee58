/-
  No cell of these rows narrows 'for every input' (looked for: loops, veiled, ifaces, maps, wideKeys, modest, calm, conditions, laid).
  DERIVED. THE GIVEN ROWS OF THIS SEAT. 5 by the template 'for every input the law returns true; each argument reads behind the call as it read before'; 0 by the template 'total and deterministic' (their statements: YtdadleamaalhiabTotals.lean).
  GIVEN WITH THE SEED: the statements are not yours to turn. If you find one false, say at which input.
  Laid BY PROGRAM, IN A SANDBOX (cutbox-rows.mjs): the forced cells as the released guide's own fill.sh prints them over the translation 2f4d515838c03b7f… (all of the seat's roots in one cut). By AI agents, Wed Nov 11 2026. No macro, syntax, notation, axiom, sorry.
-/
import Derived.Test.YtdadleamaalhiabChecked
import GoSem.Claim
import GoSem.ClaimJoined
import GoSem.ClaimMapViews
import Derived.JoinedTies
import Derived.KernelRfl
namespace Go.Proofs.Ytdadleamaalhiab
/- THE CELL 'sum', in the pinned program and in every row, IS THE sha256 OF THE DUMP (.gsa) THAT YtdadleamaalhiabProg.lean LOADS. Nothing in Lean hashes anything: it is a label: what it is worth is what the hold of that sum in a sandbox is worth. -/
noncomputable def Try.pinned : Pinned := { name := "ytdadleamaalhiab", sum := "2f4d515838c03b7f9401893a381b6d889d47fa32551c4cf45884a1fefeeacadc", checked := Try.checked }
namespace Rows
def none {H : Type} : Left H := { results := [], args := [] }

/-- 'besomlaw04.ClassFits': WHATEVER THE INPUT: true; the input reads as it did. -/
def classFitsSpec : ChangeSpec := { name := "classFits", fn := fun _ => fun
  | [d] => { results := [.lit (.bool true)], args := [d] }
  | _ => none }
def classFitsRow : OpenClaim := { program := "ytdadleamaalhiab", sum := "2f4d515838c03b7f9401893a381b6d889d47fa32551c4cf45884a1fefeeacadc", func := "besom/besomlaw04.ClassFits", spec := "classFits", apart := false }
def ClassFitsSaid : Prop := classFitsRow.holds Try.pinned (OpenSpec.ofChange classFitsSpec)

/-- ITS FALSE NEIGHBOUR: 'it returns false'. Refute it at one input. -/
def classFitsWrong : ChangeSpec := { name := "classFits", fn := fun _ => fun
  | [d] => { results := [.lit (.bool false)], args := [d] }
  | _ => none }
def ClassFitsWrongFalsely : Prop := classFitsRow.holds Try.pinned (OpenSpec.ofChange classFitsWrong)

/-- 'besomlaw04.ClassWaste': WHATEVER THE INPUT: true; the input reads as it did. -/
def classWasteSpec : ChangeSpec := { name := "classWaste", fn := fun _ => fun
  | [d1, d2] => { results := [.lit (.bool true)], args := [d1, d2] }
  | _ => none }
def classWasteRow : OpenClaim := { program := "ytdadleamaalhiab", sum := "2f4d515838c03b7f9401893a381b6d889d47fa32551c4cf45884a1fefeeacadc", func := "besom/besomlaw04.ClassWaste", spec := "classWaste", apart := false }
def ClassWasteSaid : Prop := classWasteRow.holds Try.pinned (OpenSpec.ofChange classWasteSpec)

/-- ITS FALSE NEIGHBOUR: 'it returns false'. Refute it at one input. -/
def classWasteWrong : ChangeSpec := { name := "classWaste", fn := fun _ => fun
  | [d1, d2] => { results := [.lit (.bool false)], args := [d1, d2] }
  | _ => none }
def ClassWasteWrongFalsely : Prop := classWasteRow.holds Try.pinned (OpenSpec.ofChange classWasteWrong)

/-- 'besomlaw04.ClassOrder': WHATEVER THE INPUT: true; the input reads as it did. -/
def classOrderSpec : ChangeSpec := { name := "classOrder", fn := fun _ => fun
  | [d1, d2] => { results := [.lit (.bool true)], args := [d1, d2] }
  | _ => none }
def classOrderRow : OpenClaim := { program := "ytdadleamaalhiab", sum := "2f4d515838c03b7f9401893a381b6d889d47fa32551c4cf45884a1fefeeacadc", func := "besom/besomlaw04.ClassOrder", spec := "classOrder", apart := false }
def ClassOrderSaid : Prop := classOrderRow.holds Try.pinned (OpenSpec.ofChange classOrderSpec)

/-- ITS FALSE NEIGHBOUR: 'it returns false'. Refute it at one input. -/
def classOrderWrong : ChangeSpec := { name := "classOrder", fn := fun _ => fun
  | [d1, d2] => { results := [.lit (.bool false)], args := [d1, d2] }
  | _ => none }
def ClassOrderWrongFalsely : Prop := classOrderRow.holds Try.pinned (OpenSpec.ofChange classOrderWrong)

/-- 'besomtop.TopSlotted': WHATEVER THE INPUT: true; the input reads as it did. -/
def topSlottedSpec : ChangeSpec := { name := "topSlotted", fn := fun _ => fun
  | [d1, d2, d3] => { results := [.lit (.bool true)], args := [d1, d2, d3] }
  | _ => none }
def topSlottedRow : OpenClaim := { program := "ytdadleamaalhiab", sum := "2f4d515838c03b7f9401893a381b6d889d47fa32551c4cf45884a1fefeeacadc", func := "besom/besomtop.TopSlotted", spec := "topSlotted", unfollowed := true, recurses := true, apart := false }
def TopSlottedSaid : Prop := topSlottedRow.holds Try.pinned (OpenSpec.ofChange topSlottedSpec)

/-- ITS FALSE NEIGHBOUR: 'it returns false'. Refute it at one input. -/
def topSlottedWrong : ChangeSpec := { name := "topSlotted", fn := fun _ => fun
  | [d1, d2, d3] => { results := [.lit (.bool false)], args := [d1, d2, d3] }
  | _ => none }
def TopSlottedWrongFalsely : Prop := topSlottedRow.holds Try.pinned (OpenSpec.ofChange topSlottedWrong)

/-- 'besomlaw09.WeakDoes': WHATEVER THE INPUT: true; the input reads as it did. -/
def weakDoesSpec : ChangeSpec := { name := "weakDoes", fn := fun _ => fun
  | [d1, d2, d3, d4] => { results := [.lit (.bool true)], args := [d1, d2, d3, d4] }
  | _ => none }
def weakDoesRow : OpenClaim := { program := "ytdadleamaalhiab", sum := "2f4d515838c03b7f9401893a381b6d889d47fa32551c4cf45884a1fefeeacadc", func := "besom/besomlaw09.WeakDoes", spec := "weakDoes", apart := false }
def WeakDoesSaid : Prop := weakDoesRow.holds Try.pinned (OpenSpec.ofChange weakDoesSpec)

/-- ITS FALSE NEIGHBOUR: 'it returns false'. Refute it at one input. -/
def weakDoesWrong : ChangeSpec := { name := "weakDoes", fn := fun _ => fun
  | [d1, d2, d3, d4] => { results := [.lit (.bool false)], args := [d1, d2, d3, d4] }
  | _ => none }
def WeakDoesWrongFalsely : Prop := weakDoesRow.holds Try.pinned (OpenSpec.ofChange weakDoesWrong)

/- THE SECOND FORM. 'bulk': how many values and letters a reading holds, each counted each time it is reached (what is shared counts as often as it is met; a slice's spare places count too). A statement '..UptoSaid' is the law's where the arguments, and the package variables that the reading takes, are together of bulk at most 1048576: NARROWER than '..Said'. Prove '..Said' where nothing that the law and all that it calls make is longer than what came in: it says more and counts as full. Else prove '..UptoSaid'. A law counts once. -/
mutual
def uptoBulk {H : Type} : DataW H → Nat
  | .lit (.string bytes) => bytes.length + 1
  | .lit _ => 1
  | .nil => 1
  | .ptr d => uptoBulk d + 1
  | .slice elems spare => uptoBulkAll elems + uptoBulkAll spare + 1
  | .agg parts => uptoBulkAll parts + 1
  | .iface _ d => uptoBulk d + 1
  | .map entries => uptoBulkEntries entries + 1
  | .held _ => 1
def uptoBulkAll {H : Type} : List (DataW H) → Nat
  | [] => 0
  | d :: r => uptoBulk d + uptoBulkAll r
def uptoBulkEntries {H : Type} : List (Lit × DataW H) → Nat
  | [] => 0
  | x :: r => uptoBulkEntry x + uptoBulkEntries r
def uptoBulkEntry {H : Type} : Lit × DataW H → Nat
  | (.string bytes, d) => bytes.length + uptoBulk d + 1
  | (_, d) => uptoBulk d + 1
 end
def uptoSmall : (H : Type) → List (DataW H) → Bool := fun _ ds => decide (uptoBulkAll ds ≤ 1048576)
def OpenSpec.upto (s : _root_.Go.ChangeSpec) : _root_.Go.OpenSpec := { _root_.Go.OpenSpec.ofChange s with cond := some uptoSmall }

/-- 'besomlaw04.ClassFits', WHERE WHAT IT READS IS OF BULK AT MOST 1048576: true; the input reads as it did. -/
def classFitsUptoRow : OpenClaim := { program := "ytdadleamaalhiab", sum := "2f4d515838c03b7f9401893a381b6d889d47fa32551c4cf45884a1fefeeacadc", func := "besom/besomlaw04.ClassFits", spec := "classFits", apart := false, narrowed := true }
def ClassFitsUptoSaid : Prop := classFitsUptoRow.holds Try.pinned (OpenSpec.upto classFitsSpec)

/-- 'besomlaw04.ClassWaste', WHERE WHAT IT READS IS OF BULK AT MOST 1048576: true; the input reads as it did. -/
def classWasteUptoRow : OpenClaim := { program := "ytdadleamaalhiab", sum := "2f4d515838c03b7f9401893a381b6d889d47fa32551c4cf45884a1fefeeacadc", func := "besom/besomlaw04.ClassWaste", spec := "classWaste", apart := false, narrowed := true }
def ClassWasteUptoSaid : Prop := classWasteUptoRow.holds Try.pinned (OpenSpec.upto classWasteSpec)

/-- 'besomlaw04.ClassOrder', WHERE WHAT IT READS IS OF BULK AT MOST 1048576: true; the input reads as it did. -/
def classOrderUptoRow : OpenClaim := { program := "ytdadleamaalhiab", sum := "2f4d515838c03b7f9401893a381b6d889d47fa32551c4cf45884a1fefeeacadc", func := "besom/besomlaw04.ClassOrder", spec := "classOrder", apart := false, narrowed := true }
def ClassOrderUptoSaid : Prop := classOrderUptoRow.holds Try.pinned (OpenSpec.upto classOrderSpec)

/-- 'besomtop.TopSlotted', WHERE WHAT IT READS IS OF BULK AT MOST 1048576: true; the input reads as it did. -/
def topSlottedUptoRow : OpenClaim := { program := "ytdadleamaalhiab", sum := "2f4d515838c03b7f9401893a381b6d889d47fa32551c4cf45884a1fefeeacadc", func := "besom/besomtop.TopSlotted", spec := "topSlotted", unfollowed := true, recurses := true, apart := false, narrowed := true }
def TopSlottedUptoSaid : Prop := topSlottedUptoRow.holds Try.pinned (OpenSpec.upto topSlottedSpec)

/-- 'besomlaw09.WeakDoes', WHERE WHAT IT READS IS OF BULK AT MOST 1048576: true; the input reads as it did. -/
def weakDoesUptoRow : OpenClaim := { program := "ytdadleamaalhiab", sum := "2f4d515838c03b7f9401893a381b6d889d47fa32551c4cf45884a1fefeeacadc", func := "besom/besomlaw09.WeakDoes", spec := "weakDoes", apart := false, narrowed := true }
def WeakDoesUptoSaid : Prop := weakDoesUptoRow.holds Try.pinned (OpenSpec.upto weakDoesSpec)

end Rows
end Go.Proofs.Ytdadleamaalhiab
