/-
  DERIVED. GIVEN WITH THE SEED: THE CARDS: each row of YtdadleamaalhiabDoorRows.lean that lists a variable, with what it lists TIED to the program's text (the seventh form; the later family's looks); each row that meets fmt, with fmt's text TOLD by the authors' own Lean function (tested against real Go, not proved from fmt's source: count such statements apart). THE CARD IS WHAT COUNTS. Prove the row's statement (the work); the ties are given (YtdadleamaalhiabDoorTie.lean); close each card by the builder's one call (the guide's Derived/Test/ToyasCard.lean, 'card_holds'). Laid BY PROGRAM, IN A SANDBOX (cutbox-door.mjs). By AI agents, Wed Nov 11 2026. No macro, syntax, notation, axiom, sorry.
-/
import Derived.Test.YtdadleamaalhiabDoorRows
import GoSem.ClaimSeven
namespace Go.Proofs.YtdadleamaalhiabDoor
namespace Rows

/-- THE TIED CARD OF 'besomlaw06.HeadCodes'. -/
def headCodesCard : Claim7 := { stood := { row := headCodesRow, standIns := [], harness := (true, "138f20377bd8fb6a300c350fd4287247f4a6fc9fc9a578d13344ad95ee8f268e"), looks := false }, kinds := [], alts := [], laidByText := true, laidKinds := [.data], laidTests := true, laidLooks := .later }
def HeadCodesCardSaid : Prop := Claim7.holds Tryd.pinned (.plain (OpenSpec.ofChange headCodesSpec)) headCodesCard

/-- THE TIED CARD OF 'besomtop.TopHeld'. -/
def topHeldCard : Claim7 := { stood := { row := topHeldRow, standIns := [], harness := (true, "138f20377bd8fb6a300c350fd4287247f4a6fc9fc9a578d13344ad95ee8f268e"), looks := false }, kinds := [], alts := [], laidByText := true, laidKinds := [.data], laidTests := true, laidLooks := .later }
def TopHeldCardSaid : Prop := Claim7.holds Tryd.pinned (.plain (OpenSpec.ofChange topHeldSpec)) topHeldCard

/-- THE TIED CARD OF 'besomlaw06.HeadFields'. -/
def headFieldsCard : Claim7 := { stood := { row := headFieldsRow, standIns := [], harness := (true, "138f20377bd8fb6a300c350fd4287247f4a6fc9fc9a578d13344ad95ee8f268e"), looks := false }, kinds := [], alts := [], laidByText := true, laidKinds := [.data], laidTests := true, laidLooks := .later }
def HeadFieldsCardSaid : Prop := Claim7.holds Tryd.pinned (.plain (OpenSpec.ofChange headFieldsSpec)) headFieldsCard

/-- THE TIED CARD OF 'besomlaw06.HeadBack'. -/
def headBackCard : Claim7 := { stood := { row := headBackRow, standIns := [], harness := (true, "138f20377bd8fb6a300c350fd4287247f4a6fc9fc9a578d13344ad95ee8f268e"), looks := false }, kinds := [], alts := [], laidByText := true, laidKinds := [.data], laidTests := true, laidLooks := .later }
def HeadBackCardSaid : Prop := Claim7.holds Tryd.pinned (.plain (OpenSpec.ofChange headBackSpec)) headBackCard

/-- THE TIED CARD OF 'besomlaw06.HeadNexts'. -/
def headNextsCard : Claim7 := { stood := { row := headNextsRow, standIns := [], harness := (true, "138f20377bd8fb6a300c350fd4287247f4a6fc9fc9a578d13344ad95ee8f268e"), looks := false }, kinds := [], alts := [], laidByText := true, laidKinds := [.data], laidTests := true, laidLooks := .later }
def HeadNextsCardSaid : Prop := Claim7.holds Tryd.pinned (.plain (OpenSpec.ofChange headNextsSpec)) headNextsCard

/-- THE TIED CARD OF 'besomlaw06.HeadEach'. -/
def headEachCard : Claim7 := { stood := { row := headEachRow, standIns := [], harness := (true, "138f20377bd8fb6a300c350fd4287247f4a6fc9fc9a578d13344ad95ee8f268e"), looks := false }, kinds := [], alts := [], laidByText := true, laidKinds := [.data], laidTests := true, laidLooks := .later }
def HeadEachCardSaid : Prop := Claim7.holds Tryd.pinned (.plain (OpenSpec.ofChange headEachSpec)) headEachCard

/-- THE TIED CARD OF 'besomlaw06.HeadPlain'. -/
def headPlainCard : Claim7 := { stood := { row := headPlainRow, standIns := [], harness := (true, "138f20377bd8fb6a300c350fd4287247f4a6fc9fc9a578d13344ad95ee8f268e"), looks := false }, kinds := [], alts := [], laidByText := true, laidKinds := [.data], laidTests := true, laidLooks := .later }
def HeadPlainCardSaid : Prop := Claim7.holds Tryd.pinned (.plain (OpenSpec.ofChange headPlainSpec)) headPlainCard

/-- THE SECOND FORM's CARD OF 'besomlaw06.HeadCodes'. -/
def headCodesUptoCard : Claim7 := { stood := { row := headCodesUptoRow, standIns := [], harness := (true, "138f20377bd8fb6a300c350fd4287247f4a6fc9fc9a578d13344ad95ee8f268e"), looks := false }, kinds := [], alts := [], laidByText := true, laidKinds := [.data], laidTests := true, laidLooks := .later }
def HeadCodesUptoCardSaid : Prop := Claim7.holds Tryd.pinned (.plain (OpenSpec.upto headCodesSpec)) headCodesUptoCard

/-- THE SECOND FORM's CARD OF 'besomtop.TopHeld'. -/
def topHeldUptoCard : Claim7 := { stood := { row := topHeldUptoRow, standIns := [], harness := (true, "138f20377bd8fb6a300c350fd4287247f4a6fc9fc9a578d13344ad95ee8f268e"), looks := false }, kinds := [], alts := [], laidByText := true, laidKinds := [.data], laidTests := true, laidLooks := .later }
def TopHeldUptoCardSaid : Prop := Claim7.holds Tryd.pinned (.plain (OpenSpec.upto topHeldSpec)) topHeldUptoCard

/-- THE SECOND FORM's CARD OF 'besomlaw06.HeadFields'. -/
def headFieldsUptoCard : Claim7 := { stood := { row := headFieldsUptoRow, standIns := [], harness := (true, "138f20377bd8fb6a300c350fd4287247f4a6fc9fc9a578d13344ad95ee8f268e"), looks := false }, kinds := [], alts := [], laidByText := true, laidKinds := [.data], laidTests := true, laidLooks := .later }
def HeadFieldsUptoCardSaid : Prop := Claim7.holds Tryd.pinned (.plain (OpenSpec.upto headFieldsSpec)) headFieldsUptoCard

/-- THE SECOND FORM's CARD OF 'besomlaw06.HeadBack'. -/
def headBackUptoCard : Claim7 := { stood := { row := headBackUptoRow, standIns := [], harness := (true, "138f20377bd8fb6a300c350fd4287247f4a6fc9fc9a578d13344ad95ee8f268e"), looks := false }, kinds := [], alts := [], laidByText := true, laidKinds := [.data], laidTests := true, laidLooks := .later }
def HeadBackUptoCardSaid : Prop := Claim7.holds Tryd.pinned (.plain (OpenSpec.upto headBackSpec)) headBackUptoCard

/-- THE SECOND FORM's CARD OF 'besomlaw06.HeadNexts'. -/
def headNextsUptoCard : Claim7 := { stood := { row := headNextsUptoRow, standIns := [], harness := (true, "138f20377bd8fb6a300c350fd4287247f4a6fc9fc9a578d13344ad95ee8f268e"), looks := false }, kinds := [], alts := [], laidByText := true, laidKinds := [.data], laidTests := true, laidLooks := .later }
def HeadNextsUptoCardSaid : Prop := Claim7.holds Tryd.pinned (.plain (OpenSpec.upto headNextsSpec)) headNextsUptoCard

/-- THE SECOND FORM's CARD OF 'besomlaw06.HeadEach'. -/
def headEachUptoCard : Claim7 := { stood := { row := headEachUptoRow, standIns := [], harness := (true, "138f20377bd8fb6a300c350fd4287247f4a6fc9fc9a578d13344ad95ee8f268e"), looks := false }, kinds := [], alts := [], laidByText := true, laidKinds := [.data], laidTests := true, laidLooks := .later }
def HeadEachUptoCardSaid : Prop := Claim7.holds Tryd.pinned (.plain (OpenSpec.upto headEachSpec)) headEachUptoCard

/-- THE SECOND FORM's CARD OF 'besomlaw06.HeadPlain'. -/
def headPlainUptoCard : Claim7 := { stood := { row := headPlainUptoRow, standIns := [], harness := (true, "138f20377bd8fb6a300c350fd4287247f4a6fc9fc9a578d13344ad95ee8f268e"), looks := false }, kinds := [], alts := [], laidByText := true, laidKinds := [.data], laidTests := true, laidLooks := .later }
def HeadPlainUptoCardSaid : Prop := Claim7.holds Tryd.pinned (.plain (OpenSpec.upto headPlainSpec)) headPlainUptoCard
end Rows
end Go.Proofs.YtdadleamaalhiabDoor
