/-
  DERIVED. GIVEN WITH THE SEED: THE CARDS: each row of YthphncefbahcaaaDoorRows.lean that lists a variable, with what it lists TIED to the program's text (the seventh form; the later family's looks); each row that meets fmt, with fmt's text TOLD by the authors' own Lean function (tested against real Go, not proved from fmt's source: count such statements apart). THE CARD IS WHAT COUNTS. Prove the row's statement (the work); the ties are given (YthphncefbahcaaaDoorTie.lean); close each card by the builder's one call (the guide's Derived/Test/ToyasCard.lean, 'card_holds'). Laid BY PROGRAM, IN A SANDBOX (cutbox-door.mjs). By AI agents, Wed Nov 11 2026. No macro, syntax, notation, axiom, sorry.
-/
import Derived.Test.YthphncefbahcaaaDoorRows
import GoSem.ClaimSeven
namespace Go.Proofs.YthphncefbahcaaaDoor
namespace Rows

/-- THE TIED CARD OF 'besomlaw01.BitsOne'. -/
def bitsOneCard : Claim7 := { stood := { row := bitsOneRow, standIns := [], harness := (true, "ad98209b20bb7ebc58df8013b0bf80515964099d851c9a30cd9b33fda4b5780a"), looks := false }, kinds := [], alts := [], laidByText := true, laidKinds := [.data], laidTests := true, laidLooks := .later }
def BitsOneCardSaid : Prop := Claim7.holds Tryd.pinned (.plain (OpenSpec.ofChange bitsOneSpec)) bitsOneCard

/-- THE TIED CARD OF 'besomlaw01.BitsRun'. -/
def bitsRunCard : Claim7 := { stood := { row := bitsRunRow, standIns := [], harness := (true, "ad98209b20bb7ebc58df8013b0bf80515964099d851c9a30cd9b33fda4b5780a"), looks := false }, kinds := [], alts := [], laidByText := true, laidKinds := [.data], laidTests := true, laidLooks := .later }
def BitsRunCardSaid : Prop := Claim7.holds Tryd.pinned (.plain (OpenSpec.ofChange bitsRunSpec)) bitsRunCard

/-- THE TIED CARD OF 'besomlaw01.BitsFilled'. -/
def bitsFilledCard : Claim7 := { stood := { row := bitsFilledRow, standIns := [], harness := (true, "ad98209b20bb7ebc58df8013b0bf80515964099d851c9a30cd9b33fda4b5780a"), looks := false }, kinds := [], alts := [], laidByText := true, laidKinds := [.data], laidTests := true, laidLooks := .later }
def BitsFilledCardSaid : Prop := Claim7.holds Tryd.pinned (.plain (OpenSpec.ofChange bitsFilledSpec)) bitsFilledCard

/-- THE TIED CARD OF 'besomlaw01.BitsOwn'. -/
def bitsOwnCard : Claim7 := { stood := { row := bitsOwnRow, standIns := [], harness := (true, "ad98209b20bb7ebc58df8013b0bf80515964099d851c9a30cd9b33fda4b5780a"), looks := false }, kinds := [], alts := [], laidByText := true, laidKinds := [.data], laidTests := true, laidLooks := .later }
def BitsOwnCardSaid : Prop := Claim7.holds Tryd.pinned (.plain (OpenSpec.ofChange bitsOwnSpec)) bitsOwnCard

/-- THE TIED CARD OF 'besomlaw03.PagesTake'. -/
def pagesTakeCard : Claim7 := { stood := { row := pagesTakeRow, standIns := [], harness := (true, "ad98209b20bb7ebc58df8013b0bf80515964099d851c9a30cd9b33fda4b5780a"), looks := false }, kinds := [], alts := [], laidByText := true, laidKinds := [.data], laidTests := true, laidLooks := .later }
def PagesTakeCardSaid : Prop := Claim7.holds Tryd.pinned (.plain (OpenSpec.ofChange pagesTakeSpec)) pagesTakeCard

/-- THE TIED CARD OF 'besomlaw03.PagesAsk'. -/
def pagesAskCard : Claim7 := { stood := { row := pagesAskRow, standIns := [], harness := (true, "ad98209b20bb7ebc58df8013b0bf80515964099d851c9a30cd9b33fda4b5780a"), looks := false }, kinds := [], alts := [], laidByText := true, laidKinds := [.data], laidTests := true, laidLooks := .later }
def PagesAskCardSaid : Prop := Claim7.holds Tryd.pinned (.plain (OpenSpec.ofChange pagesAskSpec)) pagesAskCard

/-- THE TIED CARD OF 'besomlaw03.PagesBack'. -/
def pagesBackCard : Claim7 := { stood := { row := pagesBackRow, standIns := [], harness := (true, "ad98209b20bb7ebc58df8013b0bf80515964099d851c9a30cd9b33fda4b5780a"), looks := false }, kinds := [], alts := [], laidByText := true, laidKinds := [.data], laidTests := true, laidLooks := .later }
def PagesBackCardSaid : Prop := Claim7.holds Tryd.pinned (.plain (OpenSpec.ofChange pagesBackSpec)) pagesBackCard

/-- THE TIED CARD OF 'besomlaw03.PagesApart'. -/
def pagesApartCard : Claim7 := { stood := { row := pagesApartRow, standIns := [], harness := (true, "ad98209b20bb7ebc58df8013b0bf80515964099d851c9a30cd9b33fda4b5780a"), looks := false }, kinds := [], alts := [], laidByText := true, laidKinds := [.data], laidTests := true, laidLooks := .later }
def PagesApartCardSaid : Prop := Claim7.holds Tryd.pinned (.plain (OpenSpec.ofChange pagesApartSpec)) pagesApartCard

/-- THE TIED CARD OF 'besomlaw03.PagesFull'. -/
def pagesFullCard : Claim7 := { stood := { row := pagesFullRow, standIns := [], harness := (true, "ad98209b20bb7ebc58df8013b0bf80515964099d851c9a30cd9b33fda4b5780a"), looks := false }, kinds := [], alts := [], laidByText := true, laidKinds := [.data], laidTests := true, laidLooks := .later }
def PagesFullCardSaid : Prop := Claim7.holds Tryd.pinned (.plain (OpenSpec.ofChange pagesFullSpec)) pagesFullCard

/-- THE TIED CARD OF 'besomlaw03.PagesFirst'. -/
def pagesFirstCard : Claim7 := { stood := { row := pagesFirstRow, standIns := [], harness := (true, "ad98209b20bb7ebc58df8013b0bf80515964099d851c9a30cd9b33fda4b5780a"), looks := false }, kinds := [], alts := [], laidByText := true, laidKinds := [.data], laidTests := true, laidLooks := .later }
def PagesFirstCardSaid : Prop := Claim7.holds Tryd.pinned (.plain (OpenSpec.ofChange pagesFirstSpec)) pagesFirstCard

/-- THE TIED CARD OF 'besomlaw03.PagesMore'. -/
def pagesMoreCard : Claim7 := { stood := { row := pagesMoreRow, standIns := [], harness := (true, "ad98209b20bb7ebc58df8013b0bf80515964099d851c9a30cd9b33fda4b5780a"), looks := false }, kinds := [], alts := [], laidByText := true, laidKinds := [.data], laidTests := true, laidLooks := .later }
def PagesMoreCardSaid : Prop := Claim7.holds Tryd.pinned (.plain (OpenSpec.ofChange pagesMoreSpec)) pagesMoreCard

/-- THE TIED CARD OF 'besomtop.TopHeld'. -/
def topHeldCard : Claim7 := { stood := { row := topHeldRow, standIns := [], harness := (true, "ad98209b20bb7ebc58df8013b0bf80515964099d851c9a30cd9b33fda4b5780a"), looks := false }, kinds := [], alts := [], laidByText := true, laidKinds := [.data], laidTests := true, laidLooks := .later }
def TopHeldCardSaid : Prop := Claim7.holds Tryd.pinned (.plain (OpenSpec.ofChange topHeldSpec)) topHeldCard

/-- THE SECOND FORM's CARD OF 'besomlaw01.BitsOne'. -/
def bitsOneUptoCard : Claim7 := { stood := { row := bitsOneUptoRow, standIns := [], harness := (true, "ad98209b20bb7ebc58df8013b0bf80515964099d851c9a30cd9b33fda4b5780a"), looks := false }, kinds := [], alts := [], laidByText := true, laidKinds := [.data], laidTests := true, laidLooks := .later }
def BitsOneUptoCardSaid : Prop := Claim7.holds Tryd.pinned (.plain (OpenSpec.upto bitsOneSpec)) bitsOneUptoCard

/-- THE SECOND FORM's CARD OF 'besomlaw01.BitsRun'. -/
def bitsRunUptoCard : Claim7 := { stood := { row := bitsRunUptoRow, standIns := [], harness := (true, "ad98209b20bb7ebc58df8013b0bf80515964099d851c9a30cd9b33fda4b5780a"), looks := false }, kinds := [], alts := [], laidByText := true, laidKinds := [.data], laidTests := true, laidLooks := .later }
def BitsRunUptoCardSaid : Prop := Claim7.holds Tryd.pinned (.plain (OpenSpec.upto bitsRunSpec)) bitsRunUptoCard

/-- THE SECOND FORM's CARD OF 'besomlaw01.BitsFilled'. -/
def bitsFilledUptoCard : Claim7 := { stood := { row := bitsFilledUptoRow, standIns := [], harness := (true, "ad98209b20bb7ebc58df8013b0bf80515964099d851c9a30cd9b33fda4b5780a"), looks := false }, kinds := [], alts := [], laidByText := true, laidKinds := [.data], laidTests := true, laidLooks := .later }
def BitsFilledUptoCardSaid : Prop := Claim7.holds Tryd.pinned (.plain (OpenSpec.upto bitsFilledSpec)) bitsFilledUptoCard

/-- THE SECOND FORM's CARD OF 'besomlaw01.BitsOwn'. -/
def bitsOwnUptoCard : Claim7 := { stood := { row := bitsOwnUptoRow, standIns := [], harness := (true, "ad98209b20bb7ebc58df8013b0bf80515964099d851c9a30cd9b33fda4b5780a"), looks := false }, kinds := [], alts := [], laidByText := true, laidKinds := [.data], laidTests := true, laidLooks := .later }
def BitsOwnUptoCardSaid : Prop := Claim7.holds Tryd.pinned (.plain (OpenSpec.upto bitsOwnSpec)) bitsOwnUptoCard

/-- THE SECOND FORM's CARD OF 'besomlaw03.PagesTake'. -/
def pagesTakeUptoCard : Claim7 := { stood := { row := pagesTakeUptoRow, standIns := [], harness := (true, "ad98209b20bb7ebc58df8013b0bf80515964099d851c9a30cd9b33fda4b5780a"), looks := false }, kinds := [], alts := [], laidByText := true, laidKinds := [.data], laidTests := true, laidLooks := .later }
def PagesTakeUptoCardSaid : Prop := Claim7.holds Tryd.pinned (.plain (OpenSpec.upto pagesTakeSpec)) pagesTakeUptoCard

/-- THE SECOND FORM's CARD OF 'besomlaw03.PagesAsk'. -/
def pagesAskUptoCard : Claim7 := { stood := { row := pagesAskUptoRow, standIns := [], harness := (true, "ad98209b20bb7ebc58df8013b0bf80515964099d851c9a30cd9b33fda4b5780a"), looks := false }, kinds := [], alts := [], laidByText := true, laidKinds := [.data], laidTests := true, laidLooks := .later }
def PagesAskUptoCardSaid : Prop := Claim7.holds Tryd.pinned (.plain (OpenSpec.upto pagesAskSpec)) pagesAskUptoCard

/-- THE SECOND FORM's CARD OF 'besomlaw03.PagesBack'. -/
def pagesBackUptoCard : Claim7 := { stood := { row := pagesBackUptoRow, standIns := [], harness := (true, "ad98209b20bb7ebc58df8013b0bf80515964099d851c9a30cd9b33fda4b5780a"), looks := false }, kinds := [], alts := [], laidByText := true, laidKinds := [.data], laidTests := true, laidLooks := .later }
def PagesBackUptoCardSaid : Prop := Claim7.holds Tryd.pinned (.plain (OpenSpec.upto pagesBackSpec)) pagesBackUptoCard

/-- THE SECOND FORM's CARD OF 'besomlaw03.PagesApart'. -/
def pagesApartUptoCard : Claim7 := { stood := { row := pagesApartUptoRow, standIns := [], harness := (true, "ad98209b20bb7ebc58df8013b0bf80515964099d851c9a30cd9b33fda4b5780a"), looks := false }, kinds := [], alts := [], laidByText := true, laidKinds := [.data], laidTests := true, laidLooks := .later }
def PagesApartUptoCardSaid : Prop := Claim7.holds Tryd.pinned (.plain (OpenSpec.upto pagesApartSpec)) pagesApartUptoCard

/-- THE SECOND FORM's CARD OF 'besomlaw03.PagesFull'. -/
def pagesFullUptoCard : Claim7 := { stood := { row := pagesFullUptoRow, standIns := [], harness := (true, "ad98209b20bb7ebc58df8013b0bf80515964099d851c9a30cd9b33fda4b5780a"), looks := false }, kinds := [], alts := [], laidByText := true, laidKinds := [.data], laidTests := true, laidLooks := .later }
def PagesFullUptoCardSaid : Prop := Claim7.holds Tryd.pinned (.plain (OpenSpec.upto pagesFullSpec)) pagesFullUptoCard

/-- THE SECOND FORM's CARD OF 'besomlaw03.PagesFirst'. -/
def pagesFirstUptoCard : Claim7 := { stood := { row := pagesFirstUptoRow, standIns := [], harness := (true, "ad98209b20bb7ebc58df8013b0bf80515964099d851c9a30cd9b33fda4b5780a"), looks := false }, kinds := [], alts := [], laidByText := true, laidKinds := [.data], laidTests := true, laidLooks := .later }
def PagesFirstUptoCardSaid : Prop := Claim7.holds Tryd.pinned (.plain (OpenSpec.upto pagesFirstSpec)) pagesFirstUptoCard

/-- THE SECOND FORM's CARD OF 'besomlaw03.PagesMore'. -/
def pagesMoreUptoCard : Claim7 := { stood := { row := pagesMoreUptoRow, standIns := [], harness := (true, "ad98209b20bb7ebc58df8013b0bf80515964099d851c9a30cd9b33fda4b5780a"), looks := false }, kinds := [], alts := [], laidByText := true, laidKinds := [.data], laidTests := true, laidLooks := .later }
def PagesMoreUptoCardSaid : Prop := Claim7.holds Tryd.pinned (.plain (OpenSpec.upto pagesMoreSpec)) pagesMoreUptoCard

/-- THE SECOND FORM's CARD OF 'besomtop.TopHeld'. -/
def topHeldUptoCard : Claim7 := { stood := { row := topHeldUptoRow, standIns := [], harness := (true, "ad98209b20bb7ebc58df8013b0bf80515964099d851c9a30cd9b33fda4b5780a"), looks := false }, kinds := [], alts := [], laidByText := true, laidKinds := [.data], laidTests := true, laidLooks := .later }
def TopHeldUptoCardSaid : Prop := Claim7.holds Tryd.pinned (.plain (OpenSpec.upto topHeldSpec)) topHeldUptoCard
end Rows
end Go.Proofs.YthphncefbahcaaaDoor
