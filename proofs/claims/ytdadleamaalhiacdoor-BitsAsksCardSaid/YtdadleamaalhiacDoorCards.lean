/-
  DERIVED. GIVEN WITH THE SEED: THE CARDS: each row of YtdadleamaalhiacDoorRows.lean that lists a variable, with what it lists TIED to the program's text (the seventh form; the later family's looks); each row that meets fmt, with fmt's text TOLD by the authors' own Lean function (tested against real Go, not proved from fmt's source: count such statements apart). THE CARD IS WHAT COUNTS. Prove the row's statement (the work); the ties are given (YtdadleamaalhiacDoorTie.lean); close each card by the builder's one call (the guide's Derived/Test/ToyasCard.lean, 'card_holds'). Laid BY PROGRAM, IN A SANDBOX (cutbox-door.mjs). By AI agents, Wed Nov 11 2026. No macro, syntax, notation, axiom, sorry.
-/
import Derived.Test.YtdadleamaalhiacDoorRows
import GoSem.ClaimSeven
namespace Go.Proofs.YtdadleamaalhiacDoor
namespace Rows

/-- THE TIED CARD OF 'besomlaw01.BitsAsks'. -/
def bitsAsksCard : Claim7 := { stood := { row := bitsAsksRow, standIns := [], harness := (true, "55022ada8c2867596d28b09fcd32241896319650d91cd32922336a0f052a323d"), looks := false }, kinds := [], alts := [], laidByText := true, laidKinds := [.data], laidTests := true, laidLooks := .later }
def BitsAsksCardSaid : Prop := Claim7.holds Tryd.pinned (.plain (OpenSpec.ofChange bitsAsksSpec)) bitsAsksCard

/-- THE TIED CARD OF 'besomlaw01.BitsBoth'. -/
def bitsBothCard : Claim7 := { stood := { row := bitsBothRow, standIns := [], harness := (true, "55022ada8c2867596d28b09fcd32241896319650d91cd32922336a0f052a323d"), looks := false }, kinds := [], alts := [], laidByText := true, laidKinds := [.data], laidTests := true, laidLooks := .later }
def BitsBothCardSaid : Prop := Claim7.holds Tryd.pinned (.plain (OpenSpec.ofChange bitsBothSpec)) bitsBothCard

/-- THE TIED CARD OF 'besomlaw01.BitsOne'. -/
def bitsOneCard : Claim7 := { stood := { row := bitsOneRow, standIns := [], harness := (true, "55022ada8c2867596d28b09fcd32241896319650d91cd32922336a0f052a323d"), looks := false }, kinds := [], alts := [], laidByText := true, laidKinds := [.data], laidTests := true, laidLooks := .later }
def BitsOneCardSaid : Prop := Claim7.holds Tryd.pinned (.plain (OpenSpec.ofChange bitsOneSpec)) bitsOneCard

/-- THE TIED CARD OF 'besomlaw01.BitsRun'. -/
def bitsRunCard : Claim7 := { stood := { row := bitsRunRow, standIns := [], harness := (true, "55022ada8c2867596d28b09fcd32241896319650d91cd32922336a0f052a323d"), looks := false }, kinds := [], alts := [], laidByText := true, laidKinds := [.data], laidTests := true, laidLooks := .later }
def BitsRunCardSaid : Prop := Claim7.holds Tryd.pinned (.plain (OpenSpec.ofChange bitsRunSpec)) bitsRunCard

/-- THE TIED CARD OF 'besomlaw01.BitsFirst'. -/
def bitsFirstCard : Claim7 := { stood := { row := bitsFirstRow, standIns := [], harness := (true, "55022ada8c2867596d28b09fcd32241896319650d91cd32922336a0f052a323d"), looks := false }, kinds := [], alts := [], laidByText := true, laidKinds := [.data], laidTests := true, laidLooks := .later }
def BitsFirstCardSaid : Prop := Claim7.holds Tryd.pinned (.plain (OpenSpec.ofChange bitsFirstSpec)) bitsFirstCard

/-- THE TIED CARD OF 'besomlaw01.BitsFilled'. -/
def bitsFilledCard : Claim7 := { stood := { row := bitsFilledRow, standIns := [], harness := (true, "55022ada8c2867596d28b09fcd32241896319650d91cd32922336a0f052a323d"), looks := false }, kinds := [], alts := [], laidByText := true, laidKinds := [.data], laidTests := true, laidLooks := .later }
def BitsFilledCardSaid : Prop := Claim7.holds Tryd.pinned (.plain (OpenSpec.ofChange bitsFilledSpec)) bitsFilledCard

/-- THE TIED CARD OF 'besomlaw01.BitsCommon'. -/
def bitsCommonCard : Claim7 := { stood := { row := bitsCommonRow, standIns := [], harness := (true, "55022ada8c2867596d28b09fcd32241896319650d91cd32922336a0f052a323d"), looks := false }, kinds := [], alts := [], laidByText := true, laidKinds := [.data], laidTests := true, laidLooks := .later }
def BitsCommonCardSaid : Prop := Claim7.holds Tryd.pinned (.plain (OpenSpec.ofChange bitsCommonSpec)) bitsCommonCard

/-- THE TIED CARD OF 'besomlaw01.BitsOwn'. -/
def bitsOwnCard : Claim7 := { stood := { row := bitsOwnRow, standIns := [], harness := (true, "55022ada8c2867596d28b09fcd32241896319650d91cd32922336a0f052a323d"), looks := false }, kinds := [], alts := [], laidByText := true, laidKinds := [.data], laidTests := true, laidLooks := .later }
def BitsOwnCardSaid : Prop := Claim7.holds Tryd.pinned (.plain (OpenSpec.ofChange bitsOwnSpec)) bitsOwnCard

/-- THE SECOND FORM's CARD OF 'besomlaw01.BitsAsks'. -/
def bitsAsksUptoCard : Claim7 := { stood := { row := bitsAsksUptoRow, standIns := [], harness := (true, "55022ada8c2867596d28b09fcd32241896319650d91cd32922336a0f052a323d"), looks := false }, kinds := [], alts := [], laidByText := true, laidKinds := [.data], laidTests := true, laidLooks := .later }
def BitsAsksUptoCardSaid : Prop := Claim7.holds Tryd.pinned (.plain (OpenSpec.upto bitsAsksSpec)) bitsAsksUptoCard

/-- THE SECOND FORM's CARD OF 'besomlaw01.BitsBoth'. -/
def bitsBothUptoCard : Claim7 := { stood := { row := bitsBothUptoRow, standIns := [], harness := (true, "55022ada8c2867596d28b09fcd32241896319650d91cd32922336a0f052a323d"), looks := false }, kinds := [], alts := [], laidByText := true, laidKinds := [.data], laidTests := true, laidLooks := .later }
def BitsBothUptoCardSaid : Prop := Claim7.holds Tryd.pinned (.plain (OpenSpec.upto bitsBothSpec)) bitsBothUptoCard

/-- THE SECOND FORM's CARD OF 'besomlaw01.BitsOne'. -/
def bitsOneUptoCard : Claim7 := { stood := { row := bitsOneUptoRow, standIns := [], harness := (true, "55022ada8c2867596d28b09fcd32241896319650d91cd32922336a0f052a323d"), looks := false }, kinds := [], alts := [], laidByText := true, laidKinds := [.data], laidTests := true, laidLooks := .later }
def BitsOneUptoCardSaid : Prop := Claim7.holds Tryd.pinned (.plain (OpenSpec.upto bitsOneSpec)) bitsOneUptoCard

/-- THE SECOND FORM's CARD OF 'besomlaw01.BitsRun'. -/
def bitsRunUptoCard : Claim7 := { stood := { row := bitsRunUptoRow, standIns := [], harness := (true, "55022ada8c2867596d28b09fcd32241896319650d91cd32922336a0f052a323d"), looks := false }, kinds := [], alts := [], laidByText := true, laidKinds := [.data], laidTests := true, laidLooks := .later }
def BitsRunUptoCardSaid : Prop := Claim7.holds Tryd.pinned (.plain (OpenSpec.upto bitsRunSpec)) bitsRunUptoCard

/-- THE SECOND FORM's CARD OF 'besomlaw01.BitsFirst'. -/
def bitsFirstUptoCard : Claim7 := { stood := { row := bitsFirstUptoRow, standIns := [], harness := (true, "55022ada8c2867596d28b09fcd32241896319650d91cd32922336a0f052a323d"), looks := false }, kinds := [], alts := [], laidByText := true, laidKinds := [.data], laidTests := true, laidLooks := .later }
def BitsFirstUptoCardSaid : Prop := Claim7.holds Tryd.pinned (.plain (OpenSpec.upto bitsFirstSpec)) bitsFirstUptoCard

/-- THE SECOND FORM's CARD OF 'besomlaw01.BitsFilled'. -/
def bitsFilledUptoCard : Claim7 := { stood := { row := bitsFilledUptoRow, standIns := [], harness := (true, "55022ada8c2867596d28b09fcd32241896319650d91cd32922336a0f052a323d"), looks := false }, kinds := [], alts := [], laidByText := true, laidKinds := [.data], laidTests := true, laidLooks := .later }
def BitsFilledUptoCardSaid : Prop := Claim7.holds Tryd.pinned (.plain (OpenSpec.upto bitsFilledSpec)) bitsFilledUptoCard

/-- THE SECOND FORM's CARD OF 'besomlaw01.BitsCommon'. -/
def bitsCommonUptoCard : Claim7 := { stood := { row := bitsCommonUptoRow, standIns := [], harness := (true, "55022ada8c2867596d28b09fcd32241896319650d91cd32922336a0f052a323d"), looks := false }, kinds := [], alts := [], laidByText := true, laidKinds := [.data], laidTests := true, laidLooks := .later }
def BitsCommonUptoCardSaid : Prop := Claim7.holds Tryd.pinned (.plain (OpenSpec.upto bitsCommonSpec)) bitsCommonUptoCard

/-- THE SECOND FORM's CARD OF 'besomlaw01.BitsOwn'. -/
def bitsOwnUptoCard : Claim7 := { stood := { row := bitsOwnUptoRow, standIns := [], harness := (true, "55022ada8c2867596d28b09fcd32241896319650d91cd32922336a0f052a323d"), looks := false }, kinds := [], alts := [], laidByText := true, laidKinds := [.data], laidTests := true, laidLooks := .later }
def BitsOwnUptoCardSaid : Prop := Claim7.holds Tryd.pinned (.plain (OpenSpec.upto bitsOwnSpec)) bitsOwnUptoCard
end Rows
end Go.Proofs.YtdadleamaalhiacDoor
