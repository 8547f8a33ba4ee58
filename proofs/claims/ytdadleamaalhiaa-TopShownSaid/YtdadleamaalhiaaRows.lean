/-
  No cell of these rows narrows 'for every input' (looked for: loops, veiled, ifaces, maps, wideKeys, modest, calm, conditions, laid).
  DERIVED. THE GIVEN ROWS OF THIS SEAT. 12 by the template 'for every input the law returns true; each argument reads behind the call as it read before'; 0 by the template 'total and deterministic' (their statements: YtdadleamaalhiaaTotals.lean).
  GIVEN WITH THE SEED: the statements are not yours to turn. If you find one false, say at which input.
  Laid BY PROGRAM, IN A SANDBOX (cutbox-rows.mjs): the forced cells as the released guide's own fill.sh prints them over the translation 72281e5f28af464e… (all of the seat's roots in one cut). By AI agents, Wed Nov 11 2026. No macro, syntax, notation, axiom, sorry.
-/
import Derived.Test.YtdadleamaalhiaaChecked
import GoSem.Claim
import GoSem.ClaimJoined
import GoSem.ClaimMapViews
import Derived.JoinedTies
import Derived.KernelRfl
namespace Go.Proofs.Ytdadleamaalhiaa
/- THE CELL 'sum', in the pinned program and in every row, IS THE sha256 OF THE DUMP (.gsa) THAT YtdadleamaalhiaaProg.lean LOADS. Nothing in Lean hashes anything: it is a label: what it is worth is what the hold of that sum in a sandbox is worth. -/
noncomputable def Try.pinned : Pinned := { name := "ytdadleamaalhiaa", sum := "72281e5f28af464e17b59a01bb657122085f69566692ee6e00a9f0a25ff43abb", checked := Try.checked }
namespace Rows
def none {H : Type} : Left H := { results := [], args := [] }

/-- 'besomlaw02.ArenaMoves': WHATEVER THE INPUT: true; the input reads as it did. -/
def arenaMovesSpec : ChangeSpec := { name := "arenaMoves", fn := fun _ => fun
  | [d1, d2, d3, d4] => { results := [.lit (.bool true)], args := [d1, d2, d3, d4] }
  | _ => none }
def arenaMovesRow : OpenClaim := { program := "ytdadleamaalhiaa", sum := "72281e5f28af464e17b59a01bb657122085f69566692ee6e00a9f0a25ff43abb", func := "besom/besomlaw02.ArenaMoves", spec := "arenaMoves", unfollowed := true, recurses := true, apart := false }
def ArenaMovesSaid : Prop := arenaMovesRow.holds Try.pinned (OpenSpec.ofChange arenaMovesSpec)

/-- ITS FALSE NEIGHBOUR: 'it returns false'. Refute it at one input. -/
def arenaMovesWrong : ChangeSpec := { name := "arenaMoves", fn := fun _ => fun
  | [d1, d2, d3, d4] => { results := [.lit (.bool false)], args := [d1, d2, d3, d4] }
  | _ => none }
def ArenaMovesWrongFalsely : Prop := arenaMovesRow.holds Try.pinned (OpenSpec.ofChange arenaMovesWrong)

/-- 'besomlaw02.ArenaBack': WHATEVER THE INPUT: true; the input reads as it did. -/
def arenaBackSpec : ChangeSpec := { name := "arenaBack", fn := fun _ => fun
  | [d1, d2, d3, d4] => { results := [.lit (.bool true)], args := [d1, d2, d3, d4] }
  | _ => none }
def arenaBackRow : OpenClaim := { program := "ytdadleamaalhiaa", sum := "72281e5f28af464e17b59a01bb657122085f69566692ee6e00a9f0a25ff43abb", func := "besom/besomlaw02.ArenaBack", spec := "arenaBack", unfollowed := true, recurses := true, apart := false }
def ArenaBackSaid : Prop := arenaBackRow.holds Try.pinned (OpenSpec.ofChange arenaBackSpec)

/-- ITS FALSE NEIGHBOUR: 'it returns false'. Refute it at one input. -/
def arenaBackWrong : ChangeSpec := { name := "arenaBack", fn := fun _ => fun
  | [d1, d2, d3, d4] => { results := [.lit (.bool false)], args := [d1, d2, d3, d4] }
  | _ => none }
def ArenaBackWrongFalsely : Prop := arenaBackRow.holds Try.pinned (OpenSpec.ofChange arenaBackWrong)

/-- 'besomlaw02.ArenaLoads': WHATEVER THE INPUT: true; the input reads as it did. -/
def arenaLoadsSpec : ChangeSpec := { name := "arenaLoads", fn := fun _ => fun
  | [d1, d2, d3, d4] => { results := [.lit (.bool true)], args := [d1, d2, d3, d4] }
  | _ => none }
def arenaLoadsRow : OpenClaim := { program := "ytdadleamaalhiaa", sum := "72281e5f28af464e17b59a01bb657122085f69566692ee6e00a9f0a25ff43abb", func := "besom/besomlaw02.ArenaLoads", spec := "arenaLoads", unfollowed := true, recurses := true, apart := false }
def ArenaLoadsSaid : Prop := arenaLoadsRow.holds Try.pinned (OpenSpec.ofChange arenaLoadsSpec)

/-- ITS FALSE NEIGHBOUR: 'it returns false'. Refute it at one input. -/
def arenaLoadsWrong : ChangeSpec := { name := "arenaLoads", fn := fun _ => fun
  | [d1, d2, d3, d4] => { results := [.lit (.bool false)], args := [d1, d2, d3, d4] }
  | _ => none }
def ArenaLoadsWrongFalsely : Prop := arenaLoadsRow.holds Try.pinned (OpenSpec.ofChange arenaLoadsWrong)

/-- 'besomlaw02.ArenaStores': WHATEVER THE INPUT: true; the input reads as it did. -/
def arenaStoresSpec : ChangeSpec := { name := "arenaStores", fn := fun _ => fun
  | [d1, d2, d3] => { results := [.lit (.bool true)], args := [d1, d2, d3] }
  | _ => none }
def arenaStoresRow : OpenClaim := { program := "ytdadleamaalhiaa", sum := "72281e5f28af464e17b59a01bb657122085f69566692ee6e00a9f0a25ff43abb", func := "besom/besomlaw02.ArenaStores", spec := "arenaStores", unfollowed := true, recurses := true, apart := false }
def ArenaStoresSaid : Prop := arenaStoresRow.holds Try.pinned (OpenSpec.ofChange arenaStoresSpec)

/-- ITS FALSE NEIGHBOUR: 'it returns false'. Refute it at one input. -/
def arenaStoresWrong : ChangeSpec := { name := "arenaStores", fn := fun _ => fun
  | [d1, d2, d3] => { results := [.lit (.bool false)], args := [d1, d2, d3] }
  | _ => none }
def ArenaStoresWrongFalsely : Prop := arenaStoresRow.holds Try.pinned (OpenSpec.ofChange arenaStoresWrong)

/-- 'besomlaw02.ArenaOne': WHATEVER THE INPUT: true; the input reads as it did. -/
def arenaOneSpec : ChangeSpec := { name := "arenaOne", fn := fun _ => fun
  | [d1, d2, d3, d4] => { results := [.lit (.bool true)], args := [d1, d2, d3, d4] }
  | _ => none }
def arenaOneRow : OpenClaim := { program := "ytdadleamaalhiaa", sum := "72281e5f28af464e17b59a01bb657122085f69566692ee6e00a9f0a25ff43abb", func := "besom/besomlaw02.ArenaOne", spec := "arenaOne", unfollowed := true, recurses := true, apart := false }
def ArenaOneSaid : Prop := arenaOneRow.holds Try.pinned (OpenSpec.ofChange arenaOneSpec)

/-- ITS FALSE NEIGHBOUR: 'it returns false'. Refute it at one input. -/
def arenaOneWrong : ChangeSpec := { name := "arenaOne", fn := fun _ => fun
  | [d1, d2, d3, d4] => { results := [.lit (.bool false)], args := [d1, d2, d3, d4] }
  | _ => none }
def ArenaOneWrongFalsely : Prop := arenaOneRow.holds Try.pinned (OpenSpec.ofChange arenaOneWrong)

/-- 'besomlaw02.ArenaSums': WHATEVER THE INPUT: true; the input reads as it did. -/
def arenaSumsSpec : ChangeSpec := { name := "arenaSums", fn := fun _ => fun
  | [d1, d2, d3] => { results := [.lit (.bool true)], args := [d1, d2, d3] }
  | _ => none }
def arenaSumsRow : OpenClaim := { program := "ytdadleamaalhiaa", sum := "72281e5f28af464e17b59a01bb657122085f69566692ee6e00a9f0a25ff43abb", func := "besom/besomlaw02.ArenaSums", spec := "arenaSums", unfollowed := true, recurses := true, apart := false }
def ArenaSumsSaid : Prop := arenaSumsRow.holds Try.pinned (OpenSpec.ofChange arenaSumsSpec)

/-- ITS FALSE NEIGHBOUR: 'it returns false'. Refute it at one input. -/
def arenaSumsWrong : ChangeSpec := { name := "arenaSums", fn := fun _ => fun
  | [d1, d2, d3] => { results := [.lit (.bool false)], args := [d1, d2, d3] }
  | _ => none }
def ArenaSumsWrongFalsely : Prop := arenaSumsRow.holds Try.pinned (OpenSpec.ofChange arenaSumsWrong)

/-- 'besomlaw02.ArenaClears': WHATEVER THE INPUT: true; the input reads as it did. -/
def arenaClearsSpec : ChangeSpec := { name := "arenaClears", fn := fun _ => fun
  | [d1, d2, d3, d4] => { results := [.lit (.bool true)], args := [d1, d2, d3, d4] }
  | _ => none }
def arenaClearsRow : OpenClaim := { program := "ytdadleamaalhiaa", sum := "72281e5f28af464e17b59a01bb657122085f69566692ee6e00a9f0a25ff43abb", func := "besom/besomlaw02.ArenaClears", spec := "arenaClears", unfollowed := true, recurses := true, apart := false }
def ArenaClearsSaid : Prop := arenaClearsRow.holds Try.pinned (OpenSpec.ofChange arenaClearsSpec)

/-- ITS FALSE NEIGHBOUR: 'it returns false'. Refute it at one input. -/
def arenaClearsWrong : ChangeSpec := { name := "arenaClears", fn := fun _ => fun
  | [d1, d2, d3, d4] => { results := [.lit (.bool false)], args := [d1, d2, d3, d4] }
  | _ => none }
def ArenaClearsWrongFalsely : Prop := arenaClearsRow.holds Try.pinned (OpenSpec.ofChange arenaClearsWrong)

/-- 'besomlaw01.BitsMakes': WHATEVER THE INPUT: true; the input reads as it did. -/
def bitsMakesSpec : ChangeSpec := { name := "bitsMakes", fn := fun _ => fun
  | [d1, d2] => { results := [.lit (.bool true)], args := [d1, d2] }
  | _ => none }
def bitsMakesRow : OpenClaim := { program := "ytdadleamaalhiaa", sum := "72281e5f28af464e17b59a01bb657122085f69566692ee6e00a9f0a25ff43abb", func := "besom/besomlaw01.BitsMakes", spec := "bitsMakes", apart := false }
def BitsMakesSaid : Prop := bitsMakesRow.holds Try.pinned (OpenSpec.ofChange bitsMakesSpec)

/-- ITS FALSE NEIGHBOUR: 'it returns false'. Refute it at one input. -/
def bitsMakesWrong : ChangeSpec := { name := "bitsMakes", fn := fun _ => fun
  | [d1, d2] => { results := [.lit (.bool false)], args := [d1, d2] }
  | _ => none }
def BitsMakesWrongFalsely : Prop := bitsMakesRow.holds Try.pinned (OpenSpec.ofChange bitsMakesWrong)

/-- 'besomlaw01.BitsPuts': WHATEVER THE INPUT: true; the input reads as it did. -/
def bitsPutsSpec : ChangeSpec := { name := "bitsPuts", fn := fun _ => fun
  | [d1, d2, d3] => { results := [.lit (.bool true)], args := [d1, d2, d3] }
  | _ => none }
def bitsPutsRow : OpenClaim := { program := "ytdadleamaalhiaa", sum := "72281e5f28af464e17b59a01bb657122085f69566692ee6e00a9f0a25ff43abb", func := "besom/besomlaw01.BitsPuts", spec := "bitsPuts", apart := false }
def BitsPutsSaid : Prop := bitsPutsRow.holds Try.pinned (OpenSpec.ofChange bitsPutsSpec)

/-- ITS FALSE NEIGHBOUR: 'it returns false'. Refute it at one input. -/
def bitsPutsWrong : ChangeSpec := { name := "bitsPuts", fn := fun _ => fun
  | [d1, d2, d3] => { results := [.lit (.bool false)], args := [d1, d2, d3] }
  | _ => none }
def BitsPutsWrongFalsely : Prop := bitsPutsRow.holds Try.pinned (OpenSpec.ofChange bitsPutsWrong)

/-- 'besomlaw01.BitsFills': WHATEVER THE INPUT: true; the input reads as it did. -/
def bitsFillsSpec : ChangeSpec := { name := "bitsFills", fn := fun _ => fun
  | [d1, d2, d3, d4] => { results := [.lit (.bool true)], args := [d1, d2, d3, d4] }
  | _ => none }
def bitsFillsRow : OpenClaim := { program := "ytdadleamaalhiaa", sum := "72281e5f28af464e17b59a01bb657122085f69566692ee6e00a9f0a25ff43abb", func := "besom/besomlaw01.BitsFills", spec := "bitsFills", apart := false }
def BitsFillsSaid : Prop := bitsFillsRow.holds Try.pinned (OpenSpec.ofChange bitsFillsSpec)

/-- ITS FALSE NEIGHBOUR: 'it returns false'. Refute it at one input. -/
def bitsFillsWrong : ChangeSpec := { name := "bitsFills", fn := fun _ => fun
  | [d1, d2, d3, d4] => { results := [.lit (.bool false)], args := [d1, d2, d3, d4] }
  | _ => none }
def BitsFillsWrongFalsely : Prop := bitsFillsRow.holds Try.pinned (OpenSpec.ofChange bitsFillsWrong)

/-- 'besomlaw04.ClassDoes': WHATEVER THE INPUT: true; the input reads as it did. -/
def classDoesSpec : ChangeSpec := { name := "classDoes", fn := fun _ => fun
  | [d1, d2, d3] => { results := [.lit (.bool true)], args := [d1, d2, d3] }
  | _ => none }
def classDoesRow : OpenClaim := { program := "ytdadleamaalhiaa", sum := "72281e5f28af464e17b59a01bb657122085f69566692ee6e00a9f0a25ff43abb", func := "besom/besomlaw04.ClassDoes", spec := "classDoes", apart := false }
def ClassDoesSaid : Prop := classDoesRow.holds Try.pinned (OpenSpec.ofChange classDoesSpec)

/-- ITS FALSE NEIGHBOUR: 'it returns false'. Refute it at one input. -/
def classDoesWrong : ChangeSpec := { name := "classDoes", fn := fun _ => fun
  | [d1, d2, d3] => { results := [.lit (.bool false)], args := [d1, d2, d3] }
  | _ => none }
def ClassDoesWrongFalsely : Prop := classDoesRow.holds Try.pinned (OpenSpec.ofChange classDoesWrong)

/-- 'besomtop.TopShown': WHATEVER THE INPUT: true; the input reads as it did. -/
def topShownSpec : ChangeSpec := { name := "topShown", fn := fun _ => fun
  | [d1, d2, d3] => { results := [.lit (.bool true)], args := [d1, d2, d3] }
  | _ => none }
def topShownRow : OpenClaim := { program := "ytdadleamaalhiaa", sum := "72281e5f28af464e17b59a01bb657122085f69566692ee6e00a9f0a25ff43abb", func := "besom/besomtop.TopShown", spec := "topShown", unfollowed := true, recurses := true, apart := false }
def TopShownSaid : Prop := topShownRow.holds Try.pinned (OpenSpec.ofChange topShownSpec)

/-- ITS FALSE NEIGHBOUR: 'it returns false'. Refute it at one input. -/
def topShownWrong : ChangeSpec := { name := "topShown", fn := fun _ => fun
  | [d1, d2, d3] => { results := [.lit (.bool false)], args := [d1, d2, d3] }
  | _ => none }
def TopShownWrongFalsely : Prop := topShownRow.holds Try.pinned (OpenSpec.ofChange topShownWrong)

/- THE SECOND FORM. 'bulk': how many values and letters a reading holds, each counted each time it is reached (what is shared counts as often as it is met; a slice's spare places count too). A statement '..UptoSaid' is the law's where the arguments, and the package variables that the reading takes, are together of bulk at most 1048576: NARROWER than '..Said'. Prove '..Said' where nothing that the law and all that it calls make is longer than what came in: it says more and counts as full. Else prove '..UptoSaid'. A law counts once. -/
mutual
def uptoBulk {H : Type} : DataW H → Nat
  | .lit (.string bytes) => bytes.length + 1
  | .lit _ => 1
  | .nil => 1
  | .ptr d => uptoBulk d + 1
  | .slice elems spare => uptoBulkAll elems + uptoBulkAll spare + 1
  | .agg parts => uptoBulkAll parts + 1
  | .iface _ d => uptoBulk d + 1
  | .map entries => uptoBulkEntries entries + 1
  | .held _ => 1
def uptoBulkAll {H : Type} : List (DataW H) → Nat
  | [] => 0
  | d :: r => uptoBulk d + uptoBulkAll r
def uptoBulkEntries {H : Type} : List (Lit × DataW H) → Nat
  | [] => 0
  | x :: r => uptoBulkEntry x + uptoBulkEntries r
def uptoBulkEntry {H : Type} : Lit × DataW H → Nat
  | (.string bytes, d) => bytes.length + uptoBulk d + 1
  | (_, d) => uptoBulk d + 1
 end
def uptoSmall : (H : Type) → List (DataW H) → Bool := fun _ ds => decide (uptoBulkAll ds ≤ 1048576)
def OpenSpec.upto (s : _root_.Go.ChangeSpec) : _root_.Go.OpenSpec := { _root_.Go.OpenSpec.ofChange s with cond := some uptoSmall }

/-- 'besomlaw02.ArenaMoves', WHERE WHAT IT READS IS OF BULK AT MOST 1048576: true; the input reads as it did. -/
def arenaMovesUptoRow : OpenClaim := { program := "ytdadleamaalhiaa", sum := "72281e5f28af464e17b59a01bb657122085f69566692ee6e00a9f0a25ff43abb", func := "besom/besomlaw02.ArenaMoves", spec := "arenaMoves", unfollowed := true, recurses := true, apart := false, narrowed := true }
def ArenaMovesUptoSaid : Prop := arenaMovesUptoRow.holds Try.pinned (OpenSpec.upto arenaMovesSpec)

/-- 'besomlaw02.ArenaBack', WHERE WHAT IT READS IS OF BULK AT MOST 1048576: true; the input reads as it did. -/
def arenaBackUptoRow : OpenClaim := { program := "ytdadleamaalhiaa", sum := "72281e5f28af464e17b59a01bb657122085f69566692ee6e00a9f0a25ff43abb", func := "besom/besomlaw02.ArenaBack", spec := "arenaBack", unfollowed := true, recurses := true, apart := false, narrowed := true }
def ArenaBackUptoSaid : Prop := arenaBackUptoRow.holds Try.pinned (OpenSpec.upto arenaBackSpec)

/-- 'besomlaw02.ArenaLoads', WHERE WHAT IT READS IS OF BULK AT MOST 1048576: true; the input reads as it did. -/
def arenaLoadsUptoRow : OpenClaim := { program := "ytdadleamaalhiaa", sum := "72281e5f28af464e17b59a01bb657122085f69566692ee6e00a9f0a25ff43abb", func := "besom/besomlaw02.ArenaLoads", spec := "arenaLoads", unfollowed := true, recurses := true, apart := false, narrowed := true }
def ArenaLoadsUptoSaid : Prop := arenaLoadsUptoRow.holds Try.pinned (OpenSpec.upto arenaLoadsSpec)

/-- 'besomlaw02.ArenaStores', WHERE WHAT IT READS IS OF BULK AT MOST 1048576: true; the input reads as it did. -/
def arenaStoresUptoRow : OpenClaim := { program := "ytdadleamaalhiaa", sum := "72281e5f28af464e17b59a01bb657122085f69566692ee6e00a9f0a25ff43abb", func := "besom/besomlaw02.ArenaStores", spec := "arenaStores", unfollowed := true, recurses := true, apart := false, narrowed := true }
def ArenaStoresUptoSaid : Prop := arenaStoresUptoRow.holds Try.pinned (OpenSpec.upto arenaStoresSpec)

/-- 'besomlaw02.ArenaOne', WHERE WHAT IT READS IS OF BULK AT MOST 1048576: true; the input reads as it did. -/
def arenaOneUptoRow : OpenClaim := { program := "ytdadleamaalhiaa", sum := "72281e5f28af464e17b59a01bb657122085f69566692ee6e00a9f0a25ff43abb", func := "besom/besomlaw02.ArenaOne", spec := "arenaOne", unfollowed := true, recurses := true, apart := false, narrowed := true }
def ArenaOneUptoSaid : Prop := arenaOneUptoRow.holds Try.pinned (OpenSpec.upto arenaOneSpec)

/-- 'besomlaw02.ArenaSums', WHERE WHAT IT READS IS OF BULK AT MOST 1048576: true; the input reads as it did. -/
def arenaSumsUptoRow : OpenClaim := { program := "ytdadleamaalhiaa", sum := "72281e5f28af464e17b59a01bb657122085f69566692ee6e00a9f0a25ff43abb", func := "besom/besomlaw02.ArenaSums", spec := "arenaSums", unfollowed := true, recurses := true, apart := false, narrowed := true }
def ArenaSumsUptoSaid : Prop := arenaSumsUptoRow.holds Try.pinned (OpenSpec.upto arenaSumsSpec)

/-- 'besomlaw02.ArenaClears', WHERE WHAT IT READS IS OF BULK AT MOST 1048576: true; the input reads as it did. -/
def arenaClearsUptoRow : OpenClaim := { program := "ytdadleamaalhiaa", sum := "72281e5f28af464e17b59a01bb657122085f69566692ee6e00a9f0a25ff43abb", func := "besom/besomlaw02.ArenaClears", spec := "arenaClears", unfollowed := true, recurses := true, apart := false, narrowed := true }
def ArenaClearsUptoSaid : Prop := arenaClearsUptoRow.holds Try.pinned (OpenSpec.upto arenaClearsSpec)

/-- 'besomlaw01.BitsMakes', WHERE WHAT IT READS IS OF BULK AT MOST 1048576: true; the input reads as it did. -/
def bitsMakesUptoRow : OpenClaim := { program := "ytdadleamaalhiaa", sum := "72281e5f28af464e17b59a01bb657122085f69566692ee6e00a9f0a25ff43abb", func := "besom/besomlaw01.BitsMakes", spec := "bitsMakes", apart := false, narrowed := true }
def BitsMakesUptoSaid : Prop := bitsMakesUptoRow.holds Try.pinned (OpenSpec.upto bitsMakesSpec)

/-- 'besomlaw01.BitsPuts', WHERE WHAT IT READS IS OF BULK AT MOST 1048576: true; the input reads as it did. -/
def bitsPutsUptoRow : OpenClaim := { program := "ytdadleamaalhiaa", sum := "72281e5f28af464e17b59a01bb657122085f69566692ee6e00a9f0a25ff43abb", func := "besom/besomlaw01.BitsPuts", spec := "bitsPuts", apart := false, narrowed := true }
def BitsPutsUptoSaid : Prop := bitsPutsUptoRow.holds Try.pinned (OpenSpec.upto bitsPutsSpec)

/-- 'besomlaw01.BitsFills', WHERE WHAT IT READS IS OF BULK AT MOST 1048576: true; the input reads as it did. -/
def bitsFillsUptoRow : OpenClaim := { program := "ytdadleamaalhiaa", sum := "72281e5f28af464e17b59a01bb657122085f69566692ee6e00a9f0a25ff43abb", func := "besom/besomlaw01.BitsFills", spec := "bitsFills", apart := false, narrowed := true }
def BitsFillsUptoSaid : Prop := bitsFillsUptoRow.holds Try.pinned (OpenSpec.upto bitsFillsSpec)

/-- 'besomlaw04.ClassDoes', WHERE WHAT IT READS IS OF BULK AT MOST 1048576: true; the input reads as it did. -/
def classDoesUptoRow : OpenClaim := { program := "ytdadleamaalhiaa", sum := "72281e5f28af464e17b59a01bb657122085f69566692ee6e00a9f0a25ff43abb", func := "besom/besomlaw04.ClassDoes", spec := "classDoes", apart := false, narrowed := true }
def ClassDoesUptoSaid : Prop := classDoesUptoRow.holds Try.pinned (OpenSpec.upto classDoesSpec)

/-- 'besomtop.TopShown', WHERE WHAT IT READS IS OF BULK AT MOST 1048576: true; the input reads as it did. -/
def topShownUptoRow : OpenClaim := { program := "ytdadleamaalhiaa", sum := "72281e5f28af464e17b59a01bb657122085f69566692ee6e00a9f0a25ff43abb", func := "besom/besomtop.TopShown", spec := "topShown", unfollowed := true, recurses := true, apart := false, narrowed := true }
def TopShownUptoSaid : Prop := topShownUptoRow.holds Try.pinned (OpenSpec.upto topShownSpec)

end Rows
end Go.Proofs.Ytdadleamaalhiaa
