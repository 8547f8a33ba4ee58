/- How arguments that came in are opened for the rows of this seat: slices of integers, structs that hold them. -/
import Derived.Test.YtbdlehbaioaglaaWMore
import Derived.Test.YtbdlehbaioaglaaProg
import Derived.WalkKit
import Derived.ProofKit
import Derived.OpenShut
import Derived.ShutString
import Derived.ChangeOld
import Derived.Below
import Derived.SizedLaws
namespace Go.Proofs.Ytbdlehbaioaglaa.Rw
open Go.ChangeShapes Go.WideShapes Go.ChangeAt Go.RowKit Go.Proofs.YtbdlehbaioaglaaW.PrintWords
open Go.ChangeMaps (open_string shut_string)

set_option maxRecDepth 100000 in
theorem weight_in {H : Type} {P : Program} {ts : List TypeId} {ds : List (DataW H)} {j : Nat} {t : TypeId} {d : DataW H}
    (hsz : (DataW.weightsEach P ts ds).all (· ≤ reachBytes) = true) (ht : ts[j]? = some t) (hd : ds[j]? = some d) : ∀ n ∈ d.weights P t, n ≤ reachBytes := by
  intro n hn
  have := List.all_eq_true.1 hsz n (DataW.weights_mem_each ht hd n hn)
  simpa using this

/-- What is known of a list of integers that came in. -/
structure RowIn (k : IntKind) (B : Nat) (W : World) (A : Option Addr) (c : Nat) (l : List Int) : Prop where
  reads : (Kd.int k).C W A l.length l
  cap : l.length ≤ c
  size : l.length * B ≤ 140737488351232
  len : l.length ≤ maxLen
  wf : ∀ x ∈ l, (Lit.int k x).wf = true

set_option maxRecDepth 100000 in
theorem row_in {H : Type} {enc : TypeId × Value → H} {P : Program} {W : World} {t e : TypeId} {k : IntKind} {B fuel : Nat} {v : Value} {y : DataW H × List MemPlace}
    (ht : P.underlying t = some (.slice e)) (he : P.underlying e = some (.int k)) (hc : P.cellsOf e = 1) (hB : P.bytesOf e = B)
    (h : DataW.trod enc P W 0 (fun _ => true) true fuel t [v] = some y) (hw : ∀ n ∈ y.1.weights P t, n ≤ reachBytes) :
    ∃ (A : Option Addr) (l : List Int) (c : Nat), v = .slice A l.length c ∧ RowIn k B W A c l := by
  rcases open_ints ht he hc h with ⟨hcs, hy⟩ | ⟨x, len, cap, zs, hcs, _, hl, hm, hz, hy, hcell, hwz⟩
  · have hv : v = .slice none 0 0 := by simpa using hcs
    subst hv
    exact ⟨none, [], 0, rfl, Kd.C_nil _ _, Nat.le_refl _, by simp, by simp [maxLen], by simp⟩
  · have hv : v = .slice (some x) len cap := by simpa using hcs
    subst hv
    have hz' : zs.length = cap := by simpa using hz
    obtain ⟨l, e1, h1, h2, h3, h4⟩ := ReadsInt.ofRowC (k := k) (w := W) (a := some x) (len := len) (cap := cap) (zs := zs) (.inr ⟨x, rfl, hl, hm, hz', hcell, hwz⟩)
    subst e1
    refine ⟨some x, l, cap, rfl, Kd.C_of_reads (d := (0 : Int)) (h1 := fun _ => rfl) h1, h4, ?_, h2, h3⟩
    subst hy
    have hh := hw ((lits (H := H) k (zs.take l.length)).length * B + (lits (H := H) k (zs.drop l.length)).length * B) (by simp [DataW.weights, ht, hB, Nat.add_mul])
    have hs : (lits (H := H) k (zs.take l.length)).length = l.length := by simp [lits]; omega
    rw [hs] at hh
    unfold reachBytes at hh
    omega

set_option maxRecDepth 100000 in
theorem u64s_in {H : Type} {enc : TypeId × Value → H} {W : World} {base : Nat} {v : Value} {d : DataW H} {p : List MemPlace}
    (hv : Value.okWide Try.prog W .any base 22 v) (h : DataW.Trod enc Try.prog W 0 (fun _ => true) true 22 v d p) (hw : ∀ n ∈ d.weights Try.prog 22, n ≤ reachBytes) :
    ∃ (A : Option Addr) (l : List Int) (c : Nat), v = .slice A l.length c ∧ RowIn .u64 8 W A c l := by
  obtain ⟨a, n, c, rfl⟩ := okWide_slice Try.underlying22 hv
  obtain ⟨fuel, hf⟩ := h
  exact row_in (B := 8) Try.underlying22 Try.underlying25 (by kernel_rfl) (by kernel_rfl) (by simpa [Value.cells] using hf) hw

set_option maxRecDepth 100000 in
theorem ints_in {H : Type} {enc : TypeId × Value → H} {W : World} {base : Nat} {v : Value} {d : DataW H} {p : List MemPlace}
    (hv : Value.okWide Try.prog W .any base 31 v) (h : DataW.Trod enc Try.prog W 0 (fun _ => true) true 31 v d p) (hw : ∀ n ∈ d.weights Try.prog 31, n ≤ reachBytes) :
    ∃ (A : Option Addr) (l : List Int) (c : Nat), v = .slice A l.length c ∧ RowIn .i64 8 W A c l := by
  obtain ⟨a, n, c, rfl⟩ := okWide_slice Try.underlying31 hv
  obtain ⟨fuel, hf⟩ := h
  exact row_in (B := 8) Try.underlying31 Try.underlying3 (by kernel_rfl) (by kernel_rfl) (by simpa [Value.cells] using hf) hw

set_option maxRecDepth 100000 in
theorem bits_cells {H : Type} {enc : TypeId × Value → H} {W : World} {fuel : Nat} {c0 c1 : Value} {y : DataW H × List MemPlace}
    (h : DataW.trod enc Try.prog W 0 (fun _ => true) true fuel 48 [c0, c1] = some y) (hw : ∀ n ∈ y.1.weights Try.prog 48, n ≤ reachBytes) :
    ∃ (n : Int) (A : Option Addr) (l : List Int) (c : Nat), c0 = .int .i64 n ∧ c1 = .slice A l.length c ∧ (Lit.int .i64 n).wf = true ∧ RowIn .u64 8 W A c l := by
  obtain ⟨y0, y1, n, hx, _, h0, h1⟩ := trod_struct2 Try.underlying48 h
  subst hx
  have e0 : Try.prog.cellsOf 22 = 1 := by kernel_rfl
  have e1 : Try.prog.cellsOf 3 = 1 := by kernel_rfl
  obtain ⟨A, l, c, hl, hr⟩ := row_in (B := 8) (v := c1) Try.underlying22 Try.underlying25 (by kernel_rfl) (by kernel_rfl) (by simpa [e0] using h1)
    (fun n hn => hw n (by simp only [DataW.weights, Try.underlying48, DataW.weightsEach, List.mem_append, List.map_cons, List.map_nil]; exact .inr (.inl hn)))
  obtain ⟨a, ea, _, wa⟩ := DataW.trod_int Try.underlying3 h0
  have ea' : c0 = .int .i64 a := by simpa [e1] using ea
  exact ⟨a, A, l, c, ea', hl, wa, hr⟩
set_option maxRecDepth 100000 in
theorem bits_in {H : Type} {enc : TypeId × Value → H} {W : World} {base : Nat} {v : Value} {d : DataW H} {p : List MemPlace}
    (hv : Value.okWide Try.prog W .any base 48 v) (h : DataW.Trod enc Try.prog W 0 (fun _ => true) true 48 v d p) (hw : ∀ n ∈ d.weights Try.prog 48, n ≤ reachBytes) :
    ∃ (n : Int) (A : Option Addr) (l : List Int) (c : Nat), v = .agg #[.int .i64 n, .slice A l.length c] ∧ (Lit.int .i64 n).wf = true ∧ RowIn .u64 8 W A c l := by
  obtain ⟨cs, rfl, hsz⟩ := okWide_struct Try.underlying48 hv
  obtain ⟨c0, c1, rfl⟩ : ∃ c0 c1, cs = #[c0, c1] := by
    have h2 : cs.size = 2 := hsz.trans (by kernel_rfl)
    exact ⟨cs[0], cs[1], by apply Array.ext; · simpa using h2
                            · intro i h1 h3; match i, h3 with | 0, _ => rfl | 1, _ => rfl⟩
  obtain ⟨fuel, hf⟩ := h
  obtain ⟨n, A, l, c, rfl, rfl, wn, hr⟩ := bits_cells (by simpa [Value.cells] using hf) hw
  exact ⟨n, A, l, c, rfl, wn, hr⟩

set_option maxRecDepth 100000 in
theorem shape_in {H : Type} {enc : TypeId × Value → H} {W : World} {base : Nat} {v : Value} {d : DataW H} {p : List MemPlace}
    (hv : Value.okWide Try.prog W .any base 43 v) (h : DataW.Trod enc Try.prog W 0 (fun _ => true) true 43 v d p) :
    ∃ (n m : Int), v = .agg #[.int .i64 n, .int .u64 m] ∧ (Lit.int .i64 n).wf = true ∧ (Lit.int .u64 m).wf = true := by
  obtain ⟨cs, rfl, hsz⟩ := okWide_struct Try.underlying43 hv
  obtain ⟨c0, c1, rfl⟩ : ∃ c0 c1, cs = #[c0, c1] := by
    have h2 : cs.size = 2 := hsz.trans (by kernel_rfl)
    exact ⟨cs[0], cs[1], by apply Array.ext; · simpa using h2
                            · intro i h1 h3; match i, h3 with | 0, _ => rfl | 1, _ => rfl⟩
  obtain ⟨fuel, hf⟩ := h
  obtain ⟨y0, y1, n, hx, _, h0, h1⟩ := trod_struct2 Try.underlying43 hf
  have e0 : Try.prog.cellsOf 25 = 1 := by kernel_rfl
  have e1 : Try.prog.cellsOf 3 = 1 := by kernel_rfl
  obtain ⟨a, ea, _, wa⟩ := DataW.trod_int Try.underlying3 h0
  obtain ⟨b, eb, _, wb⟩ := DataW.trod_int Try.underlying25 h1
  have ea' : c0 = .int .i64 a := by simpa [Value.cells, e1] using ea
  have eb' : c1 = .int .u64 b := by simpa [Value.cells, e0] using eb
  exact ⟨a, b, by rw [ea', eb'], wa, wb⟩

end Go.Proofs.Ytbdlehbaioaglaa.Rw
