/- How a list of steps (a bool and a word each) that came in is opened. -/
import Derived.Test.YtbdlehbaioaglaaGWx0
import Derived.Test.YtbdlehbaioaglaaRw
import Derived.Deep.SlicePairs
namespace Go.Proofs.Ytbdlehbaioaglaa.RsW
open Go.ChangeShapes Go.WideShapes Go.ChangeAt Go.RowKit Go.Proofs.YtbdlehbaioaglaaW.PrintWords Go.Proofs.Ytbdlehbaioaglaa.GW

def WfStep (x : S30) : Prop := (Lit.int .u64 x.f1).wf = true
/-- What is known of such a list. -/
structure StepsIn (W : World) (A : Option Addr) (c : Nat) (l : List S30) : Prop where
  reads : Kd.C k30 W A l.length l
  cap : l.length ≤ c
  wf : ∀ x ∈ l, WfStep x
set_option maxRecDepth 100000 in
theorem steps_in {H : Type} {enc : TypeId × Value → H} {W : World} {base : Nat} {v : Value} {d : DataW H} {p : List MemPlace}
    (hv : Value.okWide Try.prog W .any base 23 v) (h : DataW.Trod enc Try.prog W 0 (fun _ => true) true 23 v d p) :
    ∃ (A : Option Addr) (l : List S30) (c : Nat), v = .slice A l.length c ∧ StepsIn W A c l := by
  obtain ⟨a, n, c, rfl⟩ := okWide_slice Try.underlying23 hv
  obtain ⟨fuel, hf⟩ := h
  have hf' : DataW.trod enc Try.prog W 0 (fun _ => true) true fuel 23 [.slice a n c] = some (d, p) := by simpa [Value.cells] using hf
  rcases Go.Deep.open_slice_pairs Try.underlying23 Try.underlying30 (by kernel_rfl) rfl rfl (by kernel_rfl) (by kernel_rfl) hf' with ⟨hcs, _⟩ | ⟨ad, len, cap, m, n', V0, V1, D0, D1, P0, P1, hcs, _, hl, hm, hmm, _, hx⟩
  · have e : Value.slice a n c = .slice none 0 0 := by simpa using hcs
    exact ⟨none, [], 0, e, Kd.C_nil _ _, Nat.le_refl _, by simp⟩
  · have e : Value.slice a n c = .slice (some ad) len cap := by simpa using hcs
    have each : ∀ i, i < len → ∃ q : Bool × Int, V0 i = .bool q.1 ∧ V1 i = .int .u64 q.2 ∧ (Lit.int .u64 q.2).wf = true := by
      intro i hi
      have hmi : i < m := by rw [hmm]; simp; omega
      obtain ⟨_, _, h0, h1⟩ := hx i hmi
      obtain ⟨b, eb, _⟩ := DataW.trod_bool Try.underlying4 h0
      obtain ⟨u, eu, _, wu⟩ := DataW.trod_int Try.underlying25 h1
      exact ⟨(b, u), by simpa using eb, by simpa using eu, wu⟩
    obtain ⟨q, hq⟩ := Go.Deep.choose_lt each
    have hlen : ((List.range len).map (fun i => (⟨(q i).1, (q i).2⟩ : S30))).length = len := by simp
    refine ⟨some ad, (List.range len).map (fun i => ⟨(q i).1, (q i).2⟩), cap, by rw [hlen]; exact e, ?_, by rw [hlen]; exact hl, ?_⟩
    · refine ⟨rfl, by rw [hlen]; unfold maxLen at hm; omega, fun _ => ⟨ad, rfl, fun j pj hj => ?_⟩⟩
      have hjl : j < len := by
        have := (List.getElem?_eq_some_iff.1 hj).1
        rwa [hlen] at this
      have ej : pj = ⟨(q j).1, (q j).2⟩ := by
        rw [List.getElem?_map, List.getElem?_range hjl] at hj
        simpa using hj.symm
      subst ej
      have hmj : j < m := by rw [hmm]; simp; omega
      obtain ⟨h0, h1, _⟩ := hx j hmj
      obtain ⟨e0, e1, _⟩ := hq j hjl
      refine ⟨[.bool (q j).1, .int .u64 (q j).2], rfl, k30_mk W _, fun i u hi => ?_⟩
      match i, hi with
      | 0, hi => rw [← e0] at hi; rw [show u = V0 j by simpa using hi.symm]; exact h0
      | 1, hi => rw [← e1] at hi; rw [show u = V1 j by simpa using hi.symm]; exact h1
    · intro x hxm
      obtain ⟨i, hi, rfl⟩ := List.mem_map.1 hxm
      exact (hq i (List.mem_range.1 hi)).2.2

end Go.Proofs.Ytbdlehbaioaglaa.RsW
