/- Whatever a list of bits is: how many are so, the first that is, and the first run of those that are not. -/
import Derived.Test.YtdadleamaalhiacDoorGBx8
import Derived.Test.YtdadleamaalhiacDoorPuBitsAskR
import Derived.Test.YtdadleamaalhiacDoorPuBitsBoth
namespace Go.Proofs.YtdadleamaalhiacDoor.Pure
open Go.RowKit Go.Proofs.YtdadleamaalhiacDoorW.PrintWords Go.Proofs.YtdadleamaalhiacDoorW.PrintLast Go.Proofs.YtdadleamaalhiacDoor.GB Go.Proofs.YtdadleamaalhiacDoor.Pu Go.Proofs.YtdadleamaalhiacDoor.PuBitW Go.Proofs.YtdadleamaalhiacDoor.PuBits Go.Proofs.YtdadleamaalhiacDoor.PuBitsRef Go.Proofs.YtdadleamaalhiacDoor.PuBitsCountL Go.Proofs.YtdadleamaalhiacDoor.PuBitsFirst Go.Proofs.YtdadleamaalhiacDoor.PuBitsRunI Go.Proofs.YtdadleamaalhiacDoor.PuBitsAskR Go.Proofs.YtdadleamaalhiacDoor.PuBitsBoth

theorem both_count (n : Int) (l : List Int) (hw : Words l) (hl : l.length < 17592186044416) : ∃ r, Ev (fun k => bits_Count.f k n l) r ∧ Ev (fun k => besomref01_Count.f k n l) r := by
  refine ⟨_, count_ev hw hl, ?_⟩
  unfold besomref01_Count.f countS
  refine Ev.bind (rcheck_ev hw hl) ?_
  by_cases hf : BFit n l
  · rw [chk_good hf]; simp only [hf, if_true]
    obtain ⟨g0, g1, g2, _⟩ := hf
    have := rcount_l hw g1 (by omega) (by omega) n.toNat 0 0 (by omega) (by omega) (by omega) (by omega)
    simpa using this
  · rw [chk_bad hf]; simp only [hf, if_false, show ¬ ((2 : Int) = 0) by decide]; exact ev_const rfl
theorem both_first (n : Int) (l : List Int) (hw : Words l) (hl : l.length < 17592186044416) (fr : Int) (v : Bool) : ∃ r, Ev (fun k => bits_First.f k n l fr v) r ∧ Ev (fun k => besomref01_First.f k n l fr v) r := by
  have hc := rcheck_ev (n := n) hw hl
  have bad : Ev (fun k => besomref01_First.j0 k fr v true n l) (0, 1) := ev_succ (f := fun _ => some (0, 1)) (fun k => by simp [besomref01_First.j0]) (ev_const rfl)
  rcases First_ev (n := n) hw hl fr v with ⟨hf, hE⟩ | ⟨hf, ⟨hr, hE⟩ | ⟨hr, R, hR, hE⟩⟩
  · rw [chk_bad hf] at hc
    exact ⟨_, hE, Ev.bind hc (by simp only [show ¬ ((2 : Int) = 0) by decide, if_false]; exact ev_const rfl)⟩
  · rw [chk_good hf] at hc
    refine ⟨_, hE, Ev.bind hc ?_⟩
    simp only [if_true]
    by_cases c0 : fr < 0
    · simp only [c0, if_true]; exact bad
    · simp only [c0, if_false, show fr > n by omega, decide_true]; exact bad
  · rw [chk_good hf] at hc
    refine ⟨_, hE, Ev.bind hc ?_⟩
    obtain ⟨g0, g1, g2, _⟩ := hf
    simp only [if_true, show ¬ fr < 0 by omega, show ¬ fr > n by omega, if_false, decide_false]
    refine ev_succ (f := fun k => besomref01_First.l0 k v fr n l) (fun k => by simp [besomref01_First.j0]) ?_
    have := hR.ge
    exact rfirst_l hw g1 (by omega) (by omega) v fr R hR hr.1 (R - fr).toNat fr (by omega) (by omega)
theorem both_run (n : Int) (l : List Int) (hw : Words l) (hl : l.length < 17592186044416) (ct : Int) (hct : ct ≤ 9223372036854775807) : ∃ r, Ev (fun k => bits_Run.f k n l ct) r ∧ Ev (fun k => besomref01_Run.f k n l ct) r := by
  have hc := rcheck_ev (n := n) hw hl
  rcases Run_ev (n := n) hw hl ct hct with ⟨hf, hE⟩ | ⟨hf, ⟨hr, hE⟩ | ⟨hr, h⟩⟩
  · rw [chk_bad hf] at hc
    exact ⟨_, hE, Ev.bind hc (by simp only [show ¬ ((2 : Int) = 0) by decide, if_false]; exact ev_const rfl)⟩
  · rw [chk_good hf] at hc
    exact ⟨_, hE, Ev.bind hc (by simp only [if_true, hr]; exact ev_const rfl)⟩
  · rw [chk_good hf] at hc
    obtain ⟨g0, g1, g2, _⟩ := hf
    have step : ∀ r, Ev (fun k => besomref01_Run.l0 k ct 0 0 n l) r → Ev (fun k => besomref01_Run.f k n l ct) r := fun r he => Ev.bind hc (by simp only [if_true, show ¬ ct < 1 by omega, if_false]; exact he)
    have q := rrun_l hw g1 (by omega) (by omega) ct hr hct n.toNat 0 0 (by omega) (by omega) (by omega) (by omega) (fun j j0 j1 => by omega) (fun s s0 s1 => by omega) (.inl (by omega))
    rcases h with ⟨s, hs, hE⟩ | ⟨hs, hE⟩ <;> rcases q with ⟨u, hu, hF⟩ | ⟨hu, hF⟩
    · rw [hs.eq hu] at hE; exact ⟨_, hE, step _ hF⟩
    · exact absurd hs.so (hu s hs.ge (by have := hs.le; omega) hs.le)
    · exact absurd hu.so (hs u hu.ge (by have := hu.le; omega) hu.le)
    · exact ⟨_, hE, step _ hF⟩
theorem BitsAsks : ∀ (n0 : Int) (l0 : List Int) (a1 : Int) (a2 : Bool), (Lit.int .i64 n0).wf = true → l0.length ≤ maxLen → l0.length * 8 ≤ 140737488351232 → (∀ x ∈ l0, (Lit.int .u64 x).wf = true) → (Lit.int .i64 a1).wf = true → ∃ k, besomlaw01_BitsAsks.f k n0 l0 a1 a2 = some true := by
  intro n l a v _ _ hs hw ha
  have hl : l.length < 17592186044416 := by omega
  have hW := words_of hw
  have hb := wf_i64 ha
  refine Ev.rounds (g := fun k => besomlaw01_BitsAsks.f k n l a v) ?_
  unfold besomlaw01_BitsAsks.f
  obtain ⟨p, p0, p1⟩ := both_count n l hW hl
  obtain ⟨q, q0, q1⟩ := both_first n l hW hl a v
  obtain ⟨r, r0, r1⟩ := both_run n l hW hl a hb.2
  refine Ev.bind p0 (Ev.bind p1 (Ev.bind q0 (Ev.bind q1 (Ev.bind r0 (Ev.bind r1 (Ev.bind asks_ev ?_))))))
  simp only [if_true, beq_self_eq_true]
  exact Ev.now _

end Go.Proofs.YtdadleamaalhiacDoor.Pure
