/- The reference's Count, First and Run. -/
import Derived.Test.YtdadleamaalhiacDoorGBx3
import Derived.Test.YtdadleamaalhiacDoorGBx5
import Derived.Test.YtdadleamaalhiacDoorGBx6
import Derived.Test.YtdadleamaalhiacDoorPuBitsRef
import Derived.Test.YtdadleamaalhiacDoorPuBitsCountL
import Derived.Test.YtdadleamaalhiacDoorPuBitsRunI
namespace Go.Proofs.YtdadleamaalhiacDoor.PuBitsAskR
open Go.RowKit Go.Proofs.YtdadleamaalhiacDoorW.PrintWords Go.Proofs.YtdadleamaalhiacDoorW.PrintLast Go.Proofs.YtdadleamaalhiacDoorW.PrintMore Go.Proofs.YtdadleamaalhiacDoor.GB Go.Proofs.YtdadleamaalhiacDoor.Pu Go.Proofs.YtdadleamaalhiacDoor.PuBitW Go.Proofs.YtdadleamaalhiacDoor.PuBits Go.Proofs.YtdadleamaalhiacDoor.PuBitsRef Go.Proofs.YtdadleamaalhiacDoor.PuBitsCountL Go.Proofs.YtdadleamaalhiacDoor.PuBitsFirst Go.Proofs.YtdadleamaalhiacDoor.PuBitsRunI

theorem rcount_l {n : Int} {l : List Int} (hw : Words l) (hn : n ≤ 4096) (hl : n ≤ 64 * (l.length : Int)) (hl2 : l.length < 1000) : ∀ (d : Nat) (i x : Int), 0 ≤ i → n - i = d → 0 ≤ x → x + d ≤ 10000 → Ev (fun k => besomref01_Count.l0 k x i n l) (x + (cntI l i.toNat d : Nat), 0) := by
  intro d
  induction d with
  | zero =>
    intro i x h0 hd _ _
    refine ev_of (K := 1) fun k hk => ?_
    obtain ⟨k, rfl⟩ : ∃ m, k = m + 1 := ⟨k - 1, by omega⟩
    simp only [besomref01_Count.l0]; rw [if_neg (by omega)]; simp [cntI]
  | succ d ih =>
    intro i x h0 hd hx hx2
    rw [cntI, show i.toNat + 1 = (i + 1).toNat by omega]
    refine ev_succ (f := fun k => _) (fun k => by simp only [besomref01_Count.l0]; rw [if_pos (by omega), ris_eq hw n i h0 (by omega) (by omega), Option.bind_some, w64 (a := i + 1) (by omega) (by omega), w64 (a := x + 1) (by omega) (by omega)]) ?_
    by_cases hb : bitAt l i.toNat = true
    · simp only [hb, if_true]
      have := ih (i + 1) (x + 1) (by omega) (by omega) (by omega) (by omega)
      rwa [show x + 1 + (cntI l (i + 1).toNat d : Nat) = x + ((1 + cntI l (i + 1).toNat d : Nat) : Int) by omega] at this
    · simp only [hb]
      have := ih (i + 1) x (by omega) (by omega) (by omega) (by omega)
      simpa using this
theorem rfirst_l {n : Int} {l : List Int} (hw : Words l) (hn : n ≤ 4096) (hl : n ≤ 64 * (l.length : Int)) (hl2 : l.length < 1000) (v : Bool) (fr R : Int) (hR : IsFirst n l v fr R) (hfr : 0 ≤ fr) : ∀ (d : Nat) (i : Int), fr ≤ i → R - i = d → Ev (fun k => besomref01_First.l0 k v i n l) (if R = n then (0, 3) else (R, 0)) := by
  have r1 := hR.le
  intro d
  induction d with
  | zero =>
    intro i h0 hd
    refine ev_of (K := 1) fun k hk => ?_
    obtain ⟨k, rfl⟩ : ∃ m, k = m + 1 := ⟨k - 1, by omega⟩
    simp only [besomref01_First.l0]
    by_cases e : R = n
    · rw [if_neg (by omega), if_pos e]
    · rw [if_pos (by omega), ris_eq hw n i (by omega) (by omega) (by omega), Option.bind_some, if_neg e, show i = R by omega, hR.so (by omega)]; simp
  | succ d ih =>
    intro i h0 hd
    refine ev_succ (f := fun k => besomref01_First.l0 k v (i + 1) n l) (fun k => ?_) (ih (i + 1) (by omega) (by omega))
    simp only [besomref01_First.l0]
    have hb := hR.no i h0 (by omega)
    rw [if_pos (by omega), ris_eq hw n i (by omega) (by omega) (by omega), Option.bind_some, if_neg (by simpa using hb), w64 (by omega) (by omega)]
theorem rrun_l {n : Int} {l : List Int} (hw : Words l) (hn : n ≤ 4096) (hl : n ≤ 64 * (l.length : Int)) (hl2 : l.length < 1000) (ct : Int) (hct : 1 ≤ ct) (hct2 : ct ≤ 9223372036854775807) : ∀ (d : Nat) (i c : Int), n - i = d → 0 ≤ c → c < ct → c ≤ i → Clear l (i - c) c → (∀ s : Int, 0 ≤ s → s + ct ≤ i → ¬ Clear l s ct) → (i - c = 0 ∨ bitAt l (i - c - 1).toNat = true) →
    (∃ s, IsRun n l ct 0 s ∧ Ev (fun k => besomref01_Run.l0 k ct c i n l) (s, 0)) ∨ (NoRun n l ct 0 n ∧ Ev (fun k => besomref01_Run.l0 k ct c i n l) (0, 3)) := by
  intro d
  induction d with
  | zero =>
    intro i c hd c0 c1 c2 hcl hno hb
    refine .inr ⟨fun s s0 s1 s2 => hno s s0 (by omega), ev_of (K := 1) fun k hk => ?_⟩
    obtain ⟨k, rfl⟩ : ∃ m, k = m + 1 := ⟨k - 1, by omega⟩
    simp only [besomref01_Run.l0]; rw [if_neg (by omega)]
  | succ d ih =>
    intro i c hd c0 c1 c2 hcl hno hb
    have is := ris_eq hw n i (by omega) (by omega) (by omega)
    have nz : ¬ (0 : Int) = ct := by omega
    by_cases hi : bitAt l i.toNat = true
    · have nx := ih (i + 1) 0 (by omega) (by omega) (by omega) (by omega) (fun j j0 j1 => by omega) (fun s s0 s1 hc => by
        by_cases e : s + ct ≤ i
        · exact hno s s0 e hc
        · have := hc i (by omega) (by omega)
          rw [hi] at this; cases this) (.inr (by rw [show i + 1 - 0 - 1 = i by omega]; exact hi))
      have step : ∀ r, Ev (fun k => besomref01_Run.l0 k ct 0 (i + 1) n l) r → Ev (fun k => besomref01_Run.l0 k ct c i n l) r := fun r hr => by
        refine ev_succ (f := fun k => besomref01_Run.l0 k ct 0 (i + 1) n l) (fun k => ?_) hr
        simp only [besomref01_Run.l0]; rw [if_pos (by omega), is, Option.bind_some, if_pos hi, if_neg nz, w64 (by omega) (by omega)]
      rcases nx with ⟨s, hs, he⟩ | ⟨hs, he⟩
      · exact .inl ⟨s, hs, step _ he⟩
      · exact .inr ⟨hs, step _ he⟩
    · have hi' : bitAt l i.toNat = false := by simpa using hi
      have hcl2 : Clear l (i - c) (c + 1) := fun j j0 j1 => by
        by_cases e : j = i
        · rw [e]; exact hi'
        · exact hcl j j0 (by omega)
      by_cases hc : c + 1 = ct
      · refine .inl ⟨i - c, ⟨by omega, by omega, by rw [← hc]; exact hcl2, fun s s0 s1 s2 => hno s s0 (by omega)⟩, ev_of (K := 1) fun k hk => ?_⟩
        obtain ⟨k, rfl⟩ : ∃ m, k = m + 1 := ⟨k - 1, by omega⟩
        simp only [besomref01_Run.l0]; rw [if_pos (by omega), is, Option.bind_some, if_neg hi, w64 (a := c + 1) (by omega) (by omega), if_pos hc, w64 (a := i - ct) (by omega) (by omega), w64 (by omega) (by omega), show i - ct + 1 = i - c by omega]
      · have nx := ih (i + 1) (c + 1) (by omega) (by omega) (by omega) (by omega) (by rw [show i + 1 - (c + 1) = i - c by omega]; exact hcl2) (fun s s0 s1 hcc => by
          by_cases e : s + ct ≤ i
          · exact hno s s0 e hcc
          · rcases hb with hb | hb
            · omega
            · have := hcc (i - c - 1) (by omega) (by omega)
              rw [hb] at this; cases this) (by rw [show i + 1 - (c + 1) = i - c by omega]; exact hb)
        have step : ∀ r, Ev (fun k => besomref01_Run.l0 k ct (c + 1) (i + 1) n l) r → Ev (fun k => besomref01_Run.l0 k ct c i n l) r := fun r hr => by
          refine ev_succ (f := fun k => besomref01_Run.l0 k ct (c + 1) (i + 1) n l) (fun k => ?_) hr
          simp only [besomref01_Run.l0]; rw [if_pos (by omega), is, Option.bind_some, if_neg hi, w64 (a := c + 1) (by omega) (by omega), if_neg hc, w64 (by omega) (by omega)]
        rcases nx with ⟨s, hs, he⟩ | ⟨hs, he⟩
        · exact .inl ⟨s, hs, step _ he⟩
        · exact .inr ⟨hs, step _ he⟩

end Go.Proofs.YtdadleamaalhiacDoor.PuBitsAskR
