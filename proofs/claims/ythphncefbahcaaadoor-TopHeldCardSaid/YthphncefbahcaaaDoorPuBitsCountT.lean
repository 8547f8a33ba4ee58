/- How many bits of a word are so, as math/bits reckons it: by halves of halves. -/
import Derived.Test.YthphncefbahcaaaDoorGTx3
import Derived.Test.YthphncefbahcaaaDoorGTx3
import Derived.Test.YthphncefbahcaaaDoorPuBitsT
namespace Go.Proofs.YthphncefbahcaaaDoor.PuBitsCountT
open Go.RowKit Go.Proofs.YthphncefbahcaaaDoorW.PrintWords Go.Proofs.YthphncefbahcaaaDoorW.PrintLast Go.Proofs.YthphncefbahcaaaDoorW.PrintMore Go.Proofs.YthphncefbahcaaaDoor.GT Go.Proofs.YthphncefbahcaaaDoor.Pu Go.Proofs.YthphncefbahcaaaDoor.PuBitW Go.Proofs.YthphncefbahcaaaDoor.PuBitsT

/-- How many of the d bits from i on are so. -/
def cntB (a : Nat) : Nat → Nat → Nat
  | _, 0 => 0
  | i, d + 1 => (if a.testBit i = true then 1 else 0) + cntB a (i + 1) d
/-- A byte's count. -/
def pop8 (b : Nat) : Nat := cntB b 0 8
theorem and_byte (h l x y : Nat) (hl : l < 256) (hy : y < 256) : (h * 256 + l) &&& (x * 256 + y) = (h &&& x) * 256 + (l &&& y) := by
  apply Nat.eq_of_testBit_eq
  intro j
  have hb : l &&& y < 2 ^ 8 := Nat.lt_of_le_of_lt Nat.and_le_left (by omega)
  have e1 := Nat.testBit_two_pow_mul_add h (show l < 2 ^ 8 by omega) j
  have e2 := Nat.testBit_two_pow_mul_add x (show y < 2 ^ 8 by omega) j
  have e3 := Nat.testBit_two_pow_mul_add (h &&& x) hb j
  rw [show (2 : Nat) ^ 8 = 256 by decide] at e1 e2 e3
  rw [Nat.testBit_and, Nat.mul_comm h, Nat.mul_comm x, Nat.mul_comm (h &&& x), e1, e2, e3]
  by_cases c : j < 8
  · rw [if_pos c, if_pos c, if_pos c, Nat.testBit_and]
  · rw [if_neg c, if_neg c, if_neg c, Nat.testBit_and]
def s1 (m a : Nat) : Nat := (a / 2 &&& m) + (a &&& m)
def s2 (m a : Nat) : Nat := (a / 4 &&& m) + (a &&& m)
def s4 (m a : Nat) : Nat := (a / 16 + a) &&& m
theorem byte1 : ∀ (l : Fin 256) (c : Fin 2), (c.1 * 128 + l.1 / 2) &&& 85 = (l.1 / 2) &&& 85 := by decide +kernel
theorem byte2 : ∀ (l : Fin 256) (c : Fin 4), (c.1 * 64 + l.1 / 4) &&& 51 = (l.1 / 4) &&& 51 := by decide +kernel
theorem step1 (h l x : Nat) (hl : l < 256) : s1 (x * 256 + 85) (h * 256 + l) = s1 x h * 256 + s1 85 l := by
  unfold s1
  have e : (h * 256 + l) / 2 = h / 2 * 256 + (h % 2 * 128 + l / 2) := by omega
  have b := byte1 ⟨l, hl⟩ ⟨h % 2, by omega⟩
  simp only at b
  rw [e, and_byte _ _ _ _ (by omega) (by omega), and_byte _ _ _ _ hl (by omega), b]; omega
theorem step2 (h l x : Nat) (hl : l < 256) : s2 (x * 256 + 51) (h * 256 + l) = s2 x h * 256 + s2 51 l := by
  unfold s2
  have e : (h * 256 + l) / 4 = h / 4 * 256 + (h % 4 * 64 + l / 4) := by omega
  have b := byte2 ⟨l, hl⟩ ⟨h % 4, by omega⟩
  simp only at b
  rw [e, and_byte _ _ _ _ (by omega) (by omega), and_byte _ _ _ _ hl (by omega), b]; omega
/-- What the first two steps make of a byte. -/
def t2 (l : Nat) : Nat := s2 51 (s1 85 l)
theorem t_small : ∀ l : Fin 256, s1 85 l.1 < 256 ∧ t2 l.1 ≤ 68 ∧ t2 l.1 % 16 ≤ 4 ∧ t2 l.1 / 16 ≤ 4 ∧ (t2 l.1 / 16 + t2 l.1) &&& 15 = pop8 l.1 ∧ pop8 l.1 ≤ 8 := by decide +kernel
theorem byte4 : ∀ (t : Fin 69) (c : Fin 5), (c.1 * 16 + t.1 / 16 + t.1) &&& 15 = (t.1 / 16 + t.1) &&& 15 := by decide +kernel
theorem step4 (h l x : Nat) (hh : h % 16 ≤ 4) (hl : l ≤ 68) : s4 (x * 256 + 15) (h * 256 + l) = s4 x h * 256 + ((l / 16 + l) &&& 15) := by
  unfold s4
  have e : (h * 256 + l) / 16 + (h * 256 + l) = (h / 16 + h) * 256 + (h % 16 * 16 + l / 16 + l) := by omega
  have b := byte4 ⟨l, by omega⟩ ⟨h % 16, by omega⟩
  simp only at b
  rw [e, and_byte _ _ _ _ (by omega) (by omega), b]

/-- A number's bytes, from the highest on. -/
theorem all_steps (h l x y z : Nat) (hl : l < 256) (hm : s2 y (s1 x h) % 16 ≤ 4) :
    s1 (x * 256 + 85) (h * 256 + l) = s1 x h * 256 + s1 85 l ∧ s2 (y * 256 + 51) (s1 x h * 256 + s1 85 l) = s2 y (s1 x h) * 256 + t2 l ∧ s4 (z * 256 + 15) (s2 y (s1 x h) * 256 + t2 l) = s4 z (s2 y (s1 x h)) * 256 + pop8 l ∧ (s2 y (s1 x h) * 256 + t2 l) % 16 ≤ 4 := by
  have t := t_small ⟨l, hl⟩
  simp only at t
  refine ⟨step1 h l x hl, step2 _ _ y t.1, ?_, by omega⟩
  rw [step4 _ _ z hm t.2.1, t.2.2.2.2.1]
/-- Three steps over d bytes. -/
def M (b : Nat) : Nat → Nat
  | 0 => 0
  | d + 1 => M b d * 256 + b
def sumB : Nat → Nat → Nat
  | 0, _ => 0
  | d + 1, a => sumB d (a / 256) * 256 + pop8 (a % 256)
theorem three : ∀ (d a : Nat), a < 256 ^ d → s4 (M 15 d) (s2 (M 51 d) (s1 (M 85 d) a)) = sumB d a ∧ s2 (M 51 d) (s1 (M 85 d) a) % 16 ≤ 4
  | 0, a, h => by
    have : a = 0 := by simp at h; omega
    subst this; decide
  | d + 1, a, h => by
    have ih := three d (a / 256) (by rw [Nat.pow_succ] at h; omega)
    obtain ⟨q1, q2, q3, q4⟩ := all_steps (a / 256) (a % 256) (M 85 d) (M 51 d) (M 15 d) (by omega) ih.2
    have ea : a = a / 256 * 256 + a % 256 := by omega
    unfold sumB M
    rw [← ih.1, ← q3, ← q2, ← q1, ← ea]
    refine ⟨rfl, ?_⟩
    have e5 : s2 (M 51 d * 256 + 51) (s1 (M 85 d * 256 + 85) a) = s2 (M 51 d) (s1 (M 85 d) (a / 256)) * 256 + t2 (a % 256) := by rw [← q2, ← q1, ← ea]
    rw [e5]; exact q4

def tot : Nat → Nat → Nat
  | 0, _ => 0
  | d + 1, a => tot d (a / 256) + pop8 (a % 256)
theorem pop_le (b : Nat) (h : b < 256) : pop8 b ≤ 8 := (t_small ⟨b, h⟩).2.2.2.2.2
/-- Eight bytes of eight at the most, drawn together. -/
theorem low256 (A p : Nat) (h : p < 256) : (A * 256 + p) / 256 = A := by omega
theorem low65536 (A p q : Nat) (h : p < 256) (g : q < 256) : ((A * 256 + q) * 256 + p) / 65536 = A := by omega
theorem low32 (A p q r s : Nat) (h : p < 256) (g : q < 256) (f : r < 256) (e : s < 256) : ((((A * 256 + s) * 256 + r) * 256 + q) * 256 + p) / 4294967296 = A := by omega
theorem add256 (A B p q : Nat) : (A * 256 + p) + (B * 256 + q) = (A + B) * 256 + (p + q) := by omega
theorem add256' (A p q : Nat) : (A * 256 + p) + q = A * 256 + (p + q) := by omega
theorem mod128 (A p : Nat) (h : p < 128) : (A * 256 + p) % 128 = p := by omega
theorem fold8 (p0 p1 p2 p3 p4 p5 p6 p7 X X1 X2 X3 : Nat) (h0 : p0 ≤ 8) (h1 : p1 ≤ 8) (h2 : p2 ≤ 8) (h3 : p3 ≤ 8) (h4 : p4 ≤ 8) (h5 : p5 ≤ 8) (h6 : p6 ≤ 8) (h7 : p7 ≤ 8)
    (hX : X = (((((((0 * 256 + p7) * 256 + p6) * 256 + p5) * 256 + p4) * 256 + p3) * 256 + p2) * 256 + p1) * 256 + p0) (e1 : X1 = X + X / 256) (e2 : X2 = X1 + X1 / 65536) (e3 : X3 = X2 + X2 / 4294967296) :
    X3 % 128 = p0 + p1 + p2 + p3 + p4 + p5 + p6 + p7 ∧ X < 600000000000000000 ∧ X1 < 1200000000000000000 ∧ X2 < 2400000000000000000 ∧ X3 < 4800000000000000000 := by
  have bX : X < 600000000000000000 := by rw [hX]; omega
  have bX1 : X1 < 1200000000000000000 := by clear hX e2 e3; omega
  have bX2 : X2 < 2400000000000000000 := by clear hX e1 e3; omega
  have bX3 : X3 < 4800000000000000000 := by clear hX e1 e2; omega
  refine ⟨?_, bX, bX1, bX2, bX3⟩
  clear bX bX1 bX2 bX3
  rw [hX, low256 _ p0 (by clear hX e1 e2 e3; omega), add256, add256, add256, add256, add256, add256, add256', Nat.zero_mul, Nat.zero_add] at e1
  rw [e1, low65536 _ (p0 + p1) (p1 + p2) (by clear hX e1 e2 e3; omega) (by clear hX e1 e2 e3; omega), add256, add256, add256, add256, add256, add256'] at e2
  rw [e2, low32 _ _ _ _ _ (by clear hX e1 e2 e3; omega) (by clear hX e1 e2 e3; omega) (by clear hX e1 e2 e3; omega) (by clear hX e1 e2 e3; omega), add256, add256, add256, add256'] at e3
  rw [e3, mod128 _ _ (by clear hX e1 e2 e3; omega)]
  clear hX e1 e2 e3; omega
theorem cntB_split (a : Nat) : ∀ (d i e : Nat), cntB a i (d + e) = cntB a i d + cntB a (i + d) e
  | 0, i, e => by simp [cntB]
  | d + 1, i, e => by
    rw [show d + 1 + e = (d + e) + 1 by omega, cntB, cntB, cntB_split a d (i + 1) e, show i + 1 + d = i + (d + 1) by omega]; omega
theorem cntB_low (a i : Nat) : ∀ d, i + d ≤ 8 → cntB a i d = cntB (a % 256) i d
  | 0, _ => rfl
  | d + 1, h => by
    rw [cntB, cntB]
    have hb : (a % 256).testBit i = a.testBit i := by
      have := Nat.testBit_mod_two_pow a 8 i
      rw [show (2 : Nat) ^ 8 = 256 by decide] at this
      rw [this]; simp; omega
    rw [hb, cntB_low a (i + 1) d (by omega)]
theorem cntB_high (a : Nat) : ∀ (d i : Nat), cntB a (i + 8) d = cntB (a / 256) i d
  | 0, _ => rfl
  | d + 1, i => by
    rw [cntB, cntB]
    have hb : (a / 256).testBit i = a.testBit (i + 8) := by
      have := Nat.testBit_shiftRight (x := a) (i := 8) (j := i)
      rw [Nat.shiftRight_eq_div_pow, show (2 : Nat) ^ 8 = 256 by decide] at this
      rw [this, Nat.add_comm]
    rw [hb, show i + 8 + 1 = (i + 1) + 8 by omega, cntB_high a d (i + 1)]
theorem cnt_tot : ∀ (d a : Nat), cntB a 0 (8 * d) = tot d a
  | 0, _ => rfl
  | d + 1, a => by
    rw [show 8 * (d + 1) = 8 + 8 * d by omega, cntB_split, cntB_low a 0 8 (by omega), show 0 + 8 = 0 + 8 from rfl, cntB_high a (8 * d) 0, cnt_tot d]
    have e : tot (d + 1) a = tot d (a / 256) + cntB (a % 256) 0 8 := rfl
    rw [e]; omega

theorem and_lit (x m : Nat) (hx : x < 18446744073709551616) (hm : m < 18446744073709551616) (y : Int) (hy : y = (x : Int)) (z : Int) (hz : z = (m : Int)) : Go.bits .and .u64 y z = ((x &&& m : Nat) : Int) := by
  subst hy hz; exact bits_and_u64_nat x m hx hm
theorem stepZ (a : Nat) (ha : a < 18446744073709551616) : IntKind.u64.wrap ((Go.bits .and .u64 ((a : Int) / 2) 6148914691236517205) + (Go.bits .and .u64 (a : Int) 6148914691236517205)) = ((s1 6148914691236517205 a : Nat) : Int) ∧ s1 6148914691236517205 a ≤ 12297829382473034410 := by
  have z1 : (a / 2) &&& 6148914691236517205 ≤ 6148914691236517205 := Nat.and_le_right
  have z2 : a &&& 6148914691236517205 ≤ 6148914691236517205 := Nat.and_le_right
  rw [and_lit (a / 2) 6148914691236517205 (by omega) (by omega) ((a : Int) / 2) (by omega) (6148914691236517205 : Int) rfl, and_lit a 6148914691236517205 ha (by omega) (a : Int) rfl (6148914691236517205 : Int) rfl]
  unfold s1
  generalize (a / 2) &&& 6148914691236517205 = u at *
  generalize a &&& 6148914691236517205 = v at *
  rw [wu64' (by omega) (by omega)]
  omega
theorem stepY (Z : Nat) (hZ : Z ≤ 12297829382473034410) : IntKind.u64.wrap ((Go.bits .and .u64 ((Z : Int) / 4) 3689348814741910323) + (Go.bits .and .u64 (Z : Int) 3689348814741910323)) = ((s2 3689348814741910323 Z : Nat) : Int) ∧ s2 3689348814741910323 Z ≤ 7378697629483820646 := by
  have z1 : (Z / 4) &&& 3689348814741910323 ≤ 3689348814741910323 := Nat.and_le_right
  have z2 : Z &&& 3689348814741910323 ≤ 3689348814741910323 := Nat.and_le_right
  rw [and_lit (Z / 4) 3689348814741910323 (by omega) (by omega) ((Z : Int) / 4) (by omega) (3689348814741910323 : Int) rfl, and_lit Z 3689348814741910323 (by omega) (by omega) (Z : Int) rfl (3689348814741910323 : Int) rfl]
  unfold s2
  generalize (Z / 4) &&& 3689348814741910323 = u at *
  generalize Z &&& 3689348814741910323 = v at *
  rw [wu64' (by omega) (by omega)]
  omega
theorem stepX (Y : Nat) (hY : Y ≤ 7378697629483820646) : Go.bits .and .u64 (IntKind.u64.wrap ((Y : Int) / 16 + (Y : Int))) 1085102592571150095 = ((s4 1085102592571150095 Y : Nat) : Int) := by
  rw [wu64' (by omega) (by omega), and_lit (Y / 16 + Y) 1085102592571150095 (by omega) (by omega) ((Y : Int) / 16 + (Y : Int)) (by omega) (1085102592571150095 : Int) rfl]
  rfl
theorem stepS (X X1 X2 X3 : Nat) (_ : X < 600000000000000000) (b1 : X1 < 1200000000000000000) (b2 : X2 < 2400000000000000000) (b3 : X3 < 4800000000000000000) (e1 : X1 = X + X / 256) (e2 : X2 = X1 + X1 / 65536) (e3 : X3 = X2 + X2 / 4294967296) :
    IntKind.u64.wrap ((X : Int) + (X : Int) / 256) = (X1 : Int) ∧ IntKind.u64.wrap ((X1 : Int) + (X1 : Int) / 65536) = (X2 : Int) ∧ IntKind.u64.wrap ((X2 : Int) + (X2 : Int) / 4294967296) = (X3 : Int) ∧ Go.bits .and .i64 (wrap64 (X3 : Int)) 127 = ((X3 % 128 : Nat) : Int) := by
  refine ⟨?_, ?_, ?_, ?_⟩
  · clear e2 e3; rw [wu64' (by omega) (by omega)]; omega
  · clear e1 e3; rw [wu64' (by omega) (by omega)]; omega
  · clear e1 e2; rw [wu64' (by omega) (by omega)]; omega
  · clear e1 e2 e3
    rw [w64 (by omega) (by omega)]
    have hm : Go.bits .and .i64 (X3 : Int) 127 = (X3 : Int) % 128 := bits_mask .i64 63 (by decide) (fun n h0 h1 => by rw [IntKind.wrap_i64]; omega) 7 (by decide) (X3 : Int) (by omega) (by omega)
    rw [hm]; omega
theorem sum8 (a X : Nat) (h : X = sumB 8 a) : (X + X / 256 + (X + X / 256) / 65536 + (X + X / 256 + (X + X / 256) / 65536) / 4294967296) % 128 = tot 8 a ∧ X < 600000000000000000 ∧ X + X / 256 < 1200000000000000000 ∧ X + X / 256 + (X + X / 256) / 65536 < 2400000000000000000 ∧ X + X / 256 + (X + X / 256) / 65536 + (X + X / 256 + (X + X / 256) / 65536) / 4294967296 < 4800000000000000000 := by
  have q : ∀ b, pop8 (b % 256) ≤ 8 := fun b => pop_le _ (by omega)
  simp only [sumB] at h
  have F := fold8 _ _ _ _ _ _ _ _ X _ _ _ (q a) (q (a / 256)) (q (a / 256 / 256)) (q (a / 256 / 256 / 256)) (q (a / 256 / 256 / 256 / 256)) (q (a / 256 / 256 / 256 / 256 / 256)) (q (a / 256 / 256 / 256 / 256 / 256 / 256)) (q (a / 256 / 256 / 256 / 256 / 256 / 256 / 256)) h rfl rfl rfl
  refine ⟨F.1.trans ?_, F.2⟩
  simp only [tot, Nat.zero_add]
  ac_rfl
theorem ones_eq (a : Nat) (ha : a < 18446744073709551616) : bits_OnesCount64.f (a : Int) = some ((cntB a 0 64 : Nat) : Int) := by
  have h3 := (three 8 a (by omega)).1
  rw [show M 85 8 = 6148914691236517205 by decide +kernel, show M 51 8 = 3689348814741910323 by decide +kernel, show M 15 8 = 1085102592571150095 by decide +kernel] at h3
  obtain ⟨eZ, hZ⟩ := stepZ a ha
  generalize s1 6148914691236517205 a = Z at h3 eZ hZ
  obtain ⟨eY, hY⟩ := stepY Z hZ
  generalize s2 3689348814741910323 Z = Y at h3 eY hY
  have eX := stepX Y hY
  generalize s4 1085102592571150095 Y = X at h3 eX
  obtain ⟨t, b, b1, b2, b3⟩ := sum8 a X h3
  obtain ⟨g1, g2, g3, g4⟩ := stepS X _ _ _ b b1 b2 b3 rfl rfl rfl
  rw [t, ← cnt_tot 8 a] at g4
  unfold bits_OnesCount64.f
  rw [eZ, eY, eX, g1, g2, g3, g4]

end Go.Proofs.YthphncefbahcaaaDoor.PuBitsCountT
