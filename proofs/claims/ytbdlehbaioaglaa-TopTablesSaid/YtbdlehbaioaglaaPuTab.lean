/- What the functions of package ephem come to: a table that is laid right, its keys, and what finds, lays, deletes them. -/
import Derived.Test.YtbdlehbaioaglaaGTx11
import Derived.Test.YtbdlehbaioaglaaGTx11
import Derived.Test.YtbdlehbaioaglaaGTx12
import Derived.Test.YtbdlehbaioaglaaPu
namespace Go.Proofs.Ytbdlehbaioaglaa.PuTab
open Go.RowKit Go.Proofs.YtbdlehbaioaglaaW.PrintWords Go.Proofs.YtbdlehbaioaglaaW.PrintLast Go.Proofs.YtbdlehbaioaglaaW.PrintMore Go.Proofs.Ytbdlehbaioaglaa.GT Go.Proofs.Ytbdlehbaioaglaa.Pu

abbrev Sl := S105
abbrev zs : Sl := z105
/-- The slot at j. -/
def at_ (T : List Sl) (j : Nat) : Sl := T.getD j zs
theorem rdT (T : List Sl) (j : Nat) : rd_T105 T (j : Int) = at_ T j := by simp [rd_T105, at_]
theorem at_set (T : List Sl) (j i : Nat) (x : Sl) (hj : j < T.length) : at_ (T.set j x) i = if j = i then x else at_ T i := by
  unfold at_
  rw [List.getD_eq_getElem?_getD, List.getD_eq_getElem?_getD, List.getElem?_set]
  by_cases e : j = i
  · subst e; simp [hj]
  · simp [e]
theorem split_at (T : List Sl) (j : Nat) (hj : j < T.length) : T = T.take j ++ at_ T j :: T.drop (j + 1) := by
  have h : at_ T j = T[j] := by simp [at_, List.getD_eq_getElem?_getD, hj]
  rw [h, ← List.drop_eq_getElem_cons hj, List.take_append_drop]
theorem split_set (T : List Sl) (j : Nat) (x : Sl) (hj : j < T.length) : T.set j x = T.take j ++ x :: T.drop (j + 1) := by
  rw [List.set_eq_take_append_cons_drop, if_pos hj]
theorem drop_at {T : List Sl} {i : Nat} (h : i < T.length) : T.drop i = at_ T i :: T.drop (i + 1) := by
  have e : at_ T i = T[i] := by simp [at_, List.getD_eq_getElem?_getD, h]
  rw [e, ← List.drop_eq_getElem_cons h]

/-- The keys that are there. -/
def U : List Sl → List Int
  | [] => []
  | x :: r => if x.f0 = 1 then x.f1 :: U r else U r
/-- How many slots are of a state. -/
def cnt (a : Int) : List Sl → Nat
  | [] => 0
  | x :: r => (if x.f0 = a then 1 else 0) + cnt a r
theorem U_app : ∀ (a b : List Sl), U (a ++ b) = U a ++ U b
  | [], _ => rfl
  | x :: r, b => by
    rw [List.cons_append, U, U, U_app r b]
    by_cases h : x.f0 = 1
    · rw [if_pos h, if_pos h]; rfl
    · rw [if_neg h, if_neg h]
theorem cnt_app (s : Int) : ∀ (a b : List Sl), cnt s (a ++ b) = cnt s a + cnt s b
  | [], _ => by simp [cnt]
  | x :: r, b => by rw [List.cons_append, cnt, cnt, cnt_app s r b]; omega
theorem cnt_U : ∀ T : List Sl, cnt 1 T = (U T).length
  | [] => rfl
  | x :: r => by
    rw [cnt, U, cnt_U r]
    by_cases h : x.f0 = 1
    · rw [if_pos h, if_pos h, List.length_cons]; omega
    · rw [if_neg h, if_neg h]; omega
theorem cnt_le (s : Int) : ∀ T : List Sl, cnt s T ≤ T.length
  | [] => Nat.le_refl _
  | x :: r => by have := cnt_le s r; rw [cnt, List.length_cons]; split <;> omega
theorem U_rep (n : Nat) : U (List.replicate n zs) = [] := by
  induction n with
  | zero => rfl
  | succ n ih => rw [List.replicate_succ, U, if_neg (by decide), ih]
theorem cnt_rep (n : Nat) : cnt 0 (List.replicate n zs) = n := by
  induction n with
  | zero => rfl
  | succ n ih => rw [List.replicate_succ, cnt, if_pos (by decide), ih]; omega
theorem mem_U {T : List Sl} {x : Int} : x ∈ U T ↔ ∃ j, j < T.length ∧ (at_ T j).f0 = 1 ∧ (at_ T j).f1 = x := by
  induction T with
  | nil => simp [U]
  | cons y r ih =>
    constructor
    · intro h
      by_cases c : y.f0 = 1
      · rw [U, if_pos c] at h
        rcases List.mem_cons.1 h with e | h
        · exact ⟨0, by simp, c, e.symm⟩
        · obtain ⟨j, h0, h1, h2⟩ := ih.1 h
          exact ⟨j + 1, by simpa using h0, h1, h2⟩
      · rw [U, if_neg c] at h
        obtain ⟨j, h0, h1, h2⟩ := ih.1 h
        exact ⟨j + 1, by simpa using h0, h1, h2⟩
    · rintro ⟨j, h0, h1, h2⟩
      cases j with
      | zero =>
        have c : y.f0 = 1 := h1
        rw [U, if_pos c, show x = y.f1 from h2.symm]; simp
      | succ j =>
        have := ih.2 ⟨j, by simpa using h0, h1, h2⟩
        rw [U]; split
        · exact List.mem_cons_of_mem _ this
        · exact this
theorem U_add (T : List Sl) (j : Nat) (hj : j < T.length) (h : (at_ T j).f0 ≠ 1) (k v : Int) : (U (T.set j ⟨1, k, v⟩)).Perm (k :: U T) := by
  have e : U T = U (T.take j) ++ U (T.drop (j + 1)) := by
    have h2 := congrArg U (split_at T j hj)
    rw [U_app, U, if_neg h] at h2; exact h2
  rw [split_set T j _ hj, U_app, U, if_pos rfl, e]
  exact List.perm_middle
theorem U_same (T : List Sl) (j : Nat) (hj : j < T.length) (k v : Int) (h : (at_ T j).f0 = 1) (hk : (at_ T j).f1 = k) : U (T.set j ⟨1, k, v⟩) = U T := by
  have e := congrArg U (split_at T j hj)
  rw [U_app, U, if_pos h, hk] at e
  rw [split_set T j _ hj, U_app, U, if_pos rfl, e]
theorem U_del (T : List Sl) (j : Nat) (hj : j < T.length) (k : Int) (h : (at_ T j).f0 = 1) (hk : (at_ T j).f1 = k) : (U T).Perm (k :: U (T.set j ⟨2, 0, 0⟩)) := by
  have e := congrArg U (split_at T j hj)
  rw [U_app, U, if_pos h, hk] at e
  rw [split_set T j _ hj, U_app, U, if_neg (by decide), e]
  exact List.perm_middle
theorem cnt_set (s : Int) (T : List Sl) (j : Nat) (hj : j < T.length) (x : Sl) : cnt s (T.set j x) + (if (at_ T j).f0 = s then 1 else 0) = cnt s T + (if x.f0 = s then 1 else 0) := by
  have e := congrArg (cnt s) (split_at T j hj)
  rw [cnt_app, cnt] at e
  rw [split_set T j _ hj, cnt_app, cnt, e]; omega
theorem cnt_pos {s : Int} : ∀ {T : List Sl}, 0 < cnt s T → ∃ j, j < T.length ∧ (at_ T j).f0 = s
  | [], h => absurd h (by simp [cnt])
  | x :: r, h => by
    by_cases c : x.f0 = s
    · exact ⟨0, by simp, c⟩
    · rw [cnt, if_neg c] at h
      obtain ⟨j, h0, h1⟩ := cnt_pos (s := s) (T := r) (by omega)
      exact ⟨j + 1, by simpa using h0, h1⟩

/-! ### Where a key would stand -/
def Sz (n : Nat) : Prop := n = 8 ∨ n = 16 ∨ n = 32 ∨ n = 64
def hm (key : Int) (n : Nat) : Nat := match ephem_home.f key (n : Int) with | some x => x.toNat | none => 0
theorem shr_lt (x : Int) (s m : Nat) (hs : s ≤ 64) (hx : 0 ≤ x) (hlt : x < (2 ^ s * m : Nat)) : 0 ≤ shr .u64 x (s : Int) ∧ shr .u64 x (s : Int) < m := by
  obtain ⟨a, rfl⟩ : ∃ a : Nat, x = (a : Int) := ⟨x.toNat, by omega⟩
  unfold shr
  rw [Int.toNat_natCast, Nat.min_eq_left (by simpa [IntKind.bits] using hs)]
  have h1 : a < 2 ^ s * m := by exact_mod_cast hlt
  have h2 := Nat.div_lt_of_lt_mul h1
  have e : (a : Int) / (2 : Int) ^ s = ((a / 2 ^ s : Nat) : Int) := by simp
  rw [e]; exact ⟨Int.natCast_nonneg _, Int.ofNat_lt.2 h2⟩
theorem home_some (key : Int) (n : Nat) (hn : Sz n) : ∃ h : Nat, h < n ∧ ephem_home.f key (n : Int) = some (h : Int) := by
  have hx := wu64 (key * 11400714819323198485)
  have h0 : 0 ≤ IntKind.u64.wrap (key * 11400714819323198485) := by rw [hx]; omega
  have h1 : IntKind.u64.wrap (key * 11400714819323198485) < 18446744073709551616 := by rw [hx]; omega
  have go : ∀ (m s : Nat), s ≤ 58 + 3 → 2 ^ s * m = 18446744073709551616 → m ≤ 64 → ∃ h : Nat, h < m ∧ some (wrap64 (shr .u64 (IntKind.u64.wrap (key * 11400714819323198485)) (s : Int))) = some (h : Int) := by
    intro m s hs hm hle
    obtain ⟨p0, p1⟩ := shr_lt _ s m (by omega) h0 (by rw [hm]; omega)
    refine ⟨(shr .u64 (IntKind.u64.wrap (key * 11400714819323198485)) (s : Int)).toNat, by omega, ?_⟩
    rw [w64 (by omega) (by omega)]
    congr 1; omega
  rcases hn with rfl | rfl | rfl | rfl
  · have e : bits_Len.f (IntKind.u64.wrap ((8 : Nat) : Int)) = some 4 := by decide +kernel
    have e2 : ephem_home.f key ((8 : Nat) : Int) = some (wrap64 (shr .u64 (IntKind.u64.wrap (key * 11400714819323198485)) ((61 : Nat) : Int))) := by unfold ephem_home.f; rw [e, Option.bind_some, show wrap64 (65 - 4) = ((61 : Nat) : Int) by decide +kernel, if_pos (by decide)]
    rw [e2]; exact go 8 61 (by omega) (by decide) (by omega)
  · have e : bits_Len.f (IntKind.u64.wrap ((16 : Nat) : Int)) = some 5 := by decide +kernel
    have e2 : ephem_home.f key ((16 : Nat) : Int) = some (wrap64 (shr .u64 (IntKind.u64.wrap (key * 11400714819323198485)) ((60 : Nat) : Int))) := by unfold ephem_home.f; rw [e, Option.bind_some, show wrap64 (65 - 5) = ((60 : Nat) : Int) by decide +kernel, if_pos (by decide)]
    rw [e2]; exact go 16 60 (by omega) (by decide) (by omega)
  · have e : bits_Len.f (IntKind.u64.wrap ((32 : Nat) : Int)) = some 6 := by decide +kernel
    have e2 : ephem_home.f key ((32 : Nat) : Int) = some (wrap64 (shr .u64 (IntKind.u64.wrap (key * 11400714819323198485)) ((59 : Nat) : Int))) := by unfold ephem_home.f; rw [e, Option.bind_some, show wrap64 (65 - 6) = ((59 : Nat) : Int) by decide +kernel, if_pos (by decide)]
    rw [e2]; exact go 32 59 (by omega) (by decide) (by omega)
  · have e : bits_Len.f (IntKind.u64.wrap ((64 : Nat) : Int)) = some 7 := by decide +kernel
    have e2 : ephem_home.f key ((64 : Nat) : Int) = some (wrap64 (shr .u64 (IntKind.u64.wrap (key * 11400714819323198485)) ((58 : Nat) : Int))) := by unfold ephem_home.f; rw [e, Option.bind_some, show wrap64 (65 - 7) = ((58 : Nat) : Int) by decide +kernel, if_pos (by decide)]
    rw [e2]; exact go 64 58 (by omega) (by decide) (by omega)
theorem hm_eq (key : Int) (n : Nat) (hn : Sz n) : ephem_home.f key (n : Int) = some (hm key n : Int) ∧ hm key n < n := by
  obtain ⟨h, h0, h1⟩ := home_some key n hn
  have e : hm key n = h := by unfold hm; rw [h1]; simp
  rw [e]; exact ⟨h1, h0⟩
theorem Sz.pos {n : Nat} (h : Sz n) : 8 ≤ n ∧ n ≤ 64 := by unfold Sz at h; omega

/-! ### A table that is laid right -/
/-- The e-th slot that is looked at. -/
def pos (n h e : Nat) : Nat := (h + e) % n
structure Ok (T : List Sl) : Prop where
  size : Sz T.length
  each : ∀ j, j < T.length → (((at_ T j).f0 = 0 ∨ (at_ T j).f0 = 2) ∧ (at_ T j).f1 = 0 ∧ (at_ T j).f2 = 0) ∨ ((at_ T j).f0 = 1 ∧ (at_ T j).f1 ≠ 0 ∧ ∃ d, pos T.length (hm (at_ T j).f1 T.length) d = j ∧ ∀ e, e < d → (at_ T (pos T.length (hm (at_ T j).f1 T.length) e)).f0 ≠ 0)
  uniq : ∀ i j, i < T.length → j < T.length → (at_ T i).f0 = 1 → (at_ T j).f0 = 1 → (at_ T i).f1 = (at_ T j).f1 → i = j
theorem pos_lt {n h e : Nat} (hn : 0 < n) : pos n h e < n := Nat.mod_lt _ hn
theorem pos_next (n h e : Nat) : (pos n h e + 1) % n = pos n h (e + 1) := by unfold pos; rw [Nat.mod_add_mod]; rfl
theorem pos_to {n h f : Nat} (hh : h < n) (hf : f < n) : ∃ e, pos n h e = f := by
  by_cases c : h ≤ f
  · exact ⟨f - h, by unfold pos; rw [show h + (f - h) = f by omega]; exact Nat.mod_eq_of_lt hf⟩
  · exact ⟨f + n - h, by unfold pos; rw [show h + (f + n - h) = f + n by omega, Nat.add_mod_right]; exact Nat.mod_eq_of_lt hf⟩
theorem least (P : Nat → Prop) : ∀ N, P N → ∃ d, d ≤ N ∧ P d ∧ ∀ e, e < d → ¬ P e := by
  intro N
  induction N using Nat.strongRecOn with
  | ind N ih =>
    intro h
    by_cases c : ∃ e, e < N ∧ P e
    · obtain ⟨e, h0, h1⟩ := c
      obtain ⟨d, d0, d1, d2⟩ := ih e h0 h1
      exact ⟨d, by omega, d1, d2⟩
    · exact ⟨N, Nat.le_refl _, h, fun e he hp => c ⟨e, he, hp⟩⟩
theorem zero_not {T : List Sl} (h : Ok T) : (0 : Int) ∉ U T := fun hm_ => by
  obtain ⟨j, h0, h1, h2⟩ := mem_U.1 hm_
  rcases h.each j h0 with ⟨h3, _⟩ | ⟨_, h3, _⟩
  · omega
  · exact h3 h2

/-- Not yet: the slot is neither free nor the key's. -/
def On (T : List Sl) (key : Int) (j : Nat) : Prop := (at_ T j).f0 ≠ 0 ∧ ¬ ((at_ T j).f0 = 1 ∧ (at_ T j).f1 = key)
theorem step_l {T : List Sl} (key : Int) (hs : Sz T.length) (g : Int) (j : Nat) (hj : j < T.length) (hon : On T key j) {r : Int × Bool}
    (h : Ev (fun k => ephem_table_find.l0 k T key (T.length : Int) (if (at_ T j).f0 = 2 ∧ g < 0 then (j : Int) else g) (((j + 1) % T.length : Nat) : Int)) r) :
    Ev (fun k => ephem_table_find.l0 k T key (T.length : Int) g (j : Int)) r := by
  obtain ⟨s8, s64⟩ := hs.pos
  have hw : wrap64 ((j : Int) + 1) = ((j + 1 : Nat) : Int) := by rw [w64 (by omega) (by omega)]; rfl
  have ht : Int.tmod (((j + 1 : Nat)) : Int) (T.length : Int) = (((j + 1) % T.length : Nat) : Int) := rfl
  have hn : ¬ ((T.length : Int) = 0) := by omega
  obtain ⟨h0, h1⟩ := hon
  refine ev_succ (f := fun k => ephem_table_find.j1 k T key (T.length : Int) g (j : Int) (if (at_ T j).f0 = 1 then ((at_ T j).f1 == key) else false) ((at_ T j).f0) ((at_ T j).f1) ((at_ T j).f2)) (fun k => ?_) ?_
  · simp only [ephem_table_find.l0, rdT]
    rw [if_pos (by omega), if_pos (by omega), if_neg h0]
    by_cases c : (at_ T j).f0 = 1
    · rw [if_pos c, if_pos c]
    · rw [if_neg c, if_neg c]
  · refine ev_succ (f := fun k => ephem_table_find.l0 k T key (T.length : Int) (if (at_ T j).f0 = 2 ∧ g < 0 then (j : Int) else g) (((j + 1) % T.length : Nat) : Int)) (fun k => ?_) h
    have hb : (if (at_ T j).f0 = 1 then ((at_ T j).f1 == key) else false) = false := by
      by_cases c : (at_ T j).f0 = 1
      · rw [if_pos c]; exact beq_eq_false_iff_ne.mpr (fun e => h1 ⟨c, e⟩)
      · rw [if_neg c]
    simp only [ephem_table_find.j1, hb, Bool.false_eq_true, if_false]
    by_cases c2 : (at_ T j).f0 = 2
    · rw [if_pos c2]
      by_cases c3 : g < 0
      · rw [if_pos c3, if_neg hn, if_pos ⟨c2, c3⟩, hw, ht]
      · rw [if_neg c3, if_neg hn, if_neg (fun h => c3 h.2), hw, ht]
    · rw [if_neg c2, if_neg hn, if_neg (fun h => c2 h.1), hw, ht]
theorem used_l {T : List Sl} (key : Int) (g : Int) (j : Nat) (hj : j < T.length) (h1 : (at_ T j).f0 = 1) (h2 : (at_ T j).f1 = key) : Ev (fun k => ephem_table_find.l0 k T key (T.length : Int) g (j : Int)) ((j : Int), true) := by
  refine ev_succ (f := fun k => ephem_table_find.j1 k T key (T.length : Int) g (j : Int) true ((at_ T j).f0) ((at_ T j).f1) ((at_ T j).f2)) (fun k => ?_) ?_
  · simp only [ephem_table_find.l0, rdT]
    rw [if_pos (by omega), if_pos (by omega), if_neg (by omega), if_pos h1, h2, show (key == key) = true from beq_iff_eq.mpr rfl]
  · refine ev_succ (f := fun _ => some ((j : Int), true)) (fun k => ?_) (Ev.now _)
    simp only [ephem_table_find.j1, if_true]
theorem free_l {T : List Sl} (key : Int) (g : Int) (j : Nat) (hj : j < T.length) (h1 : (at_ T j).f0 = 0) : Ev (fun k => ephem_table_find.l0 k T key (T.length : Int) g (j : Int)) (if g ≥ 0 then g else (j : Int), false) := by
  refine ev_succ (f := fun _ => some (if g ≥ 0 then g else (j : Int), false)) (fun k => ?_) (Ev.now _)
  simp only [ephem_table_find.l0, rdT]
  rw [if_pos (by omega), if_pos (by omega), if_pos h1]
  by_cases c : g ≥ 0
  · rw [if_pos c, if_pos c]
  · rw [if_neg c, if_neg c]
theorem walk_used {T : List Sl} (key : Int) (hs : Sz T.length) (h d : Nat) (hon : ∀ e, e < d → On T key (pos T.length h e)) (h1 : (at_ T (pos T.length h d)).f0 = 1) (h2 : (at_ T (pos T.length h d)).f1 = key) :
    ∀ (m e : Nat) (g : Int), e + m = d → Ev (fun k => ephem_table_find.l0 k T key (T.length : Int) g (pos T.length h e : Int)) ((pos T.length h d : Int), true) := by
  have hp : 0 < T.length := by have := hs.pos; omega
  intro m
  induction m with
  | zero => intro e g he; obtain rfl : e = d := by omega
            exact used_l key g _ (pos_lt hp) h1 h2
  | succ m ih =>
    intro e g he
    refine step_l key hs g _ (pos_lt hp) (hon e (by omega)) ?_
    rw [pos_next]; exact ih (e + 1) _ (by omega)
/-- What a search that ends at the d-th may tell. -/
def Spot (T : List Sl) (h d j : Nat) : Prop := ∃ e, e ≤ d ∧ j = pos T.length h e ∧ ((at_ T j).f0 = 0 ∨ (at_ T j).f0 = 2)
theorem walk_free {T : List Sl} (key : Int) (hs : Sz T.length) (h d : Nat) (hon : ∀ e, e < d → On T key (pos T.length h e)) (h1 : (at_ T (pos T.length h d)).f0 = 0) :
    ∀ (m e : Nat) (g : Int), e + m = d → (g = -1 ∨ ∃ j : Nat, g = (j : Int) ∧ Spot T h d j) → ∃ j : Nat, Spot T h d j ∧ Ev (fun k => ephem_table_find.l0 k T key (T.length : Int) g (pos T.length h e : Int)) ((j : Int), false) := by
  have hp : 0 < T.length := by have := hs.pos; omega
  intro m
  induction m with
  | zero =>
    intro e g he hg; obtain rfl : e = d := by omega
    have := free_l key g _ (pos_lt hp) h1
    rcases hg with rfl | ⟨j, rfl, hj⟩
    · exact ⟨_, ⟨e, Nat.le_refl _, rfl, .inl h1⟩, this⟩
    · rw [if_pos (by omega)] at this
      exact ⟨j, hj, this⟩
  | succ m ih =>
    intro e g he hg
    have hs2 : (if (at_ T (pos T.length h e)).f0 = 2 ∧ g < 0 then ((pos T.length h e : Nat) : Int) else g) = -1 ∨ ∃ j : Nat, (if (at_ T (pos T.length h e)).f0 = 2 ∧ g < 0 then ((pos T.length h e : Nat) : Int) else g) = (j : Int) ∧ Spot T h d j := by
      by_cases c : (at_ T (pos T.length h e)).f0 = 2 ∧ g < 0
      · rw [if_pos c]; exact .inr ⟨_, rfl, e, by omega, rfl, .inr c.1⟩
      · rw [if_neg c]; exact hg
    obtain ⟨j, h2, h3⟩ := ih (e + 1) _ (by omega) hs2
    refine ⟨j, h2, ?_⟩
    refine step_l key hs g _ (pos_lt hp) (hon e (by omega)) ?_
    rw [pos_next]; exact h3

theorem find_f {T : List Sl} (key : Int) (hs : Sz T.length) {r : Int × Bool} (h : Ev (fun k => ephem_table_find.l0 k T key (T.length : Int) (-1) (pos T.length (hm key T.length) 0 : Int)) r) : Ev (fun k => ephem_table_find.f k T key) r := by
  obtain ⟨h0, h1⟩ := hm_eq key T.length hs
  have hn : ¬ ((T.length : Int) = 0) := by have := hs.pos; omega
  unfold ephem_table_find.f
  simp only [if_neg hn, h0, Option.bind_some]
  have : pos T.length (hm key T.length) 0 = hm key T.length := Nat.mod_eq_of_lt h1
  rw [this] at h; exact h
theorem find_has {T : List Sl} (h : Ok T) {j : Nat} (hj : j < T.length) (h1 : (at_ T j).f0 = 1) : Ev (fun k => ephem_table_find.f k T (at_ T j).f1) ((j : Int), true) := by
  have hp : 0 < T.length := by have := h.size.pos; omega
  obtain ⟨d, hd, hpath⟩ : ∃ d, pos T.length (hm (at_ T j).f1 T.length) d = j ∧ ∀ e, e < d → (at_ T (pos T.length (hm (at_ T j).f1 T.length) e)).f0 ≠ 0 := by
    rcases h.each j hj with ⟨h2, _⟩ | ⟨_, _, h2⟩
    · omega
    · exact h2
  obtain ⟨d2, hle, hd2, hmin⟩ := least (fun e => ¬ On T (at_ T j).f1 (pos T.length (hm (at_ T j).f1 T.length) e)) d (fun ho => ho.2 ⟨by rw [hd]; exact h1, by rw [hd]⟩)
  have hnf : (at_ T (pos T.length (hm (at_ T j).f1 T.length) d2)).f0 ≠ 0 := by
    by_cases c : d2 = d
    · rw [c, hd]; omega
    · exact hpath d2 (by omega)
  have hu : (at_ T (pos T.length (hm (at_ T j).f1 T.length) d2)).f0 = 1 ∧ (at_ T (pos T.length (hm (at_ T j).f1 T.length) d2)).f1 = (at_ T j).f1 := Classical.byContradiction fun hc => hd2 ⟨hnf, hc⟩
  have hj2 := h.uniq _ j (pos_lt hp) hj hu.1 h1 hu.2
  have := walk_used (at_ T j).f1 h.size (hm (at_ T j).f1 T.length) d2 (fun e he => Classical.byContradiction (hmin e he)) hu.1 hu.2 d2 0 (-1) (by omega)
  rw [hj2] at this
  exact find_f _ h.size this
/-- A slot where the key may be laid. -/
def Room (T : List Sl) (key : Int) (j : Nat) : Prop := j < T.length ∧ ((at_ T j).f0 = 0 ∨ (at_ T j).f0 = 2) ∧ ∃ d, pos T.length (hm key T.length) d = j ∧ ∀ e, e < d → (at_ T (pos T.length (hm key T.length) e)).f0 ≠ 0
theorem find_no {T : List Sl} (h : Ok T) (hf : 0 < cnt 0 T) {key : Int} (hk : key ∉ U T) : ∃ j : Nat, Room T key j ∧ Ev (fun k => ephem_table_find.f k T key) ((j : Int), false) := by
  have hp : 0 < T.length := by have := h.size.pos; omega
  obtain ⟨f, f0, f1⟩ := cnt_pos hf
  obtain ⟨e0, he0⟩ := pos_to (hm_eq key T.length h.size).2 f0
  obtain ⟨d, _, hd, hmin⟩ := least (fun e => ¬ On T key (pos T.length (hm key T.length) e)) e0 (fun ho => ho.1 (by rw [he0]; exact f1))
  have hnu : ¬ ((at_ T (pos T.length (hm key T.length) d)).f0 = 1 ∧ (at_ T (pos T.length (hm key T.length) d)).f1 = key) := fun hc => hk (mem_U.2 ⟨_, pos_lt hp, hc.1, hc.2⟩)
  have hfr : (at_ T (pos T.length (hm key T.length) d)).f0 = 0 := Classical.byContradiction fun hc => hd ⟨hc, hnu⟩
  have hon : ∀ e, e < d → On T key (pos T.length (hm key T.length) e) := fun e he => Classical.byContradiction (hmin e he)
  obtain ⟨j, ⟨e, e1, e2, e3⟩, hj⟩ := walk_free key h.size (hm key T.length) d hon hfr d 0 (-1) (by omega) (.inl rfl)
  exact ⟨j, ⟨by rw [e2]; exact pos_lt hp, e3, e, e2.symm, fun i hi => (hon i (by omega)).1⟩, find_f _ h.size hj⟩

/-! ### Laying and deleting keep it right -/
theorem Ok.lay {T : List Sl} (h : Ok T) {key val : Int} (hk : key ≠ 0) (hn : key ∉ U T) {j : Nat} (hr : Room T key j) : Ok (T.set j ⟨1, key, val⟩) := by
  obtain ⟨hj, h0, d, hd, hpath⟩ := hr
  have keep : ∀ i, (at_ T i).f0 ≠ 0 → (at_ (T.set j ⟨1, key, val⟩) i).f0 ≠ 0 := fun i hi => by
    rw [at_set T j i _ hj]
    by_cases c : j = i
    · rw [if_pos c]; exact (by decide : (1 : Int) ≠ 0)
    · rw [if_neg c]; exact hi
  refine ⟨by rw [List.length_set]; exact h.size, ?_, ?_⟩
  · intro i hi
    rw [List.length_set] at hi ⊢
    by_cases c : j = i
    · subst c
      have e : at_ (T.set j ⟨1, key, val⟩) j = ⟨1, key, val⟩ := by rw [at_set T j j _ hj, if_pos rfl]
      rw [e]
      exact .inr ⟨rfl, hk, d, hd, fun q hq => keep _ (hpath q hq)⟩
    · have e : at_ (T.set j ⟨1, key, val⟩) i = at_ T i := by rw [at_set T j i _ hj, if_neg c]
      rw [e]
      rcases h.each i hi with h2 | ⟨h2, h3, d2, h4, h5⟩
      · exact .inl h2
      · exact .inr ⟨h2, h3, d2, h4, fun q hq => keep _ (h5 q hq)⟩
  · intro a b ha hb
    rw [List.length_set] at ha hb
    rw [at_set T j a _ hj, at_set T j b _ hj]
    by_cases ca : j = a <;> by_cases cb : j = b
    · intro _ _ _; omega
    · rw [if_pos ca, if_neg cb]; intro _ h2 h3; exact absurd (mem_U.2 ⟨b, hb, h2, h3.symm⟩) hn
    · rw [if_neg ca, if_pos cb]; intro h2 _ h3; exact absurd (mem_U.2 ⟨a, ha, h2, h3⟩) hn
    · rw [if_neg ca, if_neg cb]; exact h.uniq a b ha hb
theorem Ok.again {T : List Sl} (h : Ok T) {val : Int} {j : Nat} (hj : j < T.length) (h1 : (at_ T j).f0 = 1) : Ok (T.set j ⟨1, (at_ T j).f1, val⟩) := by
  have st : ∀ i, (at_ (T.set j ⟨1, (at_ T j).f1, val⟩) i).f0 = (at_ T i).f0 ∧ (at_ (T.set j ⟨1, (at_ T j).f1, val⟩) i).f1 = (at_ T i).f1 := fun i => by
    rw [at_set T j i _ hj]
    by_cases c : j = i
    · rw [if_pos c, ← c]; exact ⟨h1.symm, rfl⟩
    · rw [if_neg c]; exact ⟨rfl, rfl⟩
  refine ⟨by rw [List.length_set]; exact h.size, ?_, ?_⟩
  · intro i hi
    rw [List.length_set] at hi ⊢
    rw [(st i).1, (st i).2]
    rcases h.each i hi with ⟨h2, h3, h4⟩ | ⟨h2, h3, d2, h4, h5⟩
    · refine .inl ⟨h2, h3, ?_⟩
      rw [at_set T j i _ hj, if_neg (fun e => by rw [e] at h1; omega)]; exact h4
    · exact .inr ⟨h2, h3, d2, h4, fun q hq => by rw [(st _).1]; exact h5 q hq⟩
  · intro a b ha hb
    rw [List.length_set] at ha hb
    rw [(st a).1, (st a).2, (st b).1, (st b).2]
    exact h.uniq a b ha hb
theorem Ok.del {T : List Sl} (h : Ok T) {j : Nat} (hj : j < T.length) : Ok (T.set j ⟨2, 0, 0⟩) := by
  have keep : ∀ i, (at_ T i).f0 ≠ 0 → (at_ (T.set j ⟨2, 0, 0⟩) i).f0 ≠ 0 := fun i hi => by
    rw [at_set T j i _ hj]
    by_cases c : j = i
    · rw [if_pos c]; exact (by decide : (2 : Int) ≠ 0)
    · rw [if_neg c]; exact hi
  refine ⟨by rw [List.length_set]; exact h.size, ?_, ?_⟩
  · intro i hi
    rw [List.length_set] at hi ⊢
    by_cases c : j = i
    · have e : at_ (T.set j ⟨2, 0, 0⟩) i = ⟨2, 0, 0⟩ := by rw [at_set T j i _ hj, if_pos c]
      rw [e]
      exact .inl ⟨.inr rfl, rfl, rfl⟩
    · have e : at_ (T.set j ⟨2, 0, 0⟩) i = at_ T i := by rw [at_set T j i _ hj, if_neg c]
      rw [e]
      rcases h.each i hi with h2 | ⟨h2, h3, d2, h4, h5⟩
      · exact .inl h2
      · exact .inr ⟨h2, h3, d2, h4, fun q hq => keep _ (h5 q hq)⟩
  · intro a b ha hb
    rw [List.length_set] at ha hb
    rw [at_set T j a _ hj, at_set T j b _ hj]
    by_cases ca : j = a
    · rw [if_pos ca]; intro h2; exact absurd h2 (by decide)
    · by_cases cb : j = b
      · rw [if_pos cb]; intro _ h2; exact absurd h2 (by decide)
      · rw [if_neg ca, if_neg cb]; exact h.uniq a b ha hb
theorem Ok.fresh {n : Nat} (hn : Sz n) : Ok (List.replicate n zs) := by
  have e : ∀ j, at_ (List.replicate n zs) j = zs := fun j => by
    unfold at_; rw [List.getD_eq_getElem?_getD, List.getElem?_replicate]; split <;> rfl
  refine ⟨by rw [List.length_replicate]; exact hn, fun j _ => .inl (by rw [e]; exact ⟨.inl rfl, rfl, rfl⟩), fun a b _ _ h => by rw [e] at h; exact absurd h (by decide)⟩

/-! ### The program's functions -/
theorem many_l (a : Int) (T : List Sl) (hl : T.length ≤ 64) : ∀ (d i : Nat) (x : Int), T.length - i = d → i ≤ T.length → 0 ≤ x → x ≤ i → Ev (fun k => ephem_table_many.l0 k a x T (T.length : Int) (i : Int)) (x + (cnt a (T.drop i) : Int)) := by
  intro d
  induction d with
  | zero =>
    intro i x hd hi h0 h1
    obtain rfl : i = T.length := by omega
    refine ev_succ (f := fun _ => some (x + (cnt a (T.drop T.length) : Int))) (fun k => ?_) (Ev.now _)
    simp only [ephem_table_many.l0, List.drop_length, cnt]; rw [if_neg (by omega)]; simp
  | succ d ih =>
    intro i x hd hi h0 h1
    have hlt : i < T.length := by omega
    rw [drop_at hlt, cnt]
    by_cases c : (at_ T i).f0 = a
    · rw [if_pos c]
      refine ev_succ (f := fun k => ephem_table_many.l0 k a (x + 1) T (T.length : Int) ((i + 1 : Nat) : Int)) (fun k => ?_) ?_
      · simp only [ephem_table_many.l0, rdT]
        rw [if_pos (by omega), if_pos (by omega), if_pos (by omega), if_pos c, w64 (by omega) (by omega), w64 (by omega) (by omega)]; rfl
      · have := ih (i + 1) (x + 1) (by omega) (by omega) (by omega) (by omega)
        rw [show x + ((1 + cnt a (T.drop (i + 1)) : Nat) : Int) = x + 1 + (cnt a (T.drop (i + 1)) : Int) by omega]; exact this
    · rw [if_neg c]
      refine ev_succ (f := fun k => ephem_table_many.l0 k a x T (T.length : Int) ((i + 1 : Nat) : Int)) (fun k => ?_) ?_
      · simp only [ephem_table_many.l0, rdT]
        rw [if_pos (by omega), if_pos (by omega), if_pos (by omega), if_neg c, w64 (by omega) (by omega)]; rfl
      · have := ih (i + 1) x (by omega) (by omega) (by omega) (by omega)
        rw [Nat.zero_add]; exact this
theorem many_ev (a : Int) (T : List Sl) (hl : T.length ≤ 64) : Ev (fun k => ephem_table_many.f k T a) (cnt a T : Int) := by
  have := many_l a T hl T.length 0 0 (by omega) (by omega) (by omega) (by omega)
  simp only [List.drop_zero, Int.zero_add] at this
  exact this
theorem sized_some {n : Nat} (h : Sz n) : ephem_sized.f (n : Int) = some true := by
  rcases h with rfl | rfl | rfl | rfl <;> decide +kernel

/-- A table that the program takes. -/
def TGood (T : List Sl) : Prop := T = [] ∨ Ok T ∧ T.length ≤ 4 * cnt 0 T
theorem TGood.len {T : List Sl} (h : TGood T) : T.length ≤ 64 := by
  rcases h with rfl | ⟨h, _⟩
  · simp
  · exact h.size.pos.2
theorem TGood.zero {T : List Sl} (h : TGood T) : (0 : Int) ∉ U T := by
  rcases h with rfl | ⟨h, _⟩
  · simp [U]
  · exact zero_not h
theorem check_l {T : List Sl} (h : Ok T) : ∀ (d i : Nat), T.length - i = d → i ≤ T.length → Ev (fun k => ephem_Check.l0 k T (T.length : Int) (i : Int) T) 0 := by
  have s64 := h.size.pos
  intro d
  induction d with
  | zero =>
    intro i hd hi
    refine ev_succ (f := fun _ => some 0) (fun k => ?_) (Ev.now _)
    simp only [ephem_Check.l0]; rw [if_neg (by omega)]
  | succ d ih =>
    intro i hd hi
    have hlt : i < T.length := by omega
    have hw : wrap64 ((i : Int) + 1) = ((i + 1 : Nat) : Int) := by rw [w64 (by omega) (by omega)]; rfl
    have nx := ih (i + 1) (by omega) (by omega)
    rcases h.each i hlt with ⟨h0, h1, h2⟩ | ⟨h0, h1, h2⟩
    · refine ev_succ (f := fun k => ephem_Check.j2 k (i : Int) T (T.length : Int) (i : Int) (!((at_ T i).f1 == 0) || !((at_ T i).f2 == 0)) T (at_ T i).f0 (at_ T i).f1 (at_ T i).f2) (fun k => ?_) ?_
      · simp only [ephem_Check.l0, rdT]
        rw [if_pos (by omega), if_pos (by omega), if_pos (by omega), if_neg (by omega), if_neg (by omega)]
      · refine ev_succ (f := fun k => ephem_Check.l0 k T (T.length : Int) ((i + 1 : Nat) : Int) T) (fun k => ?_) nx
        simp only [ephem_Check.j2, h1, h2]
        rw [if_neg (by decide), if_neg (by omega), hw]
    · refine ev_succ (f := fun k => ephem_Check.j2 k (i : Int) T (T.length : Int) (i : Int) false T (at_ T i).f0 (at_ T i).f1 (at_ T i).f2) (fun k => ?_) ?_
      · simp only [ephem_Check.l0, rdT]
        rw [if_pos (by omega), if_pos (by omega), if_pos (by omega), if_neg (by omega), if_pos h0]
      · refine ev_succ (f := fun k => (ephem_table_find.f k T (at_ T i).f1).bind fun b => if (at_ T i).f1 = 0 then some 2 else if b.2 = true then (if b.1 = (i : Int) then ephem_Check.l0 k T (T.length : Int) ((i + 1 : Nat) : Int) T else some 2) else some 2) (fun k => ?_) ?_
        · simp only [ephem_Check.j2]
          rw [if_neg (by decide), if_pos h0, hw]
        · refine Ev.bind (find_has h hlt h0) ?_
          simp only [if_neg h1, if_true]
          exact nx
theorem check_ev {T : List Sl} (h : TGood T) : Ev (fun k => ephem_Check.f k T) 0 := by
  unfold ephem_Check.f
  rcases h with rfl | ⟨h, hc⟩
  · exact ev_const rfl
  · have s64 := h.size.pos
    simp only [if_neg (show ¬ ((T.length : Int) = 0) by omega), sized_some h.size, Option.bind_some, if_true]
    refine Ev.bind (many_ev 0 T s64.2) ?_
    have hle := cnt_le 0 T
    have : decide (wrap64 (4 * (cnt 0 T : Int)) < (T.length : Int)) = false := decide_eq_false (by rw [w64 (by omega) (by omega)]; omega)
    rw [this]
    refine ev_succ (f := fun k => ephem_Check.l0 k T (T.length : Int) ((0 : Nat) : Int) T) (fun k => ?_) (check_l h T.length 0 (by omega) (by omega))
    simp only [ephem_Check.j0, Bool.false_eq_true, if_false]; rfl
theorem own_some {T : List Sl} (h : T.length ≤ 64) : ephem_Own.f T = some T := by
  unfold ephem_Own.f api_EphSlot.f
  rw [if_pos (by omega)]; rfl
theorem good_find {T : List Sl} (h : TGood T) (key : Int) : (∃ j : Nat, j < T.length ∧ (at_ T j).f0 = 1 ∧ (at_ T j).f1 = key ∧ key ∈ U T ∧ Ev (fun k => ephem_table_find.f k T key) ((j : Int), true)) ∨ (∃ j : Nat, key ∉ U T ∧ (T = [] ∨ Room T key j) ∧ Ev (fun k => ephem_table_find.f k T key) ((j : Int), false)) := by
  rcases h with rfl | ⟨h, hc⟩
  · exact .inr ⟨0, by simp [U], .inl rfl, ev_const rfl⟩
  · by_cases c : key ∈ U T
    · obtain ⟨j, h0, h1, h2⟩ := mem_U.1 c
      have := find_has h h0 h1
      rw [h2] at this
      exact .inl ⟨j, h0, h1, h2, c, this⟩
    · have s64 := h.size.pos
      obtain ⟨j, h0, h1⟩ := find_no h (by omega) c
      exact .inr ⟨j, c, .inr h0, h1⟩
theorem get_ev {T : List Sl} (h : TGood T) (key : Int) : ∃ v : Int, Ev (fun k => ephem_Get.f k T key) (v, if key = 0 then 7 else if key ∈ U T then 0 else 3) := by
  have hl := h.len
  rcases good_find h key with ⟨j, h0, h1, h2, h3, h4⟩ | ⟨j, h0, h1, h4⟩
  · have hk : key ≠ 0 := fun e => h.zero (e ▸ h3)
    refine ⟨(at_ T j).f2, ?_⟩
    unfold ephem_Get.f
    refine Ev.bind (check_ev h) ?_
    simp only [if_true]
    refine Ev.bind h4 ?_
    simp only [if_neg hk, if_pos h3, if_true]
    rw [rdT]
    simp only [if_pos (show (0 : Int) ≤ (j : Int) by omega), if_pos (show (j : Int) < (T.length : Int) by omega)]
    exact ev_const rfl
  · refine ⟨0, ?_⟩
    unfold ephem_Get.f
    refine Ev.bind (check_ev h) ?_
    simp only [if_true]
    refine Ev.bind h4 ?_
    by_cases hk : key = 0
    · simp only [if_pos hk]; exact ev_const rfl
    · simp only [if_neg hk, if_neg h0, Bool.false_eq_true, if_false]; exact ev_const rfl
theorem lay_ev {T : List Sl} {key val : Int} {j : Nat} {b : Bool} (hj : j < T.length) (h : Ev (fun k => ephem_table_find.f k T key) ((j : Int), b)) : Ev (fun k => ephem_table_lay.f k T key val) (T.set j ⟨1, key, val⟩) := by
  unfold ephem_table_lay.f
  refine Ev.bind h ?_
  simp only [if_pos (show (0 : Int) ≤ (j : Int) by omega), if_pos (show (j : Int) < (T.length : Int) by omega)]
  exact ev_const (by simp)
/-- A key is laid where it was not. -/
theorem lay_new {T : List Sl} (h : Ok T) (hf : 0 < cnt 0 T) {key : Int} (hk : key ≠ 0) (hn : key ∉ U T) (val : Int) : ∃ T' : List Sl, Ev (fun k => ephem_table_lay.f k T key val) T' ∧ Ok T' ∧ T'.length = T.length ∧ (U T').Perm (key :: U T) ∧ cnt 0 T ≤ cnt 0 T' + 1 := by
  obtain ⟨j, hr, he⟩ := find_no h hf hn
  refine ⟨_, lay_ev hr.1 he, h.lay hk hn hr, List.length_set .., U_add T j hr.1 (by have := hr.2.1; omega) key val, ?_⟩
  have := cnt_set 0 T j hr.1 ⟨1, key, val⟩
  rw [if_neg (show ¬ ((1 : Int) = 0) by decide)] at this
  split at this <;> omega
theorem layAll_ev : ∀ (l cur : List Sl), Ok cur → (U l).Nodup → (∀ x ∈ U l, x ≠ 0 ∧ x ∉ U cur) → (U l).length < cnt 0 cur → ∃ T' : List Sl, Ev (fun k => layAll k l cur) T' ∧ Ok T' ∧ T'.length = cur.length ∧ (U T').Perm (U l ++ U cur) ∧ cnt 0 cur ≤ cnt 0 T' + (U l).length
  | [], cur, h, _, _, _ => ⟨cur, ev_const rfl, h, rfl, List.Perm.refl _, by omega⟩
  | x :: r, cur, h, hnd, hx, hc => by
    by_cases c : x.f0 = 1
    · have e : U (x :: r) = x.f1 :: U r := by rw [U, if_pos c]
      rw [e] at hnd hx hc
      obtain ⟨hx0, hx1⟩ := hx x.f1 (by simp)
      rw [List.length_cons] at hc
      obtain ⟨T1, a1, a2, a3, a4, a5⟩ := lay_new h (by omega) hx0 hx1 x.f2
      obtain ⟨n1, n2⟩ := List.nodup_cons.1 hnd
      obtain ⟨T2, b1, b2, b3, b4, b5⟩ := layAll_ev r T1 a2 n2 (fun y hy => ⟨(hx y (List.mem_cons_of_mem _ hy)).1, fun hm_ => by
        rcases List.mem_cons.1 (a4.mem_iff.1 hm_) with e2 | e2
        · rw [e2] at hy; exact n1 hy
        · exact (hx y (List.mem_cons_of_mem _ hy)).2 e2⟩) (by omega)
      refine ⟨T2, ?_, b2, b3.trans a3, ?_, ?_⟩
      · unfold layAll
        simp only [if_pos c]
        exact Ev.bind a1 b1
      · rw [e]
        refine b4.trans ?_
        refine (List.Perm.append_left (U r) a4).trans ?_
        exact List.perm_middle
      · rw [e, List.length_cons]; omega
    · have e : U (x :: r) = U r := by rw [U, if_neg c]
      rw [e] at hnd hx hc ⊢
      obtain ⟨T2, b1, b2, b3, b4, b5⟩ := layAll_ev r cur h hnd hx hc
      refine ⟨T2, ?_, b2, b3, b4, b5⟩
      unfold layAll
      simp only [if_neg c]
      exact b1
theorem szF_some (u : Nat) (h : u ≤ 32) : ∃ s : Nat, szF 4 8 (u : Int) = some (s : Int) ∧ Sz s ∧ 2 * u ≤ s := by
  have hw : wrap64 (2 * (u : Int)) = 2 * (u : Int) := w64 (by omega) (by omega)
  by_cases c1 : u ≤ 4
  · exact ⟨8, by rw [szF, if_neg (by rw [hw]; omega)]; rfl, .inl rfl, by omega⟩
  by_cases c2 : u ≤ 8
  · exact ⟨16, by rw [szF, if_pos (by rw [hw]; omega), szF, if_neg (by rw [hw]; omega)]; rfl, .inr (.inl rfl), by omega⟩
  by_cases c3 : u ≤ 16
  · exact ⟨32, by rw [szF, if_pos (by rw [hw]; omega), szF, if_pos (by rw [hw]; omega), szF, if_neg (by rw [hw]; omega)]; rfl, .inr (.inr (.inl rfl)), by omega⟩
  · exact ⟨64, by rw [szF, if_pos (by rw [hw]; omega), szF, if_pos (by rw [hw]; omega), szF, if_pos (by rw [hw]; omega), szF, if_neg (by rw [hw]; omega)]; rfl, .inr (.inr (.inr rfl)), by omega⟩
/-- The table laid anew. -/
theorem anew_ev {T : List Sl} (hl : T.length ≤ 64) (hnd : (U T).Nodup) (h0 : (0 : Int) ∉ U T) (hu : (U T).length ≤ 31) : ∃ T' : List Sl, Ev (fun k => ephem_table_anew.f k T) T' ∧ Ok T' ∧ (U T').Perm (U T) ∧ 2 * ((U T).length + 1) ≤ T'.length ∧ T'.length ≤ cnt 0 T' + (U T).length := by
  obtain ⟨s, s1, s2, s3⟩ := szF_some ((U T).length + 1) (by omega)
  obtain ⟨T', a1, a2, a3, a4, a5⟩ := layAll_ev T (List.replicate s zs) (Ok.fresh s2) hnd (fun x hx => ⟨fun e => h0 (e ▸ hx), by rw [U_rep]; simp⟩) (by rw [cnt_rep]; omega)
  rw [cnt_rep] at a5
  rw [List.length_replicate] at a3
  rw [U_rep, List.append_nil] at a4
  refine ⟨T', ?_, a2, a4, by omega, by omega⟩
  unfold ephem_table_anew.f
  refine Ev.bind (many_ev 1 T hl) ?_
  rw [cnt_U, w64 (by omega) (by omega), show ((U T).length : Int) + 1 = (((U T).length + 1 : Nat) : Int) by omega]
  refine Ev.bind (ev_const s1) ?_
  rw [Int.toNat_natCast]; exact a1
theorem put_ev {T : List Sl} (h : TGood T) (hnd : (U T).Nodup) (hu : (U T).length ≤ 31) {key : Int} (hk : key ≠ 0) (val : Int) : ∃ T' : List Sl, Ev (fun k => ephem_Put.f k T key val) (T', 0) ∧ TGood T' ∧ ((key ∈ U T ∧ (U T').Perm (U T)) ∨ (key ∉ U T ∧ (U T').Perm (key :: U T))) := by
  have hl := h.len
  have start : ∀ {T' : List Sl} {i : Int} {b c : Bool}, Ev (fun k => ephem_table_find.f k T key) (i, b) → Ev (fun k => putN k T i b) c → Ev (fun k => if c = true then (ephem_table_anew.f k T).bind fun t3 => (ephem_table_lay.f k t3 key val).bind fun t4 => some (t4, (0 : Int)) else (ephem_table_lay.f k T key val).bind fun t4 => some (t4, 0)) (T', 0) → Ev (fun k => ephem_Put.f k T key val) (T', 0) := by
    intro T' i b c h1 h2 h3
    unfold ephem_Put.f
    refine Ev.bind (check_ev h) ?_
    simp only [if_true]
    refine Ev.bind (ev_const (own_some hl)) ?_
    simp only [if_neg hk]
    exact Ev.bind h1 (Ev.bind h2 h3)
  -- the table laid anew, the key in it
  have anew : key ∉ U T → ∃ T' : List Sl, Ev (fun k => (ephem_table_anew.f k T).bind fun t3 => (ephem_table_lay.f k t3 key val).bind fun t4 => some (t4, (0 : Int))) (T', 0) ∧ TGood T' ∧ (U T').Perm (key :: U T) := by
    intro hn
    obtain ⟨T1, a1, a2, a3, a4, a5⟩ := anew_ev hl hnd h.zero hu
    obtain ⟨T2, b1, b2, b3, b4, b5⟩ := lay_new a2 (by omega) hk (fun hm_ => hn (a3.mem_iff.1 hm_)) val
    refine ⟨T2, Ev.bind a1 (Ev.bind b1 (Ev.now _)), .inr ⟨b2, by omega⟩, b4.trans (a3.cons _)⟩
  rcases good_find h key with ⟨j, h0, h1, h2, h3, h4⟩ | ⟨j, h0, h1, h4⟩
  · rcases h with rfl | ⟨h, hc⟩
    · simp [U] at h3
    · refine ⟨T.set j ⟨1, key, val⟩, start (c := false) h4 (ev_eq (f := fun _ => some false) (fun k => by unfold putN; rw [if_pos rfl]) (Ev.now _)) ?_, .inr ⟨?_, ?_⟩, .inl ⟨h3, ?_⟩⟩
      · simp only [Bool.false_eq_true, if_false]
        exact Ev.bind (lay_ev h0 h4) (Ev.now _)
      · have := h.again (val := val) h0 h1
        rw [h2] at this; exact this
      · have := cnt_set 0 T j h0 ⟨1, key, val⟩
        rw [if_neg (show ¬ ((1 : Int) = 0) by decide), if_neg (by omega)] at this
        rw [List.length_set]; omega
      · rw [U_same T j h0 key val h1 h2]
  · rcases h1 with rfl | hr
    · obtain ⟨T', a1, a2, a3⟩ := anew h0
      refine ⟨T', start (c := true) h4 (ev_const rfl) ?_, a2, .inr ⟨h0, a3⟩⟩
      simp only [if_true]; exact a1
    · rcases h with rfl | ⟨h, hc⟩
      · exact absurd hr.1 (by simp)
      · have s64 := h.size.pos
        have hj := hr.1
        have hcle := cnt_le 0 T
        have lay : ∀ (_ : (at_ T j).f0 = 0 → T.length ≤ 4 * (cnt 0 T - 1)), TGood (T.set j ⟨1, key, val⟩) ∧ (U (T.set j ⟨1, key, val⟩)).Perm (key :: U T) := by
          intro hd
          refine ⟨.inr ⟨h.lay hk h0 hr, ?_⟩, U_add T j hj (by have := hr.2.1; omega) key val⟩
          have := cnt_set 0 T j hj ⟨1, key, val⟩
          rw [if_neg (show ¬ ((1 : Int) = 0) by decide)] at this
          rw [List.length_set]
          by_cases c : (at_ T j).f0 = 0
          · rw [if_pos c] at this; have := hd c; omega
          · rw [if_neg c] at this; omega
        by_cases c : (at_ T j).f0 = 0
        · by_cases c2 : wrap64 (4 * wrap64 ((cnt 0 T : Int) - 1)) < (T.length : Int)
          · obtain ⟨T', a1, a2, a3⟩ := anew h0
            refine ⟨T', start (c := true) h4 ?_ ?_, a2, .inr ⟨h0, a3⟩⟩
            · unfold putN
              simp only [Bool.false_eq_true, if_false, if_neg (show ¬ ((T.length : Int) = 0) by omega), if_pos (show (0 : Int) ≤ (j : Int) by omega), if_pos (show (j : Int) < (T.length : Int) by omega), rdT, if_pos c]
              refine Ev.bind (many_ev 0 T s64.2) ?_
              rw [decide_eq_true c2]; exact Ev.now _
            · simp only [if_true]; exact a1
          · have hd : T.length ≤ 4 * (cnt 0 T - 1) := by
              rw [w64 (a := (cnt 0 T : Int) - 1) (by omega) (by omega), w64 (by omega) (by omega)] at c2
              omega
            obtain ⟨l1, l2⟩ := lay (fun _ => hd)
            refine ⟨T.set j ⟨1, key, val⟩, start (c := false) h4 ?_ ?_, l1, .inr ⟨h0, l2⟩⟩
            · unfold putN
              simp only [Bool.false_eq_true, if_false, if_neg (show ¬ ((T.length : Int) = 0) by omega), if_pos (show (0 : Int) ≤ (j : Int) by omega), if_pos (show (j : Int) < (T.length : Int) by omega), rdT, if_pos c]
              refine Ev.bind (many_ev 0 T s64.2) ?_
              rw [decide_eq_false c2]; exact Ev.now _
            · simp only [Bool.false_eq_true, if_false]
              exact Ev.bind (lay_ev hj h4) (Ev.now _)
        · obtain ⟨l1, l2⟩ := lay (fun e => absurd e c)
          refine ⟨T.set j ⟨1, key, val⟩, start (c := false) h4 ?_ ?_, l1, .inr ⟨h0, l2⟩⟩
          · unfold putN
            simp only [Bool.false_eq_true, if_false, if_neg (show ¬ ((T.length : Int) = 0) by omega), if_pos (show (0 : Int) ≤ (j : Int) by omega), if_pos (show (j : Int) < (T.length : Int) by omega), rdT, if_neg c]
            exact Ev.now _
          · simp only [Bool.false_eq_true, if_false]
            exact Ev.bind (lay_ev hj h4) (Ev.now _)
theorem put_zero {T : List Sl} (h : TGood T) (val : Int) : Ev (fun k => ephem_Put.f k T 0 val) (T, 7) := by
  unfold ephem_Put.f
  refine Ev.bind (check_ev h) ?_
  simp only [if_true]
  exact Ev.bind (ev_const (own_some h.len)) (Ev.now _)
theorem del_l (ps : List Int) (hps : ps.length ≤ 17592186044416) : ∀ (d i : Nat) (n : Int) (T : List Sl), ps.length - i = d → i ≤ ps.length → TGood T → (U T).Nodup → 0 ≤ n → n ≤ i → ∃ T' : List Sl, TGood T' ∧ (U T').Nodup ∧ (∀ x, x ∈ U T' ↔ x ∈ U T ∧ x ∉ ps.drop i) ∧ Ev (fun k => ephem_Del.l0 k n ps (ps.length : Int) (i : Int) T) (T', n + ((U T).length : Int) - ((U T').length : Int), 0) := by
  intro d
  induction d with
  | zero =>
    intro i n T hd hi h hnd h0 h1
    refine ⟨T, h, hnd, fun x => by rw [List.drop_eq_nil_of_le (by omega)]; simp, ?_⟩
    refine ev_succ (f := fun _ => some (T, n, 0)) (fun k => ?_) ?_
    · simp only [ephem_Del.l0]; rw [if_neg (by omega)]
    · rw [show n + ((U T).length : Int) - ((U T).length : Int) = n by omega]; exact Ev.now _
  | succ d ih =>
    intro i n T hd hi h hnd h0 h1
    have hlt : i < ps.length := by omega
    have hdr : ps.drop i = rd ps (i : Int) :: ps.drop (i + 1) := by have := drop_rd (l := ps) (i := (i : Int)) (by omega) (by omega); simpa using this
    have hw : wrap64 ((i : Int) + 1) = ((i + 1 : Nat) : Int) := by rw [w64 (by omega) (by omega)]; rfl
    have hl := h.len
    rcases good_find h (rd ps (i : Int)) with ⟨j, f0, f1, f2, f3, f4⟩ | ⟨j, f0, f1, f4⟩
    · have hp := U_del T j f0 _ f1 f2
      have hnd2 := (hp.nodup_iff).1 hnd
      obtain ⟨n1, n2⟩ := List.nodup_cons.1 hnd2
      have hg : TGood (T.set j ⟨2, 0, 0⟩) := by
        rcases h with rfl | ⟨h, hc⟩
        · exact absurd f0 (by simp)
        · refine .inr ⟨h.del f0, ?_⟩
          have := cnt_set 0 T j f0 ⟨2, 0, 0⟩
          rw [if_neg (show ¬ ((2 : Int) = 0) by decide), if_neg (by omega)] at this
          rw [List.length_set]; omega
      have hlen : (U T).length = (U (T.set j ⟨2, 0, 0⟩)).length + 1 := by rw [hp.length_eq, List.length_cons]
      obtain ⟨T', a1, a2, a3, a4⟩ := ih (i + 1) (n + 1) (T.set j ⟨2, 0, 0⟩) (by omega) (by omega) hg n2 (by omega) (by omega)
      refine ⟨T', a1, a2, fun x => ?_, ?_⟩
      · rw [a3, hdr]
        constructor
        · rintro ⟨b1, b2⟩
          refine ⟨hp.mem_iff.2 (List.mem_cons_of_mem _ b1), fun hm_ => ?_⟩
          rcases List.mem_cons.1 hm_ with e | e
          · rw [e] at b1; exact n1 b1
          · exact b2 e
        · rintro ⟨b1, b2⟩
          rcases List.mem_cons.1 (hp.mem_iff.1 b1) with e | e
          · exact absurd (e ▸ List.mem_cons_self ..) b2
          · exact ⟨e, fun hm_ => b2 (List.mem_cons_of_mem _ hm_)⟩
      · rw [hlen, show n + (((U (T.set j ⟨2, 0, 0⟩)).length + 1 : Nat) : Int) - ((U T').length : Int) = n + 1 + ((U (T.set j ⟨2, 0, 0⟩)).length : Int) - ((U T').length : Int) by omega]
        refine ev_succ (f := fun k => (ephem_table_find.f k T (rd ps (i : Int))).bind fun b => if b.2 = true then (if 0 ≤ b.1 then (if b.1 < (T.length : Int) then ephem_Del.l0 k (n + 1) ps (ps.length : Int) ((i + 1 : Nat) : Int) (T.set b.1.toNat ⟨2, 0, 0⟩) else none) else none) else ephem_Del.l0 k n ps (ps.length : Int) ((i + 1 : Nat) : Int) T) (fun k => ?_) ?_
        · simp only [ephem_Del.l0]
          rw [if_pos (by omega), if_pos (by omega), if_pos (by omega), hw, w64 (a := n + 1) (by omega) (by omega)]
        · refine Ev.bind f4 ?_
          simp only [if_true, if_pos (show (0 : Int) ≤ (j : Int) by omega), if_pos (show (j : Int) < (T.length : Int) by omega), Int.toNat_natCast]
          exact a4
    · obtain ⟨T', a1, a2, a3, a4⟩ := ih (i + 1) n T (by omega) (by omega) h hnd (by omega) (by omega)
      refine ⟨T', a1, a2, fun x => ?_, ?_⟩
      · rw [a3, hdr]
        constructor
        · rintro ⟨b1, b2⟩
          refine ⟨b1, fun hm_ => ?_⟩
          rcases List.mem_cons.1 hm_ with e | e
          · rw [e] at b1; exact f0 b1
          · exact b2 e
        · rintro ⟨b1, b2⟩
          exact ⟨b1, fun hm_ => b2 (List.mem_cons_of_mem _ hm_)⟩
      · refine ev_succ (f := fun k => (ephem_table_find.f k T (rd ps (i : Int))).bind fun b => if b.2 = true then (if 0 ≤ b.1 then (if b.1 < (T.length : Int) then ephem_Del.l0 k (wrap64 (n + 1)) ps (ps.length : Int) ((i + 1 : Nat) : Int) (T.set b.1.toNat ⟨2, 0, 0⟩) else none) else none) else ephem_Del.l0 k n ps (ps.length : Int) ((i + 1 : Nat) : Int) T) (fun k => ?_) ?_
        · simp only [ephem_Del.l0]
          rw [if_pos (by omega), if_pos (by omega), if_pos (by omega), hw]
        · refine Ev.bind f4 ?_
          simp only [Bool.false_eq_true, if_false]
          exact a4
theorem del_ev {T : List Sl} (h : TGood T) (hnd : (U T).Nodup) (ps : List Int) (hps : ps.length ≤ 17592186044416) : ∃ T' : List Sl, TGood T' ∧ (U T').Nodup ∧ (∀ x, x ∈ U T' ↔ x ∈ U T ∧ x ∉ ps) ∧ Ev (fun k => ephem_Del.f k T ps) (T', ((U T).length : Int) - ((U T').length : Int), 0) := by
  obtain ⟨T', a1, a2, a3, a4⟩ := del_l ps hps ps.length 0 0 T (by omega) (by omega) h hnd (by omega) (by omega)
  refine ⟨T', a1, a2, fun x => by simpa using a3 x, ?_⟩
  unfold ephem_Del.f
  refine Ev.bind (check_ev h) ?_
  simp only [if_true]
  refine Ev.bind (ev_const (own_some h.len)) ?_
  rw [Int.zero_add] at a4; exact a4

end Go.Proofs.Ytbdlehbaioaglaa.PuTab
