import PyProof.Rows.All
import PySem.Str
import Wide.All
import OpenK.AllK
import Wide.FinOn
import HandS.ForMost
import HandS.Zip
import HandS.TupAny
import HandS.IsInst
import HandS.Wide
import HandS.WideBits
import HandS.Deep
import HandS.Strs
import HandS.Defaults
import KE.KDictKeyed
import PyProof.MaxThree
import KE.BitLaws
import KE.KStateDown
import HandS.Ends
import HandS.More
import HandS.WordsExc
import HandS.Head0
import HandS.Head1
import HandS.Head2
import HandS.HeadEnd
import HandS.HeadHook1
import HandS.HeadHook2
import PySem.Challenge.RW_sameshape_k33_whole_fixed_nodes_stay
set_option Elab.async false
set_option linter.all false
set_option maxRecDepth 100000
set_option maxHeartbeats 0
/-! K33Col: the mathematics of coins, rounds, colors: neighbours stay different; a color leans on the five items before it. -/
namespace K33
/-! ### the lowest set bit -/
/-- the value of the lowest set bit of d -/
def lowV (d : Nat) : Nat := d - (d &&& (d - 1))
def low (d : Nat) : Nat := (lowV d).log2
theorem and_even (a b : Nat) : (2 * a) &&& (2 * b) = 2 * (a &&& b) := by
  apply Nat.eq_of_testBit_eq
  intro i
  cases i with
  | zero => simp [Nat.testBit_zero, Nat.mul_mod_right]
  | succ i =>
    rw [Nat.testBit_and, Nat.testBit_succ, Nat.testBit_succ, Nat.testBit_succ]
    rw [Nat.mul_div_cancel_left _ (by decide), Nat.mul_div_cancel_left _ (by decide), Nat.mul_div_cancel_left _ (by decide), Nat.testBit_and]
theorem and_even_odd (a b : Nat) : (2 * a) &&& (2 * b + 1) = 2 * (a &&& b) := by
  apply Nat.eq_of_testBit_eq
  intro i
  cases i with
  | zero => simp [Nat.testBit_zero, Nat.mul_mod_right]
  | succ i =>
    have h1 : (2 * b + 1) / 2 = b := by omega
    rw [Nat.testBit_and, Nat.testBit_succ, Nat.testBit_succ, Nat.testBit_succ, h1]
    rw [Nat.mul_div_cancel_left _ (by decide), Nat.mul_div_cancel_left _ (by decide), Nat.testBit_and]
theorem and_odd_even (a b : Nat) : (2 * a + 1) &&& (2 * b) = 2 * (a &&& b) := by
  rw [Nat.and_comm, and_even_odd, Nat.and_comm]
/-- the lowest set bit is a power of two, at a place where d has a bit and below which it has none -/
theorem low_spec : ∀ (d : Nat), 0 < d → ∃ k, lowV d = 2 ^ k ∧ d.testBit k = true ∧ ∀ j, j < k → d.testBit j = false := by
  intro d
  induction d using Nat.strongRecOn with
  | _ d ih =>
    intro h
    rcases Nat.mod_two_eq_zero_or_one d with e | e
    · obtain ⟨c, rfl⟩ : ∃ c, d = 2 * c := ⟨d / 2, by omega⟩
      have hc : 0 < c := by omega
      obtain ⟨k, h1, h2, h3⟩ := ih c (by omega) hc
      refine ⟨k + 1, ?_, ?_, ?_⟩
      · have e1 : 2 * c - 1 = 2 * (c - 1) + 1 := by omega
        have h1' : c - (c &&& (c - 1)) = 2 ^ k := h1
        show 2 * c - (2 * c &&& (2 * c - 1)) = 2 ^ (k + 1)
        rw [e1, and_even_odd, Nat.pow_succ]
        omega
      · rw [Nat.testBit_succ, Nat.mul_div_cancel_left _ (by decide)]
        exact h2
      · intro j hj
        cases j with
        | zero => simp [Nat.testBit_zero, Nat.mul_mod_right]
        | succ j =>
          rw [Nat.testBit_succ, Nat.mul_div_cancel_left _ (by decide)]
          exact h3 j (by omega)
    · obtain ⟨c, rfl⟩ : ∃ c, d = 2 * c + 1 := ⟨d / 2, by omega⟩
      refine ⟨0, ?_, ?_, ?_⟩
      · show 2 * c + 1 - ((2 * c + 1) &&& (2 * c + 1 - 1)) = 2 ^ 0
        have e1 : 2 * c + 1 - 1 = 2 * c := by omega
        rw [e1, and_odd_even, Nat.and_self]
        omega
      · simp [Nat.testBit_zero]
      · intro j hj
        omega
theorem low_bit {d : Nat} (h : 0 < d) : lowV d = 2 ^ low d ∧ d.testBit (low d) = true := by
  obtain ⟨k, h1, h2, _⟩ := low_spec d h
  have e : low d = k := by
    unfold low
    rw [h1, Nat.log2_two_pow]
  rw [e]
  exact ⟨h1, h2⟩
/-- mix: twice the lowest place where a and b differ, and b's bit there -/
def mix (a b : Nat) : Nat := 2 * low (a ^^^ b) + b / 2 ^ low (a ^^^ b) % 2
theorem xor_pos {a b : Nat} (h : a ≠ b) : 0 < a ^^^ b := by
  rcases Nat.eq_zero_or_pos (a ^^^ b) with e | e
  · exfalso
    apply h
    have h1 : a ^^^ (a ^^^ b) = a ^^^ 0 := by rw [e]
    rw [← Nat.xor_assoc, Nat.xor_self, Nat.zero_xor, Nat.xor_zero] at h1
    exact h1.symm
  · exact e
theorem low_diff {a b : Nat} (h : a ≠ b) : a.testBit (low (a ^^^ b)) ≠ b.testBit (low (a ^^^ b)) := by
  have h2 := (low_bit (xor_pos h)).2
  rw [Nat.testBit_xor] at h2
  intro e
  rw [e] at h2
  simp at h2
theorem bit_val (b k : Nat) : b / 2 ^ k % 2 = (b.testBit k).toNat := by
  rw [Nat.testBit_eq_decide_div_mod_eq]
  rcases Nat.mod_two_eq_zero_or_one (b / 2 ^ k) with e | e <;> simp [e]
theorem mix_ne {a b c : Nat} (h : a ≠ b) (h2 : b ≠ c) : mix a b ≠ mix b c := by
  intro e
  unfold mix at e
  rw [bit_val, bit_val] at e
  have k1 : (b.testBit (low (a ^^^ b))).toNat < 2 := by cases b.testBit (low (a ^^^ b)) <;> decide
  have k2 : (c.testBit (low (b ^^^ c))).toNat < 2 := by cases c.testBit (low (b ^^^ c)) <;> decide
  have el : low (a ^^^ b) = low (b ^^^ c) := by omega
  have et : (b.testBit (low (a ^^^ b))).toNat = (c.testBit (low (b ^^^ c))).toNat := by omega
  rw [el] at et
  have d := low_diff h2
  cases x : b.testBit (low (b ^^^ c)) <;> cases y : c.testBit (low (b ^^^ c)) <;> rw [x, y] at et d <;> simp at et d
/-- the first number of a round against the second -/
theorem mix_first {a b : Nat} (h : a ≠ b) : a % 2 ≠ mix a b := by
  intro e
  unfold mix at e
  rw [bit_val] at e
  have k1 : (b.testBit (low (a ^^^ b))).toNat < 2 := by cases b.testBit (low (a ^^^ b)) <;> decide
  have z : low (a ^^^ b) = 0 := by omega
  have d := low_diff h
  rw [z] at e d
  have ea : a % 2 = (a.testBit 0).toNat := by
    have := bit_val a 0
    rw [Nat.pow_zero, Nat.div_one] at this
    exact this
  rw [ea] at e
  cases x : a.testBit 0 <;> cases y : b.testBit 0 <;> rw [x, y] at e d <;> simp at e d
/-! ### coins -/
abbrev Code := List Nat
/-- the first place at which two codes differ -/
def fd : Code → Code → Nat
  | [], _ => 0
  | _ :: _, [] => 0
  | a :: x, b :: y => if a = b then fd x y + 1 else 0
def coin (before code : Code) : Nat := 65536 * fd before code + code.getD (fd before code) 0
/-- two codes part: neither is a beginning of the other -/
def Parts : Code → Code → Prop
  | [], _ => False
  | _ :: _, [] => False
  | a :: x, b :: y => a ≠ b ∨ Parts x y
theorem Parts.symm : ∀ {x y : Code}, Parts x y → Parts y x
  | [], _, h => h.elim
  | _ :: _, [], h => h.elim
  | a :: x, b :: y, h => by
    rcases h with h | h
    · exact .inl fun e => h e.symm
    · exact .inr h.symm
theorem fd_parts : ∀ {x y : Code}, Parts x y → fd x y < x.length ∧ fd x y < y.length ∧ x.getD (fd x y) 0 ≠ y.getD (fd x y) 0
  | [], _, h => h.elim
  | _ :: _, [], h => h.elim
  | a :: x, b :: y, h => by
    unfold fd
    by_cases e : a = b
    · rw [if_pos e]
      rcases h with h | h
      · exact absurd e h
      · obtain ⟨h1, h2, h3⟩ := fd_parts h
        refine ⟨by simp; omega, by simp; omega, ?_⟩
        simpa using h3
    · rw [if_neg e]
      refine ⟨by simp, by simp, ?_⟩
      simpa using e
/-- codes whose numbers are below 65536 -/
def Small (c : Code) : Prop := ∀ n ∈ c, n < 65536
theorem Small.at_ {c : Code} (h : Small c) (i : Nat) : c.getD i 0 < 65536 := by
  rw [List.getD_eq_getElem?_getD]
  cases e : c[i]? with
  | none => simp
  | some v =>
    simp
    exact h v (List.mem_of_getElem? e)
theorem coin_ne {a b c : Code} (hb : Small b) (hc : Small c) (h1 : fd a b < b.length) (h2 : Parts b c) : coin a b ≠ coin b c := by
  intro e
  unfold coin at e
  have k1 := hb.at_ (fd a b)
  have k2 := hc.at_ (fd b c)
  obtain ⟨_, _, h⟩ := fd_parts h2
  have ef : fd a b = fd b c := by omega
  rw [ef] at e
  apply h
  omega
/-! ### rounds: by place -/
/-- the codes of a row by place; before the first stands nothing -/
def codeAt (cs : List Code) (i : Nat) : Code := cs.getD i []
def coinAt (cs : List Code) : Nat → Nat
  | 0 => coin [] (codeAt cs 0)
  | i + 1 => coin (codeAt cs i) (codeAt cs (i + 1))
/-- the i-th number behind k rounds -/
def rnd (cs : List Code) : Nat → Nat → Nat
  | 0, i => coinAt cs i
  | k + 1, 0 => rnd cs k 0 % 2
  | k + 1, i + 1 => mix (rnd cs k i) (rnd cs k (i + 1))
/-- a row of codes that the coloring takes: neighbours part, the codes' numbers are small -/
structure Row (cs : List Code) : Prop where
  small : ∀ c ∈ cs, Small c
  ne : ∀ c ∈ cs, c ≠ []
  parts : ∀ (i : Nat) (x y : Code), cs[i]? = some x → cs[i + 1]? = some y → Parts x y
theorem Row.at_ {cs : List Code} (r : Row cs) {i : Nat} (h : i < cs.length) : Small (codeAt cs i) ∧ codeAt cs i ≠ [] := by
  have e : codeAt cs i ∈ cs := by
    unfold codeAt
    rw [List.getD_eq_getElem?_getD, List.getElem?_eq_getElem h]
    exact List.getElem_mem h
  exact ⟨r.small _ e, r.ne _ e⟩
theorem Row.nb {cs : List Code} (r : Row cs) {i : Nat} (h : i + 1 < cs.length) : Parts (codeAt cs i) (codeAt cs (i + 1)) := by
  have e1 : cs[i]? = some (codeAt cs i) := by
    unfold codeAt
    rw [List.getD_eq_getElem?_getD, List.getElem?_eq_getElem (by omega : i < cs.length)]
    rfl
  have e2 : cs[i + 1]? = some (codeAt cs (i + 1)) := by
    unfold codeAt
    rw [List.getD_eq_getElem?_getD, List.getElem?_eq_getElem h]
    rfl
  exact r.parts i _ _ e1 e2
theorem rnd_ne {cs : List Code} (r : Row cs) : ∀ (k i : Nat), i + 1 < cs.length → rnd cs k i ≠ rnd cs k (i + 1)
  | 0, i, h => by
    show coinAt cs i ≠ coinAt cs (i + 1)
    have s1 := (r.at_ (by omega : i < cs.length)).1
    have s2 := (r.at_ h).1
    cases i with
    | zero =>
      refine coin_ne s1 s2 ?_ (r.nb h)
      have n := (r.at_ (by omega : 0 < cs.length)).2
      cases q : codeAt cs 0 with
      | nil => exact absurd q n
      | cons a x => simp [fd]
    | succ i => exact coin_ne s1 s2 (fd_parts (r.nb (by omega : i + 1 < cs.length))).2.1 (r.nb h)
  | k + 1, 0, h => mix_first (rnd_ne r k 0 h)
  | k + 1, i + 1, h => mix_ne (rnd_ne r k i (by omega)) (rnd_ne r k (i + 1) h)
/-- behind k rounds a number leans on the k + 1 codes before it and its own alone -/
theorem rnd_local {cs ds : List Code} {s t a n : Nat} (h : ∀ i, a ≤ i → i < n → codeAt cs (i + s) = codeAt ds (i + t)) :
    ∀ k i, a + 1 + k ≤ i → i < n → rnd cs k (i + s) = rnd ds k (i + t)
  | 0, i, h1, h2 => by
    obtain ⟨j, rfl⟩ : ∃ j, i = j + 1 := ⟨i - 1, by omega⟩
    show coinAt cs (j + 1 + s) = coinAt ds (j + 1 + t)
    have e1 : j + 1 + s = (j + s) + 1 := by omega
    have e2 : j + 1 + t = (j + t) + 1 := by omega
    rw [e1, e2]
    show coin (codeAt cs (j + s)) (codeAt cs (j + s + 1)) = coin (codeAt ds (j + t)) (codeAt ds (j + t + 1))
    rw [← e1, ← e2, h j (by omega) (by omega), h (j + 1) (by omega) h2]
  | k + 1, i, h1, h2 => by
    obtain ⟨j, rfl⟩ : ∃ j, i = j + 1 := ⟨i - 1, by omega⟩
    have e1 : j + 1 + s = (j + s) + 1 := by omega
    have e2 : j + 1 + t = (j + t) + 1 := by omega
    have r1 := rnd_local h k j (by omega) (by omega)
    have r2 := rnd_local h k (j + 1) (by omega) h2
    rw [e1, e2] at r2 ⊢
    show mix (rnd cs k (j + s)) (rnd cs k (j + s + 1)) = mix (rnd ds k (j + t)) (rnd ds k (j + t + 1))
    rw [r1, r2]
/-! ### rounds: by lists, as the program makes them -/
def coins (cs : List Code) : List Nat := (List.range cs.length).map (coinAt cs)
def rounds (cs : List Code) (k : Nat) : List Nat := (List.range cs.length).map (rnd cs k)
def colors (cs : List Code) : List Nat := rounds cs 4
theorem rounds_length (cs : List Code) (k : Nat) : (rounds cs k).length = cs.length := by simp [rounds]
theorem rounds_at (cs : List Code) (k i : Nat) (h : i < cs.length) : (rounds cs k)[i]? = some (rnd cs k i) := by
  unfold rounds
  rw [List.getElem?_map, List.getElem?_range h]
  rfl
/-- a peak at place i of the row -/
def peakP (cs : List Code) (i : Nat) : Prop := rnd cs 4 (i - 1) < rnd cs 4 i ∧ rnd cs 4 (i + 1) < rnd cs 4 i
instance (cs : List Code) (i : Nat) : Decidable (peakP cs i) := by unfold peakP; infer_instance
/-- a block starts at i (i > 0) -/
def st (cs : List Code) (i : Nat) : Bool := decide (2 ≤ i ∧ i + 1 < cs.length ∧ peakP cs i)
theorem st_adj {cs : List Code} {i : Nat} (h : st cs i = true) : st cs (i + 1) = false := by
  unfold st at h ⊢
  have h := of_decide_eq_true h
  refine decide_eq_false fun q => ?_
  obtain ⟨h1, h2, h3, h4⟩ := h
  obtain ⟨q1, q2, q3, q4⟩ := q
  have e : i + 1 - 1 = i := by omega
  rw [e] at q3
  omega
theorem st_range {cs : List Code} {i : Nat} (h : st cs i = true) : 2 ≤ i ∧ i + 1 < cs.length := by
  unfold st at h
  have h := of_decide_eq_true h
  exact ⟨h.1, h.2.1⟩
/-- starts agree where the codes do -/
theorem st_local {cs ds : List Code} {s t a n i : Nat} (h : ∀ i, a ≤ i → i < n → codeAt cs (i + s) = codeAt ds (i + t)) (h1 : a + 6 ≤ i) (h2 : i + 1 < n)
    (hc : n + s ≤ cs.length) (hd : n + t ≤ ds.length) : st cs (i + s) = st ds (i + t) := by
  obtain ⟨j, rfl⟩ : ∃ j, i = j + 1 := ⟨i - 1, by omega⟩
  have r0 := rnd_local h 4 j (by omega) (by omega)
  have r1 := rnd_local h 4 (j + 1) (by omega) (by omega)
  have r2 := rnd_local h 4 (j + 1 + 1) (by omega) (by omega)
  have e1 : j + 1 + s - 1 = j + s := by omega
  have e2 : j + 1 + t - 1 = j + t := by omega
  have e3 : j + 1 + s + 1 = j + 1 + 1 + s := by omega
  have e4 : j + 1 + t + 1 = j + 1 + 1 + t := by omega
  have pe : peakP cs (j + 1 + s) ↔ peakP ds (j + 1 + t) := by
    unfold peakP
    rw [e1, e2, e3, e4, r0, r1, r2]
  unfold st
  refine decide_eq_decide.mpr ⟨fun ⟨_, _, q⟩ => ⟨by omega, by omega, pe.mp q⟩, fun ⟨_, _, q⟩ => ⟨by omega, by omega, pe.mpr q⟩⟩
end K33
/-! K33Seg: groups of equal neighbours; a row cut at its starts; which parts are fixed: lists alone, no program, no nodes. -/
namespace K33
/-! ### groups -/
section
variable {α κ : Type} [DecidableEq κ]
/-- maximal groups of neighbours with equal f, each by its first member and their number -/
def grp (f : α → κ) : List α → List (α × Nat)
  | [] => []
  | x :: r => match grp f r with
    | [] => [(x, 1)]
    | (y, k) :: g => if f x = f y then (x, k + 1) :: g else (x, 1) :: (y, k) :: g
variable {f : α → κ}
theorem grp_nil : grp f [] = [] := rfl
theorem grp_one (x : α) : grp f [x] = [(x, 1)] := rfl
theorem grp_cons_eq {x : α} {r : List α} {y : α} {k : Nat} {g : List (α × Nat)} (h : grp f r = (y, k) :: g) (e : f x = f y) : grp f (x :: r) = (x, k + 1) :: g := by
  show (match grp f r with
    | [] => [(x, 1)]
    | (y, k) :: g => if f x = f y then (x, k + 1) :: g else (x, 1) :: (y, k) :: g) = _
  rw [h]
  show (if f x = f y then (x, k + 1) :: g else (x, 1) :: (y, k) :: g) = _
  rw [if_pos e]
theorem grp_cons_ne {x : α} {r : List α} {y : α} {k : Nat} {g : List (α × Nat)} (h : grp f r = (y, k) :: g) (e : ¬ f x = f y) : grp f (x :: r) = (x, 1) :: (y, k) :: g := by
  show (match grp f r with
    | [] => [(x, 1)]
    | (y, k) :: g => if f x = f y then (x, k + 1) :: g else (x, 1) :: (y, k) :: g) = _
  rw [h]
  show (if f x = f y then (x, k + 1) :: g else (x, 1) :: (y, k) :: g) = _
  rw [if_neg e]
/-- the head of the groups: the row's own head -/
theorem grp_head (x : α) (r : List α) : ∃ k g, grp f (x :: r) = (x, k + 1) :: g := by
  cases h : grp f r with
  | nil =>
    refine ⟨0, [], ?_⟩
    show (match grp f r with
      | [] => [(x, 1)]
      | (y, k) :: g => if f x = f y then (x, k + 1) :: g else (x, 1) :: (y, k) :: g) = _
    rw [h]
  | cons p g =>
    obtain ⟨y, k⟩ := p
    by_cases e : f x = f y
    · exact ⟨k, g, grp_cons_eq h e⟩
    · exact ⟨0, _, grp_cons_ne h e⟩
theorem grp_ne {l : List α} (h : l ≠ []) : grp f l ≠ [] := by
  cases l with
  | nil => exact absurd rfl h
  | cons x r =>
    obtain ⟨k, g, e⟩ := grp_head (f := f) x r
    rw [e]
    exact List.cons_ne_nil _ _
/-- one turn of the program's loop -/
theorem grp_step (x : α) : ∀ (r1 r2 : List α), (∀ y ∈ r1, f y = f x) → (∀ y r, r2 = y :: r → f y ≠ f x) → grp f (x :: (r1 ++ r2)) = (x, r1.length + 1) :: grp f r2
  | [], r2, _, h2 => by
    cases r2 with
    | nil => rfl
    | cons y r =>
      obtain ⟨k, g, e⟩ := grp_head (f := f) y r
      show grp f (x :: y :: r) = (x, 1) :: grp f (y :: r)
      rw [e]
      exact grp_cons_ne e fun q => h2 y r rfl q.symm
  | y :: r1, r2, h1, h2 => by
    have ey : f y = f x := h1 y (List.mem_cons_self ..)
    have ih := grp_step y r1 r2 (fun z hz => (h1 z (List.mem_cons_of_mem _ hz)).trans ey.symm) fun z r e q => h2 z r e (q.trans ey)
    show grp f (x :: y :: (r1 ++ r2)) = _
    exact grp_cons_eq ih ey.symm
theorem grp_mem : ∀ {l : List α} {p : α × Nat}, p ∈ grp f l → p.1 ∈ l ∧ 1 ≤ p.2
  | x :: r, p, h => by
    cases e : grp f r with
    | nil =>
      have e2 : grp f (x :: r) = [(x, 1)] := by
        show (match grp f r with
          | [] => [(x, 1)]
          | (y, k) :: g => if f x = f y then (x, k + 1) :: g else (x, 1) :: (y, k) :: g) = _
        rw [e]
      rw [e2] at h
      rw [List.mem_singleton.mp h]
      exact ⟨List.mem_cons_self .., Nat.le_refl _⟩
    | cons q g =>
      obtain ⟨y, k⟩ := q
      by_cases c : f x = f y
      · rw [grp_cons_eq e c] at h
        rcases List.mem_cons.mp h with rfl | h
        · exact ⟨List.mem_cons_self .., by show 1 ≤ k + 1; omega⟩
        · have m := grp_mem (l := r) (p := p) (by rw [e]; exact List.mem_cons_of_mem _ h)
          exact ⟨List.mem_cons_of_mem _ m.1, m.2⟩
      · rw [grp_cons_ne e c] at h
        rcases List.mem_cons.mp h with rfl | h
        · exact ⟨List.mem_cons_self .., Nat.le_refl _⟩
        · have m := grp_mem (l := r) (p := p) (by rw [e]; exact h)
          exact ⟨List.mem_cons_of_mem _ m.1, m.2⟩
/-- neighbouring groups differ -/
theorem grp_nb : ∀ {l : List α} {i : Nat} {p q : α × Nat}, (grp f l)[i]? = some p → (grp f l)[i + 1]? = some q → f p.1 ≠ f q.1
  | [], i, p, q, h, _ => by
    rw [grp_nil] at h
    cases h
  | x :: r, i, p, q, h, h2 => by
    cases e : grp f r with
    | nil =>
      have e2 : grp f (x :: r) = [(x, 1)] := by
        show (match grp f r with
          | [] => [(x, 1)]
          | (y, k) :: g => if f x = f y then (x, k + 1) :: g else (x, 1) :: (y, k) :: g) = _
        rw [e]
      rw [e2] at h2
      cases i <;> simp at h2
    | cons w g =>
      obtain ⟨y, k⟩ := w
      by_cases c : f x = f y
      · rw [grp_cons_eq e c] at h h2
        cases i with
        | zero =>
          rw [List.getElem?_cons_succ] at h2
          have h : (x, k + 1) = p := Option.some.inj h
          have n := grp_nb (l := r) (i := 0) (p := (y, k)) (q := q) (by rw [e]; rfl) (by rw [e, List.getElem?_cons_succ]; exact h2)
          rw [← h]
          show f x ≠ f q.1
          rw [c]
          exact n
        | succ i =>
          rw [List.getElem?_cons_succ] at h h2
          exact grp_nb (l := r) (i := i + 1) (by rw [e, List.getElem?_cons_succ]; exact h) (by rw [e, List.getElem?_cons_succ]; exact h2)
      · rw [grp_cons_ne e c] at h h2
        cases i with
        | zero =>
          rw [List.getElem?_cons_succ] at h2
          have h : (x, 1) = p := Option.some.inj h
          have h2 : (y, k) = q := Option.some.inj h2
          rw [← h, ← h2]
          exact c
        | succ i =>
          rw [List.getElem?_cons_succ] at h h2
          exact grp_nb (l := r) (i := i) (by rw [e]; exact h) (by rw [e]; exact h2)
/-- a sum over the row, by groups -/
theorem grp_sum (g : α → Nat) (hg : ∀ x y, f x = f y → g x = g y) : ∀ l : List α, ((grp f l).map fun p => p.2 * g p.1).sum = (l.map g).sum
  | [] => rfl
  | x :: r => by
    have ih := grp_sum g hg r
    cases e : grp f r with
    | nil =>
      have e2 : grp f (x :: r) = [(x, 1)] := by
        show (match grp f r with
          | [] => [(x, 1)]
          | (y, k) :: g => if f x = f y then (x, k + 1) :: g else (x, 1) :: (y, k) :: g) = _
        rw [e]
      rw [e] at ih
      rw [e2, List.map_cons (f := g), List.sum_cons (a := g x), ← ih]
      simp
    | cons w gs =>
      obtain ⟨y, k⟩ := w
      rw [e, List.map_cons, List.sum_cons] at ih
      rw [List.map_cons, List.sum_cons, ← ih]
      by_cases c : f x = f y
      · rw [grp_cons_eq e c, List.map_cons, List.sum_cons]
        show (k + 1) * g x + _ = g x + (k * g y + _)
        rw [hg x y c, Nat.succ_mul]
        omega
      · rw [grp_cons_ne e c, List.map_cons, List.sum_cons, List.map_cons, List.sum_cons]
        show 1 * g x + (k * g y + _) = g x + (k * g y + _)
        rw [Nat.one_mul]
theorem grp_len (l : List α) : (grp f l).length ≤ l.length := by
  have h := grp_sum (f := f) (fun _ => 1) (fun _ _ _ => rfl) l
  have h1 : ∀ l : List α, (l.map fun _ => 1).sum = l.length := fun l => by
    induction l with
    | nil => rfl
    | cons x r ih =>
      rw [List.map_cons, List.sum_cons, ih, List.length_cons]
      omega
  rw [h1] at h
  rw [← h]
  have h2 : ∀ g : List (α × Nat), (∀ p ∈ g, 1 ≤ p.2) → g.length ≤ (g.map fun p => p.2 * 1).sum := fun g => by
    induction g with
    | nil => intro _; exact Nat.le_refl _
    | cons p r ih =>
      intro hp
      have h1 := hp p (List.mem_cons_self ..)
      have h2 := ih fun q hq => hp q (List.mem_cons_of_mem _ hq)
      rw [List.map_cons, List.sum_cons, List.length_cons]
      omega
  exact h2 _ fun p hp => (grp_mem hp).2
/-- groups of a mapped row -/
theorem grp_map : ∀ l : List α, (grp f l).map (fun p => (f p.1, p.2)) = grp id (l.map f)
  | [] => rfl
  | x :: r => by
    have ih := grp_map r
    rw [List.map_cons]
    cases e : grp f r with
    | nil =>
      have e2 : grp f (x :: r) = [(x, 1)] := by
        show (match grp f r with
          | [] => [(x, 1)]
          | (y, k) :: g => if f x = f y then (x, k + 1) :: g else (x, 1) :: (y, k) :: g) = _
        rw [e]
      rw [e] at ih
      have e3 : r.map f = [] := by
        cases r with
        | nil => rfl
        | cons y r => exact absurd e (grp_ne (List.cons_ne_nil _ _))
      rw [e2, e3]
      rfl
    | cons w g =>
      obtain ⟨y, k⟩ := w
      rw [e, List.map_cons] at ih
      by_cases c : f x = f y
      · rw [grp_cons_eq e c, grp_cons_eq ih.symm c]
        rfl
      · rw [grp_cons_ne e c, grp_cons_ne ih.symm c]
        rfl
end
section
variable {κ : Type} [DecidableEq κ]
/-- elements ahead: the first group may grow, others come before it -/
theorem grp_pre (g : κ → Nat) {L : List κ} {y : κ} {k : Nat} {gs : List (κ × Nat)} (h : grp id L = (y, k) :: gs) : ∀ pre : List κ,
    ∃ A j, grp id (pre ++ L) = A ++ (y, k + j) :: gs ∧ A.length ≤ pre.length ∧ (A.map fun p => p.2 * g p.1).sum + j * g y = (pre.map g).sum
  | [] => ⟨[], 0, h, Nat.le_refl _, by simp⟩
  | x :: pre => by
    obtain ⟨A, j, e, hl, hs⟩ := grp_pre g h pre
    show ∃ A j, grp id (x :: (pre ++ L)) = A ++ (y, k + j) :: gs ∧ A.length ≤ (x :: pre).length ∧ _ = ((x :: pre).map g).sum
    rw [List.map_cons, List.sum_cons, ← hs]
    cases A with
    | nil =>
      by_cases c : x = y
      · subst c
        refine ⟨[], j + 1, grp_cons_eq e rfl, Nat.zero_le _, ?_⟩
        show 0 + (j + 1) * g x = g x + (0 + j * g x)
        rw [Nat.succ_mul]
        omega
      · refine ⟨[(x, 1)], j, grp_cons_ne e c, by simp, ?_⟩
        show (1 * g x + 0) + j * g y = g x + (0 + j * g y)
        omega
    | cons w A =>
      obtain ⟨z, m⟩ := w
      rw [List.cons_append] at e
      by_cases c : x = z
      · subst c
        refine ⟨(x, m + 1) :: A, j, grp_cons_eq e rfl, by simp at hl ⊢; omega, ?_⟩
        rw [List.map_cons, List.sum_cons, List.map_cons, List.sum_cons]
        show (m + 1) * g x + _ + _ = g x + (m * g x + _ + _)
        rw [Nat.succ_mul]
        omega
      · refine ⟨(x, 1) :: (z, m) :: A, j, grp_cons_ne e c, by simp at hl ⊢; omega, ?_⟩
        rw [List.map_cons (f := fun p : κ × Nat => p.2 * g p.1) (a := (x, 1)), List.sum_cons]
        show 1 * g x + _ + _ = g x + (_ + _)
        omega
/-- elements behind: the last group may grow, others come behind it -/
theorem grp_post : ∀ (L : List κ), L ≠ [] → ∀ post : List κ, ∃ gs y k j B, grp id L = gs ++ [(y, k)] ∧ grp id (L ++ post) = gs ++ (y, k + j) :: B ∧ B.length ≤ post.length
  | [], h, _ => absurd rfl h
  | [x], _, post => by
    cases post with
    | nil => exact ⟨[], x, 1, 0, [], rfl, rfl, Nat.le_refl _⟩
    | cons y r =>
      obtain ⟨k, g, e⟩ := grp_head (f := (id : κ → κ)) y r
      have hl := grp_len (f := (id : κ → κ)) (y :: r)
      rw [e] at hl
      by_cases c : x = y
      · refine ⟨[], x, 1, k + 1, g, rfl, ?_, by simp at hl ⊢; omega⟩
        have e2 : grp id (x :: y :: r) = (x, k + 1 + 1) :: g := grp_cons_eq e c
        show grp id (x :: y :: r) = (x, 1 + (k + 1)) :: g
        rw [e2, Nat.add_comm 1 (k + 1)]
      · refine ⟨[], x, 1, 0, (y, k + 1) :: g, rfl, ?_, by simp at hl ⊢; omega⟩
        exact grp_cons_ne e c
  | x :: z :: L, _, post => by
    obtain ⟨gs, y, k, j, B, e1, e2, hB⟩ := grp_post (z :: L) (List.cons_ne_nil _ _) post
    have e2' : grp id (z :: L ++ post) = gs ++ (y, k + j) :: B := e2
    cases gs with
    | nil =>
      by_cases c : x = y
      · refine ⟨[], x, k + 1, j, B, grp_cons_eq e1 c, ?_, hB⟩
        have e3 : grp id (x :: (z :: L ++ post)) = (x, k + j + 1) :: B := grp_cons_eq e2' c
        show grp id (x :: (z :: L ++ post)) = (x, k + 1 + j) :: B
        rw [e3, Nat.add_right_comm]
      · exact ⟨[(x, 1)], y, k, j, B, grp_cons_ne e1 c, grp_cons_ne e2' c, hB⟩
    | cons w gs =>
      obtain ⟨v, m⟩ := w
      by_cases c : x = v
      · exact ⟨(x, m + 1) :: gs, y, k, j, B, grp_cons_eq e1 c, grp_cons_eq e2' c, hB⟩
      · exact ⟨(x, 1) :: (v, m) :: gs, y, k, j, B, grp_cons_ne e1 c, grp_cons_ne e2' c, hB⟩
end
/-! ### a row cut at its starts -/
section
variable {α : Type}
/-- the parts of a row whose first place is i, cut ahead of each place > i at which p holds -/
def segs (p : Nat → Bool) : Nat → List α → List (List α)
  | _, [] => []
  | i, x :: r => match segs p (i + 1) r with
    | [] => [[x]]
    | b :: bs => if p (i + 1) = true then [x] :: b :: bs else (x :: b) :: bs
variable {p q : Nat → Bool}
theorem segs_nil (i : Nat) : segs p i ([] : List α) = [] := rfl
theorem segs_one' (i : Nat) (x : α) : segs p i [x] = [[x]] := rfl
theorem segs_cut {i : Nat} {x : α} {r : List α} {b : List α} {bs : List (List α)} (h : segs p (i + 1) r = b :: bs) (c : p (i + 1) = true) : segs p i (x :: r) = [x] :: b :: bs := by
  show (match segs p (i + 1) r with
    | [] => [[x]]
    | b :: bs => if p (i + 1) = true then [x] :: b :: bs else (x :: b) :: bs) = _
  rw [h]
  show (if p (i + 1) = true then [x] :: b :: bs else (x :: b) :: bs) = _
  rw [if_pos c]
theorem segs_join {i : Nat} {x : α} {r : List α} {b : List α} {bs : List (List α)} (h : segs p (i + 1) r = b :: bs) (c : ¬ p (i + 1) = true) : segs p i (x :: r) = (x :: b) :: bs := by
  show (match segs p (i + 1) r with
    | [] => [[x]]
    | b :: bs => if p (i + 1) = true then [x] :: b :: bs else (x :: b) :: bs) = _
  rw [h]
  show (if p (i + 1) = true then [x] :: b :: bs else (x :: b) :: bs) = _
  rw [if_neg c]
theorem segs_ne : ∀ (i : Nat) {L : List α}, L ≠ [] → segs p i L ≠ []
  | _, [], h => absurd rfl h
  | i, x :: r, _ => by
    cases e : segs p (i + 1) r with
    | nil =>
      show (match segs p (i + 1) r with
        | [] => [[x]]
        | b :: bs => if p (i + 1) = true then [x] :: b :: bs else (x :: b) :: bs) ≠ _
      rw [e]
      exact List.cons_ne_nil _ _
    | cons b bs =>
      by_cases c : p (i + 1) = true
      · rw [segs_cut e c]
        exact List.cons_ne_nil _ _
      · rw [segs_join e c]
        exact List.cons_ne_nil _ _
theorem segs_append : ∀ (i : Nat) (L1 L2 : List α), L1 ≠ [] → L2 ≠ [] → p (i + L1.length) = true → segs p i (L1 ++ L2) = segs p i L1 ++ segs p (i + L1.length) L2
  | _, [], _, h, _, _ => absurd rfl h
  | i, [x], L2, _, h2, c => by
    obtain ⟨b, bs, e⟩ : ∃ b bs, segs p (i + 1) L2 = b :: bs := List.exists_cons_of_ne_nil (segs_ne (i + 1) h2)
    show segs p i (x :: L2) = [[x]] ++ segs p (i + 1) L2
    rw [e]
    exact segs_cut e c
  | i, x :: y :: L1, L2, _, h2, c => by
    have el : i + (x :: y :: L1).length = i + 1 + (y :: L1).length := by
      rw [List.length_cons]
      omega
    rw [el] at c ⊢
    have ih := segs_append (i + 1) (y :: L1) L2 (List.cons_ne_nil _ _) h2 c
    obtain ⟨b, bs, e⟩ : ∃ b bs, segs p (i + 1) (y :: L1) = b :: bs := List.exists_cons_of_ne_nil (segs_ne (i + 1) (List.cons_ne_nil _ _))
    rw [e, List.cons_append] at ih
    show segs p i (x :: y :: (L1 ++ L2)) = _
    by_cases d : p (i + 1) = true
    · rw [segs_cut ih d, segs_cut e d]
      rfl
    · rw [segs_join ih d, segs_join e d]
      rfl
theorem segs_congr : ∀ (i j : Nat) (L : List α), (∀ k, 1 ≤ k → k < L.length → p (i + k) = q (j + k)) → segs p i L = segs q j L
  | _, _, [], _ => rfl
  | i, j, x :: r, h => by
    have ih := segs_congr (i + 1) (j + 1) r fun k h1 h2 => by
      have e := h (k + 1) (by omega) (by rw [List.length_cons]; omega)
      have a1 : i + 1 + k = i + (k + 1) := by omega
      have a2 : j + 1 + k = j + (k + 1) := by omega
      rw [a1, a2]
      exact e
    cases r with
    | nil => rfl
    | cons y r =>
      obtain ⟨b, bs, e⟩ : ∃ b bs, segs p (i + 1) (y :: r) = b :: bs := List.exists_cons_of_ne_nil (segs_ne (i + 1) (List.cons_ne_nil _ _))
      have e' := ih.symm.trans e
      have e1 := h 1 (Nat.le_refl _) (by simp)
      by_cases d : p (i + 1) = true
      · rw [segs_cut e d, segs_cut e' (e1.symm.trans d)]
      · rw [segs_join e d, segs_join e' fun z => d (e1.trans z)]
/-- no start inside: one part -/
theorem segs_single : ∀ (i : Nat) (L : List α), L ≠ [] → (∀ k, 1 ≤ k → k < L.length → p (i + k) = false) → segs p i L = [L]
  | _, [], h, _ => absurd rfl h
  | i, [x], _, _ => rfl
  | i, x :: y :: r, _, h => by
    have ih := segs_single (i + 1) (y :: r) (List.cons_ne_nil _ _) fun k h1 h2 => by
      have a1 : i + 1 + k = i + (k + 1) := by omega
      rw [a1]
      exact h (k + 1) (by omega) (by simp at h2 ⊢; omega)
    refine segs_join ih ?_
    rw [h 1 (Nat.le_refl _) (by simp)]
    decide
theorem segs_flat : ∀ (i : Nat) (L : List α), (segs p i L).flatten = L
  | _, [] => rfl
  | i, [x] => rfl
  | i, x :: y :: r => by
    have ih := segs_flat (i + 1) (y :: r)
    obtain ⟨b, bs, e⟩ : ∃ b bs, segs p (i + 1) (y :: r) = b :: bs := List.exists_cons_of_ne_nil (segs_ne (i + 1) (List.cons_ne_nil _ _))
    rw [e] at ih
    by_cases d : p (i + 1) = true
    · rw [segs_cut e d, List.flatten_cons, ih]
      rfl
    · rw [segs_join e d, List.flatten_cons]
      rw [List.flatten_cons] at ih
      rw [List.cons_append, ih]
theorem segs_mem : ∀ (i : Nat) (L : List α), ∀ b ∈ segs p i L, b ≠ []
  | _, [], b, h => by
    rw [segs_nil] at h
    cases h
  | i, [x], b, h => by
    rw [segs_one'] at h
    rw [List.mem_singleton.mp h]
    exact List.cons_ne_nil _ _
  | i, x :: y :: r, b, h => by
    have ih := segs_mem (i + 1) (y :: r)
    obtain ⟨c, cs, e⟩ : ∃ b bs, segs p (i + 1) (y :: r) = b :: bs := List.exists_cons_of_ne_nil (segs_ne (i + 1) (List.cons_ne_nil _ _))
    rw [e] at ih
    by_cases d : p (i + 1) = true
    · rw [segs_cut e d] at h
      rcases List.mem_cons.mp h with rfl | h
      · exact List.cons_ne_nil _ _
      · exact ih b h
    · rw [segs_join e d] at h
      rcases List.mem_cons.mp h with rfl | h
      · exact List.cons_ne_nil _ _
      · exact ih b (List.mem_cons_of_mem _ h)
/-- the first part -/
theorem segs_first : ∀ (i : Nat) (L : List α), L ≠ [] → ∃ L1 L2, L = L1 ++ L2 ∧ L1 ≠ [] ∧ (∀ k, 1 ≤ k → k < L1.length → p (i + k) = false) ∧ segs p i L = L1 :: segs p (i + L1.length) L2 ∧ (L2 ≠ [] → p (i + L1.length) = true)
  | _, [], h => absurd rfl h
  | i, [x], _ => ⟨[x], [], rfl, List.cons_ne_nil _ _, fun k h1 h2 => by simp at h2; omega, rfl, fun h => absurd rfl h⟩
  | i, x :: y :: r, _ => by
    obtain ⟨L1, L2, e1, n1, h1, e2, h2⟩ := segs_first (i + 1) (y :: r) (List.cons_ne_nil _ _)
    by_cases d : p (i + 1) = true
    · refine ⟨[x], y :: r, rfl, List.cons_ne_nil _ _, fun k h1 h2 => by simp at h2; omega, ?_, fun _ => d⟩
      show _ = [x] :: segs p (i + 1) (y :: r)
      rw [segs_cut e2 d, e2]
    · have el : i + (x :: L1).length = i + 1 + L1.length := by
        rw [List.length_cons]
        omega
      refine ⟨x :: L1, L2, by rw [e1]; rfl, List.cons_ne_nil _ _, fun k a b => ?_, ?_, ?_⟩
      · cases k with
        | zero => omega
        | succ k =>
          cases k with
          | zero => simpa using d
          | succ k =>
            have a1 : i + (k + 1 + 1) = i + 1 + (k + 1) := by omega
            rw [a1]
            exact h1 (k + 1) (by omega) (by simp at b; omega)
      · rw [el]
        exact segs_join e2 d
      · rw [el]
        exact h2
/-! ### how many parts -/
/-- how many of the places lo, lo + 1, .. (n of them) have p -/
def cnt (p : Nat → Bool) : Nat → Nat → Nat
  | _, 0 => 0
  | lo, n + 1 => (if p lo = true then 1 else 0) + cnt p (lo + 1) n
theorem cnt_add (p : Nat → Bool) : ∀ (a lo b : Nat), cnt p lo (a + b) = cnt p lo a + cnt p (lo + a) b
  | 0, lo, b => by
    rw [Nat.zero_add]
    show _ = 0 + _
    rw [Nat.zero_add, Nat.add_zero]
  | a + 1, lo, b => by
    have e : a + 1 + b = (a + b) + 1 := by omega
    rw [e]
    show (if p lo = true then 1 else 0) + cnt p (lo + 1) (a + b) = (if p lo = true then 1 else 0) + cnt p (lo + 1) a + cnt p (lo + (a + 1)) b
    rw [cnt_add p a (lo + 1) b]
    have e2 : lo + 1 + a = lo + (a + 1) := by omega
    rw [e2]
    omega
theorem cnt_zero (p : Nat → Bool) : ∀ (n lo : Nat), (∀ i, lo ≤ i → i < lo + n → p i = false) → cnt p lo n = 0
  | 0, _, _ => rfl
  | n + 1, lo, h => by
    show (if p lo = true then 1 else 0) + cnt p (lo + 1) n = 0
    rw [cnt_zero p n (lo + 1) fun i h1 h2 => h i (by omega) (by omega), h lo (Nat.le_refl _) (by omega)]
    rfl
theorem cnt_half (p : Nat → Bool) (ha : ∀ i, p i = true → p (i + 1) = false) : ∀ (n lo : Nat), cnt p lo n ≤ (n + 1) / 2
  | 0, _ => Nat.zero_le _
  | 1, lo => by
    show (if p lo = true then 1 else 0) + 0 ≤ 1
    split <;> omega
  | n + 2, lo => by
    have ih := cnt_half p ha n (lo + 1 + 1)
    show (if p lo = true then 1 else 0) + ((if p (lo + 1) = true then 1 else 0) + cnt p (lo + 1 + 1) n) ≤ (n + 2 + 1) / 2
    by_cases c : p lo = true
    · rw [if_pos c, ha lo c]
      simp
      omega
    · rw [if_neg c]
      split <;> omega
theorem segs_len : ∀ (i : Nat) (L : List α), L ≠ [] → (segs p i L).length = 1 + cnt p (i + 1) (L.length - 1)
  | _, [], h => absurd rfl h
  | i, [x], _ => rfl
  | i, x :: y :: r, _ => by
    have ih := segs_len (i + 1) (y :: r) (List.cons_ne_nil _ _)
    obtain ⟨b, bs, e⟩ : ∃ b bs, segs p (i + 1) (y :: r) = b :: bs := List.exists_cons_of_ne_nil (segs_ne (i + 1) (List.cons_ne_nil _ _))
    have el : (x :: y :: r).length - 1 = ((y :: r).length - 1) + 1 := by simp
    rw [el]
    show _ = 1 + ((if p (i + 1) = true then 1 else 0) + cnt p (i + 1 + 1) ((y :: r).length - 1))
    by_cases d : p (i + 1) = true
    · rw [segs_cut e d, if_pos d, List.length_cons, ← e, ih]
      omega
    · rw [segs_join e d, if_neg d, List.length_cons]
      rw [e, List.length_cons] at ih
      omega
/-! ### the program's cut: by the list of starts -/
/-- the slices from each start to the next one, the last to n -/
def slices (L : List α) : List Nat → List (List α)
  | [] => []
  | [s] => [L.drop s]
  | s :: e :: r => (L.drop s).take (e - s) :: slices L (e :: r)
theorem slices_segs (L : List α) : ∀ (es : List Nat) (s : Nat), s < L.length → (∀ i, s < i → i < L.length → (p i = true ↔ i ∈ es)) → (s :: es).Pairwise (· < ·) → (∀ e ∈ es, e < L.length) → slices L (s :: es) = segs p s (L.drop s)
  | [], s, hs, hp, _, _ => by
    have n : L.drop s ≠ [] := fun e => by
      have := congrArg List.length e
      rw [List.length_drop] at this
      simp at this
      omega
    show [L.drop s] = _
    rw [segs_single s (L.drop s) n]
    intro k h1 h2
    rw [List.length_drop] at h2
    cases c : p (s + k) with
    | false => rfl
    | true =>
      have := (hp (s + k) (by omega) (by omega)).mp c
      cases this
  | e :: es, s, hs, hp, hw, hl => by
    have he : e < L.length := hl e (List.mem_cons_self ..)
    have hse : s < e := (List.pairwise_cons.mp hw).1 e (List.mem_cons_self ..)
    have hw2 := (List.pairwise_cons.mp hw).2
    have hes := (List.pairwise_cons.mp hw2).1
    have ih := slices_segs L es e he (fun i h1 h2 => by
      rw [hp i (by omega) h2]
      constructor
      · intro m
        rcases List.mem_cons.mp m with r | r
        · omega
        · exact r
      · exact fun m => List.mem_cons_of_mem _ m) hw2 fun x hx => hl x (List.mem_cons_of_mem _ hx)
    show (L.drop s).take (e - s) :: slices L (e :: es) = _
    rw [ih]
    have l1 : ((L.drop s).take (e - s)).length = e - s := by
      rw [List.length_take, List.length_drop]
      omega
    have n1 : (L.drop s).take (e - s) ≠ [] := fun z => by
      rw [z] at l1
      simp at l1
      omega
    have n2 : L.drop e ≠ [] := fun z => by
      have := congrArg List.length z
      rw [List.length_drop] at this
      simp at this
      omega
    have es' : s + (e - s) = e := by omega
    have ea : L.drop s = (L.drop s).take (e - s) ++ L.drop e := by
      have h1 := (List.take_append_drop (e - s) (L.drop s)).symm
      rw [List.drop_drop, es'] at h1
      exact h1
    have c : p (s + ((L.drop s).take (e - s)).length) = true := by
      rw [l1, es']
      exact (hp e hse he).mpr (List.mem_cons_self ..)
    have e3 : segs p s (L.drop s) = segs p s ((L.drop s).take (e - s)) ++ segs p e (L.drop e) := by
      have h2 := segs_append s ((L.drop s).take (e - s)) (L.drop e) n1 n2 c
      rw [l1, es', ← ea] at h2
      exact h2
    rw [e3, segs_single s _ n1]
    · rfl
    · intro k h1 h2
      rw [l1] at h2
      cases c : p (s + k) with
      | false => rfl
      | true =>
        exfalso
        have m := (hp (s + k) (by omega) (by omega)).mp c
        rcases List.mem_cons.mp m with r | r
        · omega
        · have := hes _ r
          omega
end
end K33
/-! K33Fix: which parts of a row are fixed, and that they are parts of every row around it. -/
namespace K33
section
variable {α : Type}
/-- the fixed parts of a row of n items: at least seven items before a part, at least three behind it; pl: the place of the first part -/
def fxp (n : Nat) : Nat → List (List α) → List (List α)
  | _, [] => []
  | pl, q :: qs => if pl < 7 then fxp n (pl + q.length) qs else if pl + q.length + 3 ≤ n then q :: fxp n (pl + q.length) qs else fxp n (pl + q.length) qs
/-- the weight of the parts that are skipped ahead of the first fixed one -/
def skp (sz : α → Nat) : Nat → List (List α) → Nat
  | _, [] => 0
  | pl, q :: qs => if pl < 7 then (q.map sz).sum + skp sz (pl + q.length) qs else skp sz (pl + q.length) qs
variable {p : Nat → Bool} {sz : α → Nat} {n : Nat}
theorem fxp_lt {pl : Nat} {q : List α} {qs : List (List α)} (h : pl < 7) : fxp n pl (q :: qs) = fxp n (pl + q.length) qs := if_pos h
theorem fxp_in {pl : Nat} {q : List α} {qs : List (List α)} (h : ¬ pl < 7) (h2 : pl + q.length + 3 ≤ n) : fxp n pl (q :: qs) = q :: fxp n (pl + q.length) qs := by
  show (if pl < 7 then _ else if pl + q.length + 3 ≤ n then _ else _) = _
  rw [if_neg h, if_pos h2]
theorem fxp_out {pl : Nat} {q : List α} {qs : List (List α)} (h : ¬ pl < 7) (h2 : ¬ pl + q.length + 3 ≤ n) : fxp n pl (q :: qs) = fxp n (pl + q.length) qs := by
  show (if pl < 7 then _ else if pl + q.length + 3 ≤ n then _ else _) = _
  rw [if_neg h, if_neg h2]
theorem skp_lt {pl : Nat} {q : List α} {qs : List (List α)} (h : pl < 7) : skp sz pl (q :: qs) = (q.map sz).sum + skp sz (pl + q.length) qs := if_pos h
theorem skp_ge {pl : Nat} {q : List α} {qs : List (List α)} (h : ¬ pl < 7) : skp sz pl (q :: qs) = skp sz (pl + q.length) qs := if_neg h
/-- parts that start below seven -/
theorem fx_low (rest : List (List α)) : ∀ (m : Nat) (L : List α) (i : Nat), L.length ≤ m → i < 7 → (∀ k, i < k → k < i + L.length → p k = true → k < 7) →
    fxp n i (segs p i L ++ rest) = fxp n (i + L.length) rest ∧ skp sz i (segs p i L ++ rest) = (L.map sz).sum + skp sz (i + L.length) rest := by
  intro m
  induction m with
  | zero =>
    intro L i h _ _
    have e : L = [] := List.eq_nil_of_length_eq_zero (by omega)
    subst e
    exact ⟨rfl, by rw [segs_nil]; simp⟩
  | succ m ih =>
    intro L i h hi hp
    by_cases e : L = []
    · subst e
      exact ⟨rfl, by rw [segs_nil]; simp⟩
    · obtain ⟨L1, L2, e1, n1, h1, e2, h2⟩ := segs_first (p := p) i L e
      have hl1 : 0 < L1.length := by
        cases L1 with
        | nil => exact absurd rfl n1
        | cons => simp
      have hl : L.length = L1.length + L2.length := by rw [e1, List.length_append]
      rw [e2, List.cons_append, fxp_lt hi, skp_lt hi]
      by_cases z : L2 = []
      · subst z
        rw [segs_nil, List.nil_append]
        rw [List.append_nil] at e1
        subst e1
        exact ⟨rfl, rfl⟩
      · have c := h2 z
        have l2 : 0 < L2.length := by
          cases L2 with
          | nil => exact absurd rfl z
          | cons => simp
        have hi2 : i + L1.length < 7 := hp _ (by omega) (by omega) c
        obtain ⟨a, b⟩ := ih L2 (i + L1.length) (by omega) hi2 fun k a b => hp k (by omega) (by omega)
        rw [a, b, hl]
        have el : i + L1.length + L2.length = i + (L1.length + L2.length) := by omega
        rw [el]
        refine ⟨rfl, ?_⟩
        rw [e1, List.map_append, List.sum_append]
        omega
/-- parts between the first and the last start that count -/
theorem fx_mid (rest : List (List α)) : ∀ (m : Nat) (L : List α) (i : Nat), L.length ≤ m → 7 ≤ i → i + L.length + 3 ≤ n →
    fxp n i (segs p i L ++ rest) = segs p i L ++ fxp n (i + L.length) rest ∧ skp sz i (segs p i L ++ rest) = skp sz (i + L.length) rest := by
  intro m
  induction m with
  | zero =>
    intro L i h _ _
    have e : L = [] := List.eq_nil_of_length_eq_zero (by omega)
    subst e
    exact ⟨rfl, rfl⟩
  | succ m ih =>
    intro L i h hi hn
    by_cases e : L = []
    · subst e
      exact ⟨rfl, rfl⟩
    · obtain ⟨L1, L2, e1, n1, h1, e2, h2⟩ := segs_first (p := p) i L e
      have hl1 : 0 < L1.length := by
        cases L1 with
        | nil => exact absurd rfl n1
        | cons => simp
      have hl : L.length = L1.length + L2.length := by rw [e1, List.length_append]
      have el : i + L1.length + L2.length = i + L.length := by omega
      rw [e2, List.cons_append, fxp_in (by omega) (by omega), skp_ge (by omega)]
      obtain ⟨a, b⟩ := ih L2 (i + L1.length) (by omega) (by omega) (by omega)
      rw [a, b, el]
      exact ⟨rfl, rfl⟩
/-- parts behind the last start that counts -/
theorem fx_high : ∀ (m : Nat) (L : List α) (i : Nat), L.length ≤ m → 7 ≤ i → i + L.length = n → (∀ k, i < k → k + 3 ≤ n → p k = false) → fxp n i (segs p i L) = [] ∧ skp sz i (segs p i L) = 0 := by
  intro m
  induction m with
  | zero =>
    intro L i h _ _ _
    have e : L = [] := List.eq_nil_of_length_eq_zero (by omega)
    subst e
    exact ⟨rfl, rfl⟩
  | succ m ih =>
    intro L i h hi hn hp
    by_cases e : L = []
    · subst e
      exact ⟨rfl, rfl⟩
    · obtain ⟨L1, L2, e1, n1, h1, e2, h2⟩ := segs_first (p := p) i L e
      have hl1 : 0 < L1.length := by
        cases L1 with
        | nil => exact absurd rfl n1
        | cons => simp
      have hl : L.length = L1.length + L2.length := by rw [e1, List.length_append]
      have far : ¬ i + L1.length + 3 ≤ n := by
        intro q
        have z : L2 ≠ [] := fun z => by
          rw [z] at hl
          simp at hl
          omega
        have c := h2 z
        rw [hp _ (by omega) q] at c
        cases c
      rw [e2, fxp_out (by omega) far, skp_ge (by omega)]
      exact ih L2 (i + L1.length) (by omega) (by omega) (by omega) fun k a b => hp k (by omega) b
end
/-- the least and the greatest place in [a, b) with p -/
theorem least_of (p : Nat → Bool) (a : Nat) : ∀ b, (∀ k, a ≤ k → k < b → p k = false) ∨ ∃ k, a ≤ k ∧ k < b ∧ p k = true ∧ ∀ j, a ≤ j → j < k → p j = false
  | 0 => .inl fun k _ h => by omega
  | b + 1 => by
    rcases least_of p a b with h | ⟨k, h1, h2, h3, h4⟩
    · by_cases c : a ≤ b ∧ p b = true
      · exact .inr ⟨b, c.1, by omega, c.2, fun j h1 h2 => h j h1 h2⟩
      · refine .inl fun k h1 h2 => ?_
        by_cases e : k = b
        · subst e
          cases q : p k with
          | false => rfl
          | true => exact absurd ⟨h1, q⟩ c
        · exact h k h1 (by omega)
    · exact .inr ⟨k, h1, by omega, h3, h4⟩
theorem great_of (p : Nat → Bool) (a : Nat) : ∀ b, (∀ k, a ≤ k → k < b → p k = false) ∨ ∃ k, a ≤ k ∧ k < b ∧ p k = true ∧ ∀ j, k < j → j < b → p j = false
  | 0 => .inl fun k _ h => by omega
  | b + 1 => by
    by_cases c : a ≤ b ∧ p b = true
    · exact .inr ⟨b, c.1, by omega, c.2, fun j h1 h2 => by omega⟩
    · have hb : ∀ k, a ≤ k → k = b → p k = false := fun k h1 e => by
        subst e
        cases q : p k with
        | false => rfl
        | true => exact absurd ⟨h1, q⟩ c
      rcases great_of p a b with h | ⟨k, h1, h2, h3, h4⟩
      · refine .inl fun k h1 h2 => ?_
        by_cases e : k = b
        · exact hb k h1 e
        · exact h k h1 (by omega)
      · refine .inr ⟨k, h1, by omega, h3, fun j h5 h6 => ?_⟩
        by_cases e : j = b
        · exact hb j (by omega) e
        · exact h4 j h5 (by omega)
section
variable {α : Type}
/-- the row G of items, whose starts are q; the row W around it (A before, B behind; its first and last item may have grown), whose starts are r -/
theorem fixed_mid {G W A G' B : List α} {a n : Nat} {q r : Nat → Bool} (sz : α → Nat) (hW : W = A ++ (G' ++ B)) (hA : A.length = a) (hn : G.length = n) (hn' : G'.length = n)
    (hg : ∀ j, 1 ≤ j → j + 2 ≤ n → G'[j]? = G[j]?) (hq : ∀ k, q k = true → 2 ≤ k ∧ k + 1 < n) (hr : ∀ k, r k = true → 2 ≤ k ∧ k + 1 < W.length) (ra : ∀ k, r k = true → r (k + 1) = false)
    (ag : ∀ j, 7 ≤ j → j + 3 ≤ n → r (a + j) = q j) (hG : 0 < n) :
    (fxp n 0 (segs q 0 G) = [] ∧ (a ≤ 7 → B.length ≤ 3 → (segs r 0 W).length ≤ 10)) ∨
    (∃ X Y p0, fxp n 0 (segs q 0 G) ≠ [] ∧ segs r 0 W = X ++ (fxp n 0 (segs q 0 G) ++ Y) ∧ X.flatten = A ++ G'.take p0 ∧ skp sz 0 (segs q 0 G) = ((G.take p0).map sz).sum ∧
      7 ≤ p0 ∧ p0 + 3 ≤ n ∧ (a ≤ 7 → X.length ≤ 7) ∧ (B.length ≤ 3 → Y.length ≤ 3)) := by
  have hWl : W.length = a + n + B.length := by
    rw [hW, List.length_append, List.length_append, hA, hn']
    omega
  -- the parts of W by its starts
  have count : ∀ L : List α, ∀ i, L ≠ [] → (segs r i L).length = 1 + cnt r (i + 1) (L.length - 1) := fun L i h => segs_len i L h
  have nW : W ≠ [] := fun e => by
    rw [e] at hWl
    simp at hWl
    omega
  have r1 : r 1 = false := by
    cases c : r 1 with
    | false => rfl
    | true => have := (hr 1 c).1; omega
  -- the starts of W below a + 7
  have low : a ≤ 7 → ∀ m, (∀ k, a + 7 ≤ k → k < 1 + m → r k = false) → cnt r 1 m ≤ 6 := by
    intro ha m hm
    by_cases e : m ≤ a + 6
    · -- places 1 .. m
      cases m with
      | zero => exact Nat.zero_le _
      | succ m =>
        show (if r 1 = true then 1 else 0) + cnt r 2 m ≤ 6
        rw [r1]
        have := cnt_half r ra m 2
        simp
        omega
    · have em : m = (a + 6) + (m - (a + 6)) := by omega
      rw [em, cnt_add]
      have z : cnt r (1 + (a + 6)) (m - (a + 6)) = 0 := cnt_zero r _ _ fun i h1 h2 => hm i (by omega) (by omega)
      rw [z]
      show (if r 1 = true then 1 else 0) + cnt r 2 (a + 5) + 0 ≤ 6
      rw [r1]
      have := cnt_half r ra (a + 5) 2
      simp
      omega
  rcases least_of q 7 (n - 2) with none1 | ⟨p0, p7, pn, pq, pl⟩
  · -- no start counts
    refine .inl ⟨?_, ?_⟩
    · obtain ⟨L1, L2, e1, n1, h1, e2, h2⟩ : ∃ L1 L2 : List α, G = L1 ++ L2 ∧ L1.length = min 7 n ∧ L2.length = n - min 7 n ∧ True ∧ True :=
        ⟨G.take 7, G.drop 7, (List.take_append_drop 7 G).symm, by rw [List.length_take, hn], by rw [List.length_drop, hn]; omega, trivial, trivial⟩
      -- every part starts below seven, or ends behind n - 3
      have all : ∀ (m : Nat) (L : List α) (i : Nat), L.length ≤ m → i + L.length = n → (7 ≤ i → n < i + 3) → fxp n i (segs q i L) = [] := by
        intro m
        induction m with
        | zero =>
          intro L i h _ _
          have e : L = [] := List.eq_nil_of_length_eq_zero (by omega)
          subst e
          rfl
        | succ m ih =>
          intro L i h hi h7
          by_cases e : L = []
          · subst e
            rfl
          · obtain ⟨M1, M2, f1, g1, k1, f2, k2⟩ := segs_first (p := q) i L e
            have hl1 : 0 < M1.length := by
              cases M1 with
              | nil => exact absurd rfl g1
              | cons => simp
            have hl : L.length = M1.length + M2.length := by rw [f1, List.length_append]
            have nx : 7 ≤ i + M1.length → n < i + M1.length + 3 := by
              intro h7'
              by_cases z : M2 = []
              · rw [z] at hl
                simp at hl
                omega
              · refine Nat.lt_of_not_le fun le => ?_
                have c := k2 z
                rw [none1 _ h7' (by omega)] at c
                cases c
            rw [f2]
            have rst := ih M2 (i + M1.length) (by omega) (by omega) nx
            by_cases c7 : i < 7
            · rw [fxp_lt c7]
              exact rst
            · have := h7 (by omega)
              rw [fxp_out c7 (by omega)]
              exact rst
      exact all n G 0 (by omega) (by omega) (by omega)
    · intro ha hB
      rw [count W 0 nW, hWl]
      have em : a + n + B.length - 1 = (a + n + B.length - 1) := rfl
      by_cases e : n < 10
      · -- few items
        by_cases e2 : a + n + B.length - 1 ≤ a + 6
        · have l : cnt r (0 + 1) (a + n + B.length - 1) ≤ 6 := low ha (a + n + B.length - 1) fun k h1 h2 => by omega
          omega
        · have es : a + n + B.length - 1 = (a + 6) + (n + B.length - 7) := by omega
          have l := low ha (a + 6) fun k h1 h2 => by omega
          -- the last place is no start
          have es2 : n + B.length - 7 = (n + B.length - 8) + 1 := by omega
          rw [es, es2, cnt_add r (a + 6) (0 + 1), cnt_add r (n + B.length - 8) _ 1]
          have z : cnt r (0 + 1 + (a + 6) + (n + B.length - 8)) 1 = 0 := cnt_zero r _ _ fun i h1 h2 => by
            cases c : r i with
            | false => rfl
            | true => have := (hr i c).2; omega
          have hh := cnt_half r ra (n + B.length - 8) (0 + 1 + (a + 6))
          rw [z]
          have l' : cnt r (0 + 1) (a + 6) ≤ 6 := l
          omega
      · have es : a + n + B.length - 1 = (a + 6) + ((n - 9) + ((B.length + 1) + 1)) := by omega
        rw [es, cnt_add r (a + 6) (0 + 1), cnt_add r (n - 9) _ _, cnt_add r (B.length + 1) _ 1]
        have l : cnt r (0 + 1) (a + 6) ≤ 6 := low ha (a + 6) fun k h1 h2 => by omega
        have z1 : cnt r (0 + 1 + (a + 6)) (n - 9) = 0 := cnt_zero r _ _ fun i h1 h2 => by
          have h3 := ag (i - a) (by omega) (by omega)
          have h4 : a + (i - a) = i := by omega
          rw [h4] at h3
          rw [h3]
          exact none1 _ (by omega) (by omega)
        have z : cnt r (0 + 1 + (a + 6) + (n - 9) + (B.length + 1)) 1 = 0 := cnt_zero r _ _ fun i h1 h2 => by
          cases c : r i with
          | false => rfl
          | true => have := (hr i c).2; omega
        have hh := cnt_half r ra (B.length + 1) (0 + 1 + (a + 6) + (n - 9))
        rw [z1, z]
        omega
  · -- the first start that counts is p0, the last e0
    obtain ⟨e0, e1, e2, e3, e4⟩ : ∃ k, p0 ≤ k ∧ k < n - 2 ∧ q k = true ∧ ∀ j, k < j → j < n - 2 → q j = false := by
      rcases great_of q p0 (n - 2) with h | h
      · have := h p0 (Nat.le_refl _) pn
        rw [pq] at this
        cases this
      · exact h
    -- G in three
    have sG : G = G.take p0 ++ ((G.drop p0).take (e0 - p0) ++ G.drop e0) := by
      have h1 := (List.take_append_drop (e0 - p0) (G.drop p0)).symm
      rw [List.drop_drop] at h1
      have h2 : p0 + (e0 - p0) = e0 := by omega
      rw [h2] at h1
      rw [← h1]
      exact (List.take_append_drop p0 G).symm
    have sG' : G' = G'.take p0 ++ ((G'.drop p0).take (e0 - p0) ++ G'.drop e0) := by
      have h1 := (List.take_append_drop (e0 - p0) (G'.drop p0)).symm
      rw [List.drop_drop] at h1
      have h2 : p0 + (e0 - p0) = e0 := by omega
      rw [h2] at h1
      rw [← h1]
      exact (List.take_append_drop p0 G').symm
    have mid : (G'.drop p0).take (e0 - p0) = (G.drop p0).take (e0 - p0) := by
      apply List.ext_getElem?
      intro i
      rw [List.getElem?_take, List.getElem?_take, List.getElem?_drop, List.getElem?_drop]
      by_cases c : i < e0 - p0
      · rw [if_pos c, if_pos c]
        exact hg (p0 + i) (by omega) (by omega)
      · rw [if_neg c, if_neg c]
    have lM : ((G.drop p0).take (e0 - p0)).length = e0 - p0 := by
      rw [List.length_take, List.length_drop, hn]
      omega
    have l1 : (G.take p0).length = p0 := by
      rw [List.length_take, hn]
      omega
    have l1' : (G'.take p0).length = p0 := by
      rw [List.length_take, hn']
      omega
    have l3 : (G.drop e0).length = n - e0 := by rw [List.length_drop, hn]
    have l3' : (G'.drop e0).length = n - e0 := by rw [List.length_drop, hn']
    have ne_of_len : ∀ L : List α, 0 < L.length → L ≠ [] := fun L h e => by
      rw [e] at h
      simp at h
    have n1 : G.take p0 ≠ [] := ne_of_len _ (by omega)
    have n3 : G.drop e0 ≠ [] := ne_of_len _ (by omega)
    have rp : r (a + p0) = true := by rw [ag p0 p7 (by omega)]; exact pq
    have re : r (a + e0) = true := by rw [ag e0 (by omega) (by omega)]; exact e3
    have nX : A ++ G'.take p0 ≠ [] := ne_of_len _ (by rw [List.length_append]; omega)
    have n3' : G'.drop e0 ++ B ≠ [] := ne_of_len _ (by rw [List.length_append]; omega)
    have lX : (A ++ G'.take p0).length = a + p0 := by rw [List.length_append, hA, l1']
    have lY : (G'.drop e0 ++ B).length = n - e0 + B.length := by rw [List.length_append, l3']
    have sW : W = (A ++ G'.take p0) ++ ((G.drop p0).take (e0 - p0) ++ (G'.drop e0 ++ B)) := by
      rw [hW, ← mid]
      have e : G' ++ B = (G'.take p0 ++ ((G'.drop p0).take (e0 - p0) ++ G'.drop e0)) ++ B := by rw [← sG']
      rw [e]
      simp only [List.append_assoc]
    -- the parts behind p0, in G and in W
    have tailG : segs q p0 ((G.drop p0).take (e0 - p0) ++ G.drop e0) = segs q p0 ((G.drop p0).take (e0 - p0)) ++ segs q e0 (G.drop e0) := by
      by_cases c : e0 = p0
      · have z : (G.drop p0).take (e0 - p0) = [] := List.eq_nil_of_length_eq_zero (by omega)
        rw [z, c]
        rfl
      · have h := segs_append (p := q) p0 ((G.drop p0).take (e0 - p0)) (G.drop e0) (ne_of_len _ (by omega)) n3 (by rw [lM]; have h2 : p0 + (e0 - p0) = e0 := by omega
                                                                                                                   rw [h2]; exact e3)
        rw [lM] at h
        have h2 : p0 + (e0 - p0) = e0 := by omega
        rw [h2] at h
        exact h
    have tailW : segs r (a + p0) ((G.drop p0).take (e0 - p0) ++ (G'.drop e0 ++ B)) = segs r (a + p0) ((G.drop p0).take (e0 - p0)) ++ segs r (a + e0) (G'.drop e0 ++ B) := by
      by_cases c : e0 = p0
      · have z : (G.drop p0).take (e0 - p0) = [] := List.eq_nil_of_length_eq_zero (by omega)
        rw [z, c]
        rfl
      · have h2 : a + p0 + (e0 - p0) = a + e0 := by omega
        have h := segs_append (p := r) (a + p0) ((G.drop p0).take (e0 - p0)) (G'.drop e0 ++ B) (ne_of_len _ (by omega)) n3' (by rw [lM, h2]; exact re)
        rw [lM, h2] at h
        exact h
    have same : segs r (a + p0) ((G.drop p0).take (e0 - p0)) = segs q p0 ((G.drop p0).take (e0 - p0)) := segs_congr _ _ _ fun k h1 h2 => by
      rw [lM] at h2
      have e : a + p0 + k = a + (p0 + k) := by omega
      rw [e]
      exact ag (p0 + k) (by omega) (by omega)
    have allG : segs q 0 G = segs q 0 (G.take p0) ++ (segs q p0 ((G.drop p0).take (e0 - p0)) ++ segs q e0 (G.drop e0)) := by
      have h := segs_append (p := q) 0 (G.take p0) ((G.drop p0).take (e0 - p0) ++ G.drop e0) n1 (fun z => n3 (List.append_eq_nil_iff.mp z).2) (by rw [l1, Nat.zero_add]; exact pq)
      rw [l1, Nat.zero_add, tailG, ← sG] at h
      exact h
    have allW : segs r 0 W = segs r 0 (A ++ G'.take p0) ++ (segs q p0 ((G.drop p0).take (e0 - p0)) ++ segs r (a + e0) (G'.drop e0 ++ B)) := by
      have h := segs_append (p := r) 0 (A ++ G'.take p0) ((G.drop p0).take (e0 - p0) ++ (G'.drop e0 ++ B)) nX (fun z => n3' (List.append_eq_nil_iff.mp z).2) (by rw [lX, Nat.zero_add]; exact rp)
      rw [lX, Nat.zero_add, tailW, same, ← sW] at h
      exact h
    -- what is fixed
    obtain ⟨fa, ska⟩ := fx_low (p := q) (sz := sz) (n := n) (segs q p0 ((G.drop p0).take (e0 - p0)) ++ segs q e0 (G.drop e0)) p0 (G.take p0) 0 (by omega) (by omega) (fun k h1 h2 c => by
      rw [l1] at h2
      refine Nat.lt_of_not_le fun le => ?_
      rw [pl k le (by omega)] at c
      cases c)
    obtain ⟨fb, skb⟩ := fx_mid (p := q) (sz := sz) (n := n) (segs q e0 (G.drop e0)) (e0 - p0) ((G.drop p0).take (e0 - p0)) p0 (by omega) p7 (by omega)
    obtain ⟨fc, skc⟩ := fx_high (p := q) (sz := sz) (n := n) n (G.drop e0) e0 (by omega) (by omega) (by omega) (fun k h1 h2 => e4 k h1 (by omega))
    have lx : a ≤ 7 → (segs r 0 (A ++ G'.take p0)).length ≤ 7 := by
      intro ha
      rw [count _ 0 nX, lX]
      have l : cnt r (0 + 1) (a + p0 - 1) ≤ 6 := low ha _ fun k h1 h2 => by
        have h3 := ag (k - a) (by omega) (by omega)
        have h4 : a + (k - a) = k := by omega
        rw [h4] at h3
        rw [h3]
        exact pl _ (by omega) (by omega)
      omega
    have ly : B.length ≤ 3 → (segs r (a + e0) (G'.drop e0 ++ B)).length ≤ 3 := by
      intro hB
      rw [count _ _ n3', lY]
      have es : n - e0 + B.length - 1 = (n - e0 - 3) + ((B.length + 1) + 1) := by omega
      rw [es, cnt_add r (n - e0 - 3) _ _, cnt_add r (B.length + 1) _ 1]
      have z1 : cnt r (a + e0 + 1) (n - e0 - 3) = 0 := cnt_zero r _ _ fun i h1 h2 => by
        have h3 := ag (i - a) (by omega) (by omega)
        have h4 : a + (i - a) = i := by omega
        rw [h4] at h3
        rw [h3]
        exact e4 _ (by omega) (by omega)
      have z : cnt r (a + e0 + 1 + (n - e0 - 3) + (B.length + 1)) 1 = 0 := cnt_zero r _ _ fun i h1 h2 => by
        cases c : r i with
        | false => rfl
        | true => have := (hr i c).2; omega
      have hh := cnt_half r ra (B.length + 1) (a + e0 + 1 + (n - e0 - 3))
      rw [z1, z]
      omega
    rw [lM] at fb skb
    rw [l1, Nat.zero_add] at fa ska
    have h2 : p0 + (e0 - p0) = e0 := by omega
    rw [h2] at fb skb
    have fx : fxp n 0 (segs q 0 G) = segs q p0 ((G.drop p0).take (e0 - p0)) := by
      rw [allG, fa, fb, fc, List.append_nil]
    have sk : skp sz 0 (segs q 0 G) = ((G.take p0).map sz).sum := by
      rw [allG, ska, skb, skc, Nat.add_zero]
    by_cases c : e0 = p0
    · -- one start alone: nothing is fixed
      have z : (G.drop p0).take (e0 - p0) = [] := List.eq_nil_of_length_eq_zero (by omega)
      rw [z, segs_nil] at fx
      refine .inl ⟨fx, fun ha hB => ?_⟩
      rw [allW, z, segs_nil, List.length_append, List.length_append]
      have := lx ha
      have := ly hB
      simp
      omega
    · refine .inr ⟨segs r 0 (A ++ G'.take p0), segs r (a + e0) (G'.drop e0 ++ B), p0, ?_, ?_, segs_flat _ _, sk, p7, by omega, lx, ly⟩
      · rw [fx]
        exact segs_ne _ (ne_of_len _ (by omega))
      · rw [fx]
        exact allW
end
end K33
/-! K33Node: nodes, their codes (none is a beginning of another), sizes, heights. -/
namespace K33
open PySem
/-- a node; int, str, pair: the leaf with that element (int, str: a scalar, too) -/
inductive Nd where
  | int (i : Int)
  | str (s : Str)
  | pair (a b : Nd)
  | run (c : Nd) (t : Nat)
  | blk (cs : List Nd)
noncomputable instance : DecidableEq Nd := fun a b => Classical.propDecidable (a = b)
/-- so many digits in base 65536, the most significant first -/
def digits : Nat → Nat → List Nat
  | 0, _ => []
  | k + 1, v => digits k (v / 65536) ++ [v % 65536]
theorem digits_length : ∀ k v, (digits k v).length = k
  | 0, _ => rfl
  | k + 1, v => by
    show (digits k (v / 65536) ++ [v % 65536]).length = k + 1
    rw [List.length_append, digits_length k]
    rfl
theorem digits_small : ∀ k v, ∀ d ∈ digits k v, d < 65536
  | 0, _, d, h => by cases h
  | k + 1, v, d, h => by
    have h : d ∈ digits k (v / 65536) ++ [v % 65536] := h
    rcases List.mem_append.mp h with h | h
    · exact digits_small k _ d h
    · rw [List.mem_singleton.mp h]
      exact Nat.mod_lt _ (by decide)
theorem digits_inj : ∀ k v u, v < 65536 ^ k → u < 65536 ^ k → digits k v = digits k u → v = u
  | 0, v, u, h1, h2, _ => by
    rw [Nat.pow_zero] at h1 h2
    omega
  | k + 1, v, u, h1, h2, e => by
    have e : digits k (v / 65536) ++ [v % 65536] = digits k (u / 65536) ++ [u % 65536] := e
    obtain ⟨e1, e2⟩ := List.append_inj e (by rw [digits_length, digits_length])
    rw [Nat.pow_succ] at h1 h2
    have i := digits_inj k _ _ (Nat.div_lt_of_lt_mul (by rw [Nat.mul_comm]; exact h1)) (Nat.div_lt_of_lt_mul (by rw [Nat.mul_comm]; exact h2)) e1
    have m : v % 65536 = u % 65536 := (List.cons.inj e2).1
    omega
mutual
/-- a node's code -/
def code : Nd → Code
  | .int i => if 0 ≤ i then 1 :: digits 4 i.toNat else 2 :: digits 4 (-i).toNat
  | .str s => 3 :: s.cps.toList.length :: s.cps.toList
  | .pair a b => 4 :: (code a ++ code b)
  | .run c t => 5 :: (digits 2 t ++ code c)
  | .blk cs => 6 :: cs.length :: codeL cs
def codeL : List Nd → Code
  | [] => []
  | x :: r => code x ++ codeL r
end
mutual
/-- how many leaves -/
def size : Nd → Nat
  | .int _ => 1
  | .str _ => 1
  | .pair _ _ => 1
  | .run c t => t * size c
  | .blk cs => sizeL cs
def sizeL : List Nd → Nat
  | [] => 0
  | x :: r => size x + sizeL r
end
mutual
def height : Nd → Nat
  | .int _ => 0
  | .str _ => 0
  | .pair _ _ => 0
  | .run c _ => height c
  | .blk cs => heightL cs + 1
def heightL : List Nd → Nat
  | [] => 0
  | x :: r => max (height x) (heightL r)
end
theorem sizeL_eq : ∀ l : List Nd, sizeL l = (l.map size).sum
  | [] => rfl
  | x :: r => by
    rw [List.map_cons, List.sum_cons, ← sizeL_eq r]
    rfl
theorem codeL_eq : ∀ l : List Nd, codeL l = (l.map code).flatten
  | [] => rfl
  | x :: r => by
    rw [List.map_cons, List.flatten_cons, ← codeL_eq r]
    rfl
theorem sizeL_app (a b : List Nd) : sizeL (a ++ b) = sizeL a + sizeL b := by
  rw [sizeL_eq, sizeL_eq, sizeL_eq, List.map_append, List.sum_append]
/-- a scalar within the bounds -/
def Sc : Nd → Prop
  | .int i => -1000000000000000 ≤ i ∧ i ≤ 1000000000000000
  | .str s => s.cps.toList.length ≤ 20 ∧ ∀ c ∈ s.cps.toList, c < 65536
  | _ => False
/-- an element -/
def El : Nd → Prop
  | .pair a b => Sc a ∧ Sc b
  | x => Sc x
def isRun : Nd → Bool
  | .run _ _ => true
  | _ => false
mutual
def Good : Nd → Prop
  | .int i => Sc (.int i)
  | .str s => Sc (.str s)
  | .pair a b => Sc a ∧ Sc b
  | .run c t => Good c ∧ isRun c = false ∧ 2 ≤ t ∧ t ≤ 2000
  | .blk cs => GoodL cs ∧ 2 ≤ cs.length ∧ cs.length ≤ 2000 ∧ ∀ x ∈ cs, height x = heightL cs
def GoodL : List Nd → Prop
  | [] => True
  | x :: r => Good x ∧ GoodL r
end
theorem goodL_iff : ∀ l : List Nd, GoodL l ↔ ∀ x ∈ l, Good x
  | [] => ⟨fun _ _ h => (List.not_mem_nil h).elim, fun _ => trivial⟩
  | x :: r => by
    constructor
    · intro h y hy
      rcases List.mem_cons.mp hy with rfl | hy
      · exact h.1
      · exact (goodL_iff r).mp h.2 y hy
    · intro h
      exact ⟨h x (List.mem_cons_self ..), (goodL_iff r).mpr fun y hy => h y (List.mem_cons_of_mem _ hy)⟩
theorem Sc.good : ∀ {x : Nd}, Sc x → Good x
  | .int _, h => h
  | .str _, h => h
  | .pair _ _, h => h.elim
  | .run _ _, h => h.elim
  | .blk _, h => h.elim
theorem El.good : ∀ {x : Nd}, El x → Good x
  | .int _, h => h
  | .str _, h => h
  | .pair _ _, h => h
  | .run _ _, h => h.elim
  | .blk _, h => h.elim
theorem El.notRun : ∀ {x : Nd}, El x → isRun x = false
  | .int _, h => rfl
  | .str _, h => rfl
  | .pair _ _, h => rfl
  | .run _ _, h => h.elim
  | .blk _, h => rfl
theorem El.size : ∀ {x : Nd}, El x → size x = 1
  | .int _, h => by rw [K33.size]
  | .str _, h => by rw [K33.size]
  | .pair _ _, h => by rw [K33.size]
  | .run _ _, h => h.elim
  | .blk _, h => h.elim
/-! ### no code is a beginning of another -/
theorem cons_app {a b : Nat} {x y r s : List Nat} (h : a :: x ++ r = b :: y ++ s) : a = b ∧ x ++ r = y ++ s := List.cons.inj h
theorem tag_ne {P : Prop} {a b : Nat} {x y r s : List Nat} (h : a :: x ++ r = b :: y ++ s) (d : a ≠ b) : P := absurd (cons_app h).1 d
theorem digits4 {i j : Nat} {r s : List Nat} {k : Nat} (hi : i < 65536 ^ k) (hj : j < 65536 ^ k) (h : digits k i ++ r = digits k j ++ s) : i = j ∧ r = s := by
  obtain ⟨e1, e2⟩ := List.append_inj h (by rw [digits_length, digits_length])
  exact ⟨digits_inj k i j hi hj e1, e2⟩
theorem code_int (i : Int) : ∃ t, (t = 1 ∨ t = 2) ∧ code (.int i) = t :: digits 4 i.natAbs ∧ (t = 1 ↔ 0 ≤ i) := by
  rw [code]
  by_cases h : 0 ≤ i
  · refine ⟨1, .inl rfl, ?_, ⟨fun _ => h, fun _ => rfl⟩⟩
    rw [if_pos h]
    have e : i.toNat = i.natAbs := by omega
    rw [e]
  · refine ⟨2, .inr rfl, ?_, ⟨fun z => absurd z (by decide), fun z => absurd z h⟩⟩
    rw [if_neg h]
    have e : (-i).toNat = i.natAbs := by omega
    rw [e]
theorem code_str (s : Str) : code (.str s) = 3 :: s.cps.toList.length :: s.cps.toList := by rw [code]
theorem code_pair (a b : Nd) : code (.pair a b) = 4 :: (code a ++ code b) := by rw [code]
theorem code_run (c : Nd) (t : Nat) : code (.run c t) = 5 :: (digits 2 t ++ code c) := by rw [code]
theorem code_blk (cs : List Nd) : code (.blk cs) = 6 :: cs.length :: codeL cs := by rw [code]
mutual
theorem uniq : ∀ (x y : Nd) (r s : List Nat), Good x → Good y → code x ++ r = code y ++ s → x = y ∧ r = s
  | .int i, y, r, s, gx, gy, h => by
    obtain ⟨t, ht, e, hs⟩ := code_int i
    rw [e] at h
    cases y with
    | int j =>
      obtain ⟨u, hu, e2, hs2⟩ := code_int j
      rw [e2] at h
      obtain ⟨h1, h2⟩ := cons_app h
      have gx : -1000000000000000 ≤ i ∧ i ≤ 1000000000000000 := gx
      have gy : -1000000000000000 ≤ j ∧ j ≤ 1000000000000000 := gy
      have p4 : (65536 : Nat) ^ 4 = 18446744073709551616 := by decide
      obtain ⟨e3, e4⟩ := digits4 (by rw [p4]; omega) (by rw [p4]; omega) h2
      refine ⟨?_, e4⟩
      have : i = j := by
        rw [h1] at hs
        by_cases c : 0 ≤ i
        · have := hs2.mp (hs.mpr c)
          omega
        · have : ¬ 0 ≤ j := fun z => c (hs.mp (hs2.mpr z))
          omega
      rw [this]
    | str x =>
      rw [code_str] at h
      exact tag_ne h (by rcases ht with rfl | rfl <;> decide)
    | pair a b =>
      rw [code_pair] at h
      exact tag_ne h (by rcases ht with rfl | rfl <;> decide)
    | run c k =>
      rw [code_run] at h
      exact tag_ne h (by rcases ht with rfl | rfl <;> decide)
    | blk cs =>
      rw [code_blk] at h
      exact tag_ne h (by rcases ht with rfl | rfl <;> decide)
  | .str x, y, r, s, gx, gy, h => by
    rw [code_str] at h
    cases y with
    | int j =>
      obtain ⟨u, hu, e2, hs2⟩ := code_int j
      rw [e2] at h
      exact tag_ne h (by rcases hu with rfl | rfl <;> decide)
    | str z =>
      rw [code_str] at h
      obtain ⟨_, h1⟩ := cons_app h
      obtain ⟨h2, h3⟩ := cons_app h1
      obtain ⟨e1, e2⟩ := List.append_inj h3 h2
      refine ⟨?_, e2⟩
      obtain ⟨x⟩ := x
      obtain ⟨z⟩ := z
      have e3 : x = z := Array.toList_inj.mp e1
      rw [e3]
    | pair a b =>
      rw [code_pair] at h
      exact tag_ne h (by decide)
    | run c k =>
      rw [code_run] at h
      exact tag_ne h (by decide)
    | blk cs =>
      rw [code_blk] at h
      exact tag_ne h (by decide)
  | .pair a b, y, r, s, gx, gy, h => by
    rw [code_pair] at h
    cases y with
    | int j =>
      obtain ⟨u, hu, e2, hs2⟩ := code_int j
      rw [e2] at h
      exact tag_ne h (by rcases hu with rfl | rfl <;> decide)
    | str z =>
      rw [code_str] at h
      exact tag_ne h (by decide)
    | pair a' b' =>
      rw [code_pair] at h
      obtain ⟨_, h1⟩ := cons_app h
      rw [List.append_assoc, List.append_assoc] at h1
      have gx : Sc a ∧ Sc b := gx
      have gy : Sc a' ∧ Sc b' := gy
      obtain ⟨e1, h2⟩ := uniq a a' _ _ gx.1.good gy.1.good h1
      obtain ⟨e2, h3⟩ := uniq b b' _ _ gx.2.good gy.2.good h2
      rw [e1, e2]
      exact ⟨rfl, h3⟩
    | run c k =>
      rw [code_run] at h
      exact tag_ne h (by decide)
    | blk cs =>
      rw [code_blk] at h
      exact tag_ne h (by decide)
  | .run c t, y, r, s, gx, gy, h => by
    rw [code_run] at h
    cases y with
    | int j =>
      obtain ⟨u, hu, e2, hs2⟩ := code_int j
      rw [e2] at h
      exact tag_ne h (by rcases hu with rfl | rfl <;> decide)
    | str z =>
      rw [code_str] at h
      exact tag_ne h (by decide)
    | pair a b =>
      rw [code_pair] at h
      exact tag_ne h (by decide)
    | run c' t' =>
      rw [code_run] at h
      obtain ⟨_, h1⟩ := cons_app h
      rw [List.append_assoc, List.append_assoc] at h1
      have gx : Good c ∧ isRun c = false ∧ 2 ≤ t ∧ t ≤ 2000 := by
        rw [Good] at gx
        exact gx
      have gy : Good c' ∧ isRun c' = false ∧ 2 ≤ t' ∧ t' ≤ 2000 := by
        rw [Good] at gy
        exact gy
      have p2 : (65536 : Nat) ^ 2 = 4294967296 := by decide
      obtain ⟨e1, h2⟩ := digits4 (by rw [p2]; omega) (by rw [p2]; omega) h1
      obtain ⟨e2, h3⟩ := uniq c c' _ _ gx.1 gy.1 h2
      rw [e1, e2]
      exact ⟨rfl, h3⟩
    | blk cs =>
      rw [code_blk] at h
      exact tag_ne h (by decide)
  | .blk cs, y, r, s, gx, gy, h => by
    rw [code_blk] at h
    cases y with
    | int j =>
      obtain ⟨u, hu, e2, hs2⟩ := code_int j
      rw [e2] at h
      exact tag_ne h (by rcases hu with rfl | rfl <;> decide)
    | str z =>
      rw [code_str] at h
      exact tag_ne h (by decide)
    | pair a b =>
      rw [code_pair] at h
      exact tag_ne h (by decide)
    | run c' t' =>
      rw [code_run] at h
      exact tag_ne h (by decide)
    | blk ds =>
      rw [code_blk] at h
      obtain ⟨_, h1⟩ := cons_app h
      obtain ⟨h2, h3⟩ := cons_app h1
      rw [Good] at gx gy
      obtain ⟨e1, e2⟩ := uniqL cs ds _ _ gx.1 gy.1 h2 h3
      rw [e1]
      exact ⟨rfl, e2⟩
theorem uniqL : ∀ (xs ys : List Nd) (r s : List Nat), GoodL xs → GoodL ys → xs.length = ys.length → codeL xs ++ r = codeL ys ++ s → xs = ys ∧ r = s
  | [], [], r, s, _, _, _, h => ⟨rfl, h⟩
  | [], _ :: _, _, _, _, _, l, _ => by cases l
  | _ :: _, [], _, _, _, _, l, _ => by cases l
  | x :: xs, y :: ys, r, s, gx, gy, l, h => by
    have h : (code x ++ codeL xs) ++ r = (code y ++ codeL ys) ++ s := h
    rw [List.append_assoc, List.append_assoc] at h
    obtain ⟨e1, h2⟩ := uniq x y _ _ gx.1 gy.1 h
    obtain ⟨e2, h3⟩ := uniqL xs ys _ _ gx.2 gy.2 (Nat.succ.inj l) h2
    rw [e1, e2]
    exact ⟨rfl, h3⟩
end
theorem parts_of : ∀ {x y : Code}, (∀ r, x ++ r ≠ y) → (∀ r, y ++ r ≠ x) → Parts x y
  | [], y, h, _ => absurd rfl (h y)
  | a :: x, [], _, h => absurd rfl (h (a :: x))
  | a :: x, b :: y, h1, h2 => by
    by_cases e : a = b
    · subst e
      exact .inr (parts_of (fun r q => h1 r (congrArg (a :: ·) q)) fun r q => h2 r (congrArg (a :: ·) q))
    · exact .inl e
/-- two different nodes: their codes part -/
theorem code_parts {x y : Nd} (gx : Good x) (gy : Good y) (h : x ≠ y) : Parts (code x) (code y) :=
  parts_of (fun r q => h (uniq x y r [] gx gy (by rw [q, List.append_nil])).1) fun r q => h (uniq y x r [] gy gx (by rw [q, List.append_nil])).1.symm
theorem code_inj {x y : Nd} (gx : Good x) (gy : Good y) (h : code x = code y) : x = y := (uniq x y [] [] gx gy (by rw [h])).1
mutual
theorem code_small : ∀ (x : Nd), Good x → Small (code x)
  | .int i, g => by
    obtain ⟨t, ht, e, _⟩ := code_int i
    rw [e]
    intro n hn
    rcases List.mem_cons.mp hn with rfl | hn
    · rcases ht with rfl | rfl <;> decide
    · exact digits_small _ _ _ hn
  | .str s, g => by
    have g : s.cps.toList.length ≤ 20 ∧ ∀ c ∈ s.cps.toList, c < 65536 := g
    rw [code_str]
    intro n hn
    rcases List.mem_cons.mp hn with rfl | hn
    · decide
    · rcases List.mem_cons.mp hn with rfl | hn
      · omega
      · exact g.2 n hn
  | .pair a b, g => by
    have g : Sc a ∧ Sc b := g
    rw [code_pair]
    intro n hn
    rcases List.mem_cons.mp hn with rfl | hn
    · decide
    · rcases List.mem_append.mp hn with hn | hn
      · exact code_small a g.1.good n hn
      · exact code_small b g.2.good n hn
  | .run c t, g => by
    rw [Good] at g
    rw [code_run]
    intro n hn
    rcases List.mem_cons.mp hn with rfl | hn
    · decide
    · rcases List.mem_append.mp hn with hn | hn
      · exact digits_small _ _ _ hn
      · exact code_small c g.1 n hn
  | .blk cs, g => by
    rw [Good] at g
    rw [code_blk]
    intro n hn
    rcases List.mem_cons.mp hn with rfl | hn
    · decide
    · rcases List.mem_cons.mp hn with rfl | hn
      · omega
      · exact codeL_small cs g.1 n hn
theorem codeL_small : ∀ (l : List Nd), GoodL l → Small (codeL l)
  | [], _ => fun n hn => by cases hn
  | x :: r, g => fun n hn => by
    have hn : n ∈ code x ++ codeL r := hn
    rcases List.mem_append.mp hn with hn | hn
    · exact code_small x g.1 n hn
    · exact codeL_small r g.2 n hn
end
theorem code_ne : ∀ (x : Nd), code x ≠ []
  | .int i => by
    obtain ⟨t, ht, e, _⟩ := code_int i
    rw [e]
    exact List.cons_ne_nil _ _
  | .str s => by rw [code_str]; exact List.cons_ne_nil _ _
  | .pair a b => by rw [code_pair]; exact List.cons_ne_nil _ _
  | .run c t => by rw [code_run]; exact List.cons_ne_nil _ _
  | .blk cs => by rw [code_blk]; exact List.cons_ne_nil _ _
/-! ### sizes, lengths of codes, heights -/
theorem size_int (i : Int) : size (.int i) = 1 := by rw [size]
theorem size_str (s : Str) : size (.str s) = 1 := by rw [size]
theorem size_pair (a b : Nd) : size (.pair a b) = 1 := by rw [size]
theorem size_run (c : Nd) (t : Nat) : size (.run c t) = t * size c := by rw [size]
theorem size_blk (cs : List Nd) : size (.blk cs) = sizeL cs := by rw [size]
mutual
theorem size_pos : ∀ (x : Nd), Good x → 1 ≤ size x
  | .int i, _ => by rw [size_int]; exact Nat.le_refl _
  | .str i, _ => by rw [size_str]; exact Nat.le_refl _
  | .pair _ _, _ => by rw [size_pair]; exact Nat.le_refl _
  | .run c t, g => by
    rw [Good] at g
    rw [size_run]
    have := size_pos c g.1
    exact Nat.mul_pos (by omega) (by omega)
  | .blk cs, g => by
    rw [Good] at g
    rw [size_blk]
    have := sizeL_pos cs g.1
    omega
theorem sizeL_pos : ∀ (l : List Nd), GoodL l → l.length ≤ sizeL l
  | [], _ => Nat.le_refl _
  | x :: r, g => by
    have h1 := size_pos x g.1
    have h2 := sizeL_pos r g.2
    show r.length + 1 ≤ size x + sizeL r
    omega
end
theorem sc_len : ∀ {x : Nd}, Sc x → (code x).length ≤ 22
  | .int i, _ => by
    obtain ⟨t, ht, e, _⟩ := code_int i
    rw [e, List.length_cons, digits_length]
    decide
  | .str s, g => by
    have g : s.cps.toList.length ≤ 20 ∧ ∀ c ∈ s.cps.toList, c < 65536 := g
    rw [code_str, List.length_cons, List.length_cons]
    omega
  | .pair _ _, g => g.elim
  | .run _ _, g => g.elim
  | .blk _, g => g.elim
mutual
theorem code_len : ∀ (x : Nd), Good x → (code x).length + 5 ≤ 50 * size x
  | .int i, g => by
    have := sc_len (x := .int i) g
    rw [size_int]
    omega
  | .str s, g => by
    have := sc_len (x := .str s) g
    rw [size_str]
    omega
  | .pair a b, g => by
    have g : Sc a ∧ Sc b := g
    have h1 := sc_len g.1
    have h2 := sc_len g.2
    rw [size_pair, code_pair, List.length_cons, List.length_append]
    omega
  | .run c t, g => by
    rw [Good] at g
    have h1 := code_len c g.1
    rw [size_run, code_run, List.length_cons, List.length_append, digits_length]
    have h2 : 2 * size c ≤ t * size c := Nat.mul_le_mul_right _ g.2.2.1
    omega
  | .blk cs, g => by
    rw [Good] at g
    have h1 := codeL_len cs g.1
    rw [size_blk, code_blk, List.length_cons, List.length_cons]
    omega
theorem codeL_len : ∀ (l : List Nd), GoodL l → (codeL l).length + 5 * l.length ≤ 50 * sizeL l
  | [], _ => Nat.le_refl _
  | x :: r, g => by
    have h1 := code_len x g.1
    have h2 := codeL_len r g.2
    show (code x ++ codeL r).length + 5 * (r.length + 1) ≤ 50 * (size x + sizeL r)
    rw [List.length_append]
    omega
end
theorem height_int (i : Int) : height (.int i) = 0 := by rw [height]
theorem height_str (s : Str) : height (.str s) = 0 := by rw [height]
theorem height_pair (a b : Nd) : height (.pair a b) = 0 := by rw [height]
theorem height_run (c : Nd) (t : Nat) : height (.run c t) = height c := by rw [height]
theorem height_blk (cs : List Nd) : height (.blk cs) = heightL cs + 1 := by rw [height]
/-- the levels between a node and its deepest leaf: a block has two children or more. Here the bound that a child gives: all others count one each -/
theorem heightL_at : ∀ (l : List Nd), l ≠ [] → ∃ x ∈ l, heightL l = height x
  | [], h => absurd rfl h
  | [x], _ => ⟨x, List.mem_cons_self .., by show max (height x) 0 = _; omega⟩
  | x :: y :: r, _ => by
    obtain ⟨z, hz, e⟩ := heightL_at (y :: r) (List.cons_ne_nil _ _)
    by_cases c : height x ≤ height z
    · refine ⟨z, List.mem_cons_of_mem _ hz, ?_⟩
      show max (height x) (heightL (y :: r)) = _
      rw [e]
      omega
    · refine ⟨x, List.mem_cons_self .., ?_⟩
      show max (height x) (heightL (y :: r)) = _
      rw [e]
      omega
theorem height_mem : ∀ {l : List Nd} {x : Nd}, x ∈ l → height x ≤ heightL l
  | y :: r, x, h => by
    show _ ≤ max (height y) (heightL r)
    rcases List.mem_cons.mp h with rfl | h
    · omega
    · have := height_mem h
      omega
theorem size_mem : ∀ {l : List Nd} {x : Nd}, x ∈ l → size x ≤ sizeL l
  | y :: r, x, h => by
    show _ ≤ size y + sizeL r
    rcases List.mem_cons.mp h with rfl | h
    · omega
    · have := size_mem h
      omega
mutual
/-- a node of height h has 2 ^ h leaves or more -/
theorem height_size : ∀ (x : Nd), Good x → 2 ^ height x ≤ size x
  | .int i, g => by rw [size_int, height_int]; exact Nat.le_refl _
  | .str i, g => by rw [size_str, height_str]; exact Nat.le_refl _
  | .pair _ _, g => by rw [size_pair, height_pair]; exact Nat.le_refl _
  | .run c t, g => by
    rw [Good] at g
    rw [size_run, height_run]
    have h := height_size c g.1
    have h2 : 1 * size c ≤ t * size c := Nat.mul_le_mul_right _ (by omega)
    omega
  | .blk cs, g => by
    rw [Good] at g
    rw [size_blk, height_blk, Nat.pow_succ]
    have h := heightL_size (heightL cs) cs g.1 g.2.2.2
    have h2 : 2 * 2 ^ heightL cs ≤ cs.length * 2 ^ heightL cs := Nat.mul_le_mul_right _ g.2.1
    omega
theorem heightL_size (k : Nat) : ∀ (l : List Nd), GoodL l → (∀ x ∈ l, height x = k) → l.length * 2 ^ k ≤ sizeL l
  | [], _, _ => by
    show 0 * 2 ^ k ≤ _
    rw [Nat.zero_mul]
    exact Nat.zero_le _
  | x :: r, g, h => by
    have h1 := height_size x g.1
    rw [h x (List.mem_cons_self ..)] at h1
    have h2 := heightL_size k r g.2 fun y hy => h y (List.mem_cons_of_mem _ hy)
    show (r.length + 1) * 2 ^ k ≤ size x + sizeL r
    rw [Nat.succ_mul]
    omega
end
/-- below 256 leaves: a height of seven at most -/
theorem height_le {x : Nd} (g : Good x) (h : size x < 256) : height x ≤ 7 := by
  refine Nat.le_of_not_lt fun c => ?_
  have h1 := height_size x g
  have h2 : 2 ^ 8 ≤ 2 ^ height x := Nat.pow_le_pow_right (by decide) c
  omega
end K33
/-! K33Lev: the levels of contents, the fixed nodes, and that the fixed ones stay. -/
namespace K33
open PySem
/-- the item that a group forms -/
def itemN (p : Nd × Nat) : Nd := if p.2 = 1 then p.1 else .run p.1 p.2
noncomputable def items (row : List Nd) : List Nd := (grp id row).map itemN
def cods (l : List Nd) : List Code := l.map code
def parts (its : List Nd) : List (List Nd) := segs (st (cods its)) 0 its
def blks (ps : List (List Nd)) : List Nd := ps.map .blk
/-- the next level: none behind a level of one item -/
noncomputable def nextRow (row : List Nd) : List Nd := if (items row).length ≤ 1 then [] else blks (parts (items row))
inductive Levels : List Nd → List (List Nd) → Prop
  | nil : Levels [] []
  | cons {row : List Nd} {ls : List (List Nd)} : row ≠ [] → Levels (nextRow row) ls → Levels row (row :: ls)
/-- the fixed nodes of the next level, and where they begin -/
noncomputable def fixRow (row : List Nd) : List Nd := blks (fxp (items row).length 0 (parts (items row)))
noncomputable def fixOff (row : List Nd) : Nat := skp size 0 (parts (items row))
inductive Fixes : List Nd → Nat → List (List Nd × Nat) → Prop
  | nil {s : Nat} : Fixes [] s []
  | cons {row : List Nd} {s : Nat} {fs : List (List Nd × Nat)} : row ≠ [] → Fixes (fixRow row) (s + fixOff row) fs → Fixes row s ((row, s) :: fs)
/-- the nodes of one level: leaves or blocks of one height -/
structure RowOk (row : List Nd) : Prop where
  good : ∀ x ∈ row, Good x
  plain : ∀ x ∈ row, isRun x = false
  even : ∀ x ∈ row, ∀ y ∈ row, height x = height y
  few : sizeL row ≤ 2000
theorem RowOk.sub {row r : List Nd} (h : RowOk row) (hs : ∀ x ∈ r, x ∈ row) (hf : sizeL r ≤ 2000) : RowOk r :=
  ⟨fun x hx => h.good x (hs x hx), fun x hx => h.plain x (hs x hx), fun x hx y hy => h.even x (hs x hx) y (hs y hy), hf⟩
theorem leaves_ok {row : List Nd} (h : ∀ x ∈ row, El x) (hl : row.length ≤ 2000) : RowOk row := by
  have hh : ∀ x, El x → height x = 0 := fun x hx => by
    cases x with
    | int i => exact height_int i
    | str s => exact height_str s
    | pair a b => exact height_pair a b
    | run c t => exact hx.elim
    | blk cs => exact hx.elim
  refine ⟨fun x hx => (h x hx).good, fun x hx => (h x hx).notRun, fun x hx y hy => by rw [hh x (h x hx), hh y (h y hy)], ?_⟩
  have : ∀ l : List Nd, (∀ x ∈ l, El x) → sizeL l = l.length := fun l => by
    induction l with
    | nil => intro _; rfl
    | cons x r ih =>
      intro h
      show size x + sizeL r = r.length + 1
      rw [ih fun y hy => h y (List.mem_cons_of_mem _ hy), (h x (List.mem_cons_self ..)).size]
      omega
  rw [this row h]
  exact hl
theorem leaves_size {l : List Nd} (h : ∀ x ∈ l, El x) : sizeL l = l.length := by
  induction l with
  | nil => rfl
  | cons x r ih =>
    show size x + sizeL r = r.length + 1
    rw [ih fun y hy => h y (List.mem_cons_of_mem _ hy), (h x (List.mem_cons_self ..)).size]
    omega
/-! ### items -/
theorem size_item {p : Nd × Nat} (h : 1 ≤ p.2) : size (itemN p) = p.2 * size p.1 := by
  unfold itemN
  by_cases c : p.2 = 1
  · rw [if_pos c, c, Nat.one_mul]
  · rw [if_neg c, size_run]
theorem sizeL_items (row : List Nd) : sizeL (items row) = sizeL row := by
  have h := grp_sum (f := (id : Nd → Nd)) size (fun x y e => by rw [show x = y from e]) row
  rw [sizeL_eq, sizeL_eq, ← h]
  unfold items
  rw [List.map_map]
  congr 1
  apply List.map_congr_left
  intro p hp
  exact size_item (grp_mem hp).2
theorem items_len (row : List Nd) : (items row).length ≤ row.length := by
  unfold items
  rw [List.length_map]
  exact grp_len row
theorem items_ne {row : List Nd} (h : row ≠ []) : items row ≠ [] := by
  unfold items
  intro e
  exact grp_ne h (List.map_eq_nil_iff.mp e)
theorem count_le {row : List Nd} (ok : RowOk row) {p : Nd × Nat} (h : p ∈ grp id row) : p.2 ≤ 2000 := by
  have hs := sizeL_items row
  have hm : size (itemN p) ≤ sizeL (items row) := size_mem (List.mem_map_of_mem h)
  rw [size_item (grp_mem h).2, hs] at hm
  have h1 := size_pos p.1 (ok.good _ (grp_mem h).1)
  have h2 : p.2 * 1 ≤ p.2 * size p.1 := Nat.mul_le_mul_left _ h1
  have := ok.few
  omega
theorem item_good {row : List Nd} (ok : RowOk row) {x : Nd} (h : x ∈ items row) : Good x ∧ ∃ y ∈ row, height x = height y := by
  obtain ⟨p, hp, rfl⟩ := List.mem_map.mp h
  obtain ⟨m, c1⟩ := grp_mem hp
  have c2 := count_le ok hp
  unfold itemN
  by_cases c : p.2 = 1
  · rw [if_pos c]
    exact ⟨ok.good _ m, _, m, rfl⟩
  · rw [if_neg c]
    refine ⟨?_, _, m, height_run _ _⟩
    rw [Good]
    exact ⟨ok.good _ m, ok.plain _ m, by omega, c2⟩
theorem items_nb {row : List Nd} (ok : RowOk row) {i : Nat} {x y : Nd} (hx : (items row)[i]? = some x) (hy : (items row)[i + 1]? = some y) : x ≠ y := by
  unfold items at hx hy
  rw [List.getElem?_map] at hx hy
  cases ex : (grp id row)[i]? with
  | none =>
    rw [ex] at hx
    cases hx
  | some p =>
    cases ey : (grp id row)[i + 1]? with
    | none =>
      rw [ey] at hy
      cases hy
    | some q =>
      rw [ex] at hx
      rw [ey] at hy
      have hx : itemN p = x := Option.some.inj hx
      have hy : itemN q = y := Option.some.inj hy
      have n := grp_nb ex ey
      have mp := grp_mem (List.mem_of_getElem? ex)
      have mq := grp_mem (List.mem_of_getElem? ey)
      have rp := ok.plain _ mp.1
      have rq := ok.plain _ mq.1
      rw [← hx, ← hy]
      unfold itemN
      intro e
      by_cases c : p.2 = 1
      · rw [if_pos c] at e
        by_cases d : q.2 = 1
        · rw [if_pos d] at e
          exact n e
        · rw [if_neg d] at e
          rw [e] at rp
          cases rp
      · rw [if_neg c] at e
        by_cases d : q.2 = 1
        · rw [if_pos d] at e
          rw [← e] at rq
          cases rq
        · rw [if_neg d] at e
          injection e with e1 e2
          exact n e1
/-- the codes of a level's items are a row that the coloring takes -/
theorem cods_row {row : List Nd} (ok : RowOk row) : Row (cods (items row)) where
  small := fun c hc => by
    obtain ⟨x, hx, rfl⟩ := List.mem_map.mp hc
    exact code_small x (item_good ok hx).1
  ne := fun c hc => by
    obtain ⟨x, hx, rfl⟩ := List.mem_map.mp hc
    exact code_ne x
  parts := fun i a b ha hb => by
    unfold cods at ha hb
    rw [List.getElem?_map] at ha hb
    cases ex : (items row)[i]? with
    | none =>
      rw [ex] at ha
      cases ha
    | some x =>
      cases ey : (items row)[i + 1]? with
      | none =>
        rw [ey] at hb
        cases hb
      | some y =>
        rw [ex] at ha
        rw [ey] at hb
        have ha : code x = a := Option.some.inj ha
        have hb : code y = b := Option.some.inj hb
        rw [← ha, ← hb]
        exact code_parts (item_good ok (List.mem_of_getElem? ex)).1 (item_good ok (List.mem_of_getElem? ey)).1 (items_nb ok ex ey)
theorem cods_length (l : List Nd) : (cods l).length = l.length := by
  unfold cods
  rw [List.length_map]
/-! ### blocks -/
/-- every part has two items or more -/
theorem parts_two {α : Type} {p : Nat → Bool} (ra : ∀ k, p k = true → p (k + 1) = false) : ∀ (m : Nat) (L : List α) (i : Nat), L.length ≤ m → 2 ≤ L.length → p (i + 1) = false → p (i + L.length - 1) = false → ∀ q ∈ segs p i L, 2 ≤ q.length := by
  intro m
  induction m with
  | zero => intro L i h h2; omega
  | succ m ih =>
    intro L i h h2 p1 pl q hq
    have e : L ≠ [] := fun e => by
      rw [e] at h2
      simp at h2
    obtain ⟨L1, L2, e1, n1, h1, e2, hc⟩ := segs_first (p := p) i L e
    have hl : L.length = L1.length + L2.length := by rw [e1, List.length_append]
    have l1 : 0 < L1.length := by
      cases L1 with
      | nil => exact absurd rfl n1
      | cons => simp
    have two : 2 ≤ L1.length := by
      refine Nat.le_of_not_lt fun c => ?_
      have z : L2 ≠ [] := fun z => by
        rw [z] at hl
        simp at hl
        omega
      have := hc z
      have e3 : L1.length = 1 := by omega
      rw [e3, p1] at this
      cases this
    rw [e2] at hq
    rcases List.mem_cons.mp hq with rfl | hq
    · exact two
    · by_cases z : L2 = []
      · rw [z, segs_nil] at hq
        cases hq
      · have c := hc z
        have l2 : 0 < L2.length := by
          cases L2 with
          | nil => exact absurd rfl z
          | cons => simp
        have lb : 2 ≤ L2.length := by
          refine Nat.le_of_not_lt fun k => ?_
          have e3 : i + L.length - 1 = i + L1.length := by omega
          rw [e3, c] at pl
          cases pl
        refine ih L2 (i + L1.length) (by omega) lb (ra _ c) ?_ q hq
        have e4 : i + L1.length + L2.length - 1 = i + L.length - 1 := by omega
        rw [e4]
        exact pl
theorem st_no1 (cs : List Code) : st cs 1 = false := by
  cases c : st cs 1 with
  | false => rfl
  | true => have := (st_range c).1; omega
theorem st_nolast (cs : List Code) : st cs (cs.length - 1) = false := by
  cases c : st cs (cs.length - 1) with
  | false => rfl
  | true => have := (st_range c).2; omega
theorem part_two {its : List Nd} (h : 2 ≤ its.length) {q : List Nd} (hq : q ∈ parts its) : 2 ≤ q.length := by
  unfold parts at hq
  refine parts_two (fun k c => st_adj c) its.length its 0 (Nat.le_refl _) h (st_no1 _) ?_ q hq
  have := st_nolast (cods its)
  rw [cods_length] at this
  rw [Nat.zero_add]
  exact this
theorem sizeL_blks : ∀ ps : List (List Nd), sizeL (blks ps) = sizeL ps.flatten
  | [] => rfl
  | q :: qs => by
    show size (.blk q) + sizeL (blks qs) = sizeL (q ++ qs.flatten)
    rw [size_blk, sizeL_blks qs, sizeL_app]
/-- blocks of the items of a level are nodes of the next one -/
theorem blks_ok {row : List Nd} (ok : RowOk row) {ps : List (List Nd)} (hp : ∀ q ∈ ps, q ∈ parts (items row)) (h2 : ∀ q ∈ ps, 2 ≤ q.length) (hf : sizeL (blks ps) ≤ 2000) : RowOk (blks ps) := by
  have mem : ∀ q ∈ ps, ∀ x ∈ q, x ∈ items row := fun q hq x hx => by
    have e : (parts (items row)).flatten = items row := segs_flat 0 (items row)
    rw [← e]
    exact List.mem_flatten.mpr ⟨q, hp q hq, hx⟩
  have hh : ∀ q ∈ ps, ∀ x ∈ q, ∀ y ∈ row, height x = height y := fun q hq x hx y hy => by
    obtain ⟨_, z, hz, e⟩ := item_good ok (mem q hq x hx)
    rw [e]
    exact ok.even z hz y hy
  have hl : ∀ q ∈ ps, ∀ x ∈ q, height x = heightL q := fun q hq x hx => by
    obtain ⟨y, hy, e⟩ := heightL_at q (fun e => by rw [e] at hx; cases hx)
    rw [e]
    obtain ⟨_, z, hz, e2⟩ := item_good ok (mem q hq y hy)
    rw [e2]
    exact hh q hq x hx z hz
  have sz : ∀ q ∈ ps, size (.blk q) ≤ sizeL (blks ps) := fun q hq => size_mem (List.mem_map_of_mem hq)
  refine ⟨fun x hx => ?_, fun x hx => ?_, fun x hx y hy => ?_, hf⟩
  · obtain ⟨q, hq, rfl⟩ := List.mem_map.mp hx
    have g : GoodL q := (goodL_iff q).mpr fun x hx => (item_good ok (mem q hq x hx)).1
    rw [Good]
    refine ⟨g, h2 q hq, ?_, hl q hq⟩
    have h1 := sizeL_pos q g
    have h3 := sz q hq
    rw [size_blk] at h3
    omega
  · obtain ⟨q, hq, rfl⟩ := List.mem_map.mp hx
    rfl
  · obtain ⟨q, hq, rfl⟩ := List.mem_map.mp hx
    obtain ⟨q', hq', rfl⟩ := List.mem_map.mp hy
    rw [height_blk, height_blk]
    have two := h2 q hq
    have two' := h2 q' hq'
    cases q with
    | nil => simp at two
    | cons x r =>
      cases q' with
      | nil => simp at two'
      | cons y r' =>
        rw [← hl _ hq x (List.mem_cons_self ..), ← hl _ hq' y (List.mem_cons_self ..)]
        obtain ⟨_, z, hz, e2⟩ := item_good ok (mem _ hq' y (List.mem_cons_self ..))
        rw [e2, hh _ hq x (List.mem_cons_self ..) z hz]
theorem parts_flat (its : List Nd) : (parts its).flatten = its := segs_flat 0 its
theorem sizeL_nextRow {row : List Nd} : sizeL (nextRow row) ≤ sizeL row := by
  unfold nextRow
  split
  · exact Nat.zero_le _
  · rw [sizeL_blks, parts_flat, sizeL_items]
    exact Nat.le_refl _
theorem nextRow_ok {row : List Nd} (ok : RowOk row) : RowOk (nextRow row) := by
  have hf : sizeL (nextRow row) ≤ 2000 := Nat.le_trans sizeL_nextRow ok.few
  unfold nextRow at hf ⊢
  by_cases c : (items row).length ≤ 1
  · rw [if_pos c]
    exact ⟨(fun x hx => by cases hx), (fun x hx => by cases hx), (fun x hx => by cases hx), by decide⟩
  · rw [if_neg c] at hf ⊢
    exact blks_ok ok (fun q hq => hq) (fun q hq => part_two (by omega) hq) hf
theorem flat_len {α : Type} : ∀ (ps : List (List α)), (∀ q ∈ ps, 2 ≤ q.length) → 2 * ps.length ≤ ps.flatten.length
  | [], _ => Nat.le_refl _
  | q :: qs, h => by
    have h1 := h q (List.mem_cons_self ..)
    have h2 := flat_len qs fun x hx => h x (List.mem_cons_of_mem _ hx)
    rw [List.flatten_cons, List.length_append, List.length_cons]
    omega
theorem nextRow_len {row : List Nd} (h : row ≠ []) : (nextRow row).length < row.length := by
  have l1 : 0 < row.length := by
    cases row with
    | nil => exact absurd rfl h
    | cons => simp
  have l2 := items_len row
  unfold nextRow
  by_cases c : (items row).length ≤ 1
  · rw [if_pos c]
    exact l1
  · rw [if_neg c]
    have h3 := flat_len (parts (items row)) fun q hq => part_two (by omega) hq
    rw [parts_flat] at h3
    show (blks (parts (items row))).length < _
    unfold blks
    rw [List.length_map]
    omega
theorem levels_ex : ∀ (m : Nat) (row : List Nd), row.length ≤ m → ∃ ls, Levels row ls
  | 0, row, h => by
    have e : row = [] := List.eq_nil_of_length_eq_zero (by omega)
    subst e
    exact ⟨[], .nil⟩
  | m + 1, row, h => by
    by_cases e : row = []
    · subst e
      exact ⟨[], .nil⟩
    · obtain ⟨ls, hl⟩ := levels_ex m (nextRow row) (by have := nextRow_len e; omega)
      exact ⟨row :: ls, .cons e hl⟩
theorem Levels.len {row : List Nd} {ls : List (List Nd)} (h : Levels row ls) : ls.length ≤ row.length := by
  induction h with
  | nil => exact Nat.le_refl _
  | cons e _ ih =>
    have := nextRow_len e
    rw [List.length_cons]
    omega
/-! ### fixed rows -/
theorem fxp_mem {α : Type} {n : Nat} : ∀ {ps : List (List α)} {pl : Nat} {q : List α}, q ∈ fxp n pl ps → q ∈ ps
  | [], _, _, h => h
  | r :: rs, pl, q, h => by
    by_cases c : pl < 7
    · rw [fxp_lt c] at h
      exact List.mem_cons_of_mem _ (fxp_mem h)
    · by_cases d : pl + r.length + 3 ≤ n
      · rw [fxp_in c d] at h
        rcases List.mem_cons.mp h with rfl | h
        · exact List.mem_cons_self ..
        · exact List.mem_cons_of_mem _ (fxp_mem h)
      · rw [fxp_out c d] at h
        exact List.mem_cons_of_mem _ (fxp_mem h)
theorem fxp_sub {α : Type} {n : Nat} : ∀ (ps : List (List α)) (pl : Nat), (fxp n pl ps).Sublist ps
  | [], _ => .slnil
  | r :: rs, pl => by
    by_cases c : pl < 7
    · rw [fxp_lt c]
      exact (fxp_sub rs _).cons _
    · by_cases d : pl + r.length + 3 ≤ n
      · rw [fxp_in c d]
        exact (fxp_sub rs _).cons₂ _
      · rw [fxp_out c d]
        exact (fxp_sub rs _).cons _
theorem sizeL_sub {a b : List Nd} (h : a.Sublist b) : sizeL a ≤ sizeL b := by
  induction h with
  | slnil => exact Nat.le_refl _
  | cons x _ ih =>
    show _ ≤ size x + sizeL _
    omega
  | cons_cons x _ ih =>
    show size x + sizeL _ ≤ size x + sizeL _
    omega
/-- with fewer than two items no part is fixed -/
theorem fix_few {row : List Nd} (h : (items row).length ≤ 9) : fixRow row = [] := by
  have all : ∀ (ps : List (List Nd)) (pl : Nat), pl + ps.flatten.length ≤ 9 → (∀ q ∈ ps, q ≠ []) → fxp (items row).length pl ps = [] := by
    intro ps
    induction ps with
    | nil => intro _ _ _; rfl
    | cons q qs ih =>
      intro pl hl hq
      have nq : 0 < q.length := by
        have := hq q (List.mem_cons_self ..)
        cases q with
        | nil => exact absurd rfl this
        | cons => simp
      rw [List.flatten_cons, List.length_append] at hl
      have r := ih (pl + q.length) (by omega) fun x hx => hq x (List.mem_cons_of_mem _ hx)
      by_cases c : pl < 7
      · rw [fxp_lt c]
        exact r
      · rw [fxp_out c (by omega)]
        exact r
  unfold fixRow
  rw [all (parts (items row)) 0 (by rw [parts_flat]; omega) fun q hq => segs_mem 0 _ q hq]
  rfl
theorem sizeL_fixRow {row : List Nd} : sizeL (fixRow row) ≤ sizeL row := by
  have h1 : (fixRow row).Sublist (blks (parts (items row))) := (fxp_sub _ _).map _
  have h2 := sizeL_sub h1
  rw [sizeL_blks, parts_flat, sizeL_items] at h2
  exact h2
theorem fixRow_ok {row : List Nd} (ok : RowOk row) : RowOk (fixRow row) := by
  by_cases c : (items row).length ≤ 9
  · rw [fix_few c]
    exact ⟨(fun x hx => by cases hx), (fun x hx => by cases hx), (fun x hx => by cases hx), by decide⟩
  · exact blks_ok ok (fun q hq => fxp_mem hq) (fun q hq => part_two (by omega) (fxp_mem hq)) (Nat.le_trans sizeL_fixRow ok.few)
theorem fixRow_len {row : List Nd} (h : row ≠ []) : (fixRow row).length < row.length := by
  have l1 : 0 < row.length := by
    cases row with
    | nil => exact absurd rfl h
    | cons => simp
  by_cases c : (items row).length ≤ 9
  · rw [fix_few c]
    exact l1
  · have h1 : (fixRow row).length ≤ (parts (items row)).length := by
      unfold fixRow blks
      rw [List.length_map]
      exact (fxp_sub _ _).length_le
    have h3 := flat_len (parts (items row)) fun q hq => part_two (by omega) hq
    rw [parts_flat] at h3
    have l2 := items_len row
    omega
theorem fixes_ex : ∀ (m : Nat) (row : List Nd) (s : Nat), row.length ≤ m → ∃ fs, Fixes row s fs
  | 0, row, s, h => by
    have e : row = [] := List.eq_nil_of_length_eq_zero (by omega)
    subst e
    exact ⟨[], .nil⟩
  | m + 1, row, s, h => by
    by_cases e : row = []
    · subst e
      exact ⟨[], .nil⟩
    · obtain ⟨fs, hl⟩ := fixes_ex m (fixRow row) (s + fixOff row) (by have := fixRow_len e; omega)
      exact ⟨(row, s) :: fs, .cons e hl⟩
/-! ### the fixed nodes within a row -/
/-- frow stands in row, behind leaves of the number off -/
structure In (row frow : List Nd) (off a b : Nat) : Prop where
  ex : ∃ pre post, row = pre ++ (frow ++ post) ∧ sizeL pre = off ∧ pre.length ≤ a ∧ post.length ≤ b
theorem items_map (row : List Nd) : items row = (grp id row).map itemN := rfl
/-- the items of a row around frow -/
theorem items_around {pre frow post : List Nd} (h : frow ≠ []) : ∃ A G' B : List Nd, items (pre ++ (frow ++ post)) = A ++ (G' ++ B) ∧ G'.length = (items frow).length ∧
    (∀ j, 1 ≤ j → j + 2 ≤ (items frow).length → G'[j]? = (items frow)[j]?) ∧ A.length ≤ pre.length ∧ B.length ≤ post.length ∧
    (∀ p0, 1 ≤ p0 → p0 < (items frow).length → sizeL (A ++ G'.take p0) = sizeL pre + sizeL ((items frow).take p0)) := by
  obtain ⟨gs, y, k, j, B, e1, e2, hB⟩ := grp_post frow h post
  cases gs with
  | nil =>
    rw [List.nil_append] at e2
    obtain ⟨A, i, e3, hA, hs⟩ := grp_pre size e2 pre
    refine ⟨A.map itemN, [itemN (y, k + j + i)], B.map itemN, ?_, ?_, ?_, by rw [List.length_map]; exact hA, by rw [List.length_map]; exact hB, ?_⟩
    · rw [items_map, e3, List.map_append, List.map_cons]
      rfl
    · rw [items_map, e1]
      rfl
    · intro j h1 h2
      rw [items_map, e1] at h2
      simp at h2
    · intro p0 h1 h2
      rw [items_map, e1] at h2
      simp at h2
      omega
  | cons w gs =>
    obtain ⟨z, m⟩ := w
    rw [List.cons_append] at e2
    obtain ⟨A, i, e3, hA, hs⟩ := grp_pre size e2 pre
    have eL : items frow = itemN (z, m) :: (gs.map itemN ++ [itemN (y, k)]) := by
      rw [items_map, e1, List.map_append, List.map_cons, List.map_cons]
      rfl
    have m1 : 1 ≤ m := (grp_mem (f := (id : Nd → Nd)) (l := frow) (p := (z, m)) (by rw [e1]; exact List.mem_cons_self ..)).2
    have Am : ∀ p ∈ A, 1 ≤ p.2 := fun p hp => (grp_mem (f := (id : Nd → Nd)) (l := pre ++ (frow ++ post)) (p := p) (by rw [e3]; exact List.mem_append_left _ hp)).2
    have sA : sizeL (A.map itemN) = (A.map fun p => p.2 * size p.1).sum := by
      rw [sizeL_eq, List.map_map]
      congr 1
      exact List.map_congr_left fun p hp => size_item (Am p hp)
    refine ⟨A.map itemN, itemN (z, m + i) :: (gs.map itemN ++ [itemN (y, k + j)]), B.map itemN, ?_, ?_, ?_, by rw [List.length_map]; exact hA, by rw [List.length_map]; exact hB, ?_⟩
    · rw [items_map, e3, List.map_append, List.map_cons, List.map_append, List.map_cons]
      simp
    · rw [eL]
      simp
    · intro j' h1 h2
      rw [eL] at h2 ⊢
      obtain ⟨j', rfl⟩ : ∃ x, j' = x + 1 := ⟨j' - 1, by omega⟩
      rw [List.getElem?_cons_succ, List.getElem?_cons_succ]
      have l : j' < (gs.map itemN).length := by
        simp at h2 ⊢
        omega
      rw [List.getElem?_append_left l, List.getElem?_append_left l]
    · intro p0 h1 h2
      rw [eL] at h2 ⊢
      obtain ⟨p0, rfl⟩ : ∃ x, p0 = x + 1 := ⟨p0 - 1, by omega⟩
      rw [List.take_succ_cons, List.take_succ_cons]
      have l : p0 ≤ (gs.map itemN).length := by
        simp at h2 ⊢
        omega
      rw [List.take_append_of_le_length l, List.take_append_of_le_length l, sizeL_app, sA]
      show _ + (size (itemN (z, m + i)) + _) = sizeL pre + (size (itemN (z, m)) + _)
      rw [size_item (by show 1 ≤ m + i; omega), size_item m1, sizeL_eq pre, ← hs]
      show _ + ((m + i) * size z + _) = _ + i * size z + (m * size z + _)
      rw [Nat.add_mul]
      omega
theorem codeAt_cods {l : List Nd} {i : Nat} {x : Nd} (h : l[i]? = some x) : codeAt (cods l) i = code x := by
  unfold codeAt cods
  rw [List.getD_eq_getElem?_getD, List.getElem?_map, h]
  rfl
/-- THE STEP: where frow stands in row, the next fixed nodes stand in the next row -/
theorem fix_step {row frow : List Nd} {off a b : Nat} (h : In row frow off a b) (ne : frow ≠ []) :
    (fixRow frow = [] ∧ (a ≤ 7 → b ≤ 3 → (nextRow row).length ≤ 10)) ∨
    (fixRow frow ≠ [] ∧ nextRow row ≠ [] ∧ ∃ pre post, nextRow row = pre ++ (fixRow frow ++ post) ∧ sizeL pre = off + fixOff frow ∧ (a ≤ 7 → pre.length ≤ 7) ∧ (b ≤ 3 → post.length ≤ 3)) := by
  obtain ⟨pre, post, rfl, ho, ha, hb⟩ := h
  obtain ⟨A, G', B, e1, lG, hg, hA, hB, hs⟩ := items_around (pre := pre) (post := post) ne
  have nG : 0 < (items frow).length := by
    have := items_ne ne
    cases h : items frow with
    | nil => exact absurd h this
    | cons => simp
  have lW : (items (pre ++ (frow ++ post))).length = A.length + (items frow).length + B.length := by
    rw [e1, List.length_append, List.length_append, lG]
    omega
  have ag : ∀ j, 7 ≤ j → j + 3 ≤ (items frow).length → st (cods (items (pre ++ (frow ++ post)))) (A.length + j) = st (cods (items frow)) j := by
    intro j h1 h2
    have key := st_local (cs := cods (items (pre ++ (frow ++ post)))) (ds := cods (items frow)) (s := A.length) (t := 0) (a := 1) (n := (items frow).length - 1) (i := j) (fun i h3 h4 => by
      have hi : G'[i]? = (items frow)[i]? := hg i h3 (by omega)
      have hx : i < (items frow).length := by omega
      have hx2 : (items frow)[i]? = some ((items frow)[i]) := List.getElem?_eq_getElem hx
      have hw : (items (pre ++ (frow ++ post)))[i + A.length]? = some ((items frow)[i]) := by
        rw [e1, List.getElem?_append_right (by omega), Nat.add_sub_cancel, List.getElem?_append_left (by omega), hi, hx2]
      rw [codeAt_cods hw, codeAt_cods (i := i + 0) hx2]) (by omega) (by omega) (by rw [cods_length, lW]; omega) (by rw [cods_length]; omega)
    rw [Nat.add_comm A.length j]
    exact key
  have hr : ∀ k, st (cods (items (pre ++ (frow ++ post)))) k = true → 2 ≤ k ∧ k + 1 < (items (pre ++ (frow ++ post))).length := fun k c => by
    have := st_range c
    rw [cods_length] at this
    exact this
  have hq : ∀ k, st (cods (items frow)) k = true → 2 ≤ k ∧ k + 1 < (items frow).length := fun k c => by
    have := st_range c
    rw [cods_length] at this
    exact this
  rcases fixed_mid (sz := size) (G := items frow) (W := items (pre ++ (frow ++ post))) (A := A) (G' := G') (B := B) (a := A.length) (n := (items frow).length) (q := st (cods (items frow)))
      (r := st (cods (items (pre ++ (frow ++ post))))) e1 rfl rfl lG hg hq hr (fun k c => st_adj c) ag nG with ⟨h1, h2⟩ | ⟨X, Y, p0, h1, h2, h3, h4, h5, h6, h7, h8⟩
  · refine .inl ⟨?_, fun ha7 hb3 => ?_⟩
    · show blks (fxp (items frow).length 0 (segs (st (cods (items frow))) 0 (items frow))) = []
      rw [h1]
      rfl
    · unfold nextRow
      by_cases c : (items (pre ++ (frow ++ post))).length ≤ 1
      · rw [if_pos c]
        exact Nat.zero_le _
      · rw [if_neg c]
        unfold blks
        rw [List.length_map]
        exact h2 (by omega) (by omega)
  · have n1 : fixRow frow ≠ [] := by
      show blks (fxp (items frow).length 0 (segs (st (cods (items frow))) 0 (items frow))) ≠ []
      intro e
      exact h1 (List.map_eq_nil_iff.mp e)
    have big : ¬ (items (pre ++ (frow ++ post))).length ≤ 1 := by omega
    have en : nextRow (pre ++ (frow ++ post)) = blks X ++ (fixRow frow ++ blks Y) := by
      unfold nextRow
      rw [if_neg big]
      show blks (segs _ 0 _) = _
      rw [h2]
      unfold blks fixRow
      rw [List.map_append, List.map_append]
      rfl
    refine .inr ⟨n1, ?_, blks X, blks Y, en, ?_, fun h => ?_, fun h => ?_⟩
    · rw [en]
      intro e
      exact n1 (List.append_eq_nil_iff.mp (List.append_eq_nil_iff.mp e).2).1
    · rw [sizeL_blks, h3, hs p0 (by omega) (by omega), ho]
      show off + _ = off + skp size 0 (segs _ 0 _)
      rw [h4, sizeL_eq]
    · unfold blks
      rw [List.length_map]
      exact h7 (by omega)
    · unfold blks
      rw [List.length_map]
      exact h8 (by omega)
theorem levels_small {row : List Nd} {ls : List (List Nd)} (h : Levels row ls) (hl : row.length ≤ 10) : ∀ (k : Nat) (r : List Nd), ls[k]? = some r → r.length ≤ 10 := by
  induction h with
  | nil => intro k r e; cases e
  | @cons row ls e _ ih =>
    intro k r hk
    cases k with
    | zero =>
      have : row = r := Option.some.inj hk
      rw [← this]
      exact hl
    | succ k =>
      have := nextRow_len e
      exact ih (by omega) k r hk
/-- what the law asks of the levels -/
structure Stay (fs : List (List Nd × Nat)) (ls lw : List (List Nd)) (d : Nat) : Prop where
  le1 : fs.length ≤ ls.length
  le2 : fs.length ≤ lw.length
  far : ∀ (k : Nat) (r : List Nd), fs.length ≤ k → ls[k]? = some r → r.length ≤ 10
  at_ : ∀ (k : Nat) (frow : List Nd) (s : Nat) (row wide : List Nd), fs[k]? = some (frow, s) → ls[k]? = some row → lw[k]? = some wide → frow ≠ [] ∧ In row frow s 7 3 ∧ ∃ a b, In wide frow (s + d) a b
theorem stay_of {frow : List Nd} {s : Nat} {fs : List (List Nd × Nat)} (hf : Fixes frow s fs) : ∀ {row wide : List Nd} {ls lw : List (List Nd)} {d : Nat}, Levels row ls → Levels wide lw →
    (frow = [] → row.length ≤ 10) → (frow ≠ [] → In row frow s 7 3 ∧ ∃ a b, In wide frow (s + d) a b) → Stay fs ls lw d := by
  induction hf with
  | nil =>
    intro row wide ls lw d h1 h2 h3 _
    exact ⟨Nat.zero_le _, Nat.zero_le _, fun k r _ e => levels_small h1 (h3 rfl) k r e, fun k _ _ _ _ e => by cases e⟩
  | @cons frow s fs ne _ ih =>
    intro row wide ls lw d h1 h2 _ h4
    obtain ⟨i1, a, b, i2⟩ := h4 ne
    have rn : row ≠ [] := by
      obtain ⟨p, q, e, _⟩ := i1.ex
      rw [e]
      intro z
      exact ne (List.append_eq_nil_iff.mp (List.append_eq_nil_iff.mp z).2).1
    have wn : wide ≠ [] := by
      obtain ⟨p, q, e, _⟩ := i2.ex
      rw [e]
      intro z
      exact ne (List.append_eq_nil_iff.mp (List.append_eq_nil_iff.mp z).2).1
    cases h1 with
    | nil => exact absurd rfl rn
    | @cons _ ls _ h1 =>
      cases h2 with
      | nil => exact absurd rfl wn
      | @cons _ lw _ h2 =>
        have S : Stay fs ls lw d := by
          refine ih h1 h2 (fun e => ?_) fun n => ?_
          · rcases fix_step i1 ne with ⟨_, h⟩ | ⟨h, _⟩
            · exact h (by decide) (by decide)
            · exact absurd e h
          · refine ⟨?_, ?_⟩
            · rcases fix_step i1 ne with ⟨h, _⟩ | ⟨_, _, pre, post, e, hs, ha, hb⟩
              · exact absurd h n
              · exact ⟨pre, post, e, hs, ha (by decide), hb (by decide)⟩
            · rcases fix_step i2 ne with ⟨h, _⟩ | ⟨_, _, pre, post, e, hs, ha, hb⟩
              · exact absurd h n
              · exact ⟨pre.length, post.length, pre, post, e, by omega, Nat.le_refl _, Nat.le_refl _⟩
        refine ⟨Nat.succ_le_succ S.le1, Nat.succ_le_succ S.le2, fun k r hk e => ?_, fun k f t r w e1 e2 e3 => ?_⟩
        · cases k with
          | zero => rw [List.length_cons] at hk; omega
          | succ k => exact S.far k r (Nat.le_of_succ_le_succ hk) e
        · cases k with
          | zero =>
            have e1 : (frow, s) = (f, t) := Option.some.inj e1
            have e2 : row = r := Option.some.inj e2
            have e3 : wide = w := Option.some.inj e3
            injection e1 with e4 e5
            rw [← e4, ← e5, ← e2, ← e3]
            exact ⟨ne, i1, a, b, i2⟩
          | succ k => exact S.at_ k f t r w e1 e2 e3
/-- THE PLAIN LAW -/
theorem plain_law {bef mid aft : List Nd} (hb : ∀ x ∈ bef, El x) {fs : List (List Nd × Nat)} {ls lw : List (List Nd)} (hf : Fixes mid 0 fs) (hl : Levels mid ls) (hw : Levels (bef ++ (mid ++ aft)) lw) : Stay fs ls lw bef.length := by
  refine stay_of hf hl hw (fun e => by rw [e]; exact Nat.zero_le _) fun ne => ⟨⟨[], [], by rw [List.nil_append, List.append_nil], rfl, Nat.zero_le _, Nat.zero_le _⟩, bef.length, aft.length, bef, aft, rfl, ?_, Nat.le_refl _, Nat.le_refl _⟩
  rw [Nat.zero_add]
  exact leaves_size hb
end K33
/-! K33Base: the text by places; what a caller knows of a def; heaps that grow. -/
namespace K33
open PySem PySem.Spec PyProof.Rows L2
/-! ### the text -/
def topAt (i : Nat) : Stmt := PySem.Challenge.pw_sameshape_k33_whole_fixed_nodes_stay.main.body.getD i (.Pass ⟨0, 0, 0, 0⟩)
abbrev s_digits_of : Stmt := topAt 3
abbrev s_code_of : Stmt := topAt 4
abbrev s_run_code : Stmt := topAt 6
abbrev s_block_code : Stmt := topAt 7
abbrev s_node_code : Stmt := topAt 8
abbrev s_groups_of : Stmt := topAt 9
abbrev s_item_of : Stmt := topAt 10
abbrev s_items_of : Stmt := topAt 11
abbrev s_first_difference : Stmt := topAt 14
abbrev s_coin_after : Stmt := topAt 15
abbrev s_coins_of_codes : Stmt := topAt 16
abbrev s_coins_of : Stmt := topAt 17
abbrev s_mix : Stmt := topAt 18
abbrev s_one_round : Stmt := topAt 19
abbrev s_colors_of_coins : Stmt := topAt 20
abbrev s_colors_of : Stmt := topAt 21
abbrev s_is_peak : Stmt := topAt 23
abbrev s_starts_of : Stmt := topAt 24
abbrev s_cut : Stmt := topAt 25
abbrev s_blocks_of : Stmt := topAt 26
abbrev s_leaf_row : Stmt := topAt 30
abbrev s_item_row : Stmt := topAt 31
abbrev s_color_row : Stmt := topAt 32
abbrev s_grow : Stmt := topAt 33
abbrev s_row_spans : Stmt := topAt 35
abbrev s_spans_of : Stmt := topAt 36
abbrev s_fixed_blocks : Stmt := topAt 40
abbrev s_fixed_of : Stmt := topAt 41
abbrev s_law_tape : Stmt := topAt 43
abbrev s_law_draw : Stmt := topAt 44
abbrev s_law_sign : Stmt := topAt 45
abbrev s_law_word : Stmt := topAt 46
abbrev s_law_scalar : Stmt := topAt 47
abbrev s_law_element : Stmt := topAt 48
abbrev s_law_contents : Stmt := topAt 49
abbrev s_law_large : Stmt := topAt 50
abbrev s_law_levels : Stmt := topAt 51
abbrev s_law_stays : Stmt := topAt 52
abbrev s_law : Stmt := topAt 53
abbrev m_init : Stmt := inClass (topAt 28) 0
abbrev m_number_of : Stmt := inClass (topAt 28) 1
abbrev m_measure : Stmt := inClass (topAt 28) 2
abbrev m_item_number : Stmt := inClass (topAt 28) 3
/-- a def as the top has left it: found by the module's name x -/
structure Df (K : PySem.W.Frag) (mg : Str → Option Value) (x : Str) (st : Stmt) : Prop where
  ex : ∃ (f : Addr) (fd : FuncData), FunD K x x (defArgs st) (defBody st) (defScope st) [] [] f fd ∧ mg x = some (.ref f)
/-- a method of the class at C -/
structure Dm (K : PySem.W.Frag) (C : Addr) (x qual : Str) (st : Stmt) : Prop where
  ex : ∃ (f : Addr) (fd : FuncData), FunD K x qual (defArgs st) (defBody st) (defScope st) [] [] f fd ∧ Meth K C x f
section
variable (P : Program) (w : World) (K : PySem.W.Frag) (mg : Str → Option Value) (base : Heap)
/-- what a caller knows of the def that the module's name x stands for -/
structure Cal (x : Str) (k : Nat) (ps : List Str) (sp : Sp) : Prop where
  ex : ∃ (f : Addr) (fd : FuncData), FnOk P w K mg base CX0 k f fd ps sp ∧ mg x = some (.ref f) ∧ PySem.W.keepIn K (.ref f) = true ∧ Binds K fd ps []
/-- .. of a method -/
structure CalM (C : Addr) (x : Str) (k : Nat) (ps : List Str) (sp : Sp) : Prop where
  ex : ∃ (f : Addr) (fd : FuncData), FnOk P w K mg base CX0 k f fd ps sp ∧ Meth K C x f ∧ Binds K fd ps []
end
section
variable {P : Program} {w : World} {K : PySem.W.Frag} {mg : Str → Option Value} {base : Heap}
theorem okD {x qual : Str} {st : Stmt} {f : Addr} {fd : FuncData} {N ps : List Str} {k : Nat} {sp : Sp} (F : FunD K x qual (defArgs st) (defBody st) (defScope st) [] [] f fd) (S : FnScope N ps (defScope st)) (len : ∀ vs H Q E, sp vs H Q E → vs.length = ps.length)
    (hb : ∀ (cdv : Value) (A : Around) (outer : List Env) (s : Shared) (H : Hp) (vs : List V) (Q : VK) (E : XK), Room k (A.deeper (envOfC qual (defScope st) s.heap.objs.size f cdv)) → sp vs H Q E →
      ∃ t, PSs (cxOf CX0 P w K mg base N qual (defScope st) f cdv A outer s H E).nox (defBody st) t ∧ t { nx := fun _ H' => Q .non H', rt := Q } (start N vs) H) : FnOk P w K mg base CX0 (k + 1) f fd ps sp := by
  refine F.ok S len fun cdv A outer s H vs Q E hr h => ?_
  obtain ⟨t, h1, h2⟩ := hb cdv A outer s H vs Q E hr h
  exact ⟨t, PSs.nox h1, h2⟩
theorem Cal.mono {x : Str} {j k : Nat} {ps : List Str} {sp : Sp} (c : Cal P w K mg base x j ps sp) (h : j ≤ k) : Cal P w K mg base x k ps sp := by
  obtain ⟨f, fd, F, r⟩ := c.ex
  exact ⟨f, fd, F.mono h, r⟩
theorem CalM.mono {C : Addr} {x : Str} {j k : Nat} {ps : List Str} {sp : Sp} (c : CalM P w K mg base C x j ps sp) (h : j ≤ k) : CalM P w K mg base C x k ps sp := by
  obtain ⟨f, fd, F, r⟩ := c.ex
  exact ⟨f, fd, F.mono h, r⟩
/-- a def's package, from its body's promise -/
theorem Df.cal {x : Str} {st : Stmt} {k : Nat} {ps : List Str} {sp : Sp} (d : Df K mg x st)
    (hb : ∀ (kV doc pm : Value) (an : Option Addr) (cdv ct : Value) (us : List Value), us.length = ps.length → bindArgs (PySem.W.fnOf x x (defArgs st) (defBody st) (defScope st) .none kV doc pm an cdv ct) ⟨us, []⟩ = pure (ps.zip us))
    (ok : ∀ f fd, FunD K x x (defArgs st) (defBody st) (defScope st) [] [] f fd → mg x = some (.ref f) → PySem.W.keepIn K (.ref f) = true → Binds K fd ps [] → FnOk P w K mg base CX0 k f fd ps sp) : Cal P w K mg base x k ps sp := by
  obtain ⟨f, fd, F, m⟩ := d.ex
  have b : Binds K fd ps [] := FunD.bindsN F hb
  exact ⟨f, fd, ok f fd F m F.kp b, m, F.kp, b⟩
theorem Dm.cal {C : Addr} {x qual : Str} {st : Stmt} {k : Nat} {ps : List Str} {sp : Sp} (d : Dm K C x qual st)
    (hb : ∀ (kV doc pm : Value) (an : Option Addr) (cdv ct : Value) (us : List Value), us.length = ps.length → bindArgs (PySem.W.fnOf x qual (defArgs st) (defBody st) (defScope st) .none kV doc pm an cdv ct) ⟨us, []⟩ = pure (ps.zip us))
    (ok : ∀ f fd, FunD K x qual (defArgs st) (defBody st) (defScope st) [] [] f fd → FnOk P w K mg base CX0 k f fd ps sp) : CalM P w K mg base C x k ps sp := by
  obtain ⟨f, fd, F, m⟩ := d.ex
  exact ⟨f, fd, ok f fd F, m, FunD.bindsN F hb⟩
end
/-- what the top has left: defs, constants, the class NodeTable at C; the built-in names that are still built-in -/
structure Tx (K : PySem.W.Frag) (mg : Str → Option Value) (C : Addr) : Prop where
  d_digits_of : Df K mg "digits_of" s_digits_of
  d_code_of : Df K mg "code_of" s_code_of
  d_run_code : Df K mg "run_code" s_run_code
  d_block_code : Df K mg "block_code" s_block_code
  d_node_code : Df K mg "node_code" s_node_code
  d_groups_of : Df K mg "groups_of" s_groups_of
  d_item_of : Df K mg "item_of" s_item_of
  d_items_of : Df K mg "items_of" s_items_of
  d_first_difference : Df K mg "first_difference" s_first_difference
  d_coin_after : Df K mg "coin_after" s_coin_after
  d_coins_of_codes : Df K mg "coins_of_codes" s_coins_of_codes
  d_coins_of : Df K mg "coins_of" s_coins_of
  d_mix : Df K mg "mix" s_mix
  d_one_round : Df K mg "one_round" s_one_round
  d_colors_of_coins : Df K mg "colors_of_coins" s_colors_of_coins
  d_colors_of : Df K mg "colors_of" s_colors_of
  d_is_peak : Df K mg "is_peak" s_is_peak
  d_starts_of : Df K mg "starts_of" s_starts_of
  d_cut : Df K mg "cut" s_cut
  d_blocks_of : Df K mg "blocks_of" s_blocks_of
  d_leaf_row : Df K mg "leaf_row" s_leaf_row
  d_item_row : Df K mg "item_row" s_item_row
  d_color_row : Df K mg "color_row" s_color_row
  d_grow : Df K mg "grow" s_grow
  d_row_spans : Df K mg "row_spans" s_row_spans
  d_spans_of : Df K mg "spans_of" s_spans_of
  d_fixed_blocks : Df K mg "fixed_blocks" s_fixed_blocks
  d_fixed_of : Df K mg "fixed_of" s_fixed_of
  d_law_tape : Df K mg "_law_tape" s_law_tape
  d_law_draw : Df K mg "_law_draw" s_law_draw
  d_law_sign : Df K mg "_law_sign" s_law_sign
  d_law_word : Df K mg "_law_word" s_law_word
  d_law_scalar : Df K mg "_law_scalar" s_law_scalar
  d_law_element : Df K mg "_law_element" s_law_element
  d_law_contents : Df K mg "_law_contents" s_law_contents
  d_law_large : Df K mg "_law_large" s_law_large
  d_law_levels : Df K mg "_law_levels" s_law_levels
  d_law_stays : Df K mg "_law_stays" s_law_stays
  d_law : Df K mg "law" s_law
  dm_number_of : Dm K C "number_of" "NodeTable.number_of" m_number_of
  dm_measure : Dm K C "measure" "NodeTable.measure" m_measure
  dm_item_number : Dm K C "item_number" "NodeTable.item_number" m_item_number
  c_DIGIT : ∃ t, mg "DIGIT" = some (.int 65536 t)
  c_ROUNDS : ∃ t, mg "ROUNDS" = some (.int 4 t)
  c_BEFORE : ∃ t, mg "BEFORE" = some (.int 7 t)
  c_BEHIND : ∃ t, mg "BEHIND" = some (.int 3 t)
  n_range : mg "range" = none
  n_isinstance : mg "isinstance" = none
  n_tuple : mg "tuple" = none
  n_str : mg "str" = none
  n_len : mg "len" = none
  n_ord : mg "ord" = none
  n_zip : mg "zip" = none
  n_sum : mg "sum" = none
  n_int : mg "int" = none
  n_abs : mg "abs" = none
  n_list : mg "list" = none
  n_max : mg "max" = none
  n_min : mg "min" = none
  mgC : mg "NodeTable" = some (.ref C)
  cl : Cls K C
  na_numbers : NoAttr K C "numbers"
  na_entries : NoAttr K C "entries"
  na_codes : NoAttr K C "codes"
  na_sizes : NoAttr K C "sizes"
  made : ∃ (f : Addr) (fd : FuncData), FunD K "__init__" "NodeTable.__init__" (defArgs m_init) (defBody m_init) (defScope m_init) [] [] f fd ∧ Mk K C f
/-! ### heaps that grow -/
theorem same_new {H : Hp} {p : Addr} {o : HO} (h : H p = none) : Same H (upd H p o) := fun b x e => by
  rw [upd_ne (ne_of_none e h)]
  exact e
/-- a write to what stands above H0 -/
theorem _root_.L2.Same.put {H0 H : Hp} {p : Addr} {o : HO} (s : Same H0 H) (h : H0 p = none) : Same H0 (upd H p o) := fun b x e => by
  rw [upd_ne (ne_of_none e h)]
  exact s b x e
/-- .. to what is new in H -/
theorem _root_.L2.Same.new {H0 H : Hp} {p : Addr} {o : HO} (s : Same H0 H) (h : H p = none) : Same H0 (upd H p o) := s.put (s.free h)
/-- every tuple stays -/
def Tm (H H' : Hp) : Prop := ∀ b xs, H b = some (.tup xs) → H' b = some (.tup xs)
theorem Tm.refl (H : Hp) : Tm H H := fun _ _ e => e
theorem Tm.trans {H H1 H2 : Hp} (a : Tm H H1) (b : Tm H1 H2) : Tm H H2 := fun c x e => b c x (a c x e)
theorem _root_.L2.Same.tm {H H' : Hp} (s : Same H H') : Tm H H' := fun b xs e => s b _ e
theorem Tm.new {H H1 : Hp} {p : Addr} {o : HO} (t : Tm H H1) (h : H1 p = none) : Tm H (upd H1 p o) := fun b xs e => by
  have e1 := t b xs e
  rw [upd_ne (ne_of_none e1 h)]
  exact e1
/-- a write to a list -/
theorem Tm.lst {H H1 : Hp} {p : Addr} {xs : List V} {o : HO} (t : Tm H H1) (h : H1 p = some (.lst xs)) : Tm H (upd H1 p o) := fun b ys e => by
  have e1 := t b ys e
  rw [upd_ne (ne_of e1 h (by intro z; cases z))]
  exact e1
/-- a tuple of the numbers c stands at a -/
def nI (c : List Nat) : List V := c.map fun (n : Nat) => V.int (n : Int)
theorem nI_length (c : List Nat) : (nI c).length = c.length := by
  unfold nI
  rw [List.length_map]
theorem nI_append (a b : List Nat) : nI (a ++ b) = nI a ++ nI b := by
  unfold nI
  rw [List.map_append]
theorem nI_cons (a : Nat) (b : List Nat) : nI (a :: b) = .int (a : Int) :: nI b := rfl
theorem nI_at {c : List Nat} {i n : Nat} (h : c[i]? = some n) : (nI c)[i]? = some (.int (n : Int)) := by
  unfold nI
  rw [List.getElem?_map, h]
  rfl
theorem nI_ne {c : List Nat} (h : c ≠ []) : nI c ≠ [] := fun e => h (List.map_eq_nil_iff.mp e)
theorem nI_nil {c : List Nat} (h : nI c = []) : c = [] := List.map_eq_nil_iff.mp h
theorem le_line {n : Nat} (h : n ≤ 1000000) : n ≤ sizeLine := by
  rw [sizeLine_eq]
  omega
theorem lt_line {n : Nat} (h : n ≤ 1000000) : n < sizeLine := by
  rw [sizeLine_eq]
  omega
/-- t + u, by the items -/
theorem cat_get {K : PySem.W.Frag} {H : Hp} {a b : Addr} {xs ys : List V} {Q : VK} (ha : H a = some (.tup xs)) (hb : H b = some (.tup ys)) (hl : xs.length + ys.length ≤ 1000000)
    (q : ∀ p H', Same H H' → H' p = some (.tup (xs ++ ys)) → Q (.ref p) H') : rCatA K (.ref a) (.ref b) H Q :=
  ⟨a, b, xs, ys, rfl, rfl, SqT.of ha, SqT.of hb, le_line hl, fun e => q b H (Same.refl H) (by rw [hb, e]; rfl), fun _ e => q a H (Same.refl H) (by rw [ha, e, List.append_nil]),
    fun _ _ p np => q p _ (same_new np) upd_same⟩
/-- a comprehension over an iterator of n turns -/
theorem lc_gen {J : It} {g : TG} {tt : TT} {te : TE} {vs : List Nat} {σ : L2.St} {H1 : Hp} {D : Addr} {Qd : Hp → Prop} (n : Nat) (Pv : Nat → Hp → Prop) (h0 : Pv 0 (upd H1 D (.lst [])))
    (hgo : ∀ i H, i < n → Pv i H → J.go i H) (hst : ∀ H, Pv n H → J.stop n H)
    (hs : ∀ i x H H', i < n → Pv i H → J.yld i H x H' → g x (wipe σ vs) H' fun σ2 H2 => wipe σ2 vs = wipe σ vs ∧ tt σ2 H2 fun b H3 =>
      if b = true then te σ2 H3 fun y H4 => ∃ acc, H4 D = some (.lst acc) ∧ acc.length < sizeLine ∧ Pv (i + 1) (upd H4 D (.lst (acc ++ [y]))) else Pv (i + 1) H3) (hd : ∀ H, Pv n H → Qd H) :
    ∃ W : Nat → Nat → Hp → Prop, (∃ m, W 0 m (upd H1 D (.lst []))) ∧ ∀ i m H, W i m H →
      (J.stop i H ∧ Qd H) ∨ (J.go i H ∧ ∃ Nx : Hp → Prop, (∀ H', Nx H' → ∃ m', m' < m ∧ W (i + 1) m' H') ∧ ∀ x H', J.yld i H x H' → g x (wipe σ vs) H' fun σ2 H2 => wipe σ2 vs = wipe σ vs ∧ tt σ2 H2 fun b H3 =>
        if b = true then te σ2 H3 fun y H4 => ∃ acc, H4 D = some (.lst acc) ∧ acc.length < sizeLine ∧ Nx (upd H4 D (.lst (acc ++ [y]))) else Nx H3) := by
  refine ⟨fun i m H => Pv i H ∧ i ≤ n ∧ m = n - i, ⟨n, h0, Nat.zero_le _, rfl⟩, ?_⟩
  rintro i m H ⟨hp, hi, rfl⟩
  by_cases e : i = n
  · subst e
    exact .inl ⟨hst H hp, hd H hp⟩
  · have hlt : i < n := by omega
    exact .inr ⟨hgo i H hlt hp, Pv (i + 1), fun H' h => ⟨n - (i + 1), by omega, h, by omega, rfl⟩, fun x H' hy => hs i x H H' hlt hp hy⟩
/-- a for over an iterator of n turns -/
theorem for_gen {J : It} {g : TG} {tb : TS} {D : Ends} {σ : L2.St} {H : Hp} (n : Nat) (Pv : Nat → L2.St → Hp → Prop) (h0 : Pv 0 σ H) (hgo : ∀ i σ H, i < n → Pv i σ H → J.go i H) (hst : ∀ σ H, Pv n σ H → J.stop n H)
    (hs : ∀ i x σ H H', i < n → Pv i σ H → J.yld i H x H' → g x σ H' fun σ2 H2 => tb { D with nx := Pv (i + 1), ct := Pv (i + 1), bk := D.nx } σ2 H2) (hd : ∀ σ H, Pv n σ H → D.nx σ H) :
    ∃ W : Nat → Nat → L2.St → Hp → Prop, (∃ m, W 0 m σ H) ∧ ∀ i m σ H, W i m σ H →
      (J.stop i H ∧ D.nx σ H) ∨ (J.go i H ∧ ∃ N : L2.St → Hp → Prop, (∀ σ' H', N σ' H' → ∃ m', m' < m ∧ W (i + 1) m' σ' H') ∧ ∀ x H', J.yld i H x H' → g x σ H' fun σ2 H2 => tb { D with nx := N, ct := N, bk := D.nx } σ2 H2) := by
  refine ⟨fun i m σ H => Pv i σ H ∧ i ≤ n ∧ m = n - i, ⟨n, h0, Nat.zero_le _, rfl⟩, ?_⟩
  rintro i m σ H ⟨hp, hi, rfl⟩
  by_cases e : i = n
  · subst e
    exact .inl ⟨hst σ H hp, hd σ H hp⟩
  · have hlt : i < n := by omega
    exact .inr ⟨hgo i σ H hlt hp, Pv (i + 1), fun σ' H' h => ⟨n - (i + 1), by omega, h, by omega, rfl⟩, fun x H' hy => hs i x σ H H' hlt hp hy⟩
theorem b_len : bootBuiltins "len" = some (.builtin "len") := by decide +kernel
theorem b_isinstance : bootBuiltins "isinstance" = some (.builtin "isinstance") := by decide +kernel
theorem b_ord : bootBuiltins "ord" = some (.builtin "ord") := by decide +kernel
theorem b_zip : bootBuiltins "zip" = some (.type "zip") := by decide +kernel
theorem b_sum : bootBuiltins "sum" = some (.builtin "sum") := by decide +kernel
theorem b_abs : bootBuiltins "abs" = some (.builtin "abs") := by decide +kernel
theorem b_max : bootBuiltins "max" = some (.builtin "max") := by decide +kernel
theorem b_min : bootBuiltins "min" = some (.builtin "min") := by decide +kernel
theorem b_tuple : bootBuiltins "tuple" = some (.type "tuple") := by decide +kernel
theorem b_str : bootBuiltins "str" = some (.type "str") := by decide +kernel
theorem b_int : bootBuiltins "int" = some (.type "int") := by decide +kernel
theorem b_list : bootBuiltins "list" = some (.type "list") := by decide +kernel
/-- two promises of one def -/
theorem fn_or {P : Program} {w : World} {K : PySem.W.Frag} {mg : Str → Option Value} {base : Heap} {CX : CXT} {k : Nat} {f : Addr} {fd : FuncData} {ps : List Str} {sp sp' : Sp} (F : FnOk P w K mg base CX k f fd ps sp) (G : FnOk P w K mg base CX k f fd ps sp') :
    FnOk P w K mg base CX k f fd ps (fun vs H Q E => sp vs H Q E ∨ sp' vs H Q E) where
  len := fun vs H Q E h => h.elim (F.len vs H Q E) (G.len vs H Q E)
  run := fun A outer s H args us vs Q E hr e b r h => h.elim (F.run A outer s H args us vs Q E hr e b r) (G.run A outer s H args us vs Q E hr e b r)
theorem relI (i : Int) (t : Tok) : RelV (.int i) (.int i t) := ⟨t, rfl⟩
end K33
/-! K33Rules: rules of my own over the layer: list.extend by a tuple; a place in a tuple of data; the least of four ints. -/
namespace K33
open PySem PySem.Spec PyProof.Rows L2
section
open PySem.AutoSeq1
theorem extend_tup (l b : Addr) (xs ys : Array Value) (n m : Nat) (dd : Option Addr) (sl : Array (Option Value)) (h0 : ¬(!xs.isEmpty && Builtin.List.listTooLong (xs.size + ys.size)) = true) (h1 : xs.size ≤ sizeLine) (h2 : xs.size + ys.size ≤ sizeLine + 1) :
    Meets (Builtin.«list.extend» ⟨[.ref l, .ref b], []⟩) (fun _ R s => s.heap.get? l = some { cls := .type "list", data := .seq xs n } ∧ s.heap.get? b = some { cls := .type "tuple", dict := dd, data := .seq ys m, slots := sl } ∧
      R (.ok (.ret Value.none)) { s with heap := s.heap.update l (Obj.mapSeq fun x => x ++ ys), toks := s.toks }) := by
  refine .of_wp fun prog w A R s h => ?_
  obtain ⟨hp, gg, dw, tk, os⟩ := s
  obtain ⟨hl, hb, k⟩ := h
  have g1 := idx_int
  have g2 := PySem.AutoSeq1.sub_tuple_tuple
  have g3 := PySem.AutoSeq1.sub_list_list
  have g4 := PySem.AutoSeq1.sub_tuple_list
  have g5 := PySem.AutoSeq1.sub_list_tuple
  have hz : (xs ++ ys).size ≤ sizeLine + 1 := by
    rw [Array.size_append]
    exact h2
  wp_walk using (wpAny_updateSeq hl rfl (hz := h1) (_hz' := hz)), wpAny_loadPart' hl, wpAny_loadPart' hb
  exact ⟨_, rfl, k⟩
end
section
variable {X : Cx}
/-- xs.extend(t), t a tuple -/
def rExtT (K : PySem.W.Frag) : V → List V → Hp → VK → Prop := fun x vs H Q => ∃ (l b : Addr) (xs zs : List V), x = .ref l ∧ vs = [.ref b] ∧ H l = some (.lst xs) ∧ SqT K H b zs ∧ xs.length + zs.length ≤ sizeLine ∧ Q .non (upd H l (.lst (xs ++ zs)))
theorem mt_extT : MtM X "list.extend" (rExtT X.K) := by
  intro pins s σ H x vs v us Q I rx rv h
  obtain ⟨l, b, xs, zs, rfl, rfl, hl, hb, hz, q⟩ := h
  cases rx
  obtain ⟨u, rfl, ru⟩ := rv.one
  cases ru
  obtain ⟨_, its, n, r, el, e⟩ := I.lstM hl
  obtain ⟨its2, r2, ⟨⟨c, dd, dt, sl⟩, ho, hc, m, hd⟩, _⟩ := I.tuple hb
  simp only at hc hd
  subst hc hd
  have el2 := r2.length
  have fit : its.toArray.size + its2.toArray.size ≤ sizeLine := by
    rw [List.size_toArray, List.size_toArray]
    omega
  refine call_meets PySem.F.slot_list_extend ⟨_, e, rfl⟩ PySem.F.entry_list_extend (PySem.F.args_list_extend_2 _ _) (extend_tup l b its.toArray its2.toArray n m dd sl ?_ (by omega) (by omega)) ⟨e, ho, ?_⟩
  · rw [notLongL fit, Bool.and_false]
    decide
  · exact ⟨.non, _, I.lset (its' := its ++ its2) hl e (by simp) (r.append r2) (by rw [List.length_append]; exact hz), rfl, q⟩
/-- x not in t, t a tuple of data -/
def rNotInT (K : PySem.W.Frag) : R2 := fun x y H Q => ∃ d ds, Dp K H x d ∧ Dp K H y (.tuple ds) ∧ SeqAt.shaped d = true ∧ SeqAt.shaped (.tuple ds) = true ∧ Q (.bl (!ds.any fun z => PyData.eqv z d)) H
theorem op_notInT (hu : X.A.units + 65 < cLine) : OpR X (compareOp .NotIn) (rNotInT X.K) := by
  intro pins s σ H x y v u Q I rx ry h
  obtain ⟨d, ds, hd, he, sd, se, q⟩ := h
  obtain ⟨as, ra⟩ := Dp.reads I d x v hd rx
  obtain ⟨bs, rb⟩ := Dp.reads I (.tuple ds) y u he ry
  exact SeqAt.notIn_tuple_reads rb ra (SeqAt.canLay_of_shaped se) (SeqAt.canLay_of_shaped sd) (room_in_shaped sd hu) ⟨.bl _, H, I, rfl, q⟩
/-- t.index(x): the first place of an equal one -/
def rIndexT (K : PySem.W.Frag) : V → List V → Hp → VK → Prop := fun x xs H Q => ∃ (a : Addr) (y : V) (d : PyData) (ds : List PyData) (j : Nat) (z : PyData), x = V.ref a ∧ xs = [y] ∧ Dp K H (V.ref a) (.tuple ds) ∧ Dp K H y d ∧
  SeqAt.shaped (.tuple ds) = true ∧ SeqAt.shaped d = true ∧ ds[j]? = some z ∧ PyData.eqv z d = true ∧ (∀ (m : Nat) (z' : PyData), m < j → ds[m]? = some z' → PyData.eqv z' d = false) ∧ Q (.int (j : Nat)) H
theorem mt_indexT (hu : X.A.units + 65 < cLine) : MtR X "tuple.index" (rIndexT X.K) := by
  intro pins s σ H x xs v us Q I rx rs h
  obtain ⟨a, y, d, ds, j, z, rfl, rfl, hl, hy, sl, sd, hz, hzj, hno, q⟩ := h
  cases rx
  obtain ⟨uy, rfl, ry⟩ := vals1 rs
  obtain ⟨bs, rb⟩ := Dp.reads I d y uy hy ry
  have hxs : PyData.canLayAll0 ds = true := SeqAt.canLay_of_shaped sl
  cases hl with
  | tup hs ha =>
    obtain ⟨its, rv, ⟨⟨c, dd, dt, sls⟩, ho, hc, n, hd⟩, _⟩ := I.tuple hs
    simp only at hc hd
    subst hc hd
    obtain ⟨as, h4⟩ := Dp.readsAll I ds _ its ha rv
    have hm : its.map (SeqAt.readOf s.heap) = ds := SeqAt.readsAll_map ds its as hxs h4
    have place : ∀ (m : Nat) (hm' : m < its.toArray.size), ds[m]? = some (SeqAt.readOf s.heap its.toArray[m]) := by
      intro m hm'
      have h5 : m < its.length := by simpa using hm'
      rw [← hm, List.getElem?_map, List.getElem?_eq_getElem h5]
      simp
    have hj : j < its.toArray.size := by
      have h6 := (List.getElem?_eq_some_iff.mp hz).1
      rw [← hm, List.length_map] at h6
      simpa using h6
    refine call_meets PySem.F.slot_tuple_index ⟨_, ho, rfl⟩ PySem.F.entry_tuple_index (PySem.F.args_tuple_index_2 _ _)
      (TI.tuple_indexAt a its.toArray n dd sls uy (fun u => PyData.eqv (SeqAt.readOf s.heap u) d) j hj ?_ ?_) ⟨ho, SeqAt.items_eqAt (vs := its.toArray) (show ReadsAll s.heap its.toArray.toList ds as from h4) rb hxs (SeqAt.canLay_of_shaped sd) (room_in_shaped sd hu), ?_⟩
    · have h7 := place j hj
      rw [hz] at h7
      show PyData.eqv (SeqAt.readOf s.heap its.toArray[j]) d = true
      rw [← Option.some.inj h7]
      exact hzj
    · intro m hm' hmj
      exact hno m _ hmj (place m hm')
    · exact ⟨.int (j : Nat), H, I.tok _, ⟨_, rfl⟩, q⟩
/-- tuple(xs) of a list: a new tuple that is known as an object without a dict of its own -/
def FrT (H : Hp) (p : Addr) (xs : List V) : Prop := ∃ o : Obj, H p = some (.frz o (.tup xs)) ∧ o.dict = none
theorem FrT.sq {K : PySem.W.Frag} {H : Hp} {p : Addr} {xs : List V} (h : FrT H p xs) : SqT K H p xs := by
  obtain ⟨o, e, _⟩ := h
  exact .inl (.inr ⟨o, e⟩)
theorem FrT.same {H H' : Hp} {p : Addr} {xs : List V} (h : FrT H p xs) (s : Same H H') : FrT H' p xs := by
  obtain ⟨o, e, d⟩ := h
  exact ⟨o, s _ _ e, d⟩
theorem call_tuple_frz : CallR X (.type "tuple") (fun xs H Q => ∃ p ys, xs = [.ref p] ∧ SqL X.K H p ys ∧ ∀ l H', Same H H' → H l = none → FrT H' l ys → Q (.ref l) H') := by
  intro pins s σ H xs us Q I r h
  obtain ⟨p, ys, rfl, hq, q⟩ := h
  obtain ⟨u, rfl, rx⟩ := vals1 r
  cases rx
  obtain ⟨its, rv, pl, hz⟩ := I.list hq
  have hlen := rv.length
  refine call_tuple_list pl.isList (fun h' kp => ?_) (by simp only [List.size_toArray]; omega)
  have I1 : Inv X pins σ H { s with heap := h' } := I.kept (t' := s.toks) kp
  have fr : H h'.objs.size = none := I1.hok.fresh (Nat.le_refl _)
  have ob : (h'.push { cls := .type "tuple", data := .seq its.toArray }).get? h'.objs.size = some { cls := .type "tuple", data := .seq its.toArray } := Heap.get?_push_size _ rfl
  have I2 : Inv X pins σ (upd H h'.objs.size (.frz { cls := .type "tuple", data := .seq its.toArray } (.tup ys))) { s with heap := h'.push { cls := .type "tuple", data := .seq its.toArray } } :=
    I1.laid (t' := s.toks) (fun b o e => Heap.get?_push_of_some _ e) (Nat.le_refl _) ⟨ob, hz, its, rv, IsTup.new _ _⟩
  exact ⟨.ref h'.objs.size, _, I2, rfl, q _ _ (same_new fr) fr ⟨_, upd_same, rfl⟩⟩
/-- a method of such a tuple -/
def tBMT (r : V → List V → Hp → VK → Prop) (to : TE) (t : TA) : TE := fun σ H Q => to σ H fun x H1 => (∃ p ys, x = .ref p ∧ FrT H1 p ys) ∧ t σ H1 fun xs H2 => r x xs H2 Q
theorem pe_bmT {o e : Expr} {es : List Expr} {to : TE} {t : TA} {name : Str} {apos cpos : Pos} {id : String} {r : V → List V → Hp → VK → Prop} (slot : Slot "tuple" name id) (hty : typeOf (.builtin id) = pure (.type "method_descriptor")) (hm : MtR X id r) (ho : PE X o to) (ha : PA X (e :: es) t)
    (hbase : attributeBase o name X.env (eval o X.env) = eval o X.env := by rfl)
    (hfew : ((backTo cpos (starEach (e :: es) X.env)).all (fun x => !x.1) && (backToKw cpos (keywordEach [] X.env)).all (fun x => x.1.isSome)
      && decide ((e :: es).length + ([] : List Keyword).length + (if ([] : List Keyword).isEmpty then 0 else 1) < 30)) = true := by rfl)
    (hline : (apos.endLine == cpos.line) = true := by rfl) (hs : starEach (e :: es) X.env = (false, eval e X.env) :: starEach es X.env := by rfl) (hplain : (backTo cpos (starEach es X.env)).any (·.1) = false := by rfl) :
    PE X (.Call (.Attribute o name apos) (e :: es) [] cpos) (tBMT r to t) := by
  refine ⟨fun pins s σ H Q I h => ?_⟩
  refine wpAny_Call_method_late hbase hfew hline rfl (thn (ho.run pins s σ H _ I h) fun v s1 ⟨x, H1, I1, r1, ⟨p, ys, ex, ob, hp, hd⟩, q1⟩ => ?_)
  subst ex
  obtain rfl : v = Value.ref p := r1
  obtain ⟨g1, _, its, _, ⟨ob2, g2, g3, _⟩⟩ := I1.hok p _ hp
  have eo : ob2 = ob := by
    rw [g1] at g2
    exact (Option.some.inj g2).symm
  subst eo
  refine ⟨"tuple", id, PySem.F.plainAttrs_tuple, slot, hty, ⟨ob2, g1, g3⟩, fun a q => ?_, ?_⟩
  · cases q
    exact ⟨ob2, g1, hd⟩
  · have hA := ha.run cpos pins s1 σ H1 _ I1 q1
    rw [hs] at hA ⊢
    refine Calls.callWith_builtin (by show (false || (backTo cpos (starEach es X.env)).any (·.1)) = false; rw [hplain]; rfl) (Calls.evalArgs_plain ?_)
    exact thn hA fun us s2 ⟨vs, H2, I2, r2, q2⟩ => hm pins s2 σ H2 (.ref p) vs (.ref p) us Q I2 rfl r2 q2
end
/-! ### min of four ints -/
section
variable {prog : Program} {w : World} {A : Around} {E : Value → Shared → Prop} {s : Shared}
theorem args_min4 (a b c d : Value) : argsOk "min" ⟨[a, b, c, d], []⟩ := by
  unfold argsOk
  kernel_rfl
theorem min_four {a b c d : Int} {t1 t2 t3 t4 : Tok} {Q : Value → Shared → Prop} (hh : A.handled = none)
    (h : ∀ h' tk m t, (∀ x o, s.heap.get? x = some o → h'.get? x = some o) → m ∈ [a, b, c, d] → Q (.int m t) { s with heap := h', toks := tk }) :
    wpAny (model prog w) A (call (.builtin "min") [.int a t1, .int b t2, .int c t3, .int d t4]) Q E s := by
  have hT : (s.heap.push { cls := .type "tuple", data := .seq #[.int a t1, .int b t2, .int c t3, .int d t4] }).IsTuple s.heap.objs.size (intItems #[(a, t1), (b, t2), (c, t3), (d, t4)]) :=
    ⟨_, Heap.get?_push_size _ rfl, rfl, 0, by simp [intItems]⟩
  have hsz : (s.heap.push { cls := .type "tuple", data := .seq #[.int a t1, .int b t2, .int c t3, .int d t4] }).objs.size = s.heap.objs.size + 1 := Heap.size_push ..
  have hn : (toString "min" ++ toString ".loop" : String) = "min.loop" := by decide
  refine call_function_tree PySem.F.kind_min PySem.F.plain_min PySem.F.entry_min (args_min4 _ _ _ _) ?_
  show wpAny _ A.in1 (Builtin.Builtins.bindParams "min" ["key", "default"] 0 ⟨[], []⟩ >>= _) _ _ s
  refine wpAny_bind (wpAny_of_eq (show Builtin.Builtins.bindParams "min" ["key", "default"] 0 ⟨[], []⟩ = pure [none, none] from rfl) ?_)
  show wpAny _ A.in1 (newTuple [Value.int a t1, Value.int b t2, Value.int c t3, Value.int d t4] >>= _) _ _ s
  refine wpAny_bind (wpAny_newObj_type ?_)
  refine wpAny_bind (wpAny_pyIter_tuple hT ?_)
  refine wpAny_bind (wpAny_newObj_type ?_)
  have W := Walks.tuple (prog := prog) (w := w) (A := A.in1) hh (s.heap.push { cls := .type "tuple", data := .seq #[.int a t1, .int b t2, .int c t3, .int d t4] }).objs.size s.heap.objs.size (by rw [hsz]; exact Nat.ne_of_lt (Nat.lt_succ_self _)) (intItems #[(a, t1), (b, t2), (c, t3), (d, t4)])
  rw [hn]
  refine wpAny_pure ⟨plainId_quiet PySem.F.plain_min_loop _, codeAny_min_loop_first W _ (CmpOf.ints_lt (numAt #[(a, t1), (b, t2), (c, t3), (d, t4)]) (fun _ _ => intItems_at)) _ ?_ (by simp [intItems]) ?_ (Heap.get?_push_size _ rfl) fun v h' tk hP hk => ?_⟩
  · intro hm
    have hm2 : ((s.heap.push { cls := .type "tuple", data := .seq #[.int a t1, .int b t2, .int c t3, .int d t4] }).push { cls := .type "tuple_iterator", data := .fields #[.ref s.heap.objs.size, .int 0 0] }).objs.size ∈ [s.heap.objs.size + 1, s.heap.objs.size] := by
      rw [← hsz]
      exact hm
    rw [Heap.size_push, hsz] at hm2
    rcases List.mem_cons.mp hm2 with e | hm2
    · omega
    · rcases List.mem_cons.mp hm2 with e | hm2
      · omega
      · cases hm2
  · exact ⟨⟨_, Heap.get?_push_of_some _ (Heap.get?_push_size _ rfl), rfl, rfl⟩, (hT.push _).push _⟩
  · have hold : ∀ x o, s.heap.get? x = some o → h'.get? x = some o := fun x o e => by
      have lx : x < s.heap.objs.size := Heap.lt_size e
      refine hk x o (fun hm => ?_) (fun hm => ?_) (Heap.get?_push_of_some _ (Heap.get?_push_of_some _ (Heap.get?_push_of_some _ e)))
      · rcases List.mem_cons.mp hm with e1 | hm
        · exact Nat.ne_of_lt (Nat.lt_succ_of_lt lx) (e1.trans hsz)
        · cases hm
      · have e2 : x = ((s.heap.push { cls := .type "tuple", data := .seq #[.int a t1, .int b t2, .int c t3, .int d t4] }).push { cls := .type "tuple_iterator", data := .fields #[.ref s.heap.objs.size, .int 0 0] }).objs.size := hm
        rw [Heap.size_push, hsz] at e2
        exact Nat.ne_of_lt (Nat.lt_succ_of_lt (Nat.lt_succ_of_lt lx)) e2
    obtain ⟨i, hi⟩ : ∃ i : Nat, (intItems #[(a, t1), (b, t2), (c, t3), (d, t4)])[i]? = some v := ⟨_, hP⟩
    have hv : ∃ m t, m ∈ [a, b, c, d] ∧ v = Value.int m t := by
      have hi2 : (#[Value.int a t1, Value.int b t2, Value.int c t3, Value.int d t4] : Array Value)[i]? = some v := by
        have e : intItems #[(a, t1), (b, t2), (c, t3), (d, t4)] = #[Value.int a t1, Value.int b t2, Value.int c t3, Value.int d t4] := by simp [intItems]
        rw [← e]
        exact hi
      match i, hi2 with
      | 0, hi2 => exact ⟨a, t1, by simp, by simpa using hi2.symm⟩
      | 1, hi2 => exact ⟨b, t2, by simp, by simpa using hi2.symm⟩
      | 2, hi2 => exact ⟨c, t3, by simp, by simpa using hi2.symm⟩
      | 3, hi2 => exact ⟨d, t4, by simp, by simpa using hi2.symm⟩
      | i + 4, hi2 =>
        rw [Array.getElem?_eq_none (by show 4 ≤ i + 4; omega)] at hi2
        cases hi2
    obtain ⟨m, t, hm, rfl⟩ := hv
    exact h h' tk m t hold hm
end
section
variable {X : Cx}
def rMin4 : List V → Hp → VK → Prop := fun xs H Q => ∃ a b c d : Int, xs = [.int a, .int b, .int c, .int d] ∧ ∀ m, m ∈ [a, b, c, d] → Q (.int m) H
theorem call_min4 (hc : X.calm = true) : CallR X (.builtin "min") rMin4 := by
  intro pins s σ H xs us Q I r h
  obtain ⟨a, b, c, d, rfl, q⟩ := h
  cases r with
  | cons r1 r =>
    cases r with
    | cons r2 r =>
      cases r with
      | cons r3 r =>
        cases r with
        | cons r4 r =>
          cases r
          obtain ⟨t1, rfl⟩ := r1
          obtain ⟨t2, rfl⟩ := r2
          obtain ⟨t3, rfl⟩ := r3
          obtain ⟨t4, rfl⟩ := r4
          exact min_four (I.ok.hd hc) fun h' tk m t k hm => ⟨.int m, H, I.kept k, relI _ _, q m hm⟩
end
end K33
/-! K33Dict: a dict whose keys are nested tuples and whose values are the entries' own places 0, 1, 2, ..: {}, d.get(k), d[k] = len. -/
namespace K33
open PySem PySem.Spec PyProof.Rows L2
/-! ### keys in the abstract heap -/
mutual
inductive KeyV (H : Hp) : NestedKey → V → Prop
  | num (i : Int) : KeyV H (.num i) (.int i)
  | text (x : Str) : KeyV H (.text x) (.str x)
  | tup {b : Addr} {xs : List V} {ks : List NestedKey} : H b = some (.tup xs) → KeyVs H ks xs → KeyV H (.tup ks) (.ref b)
inductive KeyVs (H : Hp) : List NestedKey → List V → Prop
  | nil : KeyVs H [] []
  | cons {k : NestedKey} {v : V} {ks : List NestedKey} {vs : List V} : KeyV H k v → KeyVs H ks vs → KeyVs H (k :: ks) (v :: vs)
end
mutual
theorem KeyV.tm {H H' : Hp} (t : Tm H H') : ∀ {k : NestedKey} {v : V}, KeyV H k v → KeyV H' k v
  | _, _, .num i => .num i
  | _, _, .text x => .text x
  | _, _, .tup h r => .tup (t _ _ h) (KeyVs.tm t r)
theorem KeyVs.tm {H H' : Hp} (t : Tm H H') : ∀ {ks : List NestedKey} {vs : List V}, KeyVs H ks vs → KeyVs H' ks vs
  | _, _, .nil => .nil
  | _, _, .cons a b => .cons (KeyV.tm t a) (KeyVs.tm t b)
end
section
variable {X : Cx} {pins : List (Addr × Obj)} {σ : L2.St} {H : Hp} {s : Shared}
mutual
theorem KeyV.nested (I : Inv X pins σ H s) : ∀ {k : NestedKey} {v : V} {u : Value}, KeyV H k v → RelV v u → NestedIs s.heap k u
  | _, _, u, .num i, r => by
    obtain ⟨t, rfl⟩ := r
    exact .int i t
  | _, _, u, .text x, r => by
    obtain ⟨t, rfl⟩ := r
    exact .text x t
  | _, _, u, .tup (b := b) (xs := xs) h q, r => by
    cases r
    obtain ⟨its, rv, ⟨o, ho, hc, n, hd⟩, _⟩ := I.tuple (SqT.of h)
    exact .tup ho hc hd (KeyVs.nested I q rv)
theorem KeyVs.nested (I : Inv X pins σ H s) : ∀ {ks : List NestedKey} {vs : List V} {us : List Value}, KeyVs H ks vs → Vals vs us → NestedAll s.heap ks us
  | _, _, _, .nil, r => by
    cases r
    exact .nil
  | _, _, _, .cons a b, r => by
    cases r with
    | cons r1 r2 => exact .cons (KeyV.nested I a r1) (KeyVs.nested I b r2)
end
end
/-! ### the dict -/
/-- the entries with their values, the places -/
def rowsD (ts : Nat → Tok) : Nat → List (NestedKey × Addr) → List (NestedKey × Addr × Value)
  | _, [] => []
  | i, (k, b) :: r => (k, b, Value.int (i : Int) (ts i)) :: rowsD ts (i + 1) r
theorem rowsD_at (ts : Nat → Tok) : ∀ (ks : List (NestedKey × Addr)) (j i : Nat), (rowsD ts j ks)[i]? = (ks[i]?).map fun kb => (kb.1, kb.2, Value.int ((j + i : Nat) : Int) (ts (j + i)))
  | [], j, i => by simp [rowsD]
  | (k, b) :: r, j, 0 => rfl
  | (k, b) :: r, j, i + 1 => by
    show (rowsD ts (j + 1) r)[i]? = (r[i]?).map _
    rw [rowsD_at ts r (j + 1) i]
    have e : j + 1 + i = j + (i + 1) := by omega
    rw [e]
theorem rowsD_keys (ts : Nat → Tok) : ∀ (ks : List (NestedKey × Addr)) (j : Nat), (rowsD ts j ks).map (·.1) = ks.map (·.1)
  | [], _ => rfl
  | (k, b) :: r, j => by
    show k :: (rowsD ts (j + 1) r).map (·.1) = k :: r.map (·.1)
    rw [rowsD_keys ts r]
theorem rowsD_len (ts : Nat → Tok) (ks : List (NestedKey × Addr)) (j : Nat) : (rowsD ts j ks).length = ks.length := by
  have h := congrArg List.length (rowsD_keys ts ks j)
  rw [List.length_map, List.length_map] at h
  exact h
theorem rowsD_snoc (ts : Nat → Tok) (k : NestedKey) (b : Addr) (t : Tok) : ∀ (ks : List (NestedKey × Addr)) (j : Nat),
    rowsD ts j ks ++ [(k, b, Value.int ((j + ks.length : Nat) : Int) t)] = rowsD (fun i => if i = j + ks.length then t else ts i) j (ks ++ [(k, b)])
  | [], j => by
    show [(k, b, Value.int ((j + 0 : Nat) : Int) t)] = [(k, b, Value.int (j : Int) (if j = j + 0 then t else ts j))]
    rw [Nat.add_zero, if_pos rfl]
  | (k', b') :: r, j => by
    have ih := rowsD_snoc ts k b t r (j + 1)
    have e : j + 1 + r.length = j + (r.length + 1) := by omega
    rw [e] at ih
    show (k', b', Value.int (j : Int) (ts j)) :: (rowsD ts (j + 1) r ++ [(k, b, Value.int ((j + (r.length + 1) : Nat) : Int) t)]) = (k', b', Value.int (j : Int) (if j = j + (r.length + 1) then t else ts j)) :: rowsD _ (j + 1) (r ++ [(k, b)])
    rw [ih, if_neg (by omega)]
    rfl
def NDx (P : Program) (w : World) (p : Addr) (ks : List (NestedKey × Addr)) (h : Heap) : Prop :=
  (p == sysModules) = false ∧ ∃ (o : Obj) (es : Array DictEntry) (ep : Nat) (ts : Nat → Tok), h.get? p = some o ∧ o.ExactDict ∧ o.data = .dict es ep ∧ es.toList = (rowsD ts 0 ks).map (entryOfKey (nestedKind P w))
/-- a dict at p, its entries ks -/
def NDo (P : Program) (w : World) (p : Addr) (ks : List (NestedKey × Addr)) : HO := .ext (NDx P w p ks)
theorem NDx.ok {P : Program} {w : World} {H : Hp} {h : Heap} {p : Addr} {ks : List (NestedKey × Addr)} (x : NDx P w p ks h) : ObjOk P w H h p (NDo P w p ks) := by
  refine ⟨x, ?_, fun h1 h2 y k => ?_⟩
  · obtain ⟨_, o, _, _, _, e, _⟩ := x
    exact ⟨o, e⟩
  · obtain ⟨d, o, es, ep, ts, e, r⟩ := y
    exact ⟨d, o, es, ep, ts, k o e, r⟩
/-- the entries' keys are keys, no two alike -/
structure Keys (H : Hp) (ks : List (NestedKey × Addr)) : Prop where
  nd : (ks.map (·.1)).Nodup
  key : ∀ kb ∈ ks, KeyV H kb.1 (.ref kb.2) ∧ kb.1.depth ≤ 8
theorem Keys.tm {H H' : Hp} {ks : List (NestedKey × Addr)} (k : Keys H ks) (t : Tm H H') : Keys H' ks := ⟨k.nd, fun kb m => ⟨KeyV.tm t (k.key kb m).1, (k.key kb m).2⟩⟩
theorem Keys.snoc {H : Hp} {ks : List (NestedKey × Addr)} {k : NestedKey} {b : Addr} (h : Keys H ks) (hk : KeyV H k (.ref b)) (hd : k.depth ≤ 8) (hn : k ∉ ks.map (·.1)) : Keys H (ks ++ [(k, b)]) := by
  refine ⟨?_, fun kb m => ?_⟩
  · rw [List.map_append]
    exact List.nodup_append.mpr ⟨h.nd, by simp, fun a ha b hb => by
      rw [List.map_singleton, List.mem_singleton] at hb
      intro e
      exact hn (by
        have e2 : a = k := e.trans hb
        rw [← e2]
        exact ha)⟩
  · rcases List.mem_append.mp m with m | m
    · exact h.key kb m
    · rw [List.mem_singleton.mp m]
      exact ⟨hk, hd⟩
section
variable {X : Cx} {pins : List (Addr × Obj)} {σ : L2.St} {H : Hp} {s : Shared} {p b : Addr} {ks : List (NestedKey × Addr)} {k : NestedKey}
theorem nd_at (I : Inv X pins σ H s) (h : H p = some (NDo X.prog X.w p ks)) : NDx X.prog X.w p ks s.heap := (I.hok p _ h).1
theorem nd_of (I : Inv X pins σ H s) (h : H p = some (NDo X.prog X.w p ks)) (hk : Keys H ks) : ∃ ts, s.heap.DictOfH (nestedKind X.prog X.w) p (rowsD ts 0 ks) := by
  obtain ⟨_, o, es, ep, ts, h1, h2, h3, h4⟩ := nd_at I h
  refine ⟨ts, o, es, ep, h1, h2, h3, h4, fun x hx => ?_, by rw [rowsD_keys]; exact hk.nd⟩
  obtain ⟨i, hi⟩ := List.mem_iff_getElem?.mp hx
  rw [rowsD_at] at hi
  cases e : ks[i]? with
  | none =>
    rw [e] at hi
    cases hi
  | some kb =>
    rw [e] at hi
    have hi := Option.some.inj hi
    rw [← hi]
    obtain ⟨h5, h6⟩ := hk.key kb (List.mem_of_getElem? e)
    exact ⟨KeyV.nested I h5 rfl, h6⟩
/-- d.get(k) -/
theorem nd_get {A : Around} {E : Value → Shared → Prop} {Q : Value → Shared → Prop} (hu : A.units + 16 < cLine) (I : Inv X pins σ H s) (h : H p = some (NDo X.prog X.w p ks)) (hk : Keys H ks) (hb : KeyV H k (.ref b)) (hd : k.depth ≤ 8)
    (q1 : ∀ (i : Nat) (b' : Addr) (t : Tok) (s' : Shared), ks[i]? = some (k, b') → Inv X pins σ H s' → Q (.int (i : Int) t) s') (q2 : ∀ s', k ∉ ks.map (·.1) → Inv X pins σ H s' → Q .none s') :
    wpAny (model X.prog X.w) A (call (.builtin "dict.get") [.ref p, .ref b]) Q E s := by
  obtain ⟨ts, dd⟩ := nd_of I h hk
  refine call_meetsIn PySem.F.slot_dict_get dd.typeIs PySem.F.entry_dict_get (PySem.F.args_dict_get_2 _ _) (meetsH_dict_get (nestedKind X.prog X.w) p b (nd_at I h).1)
    ⟨(show A.in1.units + 8 < cLine by show A.units + 1 + 8 < cLine; omega), k, _, ⟨KeyV.nested I hb rfl, hd⟩, dd, ?_⟩
  by_cases c : k ∈ ks.map (·.1)
  · obtain ⟨kb, m, e⟩ := List.mem_map.mp c
    obtain ⟨i, hi⟩ := List.mem_iff_getElem?.mp m
    obtain ⟨k', b'⟩ := kb
    subst e
    have hx : (rowsD ts 0 ks)[i]? = some (k', (b', Value.int (i : Int) (ts i))) := by
      rw [rowsD_at, hi, Nat.zero_add]
      rfl
    rw [atKey_of_get (by rw [rowsD_keys]; exact hk.nd) hx]
    exact q1 i b' _ _ hi (I.tok _)
  · have hn : atKey (rowsD ts 0 ks) k = none := by
      refine atKey_none_of_get fun j pq hj => c ?_
      rw [← rowsD_keys ts ks 0]
      exact List.mem_map.mpr ⟨_, List.mem_of_getElem? hj, rfl⟩
    rw [hn]
    exact q2 _ c (I.tok _)
/-- d[k] = the number of entries, k new -/
theorem nd_put {A : Around} {E : Value → Shared → Prop} {Q : Unit → Shared → Prop} {u : Value} (hu : A.units + 16 < cLine) (I : Inv X pins σ H s) (h : H p = some (NDo X.prog X.w p ks)) (hk : Keys H ks) (hb : KeyV H k (.ref b)) (hd : k.depth ≤ 8)
    (hn : k ∉ ks.map (·.1)) (hl : ks.length ≤ 1000000) (ru : RelV (.int (ks.length : Int)) u) (q : ∀ s', Inv X pins σ (upd H p (NDo X.prog X.w p (ks ++ [(k, b)]))) s' → Q () s') : wpAny (model X.prog X.w) A (setItem (.ref p) (.ref b) u) Q E s := by
  obtain ⟨t, rfl⟩ := ru
  obtain ⟨ts, dd⟩ := nd_of I h hk
  refine wpAny_setItem_heap (hsz := by rw [rowsD_len]; exact le_line hl) (knd := nestedKind X.prog X.w) (k := k) (show A.in1.units + 8 < cLine by show A.units + 1 + 8 < cLine; omega) ⟨KeyV.nested I hb rfl, hd⟩ dd fun h' dd' hs => q _ ?_
  have hn' : atKey (rowsD ts 0 ks) k = none := by
    refine atKey_none_of_get fun j pq hj => hn ?_
    rw [← rowsD_keys ts ks 0]
    exact List.mem_map.mpr ⟨_, List.mem_of_getElem? hj, rfl⟩
  rw [storedH_new hn'] at dd'
  have e := rowsD_snoc ts k b t ks 0
  rw [Nat.zero_add] at e
  rw [e] at dd'
  obtain ⟨o, es, ep, h1, h2, h3, h4, _⟩ := dd'
  exact d_write I (by rw [h]; exact True.intro) hs ⟨o, h1⟩ (NDx.ok ⟨(nd_at I h).1, o, es, ep, _, h1, h2, h3, h4⟩)
end
section
variable {X : Cx} {pos : Pos}
/-- {} -/
theorem pe_ndnew : PE X (.Dict [] [] pos) (fun _ H Q => ∀ p, H p = none → Q (.ref p) (upd H p (NDo X.prog X.w p []))) := ⟨fun pins s σ H Q I h =>
  wpAny_Dict_empty ⟨.ref s.heap.objs.size, _, I.laid (a := s.heap.objs.size) (t' := s.toks) (fun _ _ q => Heap.get?_push_of_some _ q) (Nat.le_refl _)
    (NDx.ok ⟨beq_eq_false_iff_ne.mpr (Ne.symm (Nat.ne_of_lt I.big)), _, #[], 0, fun _ => 0, Heap.get?_push_size _ rfl, ⟨rfl, rfl, rfl⟩, rfl, rfl⟩), rfl, h _ (I.hok.fresh (Nat.le_refl _))⟩⟩
def tNGet (P : Program) (w : World) (td ty : TE) : TE := fun σ H Q => td σ H fun x H1 => ∃ p ks, x = .ref p ∧ H1 p = some (NDo P w p ks) ∧ ty σ H1 fun y H2 => ∃ b k, y = .ref b ∧ H2 p = some (NDo P w p ks) ∧ Keys H2 ks ∧ KeyV H2 k (.ref b) ∧ k.depth ≤ 8 ∧
  (∀ (i : Nat) (b' : Addr), ks[i]? = some (k, b') → Q (.int (i : Int)) H2) ∧ (k ∉ ks.map (·.1) → Q .non H2)
theorem pe_nget {o e : Expr} {apos cpos : Pos} {td ty : TE} (hu : X.A.units + 16 < cLine) (ho : PE X o td) (he : PE X e ty) (m : M1 X o "get" apos e cpos) : PE X (.Call (.Attribute o "get" apos) [e] [] cpos) (tNGet X.prog X.w td ty) := by
  refine ⟨fun pins s σ H Q I h => ?_⟩
  refine wpAny_Call_method m.base m.few m.line PySem.F.plainAttrs_dict PySem.F.slot_dict_get PySem.F.type_dict_get (thn (ho.run pins s σ H _ I h) fun u s1 ⟨x, H1, I1, rx, p, ks, ex, hp, q1⟩ => ?_)
  subst ex
  obtain rfl : u = Value.ref p := rx
  obtain ⟨_, ob, es, ep, ts, g1, g2, _⟩ := nd_at I1 hp
  refine ⟨⟨ob, g1, g2.1⟩, fun a q => ?_, ?_⟩
  · cases q
    exact ⟨ob, g1, g2.2.1⟩
  · rw [m.trees]
    refine Calls.callWith_builtin rfl (Calls.evalArgs_plain (Calls.spliced_cons (thn (he.run pins s1 σ H1 _ I1 q1) fun iv s2 ⟨y, H2, I2, ry, b, k, ey, hp2, hk, hb, hd, q2, q3⟩ => Calls.spliced_nil ?_)))
    subst ey
    obtain rfl : iv = Value.ref b := ry
    exact nd_get hu I2 hp2 hk hb hd (fun i b' t s3 hi I3 => ⟨.int (i : Int), H2, I3, relI _ _, q2 i b' hi⟩) fun s3 hn I3 => ⟨.non, H2, I3, rfl, q3 hn⟩
def sNPut (P : Program) (w : World) (td ty tv : TE) : TS := fun D σ H => tv σ H fun v H1 => td σ H1 fun x H2 => ty σ H2 fun y H3 => ∃ p ks b k, x = .ref p ∧ y = .ref b ∧ v = .int (ks.length : Int) ∧ H3 p = some (NDo P w p ks) ∧ Keys H3 ks ∧ KeyV H3 k (.ref b) ∧ k.depth ≤ 8 ∧
  k ∉ ks.map (·.1) ∧ ks.length ≤ 1000000 ∧ D.nx σ (upd H3 p (NDo P w p (ks ++ [(k, b)])))
theorem ps_nput {o i value : Expr} {pos pos' : Pos} {td ty tv : TE} (hu : X.A.units + 16 < cLine) (ho : PE X o td) (hi : PE X i ty) (hv : PE X value tv) (hs : swapsWith value (some (.Subscript o i pos')) pos.line X.env = pure false) :
    PS X (.Assign [.Subscript o i pos'] value pos) (sNPut X.prog X.w td ty tv) := by
  refine ⟨fun pins s σ H D I h => ?_⟩
  refine wpAny_Assign_Subscript (thn (hv.run pins s σ H _ I h) fun r s1 ⟨v, H1, I1, rv, q1⟩ => thn (ho.run pins s1 σ H1 _ I1 q1) fun u s2 ⟨x, H2, I2, rx, q2⟩ => thn (hi.run pins s2 σ H2 _ I2 q2) fun iv s3 ⟨y, H3, I3, ry, p, ks, b, k, ex, ey, ev, hp, hk, hb, hd, hn, hl, q3⟩ => ?_) hs
  subst ex ey ev
  obtain rfl : u = Value.ref p := rx
  obtain rfl : iv = Value.ref b := ry
  exact nd_put hu I3 hp hk hb hd hn hl rv fun s4 I4 => ⟨σ, _, I4, q3⟩
end
end K33
/-! K33W1: digits_of, code_of, run_code, block_code. -/
namespace K33
open PySem PySem.Spec PyProof.Rows L2
theorem digits_front : ∀ (k v : Nat), digits (k + 1) v = (v / 65536 ^ k % 65536) :: digits k v
  | 0, v => by
    show [] ++ [v % 65536] = [v / 1 % 65536]
    rw [Nat.div_one]
    rfl
  | k + 1, v => by
    show digits (k + 1) (v / 65536) ++ [v % 65536] = _ :: (digits k (v / 65536) ++ [v % 65536])
    rw [digits_front k (v / 65536), Nat.div_div_eq_div_mul, Nat.pow_succ, Nat.mul_comm]
    rfl
section
variable {P : Program} {w : World} {K : PySem.W.Frag} {mg : Str → Option Value} {base : Heap}
def spDigits : Sp := fun vs H Q _ => ∃ v k : Nat, vs = [.int (v : Int), .int (k : Int)] ∧ k ≤ 1000 ∧ ∀ p H', Same H H' → H' p = some (.tup (nI (digits k v))) → Q (.ref p) H'
theorem sc_digits : FnScope ["number", "count", "digits", "_"] ["number", "count"] (defScope s_digits_of) := ⟨rfl, rfl, rfl, by decide +kernel, rfl, by decide +kernel, by decide +kernel⟩
theorem ok_digits {C : Addr} (T : Tx K mg C) : Cal P w K mg base "digits_of" 1 ["number", "count"] spDigits := by
  obtain ⟨td, md⟩ := T.c_DIGIT
  have mr := T.n_range
  refine T.d_digits_of.cal (fun _ _ _ _ _ _ us hl => match us, hl with | [_, _], _ => rfl) fun f fd F _ _ _ => ?_
  refine okD F sc_digits (fun vs H Q E h => ?_) (fun cdv A outer s H vs Q E hr h => ?_)
  · obtain ⟨v, k, rfl, _⟩ := h
    rfl
  · obtain ⟨v, k, rfl, hk, q⟩ := h
    refine ⟨_, pss_cons (ps_set (i := 2) sc_digits.nd rfl (Or.inl rfl) (pe_tup pa_nil))
      (pss_cons (ps_for PassesOwn.never rfl (pi_range1 (by rfl) mr (pa_cons (pv 1) pa_nil)) (pg_name (i := 3) sc_digits.nd rfl (Or.inl rfl))
        (pss_cons (ps_set (i := 2) sc_digits.nd rfl (Or.inl rfl) (pe_op op_catA (pe_tup (pa_cons (pe_op op_mod (pv 0) (pe_glob (by rfl) md (relI _ _))) pa_nil)) (pv 2)))
          (pss_one (ps_set (i := 0) sc_digits.nd rfl (Or.inl rfl) (pe_op op_fdiv (pv 0) (pe_glob (by rfl) md (relI _ _)))))))
      (pss_one (ps_ret (pv 2)))), ?_⟩
    refine ⟨Nat.zero_le _, fun p np => ?_⟩
    refine ⟨_, rfl, (k : Int), rfl, by omega, by omega, for_range (lo := 0) (n := (k : Int).toNat) (fun i σ H' => ∃ (n : Int) (d : Addr) (o : Option V), σ = [some (.int n), some (.int (k : Int)), some (.ref d), o] ∧ n = ((v / 65536 ^ i : Nat) : Int) ∧ Same H H' ∧ H' d = some (.tup (nI (digits i v))))
      ⟨v, p, none, rfl, by rw [Nat.pow_zero, Nat.div_one], same_new np, upd_same⟩ ?_ ?_⟩
    · rintro i σ H1 hi ⟨n, d, o, rfl, hn, s1, hd⟩
      refine ⟨_, rfl, _, _, rfl, rfl, by show (0 : Int) < 65536; decide, by show 1 ≤ sizeLine; rw [sizeLine_eq]; decide, fun a na => ?_⟩
      have e1 : n % 65536 = ((v / 65536 ^ i % 65536 : Nat) : Int) := by omega
      have e2 : n / 65536 = ((v / 65536 ^ (i + 1) : Nat) : Int) := by
        rw [Nat.pow_succ, ← Nat.div_div_eq_div_mul]
        omega
      have s2 : Same H1 (upd H1 a (.tup [.int (n % 65536)])) := same_new na
      refine ⟨_, rfl, cat_get upd_same (s2 _ _ hd) (by rw [nI_length, digits_length]; show 1 + i ≤ 1000000; omega) fun z H2 s3 hz => ?_⟩
      refine ⟨_, rfl, _, _, rfl, rfl, ⟨by decide, by decide⟩, ?_⟩
      refine ⟨_, z, _, rfl, e2, (s1.trans s2).trans s3, ?_⟩
      rw [digits_front, nI_cons, ← e1]
      exact hz
    · rintro σ H1 ⟨n, d, o, rfl, hn, s1, hd⟩
      refine ⟨_, rfl, q d H1 s1 ?_⟩
      rw [hd, Int.toNat_natCast]
/-! ### code_of -/
/-- a scalar's value -/
def scV : Nd → V
  | .int i => .int i
  | .str s => .str s
  | _ => .non
/-- the value v is the element x -/
def EV (H : Hp) : Nd → V → Prop
  | .int i, v => v = .int i
  | .str s, v => v = .str s
  | .pair a b, v => ∃ p, v = .ref p ∧ H p = some (.tup [scV a, scV b])
  | _, _ => False
theorem EV.tm {H H' : Hp} (t : Tm H H') : ∀ {x : Nd} {v : V}, EV H x v → EV H' x v
  | .int _, _, h => h
  | .str _, _, h => h
  | .pair _ _, _, ⟨p, e, h⟩ => ⟨p, e, t _ _ h⟩
  | .run _ _, _, h => h.elim
  | .blk _, _, h => h.elim
theorem scV_EV (H : Hp) : ∀ {x : Nd}, Sc x → EV H x (scV x)
  | .int _, _ => rfl
  | .str _, _ => rfl
  | .pair _ _, h => h.elim
  | .run _ _, h => h.elim
  | .blk _, h => h.elim
def spCodeS : Sp := fun vs H Q _ => ∃ x : Nd, vs = [scV x] ∧ Sc x ∧ ∀ p H', Same H H' → H' p = some (.tup (nI (code x))) → Q (.ref p) H'
def spCode : Sp := fun vs H Q _ => ∃ (x : Nd) (v : V), vs = [v] ∧ El x ∧ EV H x v ∧ ∀ p H', Same H H' → H' p = some (.tup (nI (code x))) → Q (.ref p) H'
theorem sc_code : FnScope ["element", "character"] ["element"] (defScope s_code_of) := ⟨rfl, rfl, rfl, by decide +kernel, rfl, by decide +kernel, by decide +kernel⟩
theorem kit_it : PySem.W.kitOne K (.type "int") (.type "tuple") = some false := kit_ty (by decide +kernel)
theorem kit_st : PySem.W.kitOne K (.type "str") (.type "tuple") = some false := kit_ty (by decide +kernel)
theorem kit_is : PySem.W.kitOne K (.type "int") (.type "str") = some false := kit_ty (by decide +kernel)
theorem kit_ss : PySem.W.kitOne K (.type "str") (.type "str") = some true := kit_ty (by decide +kernel)
theorem kit_tt : PySem.W.kitOne K (.type "tuple") (.type "tuple") = some true := kit_ty (by decide +kernel)
abbrev FnCode (K : PySem.W.Frag) (f : Addr) (fd : FuncData) : Prop := FunD K "code_of" "code_of" (defArgs s_code_of) (defBody s_code_of) (defScope s_code_of) [] [] f fd
theorem fn_codeS {C f : Addr} {fd : FuncData} (T : Tx K mg C) (F : FnCode K f fd) : FnOk P w K mg base CX0 2 f fd ["element"] spCodeS := by
  obtain ⟨fD, fdD, GD, mD, kD, bD⟩ := (ok_digits (P := P) (w := w) (base := base) T).ex
  have mi := T.n_isinstance
  refine okD F sc_code (fun vs H Q E h => ?_) (fun cdv A outer s H vs Q E hr h => ?_)
  · obtain ⟨x, rfl, _⟩ := h
    rfl
  · obtain ⟨x, rfl, hx, q⟩ := h
    refine ⟨_, pss_cons (ps_if (pt_val (pe_callB call_isi (by rfl) mi b_isinstance (pa_cons (pv 0) (pa_cons (pe_bltn (v := .ty "tuple") (by rfl) T.n_tuple b_tuple rfl) pa_nil)))) (pss_one ps_never) pss_nil)
      (pss_cons (ps_if (pt_val (pe_callB call_isi (by rfl) mi b_isinstance (pa_cons (pv 0) (pa_cons (pe_bltn (v := .ty "str") (by rfl) T.n_str b_str rfl) pa_nil))))
          (pss_one (ps_ret (pe_op op_catA (pe_tup (pa_cons pe_int (pa_cons (pe_callB call_len_str (by rfl) T.n_len b_len (pa_cons (pv 0) pa_nil)) pa_nil)))
            (pe_callTy call_tuple_of (by rfl) T.n_tuple b_tuple (pa_cons (pe_lc (own := [("character", 1)]) rfl sc_code.nd (pi_str (pv 0)) (blkOk_by (own := [("character", 1)]) (N := ["element", "character"]) (sc := defScope s_code_of) (by decide +kernel)) (fun _ _ _ _ _ => pg_name (i := 1) sc_code.nd rfl (Or.inl rfl)) (fun _ _ _ _ _ => pts_nil)
              (fun _ _ _ _ _ => pe_callB call_ord (by rfl) T.n_ord b_ord (pa_cons (pv 1) pa_nil))) pa_nil))))) pss_nil)
      (pss_cons (ps_if (pt_cmpR op_lt (pv 0) pe_int (nomark _)) (pss_one (ps_ret (pe_op op_catA (pe_tup (pa_cons pe_int pa_nil)) (pe_call GD hr rfl mD kD bD .nil pass0 (pa_cons (pe_un un_neg (pv 0)) (pa_cons pe_int pa_nil)))))) pss_nil)
      (pss_one (ps_ret (pe_op op_catA (pe_tup (pa_cons pe_int pa_nil)) (pe_call GD hr rfl mD kD bD .nil pass0 (pa_cons (pv 0) (pa_cons pe_int pa_nil)))))))), ?_⟩
    cases x with
    | int i =>
      refine ⟨_, rfl, _, _, _, _, false, rfl, .ty _, .base (.int i), kit_it, _, rfl, ?_⟩
      refine iteF ?_
      refine ⟨_, rfl, _, _, _, _, false, rfl, .ty _, .base (.int i), kit_is, _, rfl, ?_⟩
      refine iteF ?_
      refine ⟨_, rfl, _, _, rfl, rfl, _, rfl, ?_⟩
      refine ite2 (fun c => ?_) (fun c => ?_)
      · have c : i < 0 := of_decide_eq_true c
        refine ⟨by show 1 ≤ sizeLine; rw [sizeLine_eq]; decide, fun a na => ?_⟩
        refine ⟨_, rfl, _, rfl, (-i).toNat, 4, by rw [Int.toNat_of_nonneg (by omega)]; rfl, by decide, fun p H1 s1 hp => ?_⟩
        refine cat_get (s1 _ _ upd_same) hp (by rw [nI_length, digits_length]; decide) fun z H2 s2 hz => ?_
        refine q z H2 ((Same.trans (same_new na) s1).trans s2) ?_
        rw [hz, code, if_neg (by omega)]
        rfl
      · have c : ¬ i < 0 := fun z => c (decide_eq_true z)
        refine ⟨by show 1 ≤ sizeLine; rw [sizeLine_eq]; decide, fun a na => ?_⟩
        refine ⟨_, rfl, i.toNat, 4, by rw [Int.toNat_of_nonneg (by omega)]; rfl, by decide, fun p H1 s1 hp => ?_⟩
        refine cat_get (s1 _ _ upd_same) hp (by rw [nI_length, digits_length]; decide) fun z H2 s2 hz => ?_
        refine q z H2 ((Same.trans (same_new na) s1).trans s2) ?_
        rw [hz, code, if_pos (by omega)]
        rfl
    | str x =>
      have hx : x.cps.toList.length ≤ 20 ∧ ∀ c ∈ x.cps.toList, c < 65536 := hx
      have hl : x.length = x.cps.toList.length := by
        show x.cps.size = _
        rw [Array.length_toList]
      refine ⟨_, rfl, _, _, _, _, false, rfl, .ty _, .base (.str x), kit_st, _, rfl, ?_⟩
      refine iteF ?_
      refine ⟨_, rfl, _, _, _, _, true, rfl, .ty _, .base (.str x), kit_ss, _, rfl, ?_⟩
      refine iteT ?_
      refine ⟨_, rfl, x, rfl, le_line (by omega), by show 2 ≤ sizeLine; rw [sizeLine_eq]; decide, fun a na => ?_⟩
      refine ⟨_, rfl, x, rfl, fun D hD => ?_⟩
      have nDa : a ≠ D := ne_of_none upd_same hD
      refine lc_gen x.cps.size (fun i H' => Same H H' ∧ H' a = some (.tup [.int 3, .int (x.length : Int)]) ∧ H' D = some (.lst (nI (x.cps.toList.take i))))
        ⟨(same_new na).new hD, by rw [upd_ne nDa, upd_same], upd_same⟩ (fun i H' hi _ => hi) (fun H' _ => Nat.le_refl _) ?_ ?_
      · rintro i v H1 H2 hi ⟨s1, ha, hd⟩ ⟨rfl, c, hc, rfl⟩
        refine ⟨rfl, ?_⟩
        refine ⟨_, rfl, _, rfl, rfl, ?_⟩
        have hc' : x.cps.toList[i]? = some c := by
          rw [Array.getElem?_toList]
          exact hc
        refine ⟨_, hd, lt_line (by rw [nI_length, List.length_take]; omega), s1.put ((same_new na).free hD), by rw [upd_ne nDa]; exact ha, ?_⟩
        rw [upd_same, List.take_add_one, hc', nI_append]
        rfl
      · rintro H1 ⟨s1, ha, hd⟩
        have e : x.cps.toList.take x.cps.size = x.cps.toList := by
          rw [← Array.length_toList]
          exact List.take_length
        rw [e] at hd
        refine ⟨_, _, rfl, .inl ⟨SqL.of hd, fun b nb => ?_⟩⟩
        have nab : a ≠ b := ne_of_none ha nb
        refine cat_get (by rw [upd_ne nab]; exact ha) upd_same (by rw [nI_length]; show 2 + _ ≤ 1000000; omega) fun z H2 s2 hz => ?_
        refine q z H2 ((s1.new nb).trans s2) ?_
        rw [hz, code_str, nI_cons, nI_cons, hl]
        rfl
    | pair a b => exact hx.elim
    | run c t => exact hx.elim
    | blk cs => exact hx.elim
theorem ok_codeS {C : Addr} (T : Tx K mg C) : Cal P w K mg base "code_of" 2 ["element"] spCodeS :=
  T.d_code_of.cal (fun _ _ _ _ _ _ us hl => match us, hl with | [_], _ => rfl) fun f fd F _ _ _ => fn_codeS T F
def spCodeP : Sp := fun vs H Q _ => ∃ (a b : Nd) (p : Addr), vs = [.ref p] ∧ Sc a ∧ Sc b ∧ H p = some (.tup [scV a, scV b]) ∧ ∀ p H', Same H H' → H' p = some (.tup (nI (code (.pair a b)))) → Q (.ref p) H'
theorem fn_codeP {C f : Addr} {fd : FuncData} (T : Tx K mg C) (F : FnCode K f fd) : FnOk P w K mg base CX0 3 f fd ["element"] spCodeP := by
  obtain ⟨fS, fdS, GS, mS, kS, bS⟩ := (ok_codeS (P := P) (w := w) (base := base) T).ex
  have mi := T.n_isinstance
  refine okD F sc_code (fun vs H Q E h => ?_) (fun cdv A outer s H vs Q E hr h => ?_)
  · obtain ⟨a, b, p, rfl, _⟩ := h
    rfl
  · obtain ⟨a, b, p, rfl, ha, hb, hp, q⟩ := h
    refine ⟨_, pss_cons (ps_if (pt_val (pe_callB call_isi (by rfl) mi b_isinstance (pa_cons (pv 0) (pa_cons (pe_bltn (v := .ty "tuple") (by rfl) T.n_tuple b_tuple rfl) pa_nil))))
        (pss_one (ps_ret (pe_op op_catA (pe_op op_catA (pe_tup (pa_cons pe_int pa_nil)) (pe_call GS hr rfl mS kS bS .nil pass0 (pa_cons (pe_ix ix_tup (pv 0) pe_int (fun _ _ => rfl)) pa_nil)))
          (pe_call GS hr rfl mS kS bS .nil pass0 (pa_cons (pe_ix ix_tup (pv 0) pe_int (fun _ _ => rfl)) pa_nil))))) pss_nil) pss_never, ?_⟩
    refine ⟨_, rfl, _, _, _, _, true, rfl, .ty _, .base (.tup hp), kit_tt, _, rfl, ?_⟩
    refine iteT ?_
    refine ⟨by show 1 ≤ sizeLine; rw [sizeLine_eq]; decide, fun c nc => ?_⟩
    have s1 : Same H (upd H c (.tup [.int 4])) := same_new nc
    have l1 := sc_len ha
    have l2 := sc_len hb
    refine ⟨_, rfl, p, _, _, _, rfl, rfl, SqT.of (s1 _ _ hp), atI_nat (j := 0) rfl, a, rfl, ha, fun z H2 s2 hz => ?_⟩
    refine cat_get (s2 _ _ upd_same) hz (by rw [nI_length]; show 1 + _ ≤ 1000000; omega) fun y H3 s3 hy => ?_
    refine ⟨_, rfl, p, _, _, _, rfl, rfl, SqT.of (((s1.trans s2).trans s3) _ _ hp), atI_nat (j := 1) rfl, b, rfl, hb, fun x H4 s4 hx => ?_⟩
    refine cat_get (s4 _ _ hy) hx (by rw [List.length_append, nI_length, nI_length]; show (1 + _) + _ ≤ 1000000; omega) fun r H5 s5 h5 => ?_
    refine q r H5 ((((s1.trans s2).trans s3).trans s4).trans s5) ?_
    rw [h5, code_pair, nI_cons, nI_append]
    rfl
theorem ok_code {C : Addr} (T : Tx K mg C) : Cal P w K mg base "code_of" 3 ["element"] spCode := by
  refine T.d_code_of.cal (fun _ _ _ _ _ _ us hl => match us, hl with | [_], _ => rfl) fun f fd F _ _ _ => ?_
  refine (fn_or ((fn_codeS T F).mono (by decide)) (fn_codeP T F)).imp fun vs H Q E h => ?_
  obtain ⟨x, v, rfl, hx, hv, q⟩ := h
  cases x with
  | int i =>
    have e : v = .int i := hv
    exact .inl ⟨.int i, by rw [e]; rfl, hx, q⟩
  | str s =>
    have e : v = .str s := hv
    exact .inl ⟨.str s, by rw [e]; rfl, hx, q⟩
  | pair a b =>
    obtain ⟨p, rfl, hp⟩ := hv
    exact .inr ⟨a, b, p, rfl, hx.1, hx.2, hp, q⟩
  | run c t => exact hx.elim
  | blk cs => exact hx.elim
/-! ### run_code, block_code -/
def spRunCode : Sp := fun vs H Q _ => ∃ (t : Nat) (a : Addr) (c : List Nat), vs = [.int (t : Int), .ref a] ∧ H a = some (.tup (nI c)) ∧ c.length ≤ 500000 ∧ ∀ p H', Same H H' → H' p = some (.tup (nI (5 :: (digits 2 t ++ c)))) → Q (.ref p) H'
theorem sc_run_code : FnScope ["times", "child_code"] ["times", "child_code"] (defScope s_run_code) := ⟨rfl, rfl, rfl, by decide +kernel, rfl, by decide +kernel, by decide +kernel⟩
theorem ok_run_code {C : Addr} (T : Tx K mg C) : Cal P w K mg base "run_code" 2 ["times", "child_code"] spRunCode := by
  obtain ⟨fD, fdD, GD, mD, kD, bD⟩ := (ok_digits (P := P) (w := w) (base := base) T).ex
  refine T.d_run_code.cal (fun _ _ _ _ _ _ us hl => match us, hl with | [_, _], _ => rfl) fun f fd F _ _ _ => ?_
  refine okD F sc_run_code (fun vs H Q E h => ?_) (fun cdv A outer s H vs Q E hr h => ?_)
  · obtain ⟨t, a, c, rfl, _⟩ := h
    rfl
  · obtain ⟨t, a, c, rfl, ha, hl, q⟩ := h
    refine ⟨_, pss_one (ps_ret (pe_op op_catA (pe_op op_catA (pe_tup (pa_cons pe_int pa_nil)) (pe_call GD hr rfl mD kD bD .nil pass0 (pa_cons (pv 0) (pa_cons pe_int pa_nil)))) (pv 1))), ?_⟩
    refine ⟨by show 1 ≤ sizeLine; rw [sizeLine_eq]; decide, fun x nx => ?_⟩
    have s1 : Same H (upd H x (.tup [.int 5])) := same_new nx
    refine ⟨_, rfl, t, 2, rfl, by decide, fun y H2 s2 hy => ?_⟩
    refine cat_get (s2 _ _ upd_same) hy (by rw [nI_length, digits_length]; decide) fun z H3 s3 hz => ?_
    refine ⟨_, rfl, ?_⟩
    refine cat_get hz (((s1.trans s2).trans s3) _ _ ha) (by rw [List.length_append, nI_length, nI_length, digits_length]; show (1 + 2) + _ ≤ 1000000; omega) fun r H4 s4 hr => ?_
    refine q r H4 (((s1.trans s2).trans s3).trans s4) ?_
    rw [hr, nI_cons, nI_append]
    rfl
end
end K33
/-! K33W2: block_code, node_code; nodes as nested tuples. -/
namespace K33
open PySem PySem.Spec PyProof.Rows L2
theorem iteP {c A B : Prop} [Decidable c] (h : c) (a : A) : if decide c = true then A else B := by
  rw [if_pos (decide_eq_true h)]
  exact a
theorem iteN {c A B : Prop} [Decidable c] (h : ¬ c) (b : B) : if decide c = true then A else B := by
  rw [if_neg (fun q => h (of_decide_eq_true q))]
  exact b
theorem ite2d {c A B : Prop} [Decidable c] (h1 : c → A) (h2 : ¬ c → B) : if decide c = true then A else B := by
  by_cases h : c
  · exact iteP h (h1 h)
  · exact iteN h (h2 h)
/-- at the addresses as stand the tuples of the numbers cs -/
abbrev Tups (H : Hp) (as : List Addr) (cs : List (List Nat)) : Prop := Paired (fun a c => H a = some (.tup (nI c))) as cs
theorem Tups.tm {H H' : Hp} (t : Tm H H') : ∀ {as : List Addr} {cs : List (List Nat)}, Tups H as cs → Tups H' as cs
  | _, _, .nil => .nil
  | _, _, .cons h r => .cons (t _ _ h) (Tups.tm t r)
theorem paired_snoc {α β : Type} {R : α → β → Prop} {a : α} {b : β} (h : R a b) : ∀ {as : List α} {bs : List β}, Paired R as bs → Paired R (as ++ [a]) (bs ++ [b])
  | _, _, .nil => .cons h .nil
  | _, _, .cons x r => .cons x (paired_snoc h r)
theorem Tups.snoc {H : Hp} {a : Addr} {c : List Nat} {as : List Addr} {cs : List (List Nat)} (h : H a = some (.tup (nI c))) (t : Tups H as cs) : Tups H (as ++ [a]) (cs ++ [c]) :=
  paired_snoc (R := fun a c => H a = some (.tup (nI c))) h t
theorem refs_snoc (as : List Addr) (a : Addr) : as.map V.ref ++ [V.ref a] = (as ++ [a]).map V.ref := by
  rw [List.map_append]
  rfl
section
variable {P : Program} {w : World} {K : PySem.W.Frag} {mg : Str → Option Value} {base : Heap}
def spBlockCode (K : PySem.W.Frag) : Sp := fun vs H Q _ => ∃ (l : Addr) (as : List Addr) (cs : List (List Nat)), vs = [.ref l] ∧ SqL K H l (as.map V.ref) ∧ Tups H as cs ∧ cs.length ≤ 500000 ∧ cs.flatten.length ≤ 500000 ∧
  ∀ p H', Same H H' → H' p = some (.tup (nI (6 :: cs.length :: cs.flatten))) → Q (.ref p) H'
theorem sc_block_code : FnScope ["child_codes", "code", "child_code"] ["child_codes"] (defScope s_block_code) := ⟨rfl, rfl, rfl, by decide +kernel, rfl, by decide +kernel, by decide +kernel⟩
theorem ok_block_code {C : Addr} (T : Tx K mg C) : Cal P w K mg base "block_code" 1 ["child_codes"] (spBlockCode K) := by
  refine T.d_block_code.cal (fun _ _ _ _ _ _ us hl => match us, hl with | [_], _ => rfl) fun f fd F _ _ _ => ?_
  refine okD F sc_block_code (fun vs H Q E h => ?_) (fun cdv A outer s H vs Q E hr h => ?_)
  · obtain ⟨l, as, cs, rfl, _⟩ := h
    rfl
  · obtain ⟨l, as, cs, rfl, hS, hT, hl, hf, q⟩ := h
    have n1 : as.length = cs.length := Paired.length hT
    refine ⟨_, pss_cons (ps_set (i := 1) sc_block_code.nd rfl (Or.inl rfl) (pe_lst (pa_cons pe_int (pa_cons (pe_callB call_len_seq (by rfl) T.n_len b_len (pa_cons (pv 0) pa_nil)) pa_nil))))
      (pss_cons (ps_for PassesOwn.never rfl (pi_list (pv 0)) (pg_name (i := 2) sc_block_code.nd rfl (Or.inl rfl))
        (pss_one (ps_expr (pe_bm PySem.F.plainAttrs_list PySem.F.slot_list_extend PySem.F.type_list_extend mt_extT (pv 1) (pa_cons (pv 2) pa_nil)))))
      (pss_one (ps_ret (pe_callTy call_tuple_of (by rfl) T.n_tuple b_tuple (pa_cons (pv 1) pa_nil))))), ?_⟩
    refine ⟨_, rfl, l, _, rfl, .inl hS, by show 2 ≤ sizeLine; rw [sizeLine_eq]; decide, fun c nc => ?_⟩
    rw [List.length_map, n1]
    refine ⟨_, rfl, l, rfl, ⟨_, (same_new nc).seq hS⟩, for_list (K := K) (a := l) (xs := as.map V.ref) (fun i σ H' => ∃ o, σ = [some (.ref l), some (.ref c), o] ∧ Same H H' ∧ H' c = some (.lst (nI (6 :: cs.length :: (cs.take i).flatten))))
      ⟨none, rfl, same_new nc, upd_same⟩ (fun i σ H' _ ⟨_, _, s1, _⟩ => s1.seq hS) ?_ ?_⟩
    · rintro i x σ H1 hi ⟨o, rfl, s1, hc⟩
      rw [List.getElem?_map] at hi
      cases ea : as[i]? with
      | none =>
        rw [ea] at hi
        cases hi
      | some a =>
        rw [ea] at hi
        have hi : V.ref a = x := Option.some.inj hi
        subst hi
        obtain ⟨d, ed, hd⟩ := paired_get hT ea
        have lt : (cs.take i).flatten.length + d.length ≤ 500000 := by
          have e1 : cs.flatten = (cs.take i).flatten ++ (cs.drop i).flatten := by rw [← List.flatten_append, List.take_append_drop]
          have e2 : cs.drop i = d :: cs.drop (i + 1) := List.drop_eq_getElem?_toList_append.trans (by rw [ed]; rfl)
          have e3 := congrArg List.length e1
          rw [e2, List.flatten_cons, List.length_append, List.length_append] at e3
          omega
        refine ⟨_, rfl, .inl ⟨rfl, _, SqL.of hc⟩, _, rfl, c, a, _, _, rfl, rfl, hc, SqT.of (s1 _ _ hd), le_line (by rw [nI_length, nI_length, List.length_cons, List.length_cons]; omega), ?_⟩
        refine ⟨_, rfl, s1.put nc, ?_⟩
        rw [upd_same, List.take_add_one, ed, List.flatten_append, nI_cons, nI_cons, nI_cons, nI_cons, nI_append]
        simp [nI]
    · rintro σ H1 ⟨o, rfl, s1, hc⟩
      rw [List.length_map, n1, List.take_length] at hc
      refine ⟨_, rfl, c, _, rfl, .inl ⟨SqL.of hc, fun p np => ?_⟩⟩
      exact q p _ (s1.new np) upd_same
end
/-! ### nodes -/
mutual
/-- the value v is the node n, as nested tuples -/
inductive NV (H : Hp) : Nd → V → Prop
  | leaf {e : Nd} {p : Addr} {v : V} : H p = some (.tup [.str "leaf", v]) → EV H e v → NV H e (.ref p)
  | run {c : Nd} {t : Nat} {p : Addr} {v : V} : H p = some (.tup [.str "run", v, .int (t : Int)]) → NV H c v → NV H (.run c t) (.ref p)
  | blk {cs : List Nd} {p q : Addr} {vs : List V} : H p = some (.tup [.str "block", .ref q]) → H q = some (.tup vs) → NVs H cs vs → NV H (.blk cs) (.ref p)
inductive NVs (H : Hp) : List Nd → List V → Prop
  | nil : NVs H [] []
  | cons {n : Nd} {v : V} {ns : List Nd} {vs : List V} : NV H n v → NVs H ns vs → NVs H (n :: ns) (v :: vs)
end
mutual
theorem NV.tm {H H' : Hp} (t : Tm H H') : ∀ {n : Nd} {v : V}, NV H n v → NV H' n v
  | _, _, .leaf h e => .leaf (t _ _ h) (EV.tm t e)
  | _, _, .run h r => .run (t _ _ h) (NV.tm t r)
  | _, _, .blk h h2 r => .blk (t _ _ h) (t _ _ h2) (NVs.tm t r)
theorem NVs.tm {H H' : Hp} (t : Tm H H') : ∀ {n : List Nd} {v : List V}, NVs H n v → NVs H' n v
  | _, _, .nil => .nil
  | _, _, .cons a b => .cons (NV.tm t a) (NVs.tm t b)
end
theorem NVs.length {H : Hp} : ∀ {n : List Nd} {v : List V}, NVs H n v → n.length = v.length
  | _, _, .nil => rfl
  | _, _, .cons _ b => congrArg (· + 1) (NVs.length b)
theorem NVs.get {H : Hp} : ∀ {ns : List Nd} {vs : List V} {i : Nat} {v : V}, NVs H ns vs → vs[i]? = some v → ∃ n, ns[i]? = some n ∧ NV H n v
  | _, _, _, _, .nil, e => by cases e
  | _, _, 0, _, .cons a b, e => ⟨_, rfl, by rw [← Option.some.inj e]; exact a⟩
  | _, _, i + 1, _, .cons a b, e => NVs.get (i := i) b e
theorem NVs.snoc {H : Hp} {n : Nd} {v : V} (h : NV H n v) : ∀ {ns : List Nd} {vs : List V}, NVs H ns vs → NVs H (ns ++ [n]) (vs ++ [v])
  | _, _, .nil => .cons h .nil
  | _, _, .cons a b => .cons a (NVs.snoc h b)
mutual
/-- how deep node_code goes -/
def dep : Nd → Nat
  | .int _ => 0
  | .str _ => 0
  | .pair _ _ => 0
  | .run c _ => dep c + 1
  | .blk cs => depL cs + 1
def depL : List Nd → Nat
  | [] => 0
  | x :: r => max (dep x) (depL r)
end
theorem dep_run (c : Nd) (t : Nat) : dep (.run c t) = dep c + 1 := by rw [dep]
theorem dep_blk (cs : List Nd) : dep (.blk cs) = depL cs + 1 := by rw [dep]
theorem dep_mem : ∀ {l : List Nd} {x : Nd}, x ∈ l → dep x ≤ depL l
  | y :: r, x, h => by
    show _ ≤ max (dep y) (depL r)
    rcases List.mem_cons.mp h with rfl | h
    · omega
    · have := dep_mem h
      omega
mutual
theorem dep_height : ∀ (x : Nd), Good x → dep x ≤ 2 * height x + (if isRun x then 1 else 0)
  | .int i, _ => by rw [dep, height_int]; exact Nat.zero_le _
  | .str i, _ => by rw [dep, height_str]; exact Nat.zero_le _
  | .pair _ _, _ => by rw [dep, height_pair]; exact Nat.zero_le _
  | .run c t, g => by
    rw [Good] at g
    have h := dep_height c g.1
    rw [g.2.1] at h
    rw [dep_run, height_run]
    simp [isRun] at h ⊢
    exact h
  | .blk cs, g => by
    rw [Good] at g
    have h := depL_height cs g.1
    rw [dep_blk, height_blk]
    simp [isRun]
    omega
theorem depL_height : ∀ (l : List Nd), GoodL l → depL l ≤ 2 * heightL l + 1
  | [], _ => Nat.zero_le _
  | x :: r, g => by
    have h1 := dep_height x g.1
    have h2 := depL_height r g.2
    show max (dep x) (depL r) ≤ 2 * max (height x) (heightL r) + 1
    have : (if isRun x then 1 else 0) ≤ 1 := by split <;> omega
    omega
end
theorem dep_le {x : Nd} (g : Good x) (h : size x < 256) : dep x ≤ 15 := by
  have h1 := dep_height x g
  have h2 := height_le g h
  have : (if isRun x then 1 else 0) ≤ 1 := by split <;> omega
  omega
theorem sizeL_child {cs : List Nd} {c : Nd} (h : c ∈ cs) : size c ≤ size (.blk cs) := by
  rw [size_blk]
  exact size_mem h
section
variable {P : Program} {w : World} {K : PySem.W.Frag} {mg : Str → Option Value} {base : Heap}
def spNodeCode (d : Nat) : Sp := fun vs H Q _ => ∃ (n : Nd) (v : V), vs = [v] ∧ NV H n v ∧ Good n ∧ dep n ≤ d ∧ size n ≤ 2000 ∧ ∀ p H', Same H H' → H' p = some (.tup (nI (code n))) → Q (.ref p) H'
theorem sc_node_code : FnScope ["node", "child"] ["node"] (defScope s_node_code) := ⟨rfl, rfl, rfl, by decide +kernel, rfl, by decide +kernel, by decide +kernel⟩
theorem fn_node_code0 {C f : Addr} {fd : FuncData} (T : Tx K mg C) (F : FunD K "node_code" "node_code" (defArgs s_node_code) (defBody s_node_code) (defScope s_node_code) [] [] f fd) : FnOk P w K mg base CX0 4 f fd ["node"] (spNodeCode 0) := by
  obtain ⟨fC, fdC, GC, mC, kC, bC⟩ := (ok_code (P := P) (w := w) (base := base) T).ex
  refine okD F sc_node_code (fun vs H Q E h => ?_) (fun cdv A outer s H vs Q E hr h => ?_)
  · obtain ⟨n, v, rfl, _⟩ := h
    rfl
  · obtain ⟨n, v, rfl, hn, hg, hd, hs, q⟩ := h
    refine ⟨_, pss_cons (ps_if (pt_cmpR op_eq (pe_ix ix_tup (pv 0) pe_int (fun _ _ => rfl)) pe_str (nomark _)) (pss_one (ps_ret (pe_call GC hr rfl mC kC bC .nil pass0 (pa_cons (pe_ix ix_tup (pv 0) pe_int (fun _ _ => rfl)) pa_nil)))) pss_nil) pss_never, ?_⟩
    cases hn with
    | @leaf e p v hp hv =>
      refine ⟨_, rfl, p, _, _, _, rfl, rfl, SqT.of hp, atI_nat (j := 0) rfl, rfl, _, rfl, iteP rfl ?_⟩
      refine ⟨_, rfl, p, _, _, _, rfl, rfl, SqT.of hp, atI_nat (j := 1) rfl, n, v, rfl, ?_, hv, q⟩
      cases n with
      | int i => exact hg
      | str x => exact hg
      | pair a b => exact hg
      | run c t => exact hv.elim
      | blk cs => exact hv.elim
    | run h r =>
      rw [dep_run] at hd
      omega
    | blk h h2 r =>
      rw [dep_blk] at hd
      omega
theorem fn_node_code {C f : Addr} {fd : FuncData} (T : Tx K mg C) (F : FunD K "node_code" "node_code" (defArgs s_node_code) (defBody s_node_code) (defScope s_node_code) [] [] f fd) (mf : mg "node_code" = some (.ref f)) (kf : PySem.W.keepIn K (.ref f) = true) (bf : L2.Binds K fd ["node"] []) :
    ∀ d, FnOk P w K mg base CX0 (d + 4) f fd ["node"] (spNodeCode d)
  | 0 => fn_node_code0 T F
  | d + 1 => by
    have GN := fn_node_code T F mf kf bf d
    obtain ⟨fC, fdC, GC, mC, kC, bC⟩ := (ok_code (P := P) (w := w) (base := base) T).ex
    obtain ⟨fR, fdR, GR, mR, kR, bR⟩ := (ok_run_code (P := P) (w := w) (base := base) T).ex
    obtain ⟨fB, fdB, GB, mB, kB, bB⟩ := (ok_block_code (P := P) (w := w) (base := base) T).ex
    refine okD F sc_node_code (fun vs H Q E h => ?_) (fun cdv A outer s H vs Q E hr h => ?_)
    · obtain ⟨n, v, rfl, _⟩ := h
      rfl
    · obtain ⟨n, v, rfl, hn, hg, hd, hs, q⟩ := h
      have hr3 : Room 3 _ := hr.mono (by omega)
      have hr2 : Room 2 _ := hr.mono (by omega)
      have hr1 : Room 1 _ := hr.mono (by omega)
      refine ⟨_, pss_cons (ps_if (pt_cmpR op_eq (pe_ix ix_tup (pv 0) pe_int (fun _ _ => rfl)) pe_str (nomark _)) (pss_one (ps_ret (pe_call GC hr3 rfl mC kC bC .nil pass0 (pa_cons (pe_ix ix_tup (pv 0) pe_int (fun _ _ => rfl)) pa_nil)))) pss_nil)
        (pss_cons (ps_if (pt_cmpR op_eq (pe_ix ix_tup (pv 0) pe_int (fun _ _ => rfl)) pe_str (nomark _))
          (pss_one (ps_ret (pe_call GR hr2 rfl mR kR bR .nil pass0 (pa_cons (pe_ix ix_tup (pv 0) pe_int (fun _ _ => rfl)) (pa_cons (pe_call GN hr rfl mf kf bf .nil pass0 (pa_cons (pe_ix ix_tup (pv 0) pe_int (fun _ _ => rfl)) pa_nil)) pa_nil))))) pss_nil)
        (pss_one (ps_ret (pe_call GB hr1 rfl mB kB bB .nil pass0 (pa_cons (pe_lc (own := [("child", 1)]) rfl sc_node_code.nd (pi_tup (pe_ix ix_tup (pv 0) pe_int (fun _ _ => rfl))) (blkOk_by (own := [("child", 1)]) (N := ["node", "child"]) (sc := defScope s_node_code) (by decide +kernel))
          (fun _ _ _ _ _ => pg_name (i := 1) sc_node_code.nd rfl (Or.inl rfl)) (fun _ _ _ _ _ => pts_nil) (fun _ _ _ _ _ => pe_call GN hr rfl mf kf bf .nil pass0 (pa_cons (pv 1) pa_nil))) pa_nil))))), ?_⟩
      cases hn with
      | @leaf e p v hp hv =>
        refine ⟨_, rfl, p, _, _, _, rfl, rfl, SqT.of hp, atI_nat (j := 0) rfl, rfl, _, rfl, iteP rfl ?_⟩
        refine ⟨_, rfl, p, _, _, _, rfl, rfl, SqT.of hp, atI_nat (j := 1) rfl, n, v, rfl, ?_, hv, q⟩
        cases n with
        | int i => exact hg
        | str x => exact hg
        | pair a b => exact hg
        | run c t => exact hv.elim
        | blk cs => exact hv.elim
      | @run c t p v hp hv =>
        rw [dep_run] at hd
        rw [Good] at hg
        rw [size_run] at hs
        have hcs : size c ≤ 2000 := by
          have : 1 * size c ≤ t * size c := Nat.mul_le_mul_right _ (by omega)
          omega
        have hl := code_len c hg.1
        refine ⟨_, rfl, p, _, _, _, rfl, rfl, SqT.of hp, atI_nat (j := 0) rfl, rfl, _, rfl, iteN (by decide) ?_⟩
        refine ⟨_, rfl, p, _, _, _, rfl, rfl, SqT.of hp, atI_nat (j := 0) rfl, rfl, _, rfl, iteP rfl ?_⟩
        refine ⟨_, rfl, p, _, _, _, rfl, rfl, SqT.of hp, atI_nat (j := 2) rfl, _, rfl, p, _, _, _, rfl, rfl, SqT.of hp, atI_nat (j := 1) rfl, c, v, rfl, hv, hg.1, by omega, hcs, fun a H1 s1 ha => ?_⟩
        refine ⟨t, a, code c, rfl, ha, by omega, fun z H2 s2 hz => ?_⟩
        refine q z H2 (s1.trans s2) ?_
        rw [hz, code_run]
      | @blk cs p pq vs hp hq hv =>
        rw [dep_blk] at hd
        rw [Good] at hg
        have hlen := hv.length
        refine ⟨_, rfl, p, _, _, _, rfl, rfl, SqT.of hp, atI_nat (j := 0) rfl, rfl, _, rfl, iteN (by decide) ?_⟩
        refine ⟨_, rfl, p, _, _, _, rfl, rfl, SqT.of hp, atI_nat (j := 0) rfl, rfl, _, rfl, iteN (by decide) ?_⟩
        refine ⟨_, rfl, p, _, _, _, rfl, rfl, SqT.of hp, atI_nat (j := 1) rfl, pq, rfl, ⟨_, SqT.of hq⟩, fun D hD => ?_⟩
        refine lc_tup (K := K) (a := pq) (xs := vs) (fun i H' => ∃ as : List Addr, Same H H' ∧ H' D = some (.lst (as.map V.ref)) ∧ Tups H' as ((cs.take i).map code))
          ⟨[], same_new hD, upd_same, .nil⟩ (fun i H' _ ⟨_, s1, _⟩ => SqT.of (s1 _ _ hq)) ?_ ?_
        · rintro i x H1 hi ⟨as, s1, hd1, ht⟩
          obtain ⟨c, ec, hc⟩ := hv.get hi
          have mc : c ∈ cs := List.mem_of_getElem? ec
          have sc := sizeL_child mc
          refine ⟨rfl, ?_⟩
          refine ⟨_, rfl, c, x, rfl, NV.tm s1.tm hc, (goodL_iff cs).mp hg.1 c mc, by have := dep_mem mc; omega, by omega, fun a H2 s2 ha => ?_⟩
          have hd2 := s2 _ _ hd1
          have la : as.length = i := by
            have := Paired.length ht
            rw [List.length_map, List.length_take] at this
            have := (List.getElem?_eq_some_iff.mp ec).1
            omega
          refine ⟨_, hd2, lt_line (by rw [List.length_map, la]; have := (List.getElem?_eq_some_iff.mp ec).1; omega), as ++ [a], (s1.trans s2).put hD, ?_, ?_⟩
          · rw [upd_same, refs_snoc]
          · have t2 : Tm H1 (upd H2 D (.lst (as.map V.ref ++ [.ref a]))) := Tm.lst s2.tm hd2
            have t3 : Tm H2 (upd H2 D (.lst (as.map V.ref ++ [.ref a]))) := Tm.lst (Tm.refl _) hd2
            rw [List.take_add_one, ec, List.map_append]
            exact Tups.snoc (t3 _ _ ha) (Tups.tm t2 ht)
        · rintro H1 ⟨as, s1, hd1, ht⟩
          rw [← hlen, List.take_length] at ht
          have hcl := codeL_len cs hg.1
          rw [size_blk] at hs
          refine ⟨D, as, cs.map code, rfl, SqL.of hd1, ht, by rw [List.length_map]; omega, by rw [← codeL_eq]; omega, fun z H2 s2 hz => ?_⟩
          refine q z H2 (s1.trans s2) ?_
          rw [hz, code_blk, codeL_eq, List.length_map]
theorem ok_node_code {C : Addr} (T : Tx K mg C) : Cal P w K mg base "node_code" 20 ["node"] (spNodeCode 16) :=
  T.d_node_code.cal (fun _ _ _ _ _ _ us hl => match us, hl with | [_], _ => rfl) fun f fd F mf kf bf => fn_node_code T F mf kf bf 16
end
end K33
/-! K33W3: nodes as data and their equality; groups_of, item_of, items_of. -/
namespace K33
open PySem PySem.Spec PyProof.Rows L2
/-! ### nodes as data -/
def scD : Nd → PyData
  | .int i => .int i
  | .str s => .str s
  | _ => .none
def elD : Nd → PyData
  | .int i => .int i
  | .str s => .str s
  | .pair a b => .tuple [scD a, scD b]
  | _ => .none
mutual
def py : Nd → PyData
  | .int i => .tuple [.str "leaf", elD (.int i)]
  | .str s => .tuple [.str "leaf", elD (.str s)]
  | .pair a b => .tuple [.str "leaf", elD (.pair a b)]
  | .run c t => .tuple [.str "run", py c, .int (t : Int)]
  | .blk cs => .tuple [.str "block", .tuple (pyL cs)]
def pyL : List Nd → List PyData
  | [] => []
  | x :: r => py x :: pyL r
end
theorem py_run (c : Nd) (t : Nat) : py (.run c t) = .tuple [.str "run", py c, .int (t : Int)] := by rw [py]
theorem py_blk (cs : List Nd) : py (.blk cs) = .tuple [.str "block", .tuple (pyL cs)] := by rw [py]
theorem py_leaf : ∀ {e : Nd}, El e → py e = .tuple [.str "leaf", elD e]
  | .int _, _ => by rw [py]
  | .str _, _ => by rw [py]
  | .pair _ _, _ => by rw [py]
  | .run _ _, h => h.elim
  | .blk _, h => h.elim
section
variable {K : PySem.W.Frag} {H : Hp}
theorem scV_dp : ∀ {x : Nd}, Sc x → Dp K H (scV x) (scD x)
  | .int i, _ => .int i
  | .str s, _ => .str s
  | .pair _ _, h => h.elim
  | .run _ _, h => h.elim
  | .blk _, h => h.elim
theorem EV.dp : ∀ {x : Nd} {v : V}, El x → EV H x v → Dp K H v (elD x)
  | .int i, _, _, h => by
    rw [show _ = V.int i from h]
    exact .int i
  | .str s, _, _, h => by
    rw [show _ = V.str s from h]
    exact .str s
  | .pair a b, _, g, ⟨p, e, h⟩ => by
    rw [e]
    exact .tup (SqT.of h) (.cons (scV_dp g.1) (.cons (scV_dp g.2) .nil))
  | .run _ _, _, h, _ => h.elim
  | .blk _, _, h, _ => h.elim
theorem Good.el {e : Nd} (g : Good e) {v : V} (h : EV H e v) : El e := by
  cases e with
  | int i => exact g
  | str s => exact g
  | pair a b => exact g
  | run c t => exact h.elim
  | blk cs => exact h.elim
mutual
theorem NV.dp : ∀ {n : Nd} {v : V}, Good n → NV H n v → Dp K H v (py n)
  | n, _, g, .leaf h e => by
    rw [py_leaf (g.el e)]
    exact .tup (SqT.of h) (.cons (.str _) (.cons (EV.dp (g.el e) e) .nil))
  | .run c t, _, g, .run h r => by
    rw [Good] at g
    rw [py_run]
    exact .tup (SqT.of h) (.cons (.str _) (.cons (NV.dp g.1 r) (.cons (.int _) .nil)))
  | .blk cs, _, g, .blk h h2 r => by
    rw [Good] at g
    rw [py_blk]
    exact .tup (SqT.of h) (.cons (.str _) (.cons (.tup (SqT.of h2) (NVs.dp g.1 r)) .nil))
theorem NVs.dp : ∀ {n : List Nd} {v : List V}, GoodL n → NVs H n v → DpAll K H v (pyL n)
  | _, _, _, .nil => .nil
  | _, _, g, .cons a b => .cons (NV.dp g.1 a) (NVs.dp g.2 b)
end
end
theorem eqv_str (a b : Str) : PyData.eqv (.str a) (.str b) = decide (a = b) := by
  rw [PyData.eqv]
  by_cases h : a = b
  · subst h
    simp
  · simp [h]
theorem eqv_int (a b : Int) : PyData.eqv (.int a) (.int b) = decide (a = b) := by
  rw [PyData.eqv]
  by_cases h : a = b
  · subst h
    simp
  · simp [h]
theorem eqv_tup2 (a b c d : PyData) : PyData.eqv (.tuple [a, b]) (.tuple [c, d]) = (PyData.eqv a c && PyData.eqv b d) := by
  rw [PyData.eqv, PyData.eqvAll, PyData.eqvAll, PyData.eqvAll, Bool.and_true]
theorem eqv_tup3 (a b c d e f : PyData) : PyData.eqv (.tuple [a, b, c]) (.tuple [d, e, f]) = (PyData.eqv a d && (PyData.eqv b e && PyData.eqv c f)) := by
  rw [PyData.eqv, PyData.eqvAll, PyData.eqvAll, PyData.eqvAll, PyData.eqvAll, Bool.and_true]
theorem eqv_tup23 (a b c d e : PyData) : PyData.eqv (.tuple [a, b]) (.tuple [c, d, e]) = false := by
  rw [PyData.eqv, PyData.eqvAll, PyData.eqvAll, PyData.eqvAll, Bool.and_false, Bool.and_false]
theorem eqv_tup32 (a b c d e : PyData) : PyData.eqv (.tuple [c, d, e]) (.tuple [a, b]) = false := by
  rw [PyData.eqv, PyData.eqvAll, PyData.eqvAll, PyData.eqvAll, Bool.and_false, Bool.and_false]
theorem scD_eqv : ∀ {a b : Nd}, Sc a → Sc b → PyData.eqv (scD a) (scD b) = decide (a = b)
  | .int i, .int j, _, _ => by
    show PyData.eqv (.int i) (.int j) = _
    rw [eqv_int]
    exact decide_eq_decide.mpr ⟨fun e => by rw [e], fun e => by injection e⟩
  | .int i, .str s, _, _ => by
    show PyData.eqv (.int i) (.str s) = _
    rw [PyData.eqv]
    exact (decide_eq_false (fun e => by cases e)).symm
  | .str s, .int i, _, _ => by
    show PyData.eqv (.str s) (.int i) = _
    rw [PyData.eqv]
    exact (decide_eq_false (fun e => by cases e)).symm
  | .str s, .str t, _, _ => by
    show PyData.eqv (.str s) (.str t) = _
    rw [eqv_str]
    exact decide_eq_decide.mpr ⟨fun e => by rw [e], fun e => by injection e⟩
  | .pair _ _, _, h, _ => h.elim
  | .run _ _, _, h, _ => h.elim
  | .blk _, _, h, _ => h.elim
  | .int _, .pair _ _, _, h => h.elim
  | .int _, .run _ _, _, h => h.elim
  | .int _, .blk _, _, h => h.elim
  | .str _, .pair _ _, _, h => h.elim
  | .str _, .run _ _, _, h => h.elim
  | .str _, .blk _, _, h => h.elim
theorem elD_eqv {a b : Nd} (ha : El a) (hb : El b) : PyData.eqv (elD a) (elD b) = decide (a = b) := by
  cases a with
  | int i =>
    cases b with
    | int j => exact scD_eqv (a := .int i) (b := .int j) ha hb
    | str s => exact scD_eqv (a := .int i) (b := .str s) ha hb
    | pair c d =>
      show PyData.eqv (.int i) (.tuple [scD c, scD d]) = _
      rw [PyData.eqv]
      exact (decide_eq_false (fun e => by cases e)).symm
    | run c t => exact hb.elim
    | blk cs => exact hb.elim
  | str s =>
    cases b with
    | int j => exact scD_eqv (a := .str s) (b := .int j) ha hb
    | str t => exact scD_eqv (a := .str s) (b := .str t) ha hb
    | pair c d =>
      show PyData.eqv (.str s) (.tuple [scD c, scD d]) = _
      rw [PyData.eqv]
      exact (decide_eq_false (fun e => by cases e)).symm
    | run c t => exact hb.elim
    | blk cs => exact hb.elim
  | pair x y =>
    cases b with
    | int j =>
      show PyData.eqv (.tuple [scD x, scD y]) (.int j) = _
      rw [PyData.eqv]
      exact (decide_eq_false (fun e => by cases e)).symm
    | str t =>
      show PyData.eqv (.tuple [scD x, scD y]) (.str t) = _
      rw [PyData.eqv]
      exact (decide_eq_false (fun e => by cases e)).symm
    | pair c d =>
      show PyData.eqv (.tuple [scD x, scD y]) (.tuple [scD c, scD d]) = _
      rw [eqv_tup2, scD_eqv ha.1 hb.1, scD_eqv ha.2 hb.2]
      by_cases h1 : x = c
      · by_cases h2 : y = d
        · rw [h1, h2]
          simp
        · rw [decide_eq_false h2, Bool.and_false]
          exact (decide_eq_false (fun e => h2 (by injection e))).symm
      · rw [decide_eq_false h1, Bool.false_and]
        exact (decide_eq_false (fun e => h1 (by injection e))).symm
    | run c t => exact hb.elim
    | blk cs => exact hb.elim
  | run c t => exact ha.elim
  | blk cs => exact ha.elim
theorem leaf_cases {n : Nd} (g : Good n) : El n ∨ (∃ c t, n = .run c t) ∨ ∃ cs, n = .blk cs := by
  cases n with
  | int i => exact .inl g
  | str s => exact .inl g
  | pair a b => exact .inl g
  | run c t => exact .inr (.inl ⟨c, t, rfl⟩)
  | blk cs => exact .inr (.inr ⟨cs, rfl⟩)
theorem s_lr : ¬ (("leaf" : Str) = "run") := by decide +kernel
theorem s_lb : ¬ (("leaf" : Str) = "block") := by decide +kernel
theorem s_br : ¬ (("block" : Str) = "run") := by decide +kernel
mutual
/-- two nodes are equal as data if they are the same node -/
theorem py_eqv : ∀ (a b : Nd), Good a → Good b → PyData.eqv (py a) (py b) = decide (a = b)
  | .run c t, b, ga, gb => by
    rw [Good] at ga
    rcases leaf_cases gb with hb | ⟨d, u, rfl⟩ | ⟨ds, rfl⟩
    · rw [py_run, py_leaf hb, eqv_tup32]
      exact (decide_eq_false (fun e => by rw [← e] at hb; exact hb.elim)).symm
    · rw [Good] at gb
      rw [py_run, py_run, eqv_tup3, py_eqv c d ga.1 gb.1, eqv_int, eqv_str]
      by_cases h1 : c = d
      · by_cases h2 : t = u
        · rw [h1, h2]
          simp
        · rw [decide_eq_false (show ¬ ((t : Int) = (u : Int)) by omega), Bool.and_false, Bool.and_false]
          exact (decide_eq_false (fun e => h2 (by injection e))).symm
      · rw [decide_eq_false h1, Bool.false_and, Bool.and_false]
        exact (decide_eq_false (fun e => h1 (by injection e))).symm
    · rw [py_run, py_blk, eqv_tup32]
      exact (decide_eq_false (fun e => by cases e)).symm
  | .blk cs, b, ga, gb => by
    rw [Good] at ga
    rcases leaf_cases gb with hb | ⟨d, u, rfl⟩ | ⟨ds, rfl⟩
    · rw [py_blk, py_leaf hb, eqv_tup2, eqv_str, decide_eq_false (fun e => s_lb e.symm), Bool.false_and]
      exact (decide_eq_false (fun e => by rw [← e] at hb; exact hb.elim)).symm
    · rw [py_run, py_blk, eqv_tup23]
      exact (decide_eq_false (fun e => by cases e)).symm
    · rw [Good] at gb
      rw [py_blk, py_blk, eqv_tup2, eqv_str, PyData.eqv, pyL_eqv cs ds ga.1 gb.1, decide_eq_true rfl, Bool.true_and]
      exact decide_eq_decide.mpr ⟨fun e => by rw [e], fun e => by injection e⟩
  | .int i, b, ga, gb => leaf_eqv (a := .int i) ga gb
  | .str i, b, ga, gb => leaf_eqv (a := .str i) ga gb
  | .pair i j, b, ga, gb => leaf_eqv (a := .pair i j) ga gb
theorem pyL_eqv : ∀ (a b : List Nd), GoodL a → GoodL b → PyData.eqvAll (pyL a) (pyL b) = decide (a = b)
  | [], [], _, _ => by
    show PyData.eqvAll [] [] = _
    rw [PyData.eqvAll]
    exact (decide_eq_true rfl).symm
  | [], y :: ys, _, _ => by
    show PyData.eqvAll [] (py y :: pyL ys) = _
    rw [PyData.eqvAll]
    exact (decide_eq_false (fun e => by cases e)).symm
  | x :: xs, [], _, _ => by
    show PyData.eqvAll (py x :: pyL xs) [] = _
    rw [PyData.eqvAll]
    exact (decide_eq_false (fun e => by cases e)).symm
  | x :: xs, y :: ys, ga, gb => by
    show PyData.eqvAll (py x :: pyL xs) (py y :: pyL ys) = _
    rw [PyData.eqvAll, py_eqv x y ga.1 gb.1, pyL_eqv xs ys ga.2 gb.2]
    by_cases h1 : x = y
    · by_cases h2 : xs = ys
      · rw [h1, h2]
        simp
      · rw [decide_eq_false h2, Bool.and_false]
        exact (decide_eq_false (fun e => h2 (by injection e))).symm
    · rw [decide_eq_false h1, Bool.false_and]
      exact (decide_eq_false (fun e => h1 (by injection e))).symm
theorem leaf_eqv : ∀ {a b : Nd}, El a → Good b → PyData.eqv (py a) (py b) = decide (a = b) := by
  intro a b ha gb
  rcases leaf_cases gb with hb | ⟨d, u, rfl⟩ | ⟨ds, rfl⟩
  · rw [py_leaf ha, py_leaf hb, eqv_tup2, eqv_str, elD_eqv ha hb, decide_eq_true rfl, Bool.true_and]
  · rw [py_leaf ha, py_run, eqv_tup23]
    exact (decide_eq_false (fun e => by rw [e] at ha; exact ha.elim)).symm
  · rw [py_leaf ha, py_blk, eqv_tup2, eqv_str, decide_eq_false s_lb, Bool.false_and]
    exact (decide_eq_false (fun e => by rw [e] at ha; exact ha.elim)).symm
end
end K33
/-! K33W4: groups_of, item_of, items_of. -/
namespace K33
open PySem PySem.Spec PyProof.Rows L2
/-! ### nodes are data that == takes -/
theorem elD_ok {e : Nd} (h : El e) : PyData.canLay0 (elD e) = true ∧ (elD e).depth ≤ 1 := by
  have str : ∀ s : Str, Sc (.str s) → PyData.strOk s = true := fun s hs => by
    have hs : s.cps.toList.length ≤ 20 ∧ ∀ c ∈ s.cps.toList, c < 65536 := hs
    unfold PyData.strOk
    rw [Array.all_eq_true]
    intro i hi
    have := hs.2 s.cps[i] (by rw [Array.mem_toList_iff]; exact Array.getElem_mem hi)
    exact decide_eq_true (by omega)
  have sc : ∀ x : Nd, Sc x → PyData.canLay0 (scD x) = true ∧ (scD x).depth = 0 := fun x hx => by
    cases x with
    | int i => exact ⟨by simp [scD, PyData.canLay0], by simp [scD, PyData.depth]⟩
    | str s => exact ⟨by simp [scD, PyData.canLay0, str s hx], by simp [scD, PyData.depth]⟩
    | pair a b => exact hx.elim
    | run c t => exact hx.elim
    | blk cs => exact hx.elim
  cases e with
  | int i => exact ⟨by simp [elD, PyData.canLay0], by simp [elD, PyData.depth]⟩
  | str s => exact ⟨by simp [elD, PyData.canLay0, str s h], by simp [elD, PyData.depth]⟩
  | pair a b =>
    obtain ⟨c1, d1⟩ := sc a h.1
    obtain ⟨c2, d2⟩ := sc b h.2
    exact ⟨by simp [elD, PyData.canLay0, PyData.canLayAll0, c1, c2], by simp [elD, PyData.depth, PyData.depthAll, d1, d2]⟩
  | run c t => exact h.elim
  | blk cs => exact h.elim
theorem ok_word : PyData.strOk "leaf" = true ∧ PyData.strOk "run" = true ∧ PyData.strOk "block" = true := by decide +kernel
mutual
theorem py_ok : ∀ (n : Nd), Good n → PyData.canLay0 (py n) = true ∧ (py n).depth ≤ 3 * height n + 2 + (if isRun n then 1 else 0)
  | .run c t, g => by
    rw [Good] at g
    obtain ⟨h1, h2⟩ := py_ok c g.1
    rw [g.2.1] at h2
    rw [py_run, height_run]
    refine ⟨by simp [PyData.canLay0, PyData.canLayAll0, h1, ok_word.2.1], ?_⟩
    simp [PyData.depth, PyData.depthAll, isRun] at h2 ⊢
    omega
  | .blk cs, g => by
    rw [Good] at g
    obtain ⟨h1, h2⟩ := pyL_ok cs g.1
    rw [py_blk, height_blk]
    refine ⟨by simp [PyData.canLay0, PyData.canLayAll0, h1, ok_word.2.2], ?_⟩
    simp [PyData.depth, PyData.depthAll, isRun] at h2 ⊢
    omega
  | .int i, g => leaf_ok (e := .int i) g
  | .str i, g => leaf_ok (e := .str i) g
  | .pair i j, g => leaf_ok (e := .pair i j) g
theorem pyL_ok : ∀ (l : List Nd), GoodL l → PyData.canLayAll0 (pyL l) = true ∧ PyData.depthAll (pyL l) ≤ 3 * heightL l + 3
  | [], _ => ⟨by simp [pyL, PyData.canLayAll0], by simp [pyL, PyData.depthAll]⟩
  | x :: r, g => by
    obtain ⟨h1, h2⟩ := py_ok x g.1
    obtain ⟨h3, h4⟩ := pyL_ok r g.2
    refine ⟨by simp [pyL, PyData.canLayAll0, h1, h3], ?_⟩
    show PyData.depthAll (py x :: pyL r) ≤ 3 * max (height x) (heightL r) + 3
    rw [PyData.depthAll]
    have : (if isRun x then 1 else 0) ≤ 1 := by split <;> omega
    omega
theorem leaf_ok : ∀ {e : Nd}, El e → PyData.canLay0 (py e) = true ∧ (py e).depth ≤ 3 * height e + 2 + (if isRun e then 1 else 0) := by
  intro e h
  obtain ⟨h1, h2⟩ := elD_ok h
  rw [py_leaf h]
  refine ⟨by simp [PyData.canLay0, PyData.canLayAll0, h1, ok_word.1], ?_⟩
  have : (PyData.tuple [.str "leaf", elD e]).depth ≤ 2 := by
    simp [PyData.depth, PyData.depthAll]
    omega
  omega
end
theorem py_shaped {n : Nd} (g : Good n) (h : size n < 256) : SeqAt.shaped (py n) = true := by
  obtain ⟨h1, h2⟩ := py_ok n g
  have h3 := height_le g h
  have : (if isRun n then 1 else 0) ≤ 1 := by split <;> omega
  unfold SeqAt.shaped
  rw [h1, Bool.true_and]
  exact decide_eq_true (by omega)
/-! ### what reads as data stays -/
theorem _root_.L2.Same.seqT {K : PySem.W.Frag} {H H' : Hp} {a : Addr} {xs : List V} (s : Same H H') (h : SqT K H a xs) : SqT K H' a xs := by
  rcases h with (h | ⟨o, h⟩) | h
  · exact .inl (.inl (s _ _ h))
  · exact .inl (.inr ⟨o, s _ _ h⟩)
  · exact .inr h
mutual
theorem dp_same {K : PySem.W.Frag} {H H' : Hp} (s : Same H H') : ∀ {v : V} {d : PyData}, Dp K H v d → Dp K H' v d
  | _, _, .non => .non
  | _, _, .bl b => .bl b
  | _, _, .int i => .int i
  | _, _, .str x => .str x
  | _, _, .lst h r => .lst (s.seq h) (dpAll_same s r)
  | _, _, .tup h r => .tup (s.seqT h) (dpAll_same s r)
theorem dpAll_same {K : PySem.W.Frag} {H H' : Hp} (s : Same H H') : ∀ {vs : List V} {ds : List PyData}, DpAll K H vs ds → DpAll K H' vs ds
  | _, _, .nil => .nil
  | _, _, .cons a b => .cons (dp_same s a) (dpAll_same s b)
end
/-- an item of a list or tuple -/
theorem ix_get {K : PySem.W.Frag} {H : Hp} {a : Addr} {xs : List V} {i : Nat} {z : Int} {v : V} {Q : VK} (h : SqL K H a xs ∨ SqT K H a xs) (hz : z = (i : Int)) (hi : xs[i]? = some v) (q : Q v H) : rIx K (.ref a) (.int z) H Q := by
  subst hz
  rcases h with h | h
  · exact .inl ⟨a, xs, _, v, rfl, rfl, h, atI_nat hi, q⟩
  · exact .inr (.inl ⟨a, xs, _, v, rfl, rfl, h, atI_nat hi, q⟩)
/-- the groups as tuples (member, number) -/
abbrev Grps (H : Hp) (rs : List Addr) (gs : List ((Nd × V) × Nat)) : Prop := Paired (fun (r : Addr) (g : (Nd × V) × Nat) => H r = some (.tup [g.1.2, .int (g.2 : Int)])) rs gs
theorem Grps.tm {H H' : Hp} (t : Tm H H') : ∀ {rs : List Addr} {gs : List ((Nd × V) × Nat)}, Grps H rs gs → Grps H' rs gs
  | _, _, .nil => .nil
  | _, _, .cons h r => .cons (t _ _ h) (Grps.tm t r)
theorem Grps.snoc {H : Hp} {r : Addr} {g : (Nd × V) × Nat} {rs : List Addr} {gs : List ((Nd × V) × Nat)} (h : H r = some (.tup [g.1.2, .int (g.2 : Int)])) (t : Grps H rs gs) : Grps H (rs ++ [r]) (gs ++ [g]) :=
  paired_snoc (R := fun (r : Addr) (g : (Nd × V) × Nat) => H r = some (.tup [g.1.2, .int (g.2 : Int)])) h t
section
variable {P : Program} {w : World} {K : PySem.W.Frag} {mg : Str → Option Value} {base : Heap}
/-- a row as list or tuple, the nodes with their values; f: a node's value as data -/
def spGroups (K : PySem.W.Frag) : Sp := fun vs H Q _ => ∃ (a : Addr) (L : List (Nd × V)) (f : Nd → PyData), vs = [.ref a] ∧ (SqL K H a (L.map (·.2)) ∨ SqT K H a (L.map (·.2))) ∧ (∀ p ∈ L, Dp K H p.2 (f p.1) ∧ SeqAt.shaped (f p.1) = true) ∧
  (∀ p ∈ L, ∀ q ∈ L, PyData.eqv (f p.1) (f q.1) = decide (p.1 = q.1)) ∧ L.length ≤ 2000 ∧ ∀ (p : Addr) (H' : Hp) (rs : List Addr), Same H H' → H' p = some (.lst (rs.map V.ref)) → H p = none → Grps H' rs (grp Prod.fst L) → Q (.ref p) H'
theorem sc_groups : FnScope ["row", "groups", "start", "end"] ["row"] (defScope s_groups_of) := ⟨rfl, rfl, rfl, by decide +kernel, rfl, by decide +kernel, by decide +kernel⟩
theorem drop_cons {α : Type} {L : List α} {s : Nat} {x : α} (h : L[s]? = some x) : L.drop s = x :: L.drop (s + 1) :=
  List.drop_eq_getElem?_toList_append.trans (by rw [h]; rfl)
theorem ok_groups {C : Addr} (T : Tx K mg C) : Cal P w K mg base "groups_of" 1 ["row"] (spGroups K) := by
  refine T.d_groups_of.cal (fun _ _ _ _ _ _ us hl => match us, hl with | [_], _ => rfl) fun f fd F _ _ _ => ?_
  refine okD F sc_groups (fun vs H Q E h => ?_) (fun cdv A outer s H vs Q E hr h => ?_)
  · obtain ⟨a, L, f, rfl, _⟩ := h
    rfl
  · obtain ⟨a, L, f, rfl, hS, hD, hE, hl, q⟩ := h
    have hu := hr.units
    refine ⟨_, pss_cons (ps_set (i := 1) sc_groups.nd rfl (Or.inl rfl) (pe_lst pa_nil)) (pss_cons (ps_set (i := 2) sc_groups.nd rfl (Or.inl rfl) pe_int)
      (pss_cons (ps_while PassesOwn.never (pt_cmpR op_lt (pv 2) (pe_callB call_len_seq (by rfl) T.n_len b_len (pa_cons (pv 0) pa_nil)) (nomark _))
        (pss_cons (ps_set (i := 3) sc_groups.nd rfl (Or.inl rfl) (pe_op op_add (pv 2) pe_int))
        (pss_cons (ps_while PassesOwn.never (PW.pt (pw_and (pt_cmpR op_lt (pv 3) (pe_callB call_len_seq (by rfl) T.n_len b_len (pa_cons (pv 0) pa_nil)) (nomark _))
            (pw_and1 (pt_cmpR (op_eqD hu) (pe_ix ix_seq (pv 0) (pv 3) (fun _ _ => rfl)) (pe_ix ix_seq (pv 0) (pv 2) (fun _ _ => rfl)) (nomark _)))))
          (pss_one (ps_aug (i := 3) sc_groups.nd rfl (Or.inl rfl) pe_int ip_add)))
        (pss_cons (ps_expr (pe_bm PySem.F.plainAttrs_list PySem.F.slot_list_append PySem.F.type_list_append mt_append (pv 1) (pa_cons (pe_tup (pa_cons (pe_ix ix_seq (pv 0) (pv 2) (fun _ _ => rfl)) (pa_cons (pe_op op_sub (pv 3) (pv 2)) pa_nil))) pa_nil)))
        (pss_one (ps_set (i := 2) sc_groups.nd rfl (Or.inl rfl) (pv 3)))))))
      (pss_one (ps_ret (pv 1))))), ?_⟩
    refine ⟨Nat.zero_le _, fun g ng => ?_⟩
    have lenL : (L.map (·.2)).length = L.length := List.length_map ..
    have stay : ∀ {H' : Hp}, Same H H' → (SqL K H' a (L.map (·.2)) ∨ SqT K H' a (L.map (·.2))) := fun s1 => hS.elim (fun h => .inl (s1.seq h)) fun h => .inr (s1.seqT h)
    have at_ : ∀ {i : Nat} {p : Nd × V}, L[i]? = some p → (L.map (·.2))[i]? = some p.2 := fun e => by rw [List.getElem?_map, e]; rfl
    refine ⟨fun m σ H' => ∃ (i : Nat) (z : Int) (o : Option V) (rs : List Addr) (dn : List ((Nd × V) × Nat)), σ = [some (.ref a), some (.ref g), some (.int z), o] ∧ z = (i : Int) ∧ i ≤ L.length ∧ m = L.length - i ∧ Same H H' ∧ H' g = some (.lst (rs.map V.ref)) ∧
      Grps H' rs dn ∧ grp Prod.fst L = dn ++ grp Prod.fst (L.drop i) ∧ rs.length ≤ i, ⟨L.length, 0, 0, none, [], [], rfl, rfl, Nat.zero_le _, rfl, same_new ng, upd_same, .nil, rfl, Nat.le_refl _⟩, ?_⟩
    rintro m σ H1 ⟨i, z, o, rs, dn, rfl, hz, hi, rfl, s1, hg, hG, hdn, hrs⟩
    refine ⟨_, rfl, _, rfl, a, _, rfl, stay s1, _, _, rfl, rfl, _, rfl, ?_⟩
    refine ite2d (fun c => ?_) (fun c => ?_)
    · rw [lenL] at c
      have lt : i < L.length := by omega
      obtain ⟨x, hx⟩ : ∃ x, L[i]? = some x := ⟨L[i], List.getElem?_eq_getElem lt⟩
      refine ⟨fun σ' H' => ∃ m', m' < L.length - i ∧ ∃ (i : Nat) (z : Int) (o : Option V) (rs : List Addr) (dn : List ((Nd × V) × Nat)), σ' = [some (.ref a), some (.ref g), some (.int z), o] ∧ z = (i : Int) ∧ i ≤ L.length ∧ m' = L.length - i ∧ Same H H' ∧ H' g = some (.lst (rs.map V.ref)) ∧
        Grps H' rs dn ∧ grp Prod.fst L = dn ++ grp Prod.fst (L.drop i) ∧ rs.length ≤ i, fun σ' H' ⟨m', lm, r⟩ => ⟨m', lm, r⟩, ?_⟩
      refine ⟨_, rfl, _, _, rfl, rfl, ?_⟩
      refine ⟨fun m σ H' => H' = H1 ∧ ∃ (e : Nat) (y : Int), σ = [some (.ref a), some (.ref g), some (.int z), some (.int y)] ∧ y = (e : Int) ∧ i < e ∧ e ≤ L.length ∧ m = L.length - e ∧ ∀ k p, i < k → k < e → L[k]? = some p → p.1 = x.1,
        ⟨_, rfl, i + 1, _, rfl, by omega, by omega, by omega, rfl, fun k p h1 h2 _ => by omega⟩, ?_⟩
      rintro m σ H2 ⟨rfl, e, y, rfl, hy, hie, hel, rfl, hal⟩
      refine ⟨_, rfl, _, rfl, a, _, rfl, stay s1, _, _, rfl, rfl, _, rfl, ?_⟩
      -- what follows the inner loop, from either way out of it
      have out : (∀ p r, L.drop e = p :: r → p.1 ≠ x.1) → ∀ (D : Ends), (∀ (σ' : L2.St) (H' : Hp) (z : Int) (o : Option V) (rs : List Addr) (dn : List ((Nd × V) × Nat)), σ' = [some (.ref a), some (.ref g), some (.int z), o] → z = (e : Int) → Same H H' → H' g = some (.lst (rs.map V.ref)) →
          Grps H' rs dn → grp Prod.fst L = dn ++ grp Prod.fst (L.drop e) → rs.length ≤ e → D.nx σ' H') →
          tSeq (tDrop (tBM K "list" rAppend (tVar 1) (tCons (tTup (tCons (tOp (rIx K) (tVar 0) (tVar 2)) (tCons (tOp (rI0 fun i j => .int (i - j)) (tVar 3) (tVar 2)) tNil))) tNil))) (tAsg (tVar 3) (gName 2)) D [some (.ref a), some (.ref g), some (.int z), some (.int y)] H2 := by
        intro hne D k
        refine ⟨_, rfl, .inl ⟨rfl, _, SqL.of hg⟩, ?_⟩
        refine ⟨_, rfl, _, rfl, ix_get (stay s1) hz (at_ hx) ?_⟩
        refine ⟨_, rfl, _, rfl, _, _, rfl, rfl, by show 2 ≤ sizeLine; rw [sizeLine_eq]; decide, fun t nt => ?_⟩
        have ngt : g ≠ t := ne_of_none hg nt
        refine ⟨g, _, _, rfl, rfl, by rw [upd_ne ngt]; exact hg, lt_line (by rw [List.length_map]; omega), ?_⟩
        have en : y - z = ((e - i : Nat) : Int) := by omega
        have nt0 : H t = none := s1.free nt
        refine ⟨_, rfl, ?_⟩
        refine k _ _ y (some (.int y)) (rs ++ [t]) (dn ++ [(x, e - i)]) rfl hy ((s1.new nt).put ng) (by rw [upd_same, refs_snoc]) ?_ ?_ (by rw [List.length_append, List.length_singleton]; omega)
        · have t1 : Tm H2 (upd H2 t (.tup [x.2, .int (y - z)])) := (Tm.refl _).new nt
          have hg' : upd H2 t (.tup [x.2, .int (y - z)]) g = some (.lst (rs.map V.ref)) := by rw [upd_ne ngt]; exact hg
          have t2 := Tm.lst (o := .lst (rs.map V.ref ++ [.ref t])) (Tm.refl _) hg'
          refine Grps.snoc ?_ (Grps.tm (t1.trans t2) hG)
          rw [upd_ne ngt.symm, upd_same]
          show some (HO.tup [x.2, .int (y - z)]) = _
          rw [en]
        · rw [hdn, List.append_assoc]
          congr 1
          have e1 : L.drop i = x :: (((L.drop (i + 1)).take (e - (i + 1))) ++ L.drop e) := by
            rw [drop_cons hx]
            have h1 := (List.take_append_drop (e - (i + 1)) (L.drop (i + 1))).symm
            rw [List.drop_drop] at h1
            have h2 : i + 1 + (e - (i + 1)) = e := by omega
            rw [h2] at h1
            rw [← h1]
          have l1 : ((L.drop (i + 1)).take (e - (i + 1))).length + 1 = e - i := by
            rw [List.length_take, List.length_drop]
            omega
          rw [e1, grp_step (f := Prod.fst) x _ _ (fun p hp => ?_) fun p r hpr => hne p r hpr, l1]
          · rfl
          · obtain ⟨j, hj⟩ := List.mem_iff_getElem?.mp hp
            rw [List.getElem?_take] at hj
            by_cases cj : j < e - (i + 1)
            · rw [if_pos cj, List.getElem?_drop] at hj
              exact hal (i + 1 + j) p (by omega) (by omega) hj
            · rw [if_neg cj] at hj
              cases hj
      have fin : (∀ p r, L.drop e = p :: r → p.1 ≠ x.1) → tSeq (tDrop (tBM K "list" rAppend (tVar 1) (tCons (tTup (tCons (tOp (rIx K) (tVar 0) (tVar 2)) (tCons (tOp (rI0 fun i j => .int (i - j)) (tVar 3) (tVar 2)) tNil))) tNil))) (tAsg (tVar 3) (gName 2))
          { nx := fun σ' H' => ∃ m', m' < L.length - i ∧ ∃ (i : Nat) (z : Int) (o : Option V) (rs : List Addr) (dn : List ((Nd × V) × Nat)), σ' = [some (.ref a), some (.ref g), some (.int z), o] ∧ z = (i : Int) ∧ i ≤ L.length ∧ m' = L.length - i ∧ Same H H' ∧ H' g = some (.lst (rs.map V.ref)) ∧
              Grps H' rs dn ∧ grp Prod.fst L = dn ++ grp Prod.fst (L.drop i) ∧ rs.length ≤ i, rt := Q } [some (.ref a), some (.ref g), some (.int z), some (.int y)] H2 := fun hne =>
        out hne _ fun σ' H' z' o' rs' dn' e1 e2 e3 e4 e5 e6 e7 => ⟨L.length - e, by omega, e, z', o', rs', dn', e1, e2, hel, rfl, e3, e4, e5, e6, e7⟩
      refine ite2 (fun c2 => ?_) (fun c2 => ?_)
      · have c2 := of_decide_eq_true c2
        rw [lenL] at c2
        have lt2 : e < L.length := by omega
        obtain ⟨p, hp⟩ : ∃ p, L[e]? = some p := ⟨L[e], List.getElem?_eq_getElem lt2⟩
        have mp : p ∈ L := List.mem_of_getElem? hp
        have mx : x ∈ L := List.mem_of_getElem? hx
        refine ⟨_, rfl, _, rfl, ix_get (stay s1) hy (at_ hp) ⟨_, rfl, _, rfl, ix_get (stay s1) hz (at_ hx) ?_⟩⟩
        refine ⟨_, _, dp_same s1 (hD p mp).1, dp_same s1 (hD x mx).1, (hD p mp).2, (hD x mx).2, _, rfl, ?_⟩
        rw [hE p mp x mx]
        refine ite2d (fun c3 => ?_) (fun c3 => ?_)
        · refine ⟨fun σ' H' => H' = H2 ∧ σ' = [some (.ref a), some (.ref g), some (.int z), some (.int (y + 1))], fun σ' H' ⟨e1, e2⟩ => ⟨L.length - (e + 1), by omega, e1, e + 1, _, e2, by omega, by omega, by omega, rfl, fun k r h1 h2 h3 => ?_⟩, ?_⟩
          · by_cases ck : k = e
            · subst ck
              rw [hp] at h3
              rw [← Option.some.inj h3]
              exact c3
            · exact hal k r h1 (by omega) h3
          · exact ⟨_, rfl, _, _, rfl, rfl, rfl, rfl⟩
        · refine fin fun r rr hrr => ?_
          rw [drop_cons hp] at hrr
          rw [← (List.cons.inj hrr).1]
          exact c3
      · have c2 : ¬ y < ((L.map (·.2)).length : Int) := fun h => c2 (decide_eq_true h)
        rw [lenL] at c2
        refine fin fun r rr hrr => ?_
        rw [List.drop_eq_nil_of_le (by omega)] at hrr
        cases hrr
    · rw [lenL] at c
      refine ⟨_, rfl, q g H1 rs s1 hg ng ?_⟩
      rw [hdn, List.drop_eq_nil_of_le (by omega), grp_nil, List.append_nil]
      exact hG
end
end K33
/-! K33W5: item_of, items_of. -/
namespace K33
open PySem PySem.Spec PyProof.Rows L2
theorem zip_fst {α β : Type} : ∀ {xs : List α} {ys : List β}, xs.length = ys.length → (xs.zip ys).map (·.1) = xs
  | [], [], _ => rfl
  | [], _ :: _, h => by cases h
  | _ :: _, [], h => by cases h
  | x :: xs, y :: ys, h => by
    show x :: (xs.zip ys).map (·.1) = _
    rw [zip_fst (Nat.succ.inj h)]
theorem zip_snd {α β : Type} : ∀ {xs : List α} {ys : List β}, xs.length = ys.length → (xs.zip ys).map (·.2) = ys
  | [], [], _ => rfl
  | [], _ :: _, h => by cases h
  | _ :: _, [], h => by cases h
  | x :: xs, y :: ys, h => by
    show y :: (xs.zip ys).map (·.2) = _
    rw [zip_snd (Nat.succ.inj h)]
theorem NVs.zip {H : Hp} : ∀ {ns : List Nd} {vs : List V}, NVs H ns vs → ∀ p ∈ ns.zip vs, NV H p.1 p.2
  | _, _, .nil, p, h => by cases h
  | _, _, .cons a b, p, h => by
    rcases List.mem_cons.mp h with rfl | h
    · exact a
    · exact NVs.zip b p h
theorem goodL_of {row : List Nd} (ok : RowOk row) : GoodL row := (goodL_iff row).mpr ok.good
/-- the item of a group with its value -/
def itm (g : (Nd × V) × Nat) : Nd := itemN (g.1.1, g.2)
theorem items_zip {row : List Nd} {vs : List V} (h : row.length = vs.length) : (grp Prod.fst (row.zip vs)).map itm = items row := by
  have e := grp_map (f := (Prod.fst : Nd × V → Nd)) (row.zip vs)
  rw [zip_fst h] at e
  rw [items_map, ← e, List.map_map]
  rfl
section
variable {P : Program} {w : World} {K : PySem.W.Frag} {mg : Str → Option Value} {base : Heap}
def spItemOf : Sp := fun vs H Q _ => ∃ (v : V) (n : Nd) (k : Nat), vs = [v, .int (k : Int)] ∧ NV H n v ∧ ∀ v' H', Same H H' → NV H' (itemN (n, k)) v' → Q v' H'
theorem sc_item_of : FnScope ["node", "times"] ["node", "times"] (defScope s_item_of) := ⟨rfl, rfl, rfl, by decide +kernel, rfl, by decide +kernel, by decide +kernel⟩
theorem ok_item_of {C : Addr} (T : Tx K mg C) : Cal P w K mg base "item_of" 1 ["node", "times"] spItemOf := by
  refine T.d_item_of.cal (fun _ _ _ _ _ _ us hl => match us, hl with | [_, _], _ => rfl) fun f fd F _ _ _ => ?_
  refine okD F sc_item_of (fun vs H Q E h => ?_) (fun cdv A outer s H vs Q E hr h => ?_)
  · obtain ⟨v, n, k, rfl, _⟩ := h
    rfl
  · obtain ⟨v, n, k, rfl, hn, q⟩ := h
    refine ⟨_, pss_cons (ps_if (pt_cmpR op_eq (pv 1) pe_int (nomark _)) (pss_one (ps_ret (pv 0))) pss_nil) (pss_one (ps_ret (pe_tup (pa_cons pe_str (pa_cons (pv 0) (pa_cons (pv 1) pa_nil)))))), ?_⟩
    refine ⟨_, rfl, rfl, _, rfl, ite2d (fun c => ?_) (fun c => ?_)⟩
    · have c : (V.int (k : Int)) = V.int 1 := c
      injection c with c
      refine ⟨_, rfl, q v H (Same.refl H) ?_⟩
      unfold itemN
      rw [if_pos (show k = 1 by omega)]
      exact hn
    · have c : ¬ k = 1 := fun e => c (by rw [e]; rfl)
      refine ⟨_, rfl, _, rfl, by show 3 ≤ sizeLine; rw [sizeLine_eq]; decide, fun p np => ?_⟩
      refine q _ _ (same_new np) ?_
      unfold itemN
      rw [if_neg c]
      exact .run upd_same (NV.tm (same_new np).tm hn)
def spItems (K : PySem.W.Frag) : Sp := fun vs H Q _ => ∃ (a : Addr) (row : List Nd) (xs : List V), vs = [.ref a] ∧ SqT K H a xs ∧ NVs H row xs ∧ RowOk row ∧ sizeL row < 256 ∧
  ∀ (p : Addr) (H' : Hp) (ys : List V), Same H H' → H' p = some (.tup ys) → NVs H' (items row) ys → Q (.ref p) H'
theorem sc_items_of : FnScope ["nodes", "node", "times"] ["nodes"] (defScope s_items_of) := ⟨rfl, rfl, rfl, by decide +kernel, rfl, by decide +kernel, by decide +kernel⟩
theorem ok_items_of {C : Addr} (T : Tx K mg C) : Cal P w K mg base "items_of" 2 ["nodes"] (spItems K) := by
  obtain ⟨fG, fdG, GG, mG, kG, bG⟩ := (ok_groups (P := P) (w := w) (base := base) T).ex
  obtain ⟨fI, fdI, GI, mI, kI, bI⟩ := (ok_item_of (P := P) (w := w) (base := base) T).ex
  refine T.d_items_of.cal (fun _ _ _ _ _ _ us hl => match us, hl with | [_], _ => rfl) fun f fd F _ _ _ => ?_
  refine okD F sc_items_of (fun vs H Q E h => ?_) (fun cdv A outer s H vs Q E hr h => ?_)
  · obtain ⟨a, row, xs, rfl, _⟩ := h
    rfl
  · obtain ⟨a, row, xs, rfl, hS, hN, ok, hs, q⟩ := h
    have hlen := hN.length
    refine ⟨_, pss_one (ps_ret (pe_callTy call_tuple_of (by rfl) T.n_tuple b_tuple (pa_cons (pe_lc (own := [("node", 1), ("times", 2)]) (g := gTup K 2 (gCons (gName 1) (gCons (gName 2) gNil))) rfl sc_items_of.nd (pi_list (pe_call GG hr rfl mG kG bG .nil pass0 (pa_cons (pv 0) pa_nil)))
      (blkOk_by (own := [("node", 1), ("times", 2)]) (N := ["nodes", "node", "times"]) (sc := defScope s_items_of) (by decide +kernel))
      (fun _ _ _ _ _ => pg_tup rfl (pgs_cons (pg_name (i := 1) sc_items_of.nd rfl (Or.inl rfl) (Or.inr rfl)) (pgs_cons (pg_name (i := 2) sc_items_of.nd rfl (Or.inl rfl) (Or.inr rfl)) pgs_nil))) (fun _ _ _ _ _ => pts_nil)
      (fun _ _ _ _ _ => pe_call GI hr rfl mI kI bI .nil pass0 (pa_cons (pv 1) (pa_cons (pv 2) pa_nil)))) pa_nil))), ?_⟩
    have small : ∀ x ∈ row, size x < 256 := fun x hx => Nat.lt_of_le_of_lt (size_mem hx) hs
    have inL : ∀ p ∈ row.zip xs, p.1 ∈ row := fun p hp => (List.of_mem_zip hp).1
    have rl : row.length ≤ 2000 := by
      have := sizeL_pos row (goodL_of ok)
      omega
    refine ⟨_, rfl, a, row.zip xs, py, rfl, .inr (by rw [zip_snd hlen]; exact hS), fun p hp => ⟨NV.dp (ok.good _ (inL p hp)) (hN.zip p hp), py_shaped (ok.good _ (inL p hp)) (small _ (inL p hp))⟩,
      fun p hp r hr' => py_eqv _ _ (ok.good _ (inL p hp)) (ok.good _ (inL r hr')), by rw [List.length_zip]; omega, fun g H1 rs s1 hg ng hG => ?_⟩
    refine ⟨g, rfl, ⟨_, SqL.of hg⟩, fun D hD => ?_⟩
    have ngD : g ≠ D := ne_of_none hg hD
    have lrs : rs.length = (grp Prod.fst (row.zip xs)).length := Paired.length hG
    have lgr := grp_len (f := Prod.fst) (row.zip xs)
    rw [List.length_zip] at lgr
    refine lc_list (K := K) (a := g) (xs := rs.map V.ref) (fun i H' => ∃ ys : List V, Same H1 H' ∧ H' D = some (.lst ys) ∧ NVs H' (((grp Prod.fst (row.zip xs)).take i).map itm) ys)
      ⟨[], same_new hD, upd_same, .nil⟩ (fun i H' _ ⟨_, s2, _⟩ => s2.seq (SqL.of hg)) ?_ ?_
    · rintro i x H2 hi ⟨ys, s2, hd, hY⟩
      rw [List.getElem?_map] at hi
      cases er : rs[i]? with
      | none =>
        rw [er] at hi
        cases hi
      | some r =>
        rw [er] at hi
        have hi : V.ref r = x := Option.some.inj hi
        subst hi
        obtain ⟨gp, eg, hr'⟩ := paired_get hG er
        have mg' : gp.1 ∈ row.zip xs := (grp_mem (f := Prod.fst) (List.mem_of_getElem? eg)).1
        refine ⟨r, _, rfl, SqT.of (s2 _ _ hr'), rfl, _, _, rfl, _, _, rfl, rfl, rfl, ?_⟩
        refine ⟨_, rfl, _, rfl, _, gp.1.1, gp.2, rfl, NV.tm (s1.trans s2).tm (hN.zip _ mg'), fun v' H3 s3 hv' => ?_⟩
        have hd3 := s3 _ _ hd
        have lys := hY.length
        rw [List.length_map, List.length_take] at lys
        refine ⟨ys, hd3, lt_line (by omega), ys ++ [v'], (s2.trans s3).put hD, upd_same, ?_⟩
        have t1 : Tm H3 (upd H3 D (.lst (ys ++ [v']))) := Tm.lst (Tm.refl _) hd3
        rw [List.take_add_one, eg, List.map_append]
        exact NVs.snoc (NV.tm t1 hv') (NVs.tm (s3.tm.trans t1) hY)
    · rintro H2 ⟨ys, s2, hd, hY⟩
      rw [List.length_map, lrs, List.take_length, items_zip hlen] at hY
      refine ⟨D, ys, rfl, .inl ⟨SqL.of hd, fun p np => ?_⟩⟩
      exact q p _ ys ((s1.trans s2).new np) upd_same (NVs.tm (same_new np).tm hY)
end
end K33
/-! K33W6: first_difference, coin_after, coins_of_codes, coins_of, mix, one_round, colors_of_coins, colors_of. -/
namespace K33
open PySem PySem.Spec PyProof.Rows L2
/-! ### the mathematics -/
theorem fd_stop : ∀ (x y : Code), fd x y = 0 → x ≠ [] → y ≠ [] → x.head? ≠ y.head?
  | [], _, _, h, _ => absurd rfl h
  | _ :: _, [], _, _, h => absurd rfl h
  | a :: x, b :: y, h, _, _ => by
    unfold fd at h
    by_cases e : a = b
    · rw [if_pos e] at h
      cases h
    · intro q
      exact e (Option.some.inj q)
theorem fd_cons {a b : Nat} {x y : Code} (e : a = b) : fd (a :: x) (b :: y) = fd x y + 1 := by
  show (if a = b then fd x y + 1 else 0) = _
  rw [if_pos e]
theorem fd_ne {a b : Nat} {x y : Code} (e : ¬ a = b) : fd (a :: x) (b :: y) = 0 := by
  show (if a = b then fd x y + 1 else 0) = _
  rw [if_neg e]
theorem fd_le : ∀ (x y : Code), fd x y ≤ x.length
  | [], _ => Nat.le_refl _
  | _ :: _, [] => Nat.zero_le _
  | a :: x, b :: y => by
    by_cases e : a = b
    · rw [fd_cons e]
      exact Nat.succ_le_succ (fd_le x y)
    · rw [fd_ne e]
      exact Nat.zero_le _
theorem drop_at {α : Type} {L : List α} {s : Nat} {x : α} (h : L[s]? = some x) : L.drop s = x :: L.drop (s + 1) :=
  List.drop_eq_getElem?_toList_append.trans (by rw [h]; rfl)
/-- a round, by lists -/
def oneR : List Nat → List Nat
  | [] => []
  | x :: r => x % 2 :: (List.zipWith mix (x :: r) r)
theorem zipWith_at {f : Nat → Nat → Nat} : ∀ (xs ys : List Nat) (i : Nat) (a b : Nat), xs[i]? = some a → ys[i]? = some b → (List.zipWith f xs ys)[i]? = some (f a b)
  | _ :: _, _ :: _, 0, a, b, h, h2 => by
    rw [← Option.some.inj h, ← Option.some.inj h2]
    rfl
  | _ :: xs, _ :: ys, i + 1, a, b, h, h2 => zipWith_at xs ys i a b h h2
  | [], _, _, _, _, h, _ => by simp at h
  | _ :: _, [], _, _, _, _, h => by simp at h
theorem oneR_len : ∀ xs : List Nat, (oneR xs).length = xs.length
  | [] => rfl
  | x :: r => by
    show (List.zipWith mix (x :: r) r).length + 1 = r.length + 1
    rw [List.length_zipWith, List.length_cons]
    omega
theorem rounds_one (cs : List Code) (k : Nat) : rounds cs (k + 1) = oneR (rounds cs k) := by
  apply List.ext_getElem?
  intro i
  by_cases h : i < cs.length
  · rw [rounds_at cs (k + 1) i h]
    cases e : rounds cs k with
    | nil =>
      have l := rounds_length cs k
      rw [e] at l
      simp at l
      omega
    | cons x r =>
      have h0 := rounds_at cs k 0 (by omega)
      rw [e] at h0
      have h0 : x = rnd cs k 0 := Option.some.inj h0
      cases i with
      | zero =>
        show some (rnd cs k 0 % 2) = some (x % 2)
        rw [h0]
      | succ i =>
        have h1 := rounds_at cs k i (by omega)
        have h2 := rounds_at cs k (i + 1) h
        rw [e] at h1 h2
        rw [List.getElem?_cons_succ] at h2
        show some (mix (rnd cs k i) (rnd cs k (i + 1))) = (List.zipWith mix (x :: r) r)[i]?
        rw [zipWith_at _ _ i _ _ h1 h2]
  · rw [List.getElem?_eq_none (by rw [rounds_length]; omega), List.getElem?_eq_none (by rw [oneR_len, rounds_length]; omega)]
theorem rounds_zero (cs : List Code) : rounds cs 0 = coins cs := rfl
/-- neighbours of a row of numbers differ -/
def Apart (xs : List Nat) : Prop := ∀ (i a b : Nat), xs[i]? = some a → xs[i + 1]? = some b → a ≠ b
theorem rounds_apart {cs : List Code} (r : Row cs) (k : Nat) : Apart (rounds cs k) := by
  intro i a b ha hb
  have hi : i + 1 < cs.length := by
    have := (List.getElem?_eq_some_iff.mp hb).1
    rw [rounds_length] at this
    exact this
  rw [rounds_at cs k i (by omega)] at ha
  rw [rounds_at cs k (i + 1) hi] at hb
  rw [← Option.some.inj ha, ← Option.some.inj hb]
  exact rnd_ne r k i hi
/-! ### bits -/
theorem and_neg {d : Nat} (h : 0 < d) : Builtin.bitAnd (d : Int) (-(d : Int)) = ((2 ^ low d : Nat) : Int) := by
  rw [bitAnd_pn (by omega) (by omega)]
  have e1 : (Builtin.bitNot (-(d : Int))).toNat = d - 1 := by
    show (-(-(d : Int)) - 1).toNat = d - 1
    omega
  have e2 : ((d : Int)).toNat = d := Int.toNat_natCast d
  rw [e1, e2, ← (low_bit h).1]
  have h3 : d &&& (d - 1) ≤ d := Nat.and_le_left
  show (d : Int) - ((d &&& (d - 1) : Nat) : Int) = ((d - (d &&& (d - 1)) : Nat) : Int)
  omega
theorem bits_pow (k : Nat) : Builtin.Int.intBits ((2 ^ k : Nat) : Int) = k + 1 := by
  unfold Builtin.Int.intBits
  have h : 0 < 2 ^ k := Nat.two_pow_pos k
  have e : ¬ (((2 ^ k : Nat) : Int) == 0) = true := by
    rw [beq_iff_eq]
    omega
  rw [if_neg e, Int.natAbs_natCast, Nat.log2_two_pow]
section
variable {P : Program} {w : World} {K : PySem.W.Frag} {mg : Str → Option Value} {base : Heap}
/-! ### first_difference, coin_after -/
def spFirst (K : PySem.W.Frag) : Sp := fun vs H Q _ => ∃ (a b : Addr) (x y : List Nat), vs = [.ref a, .ref b] ∧ H a = some (.tup (nI x)) ∧ H b = some (.tup (nI y)) ∧ fd x y < y.length ∧ Q (.int (fd x y : Int)) H
theorem sc_first : FnScope ["before", "code", "place"] ["before", "code"] (defScope s_first_difference) := ⟨rfl, rfl, rfl, by decide +kernel, rfl, by decide +kernel, by decide +kernel⟩
theorem ok_first {C : Addr} (T : Tx K mg C) : Cal P w K mg base "first_difference" 1 ["before", "code"] (spFirst K) := by
  refine T.d_first_difference.cal (fun _ _ _ _ _ _ us hl => match us, hl with | [_, _], _ => rfl) fun f fd' F _ _ _ => ?_
  refine okD F sc_first (fun vs H Q E h => ?_) (fun cdv A outer s H vs Q E hr h => ?_)
  · obtain ⟨a, b, x, y, rfl, _⟩ := h
    rfl
  · obtain ⟨a, b, x, y, rfl, ha, hb, hl, q⟩ := h
    refine ⟨_, pss_cons (ps_set (i := 2) sc_first.nd rfl (Or.inl rfl) pe_int)
      (pss_cons (ps_while PassesOwn.never (PW.pt (pw_and (pt_cmpR op_lt (pv 2) (pe_callB call_len_seq (by rfl) T.n_len b_len (pa_cons (pv 0) pa_nil)) (nomark _))
          (pw_and1 (pt_cmpR op_eq (pe_ix ix_tup (pv 0) (pv 2) (fun _ _ => rfl)) (pe_ix ix_tup (pv 1) (pv 2) (fun _ _ => rfl)) (nomark _)))))
        (pss_one (ps_aug (i := 2) sc_first.nd rfl (Or.inl rfl) pe_int ip_add)))
      (pss_one (ps_ret (pv 2)))), ?_⟩
    refine ⟨fun m σ H' => H' = H ∧ ∃ (i : Nat) (z : Int), σ = [some (.ref a), some (.ref b), some (.int z)] ∧ z = (i : Int) ∧ i ≤ x.length ∧ m = x.length - i ∧ fd x y = i + fd (x.drop i) (y.drop i), ⟨x.length, rfl, 0, 0, rfl, rfl, Nat.zero_le _, rfl, by simp⟩, ?_⟩
    rintro m σ H1 ⟨rfl, i, z, rfl, hz, hi, rfl, hf⟩
    refine ⟨_, rfl, _, rfl, a, _, rfl, .inr (SqT.of ha), _, _, rfl, rfl, _, rfl, ?_⟩
    rw [nI_length]
    refine ite2 (fun c => ?_) (fun c => ?_)
    · have c := of_decide_eq_true c
      have lt : i < x.length := by omega
      have lt2 : i < y.length := by omega
      have hx : x[i]? = some x[i] := List.getElem?_eq_getElem lt
      have hy : y[i]? = some y[i] := List.getElem?_eq_getElem lt2
      refine ⟨_, rfl, _, rfl, a, _, _, _, rfl, rfl, SqT.of ha, at_of hz (nI_at hx), _, rfl, _, rfl, b, _, _, _, rfl, rfl, SqT.of hb, at_of hz (nI_at hy), rfl, _, rfl, ?_⟩
      rw [drop_at hx, drop_at hy] at hf
      refine ite2d (fun e => ?_) (fun e => ?_)
      · have e : x[i] = y[i] := by
          injection e with e
          omega
        rw [fd_cons e] at hf
        refine ⟨fun σ' H' => H' = H1 ∧ σ' = [some (.ref a), some (.ref b), some (.int (z + 1))], fun σ' H' ⟨e1, e2⟩ => ⟨x.length - (i + 1), by omega, e1, i + 1, _, e2, by omega, by omega, rfl, by omega⟩, ?_⟩
        exact ⟨_, rfl, _, _, rfl, rfl, rfl, rfl⟩
      · have e : ¬ x[i] = y[i] := fun q => e (by rw [q])
        rw [fd_ne e] at hf
        have e2 : z = (fd x y : Int) := by omega
        exact ⟨_, rfl, by rw [e2]; exact q⟩
    · have c : ¬ z < (x.length : Int) := fun h => c (decide_eq_true h)
      have e : i = x.length := by omega
      rw [List.drop_eq_nil_of_le (by omega)] at hf
      have f0 : fd ([] : Code) (y.drop i) = 0 := rfl
      have e2 : z = (fd x y : Int) := by omega
      exact ⟨_, rfl, by rw [e2]; exact q⟩
def spCoin (K : PySem.W.Frag) : Sp := fun vs H Q _ => ∃ (a b : Addr) (x y : List Nat), vs = [.ref a, .ref b] ∧ H a = some (.tup (nI x)) ∧ H b = some (.tup (nI y)) ∧ fd x y < y.length ∧ Q (.int (coin x y : Int)) H
theorem sc_coin : FnScope ["before", "code", "place"] ["before", "code"] (defScope s_coin_after) := ⟨rfl, rfl, rfl, by decide +kernel, rfl, by decide +kernel, by decide +kernel⟩
theorem ok_coin {C : Addr} (T : Tx K mg C) : Cal P w K mg base "coin_after" 2 ["before", "code"] (spCoin K) := by
  obtain ⟨fF, fdF, GF, mF, kF, bF⟩ := (ok_first (P := P) (w := w) (base := base) T).ex
  obtain ⟨td, md⟩ := T.c_DIGIT
  refine T.d_coin_after.cal (fun _ _ _ _ _ _ us hl => match us, hl with | [_, _], _ => rfl) fun f fd' F _ _ _ => ?_
  refine okD F sc_coin (fun vs H Q E h => ?_) (fun cdv A outer s H vs Q E hr h => ?_)
  · obtain ⟨a, b, x, y, rfl, _⟩ := h
    rfl
  · obtain ⟨a, b, x, y, rfl, ha, hb, hl, q⟩ := h
    refine ⟨_, pss_cons (ps_set (i := 2) sc_coin.nd rfl (Or.inl rfl) (pe_call GF hr rfl mF kF bF .nil pass0 (pa_cons (pv 0) (pa_cons (pv 1) pa_nil))))
      (pss_one (ps_ret (pe_op op_add (pe_op op_mul (pe_glob (by rfl) md (relI _ _)) (pv 2)) (pe_ix ix_tup (pv 1) (pv 2) (fun _ _ => rfl))))), ?_⟩
    refine ⟨_, rfl, _, rfl, a, b, x, y, rfl, ha, hb, hl, ?_⟩
    have hy : y[fd x y]? = some y[fd x y] := List.getElem?_eq_getElem hl
    refine ⟨_, rfl, _, _, rfl, rfl, .inl ⟨by decide, by decide⟩, _, rfl, _, rfl, b, _, _, _, rfl, rfl, SqT.of hb, atI_nat (nI_at hy), _, _, rfl, rfl, ?_⟩
    have e : (65536 : Int) * (fd x y : Int) + (y[fd x y] : Int) = (coin x y : Int) := by
      unfold coin
      rw [List.getD_eq_getElem?_getD, hy]
      simp
    show Q (.int ((65536 : Int) * (fd x y : Int) + (y[fd x y] : Int))) H
    rw [e]
    exact q
/-! ### coins_of_codes -/
def spCoins (K : PySem.W.Frag) : Sp := fun vs H Q _ => ∃ (l : Addr) (as : List Addr) (cs : List Code), vs = [.ref l] ∧ SqL K H l (as.map V.ref) ∧ Tups H as cs ∧ Row cs ∧ cs.length ≤ 2000 ∧
  ∀ (p : Addr) (H' : Hp), Same H H' → H' p = some (.tup (nI (coins cs))) → Q (.ref p) H'
theorem sc_coins : FnScope ["codes", "coins", "before", "code"] ["codes"] (defScope s_coins_of_codes) := ⟨rfl, rfl, rfl, by decide +kernel, rfl, by decide +kernel, by decide +kernel⟩
theorem coins_take (cs : List Code) (i : Nat) (h : i < cs.length) : (coins cs).take (i + 1) = (coins cs).take i ++ [coinAt cs i] := by
  have e : (coins cs)[i]? = some (coinAt cs i) := by
    unfold coins
    rw [List.getElem?_map, List.getElem?_range h]
    rfl
  rw [List.take_add_one, e]
  rfl
theorem ok_coins {C : Addr} (T : Tx K mg C) : Cal P w K mg base "coins_of_codes" 3 ["codes"] (spCoins K) := by
  obtain ⟨fF, fdF, GF, mF, kF, bF⟩ := (ok_coin (P := P) (w := w) (base := base) T).ex
  refine T.d_coins_of_codes.cal (fun _ _ _ _ _ _ us hl => match us, hl with | [_], _ => rfl) fun f fd' F _ _ _ => ?_
  refine okD F sc_coins (fun vs H Q E h => ?_) (fun cdv A outer s H vs Q E hr h => ?_)
  · obtain ⟨l, as, cs, rfl, _⟩ := h
    rfl
  · obtain ⟨l, as, cs, rfl, hS, hT, hR, hl, q⟩ := h
    have n1 : as.length = cs.length := Paired.length hT
    refine ⟨_, pss_cons (ps_set (i := 1) sc_coins.nd rfl (Or.inl rfl) (pe_lst pa_nil)) (pss_cons (ps_set (i := 2) sc_coins.nd rfl (Or.inl rfl) (pe_tup pa_nil))
      (pss_cons (ps_for PassesOwn.never rfl (pi_list (pv 0)) (pg_name (i := 3) sc_coins.nd rfl (Or.inl rfl))
        (pss_cons (ps_expr (pe_bm PySem.F.plainAttrs_list PySem.F.slot_list_append PySem.F.type_list_append mt_append (pv 1) (pa_cons (pe_call GF hr rfl mF kF bF .nil pass0 (pa_cons (pv 2) (pa_cons (pv 3) pa_nil))) pa_nil)))
          (pss_one (ps_set (i := 2) sc_coins.nd rfl (Or.inl rfl) (pv 3)))))
      (pss_one (ps_ret (pe_callTy call_tuple_of (by rfl) T.n_tuple b_tuple (pa_cons (pv 1) pa_nil)))))), ?_⟩
    refine ⟨Nat.zero_le _, fun c nc => ⟨Nat.zero_le _, fun b nb => ?_⟩⟩
    have s2 : Same H (upd (upd H c (.lst [])) b (.tup [])) := (same_new nc).new nb
    have ncb : c ≠ b := ne_of_none upd_same nb
    refine ⟨_, rfl, l, rfl, ⟨_, s2.seq hS⟩, for_list (K := K) (a := l) (xs := as.map V.ref) (fun i σ H' => ∃ (bf : Addr) (o : Option V) (bc : Code), σ = [some (.ref l), some (.ref c), some (.ref bf), o] ∧ Same H H' ∧ H' c = some (.lst (nI ((coins cs).take i))) ∧ H' bf = some (.tup (nI bc)) ∧
        bc = (if i = 0 then [] else codeAt cs (i - 1)))
      ⟨b, none, [], rfl, s2, by rw [upd_ne ncb, upd_same]; rfl, upd_same, rfl⟩ (fun i σ H' _ ⟨_, _, _, _, s1, _⟩ => s1.seq hS) ?_ ?_⟩
    · rintro i x σ H1 hi ⟨bf, o, bc, rfl, s1, hc, hbf, hbc⟩
      rw [List.getElem?_map] at hi
      cases ea : as[i]? with
      | none =>
        rw [ea] at hi
        cases hi
      | some a =>
        rw [ea] at hi
        have hi : V.ref a = x := Option.some.inj hi
        subst hi
        obtain ⟨d, ed, hd⟩ := paired_get hT ea
        have lt : i < cs.length := (List.getElem?_eq_some_iff.mp ed).1
        have cd : codeAt cs i = d := by
          unfold codeAt
          rw [List.getD_eq_getElem?_getD, ed]
          rfl
        have key : fd bc d < d.length ∧ coin bc d = coinAt cs i := by
          cases i with
          | zero =>
            have e : bc = [] := hbc
            rw [e]
            have ne := (hR.at_ lt).2
            rw [cd] at ne
            refine ⟨?_, by rw [← cd]; rfl⟩
            show 0 < d.length
            cases d with
            | nil => exact absurd rfl ne
            | cons => simp
          | succ i =>
            have e : bc = codeAt cs i := hbc
            have hp := hR.nb lt
            rw [cd] at hp
            rw [e]
            exact ⟨(fd_parts hp).2.1, by rw [← cd]; rfl⟩
        have lc : ((coins cs).take i).length ≤ 2000 := by
          rw [List.length_take]
          omega
        refine ⟨_, rfl, .inl ⟨rfl, _, SqL.of hc⟩, _, rfl, _, rfl, bf, a, bc, d, rfl, hbf, s1 _ _ hd, key.1, ?_⟩
        refine ⟨c, _, _, rfl, rfl, hc, lt_line (by rw [nI_length]; omega), ?_⟩
        have s3 := s1.put (o := .lst (nI ((coins cs).take i) ++ [.int (coin bc d : Int)])) nc
        refine ⟨_, rfl, a, _, d, rfl, s3, ?_, s3 _ _ hd, ?_⟩
        · rw [upd_same, coins_take cs i lt, nI_append, key.2]
          rfl
        · rw [if_neg (by omega), Nat.add_sub_cancel, cd]
    · rintro σ H1 ⟨bf, o, bc, rfl, s1, hc, _, _⟩
      have e : (coins cs).take (as.map V.ref).length = coins cs := by
        rw [List.length_map, n1]
        refine List.take_of_length_le ?_
        unfold coins
        rw [List.length_map, List.length_range]
        exact Nat.le_refl _
      rw [e] at hc
      exact ⟨_, rfl, c, _, rfl, .inl ⟨SqL.of hc, fun p np => q p _ (s1.new np) upd_same⟩⟩
end
end K33
/-! K33W7: coins_of, mix, one_round, colors_of_coins, colors_of. -/
namespace K33
open PySem PySem.Spec PyProof.Rows L2
section
variable {P : Program} {w : World} {K : PySem.W.Frag} {mg : Str → Option Value} {base : Heap}
def spMix : Sp := fun vs H Q _ => ∃ a b : Nat, vs = [.int (a : Int), .int (b : Int)] ∧ a ≠ b ∧ Q (.int (mix a b : Int)) H
theorem sc_mix : FnScope ["a", "b", "difference", "place"] ["a", "b"] (defScope s_mix) := ⟨rfl, rfl, rfl, by decide +kernel, rfl, by decide +kernel, by decide +kernel⟩
theorem ok_mix {C : Addr} (T : Tx K mg C) : Cal P w K mg base "mix" 1 ["a", "b"] spMix := by
  refine T.d_mix.cal (fun _ _ _ _ _ _ us hl => match us, hl with | [_, _], _ => rfl) fun f fd' F _ _ _ => ?_
  refine okD F sc_mix (fun vs H Q E h => ?_) (fun cdv A outer s H vs Q E hr h => ?_)
  · obtain ⟨a, b, rfl, _⟩ := h
    rfl
  · obtain ⟨a, b, rfl, hn, q⟩ := h
    refine ⟨_, pss_cons (ps_set (i := 2) sc_mix.nd rfl (Or.inl rfl) (pe_op op_xor (pv 0) (pv 1)))
      (pss_cons (ps_set (i := 3) sc_mix.nd rfl (Or.inl rfl) (pe_op op_sub (pe_bits (pe_op op_and (pv 2) (pe_un un_neg (pv 2)))) pe_int))
      (pss_one (ps_ret (pe_op op_add (pe_op op_mul pe_int (pv 3)) (pe_op op_and (pe_op op_shr (pv 1) (pv 3)) pe_int))))), ?_⟩
    have e1 : Builtin.bitXor (a : Int) (b : Int) = ((a ^^^ b : Nat) : Int) := by
      rw [Bits.bitXor_pp (by omega) (by omega), Int.toNat_natCast, Int.toNat_natCast]
    have e2 : ((Builtin.Int.intBits (Builtin.bitAnd (Builtin.bitXor (a : Int) (b : Int)) (-(Builtin.bitXor (a : Int) (b : Int)))) : Nat) : Int) - 1 = (low (a ^^^ b) : Int) := by
      rw [e1, and_neg (xor_pos hn), bits_pow]
      omega
    refine ⟨_, rfl, _, rfl, _, _, rfl, rfl, ?_⟩
    refine ⟨_, rfl, _, rfl, _, rfl, _, _, rfl, rfl, _, rfl, _, _, rfl, rfl, ?_⟩
    refine ⟨_, rfl, _, _, rfl, rfl, .inl ⟨by decide, by decide⟩, ?_⟩
    refine ⟨_, rfl, _, rfl, _, _, rfl, rfl, ?_, _, _, rfl, rfl, _, _, rfl, rfl, ?_⟩
    · show 0 ≤ ((Builtin.Int.intBits (Builtin.bitAnd (Builtin.bitXor (a : Int) (b : Int)) (-(Builtin.bitXor (a : Int) (b : Int)))) : Nat) : Int) - 1
      rw [e2]
      omega
    · show Q (.int (2 * (((Builtin.Int.intBits (Builtin.bitAnd (Builtin.bitXor (a : Int) (b : Int)) (-(Builtin.bitXor (a : Int) (b : Int)))) : Nat) : Int) - 1) +
        Builtin.bitAnd ((b : Int) / 2 ^ (((Builtin.Int.intBits (Builtin.bitAnd (Builtin.bitXor (a : Int) (b : Int)) (-(Builtin.bitXor (a : Int) (b : Int)))) : Nat) : Int) - 1).toNat) 1)) H
      rw [e2, bitAnd_m1, Int.toNat_natCast]
      have e3 : 2 * (low (a ^^^ b) : Int) + (b : Int) / 2 ^ low (a ^^^ b) % 2 = (mix a b : Int) := by
        have e4 : (b : Int) / 2 ^ low (a ^^^ b) = ((b / 2 ^ low (a ^^^ b) : Nat) : Int) := by
          rw [Int.natCast_ediv, Int.natCast_pow]
          rfl
        unfold mix
        rw [e4]
        omega
      rw [e3]
      exact q
/-! ### one_round -/
def spRound : Sp := fun vs H Q _ => ∃ (a : Addr) (xs : List Nat), vs = [.ref a] ∧ H a = some (.tup (nI xs)) ∧ Apart xs ∧ xs.length ≤ 2000 ∧ ∀ (p : Addr) (H' : Hp), Same H H' → H' p = some (.tup (nI (oneR xs))) → Q (.ref p) H'
theorem sc_round : FnScope ["numbers", "mixed", "a", "b", "number"] ["numbers"] (defScope s_one_round) := ⟨rfl, rfl, rfl, by decide +kernel, rfl, by decide +kernel, by decide +kernel⟩
theorem cutV_to (xs : List V) (k : Nat) : cutV xs none (some (k : Int)) = xs.take k := by
  unfold cutV
  rw [HT.sIx_none, HT.sIx_nat, List.drop_zero, Nat.sub_zero]
  by_cases h : k ≤ xs.length
  · rw [Nat.min_eq_left h]
  · rw [Nat.min_eq_right (by omega), List.take_length, List.take_of_length_le (by omega)]
theorem cutV_from (xs : List V) (k : Nat) : cutV xs (some (k : Int)) none = xs.drop k := by
  unfold cutV
  rw [HT.sIx_none, HT.sIx_nat]
  by_cases h : k ≤ xs.length
  · rw [Nat.min_eq_left h, List.take_of_length_le (by rw [List.length_drop]; omega)]
  · rw [Nat.min_eq_right (by omega), Nat.sub_self, List.take_zero, List.drop_eq_nil_of_le (by omega)]
/-- t[:k] of a tuple, a new one or itself -/
theorem sl_to {K : PySem.W.Frag} {H : Hp} {a : Addr} {xs : List V} {k : Nat} {Q : VK} (h : H a = some (.tup xs)) (q : ∀ p H', Same H H' → H' p = some (.tup (xs.take k)) → Q (.ref p) H') : rSlA K (.ref a) none (some (k : Int)) H Q := by
  refine ⟨a, xs, rfl, SqT.of h, fun c => ?_, fun _ p np => ?_⟩
  · have c2 := c.2
    rw [HT.sIx_nat] at c2
    refine q a H (Same.refl H) ?_
    rw [h, List.take_of_length_le (by omega)]
  · refine q p _ (same_new np) ?_
    rw [upd_same, cutV_to]
theorem sl_from {K : PySem.W.Frag} {H : Hp} {a : Addr} {xs : List V} {k : Nat} {Q : VK} (h : H a = some (.tup xs)) (q : ∀ p H', Same H H' → H' p = some (.tup (xs.drop k)) → Q (.ref p) H') : rSlA K (.ref a) (some (k : Int)) none H Q := by
  refine ⟨a, xs, rfl, SqT.of h, fun c => ?_, fun _ p np => ?_⟩
  · have c1 := c.1
    rw [HT.sIx_nat] at c1
    refine q a H (Same.refl H) ?_
    by_cases z : k = 0
    · rw [h, z, List.drop_zero]
    · have e : xs = [] := List.eq_nil_of_length_eq_zero (by omega)
      rw [h, e, List.drop_nil]
  · refine q p _ (same_new np) ?_
    rw [upd_same, cutV_from]
theorem sl_fromP {K : PySem.W.Frag} {H : Hp} {σ : L2.St} {a : Addr} {xs : List V} {k : Nat} {Q : VK} (h : H a = some (.tup xs)) (q : ∀ p H', Same H H' → H' p = some (.tup (xs.drop k)) → Q (.ref p) H') :
    tNoPart σ H fun u H3 => rSlA K (.ref a) (some (k : Int)) u H3 Q := sl_from h q
theorem nI_take (xs : List Nat) (k : Nat) : (nI xs).take k = nI (xs.take k) := by
  unfold nI
  rw [List.map_take]
theorem nI_drop (xs : List Nat) (k : Nat) : (nI xs).drop k = nI (xs.drop k) := by
  unfold nI
  rw [List.map_drop]
theorem ok_round {C : Addr} (T : Tx K mg C) : Cal P w K mg base "one_round" 2 ["numbers"] spRound := by
  obtain ⟨fM, fdM, GM, mM, kM, bM⟩ := (ok_mix (P := P) (w := w) (base := base) T).ex
  refine T.d_one_round.cal (fun _ _ _ _ _ _ us hl => match us, hl with | [_], _ => rfl) fun f fd' F _ _ _ => ?_
  refine okD F sc_round (fun vs H Q E h => ?_) (fun cdv A outer s H vs Q E hr h => ?_)
  · obtain ⟨a, xs, rfl, _⟩ := h
    rfl
  · obtain ⟨a, xs, rfl, ha, hA, hl, q⟩ := h
    refine ⟨_, pss_cons (ps_setLc (i := 1) (own := [("number", 4)]) (g := gName 4) rfl sc_round.nd rfl rfl (sw_true rfl rfl rfl (by decide +kernel)) (pi_tup (pe_slice sl_tupA (pv 0) po_none (po_some pe_int)))
        (blkOk_by (own := [("number", 4)]) (N := ["numbers", "mixed", "a", "b", "number"]) (sc := defScope s_one_round) (by decide +kernel))
        (fun _ _ _ _ _ => pg_name (i := 4) sc_round.nd rfl (Or.inl rfl) (Or.inr rfl)) (fun _ _ _ _ _ => pts_nil) (fun _ _ _ _ _ => pe_op op_and (pv 4) pe_int))
      (pss_cons (ps_for PassesOwn.never rfl (RZ.pi_zipA (by rfl) T.n_zip (pa_cons (pv 0) (pa_cons (pe_slice sl_tupA (pv 0) (po_some pe_int) po_none) pa_nil)))
          (pg_tup rfl (pgs_cons (pg_name (i := 2) sc_round.nd rfl (Or.inl rfl) (Or.inr rfl)) (pgs_cons (pg_name (i := 3) sc_round.nd rfl (Or.inl rfl) (Or.inr rfl)) pgs_nil)))
        (pss_one (ps_expr (pe_bm PySem.F.plainAttrs_list PySem.F.slot_list_append PySem.F.type_list_append mt_append (pv 1) (pa_cons (pe_call GM hr rfl mM kM bM .nil pass0 (pa_cons (pv 2) (pa_cons (pv 3) pa_nil))) pa_nil)))))
      (pss_one (ps_ret (pe_callTy call_tuple_of (by rfl) T.n_tuple b_tuple (pa_cons (pv 1) pa_nil))))), ?_⟩
    refine ⟨_, rfl, 1, rfl, sl_to (k := 1) ha fun p1 H1 s1 hp1 => ?_⟩
    rw [nI_take] at hp1
    refine ⟨p1, rfl, ⟨_, SqT.of hp1⟩, fun D hD => ?_⟩
    have hD0 : H D = none := s1.free hD
    refine lc_tup (K := K) (a := p1) (xs := nI (xs.take 1)) (fun i H' => Same H1 H' ∧ H' D = some (.lst (nI (((xs.take 1).take i).map (· % 2)))))
      ⟨same_new hD, upd_same⟩ (fun i H' _ ⟨s2, _⟩ => SqT.of (s2 _ _ hp1)) ?_ ?_
    · rintro i x H2 hi ⟨s2, hd⟩
      cases ex : (xs.take 1)[i]? with
      | none =>
        unfold nI at hi
        rw [List.getElem?_map, ex] at hi
        cases hi
      | some n =>
        rw [nI_at ex] at hi
        have hi : V.int (n : Int) = x := Option.some.inj hi
        subst hi
        refine ⟨rfl, ?_⟩
        refine ⟨_, rfl, _, _, rfl, rfl, ?_⟩
        refine ⟨_, hd, lt_line (by rw [nI_length, List.length_map, List.length_take, List.length_take]; omega), s2.put hD, ?_⟩
        rw [upd_same, List.take_add_one (l := xs.take 1) (i := i), ex, List.map_append, nI_append]
        show some (HO.lst (_ ++ [.int (Builtin.bitAnd (n : Int) 1)])) = _
        rw [bitAnd_m1]
        rfl
    · rintro H2 ⟨s2, hd⟩
      have hd : H2 D = some (.lst (nI ((xs.take 1).map (· % 2)))) := by
        rw [hd, nI_length, List.take_length]
      have s12 := s1.trans s2
      refine ⟨_, rfl, _, rfl, 1, rfl, ?_⟩
      refine sl_fromP (K := K) (k := 1) (s12 _ _ ha) fun p2 H3 s3 hp2 => ?_
      rw [nI_drop] at hp2
      have s13 := s12.trans s3
      refine ⟨a, p2, nI xs, nI (xs.drop 1), rfl, .inr ⟨SqT.of (s13 _ _ ha), SqT.of hp2, ?_⟩⟩
      have hd3 := s3 _ _ hd
      have nDp : D ≠ p2 := ne_of hd3 hp2 (by intro z; cases z)
      refine for_gen (xs.length - 1) (fun i σ H' => ∃ o1 o2 o4 : Option V, σ = [some (.ref a), some (.ref D), o1, o2, o4] ∧ Same H H' ∧ H' p2 = some (.tup (nI (xs.drop 1))) ∧ H' D = some (.lst (nI ((oneR xs).take (i + 1)))))
        ⟨_, _, _, rfl, s13, hp2, ?_⟩ ?_ ?_ ?_ ?_
      · rw [hd3]
        cases xs with
        | nil => rfl
        | cons x r =>
          show some (HO.lst (nI ([x].map (· % 2)))) = some (HO.lst (nI ((x % 2 :: List.zipWith mix (x :: r) r).take 1)))
          rfl
      · rintro i σ H' hi ⟨o1, o2, o4, rfl, s4, hp, hd4⟩
        have lt : i + 1 < xs.length := by omega
        have e1 : xs[i]? = some xs[i] := List.getElem?_eq_getElem (by omega)
        have e2 : (xs.drop 1)[i]? = some xs[i + 1] := by
          rw [List.getElem?_drop, Nat.add_comm 1 i]
          exact List.getElem?_eq_getElem lt
        exact ⟨_, _, _, _, SqT.of (s4 _ _ ha), SqT.of hp, nI_at e1, nI_at e2⟩
      · rintro σ H' ⟨o1, o2, o4, rfl, s4, hp, hd4⟩
        exact ⟨_, _, SqT.of (s4 _ _ ha), SqT.of hp, .inr (by rw [nI_length, List.length_drop]; exact Nat.le_refl _)⟩
      · rintro i x σ H' H'' hi ⟨o1, o2, o4, rfl, s4, hp, hd4⟩ ⟨Tp, u, v, rfl, nT, rfl, h1, h2⟩
        have lt : i + 1 < xs.length := by omega
        have e1 : xs[i]? = some xs[i] := List.getElem?_eq_getElem (by omega)
        have e2 : xs[i + 1]? = some xs[i + 1] := List.getElem?_eq_getElem lt
        have e3 : (xs.drop 1)[i]? = some xs[i + 1] := by
          rw [List.getElem?_drop, Nat.add_comm 1 i]
          exact e2
        have hu : u = V.int (xs[i] : Int) := by
          have := h1 _ (SqT.of (s4 _ _ ha))
          rw [nI_at e1] at this
          exact (Option.some.inj this).symm
        have hv : v = V.int (xs[i + 1] : Int) := by
          have := h2 _ (SqT.of hp)
          rw [nI_at e3] at this
          exact (Option.some.inj this).symm
        subst hu hv
        have nDT : D ≠ Tp := ne_of_none hd4 nT
        refine ⟨Tp, _, rfl, SqT.of upd_same, rfl, _, _, rfl, _, _, rfl, rfl, ?_⟩
        have hd5 : upd H' Tp (.tup [.int (xs[i] : Int), .int (xs[i + 1] : Int)]) D = some (.lst (nI ((oneR xs).take (i + 1)))) := by rw [upd_ne nDT]; exact hd4
        refine ⟨_, rfl, .inl ⟨rfl, _, SqL.of hd5⟩, _, rfl, _, rfl, _, _, rfl, hA i _ _ e1 e2, ?_⟩
        refine ⟨D, _, _, rfl, rfl, hd5, lt_line (by rw [nI_length, List.length_take]; omega), ?_⟩
        have e4 : (oneR xs)[i + 1]? = some (mix xs[i] xs[i + 1]) := by
          cases xs with
          | nil => simp at lt
          | cons x r =>
            show (List.zipWith mix (x :: r) r)[i]? = _
            rw [List.getElem?_cons_succ] at e2
            exact zipWith_at _ _ i _ _ e1 e2
        have s5 := s4.new (o := .tup [.int (xs[i] : Int), .int (xs[i + 1] : Int)]) nT
        have npT : p2 ≠ Tp := ne_of_none hp nT
        refine ⟨_, _, _, rfl, s5.put hD0, ?_, ?_⟩
        · rw [upd_ne nDp.symm, upd_ne npT]
          exact hp
        · rw [upd_same, List.take_add_one (i := i + 1), e4, nI_append]
          rfl
      · rintro σ H' ⟨o1, o2, o4, rfl, s4, hp, hd4⟩
        have e : (oneR xs).take (xs.length - 1 + 1) = oneR xs := List.take_of_length_le (by rw [oneR_len]; omega)
        rw [e] at hd4
        exact ⟨_, rfl, D, _, rfl, .inl ⟨SqL.of hd4, fun p np => q p _ (s4.new np) upd_same⟩⟩
/-! ### colors -/
def spColors : Sp := fun vs H Q _ => ∃ (a : Addr) (cs : List Code), vs = [.ref a] ∧ H a = some (.tup (nI (coins cs))) ∧ Row cs ∧ cs.length ≤ 2000 ∧ ∀ (p : Addr) (H' : Hp), Same H H' → H' p = some (.tup (nI (colors cs))) → Q (.ref p) H'
theorem sc_colors : FnScope ["coins", "numbers", "_"] ["coins"] (defScope s_colors_of_coins) := ⟨rfl, rfl, rfl, by decide +kernel, rfl, by decide +kernel, by decide +kernel⟩
theorem ok_colors {C : Addr} (T : Tx K mg C) : Cal P w K mg base "colors_of_coins" 3 ["coins"] spColors := by
  obtain ⟨fR, fdR, GR, mR, kR, bR⟩ := (ok_round (P := P) (w := w) (base := base) T).ex
  obtain ⟨td, md⟩ := T.c_ROUNDS
  refine T.d_colors_of_coins.cal (fun _ _ _ _ _ _ us hl => match us, hl with | [_], _ => rfl) fun f fd' F _ _ _ => ?_
  refine okD F sc_colors (fun vs H Q E h => ?_) (fun cdv A outer s H vs Q E hr h => ?_)
  · obtain ⟨a, cs, rfl, _⟩ := h
    rfl
  · obtain ⟨a, cs, rfl, ha, hR, hl, q⟩ := h
    refine ⟨_, pss_cons (ps_set (i := 1) sc_colors.nd rfl (Or.inl rfl) (pv 0))
      (pss_cons (ps_for PassesOwn.never rfl (pi_range1 (by rfl) T.n_range (pa_cons (pe_glob (by rfl) md (relI _ _)) pa_nil)) (pg_name (i := 2) sc_colors.nd rfl (Or.inl rfl))
        (pss_one (ps_set (i := 1) sc_colors.nd rfl (Or.inl rfl) (pe_call GR hr rfl mR kR bR .nil pass0 (pa_cons (pv 1) pa_nil)))))
      (pss_one (ps_ret (pv 1)))), ?_⟩
    refine ⟨_, rfl, ?_⟩
    refine ⟨4, rfl, by decide, by decide, for_range (lo := 0) (n := 4) (fun i σ H' => ∃ (b : Addr) (o : Option V), σ = [some (.ref a), some (.ref b), o] ∧ Same H H' ∧ H' b = some (.tup (nI (rounds cs i))))
      ⟨a, none, rfl, Same.refl H, ha⟩ ?_ ?_⟩
    · rintro i σ H1 hi ⟨b, o, rfl, s1, hb⟩
      refine ⟨_, rfl, b, _, rfl, hb, rounds_apart hR i, by rw [rounds_length]; exact hl, fun p H2 s2 hp => ?_⟩
      exact ⟨p, _, rfl, s1.trans s2, by rw [rounds_one]; exact hp⟩
    · rintro σ H1 ⟨b, o, rfl, s1, hb⟩
      exact ⟨_, rfl, q b H1 s1 hb⟩
/-! ### of nested nodes -/
def spCoinsOf (K : PySem.W.Frag) : Sp := fun vs H Q _ => ∃ (a : Addr) (its : List Nd) (xs : List V), vs = [.ref a] ∧ SqT K H a xs ∧ NVs H its xs ∧ GoodL its ∧ sizeL its < 256 ∧ Row (cods its) ∧
  ∀ (p : Addr) (H' : Hp), Same H H' → H' p = some (.tup (nI (coins (cods its)))) → Q (.ref p) H'
theorem sc_coins_of : FnScope ["items", "item"] ["items"] (defScope s_coins_of) := ⟨rfl, rfl, rfl, by decide +kernel, rfl, by decide +kernel, by decide +kernel⟩
theorem ok_coins_of {C : Addr} (T : Tx K mg C) : Cal P w K mg base "coins_of" 21 ["items"] (spCoinsOf K) := by
  obtain ⟨fN, fdN, GN, mN, kN, bN⟩ := (ok_node_code (P := P) (w := w) (base := base) T).ex
  obtain ⟨fC, fdC, GC, mC, kC, bC⟩ := (ok_coins (P := P) (w := w) (base := base) T).ex
  refine T.d_coins_of.cal (fun _ _ _ _ _ _ us hl => match us, hl with | [_], _ => rfl) fun f fd' F _ _ _ => ?_
  refine okD F sc_coins_of (fun vs H Q E h => ?_) (fun cdv A outer s H vs Q E hr h => ?_)
  · obtain ⟨a, its, xs, rfl, _⟩ := h
    rfl
  · obtain ⟨a, its, xs, rfl, hS, hN, hg, hs, hR, q⟩ := h
    have hlen := hN.length
    have hl := sizeL_pos its hg
    refine ⟨_, pss_one (ps_ret (pe_call GC (hr.mono (by decide)) rfl mC kC bC .nil pass0 (pa_cons (pe_lc (own := [("item", 1)]) (g := gName 1) rfl sc_coins_of.nd (pi_tup (pv 0)) (blkOk_by (own := [("item", 1)]) (N := ["items", "item"]) (sc := defScope s_coins_of) (by decide +kernel))
      (fun _ _ _ _ _ => pg_name (i := 1) sc_coins_of.nd rfl (Or.inl rfl) (Or.inr rfl)) (fun _ _ _ _ _ => pts_nil) (fun _ _ _ _ _ => pe_call GN hr rfl mN kN bN .nil pass0 (pa_cons (pv 1) pa_nil))) pa_nil))), ?_⟩
    refine ⟨_, rfl, a, rfl, ⟨_, hS⟩, fun D hD => ?_⟩
    refine lc_tup (K := K) (a := a) (xs := xs) (fun i H' => ∃ as : List Addr, Same H H' ∧ H' D = some (.lst (as.map V.ref)) ∧ Tups H' as ((its.take i).map code))
      ⟨[], same_new hD, upd_same, .nil⟩ (fun i H' _ ⟨_, s1, _⟩ => s1.seqT hS) ?_ ?_
    · rintro i x H1 hi ⟨as, s1, hd1, ht⟩
      obtain ⟨c, ec, hc⟩ := hN.get hi
      have mc : c ∈ its := List.mem_of_getElem? ec
      have gc := (goodL_iff its).mp hg c mc
      have sc : size c < 256 := Nat.lt_of_le_of_lt (size_mem mc) hs
      refine ⟨rfl, ?_⟩
      refine ⟨_, rfl, c, x, rfl, NV.tm s1.tm hc, gc, Nat.le_succ_of_le (dep_le gc sc), by omega, fun b H2 s2 hb => ?_⟩
      have hd2 := s2 _ _ hd1
      have la : as.length = i := by
        have := Paired.length ht
        rw [List.length_map, List.length_take] at this
        have := (List.getElem?_eq_some_iff.mp ec).1
        omega
      refine ⟨_, hd2, lt_line (by rw [List.length_map, la]; have := (List.getElem?_eq_some_iff.mp ec).1; omega), as ++ [b], (s1.trans s2).put hD, ?_, ?_⟩
      · rw [upd_same, refs_snoc]
      · have t3 : Tm H2 (upd H2 D (.lst (as.map V.ref ++ [.ref b]))) := Tm.lst (Tm.refl _) hd2
        rw [List.take_add_one, ec, List.map_append]
        exact Tups.snoc (t3 _ _ hb) (Tups.tm (s2.tm.trans t3) ht)
    · rintro H1 ⟨as, s1, hd1, ht⟩
      rw [← hlen, List.take_length] at ht
      refine ⟨D, as, cods its, rfl, SqL.of hd1, ht, hR, by rw [cods_length]; omega, fun z H2 s2 hz => ?_⟩
      exact q z H2 (s1.trans s2) hz
def spColorsOf (K : PySem.W.Frag) : Sp := fun vs H Q _ => ∃ (a : Addr) (its : List Nd) (xs : List V), vs = [.ref a] ∧ SqT K H a xs ∧ NVs H its xs ∧ GoodL its ∧ sizeL its < 256 ∧ Row (cods its) ∧
  ∀ (p : Addr) (H' : Hp), Same H H' → H' p = some (.tup (nI (colors (cods its)))) → Q (.ref p) H'
theorem sc_colors_of : FnScope ["items"] ["items"] (defScope s_colors_of) := ⟨rfl, rfl, rfl, by decide +kernel, rfl, by decide +kernel, by decide +kernel⟩
theorem ok_colors_of {C : Addr} (T : Tx K mg C) : Cal P w K mg base "colors_of" 22 ["items"] (spColorsOf K) := by
  obtain ⟨fN, fdN, GN, mN, kN, bN⟩ := (ok_coins_of (P := P) (w := w) (base := base) T).ex
  obtain ⟨fC, fdC, GC, mC, kC, bC⟩ := (ok_colors (P := P) (w := w) (base := base) T).ex
  refine T.d_colors_of.cal (fun _ _ _ _ _ _ us hl => match us, hl with | [_], _ => rfl) fun f fd' F _ _ _ => ?_
  refine okD F sc_colors_of (fun vs H Q E h => ?_) (fun cdv A outer s H vs Q E hr h => ?_)
  · obtain ⟨a, its, xs, rfl, _⟩ := h
    rfl
  · obtain ⟨a, its, xs, rfl, hS, hN, hg, hs, hR, q⟩ := h
    have hl := sizeL_pos its hg
    refine ⟨_, pss_one (ps_ret (pe_call GC (hr.mono (by decide)) rfl mC kC bC .nil pass0 (pa_cons (pe_call GN hr rfl mN kN bN .nil pass0 (pa_cons (pv 0) pa_nil)) pa_nil))), ?_⟩
    refine ⟨_, rfl, a, its, xs, rfl, hS, hN, hg, hs, hR, fun p H1 s1 hp => ?_⟩
    exact ⟨p, cods its, rfl, hp, hR, by rw [cods_length]; omega, fun z H2 s2 hz => q z H2 (s1.trans s2) hz⟩
end
end K33
/-! K33W8: is_peak, starts_of, cut, blocks_of. -/
namespace K33
open PySem PySem.Spec PyProof.Rows L2
/-! ### the mathematics -/
/-- the starts as the program lists them -/
def startsL (cs : List Code) : List Nat := 0 :: (List.range' 2 (cs.length - 3)).filter (st cs)
theorem startsL_mem {cs : List Code} {i : Nat} : i ∈ (List.range' 2 (cs.length - 3)).filter (st cs) ↔ st cs i = true := by
  rw [List.mem_filter, List.mem_range'_1]
  constructor
  · exact fun h => h.2
  · intro h
    have := st_range h
    exact ⟨by omega, h⟩
theorem startsL_lt {cs : List Code} (h : 0 < cs.length) : ∀ i ∈ startsL cs, i < cs.length := by
  intro i hi
  rcases List.mem_cons.mp hi with rfl | hi
  · exact h
  · have := st_range (startsL_mem.mp hi)
    omega
theorem startsL_up (cs : List Code) : (startsL cs).Pairwise (· < ·) := by
  refine List.pairwise_cons.mpr ⟨fun i hi => ?_, ?_⟩
  · have := st_range (startsL_mem.mp hi)
    omega
  · exact (List.pairwise_lt_range' (s := 2) (n := cs.length - 3)).filter _
theorem slices_starts {α : Type} {cs : List Code} (L : List α) (h : L.length = cs.length) (h0 : 0 < cs.length) : slices L (startsL cs) = segs (st cs) 0 L := by
  have e := slices_segs (p := st cs) L ((List.range' 2 (cs.length - 3)).filter (st cs)) 0 (by omega) (fun i _ _ => startsL_mem.symm) (startsL_up cs) (fun i hi => by
    have := st_range (startsL_mem.mp hi)
    omega)
  exact e
theorem slices_len {α : Type} (L : List α) : ∀ sts : List Nat, (slices L sts).length = sts.length
  | [] => rfl
  | [_] => rfl
  | s :: e :: r => by
    show (slices L (e :: r)).length + 1 = _
    rw [slices_len L (e :: r)]
    rfl
theorem slices_at {α : Type} (L : List α) : ∀ (sts : List Nat) (i s e : Nat), sts[i]? = some s → (sts.drop 1 ++ [L.length])[i]? = some e → (slices L sts)[i]? = some ((L.drop s).take (e - s))
  | [], i, s, e, h, _ => by simp at h
  | [a], 0, s, e, h, h2 => by
    have h : a = s := Option.some.inj h
    have h2 : L.length = e := Option.some.inj h2
    show some (L.drop a) = _
    rw [← h, ← h2, List.take_of_length_le (by rw [List.length_drop]; exact Nat.le_refl _)]
  | [a], i + 1, s, e, h, _ => by simp at h
  | a :: b :: r, 0, s, e, h, h2 => by
    have h : a = s := Option.some.inj h
    have h2 : b = e := Option.some.inj h2
    rw [← h, ← h2]
    rfl
  | a :: b :: r, i + 1, s, e, h, h2 => slices_at L (b :: r) i s e h h2
theorem slices_map {α β : Type} (f : α → β) (L : List α) : ∀ sts : List Nat, slices (L.map f) sts = (slices L sts).map (·.map f)
  | [] => rfl
  | [s] => by
    show [(L.map f).drop s] = [(L.drop s).map f]
    rw [List.map_drop]
  | s :: e :: r => by
    show ((L.map f).drop s).take (e - s) :: slices (L.map f) (e :: r) = ((L.drop s).take (e - s)).map f :: (slices L (e :: r)).map (·.map f)
    rw [slices_map f L (e :: r), List.map_take, List.map_drop]
theorem NVs.drop {H : Hp} : ∀ {ns : List Nd} {vs : List V} (k : Nat), NVs H ns vs → NVs H (ns.drop k) (vs.drop k)
  | _, _, 0, h => h
  | _, _, _ + 1, .nil => .nil
  | _, _, k + 1, .cons _ b => NVs.drop k b
theorem NVs.take {H : Hp} : ∀ {ns : List Nd} {vs : List V} (k : Nat), NVs H ns vs → NVs H (ns.take k) (vs.take k)
  | _, _, 0, _ => .nil
  | _, _, _ + 1, .nil => .nil
  | _, _, k + 1, .cons a b => .cons a (NVs.take k b)
theorem slices_rel {H : Hp} {ns : List Nd} {vs : List V} (h : NVs H ns vs) : ∀ sts : List Nat, Paired (fun q ys => NVs H q ys) (slices ns sts) (slices vs sts)
  | [] => .nil
  | [s] => .cons (h.drop s) .nil
  | s :: e :: r => .cons ((h.drop s).take _) (slices_rel h (e :: r))
theorem colors_at {cs : List Code} {i : Nat} (h : i < cs.length) : (colors cs)[i]? = some (rnd cs 4 i) := rounds_at cs 4 i h
theorem colors_length (cs : List Code) : (colors cs).length = cs.length := rounds_length cs 4
/-- the parts stand at the addresses as tuples -/
abbrev Pts (H : Hp) (rs : List Addr) (ps : List (List V)) : Prop := Paired (fun (r : Addr) (ys : List V) => H r = some (.tup ys)) rs ps
theorem Pts.tm {H H' : Hp} (t : Tm H H') : ∀ {rs : List Addr} {ps : List (List V)}, Pts H rs ps → Pts H' rs ps
  | _, _, .nil => .nil
  | _, _, .cons h r => .cons (t _ _ h) (Pts.tm t r)
theorem Pts.snoc {H : Hp} {r : Addr} {y : List V} {rs : List Addr} {ps : List (List V)} (h : H r = some (.tup y)) (t : Pts H rs ps) : Pts H (rs ++ [r]) (ps ++ [y]) :=
  paired_snoc (R := fun (r : Addr) (ys : List V) => H r = some (.tup ys)) h t
theorem cutV_mid (xs : List V) {s e : Nat} (hs : s ≤ xs.length) (he : e ≤ xs.length) : cutV xs (some (s : Int)) (some (e : Int)) = (xs.drop s).take (e - s) := by
  unfold cutV
  rw [HT.sIx_nat, HT.sIx_nat, Nat.min_eq_left hs, Nat.min_eq_left he]
/-- t[s:e] of a tuple -/
theorem sl_mid {K : PySem.W.Frag} {H : Hp} {a : Addr} {xs : List V} {s e : Nat} {Q : VK} (h : H a = some (.tup xs)) (hs : s ≤ xs.length) (he : e ≤ xs.length) (q : ∀ p H', Same H H' → H' p = some (.tup ((xs.drop s).take (e - s))) → Q (.ref p) H') :
    rSlA K (.ref a) (some (s : Int)) (some (e : Int)) H Q := by
  refine ⟨a, xs, rfl, SqT.of h, fun c => ?_, fun _ p np => ?_⟩
  · obtain ⟨c1, c2⟩ := c
    rw [HT.sIx_nat, Nat.min_eq_left hs] at c1
    rw [HT.sIx_nat, Nat.min_eq_left he] at c2
    refine q a H (Same.refl H) ?_
    rw [h, c1, c2, List.drop_zero, Nat.sub_zero, List.take_length]
  · refine q p _ (same_new np) ?_
    rw [upd_same, cutV_mid xs hs he]
section
variable {P : Program} {w : World} {K : PySem.W.Frag} {mg : Str → Option Value} {base : Heap}
/-! ### is_peak, starts_of -/
def spPeak (K : PySem.W.Frag) : Sp := fun vs H Q _ => ∃ (a : Addr) (xs : List Nat) (p x y z : Nat), vs = [.ref a, .int (p : Int)] ∧ SqT K H a (nI xs) ∧ 1 ≤ p ∧ xs[p - 1]? = some x ∧ xs[p]? = some y ∧ xs[p + 1]? = some z ∧ Q (.bl (decide (x < y ∧ z < y))) H
theorem sc_peak : FnScope ["colors", "place"] ["colors", "place"] (defScope s_is_peak) := ⟨rfl, rfl, rfl, by decide +kernel, rfl, by decide +kernel, by decide +kernel⟩
theorem ok_peak {C : Addr} (T : Tx K mg C) : Cal P w K mg base "is_peak" 1 ["colors", "place"] (spPeak K) := by
  refine T.d_is_peak.cal (fun _ _ _ _ _ _ us hl => match us, hl with | [_, _], _ => rfl) fun f fd' F _ _ _ => ?_
  refine okD F sc_peak (fun vs H Q E h => ?_) (fun cdv A outer s H vs Q E hr h => ?_)
  · obtain ⟨a, xs, p, x, y, z, rfl, _⟩ := h
    rfl
  · obtain ⟨a, xs, p, x, y, z, rfl, hS, hp, hx, hy, hz, q⟩ := h
    refine ⟨_, pss_one (ps_ret (pe_and (pe_cmpR op_lt (pe_ix ix_tup (pv 0) (pe_op op_sub (pv 1) pe_int) (fun _ _ => rfl)) (pe_ix ix_tup (pv 0) (pv 1) (fun _ _ => rfl)) (nomark _))
      (pe_one (pe_cmpR op_gt (pe_ix ix_tup (pv 0) (pv 1) (fun _ _ => rfl)) (pe_ix ix_tup (pv 0) (pe_op op_add (pv 1) pe_int) (fun _ _ => rfl)) (nomark _))))), ?_⟩
    refine ⟨_, rfl, _, rfl, _, _, rfl, rfl, a, _, _, _, rfl, rfl, hS, at_of (j := p - 1) (by omega) (nI_at hx), _, rfl, _, rfl, a, _, _, _, rfl, rfl, hS, atI_nat (nI_at hy), _, _, rfl, rfl, _, rfl, ?_⟩
    refine ite2d (fun c => ?_) (fun c => ?_)
    · refine ⟨_, rfl, _, rfl, a, _, _, _, rfl, rfl, hS, atI_nat (nI_at hy), _, rfl, _, rfl, _, _, rfl, rfl, a, _, _, _, rfl, rfl, hS, at_of (j := p + 1) (by omega) (nI_at hz), _, _, rfl, rfl, ?_⟩
      have e : decide (x < y ∧ z < y) = decide ((z : Int) < (y : Int)) := decide_eq_decide.mpr ⟨fun h => by omega, fun h => ⟨by omega, by omega⟩⟩
      rw [e] at q
      exact q
    · have e : decide (x < y ∧ z < y) = false := decide_eq_false fun h => c (by omega)
      rw [e] at q
      exact q
def spStarts (K : PySem.W.Frag) : Sp := fun vs H Q _ => ∃ (a : Addr) (cs : List Code), vs = [.ref a] ∧ SqT K H a (nI (colors cs)) ∧ 0 < cs.length ∧ cs.length ≤ 2000 ∧ ∀ (p : Addr) (H' : Hp), Same H H' → H' p = some (.tup (nI (startsL cs))) → Q (.ref p) H'
theorem sc_starts : FnScope ["colors", "place"] ["colors"] (defScope s_starts_of) := ⟨rfl, rfl, rfl, by decide +kernel, rfl, by decide +kernel, by decide +kernel⟩
theorem ok_starts {C : Addr} (T : Tx K mg C) : Cal P w K mg base "starts_of" 2 ["colors"] (spStarts K) := by
  obtain ⟨fP, fdP, GP, mP, kP, bP⟩ := (ok_peak (P := P) (w := w) (base := base) T).ex
  refine T.d_starts_of.cal (fun _ _ _ _ _ _ us hl => match us, hl with | [_], _ => rfl) fun f fd' F _ _ _ => ?_
  refine okD F sc_starts (fun vs H Q E h => ?_) (fun cdv A outer s H vs Q E hr h => ?_)
  · obtain ⟨a, cs, rfl, _⟩ := h
    rfl
  · obtain ⟨a, cs, rfl, hS, h0, hl, q⟩ := h
    refine ⟨_, pss_cons (ps_if (pt_not (pt_truth (pv 0) (by intro _; rfl))) (pss_one ps_never) pss_nil)
      (pss_one (ps_ret (pe_op op_catA (pe_tup (pa_cons pe_int pa_nil)) (pe_callTy call_tuple_of (by rfl) T.n_tuple b_tuple (pa_cons (pe_lc (own := [("place", 1)]) (g := gName 1) rfl sc_starts.nd
        (pi_range2 (by rfl) T.n_range (pa_cons pe_int (pa_cons (pe_op op_sub (pe_callB call_len_seq (by rfl) T.n_len b_len (pa_cons (pv 0) pa_nil)) pe_int) pa_nil)))
        (blkOk_by (own := [("place", 1)]) (N := ["colors", "place"]) (sc := defScope s_starts_of) (by decide +kernel)) (fun _ _ _ _ _ => pg_name (i := 1) sc_starts.nd rfl (Or.inl rfl) (Or.inr rfl))
        (fun _ _ _ _ _ => pts_one (pt_val (pe_call GP hr rfl mP kP bP .nil pass0 (pa_cons (pv 0) (pa_cons (pv 1) pa_nil))))) (fun _ _ _ _ _ => pv 1)) pa_nil))))), ?_⟩
    have ne : nI (colors cs) ≠ [] := nI_ne fun e => by
      have := colors_length cs
      rw [e] at this
      simp at this
      omega
    refine ⟨_, rfl, true, .inr (.inl ⟨_, hS, ?_⟩), ?_⟩
    · cases e : nI (colors cs) with
      | nil => exact absurd e ne
      | cons => rfl
    refine iteF ?_
    refine ⟨by show 1 ≤ sizeLine; rw [sizeLine_eq]; decide, fun t nt => ?_⟩
    have s1 : Same H (upd H t (.tup [.int 0])) := same_new nt
    refine ⟨_, rfl, a, _, rfl, .inr (s1.seqT hS), _, _, rfl, rfl, 2, _, rfl, ?_, ?_⟩
    · rw [nI_length, colors_length]
      exact ⟨by omega, by omega, by omega, by omega⟩
    refine fun D hD => ?_
    have hn : (((nI (colors cs)).length : Int) - 1 - 2).toNat = cs.length - 3 := by
      rw [nI_length, colors_length]
      omega
    rw [hn]
    have ntD : t ≠ D := ne_of_none upd_same hD
    refine lc_range (lo := 2) (n := cs.length - 3) (fun i H' => Same H H' ∧ H' t = some (.tup [.int 0]) ∧ H' D = some (.lst (nI ((List.range' 2 i).filter (st cs)))))
      ⟨s1.new hD, by rw [upd_ne ntD, upd_same], upd_same⟩ ?_ ?_
    · rintro i H1 hi ⟨s2, ht, hd⟩
      refine ⟨rfl, ?_⟩
      have ez : (2 : Int) + (i : Int) = ((2 + i : Nat) : Int) := by omega
      refine ⟨_, rfl, _, rfl, a, colors cs, 2 + i, rnd cs 4 (2 + i - 1), rnd cs 4 (2 + i), rnd cs 4 (2 + i + 1), by rw [← ez]; rfl, s2.seqT hS, by omega, colors_at (by omega), colors_at (by omega), colors_at (by omega), _, rfl, ?_⟩
      have es : decide (rnd cs 4 (2 + i - 1) < rnd cs 4 (2 + i) ∧ rnd cs 4 (2 + i + 1) < rnd cs 4 (2 + i)) = st cs (2 + i) := by
        unfold st peakP
        exact decide_eq_decide.mpr ⟨fun h => ⟨by omega, by omega, h⟩, fun h => h.2.2⟩
      have er : List.range' 2 (i + 1) = List.range' 2 i ++ [2 + i] := by
        rw [List.range'_1_concat]
      rw [es]
      cases c : st cs (2 + i) with
      | true =>
        refine iteT ?_
        refine ⟨_, rfl, _, hd, lt_line ?_, s2.put (s1.free hD), by rw [upd_ne ntD]; exact ht, ?_⟩
        · rw [nI_length]
          have h1 := List.length_filter_le (st cs) (List.range' 2 i)
          rw [List.length_range'] at h1
          omega
        · rw [upd_same, er, List.filter_append, nI_append]
          have e1 : [2 + i].filter (st cs) = [2 + i] := by
            rw [List.filter_cons, if_pos c]
            rfl
          rw [e1, ez]
          rfl
      | false =>
        refine iteF ?_
        refine ⟨s2, ht, ?_⟩
        have e1 : [2 + i].filter (st cs) = [] := by
          rw [List.filter_cons, if_neg (by rw [c]; decide)]
          rfl
        rw [hd, er, List.filter_append, e1, List.append_nil]
    · rintro H1 ⟨s2, ht, hd⟩
      refine ⟨D, _, rfl, .inl ⟨SqL.of hd, fun b nb => ?_⟩⟩
      have ntb : t ≠ b := ne_of_none ht nb
      have lf : (nI ((List.range' 2 (cs.length - 3)).filter (st cs))).length ≤ 2000 := by
        rw [nI_length]
        have h1 := List.length_filter_le (st cs) (List.range' 2 (cs.length - 3))
        rw [List.length_range'] at h1
        omega
      refine cat_get (by rw [upd_ne ntb]; exact ht) upd_same (by show 1 + _ ≤ 1000000; omega) fun z H2 s3 hz => ?_
      exact q z H2 ((s2.new nb).trans s3) hz
/-! ### cut -/
def spCut : Sp := fun vs H Q _ => ∃ (a b : Addr) (xs : List V) (es : List Nat), vs = [.ref a, .ref b] ∧ H a = some (.tup xs) ∧ H b = some (.tup (nI (0 :: es))) ∧ (∀ e ∈ 0 :: es, e < xs.length) ∧ es.length ≤ 2000 ∧ xs.length ≤ 2000 ∧
  ∀ (p : Addr) (H' : Hp) (rs : List Addr), Same H H' → H p = none → H' p = some (.lst (rs.map V.ref)) → Pts H' rs (slices xs (0 :: es)) → Q (.ref p) H'
theorem sc_cut : FnScope ["items", "starts", "ends", "start", "end"] ["items", "starts"] (defScope s_cut) := ⟨rfl, rfl, rfl, by decide +kernel, rfl, by decide +kernel, by decide +kernel⟩
theorem ok_cut {C : Addr} (T : Tx K mg C) : Cal P w K mg base "cut" 1 ["items", "starts"] spCut := by
  refine T.d_cut.cal (fun _ _ _ _ _ _ us hl => match us, hl with | [_, _], _ => rfl) fun f fd' F _ _ _ => ?_
  refine okD F sc_cut (fun vs H Q E h => ?_) (fun cdv A outer s H vs Q E hr h => ?_)
  · obtain ⟨a, b, xs, es, rfl, _⟩ := h
    rfl
  · obtain ⟨a, b, xs, es, rfl, ha, hb, hlt, hle, hl, q⟩ := h
    refine ⟨_, pss_cons (ps_set (i := 2) sc_cut.nd rfl (Or.inl rfl) (pe_op op_catA (pe_slice sl_tupA (pv 1) (po_some pe_int) po_none) (pe_tup (pa_cons (pe_callB call_len_seq (by rfl) T.n_len b_len (pa_cons (pv 0) pa_nil)) pa_nil))))
      (pss_one (ps_ret (pe_lc (own := [("start", 3), ("end", 4)]) (g := gTup K 2 (gCons (gName 3) (gCons (gName 4) gNil))) (te := tSl (rSlA K) (tVar 0) (tPart (tVar 3)) (tPart (tVar 4))) rfl sc_cut.nd (RZ.pi_zipA (by rfl) T.n_zip (pa_cons (pv 1) (pa_cons (pv 2) pa_nil)))
        (blkOk_by (own := [("start", 3), ("end", 4)]) (N := ["items", "starts", "ends", "start", "end"]) (sc := defScope s_cut) (by decide +kernel))
        (fun _ _ _ _ _ => pg_tup rfl (pgs_cons (pg_name (i := 3) sc_cut.nd rfl (Or.inl rfl) (Or.inr rfl)) (pgs_cons (pg_name (i := 4) sc_cut.nd rfl (Or.inl rfl) (Or.inr rfl)) pgs_nil))) (fun _ _ _ _ _ => pts_nil)
        (fun _ _ _ _ _ => pe_slice sl_tupA (pv 0) (po_some (pv 3)) (po_some (pv 4)))))), ?_⟩
    refine ⟨_, rfl, 1, rfl, ?_⟩
    refine sl_fromP (K := K) (k := 1) hb fun p1 H1 s1 hp1 => ?_
    rw [nI_drop] at hp1
    have hp1 : H1 p1 = some (.tup (nI es)) := hp1
    refine ⟨_, rfl, a, _, rfl, .inr (SqT.of (s1 _ _ ha)), by show 1 ≤ sizeLine; rw [sizeLine_eq]; decide, fun t nt => ?_⟩
    have s2 : Same H1 (upd H1 t (.tup [.int (xs.length : Int)])) := same_new nt
    refine cat_get (s2 _ _ hp1) upd_same (by rw [nI_length]; show es.length + 1 ≤ 1000000; omega) fun p2 H2 s3 hp2 => ?_
    have s12 : Same H H2 := (s1.trans s2).trans s3
    have hp2 : H2 p2 = some (.tup (nI (es ++ [xs.length]))) := by
      rw [hp2, nI_append]
      rfl
    refine ⟨_, rfl, _, rfl, b, p2, _, _, rfl, .inr ⟨SqT.of (s12 _ _ hb), SqT.of hp2, fun D hD => ?_⟩⟩
    have hD0 : H D = none := s12.free hD
    have nDp : ∀ (x : Addr) (ys : List V), H2 x = some (.tup ys) → x ≠ D := fun x ys h => ne_of_none h hD
    refine lc_gen (es.length + 1) (fun i H' => ∃ rs : List Addr, Same H H' ∧ H' p2 = some (.tup (nI (es ++ [xs.length]))) ∧ H' D = some (.lst (rs.map V.ref)) ∧ Pts H' rs ((slices xs (0 :: es)).take i))
      ⟨[], s12.new hD, by rw [upd_ne (nDp _ _ hp2)]; exact hp2, upd_same, .nil⟩ ?_ ?_ ?_ ?_
    · rintro i H' hi ⟨rs, s4, hp, hd, hP⟩
      obtain ⟨u0, e1⟩ : ∃ u0, (0 :: es)[i]? = some u0 := ⟨_, List.getElem?_eq_getElem (show i < (0 :: es).length by rw [List.length_cons]; omega)⟩
      obtain ⟨v0, e2⟩ : ∃ v0, (es ++ [xs.length])[i]? = some v0 := ⟨_, List.getElem?_eq_getElem (show i < (es ++ [xs.length]).length by rw [List.length_append, List.length_singleton]; omega)⟩
      exact ⟨_, _, _, _, SqT.of (s4 _ _ hb), SqT.of hp, nI_at e1, nI_at e2⟩
    · rintro H' ⟨rs, s4, hp, hd, hP⟩
      exact ⟨_, _, SqT.of (s4 _ _ hb), SqT.of hp, .inl (by rw [nI_length, List.length_cons]; exact Nat.le_refl _)⟩
    · rintro i x H' H'' hi ⟨rs, s4, hp, hd, hP⟩ ⟨Tp, u, v, rfl, nT, rfl, h1, h2⟩
      obtain ⟨u0, e1⟩ : ∃ u0, (0 :: es)[i]? = some u0 := ⟨_, List.getElem?_eq_getElem (show i < (0 :: es).length by rw [List.length_cons]; omega)⟩
      obtain ⟨v0, e2⟩ : ∃ v0, (es ++ [xs.length])[i]? = some v0 := ⟨_, List.getElem?_eq_getElem (show i < (es ++ [xs.length]).length by rw [List.length_append, List.length_singleton]; omega)⟩
      have hu : u = V.int (u0 : Int) := by
        have := h1 _ (SqT.of (s4 _ _ hb))
        rw [nI_at e1] at this
        exact (Option.some.inj this).symm
      have hv : v = V.int (v0 : Int) := by
        have := h2 _ (SqT.of hp)
        rw [nI_at e2] at this
        exact (Option.some.inj this).symm
      subst hu hv
      have l1 : u0 ≤ xs.length := Nat.le_of_lt (hlt _ (List.mem_of_getElem? e1))
      have l2 : v0 ≤ xs.length := by
        rcases List.mem_append.mp (List.mem_of_getElem? e2) with m | m
        · exact Nat.le_of_lt (hlt _ (List.mem_cons_of_mem _ m))
        · rw [List.mem_singleton.mp m]
          exact Nat.le_refl _
      have s5 := s4.new (o := .tup [.int (u0 : Int), .int (v0 : Int)]) nT
      refine ⟨Tp, _, rfl, SqT.of upd_same, rfl, _, _, rfl, _, _, rfl, rfl, rfl, ?_⟩
      refine ⟨_, rfl, _, rfl, _, rfl, _, rfl, _, rfl, ?_⟩
      refine sl_mid (K := K) (s5 _ _ ha) l1 l2 fun p3 H3 s6 hp3 => ?_
      have nDT : D ≠ Tp := ne_of_none hd nT
      have hd3 : H3 D = some (.lst (rs.map V.ref)) := s6 _ _ (by rw [upd_ne nDT]; exact hd)
      have lrs : rs.length ≤ 2001 := by
        have h3 := Paired.length hP
        rw [List.length_take, slices_len, List.length_cons] at h3
        omega
      have t1 : Tm H3 (upd H3 D (.lst (rs.map V.ref ++ [.ref p3]))) := Tm.lst (Tm.refl _) hd3
      have tt : Tm H' H3 := Tm.trans ((Tm.refl H').new nT) s6.tm
      refine ⟨_, hd3, lt_line (by rw [List.length_map]; omega), rs ++ [p3], (s5.trans s6).put hD0, t1 _ _ (tt _ _ hp), ?_, ?_⟩
      · rw [upd_same, refs_snoc]
      · rw [List.take_add_one, slices_at xs (0 :: es) i _ _ e1 e2]
        exact Pts.snoc (t1 _ _ hp3) (Pts.tm (tt.trans t1) hP)
    · rintro H' ⟨rs, s4, hp, hd, hP⟩
      have e : (slices xs (0 :: es)).take (es.length + 1) = slices xs (0 :: es) := List.take_of_length_le (by rw [slices_len, List.length_cons]; exact Nat.le_refl _)
      rw [e] at hP
      exact q D H' rs s4 hD0 hd hP
/-! ### blocks_of -/
def spBlocks : Sp := fun vs H Q _ => ∃ (a : Addr) (its : List Nd) (xs : List V), vs = [.ref a] ∧ H a = some (.tup xs) ∧ NVs H its xs ∧ its ≠ [] ∧ GoodL its ∧ sizeL its < 256 ∧ Row (cods its) ∧
  ∀ (p : Addr) (H' : Hp) (ys : List V), Same H H' → H' p = some (.tup ys) → NVs H' (blks (parts its)) ys → Q (.ref p) H'
theorem sc_blocks : FnScope ["items", "part"] ["items"] (defScope s_blocks_of) := ⟨rfl, rfl, rfl, by decide +kernel, rfl, by decide +kernel, by decide +kernel⟩
theorem ok_blocks {C : Addr} (T : Tx K mg C) : Cal P w K mg base "blocks_of" 23 ["items"] spBlocks := by
  obtain ⟨fC, fdC, GC, mC, kC, bC⟩ := (ok_colors_of (P := P) (w := w) (base := base) T).ex
  obtain ⟨fS, fdS, GS, mS, kS, bS⟩ := (ok_starts (P := P) (w := w) (base := base) T).ex
  obtain ⟨fU, fdU, GU, mU, kU, bU⟩ := (ok_cut (P := P) (w := w) (base := base) T).ex
  refine T.d_blocks_of.cal (fun _ _ _ _ _ _ us hl => match us, hl with | [_], _ => rfl) fun f fd' F _ _ _ => ?_
  refine okD F sc_blocks (fun vs H Q E h => ?_) (fun cdv A outer s H vs Q E hr h => ?_)
  · obtain ⟨a, its, xs, rfl, _⟩ := h
    rfl
  · obtain ⟨a, its, xs, rfl, ha, hN, hne, hg, hs, hR, q⟩ := h
    have hr2 : Room 2 _ := hr.mono (by decide)
    have hr1 : Room 1 _ := hr.mono (by decide)
    have hlen := hN.length
    have hl := sizeL_pos its hg
    have h0 : 0 < its.length := by
      cases its with
      | nil => exact absurd rfl hne
      | cons => simp
    have cl := cods_length its
    refine ⟨_, pss_one (ps_ret (pe_callTy call_tuple_of (by rfl) T.n_tuple b_tuple (pa_cons (pe_lc (own := [("part", 1)]) (g := gName 1) rfl sc_blocks.nd
      (pi_list (pe_call GU hr1 rfl mU kU bU .nil pass0 (pa_cons (pv 0) (pa_cons (pe_call GS hr2 rfl mS kS bS .nil pass0 (pa_cons (pe_call GC hr rfl mC kC bC .nil pass0 (pa_cons (pv 0) pa_nil)) pa_nil)) pa_nil))))
      (blkOk_by (own := [("part", 1)]) (N := ["items", "part"]) (sc := defScope s_blocks_of) (by decide +kernel)) (fun _ _ _ _ _ => pg_name (i := 1) sc_blocks.nd rfl (Or.inl rfl) (Or.inr rfl)) (fun _ _ _ _ _ => pts_nil)
      (fun _ _ _ _ _ => pe_tup (pa_cons pe_str (pa_cons (pv 1) pa_nil)))) pa_nil))), ?_⟩
    refine ⟨_, rfl, _, rfl, a, its, xs, rfl, SqT.of ha, hN, hg, hs, hR, fun p1 H1 s1 hp1 => ?_⟩
    refine ⟨p1, cods its, rfl, SqT.of hp1, by omega, by omega, fun p2 H2 s2 hp2 => ?_⟩
    have s12 := s1.trans s2
    refine ⟨a, p2, xs, _, rfl, s12 _ _ ha, hp2, fun e he => ?_, ?_, by omega, fun g H3 rs s3 ng hg3 hP => ?_⟩
    · have := startsL_lt (cs := cods its) (by omega) e he
      omega
    · have h1 := List.length_filter_le (st (cods its)) (List.range' 2 ((cods its).length - 3))
      rw [List.length_range'] at h1
      omega
    have hP : Pts H3 rs (slices xs (startsL (cods its))) := hP
    have s13 := s12.trans s3
    refine ⟨g, rfl, ⟨_, SqL.of hg3⟩, fun D hD => ?_⟩
    have hD0 : H D = none := s13.free hD
    have rel : Paired (fun q ys => NVs H q ys) (parts its) (slices xs (startsL (cods its))) := by
      have h1 := slices_rel hN (startsL (cods its))
      rw [slices_starts its (by omega) (by omega)] at h1
      exact h1
    have lrs : rs.length = (slices xs (startsL (cods its))).length := Paired.length hP
    have lpt : (parts its).length = (slices xs (startsL (cods its))).length := Paired.length rel
    refine lc_list (K := K) (a := g) (xs := rs.map V.ref) (fun i H' => ∃ ys : List V, Same H3 H' ∧ H' D = some (.lst ys) ∧ NVs H' (blks ((parts its).take i)) ys)
      ⟨[], same_new hD, upd_same, .nil⟩ (fun i H' _ ⟨_, s4, _⟩ => s4.seq (SqL.of hg3)) ?_ ?_
    · rintro i x H4 hi ⟨ys, s4, hd, hY⟩
      rw [List.getElem?_map] at hi
      cases er : rs[i]? with
      | none =>
        rw [er] at hi
        cases hi
      | some r =>
        rw [er] at hi
        have hi : V.ref r = x := Option.some.inj hi
        subst hi
        obtain ⟨zs, ez, hz⟩ := paired_get hP er
        have lt : i < (parts its).length := by
          have := (List.getElem?_eq_some_iff.mp ez).1
          omega
        have ep : (parts its)[i]? = some (parts its)[i] := List.getElem?_eq_getElem lt
        obtain ⟨zs', ez', hN'⟩ := paired_get rel ep
        have ezz : zs = zs' := Option.some.inj (ez.symm.trans ez')
        subst ezz
        refine ⟨rfl, ?_⟩
        refine ⟨_, rfl, by show 2 ≤ sizeLine; rw [sizeLine_eq]; decide, fun b nb => ?_⟩
        have nDb : D ≠ b := ne_of_none hd nb
        have hd5 : upd H4 b (.tup [.str "block", .ref r]) D = some (.lst ys) := by rw [upd_ne nDb]; exact hd
        have t1 : Tm H4 (upd H4 b (.tup [.str "block", .ref r])) := (Tm.refl _).new nb
        have t2 : Tm (upd H4 b (.tup [.str "block", .ref r])) (upd (upd H4 b (.tup [.str "block", .ref r])) D (.lst (ys ++ [.ref b]))) := Tm.lst (Tm.refl _) hd5
        have lys := hY.length
        unfold blks at lys
        rw [List.length_map, List.length_take] at lys
        have lps := flat_len_le its
        refine ⟨ys, hd5, lt_line (by omega), ys ++ [.ref b], (s4.new nb).put hD, upd_same, ?_⟩
        have e1 : blks ((parts its).take (i + 1)) = blks ((parts its).take i) ++ [.blk (parts its)[i]] := by
          rw [List.take_add_one, ep]
          unfold blks
          rw [List.map_append]
          rfl
        rw [e1]
        refine NVs.snoc (.blk (t2 _ _ upd_same) (t2 _ _ (t1 _ _ (s4 _ _ hz))) ?_) (NVs.tm (t1.trans t2) hY)
        exact NVs.tm (((s13.tm.trans s4.tm).trans t1).trans t2) hN'
    · rintro H4 ⟨ys, s4, hd, hY⟩
      rw [List.length_map, lrs, ← lpt, List.take_length] at hY
      refine ⟨D, ys, rfl, .inl ⟨SqL.of hd, fun p np => ?_⟩⟩
      exact q p _ ys ((s13.trans s4).new np) upd_same (NVs.tm (same_new np).tm hY)
where
  flat_len_le (its : List Nd) : (parts its).length ≤ its.length := by
    have h : ∀ ps : List (List Nd), (∀ q ∈ ps, q ≠ []) → ps.length ≤ ps.flatten.length := fun ps => by
      induction ps with
      | nil => intro _; exact Nat.le_refl _
      | cons q qs ih =>
        intro h
        have h1 := h q (List.mem_cons_self ..)
        have h2 := ih fun x hx => h x (List.mem_cons_of_mem _ hx)
        rw [List.flatten_cons, List.length_append, List.length_cons]
        cases q with
        | nil => exact absurd rfl h1
        | cons => rw [List.length_cons]; omega
    have h1 := h (parts its) fun q hq => segs_mem 0 _ q hq
    rw [parts_flat] at h1
    exact h1
end
end K33
/-! K33T1: a node table: the nodes that it knows, in order; their keys; the heap's side. -/
namespace K33
open PySem PySem.Spec PyProof.Rows L2
/-! ### places in a list of nodes -/
/-- the number of a node -/
noncomputable def idx (T : List Nd) (n : Nd) : Nat := T.idxOf n
theorem idx_lt {T : List Nd} {n : Nd} (h : n ∈ T) : idx T n < T.length := List.idxOf_lt_length_iff.mpr h
theorem idx_get {T : List Nd} {n : Nd} (h : n ∈ T) : T[idx T n]? = some n := by
  rw [List.getElem?_eq_getElem (idx_lt h)]
  exact congrArg some (List.getElem_idxOf (idx_lt h))
theorem idx_inj {T : List Nd} {n m : Nd} (hn : n ∈ T) (hm : m ∈ T) (h : idx T n = idx T m) : n = m := by
  have e := idx_get hn
  rw [h, idx_get hm] at e
  exact (Option.some.inj e).symm
theorem idx_app {T R : List Nd} {n : Nd} (h : n ∈ T) : idx (T ++ R) n = idx T n := by
  unfold idx
  rw [List.idxOf_append, if_pos h]
theorem idx_new {T : List Nd} {n : Nd} (h : n ∉ T) : idx (T ++ [n]) n = T.length := by
  unfold idx
  rw [List.idxOf_append, if_neg h]
  simp
theorem idx_of_get {T : List Nd} (nd : T.Nodup) {i : Nat} {n : Nd} (h : T[i]? = some n) : idx T n = i := by
  have hi := (List.getElem?_eq_some_iff.mp h).1
  have m : n ∈ T := List.mem_of_getElem? h
  have e := idx_get m
  exact (List.getElem?_inj (idx_lt m) nd).mp (e.trans h.symm)
/-- T' has all of T, in its places -/
def Ext (T T' : List Nd) : Prop := ∃ R, T' = T ++ R
theorem Ext.refl (T : List Nd) : Ext T T := ⟨[], (List.append_nil T).symm⟩
theorem Ext.trans {A B C : List Nd} (h : Ext A B) (k : Ext B C) : Ext A C := by
  obtain ⟨R, rfl⟩ := h
  obtain ⟨S, rfl⟩ := k
  exact ⟨R ++ S, List.append_assoc ..⟩
theorem Ext.mem {A B : List Nd} (h : Ext A B) {n : Nd} (m : n ∈ A) : n ∈ B := by
  obtain ⟨R, rfl⟩ := h
  exact List.mem_append_left _ m
theorem Ext.idx {A B : List Nd} (h : Ext A B) {n : Nd} (m : n ∈ A) : idx B n = K33.idx A n := by
  obtain ⟨R, rfl⟩ := h
  exact idx_app m
/-- the table behind number_of -/
noncomputable def addN (T : List Nd) (n : Nd) : List Nd := if n ∈ T then T else T ++ [n]
theorem addN_in {T : List Nd} {n : Nd} (h : n ∈ T) : addN T n = T := if_pos h
theorem addN_new {T : List Nd} {n : Nd} (h : n ∉ T) : addN T n = T ++ [n] := if_neg h
theorem addN_ext (T : List Nd) (n : Nd) : Ext T (addN T n) := by
  by_cases h : n ∈ T
  · rw [addN_in h]
    exact Ext.refl T
  · rw [addN_new h]
    exact ⟨[n], rfl⟩
theorem addN_mem (T : List Nd) (n : Nd) : n ∈ addN T n := by
  by_cases h : n ∈ T
  · rw [addN_in h]
    exact h
  · rw [addN_new h]
    exact List.mem_append_right _ (List.mem_singleton.mpr rfl)
theorem addN_len (T : List Nd) (n : Nd) : (addN T n).length ≤ T.length + 1 := by
  by_cases h : n ∈ T
  · rw [addN_in h]
    omega
  · rw [addN_new h, List.length_append, List.length_singleton]
    omega
/-- the numbers of nodes, as values -/
noncomputable def nums (T : List Nd) (row : List Nd) : List V := row.map fun n => V.int (idx T n : Int)
theorem nums_length (T row : List Nd) : (nums T row).length = row.length := by
  unfold nums
  rw [List.length_map]
theorem nums_ext {A B : List Nd} (h : Ext A B) {row : List Nd} (hr : ∀ n ∈ row, n ∈ A) : nums B row = nums A row := by
  unfold nums
  exact List.map_congr_left fun n hn => by rw [h.idx (hr n hn)]
theorem nums_at {T row : List Nd} {i : Nat} {n : Nd} (h : row[i]? = some n) : (nums T row)[i]? = some (.int (idx T n : Int)) := by
  unfold nums
  rw [List.getElem?_map, h]
  rfl
theorem nums_snoc (T row : List Nd) (n : Nd) : nums T (row ++ [n]) = nums T row ++ [.int (idx T n : Int)] := by
  unfold nums
  rw [List.map_append]
  rfl
/-! ### keys -/
/-- a node's children -/
def kids : Nd → List Nd
  | .run c _ => [c]
  | .blk cs => cs
  | _ => []
def keyE : Nd → NestedKey
  | .int i => .num i
  | .str s => .text s
  | .pair a b => .tup [keyE a, keyE b]
  | _ => .none
noncomputable def keyOf (T : List Nd) : Nd → NestedKey
  | .run c t => .tup [.text "run", .num (idx T c : Int), .num (t : Int)]
  | .blk cs => .tup [.text "block", .tup (cs.map fun c => .num (idx T c : Int))]
  | .int i => .tup [.text "leaf", keyE (.int i)]
  | .str s => .tup [.text "leaf", keyE (.str s)]
  | .pair a b => .tup [.text "leaf", keyE (.pair a b)]
theorem keyOf_leaf (T : List Nd) : ∀ {e : Nd}, El e → keyOf T e = .tup [.text "leaf", keyE e]
  | .int _, _ => rfl
  | .str _, _ => rfl
  | .pair _ _, _ => rfl
  | .run _ _, h => h.elim
  | .blk _, h => h.elim
theorem keyOf_ext {A B : List Nd} (h : Ext A B) {n : Nd} (hk : ∀ c ∈ kids n, c ∈ A) : keyOf B n = keyOf A n := by
  cases n with
  | run c t =>
    show NestedKey.tup [.text "run", .num (idx B c : Int), .num (t : Int)] = _
    rw [h.idx (hk c (List.mem_singleton.mpr rfl))]
    rfl
  | blk cs =>
    show NestedKey.tup [.text "block", .tup (cs.map fun c => .num (idx B c : Int))] = NestedKey.tup [.text "block", .tup (cs.map fun c => .num (idx A c : Int))]
    have e : (cs.map fun c => NestedKey.num (idx B c : Int)) = cs.map fun c => NestedKey.num (idx A c : Int) := List.map_congr_left fun c hc => by rw [h.idx (hk c hc)]
    rw [e]
  | int i => rfl
  | str s => rfl
  | pair a b => rfl
theorem keyE_inj : ∀ {a b : Nd}, El a → El b → keyE a = keyE b → a = b := by
  have sc : ∀ {a b : Nd}, Sc a → Sc b → keyE a = keyE b → a = b := by
    intro a b ha hb h
    cases a with
    | int i =>
      cases b with
      | int j =>
        have h : NestedKey.num i = .num j := h
        injection h with h
        rw [h]
      | str s => cases h
      | pair x y => exact hb.elim
      | run c t => exact hb.elim
      | blk cs => exact hb.elim
    | str s =>
      cases b with
      | int j => cases h
      | str t =>
        have h : NestedKey.text s = .text t := h
        injection h with h
        rw [h]
      | pair x y => exact hb.elim
      | run c t => exact hb.elim
      | blk cs => exact hb.elim
    | pair x y => exact ha.elim
    | run c t => exact ha.elim
    | blk cs => exact ha.elim
  intro a b ha hb h
  cases a with
  | int i =>
    cases b with
    | int j => exact sc (a := .int i) (b := .int j) ha hb h
    | str s => cases h
    | pair x y => cases h
    | run c t => exact hb.elim
    | blk cs => exact hb.elim
  | str s =>
    cases b with
    | int j => cases h
    | str t => exact sc (a := .str s) (b := .str t) ha hb h
    | pair x y => cases h
    | run c t => exact hb.elim
    | blk cs => exact hb.elim
  | pair x y =>
    cases b with
    | int j => cases h
    | str t => cases h
    | pair u v =>
      have h : NestedKey.tup [keyE x, keyE y] = .tup [keyE u, keyE v] := h
      injection h with h
      injection h with h1 h2
      injection h2 with h2 _
      rw [sc ha.1 hb.1 h1, sc ha.2 hb.2 h2]
    | run c t => exact hb.elim
    | blk cs => exact hb.elim
  | run c t => exact ha.elim
  | blk cs => exact ha.elim
theorem good_cases {n : Nd} (g : Good n) : El n ∨ (∃ c t, n = .run c t) ∨ ∃ cs, n = .blk cs := by
  cases n with
  | int i => exact .inl g
  | str s => exact .inl g
  | pair a b => exact .inl g
  | run c t => exact .inr (.inl ⟨c, t, rfl⟩)
  | blk cs => exact .inr (.inr ⟨cs, rfl⟩)
theorem w_lr : ¬ (("leaf" : Str) = "run") := by decide +kernel
theorem w_lb : ¬ (("leaf" : Str) = "block") := by decide +kernel
theorem w_rb : ¬ (("run" : Str) = "block") := by decide +kernel
theorem map_idx_inj {T : List Nd} : ∀ {a b : List Nd}, (∀ c ∈ a, c ∈ T) → (∀ c ∈ b, c ∈ T) → (a.map fun c => NestedKey.num (idx T c : Int)) = (b.map fun c => NestedKey.num (idx T c : Int)) → a = b
  | [], [], _, _, _ => rfl
  | [], _ :: _, _, _, h => by cases h
  | _ :: _, [], _, _, h => by cases h
  | x :: a, y :: b, ha, hb, h => by
    rw [List.map_cons, List.map_cons] at h
    injection h with h1 h2
    injection h1 with h1
    rw [idx_inj (ha x (List.mem_cons_self ..)) (hb y (List.mem_cons_self ..)) (by omega), map_idx_inj (fun c hc => ha c (List.mem_cons_of_mem _ hc)) (fun c hc => hb c (List.mem_cons_of_mem _ hc)) h2]
/-- two nodes whose children are known have different keys -/
theorem keyOf_inj {T : List Nd} {n m : Nd} (gn : Good n) (gm : Good m) (kn : ∀ c ∈ kids n, c ∈ T) (km : ∀ c ∈ kids m, c ∈ T) (h : keyOf T n = keyOf T m) : n = m := by
  rcases good_cases gn with hn | ⟨c, t, rfl⟩ | ⟨cs, rfl⟩
  · rcases good_cases gm with hm | ⟨d, u, rfl⟩ | ⟨ds, rfl⟩
    · rw [keyOf_leaf T hn, keyOf_leaf T hm] at h
      injection h with h
      injection h with _ h
      injection h with h _
      exact keyE_inj hn hm h
    · rw [keyOf_leaf T hn] at h
      have h : NestedKey.tup [.text "leaf", keyE n] = .tup [.text "run", .num (idx T d : Int), .num (u : Int)] := h
      injection h with h
      injection h with h _
      injection h with h
      exact absurd h w_lr
    · rw [keyOf_leaf T hn] at h
      have h : NestedKey.tup [.text "leaf", keyE n] = .tup [.text "block", .tup (ds.map fun c => .num (idx T c : Int))] := h
      injection h with h
      injection h with h _
      injection h with h
      exact absurd h w_lb
  · rcases good_cases gm with hm | ⟨d, u, rfl⟩ | ⟨ds, rfl⟩
    · rw [keyOf_leaf T hm] at h
      have h : NestedKey.tup [.text "run", .num (idx T c : Int), .num (t : Int)] = .tup [.text "leaf", keyE m] := h
      injection h with h
      injection h with h _
      injection h with h
      exact absurd h.symm w_lr
    · have h : NestedKey.tup [.text "run", .num (idx T c : Int), .num (t : Int)] = .tup [.text "run", .num (idx T d : Int), .num (u : Int)] := h
      injection h with h
      injection h with _ h
      injection h with h1 h
      injection h with h2 _
      injection h1 with h1
      injection h2 with h2
      rw [idx_inj (kn c (List.mem_singleton.mpr rfl)) (km d (List.mem_singleton.mpr rfl)) (by omega), show t = u by omega]
    · have h : NestedKey.tup [.text "run", .num (idx T c : Int), .num (t : Int)] = .tup [.text "block", .tup (ds.map fun c => .num (idx T c : Int))] := h
      injection h with h
      injection h with h _
      injection h with h
      exact absurd h w_rb
  · rcases good_cases gm with hm | ⟨d, u, rfl⟩ | ⟨ds, rfl⟩
    · rw [keyOf_leaf T hm] at h
      have h : NestedKey.tup [.text "block", .tup (cs.map fun c => .num (idx T c : Int))] = .tup [.text "leaf", keyE m] := h
      injection h with h
      injection h with h _
      injection h with h
      exact absurd h.symm w_lb
    · have h : NestedKey.tup [.text "block", .tup (cs.map fun c => .num (idx T c : Int))] = .tup [.text "run", .num (idx T d : Int), .num (u : Int)] := h
      injection h with h
      injection h with h _
      injection h with h
      exact absurd h.symm w_rb
    · have h : NestedKey.tup [.text "block", .tup (cs.map fun c => .num (idx T c : Int))] = .tup [.text "block", .tup (ds.map fun c => .num (idx T c : Int))] := h
      injection h with h
      injection h with _ h
      injection h with h _
      injection h with h
      have e : cs = ds := map_idx_inj kn km h
      rw [e]
theorem depth_nums (T : List Nd) : ∀ cs : List Nd, NestedKey.depthAll (cs.map fun c => .num (idx T c : Int)) = 0
  | [] => by simp [NestedKey.depthAll]
  | c :: cs => by
    rw [List.map_cons, NestedKey.depthAll, depth_nums T cs, NestedKey.depth]
    rfl
theorem keyOf_depth (T : List Nd) {n : Nd} (g : Good n) : (keyOf T n).depth ≤ 8 := by
  have sc : ∀ x : Nd, Sc x → (keyE x).depth = 0 := fun x hx => by
    cases x with
    | int i => simp [keyE, NestedKey.depth]
    | str s => simp [keyE, NestedKey.depth]
    | pair a b => exact hx.elim
    | run c t => exact hx.elim
    | blk cs => exact hx.elim
  cases n with
  | int i => simp [keyOf, keyE, NestedKey.depth, NestedKey.depthAll]
  | str s => simp [keyOf, keyE, NestedKey.depth, NestedKey.depthAll]
  | pair a b => simp [keyOf, keyE, NestedKey.depth, NestedKey.depthAll, sc a g.1, sc b g.2]
  | run c t => simp [keyOf, NestedKey.depth, NestedKey.depthAll]
  | blk cs =>
    show (NestedKey.tup [.text "block", .tup (cs.map fun c => .num (idx T c : Int))]).depth ≤ 8
    simp only [NestedKey.depth, NestedKey.depthAll]
    rw [depth_nums]
    omega
/-! ### entries in the heap -/
/-- at b stands the entry of the node n -/
def EntAt (H : Hp) (T : List Nd) : Nd → Addr → Prop
  | .run c t, b => H b = some (.tup [.str "run", .int (idx T c : Int), .int (t : Int)])
  | .blk cs, b => ∃ q, H b = some (.tup [.str "block", .ref q]) ∧ H q = some (.tup (nums T cs))
  | e, b => ∃ v, H b = some (.tup [.str "leaf", v]) ∧ EV H e v
theorem EntAt.leaf {H : Hp} {T : List Nd} {e : Nd} {b : Addr} {v : V} (he : El e) (h : H b = some (.tup [.str "leaf", v])) (hv : EV H e v) : EntAt H T e b := by
  cases e with
  | int i => exact ⟨v, h, hv⟩
  | str s => exact ⟨v, h, hv⟩
  | pair x y => exact ⟨v, h, hv⟩
  | run c t => exact he.elim
  | blk cs => exact he.elim
theorem EntAt.leaf_of {H : Hp} {T : List Nd} {e : Nd} {b : Addr} (he : El e) (h : EntAt H T e b) : ∃ v, H b = some (.tup [.str "leaf", v]) ∧ EV H e v := by
  cases e with
  | int i => exact h
  | str s => exact h
  | pair x y => exact h
  | run c t => exact he.elim
  | blk cs => exact he.elim
theorem EntAt.tm {H H' : Hp} (t : Tm H H') {T : List Nd} {n : Nd} {b : Addr} (h : EntAt H T n b) : EntAt H' T n b := by
  cases n with
  | run c k => exact t _ _ h
  | blk cs =>
    obtain ⟨q, h1, h2⟩ := h
    exact ⟨q, t _ _ h1, t _ _ h2⟩
  | int i =>
    obtain ⟨v, h1, h2⟩ := h
    exact ⟨v, t _ _ h1, EV.tm t h2⟩
  | str s =>
    obtain ⟨v, h1, h2⟩ := h
    exact ⟨v, t _ _ h1, EV.tm t h2⟩
  | pair x y =>
    obtain ⟨v, h1, h2⟩ := h
    exact ⟨v, t _ _ h1, EV.tm t h2⟩
theorem keys_nums {H : Hp} (T : List Nd) : ∀ cs : List Nd, KeyVs H (cs.map fun c => .num (idx T c : Int)) (nums T cs)
  | [] => .nil
  | c :: cs => .cons (.num _) (keys_nums T cs)
theorem keyE_at {H : Hp} {e : Nd} {v : V} (he : El e) (hv : EV H e v) : KeyV H (keyE e) v := by
  have sc : ∀ {x : Nd}, Sc x → KeyV H (keyE x) (scV x) := fun {x} hx => by
    cases x with
    | int i => exact .num i
    | str s => exact .text s
    | pair a b => exact hx.elim
    | run c t => exact hx.elim
    | blk cs => exact hx.elim
  cases e with
  | int i =>
    rw [show v = V.int i from hv]
    exact .num i
  | str s =>
    rw [show v = V.str s from hv]
    exact .text s
  | pair a b =>
    obtain ⟨p, rfl, hp⟩ := hv
    exact .tup hp (.cons (sc he.1) (.cons (sc he.2) .nil))
  | run c t => exact he.elim
  | blk cs => exact he.elim
theorem EntAt.key {H : Hp} {T : List Nd} {n : Nd} {b : Addr} (g : Good n) (h : EntAt H T n b) : KeyV H (keyOf T n) (.ref b) := by
  rcases good_cases g with hn | ⟨c, t, rfl⟩ | ⟨cs, rfl⟩
  · obtain ⟨v, h1, h2⟩ := h.leaf_of hn
    rw [keyOf_leaf T hn]
    exact .tup h1 (.cons (.text _) (.cons (keyE_at hn h2) .nil))
  · exact .tup h (.cons (.text _) (.cons (.num _) (.cons (.num _) .nil)))
  · obtain ⟨q, h1, h2⟩ := h
    exact .tup h1 (.cons (.text _) (.cons (.tup h2 (keys_nums T cs)) .nil))
end K33
/-! K33T2: a node table in the heap; its methods __init__, measure. -/
namespace K33
open PySem PySem.Spec PyProof.Rows L2
/-! ### the table's fields -/
theorem f_en : ¬ (("entries" : Str) = "numbers") := by decide +kernel
theorem f_cn : ¬ (("codes" : Str) = "numbers") := by decide +kernel
theorem f_sn : ¬ (("sizes" : Str) = "numbers") := by decide +kernel
theorem f_ce : ¬ (("codes" : Str) = "entries") := by decide +kernel
theorem f_se : ¬ (("sizes" : Str) = "entries") := by decide +kernel
theorem f_sc : ¬ (("sizes" : Str) = "codes") := by decide +kernel
def tf (d l1 l2 l3 : Addr) : List (Str × V) := putF "sizes" (.ref l3) (putF "codes" (.ref l2) (putF "entries" (.ref l1) (putF "numbers" (.ref d) [])))
theorem tf_numbers (d l1 l2 l3 : Addr) : (tf d l1 l2 l3).lookup ("numbers" : Str) = some (.ref d) := by
  unfold tf
  rw [lookup_putF, if_neg (fun e => f_sn e.symm), lookup_putF, if_neg (fun e => f_cn e.symm), lookup_putF, if_neg (fun e => f_en e.symm), lookup_putF, if_pos rfl]
theorem tf_entries (d l1 l2 l3 : Addr) : (tf d l1 l2 l3).lookup ("entries" : Str) = some (.ref l1) := by
  unfold tf
  rw [lookup_putF, if_neg (fun e => f_se e.symm), lookup_putF, if_neg (fun e => f_ce e.symm), lookup_putF, if_pos rfl]
theorem tf_codes (d l1 l2 l3 : Addr) : (tf d l1 l2 l3).lookup ("codes" : Str) = some (.ref l2) := by
  unfold tf
  rw [lookup_putF, if_neg (fun e => f_sc e.symm), lookup_putF, if_pos rfl]
theorem tf_sizes (d l1 l2 l3 : Addr) : (tf d l1 l2 l3).lookup ("sizes" : Str) = some (.ref l3) := by
  unfold tf
  rw [lookup_putF, if_pos rfl]
theorem tf_no (d l1 l2 l3 : Addr) {m : Str} (h1 : ¬ m = "sizes") (h2 : ¬ m = "codes") (h3 : ¬ m = "entries") (h4 : ¬ m = "numbers") : (tf d l1 l2 l3).lookup m = none := by
  unfold tf
  rw [lookup_putF, if_neg h1, lookup_putF, if_neg h2, lookup_putF, if_neg h3, lookup_putF, if_neg h4]
  rfl
theorem tf_number_of (d l1 l2 l3 : Addr) : (tf d l1 l2 l3).lookup ("number_of" : Str) = none := tf_no _ _ _ _ (by decide +kernel) (by decide +kernel) (by decide +kernel) (by decide +kernel)
theorem tf_measure (d l1 l2 l3 : Addr) : (tf d l1 l2 l3).lookup ("measure" : Str) = none := tf_no _ _ _ _ (by decide +kernel) (by decide +kernel) (by decide +kernel) (by decide +kernel)
theorem tf_item_number (d l1 l2 l3 : Addr) : (tf d l1 l2 l3).lookup ("item_number" : Str) = none := tf_no _ _ _ _ (by decide +kernel) (by decide +kernel) (by decide +kernel) (by decide +kernel)
/-! ### the table in the heap -/
structure TA where
  t : Addr
  dx : Addr
  d : Addr
  l1 : Addr
  l2 : Addr
  l3 : Addr
abbrev TA.f (τ : TA) : List (Str × V) := tf τ.d τ.l1 τ.l2 τ.l3
def sizesV (T : List Nd) : List V := T.map fun n => V.int (size n : Int)
theorem sizesV_at {T : List Nd} {i : Nat} {n : Nd} (h : T[i]? = some n) : (sizesV T)[i]? = some (.int (size n : Int)) := by
  unfold sizesV
  rw [List.getElem?_map, h]
  rfl
/-- at τ stands a table that knows the nodes T -/
structure TabAt (P : Program) (w : World) (C : Addr) (H : Hp) (τ : TA) (T : List Nd) : Prop where
  ins : H τ.t = some (.ins C τ.dx τ.f)
  dct : ∃ ks, H τ.d = some (NDo P w τ.d ks) ∧ ks.map (·.1) = T.map (keyOf T) ∧ Keys H ks
  ent : ∃ es, H τ.l1 = some (.lst es) ∧ es.length = T.length
  cod : ∃ as : List Addr, H τ.l2 = some (.lst (as.map V.ref)) ∧ Tups H as (cods T)
  siz : H τ.l3 = some (.lst (sizesV T))
  d12 : τ.l1 ≠ τ.l2
  d13 : τ.l1 ≠ τ.l3
  d23 : τ.l2 ≠ τ.l3
  nd : T.Nodup
  good : ∀ n ∈ T, Good n
  kin : ∀ n ∈ T, ∀ c ∈ kids n, c ∈ T
  small : ∀ n ∈ T, size n ≤ 2000
/-- all but the table's own dict and lists is as it was -/
def Keep (τ : TA) (H H' : Hp) : Prop := ∀ b o, H b = some o → b ≠ τ.d → b ≠ τ.l1 → b ≠ τ.l2 → b ≠ τ.l3 → H' b = some o
/-- an address that is none of the table's -/
structure Off (τ : TA) (D : Addr) : Prop where
  t : D ≠ τ.t
  d : D ≠ τ.d
  l1 : D ≠ τ.l1
  l2 : D ≠ τ.l2
  l3 : D ≠ τ.l3
theorem Keep.refl (τ : TA) (H : Hp) : Keep τ H H := fun _ _ e _ _ _ _ => e
theorem Keep.trans {τ : TA} {H H1 H2 : Hp} (a : Keep τ H H1) (b : Keep τ H1 H2) : Keep τ H H2 := fun c o e h1 h2 h3 h4 => b c o (a c o e h1 h2 h3 h4) h1 h2 h3 h4
theorem _root_.L2.Same.keep {H H' : Hp} (s : Same H H') (τ : TA) : Keep τ H H' := fun b o e _ _ _ _ => s b o e
theorem Keep.put {τ : TA} {H0 H : Hp} {p : Addr} {o : HO} (k : Keep τ H0 H) (h : H0 p = none) : Keep τ H0 (upd H p o) := fun b x e h1 h2 h3 h4 => by
  rw [upd_ne (ne_of_none e h)]
  exact k b x e h1 h2 h3 h4
theorem Keep.new {τ : TA} {H0 H : Hp} {p : Addr} {o : HO} (k : Keep τ H0 H) (h : H p = none) : Keep τ H0 (upd H p o) := fun b x e h1 h2 h3 h4 => by
  have e1 := k b x e h1 h2 h3 h4
  rw [upd_ne (ne_of_none e1 h)]
  exact e1
section
variable {P : Program} {w : World} {C : Addr} {H H' H0 : Hp} {τ : TA} {T T' : List Nd}
theorem TabAt.off (h : TabAt P w C H τ T) {D : Addr} (n : H D = none) : Off τ D := by
  obtain ⟨ks, hd, _⟩ := h.dct
  obtain ⟨es, h1, _⟩ := h.ent
  obtain ⟨as, h2, _⟩ := h.cod
  exact ⟨(ne_of_none h.ins n).symm, (ne_of_none hd n).symm, (ne_of_none h1 n).symm, (ne_of_none h2 n).symm, (ne_of_none h.siz n).symm⟩
theorem Keep.tm (k : Keep τ H H') (h : TabAt P w C H τ T) : Tm H H' := fun b xs e => by
  obtain ⟨ks, hd, _⟩ := h.dct
  obtain ⟨es, h1, _⟩ := h.ent
  obtain ⟨as, h2, _⟩ := h.cod
  exact k b _ e (ne_of e hd (by intro z; cases z)) (ne_of e h1 (by intro z; cases z)) (ne_of e h2 (by intro z; cases z)) (ne_of e h.siz (by intro z; cases z))
theorem Keep.free (k : Keep τ H0 H) (h : TabAt P w C H τ T) {p : Addr} (n : H p = none) : H0 p = none := by
  obtain o := h.off n
  cases e : H0 p with
  | none => rfl
  | some u =>
    rw [k p u e o.d o.l1 o.l2 o.l3] at n
    cases n
/-- what does not touch the table's own objects -/
theorem TabAt.stay (h : TabAt P w C H τ T) (tm : Tm H H') (e0 : H' τ.t = H τ.t) (e1 : H' τ.d = H τ.d) (e2 : H' τ.l1 = H τ.l1) (e3 : H' τ.l2 = H τ.l2) (e4 : H' τ.l3 = H τ.l3) : TabAt P w C H' τ T := by
  obtain ⟨ks, hd, hk, hK⟩ := h.dct
  obtain ⟨es, h1, hl⟩ := h.ent
  obtain ⟨as, h2, ht⟩ := h.cod
  exact ⟨e0.trans h.ins, ⟨ks, e1.trans hd, hk, hK.tm tm⟩, ⟨es, e2.trans h1, hl⟩, ⟨as, e3.trans h2, ht.tm tm⟩, e4.trans h.siz, h.d12, h.d13, h.d23, h.nd, h.good, h.kin, h.small⟩
theorem TabAt.same (h : TabAt P w C H τ T) (s : Same H H') : TabAt P w C H' τ T := by
  obtain ⟨ks, hd, hk, hK⟩ := h.dct
  obtain ⟨es, h1, hl⟩ := h.ent
  obtain ⟨as, h2, ht⟩ := h.cod
  exact ⟨s _ _ h.ins, ⟨ks, s _ _ hd, hk, hK.tm s.tm⟩, ⟨es, s _ _ h1, hl⟩, ⟨as, s _ _ h2, ht.tm s.tm⟩, s _ _ h.siz, h.d12, h.d13, h.d23, h.nd, h.good, h.kin, h.small⟩
theorem TabAt.other (h : TabAt P w C H τ T) {D : Addr} {o : HO} (f : Off τ D) (tm : Tm H (upd H D o)) : TabAt P w C (upd H D o) τ T :=
  h.stay tm (upd_ne f.t.symm) (upd_ne f.d.symm) (upd_ne f.l1.symm) (upd_ne f.l2.symm) (upd_ne f.l3.symm)
theorem TabAt.ents (h : TabAt P w C H τ T) (hl : T.length ≤ 1000000) {n : Nd} (g : Good n) (k : ∀ c ∈ kids n, c ∈ T) : keyOf T n ∈ T.map (keyOf T) ↔ n ∈ T := by
  constructor
  · intro m
    obtain ⟨x, hx, e⟩ := List.mem_map.mp m
    rw [keyOf_inj g (h.good x hx) k (h.kin x hx) e.symm]
    exact hx
  · exact fun m => List.mem_map_of_mem m
end
section
variable {P : Program} {w : World} {K : PySem.W.Frag} {mg : Str → Option Value} {base : Heap}
/-! ### __init__ -/
def spTInit (P : Program) (w : World) (C : Addr) : Sp := fun vs H Q _ => ∃ (t dx : Addr), vs = [.ref t] ∧ H t = some (.ins C dx []) ∧
  ∀ (H' : Hp) (τ : TA), (∀ b o, H b = some o → b ≠ t → H' b = some o) → τ.t = t → TabAt P w C H' τ [] → H τ.d = none → H τ.l1 = none → H τ.l2 = none → H τ.l3 = none → Q .non H'
theorem sc_tinit : FnScope ["self"] ["self"] (defScope m_init) := ⟨rfl, rfl, rfl, by decide +kernel, rfl, by decide +kernel, by decide +kernel⟩
theorem ok_tinit {C f : Addr} {fd : FuncData} (T : Tx K mg C) (F : FunD K "__init__" "NodeTable.__init__" (defArgs m_init) (defBody m_init) (defScope m_init) [] [] f fd) : FnOk P w K mg base CX0 1 f fd ["self"] (spTInit P w C) := by
  refine okD F sc_tinit (fun vs H Q E h => ?_) (fun cdv A outer s H vs Q E hr h => ?_)
  · obtain ⟨t, dx, rfl, _⟩ := h
    rfl
  · obtain ⟨t, dx, rfl, ht, q⟩ := h
    refine ⟨_, pss_cons (ps_fld (pv 0) pe_ndnew rfl) (pss_cons (ps_fld (pv 0) (pe_lst pa_nil) rfl) (pss_cons (ps_fld (pv 0) (pe_lst pa_nil) rfl) (pss_one (ps_fld (pv 0) (pe_lst pa_nil) rfl)))), ?_⟩
    intro d nd
    have ntd : t ≠ d := ne_of_none ht nd
    refine ⟨_, rfl, t, C, dx, _, rfl, (by rw [upd_ne ntd]; exact ht), T.cl, T.na_numbers, by show 0 < 1000; decide, ?_⟩
    refine ⟨Nat.zero_le _, fun l1 n1 => ?_⟩
    have nt1 : t ≠ l1 := ne_of_none upd_same n1
    refine ⟨_, rfl, t, C, dx, _, rfl, (by rw [upd_ne nt1, upd_same]), T.cl, T.na_entries, by show 1 < 1000; decide, ?_⟩
    refine ⟨Nat.zero_le _, fun l2 n2 => ?_⟩
    have nt2 : t ≠ l2 := ne_of_none upd_same n2
    have e2 : putF ("entries" : Str) (V.ref l1) (putF "numbers" (.ref d) []) = ([("numbers", V.ref d), ("entries", V.ref l1)] : List (Str × V)) := by
      show (if ("numbers" : Str) = "entries" then _ else (("numbers" : Str), V.ref d) :: putF "entries" (V.ref l1) []) = _
      rw [if_neg (fun e => f_en e.symm)]
      rfl
    refine ⟨_, rfl, t, C, dx, _, rfl, (by rw [upd_ne nt2, upd_same]), T.cl, T.na_codes, by rw [e2]; show 2 < 1000; decide, ?_⟩
    refine ⟨Nat.zero_le _, fun l3 n3 => ?_⟩
    have nt3 : t ≠ l3 := ne_of_none upd_same n3
    have e3 : (putF ("codes" : Str) (V.ref l2) (putF ("entries" : Str) (V.ref l1) (putF "numbers" (.ref d) []))).length < 1000 := by
      rw [e2]
      show (if ("numbers" : Str) = "codes" then _ else (("numbers" : Str), V.ref d) :: (if ("entries" : Str) = "codes" then _ else (("entries" : Str), V.ref l1) :: putF "codes" (V.ref l2) [])).length < 1000
      rw [if_neg (fun e => f_cn e.symm), if_neg (fun e => f_ce e.symm)]
      show 3 < 1000
      decide
    refine ⟨_, rfl, t, C, dx, _, rfl, (by rw [upd_ne nt3, upd_same]), T.cl, T.na_sizes, e3, ?_⟩
    -- which addresses differ, and what stands where
    have nd1 : d ≠ l1 := fun e => by
      rw [← e, upd_ne ntd.symm, upd_same] at n1
      cases n1
    have nd2 : d ≠ l2 := fun e => by
      rw [← e, upd_ne ntd.symm, upd_ne nd1, upd_ne ntd.symm, upd_same] at n2
      cases n2
    have nd3 : d ≠ l3 := fun e => by
      rw [← e, upd_ne ntd.symm, upd_ne nd2, upd_ne ntd.symm, upd_ne nd1, upd_ne ntd.symm, upd_same] at n3
      cases n3
    have n12 : l1 ≠ l2 := fun e => by
      rw [← e, upd_ne nt1.symm, upd_same] at n2
      cases n2
    have n13 : l1 ≠ l3 := fun e => by
      rw [← e, upd_ne nt1.symm, upd_ne n12, upd_ne nt1.symm, upd_same] at n3
      cases n3
    have n23 : l2 ≠ l3 := fun e => by
      rw [← e, upd_ne nt2.symm, upd_same] at n3
      cases n3
    have h1 : H l1 = none := by
      rw [upd_ne nt1.symm, upd_ne nd1.symm] at n1
      exact n1
    have h2 : H l2 = none := by
      rw [upd_ne nt2.symm, upd_ne n12.symm, upd_ne nt2.symm, upd_ne nd2.symm] at n2
      exact n2
    have h3 : H l3 = none := by
      rw [upd_ne nt3.symm, upd_ne n23.symm, upd_ne nt3.symm, upd_ne n13.symm, upd_ne nt3.symm, upd_ne nd3.symm] at n3
      exact n3
    refine q _ ⟨t, dx, d, l1, l2, l3⟩ (fun b o e hb => ?_) rfl ⟨upd_same, ⟨[], ?_, rfl, ⟨List.nodup_nil, fun _ h => by cases h⟩⟩, ⟨[], ?_, rfl⟩, ⟨[], ?_, .nil⟩, ?_, n12, n13, n23, List.nodup_nil, (fun _ h => by cases h), (fun _ h => by cases h), (fun _ h => by cases h)⟩ nd h1 h2 h3
    · rw [upd_ne hb, upd_ne (ne_of_none e h3), upd_ne hb, upd_ne (ne_of_none e h2), upd_ne hb, upd_ne (ne_of_none e h1), upd_ne hb, upd_ne (ne_of_none e nd)]
      exact e
    · show upd _ _ _ d = _
      rw [upd_ne ntd.symm, upd_ne nd3, upd_ne ntd.symm, upd_ne nd2, upd_ne ntd.symm, upd_ne nd1, upd_ne ntd.symm, upd_same]
      rfl
    · show upd _ _ _ l1 = _
      rw [upd_ne nt1.symm, upd_ne n13, upd_ne nt1.symm, upd_ne n12, upd_ne nt1.symm, upd_same]
    · show upd _ _ _ l2 = _
      rw [upd_ne nt2.symm, upd_ne n23, upd_ne nt2.symm, upd_same]
      rfl
    · show upd _ _ _ l3 = _
      rw [upd_ne nt3.symm, upd_same]
      rfl
/-! ### measure -/
def spMeasure (C : Addr) : Sp := fun vs H Q _ => ∃ (τ : TA) (T : List Nd) (n : Nd) (b : Addr) (as : List Addr), vs = [.ref τ.t, .ref b] ∧ H τ.t = some (.ins C τ.dx τ.f) ∧ H τ.l2 = some (.lst (as.map V.ref)) ∧ Tups H as (cods T) ∧ H τ.l3 = some (.lst (sizesV T)) ∧ τ.l2 ≠ τ.l3 ∧
  EntAt H T n b ∧ Good n ∧ size n ≤ 2000 ∧ (∀ c ∈ kids n, c ∈ T) ∧ (∀ m ∈ T, Good m ∧ size m ≤ 2000) ∧ T.length ≤ 500000 ∧
  ∀ (H' : Hp) (a : Addr), (∀ b o, H b = some o → b ≠ τ.l2 → b ≠ τ.l3 → H' b = some o) → H' τ.l2 = some (.lst ((as ++ [a]).map V.ref)) → H' a = some (.tup (nI (code n))) → H' τ.l3 = some (.lst (sizesV (T ++ [n]))) → Q .non H'
theorem sc_measure : FnScope ["self", "entry", "child"] ["self", "entry"] (defScope m_measure) := ⟨rfl, rfl, rfl, by decide +kernel, rfl, by decide +kernel, by decide +kernel⟩
theorem lt_code {n : Nd} (g : Good n) (h : size n ≤ 2000) : (code n).length ≤ 500000 := by
  have := code_len n g
  omega
end
end K33
/-! K33T3: measure, number_of, item_number. -/
namespace K33
open PySem PySem.Spec PyProof.Rows L2
theorem sizesV_snoc (T : List Nd) (n : Nd) : sizesV (T ++ [n]) = sizesV T ++ [.int (size n : Int)] := by
  unfold sizesV
  rw [List.map_append]
  rfl
theorem sizesV_length (T : List Nd) : (sizesV T).length = T.length := by
  unfold sizesV
  rw [List.length_map]
theorem sum_sizes : ∀ cs : List Nd, (cs.map fun c => (size c : Int)).sum = (sizeL cs : Int)
  | [] => rfl
  | c :: cs => by
    rw [List.map_cons, List.sum_cons, sum_sizes cs]
    show (size c : Int) + (sizeL cs : Int) = ((size c + sizeL cs : Nat) : Int)
    omega
theorem sizesV_ints (cs : List Nd) : sizesV cs = (cs.map fun c => (size c : Int)).map V.int := by
  unfold sizesV
  rw [List.map_map]
  rfl
section
variable {P : Program} {w : World} {K : PySem.W.Frag} {mg : Str → Option Value} {base : Heap}
theorem ok_measure {C : Addr} (T : Tx K mg C) : CalM P w K mg base C "measure" 4 ["self", "entry"] (spMeasure C) := by
  obtain ⟨fC, fdC, GC, mC, kC, bC⟩ := (ok_code (P := P) (w := w) (base := base) T).ex
  obtain ⟨fR, fdR, GR, mR, kR, bR⟩ := (ok_run_code (P := P) (w := w) (base := base) T).ex
  obtain ⟨fB, fdB, GB, mB, kB, bB⟩ := (ok_block_code (P := P) (w := w) (base := base) T).ex
  refine T.dm_measure.cal (fun _ _ _ _ _ _ us hl => match us, hl with | [_, _], _ => rfl) fun f fd F => ?_
  refine okD F sc_measure (fun vs H Q E h => ?_) (fun cdv A outer s H vs Q E hr h => ?_)
  · obtain ⟨τ, T', n, b, as, rfl, _⟩ := h
    rfl
  · obtain ⟨τ, T', n, b, as, rfl, hi, h2, ht, h3, n23, hE, hg, hs, hk, hT, hl, q⟩ := h
    have hr2 : Room 2 _ := hr.mono (by decide)
    have hr1 : Room 1 _ := hr.mono (by decide)
    have la : as.length = T'.length := by
      have := Paired.length ht
      rw [cods_length] at this
      exact this
    have codeAtI : ∀ c, c ∈ T' → ∃ a, as[idx T' c]? = some a ∧ H a = some (.tup (nI (code c))) := fun c hc => by
      have e := idx_get hc
      have lt := idx_lt hc
      obtain ⟨a, ea⟩ : ∃ a, as[idx T' c]? = some a := ⟨_, List.getElem?_eq_getElem (by rw [la]; exact lt)⟩
      obtain ⟨d, ed, hd⟩ := paired_get ht ea
      unfold cods at ed
      rw [List.getElem?_map, e] at ed
      have ed : code c = d := Option.some.inj ed
      rw [ed]
      exact ⟨a, ea, hd⟩
    refine ⟨_, pss_one (ps_if (pt_cmpR op_eq (pe_ix ix_tup (pv 1) pe_int (fun _ _ => rfl)) pe_str (nomark _))
        (pss_cons (ps_expr (pe_bm PySem.F.plainAttrs_list PySem.F.slot_list_append PySem.F.type_list_append mt_append (pe_fld (pv 0) rfl) (pa_cons (pe_call GC hr rfl mC kC bC .nil pass0 (pa_cons (pe_ix ix_tup (pv 1) pe_int (fun _ _ => rfl)) pa_nil)) pa_nil)))
          (pss_one (ps_expr (pe_bm PySem.F.plainAttrs_list PySem.F.slot_list_append PySem.F.type_list_append mt_append (pe_fld (pv 0) rfl) (pa_cons pe_int pa_nil)))))
        (pss_one (ps_if (pt_cmpR op_eq (pe_ix ix_tup (pv 1) pe_int (fun _ _ => rfl)) pe_str (nomark _))
          (pss_cons (ps_expr (pe_bm PySem.F.plainAttrs_list PySem.F.slot_list_append PySem.F.type_list_append mt_append (pe_fld (pv 0) rfl) (pa_cons (pe_call GR hr2 rfl mR kR bR .nil pass0 (pa_cons (pe_ix ix_tup (pv 1) pe_int (fun _ _ => rfl))
              (pa_cons (pe_ix ix_list (pe_fld (pv 0) rfl) (pe_ix ix_tup (pv 1) pe_int (fun _ _ => rfl)) (fun _ _ => rfl)) pa_nil))) pa_nil)))
            (pss_one (ps_expr (pe_bm PySem.F.plainAttrs_list PySem.F.slot_list_append PySem.F.type_list_append mt_append (pe_fld (pv 0) rfl) (pa_cons (pe_op op_mul (pe_ix ix_list (pe_fld (pv 0) rfl) (pe_ix ix_tup (pv 1) pe_int (fun _ _ => rfl)) (fun _ _ => rfl)) (pe_ix ix_tup (pv 1) pe_int (fun _ _ => rfl))) pa_nil)))))
          (pss_cons (ps_expr (pe_bm PySem.F.plainAttrs_list PySem.F.slot_list_append PySem.F.type_list_append mt_append (pe_fld (pv 0) rfl) (pa_cons (pe_call GB hr1 rfl mB kB bB .nil pass0 (pa_cons
              (pe_lc (own := [("child", 2)]) (g := gName 2) (te := tOp (rIxL K) (tFld K (tVar 0) "codes") (tVar 2)) rfl sc_measure.nd (pi_tup (pe_ix ix_tup (pv 1) pe_int (fun _ _ => rfl))) (blkOk_by (own := [("child", 2)]) (N := ["self", "entry", "child"]) (sc := defScope m_measure) (by decide +kernel))
                (fun _ _ _ _ _ => pg_name (i := 2) sc_measure.nd rfl (Or.inl rfl) (Or.inr rfl)) (fun _ _ _ _ _ => pts_nil) (fun _ _ _ _ _ => pe_ix ix_list (pe_fld (pv 0) rfl) (pv 2) (fun _ _ => rfl))) pa_nil)) pa_nil)))
            (pss_one (ps_expr (pe_bm PySem.F.plainAttrs_list PySem.F.slot_list_append PySem.F.type_list_append mt_append (pe_fld (pv 0) rfl) (pa_cons (pe_callB (cr_sum rfl) (by rfl) T.n_sum b_sum (pa_cons
              (pe_lc (own := [("child", 2)]) (g := gName 2) (te := tOp (rIxL K) (tFld K (tVar 0) "sizes") (tVar 2)) rfl sc_measure.nd (pi_tup (pe_ix ix_tup (pv 1) pe_int (fun _ _ => rfl))) (blkOk_by (own := [("child", 2)]) (N := ["self", "entry", "child"]) (sc := defScope m_measure) (by decide +kernel))
                (fun _ _ _ _ _ => pg_name (i := 2) sc_measure.nd rfl (Or.inl rfl) (Or.inr rfl)) (fun _ _ _ _ _ => pts_nil) (fun _ _ _ _ _ => pe_ix ix_list (pe_fld (pv 0) rfl) (pv 2) (fun _ _ => rfl))) pa_nil)) pa_nil)))))))), ?_⟩
    -- the end: the code at a, then the size
    have fin : ∀ (H1 : Hp) (a : Addr), Same H H1 → H1 a = some (.tup (nI (code n))) → ∀ H2 : Hp, (∀ b o, upd H1 τ.l2 (.lst ((as ++ [a]).map V.ref)) b = some o → H2 b = some o) → Q .non (upd H2 τ.l3 (.lst (sizesV T' ++ [.int (size n : Int)]))) := by
      intro H1 a s1 ha H2 s2
      have na2 : a ≠ τ.l2 := ne_of ha (s1 _ _ h2) (by intro z; cases z)
      have na3 : a ≠ τ.l3 := ne_of ha (s1 _ _ h3) (by intro z; cases z)
      refine q _ a (fun x o e hx2 hx3 => ?_) ?_ ?_ ?_
      · rw [upd_ne hx3]
        exact s2 _ _ (by rw [upd_ne hx2]; exact s1 _ _ e)
      · rw [upd_ne n23]
        exact s2 _ _ upd_same
      · rw [upd_ne na3]
        exact s2 _ _ (by rw [upd_ne na2]; exact ha)
      · rw [upd_same, sizesV_snoc]
    have nt2 : τ.t ≠ τ.l2 := ne_of hi h2 (by intro z; cases z)
    have lt2 : (as.map V.ref).length < sizeLine := lt_line (by rw [List.length_map]; omega)
    have lt3 : (sizesV T').length < sizeLine := lt_line (by rw [sizesV_length]; omega)
    rcases good_cases hg with hn | ⟨c, t, rfl⟩ | ⟨cs, rfl⟩
    · obtain ⟨v, hb, hv⟩ := hE.leaf_of hn
      refine ⟨_, rfl, b, _, _, _, rfl, rfl, SqT.of hb, atI_nat (j := 0) rfl, rfl, _, rfl, iteP rfl ?_⟩
      refine ⟨_, rfl, τ.t, C, τ.dx, _, _, rfl, hi, T.cl, T.na_codes, tf_codes _ _ _ _, .inl ⟨rfl, _, SqL.of h2⟩, ?_⟩
      refine ⟨_, rfl, b, _, _, _, rfl, rfl, SqT.of hb, atI_nat (j := 1) rfl, n, v, rfl, hn, hv, fun a H1 s1 ha => ?_⟩
      refine ⟨τ.l2, _, _, rfl, rfl, s1 _ _ h2, lt2, ?_⟩
      have e3 : upd H1 τ.l2 (.lst (as.map V.ref ++ [.ref a])) τ.l3 = some (.lst (sizesV T')) := by rw [upd_ne n23.symm]; exact s1 _ _ h3
      refine ⟨_, rfl, τ.t, C, τ.dx, _, _, rfl, (by rw [upd_ne nt2]; exact s1 _ _ hi), T.cl, T.na_sizes, tf_sizes _ _ _ _, .inl ⟨rfl, _, SqL.of e3⟩, ?_⟩
      refine ⟨τ.l3, _, _, rfl, rfl, e3, lt3, ?_⟩
      have es : size n = 1 := hn.size
      have := fin H1 a s1 ha _ fun _ _ e => e
      rw [es, ← refs_snoc] at this
      exact this
    · have hb : H b = some (.tup [.str "run", .int (idx T' c : Int), .int (t : Int)]) := hE
      have mc : c ∈ T' := hk c (List.mem_singleton.mpr rfl)
      obtain ⟨ac, eac, hac⟩ := codeAtI c mc
      have gc := hT c mc
      refine ⟨_, rfl, b, _, _, _, rfl, rfl, SqT.of hb, atI_nat (j := 0) rfl, rfl, _, rfl, iteN (by decide) ?_⟩
      refine ⟨_, rfl, b, _, _, _, rfl, rfl, SqT.of hb, atI_nat (j := 0) rfl, rfl, _, rfl, iteP rfl ?_⟩
      refine ⟨_, rfl, τ.t, C, τ.dx, _, _, rfl, hi, T.cl, T.na_codes, tf_codes _ _ _ _, .inl ⟨rfl, _, SqL.of h2⟩, ?_⟩
      refine ⟨_, rfl, b, _, _, _, rfl, rfl, SqT.of hb, atI_nat (j := 2) rfl, ?_⟩
      refine ⟨_, rfl, τ.t, C, τ.dx, _, _, rfl, hi, T.cl, T.na_codes, tf_codes _ _ _ _, _, rfl, b, _, _, _, rfl, rfl, SqT.of hb, atI_nat (j := 1) rfl, τ.l2, _, _, _, rfl, rfl, SqL.of h2, atI_nat (j := idx T' c) (by rw [List.getElem?_map, eac]; rfl), ?_⟩
      refine ⟨t, ac, code c, rfl, hac, lt_code gc.1 gc.2, fun a H1 s1 ha => ?_⟩
      refine ⟨τ.l2, _, _, rfl, rfl, s1 _ _ h2, lt2, ?_⟩
      have e3 : upd H1 τ.l2 (.lst (as.map V.ref ++ [.ref a])) τ.l3 = some (.lst (sizesV T')) := by rw [upd_ne n23.symm]; exact s1 _ _ h3
      have eb : upd H1 τ.l2 (.lst (as.map V.ref ++ [.ref a])) b = some (.tup [.str "run", .int (idx T' c : Int), .int (t : Int)]) := by
        rw [upd_ne (ne_of hb h2 (by intro z; cases z))]
        exact s1 _ _ hb
      have ei : upd H1 τ.l2 (.lst (as.map V.ref ++ [.ref a])) τ.t = some (.ins C τ.dx τ.f) := by rw [upd_ne nt2]; exact s1 _ _ hi
      refine ⟨_, rfl, τ.t, C, τ.dx, _, _, rfl, ei, T.cl, T.na_sizes, tf_sizes _ _ _ _, .inl ⟨rfl, _, SqL.of e3⟩, ?_⟩
      refine ⟨_, rfl, τ.t, C, τ.dx, _, _, rfl, ei, T.cl, T.na_sizes, tf_sizes _ _ _ _, _, rfl, b, _, _, _, rfl, rfl, SqT.of eb, atI_nat (j := 1) rfl, τ.l3, _, _, _, rfl, rfl, SqL.of e3, atI_nat (j := idx T' c) (sizesV_at (idx_get mc)), ?_⟩
      refine ⟨_, rfl, b, _, _, _, rfl, rfl, SqT.of eb, atI_nat (j := 2) rfl, _, _, rfl, rfl, .inl ⟨by omega, by omega⟩, ?_⟩
      refine ⟨τ.l3, _, _, rfl, rfl, e3, lt3, ?_⟩
      have ha2 : H1 a = some (.tup (nI (code (.run c t)))) := by rw [ha, code_run]
      have := fin H1 a s1 ha2 _ fun _ _ e => e
      rw [size_run, Nat.mul_comm, Int.natCast_mul, ← refs_snoc] at this
      exact this
    · obtain ⟨bq, hb, hq⟩ := hE
      rw [Good] at hg
      have hcl := codeL_len cs hg.1
      have hsl : sizeL cs ≤ 2000 := by
        rw [size_blk] at hs
        exact hs
      refine ⟨_, rfl, b, _, _, _, rfl, rfl, SqT.of hb, atI_nat (j := 0) rfl, rfl, _, rfl, iteN (by decide) ?_⟩
      refine ⟨_, rfl, b, _, _, _, rfl, rfl, SqT.of hb, atI_nat (j := 0) rfl, rfl, _, rfl, iteN (by decide) ?_⟩
      refine ⟨_, rfl, τ.t, C, τ.dx, _, _, rfl, hi, T.cl, T.na_codes, tf_codes _ _ _ _, .inl ⟨rfl, _, SqL.of h2⟩, ?_⟩
      refine ⟨_, rfl, b, _, _, _, rfl, rfl, SqT.of hb, atI_nat (j := 1) rfl, bq, rfl, ⟨_, SqT.of hq⟩, fun D hD => ?_⟩
      refine lc_tup (K := K) (a := bq) (xs := nums T' cs) (fun i H' => ∃ ds : List Addr, Same H H' ∧ H' D = some (.lst (ds.map V.ref)) ∧ Tups H' ds ((cs.take i).map code))
        ⟨[], same_new hD, upd_same, .nil⟩ (fun i H' _ ⟨_, s1, _⟩ => SqT.of (s1 _ _ hq)) ?_ ?_
      · rintro i x H1 hi' ⟨ds, s1, hd1, ht1⟩
        cases ec : cs[i]? with
        | none =>
          unfold nums at hi'
          rw [List.getElem?_map, ec] at hi'
          cases hi'
        | some c =>
          rw [nums_at ec] at hi'
          have hi' : V.int (idx T' c : Int) = x := Option.some.inj hi'
          subst hi'
          have mc : c ∈ T' := hk c (List.mem_of_getElem? ec)
          obtain ⟨ac, eac, hac⟩ := codeAtI c mc
          refine ⟨rfl, ?_⟩
          refine ⟨_, rfl, τ.t, C, τ.dx, _, _, rfl, s1 _ _ hi, T.cl, T.na_codes, tf_codes _ _ _ _, _, rfl, τ.l2, _, _, _, rfl, rfl, SqL.of (s1 _ _ h2), atI_nat (j := idx T' c) (by rw [List.getElem?_map, eac]; rfl), ?_⟩
          have lds : ds.length = i := by
            have h1 := Paired.length ht1
            rw [List.length_map, List.length_take] at h1
            have := (List.getElem?_eq_some_iff.mp ec).1
            omega
          have t3 : Tm H1 (upd H1 D (.lst (ds.map V.ref ++ [.ref ac]))) := Tm.lst (Tm.refl _) hd1
          refine ⟨_, hd1, lt_line (by rw [List.length_map, lds]; have := (List.getElem?_eq_some_iff.mp ec).1; omega), ds ++ [ac], s1.put hD, ?_, ?_⟩
          · rw [upd_same, refs_snoc]
          · rw [List.take_add_one, ec, List.map_append]
            exact Tups.snoc (t3 _ _ (s1 _ _ hac)) (Tups.tm t3 ht1)
      · rintro H1 ⟨ds, s1, hd1, ht1⟩
        rw [nums_length, List.take_length] at ht1
        refine ⟨D, ds, cs.map code, rfl, SqL.of hd1, ht1, by rw [List.length_map]; omega, by rw [← codeL_eq]; omega, fun a H2 s2 ha => ?_⟩
        have s12 := s1.trans s2
        refine ⟨τ.l2, _, _, rfl, rfl, s12 _ _ h2, lt2, ?_⟩
        have e3 : upd H2 τ.l2 (.lst (as.map V.ref ++ [.ref a])) τ.l3 = some (.lst (sizesV T')) := by rw [upd_ne n23.symm]; exact s12 _ _ h3
        have eb : upd H2 τ.l2 (.lst (as.map V.ref ++ [.ref a])) b = some (.tup [.str "block", .ref bq]) := by
          rw [upd_ne (ne_of hb h2 (by intro z; cases z))]
          exact s12 _ _ hb
        have eq : upd H2 τ.l2 (.lst (as.map V.ref ++ [.ref a])) bq = some (.tup (nums T' cs)) := by
          rw [upd_ne (ne_of hq h2 (by intro z; cases z))]
          exact s12 _ _ hq
        have ei : upd H2 τ.l2 (.lst (as.map V.ref ++ [.ref a])) τ.t = some (.ins C τ.dx τ.f) := by rw [upd_ne nt2]; exact s12 _ _ hi
        refine ⟨_, rfl, τ.t, C, τ.dx, _, _, rfl, ei, T.cl, T.na_sizes, tf_sizes _ _ _ _, .inl ⟨rfl, _, SqL.of e3⟩, ?_⟩
        refine ⟨_, rfl, b, _, _, _, rfl, rfl, SqT.of eb, atI_nat (j := 1) rfl, bq, rfl, ⟨_, SqT.of eq⟩, fun D2 hD2 => ?_⟩
        refine lc_tup (K := K) (a := bq) (xs := nums T' cs) (fun i H' => Same (upd H2 τ.l2 (.lst (as.map V.ref ++ [.ref a]))) H' ∧ H' D2 = some (.lst (sizesV (cs.take i))))
          ⟨same_new hD2, upd_same⟩ (fun i H' _ ⟨s3, _⟩ => SqT.of (s3 _ _ eq)) ?_ ?_
        · rintro i x H3 hi' ⟨s3, hd3⟩
          cases ec : cs[i]? with
          | none =>
            unfold nums at hi'
            rw [List.getElem?_map, ec] at hi'
            cases hi'
          | some c =>
            rw [nums_at ec] at hi'
            have hi' : V.int (idx T' c : Int) = x := Option.some.inj hi'
            subst hi'
            have mc : c ∈ T' := hk c (List.mem_of_getElem? ec)
            refine ⟨rfl, ?_⟩
            refine ⟨_, rfl, τ.t, C, τ.dx, _, _, rfl, s3 _ _ ei, T.cl, T.na_sizes, tf_sizes _ _ _ _, _, rfl, τ.l3, _, _, _, rfl, rfl, SqL.of (s3 _ _ e3), atI_nat (j := idx T' c) (sizesV_at (idx_get mc)), ?_⟩
            refine ⟨_, hd3, lt_line (by rw [sizesV_length, List.length_take]; omega), s3.put hD2, ?_⟩
            rw [upd_same, List.take_add_one, ec]
            show _ = some (HO.lst (sizesV (cs.take i ++ [c])))
            rw [sizesV_snoc]
        · rintro H3 ⟨s3, hd3⟩
          rw [nums_length, List.take_length, sizesV_ints] at hd3
          refine ⟨D2, _, rfl, SqL.of hd3, ?_⟩
          refine ⟨τ.l3, _, _, rfl, rfl, s3 _ _ e3, lt3, ?_⟩
          have ha2 : H2 a = some (.tup (nI (code (.blk cs)))) := by rw [ha, code_blk, codeL_eq, List.length_map]
          have := fin H2 a s12 ha2 H3 fun x o e => s3 x o (by rw [refs_snoc]; exact e)
          rw [size_blk, ← sum_sizes] at this
          exact this
/-! ### number_of -/
def spNumber (P : Program) (w : World) (C : Addr) : Sp := fun vs H Q _ => ∃ (τ : TA) (T : List Nd) (n : Nd) (b : Addr), vs = [.ref τ.t, .ref b] ∧ TabAt P w C H τ T ∧ EntAt H T n b ∧ Good n ∧ size n ≤ 2000 ∧ (∀ c ∈ kids n, c ∈ T) ∧ T.length ≤ 400000 ∧
  ∀ (H' : Hp), Keep τ H H' → TabAt P w C H' τ (addN T n) → Q (.int (idx (addN T n) n : Int)) H'
theorem sc_number : FnScope ["self", "entry", "number"] ["self", "entry"] (defScope m_number_of) := ⟨rfl, rfl, rfl, by decide +kernel, rfl, by decide +kernel, by decide +kernel⟩
theorem ok_number {C : Addr} (T : Tx K mg C) : CalM P w K mg base C "number_of" 5 ["self", "entry"] (spNumber P w C) := by
  obtain ⟨fM, fdM, GM, mM, bM⟩ := (ok_measure (P := P) (w := w) (base := base) T).ex
  refine T.dm_number_of.cal (fun _ _ _ _ _ _ us hl => match us, hl with | [_, _], _ => rfl) fun f fd F => ?_
  refine okD F sc_number (fun vs H Q E h => ?_) (fun cdv A outer s H vs Q E hr h => ?_)
  · obtain ⟨τ, T', n, b, rfl, _⟩ := h
    rfl
  · obtain ⟨τ, T', n, b, rfl, hT, hE, hg, hs, hk, hl, q⟩ := h
    have hu : (A.deeper (envOfC "NodeTable.number_of" (defScope m_number_of) s.heap.objs.size f cdv)).units + 16 < cLine := by
      have := hr.un
      omega
    refine ⟨_, pss_cons (ps_set (i := 2) sc_number.nd rfl (Or.inl rfl) (pe_nget hu (pe_fld (pv 0) rfl) (pv 1) ⟨rfl, rfl, rfl, rfl⟩))
      (pss_cons (ps_if (pt_cmpR op_isN (pv 2) pe_non (nomark _))
        (pss_cons (ps_set (i := 2) sc_number.nd rfl (Or.inl rfl) (pe_callB call_len_seq (by rfl) T.n_len b_len (pa_cons (pe_fld (pv 0) rfl) pa_nil)))
        (pss_cons (ps_nput hu (pe_fld (pv 0) rfl) (pv 1) (pv 2) rfl)
        (pss_cons (ps_expr (pe_bm PySem.F.plainAttrs_list PySem.F.slot_list_append PySem.F.type_list_append mt_append (pe_fld (pv 0) rfl) (pa_cons (pv 1) pa_nil)))
        (pss_one (ps_expr (pe_meth (pv 0) T.cl mM GM hr bM .nil pass0 (pa_cons (pv 1) pa_nil)))))))
        pss_nil)
      (pss_one (ps_ret (pv 2)))), ?_⟩
    obtain ⟨ks, hd, hkk, hK⟩ := hT.dct
    obtain ⟨es, h1, hel⟩ := hT.ent
    obtain ⟨as, h2, ht⟩ := hT.cod
    have lk : ks.length = T'.length := by
      have := congrArg List.length hkk
      rw [List.length_map, List.length_map] at this
      exact this
    have key := EntAt.key hg hE
    have dep8 := keyOf_depth T' hg
    refine ⟨_, rfl, τ.t, C, τ.dx, _, _, rfl, hT.ins, T.cl, T.na_numbers, tf_numbers _ _ _ _, τ.d, ks, rfl, hd, ?_⟩
    refine ⟨_, rfl, b, keyOf T' n, rfl, hd, hK, key, dep8, fun i b' hi => ?_, fun hn => ?_⟩
    · -- it is known
      have e0 : (ks.map (·.1))[i]? = some (keyOf T' n) := by rw [List.getElem?_map, hi]; rfl
      rw [hkk, List.getElem?_map] at e0
      cases em : T'[i]? with
      | none =>
        rw [em] at e0
        cases e0
      | some m =>
        rw [em] at e0
        have e0 : keyOf T' m = keyOf T' n := Option.some.inj e0
        have mm : m ∈ T' := List.mem_of_getElem? em
        have emn : m = n := keyOf_inj (hT.good m mm) hg (hT.kin m mm) hk e0
        subst emn
        have ei : idx T' m = i := idx_of_get hT.nd em
        refine ⟨_, rfl, rfl, _, rfl, iteN (by intro z; cases z) ?_⟩
        refine ⟨_, rfl, ?_⟩
        have := q H (Keep.refl τ H) (by rw [addN_in mm]; exact hT)
        rw [addN_in mm, ei] at this
        exact this
    · -- it is new
      have nT : n ∉ T' := fun m => hn (by
        rw [hkk]
        exact List.mem_map_of_mem m)
      refine ⟨_, rfl, rfl, _, rfl, iteP rfl ?_⟩
      refine ⟨_, rfl, τ.t, C, τ.dx, _, _, rfl, hT.ins, T.cl, T.na_entries, tf_entries _ _ _ _, τ.l1, _, rfl, .inl (SqL.of h1), ?_⟩
      rw [hel]
      refine ⟨_, rfl, _, rfl, τ.t, C, τ.dx, _, _, rfl, hT.ins, T.cl, T.na_numbers, tf_numbers _ _ _ _, _, rfl, τ.d, ks, b, keyOf T' n, rfl, rfl, by rw [lk], hd, hK, key, dep8, hn, by omega, ?_⟩
      -- the addresses
      have n_t_d : τ.t ≠ τ.d := ne_of hT.ins hd (by intro z; cases z)
      have n_t_1 : τ.t ≠ τ.l1 := ne_of hT.ins h1 (by intro z; cases z)
      have n_1_d : τ.l1 ≠ τ.d := ne_of h1 hd (by intro z; cases z)
      have n_2_d : τ.l2 ≠ τ.d := ne_of h2 hd (by intro z; cases z)
      have n_3_d : τ.l3 ≠ τ.d := ne_of hT.siz hd (by intro z; cases z)
      have t1 : Tm H (upd H τ.d (NDo P w τ.d (ks ++ [(keyOf T' n, b)]))) := fun x xs e => by
        rw [upd_ne (ne_of e hd (by intro z; cases z))]
        exact e
      have e1 : upd H τ.d (NDo P w τ.d (ks ++ [(keyOf T' n, b)])) τ.l1 = some (.lst es) := by rw [upd_ne n_1_d]; exact h1
      refine ⟨_, rfl, τ.t, C, τ.dx, _, _, rfl, (by rw [upd_ne n_t_d]; exact hT.ins), T.cl, T.na_entries, tf_entries _ _ _ _, .inl ⟨rfl, _, SqL.of e1⟩, _, rfl, τ.l1, _, _, rfl, rfl, e1, lt_line (by omega), ?_⟩
      have t2 : Tm (upd H τ.d (NDo P w τ.d (ks ++ [(keyOf T' n, b)]))) (upd (upd H τ.d (NDo P w τ.d (ks ++ [(keyOf T' n, b)]))) τ.l1 (.lst (es ++ [.ref b]))) := Tm.lst (Tm.refl _) e1
      have t12 := t1.trans t2
      have at2 : upd (upd H τ.d (NDo P w τ.d (ks ++ [(keyOf T' n, b)]))) τ.l1 (.lst (es ++ [.ref b])) τ.l2 = some (.lst (as.map V.ref)) := by rw [upd_ne hT.d12.symm, upd_ne n_2_d]; exact h2
      have at3 : upd (upd H τ.d (NDo P w τ.d (ks ++ [(keyOf T' n, b)]))) τ.l1 (.lst (es ++ [.ref b])) τ.l3 = some (.lst (sizesV T')) := by rw [upd_ne hT.d13.symm, upd_ne n_3_d]; exact hT.siz
      have att : upd (upd H τ.d (NDo P w τ.d (ks ++ [(keyOf T' n, b)]))) τ.l1 (.lst (es ++ [.ref b])) τ.t = some (.ins C τ.dx τ.f) := by rw [upd_ne n_t_1, upd_ne n_t_d]; exact hT.ins
      refine ⟨_, rfl, τ.t, τ.dx, _, rfl, att, tf_measure _ _ _ _, _, rfl, τ, T', n, b, as, rfl, att, at2, ht.tm t12, at3, hT.d23, hE.tm t12, hg, hs, hk, (fun m hm => ⟨hT.good m hm, hT.small m hm⟩), by omega, ?_⟩
      intro H' a hold h2' ha h3'
      have tm3 : Tm (upd (upd H τ.d (NDo P w τ.d (ks ++ [(keyOf T' n, b)]))) τ.l1 (.lst (es ++ [.ref b]))) H' := fun x xs e => hold x _ e (ne_of e at2 (by intro z; cases z)) (ne_of e at3 (by intro z; cases z))
      have tm : Tm H H' := t12.trans tm3
      have n_t_2 : τ.t ≠ τ.l2 := ne_of hT.ins h2 (by intro z; cases z)
      have n_t_3 : τ.t ≠ τ.l3 := ne_of hT.ins hT.siz (by intro z; cases z)
      refine ⟨_, rfl, ?_⟩
      have hex : Ext T' (T' ++ [n]) := ⟨[n], rfl⟩
      have keys : (T' ++ [n]).map (keyOf (T' ++ [n])) = T'.map (keyOf T') ++ [keyOf T' n] := by
        rw [List.map_append]
        have e1 : T'.map (keyOf (T' ++ [n])) = T'.map (keyOf T') := List.map_congr_left fun m hm => keyOf_ext hex (hT.kin m hm)
        rw [e1]
        show _ ++ [keyOf (T' ++ [n]) n] = _
        rw [keyOf_ext hex hk]
      have := q H' (fun x o e hxd hx1 hx2 hx3 => hold x o (by rw [upd_ne hx1, upd_ne hxd]; exact e) hx2 hx3) ?_
      · rw [addN_new nT, idx_new nT] at this
        exact this
      · rw [addN_new nT]
        refine ⟨hold _ _ att n_t_2 n_t_3, ⟨ks ++ [(keyOf T' n, b)], ?_, ?_, (hK.tm tm).snoc (KeyV.tm tm key) dep8 hn⟩, ⟨es ++ [.ref b], ?_, by rw [List.length_append, List.length_append, hel]; rfl⟩, ⟨as ++ [a], h2', ?_⟩, h3', hT.d12, hT.d13, hT.d23, ?_, ?_, ?_, ?_⟩
        · exact hold _ _ (by rw [upd_ne n_1_d.symm, upd_same]; rfl) n_2_d.symm n_3_d.symm
        · rw [keys, List.map_append, hkk]
          rfl
        · exact hold _ _ upd_same hT.d12 hT.d13
        · unfold cods
          rw [List.map_append]
          exact Tups.snoc ha (ht.tm tm)
        · exact List.nodup_append.mpr ⟨hT.nd, by simp, fun x hx y hy e => nT (by
            rw [List.mem_singleton] at hy
            rw [← hy, ← e]
            exact hx)⟩
        · intro m hm
          rcases List.mem_append.mp hm with hm | hm
          · exact hT.good m hm
          · rw [List.mem_singleton.mp hm]
            exact hg
        · intro m hm c hc
          rcases List.mem_append.mp hm with hm | hm
          · exact List.mem_append_left _ (hT.kin m hm c hc)
          · rw [List.mem_singleton.mp hm] at hc
            exact List.mem_append_left _ (hk c hc)
        · intro m hm
          rcases List.mem_append.mp hm with hm | hm
          · exact hT.small m hm
          · rw [List.mem_singleton.mp hm]
            exact hs
/-! ### item_number -/
def spItemNum (P : Program) (w : World) (C : Addr) : Sp := fun vs H Q _ => ∃ (τ : TA) (T : List Nd) (x : Nd) (k : Nat), vs = [.ref τ.t, .int (idx T x : Int), .int (k : Int)] ∧ TabAt P w C H τ T ∧ x ∈ T ∧ isRun x = false ∧ 1 ≤ k ∧ k ≤ 2000 ∧ k * size x ≤ 2000 ∧ T.length ≤ 400000 ∧
  ∀ (H' : Hp) (T' : List Nd), Keep τ H H' → TabAt P w C H' τ T' → Ext T T' → itemN (x, k) ∈ T' → T'.length ≤ T.length + 1 → Q (.int (idx T' (itemN (x, k)) : Int)) H'
theorem sc_item_num : FnScope ["self", "number", "times"] ["self", "number", "times"] (defScope m_item_number) := ⟨rfl, rfl, rfl, by decide +kernel, rfl, by decide +kernel, by decide +kernel⟩
theorem ok_item_num {C : Addr} (T : Tx K mg C) : CalM P w K mg base C "item_number" 6 ["self", "number", "times"] (spItemNum P w C) := by
  obtain ⟨fM, fdM, GM, mM, bM⟩ := (ok_number (P := P) (w := w) (base := base) T).ex
  refine T.dm_item_number.cal (fun _ _ _ _ _ _ us hl => match us, hl with | [_, _, _], _ => rfl) fun f fd F => ?_
  refine okD F sc_item_num (fun vs H Q E h => ?_) (fun cdv A outer s H vs Q E hr h => ?_)
  · obtain ⟨τ, T', x, k, rfl, _⟩ := h
    rfl
  · obtain ⟨τ, T', x, k, rfl, hT, hx, hr', hk1, hk2, hks, hl, q⟩ := h
    refine ⟨_, pss_cons (ps_if (pt_cmpR op_eq (pv 2) pe_int (nomark _)) (pss_one (ps_ret (pv 1))) pss_nil)
      (pss_one (ps_ret (pe_meth (pv 0) T.cl mM GM hr bM .nil pass0 (pa_cons (pe_tup (pa_cons pe_str (pa_cons (pv 1) (pa_cons (pv 2) pa_nil)))) pa_nil)))), ?_⟩
    refine ⟨_, rfl, rfl, _, rfl, ite2d (fun c => ?_) (fun c => ?_)⟩
    · have c : (V.int (k : Int)) = V.int 1 := c
      injection c with c
      have e : itemN (x, k) = x := by
        unfold itemN
        rw [if_pos (show k = 1 by omega)]
      have := q H T' (Keep.refl τ H) hT (Ext.refl T') (by rw [e]; exact hx) (by omega)
      rw [e] at this
      exact ⟨_, rfl, this⟩
    · have c : ¬ k = 1 := fun e => c (by rw [e]; rfl)
      have e : itemN (x, k) = .run x k := by
        unfold itemN
        rw [if_neg c]
      refine ⟨_, rfl, τ.t, τ.dx, _, rfl, hT.ins, tf_number_of _ _ _ _, _, rfl, _, rfl, by show 3 ≤ sizeLine; rw [sizeLine_eq]; decide, fun b nb => ?_⟩
      have gx := hT.good x hx
      refine ⟨τ, T', .run x k, b, rfl, hT.same (same_new nb), upd_same, ?_, ?_, ?_, hl, fun H' hk hT' => ?_⟩
      · rw [Good]
        exact ⟨gx, hr', by omega, hk2⟩
      · rw [size_run]
        exact hks
      · intro d hd
        have hd : d ∈ [x] := hd
        rw [List.mem_singleton.mp hd]
        exact hx
      · have := q H' (addN T' (.run x k)) (fun x' o e' h1 h2 h3 h4 => hk x' o (by rw [upd_ne (ne_of_none e' nb)]; exact e') h1 h2 h3 h4) hT' (addN_ext _ _) (by rw [e]; exact addN_mem _ _) (addN_len _ _)
        rw [e] at this
        exact this
end
end K33
/-! K33T4: leaf_row, item_row, color_row. -/
namespace K33
open PySem PySem.Spec PyProof.Rows L2
/-- the elements of contents with their values -/
abbrev EVs (H : Hp) (ns : List Nd) (vs : List V) : Prop := Paired (fun (n : Nd) (v : V) => EV H n v) ns vs
theorem EVs.tm {H H' : Hp} (t : Tm H H') : ∀ {ns : List Nd} {vs : List V}, EVs H ns vs → EVs H' ns vs
  | _, _, .nil => .nil
  | _, _, .cons h r => .cons (EV.tm t h) (EVs.tm t r)
theorem kids_el : ∀ {n : Nd}, El n → kids n = []
  | .int _, _ => rfl
  | .str _, _ => rfl
  | .pair _ _, _ => rfl
  | .run _ _, h => h.elim
  | .blk _, h => h.elim
theorem paired_get2 {α β : Type} {R : α → β → Prop} : ∀ {xs : List α} {ys : List β} {i : Nat} {y : β}, Paired R xs ys → ys[i]? = some y → ∃ x, xs[i]? = some x ∧ R x y
  | _, _, _, _, .nil, h => by simp at h
  | x :: _, _ :: _, 0, _, .cons a _, h => ⟨x, rfl, by rw [← Option.some.inj h]; exact a⟩
  | _, _, i + 1, _, .cons _ r, h => paired_get2 (i := i) r h
section
variable {P : Program} {w : World} {K : PySem.W.Frag} {mg : Str → Option Value} {base : Heap}
/-! ### leaf_row -/
def spLeafRow (P : Program) (w : World) (C : Addr) : Sp := fun vs H Q _ => ∃ (τ : TA) (T : List Nd) (a : Addr) (row : List Nd) (xs : List V), vs = [.ref τ.t, .ref a] ∧ TabAt P w C H τ T ∧ H a = some (.tup xs) ∧ EVs H row xs ∧ (∀ n ∈ row, El n) ∧ row.length ≤ 2000 ∧ T.length + row.length ≤ 400000 ∧
  ∀ (l : Addr) (H' : Hp) (T' : List Nd), Keep τ H H' → H l = none → H' l = some (.lst (nums T' row)) → TabAt P w C H' τ T' → Ext T T' → (∀ n ∈ row, n ∈ T') → T'.length ≤ T.length + row.length → Q (.ref l) H'
theorem sc_leaf_row : FnScope ["table", "contents", "element"] ["table", "contents"] (defScope s_leaf_row) := ⟨rfl, rfl, rfl, by decide +kernel, rfl, by decide +kernel, by decide +kernel⟩
theorem ok_leaf_row {C : Addr} (T : Tx K mg C) : Cal P w K mg base "leaf_row" 6 ["table", "contents"] (spLeafRow P w C) := by
  obtain ⟨fN, fdN, GN, mN, bN⟩ := (ok_number (P := P) (w := w) (base := base) T).ex
  refine T.d_leaf_row.cal (fun _ _ _ _ _ _ us hl => match us, hl with | [_, _], _ => rfl) fun f fd F _ _ _ => ?_
  refine okD F sc_leaf_row (fun vs H Q E h => ?_) (fun cdv A outer s H vs Q E hr h => ?_)
  · obtain ⟨τ, T', a, row, xs, rfl, _⟩ := h
    rfl
  · obtain ⟨τ, T', a, row, xs, rfl, hT, ha, hE, hel, hrl, hl, q⟩ := h
    refine ⟨_, pss_one (ps_ret (pe_lc (own := [("element", 2)]) (g := gName 2) rfl sc_leaf_row.nd (pi_tup (pv 1)) (blkOk_by (own := [("element", 2)]) (N := ["table", "contents", "element"]) (sc := defScope s_leaf_row) (by decide +kernel))
      (fun _ _ _ _ _ => pg_name (i := 2) sc_leaf_row.nd rfl (Or.inl rfl) (Or.inr rfl)) (fun _ _ _ _ _ => pts_nil)
      (fun _ _ _ _ _ => pe_meth (pv 0) T.cl mN GN hr bN .nil pass0 (pa_cons (pe_tup (pa_cons pe_str (pa_cons (pv 2) pa_nil))) pa_nil)))), ?_⟩
    refine ⟨_, rfl, a, rfl, ⟨_, SqT.of ha⟩, fun D hD => ?_⟩
    have off := hT.off hD
    have len := Paired.length hE
    refine lc_tup (K := K) (a := a) (xs := xs) (fun i H' => ∃ Ti, Keep τ H H' ∧ TabAt P w C H' τ Ti ∧ Ext T' Ti ∧ (∀ n ∈ row.take i, n ∈ Ti) ∧ Ti.length ≤ T'.length + i ∧ H' D = some (.lst (nums Ti (row.take i))))
      ⟨T', (Keep.refl τ H).new hD, hT.same (same_new hD), Ext.refl T', (fun n h => by cases h), Nat.le_refl _, upd_same⟩ (fun i H' _ ⟨Ti, k, _⟩ => SqT.of (k.tm hT _ _ ha)) ?_ ?_
    · rintro i x H1 hi ⟨Ti, k, hTi, hx, hm, hle, hd⟩
      obtain ⟨n, en, hv⟩ := paired_get2 hE hi
      have mn : n ∈ row := List.mem_of_getElem? en
      have hn := hel n mn
      have lt := (List.getElem?_eq_some_iff.mp en).1
      refine ⟨rfl, ?_⟩
      refine ⟨_, rfl, τ.t, τ.dx, _, rfl, hTi.ins, tf_number_of _ _ _ _, _, rfl, by show 2 ≤ sizeLine; rw [sizeLine_eq]; decide, fun b nb => ?_⟩
      refine ⟨τ, Ti, n, b, rfl, hTi.same (same_new nb), EntAt.leaf hn upd_same (EV.tm ((k.tm hT).trans (same_new nb).tm) hv), hn.good, by rw [hn.size]; decide, (by rw [kids_el hn]; intro c h; cases h), by omega, fun H2 hk hT2 => ?_⟩
      have nDb : D ≠ b := ne_of_none hd nb
      have hd2 : H2 D = some (.lst (nums Ti (row.take i))) := hk D _ (by rw [upd_ne nDb]; exact hd) off.d off.l1 off.l2 off.l3
      refine ⟨_, hd2, lt_line (by rw [nums_length, List.length_take]; omega), addN Ti n, ((k.new nb).trans hk).put hD, hT2.other off (Tm.lst (Tm.refl _) hd2), hx.trans (addN_ext _ _), ?_, ?_, ?_⟩
      · intro m hm'
        rw [List.take_add_one, en] at hm'
        rcases List.mem_append.mp hm' with h | h
        · exact (addN_ext _ _).mem (hm m h)
        · rw [List.mem_singleton.mp h]
          exact addN_mem _ _
      · have := addN_len Ti n
        omega
      · rw [upd_same, List.take_add_one, en]
        show _ = some (HO.lst (nums _ (row.take i ++ [n])))
        rw [nums_snoc, nums_ext (addN_ext _ _) hm]
    · rintro H1 ⟨Ti, k, hTi, hx, hm, hle, hd⟩
      rw [← len, List.take_length] at hd hm
      exact q D H1 Ti k hD hd hTi hx hm (by omega)
/-! ### item_row -/
def spItemRow (P : Program) (w : World) (K : PySem.W.Frag) (C : Addr) : Sp := fun vs H Q _ => ∃ (τ : TA) (T : List Nd) (a : Addr) (row : List Nd), vs = [.ref τ.t, .ref a] ∧ TabAt P w C H τ T ∧ H a = some (.lst (nums T row)) ∧ RowOk row ∧ row.length ≤ 2000 ∧ (∀ n ∈ row, n ∈ T) ∧ T.length + row.length ≤ 400000 ∧
  ∀ (p : Addr) (H' : Hp) (T' : List Nd), Keep τ H H' → H p = none → H' p = some (.tup (nums T' (items row))) → TabAt P w C H' τ T' → Ext T T' → (∀ n ∈ items row, n ∈ T') → T'.length ≤ T.length + row.length → Q (.ref p) H'
theorem sc_item_row : FnScope ["table", "row", "number", "times"] ["table", "row"] (defScope s_item_row) := ⟨rfl, rfl, rfl, by decide +kernel, rfl, by decide +kernel, by decide +kernel⟩
theorem items_map2 {row : List Nd} (g : Nd → V) : (grp Prod.fst (row.map fun n => (n, g n))).map itm = items row := by
  have e := grp_map (f := (Prod.fst : Nd × V → Nd)) (row.map fun n => (n, g n))
  rw [List.map_map] at e
  have e2 : row.map (Prod.fst ∘ fun n => (n, g n)) = row := List.map_id row
  rw [e2] at e
  rw [items_map, ← e, List.map_map]
  rfl
theorem ok_item_row {C : Addr} (T : Tx K mg C) : Cal P w K mg base "item_row" 7 ["table", "row"] (spItemRow P w K C) := by
  obtain ⟨fG, fdG, GG, mG, kG, bG⟩ := (ok_groups (P := P) (w := w) (base := base) T).ex
  obtain ⟨fN, fdN, GN, mN, bN⟩ := (ok_item_num (P := P) (w := w) (base := base) T).ex
  refine T.d_item_row.cal (fun _ _ _ _ _ _ us hl => match us, hl with | [_, _], _ => rfl) fun f fd F _ _ _ => ?_
  refine okD F sc_item_row (fun vs H Q E h => ?_) (fun cdv A outer s H vs Q E hr h => ?_)
  · obtain ⟨τ, T', a, row, rfl, _⟩ := h
    rfl
  · obtain ⟨τ, T', a, row, rfl, hT, ha, ok, hrl, hm, hl, q⟩ := h
    have hr1 : Room 1 _ := hr.mono (by decide)
    refine ⟨_, pss_one (ps_ret (pe_callTy call_tuple_of (by rfl) T.n_tuple b_tuple (pa_cons (pe_lc (own := [("number", 2), ("times", 3)]) (g := gTup K 2 (gCons (gName 2) (gCons (gName 3) gNil))) rfl sc_item_row.nd (pi_list (pe_call GG hr1 rfl mG kG bG .nil pass0 (pa_cons (pv 1) pa_nil)))
      (blkOk_by (own := [("number", 2), ("times", 3)]) (N := ["table", "row", "number", "times"]) (sc := defScope s_item_row) (by decide +kernel))
      (fun _ _ _ _ _ => pg_tup rfl (pgs_cons (pg_name (i := 2) sc_item_row.nd rfl (Or.inl rfl) (Or.inr rfl)) (pgs_cons (pg_name (i := 3) sc_item_row.nd rfl (Or.inl rfl) (Or.inr rfl)) pgs_nil))) (fun _ _ _ _ _ => pts_nil)
      (fun _ _ _ _ _ => pe_meth (pv 0) T.cl mN GN hr bN .nil pass0 (pa_cons (pv 2) (pa_cons (pv 3) pa_nil)))) pa_nil))), ?_⟩
    refine ⟨_, rfl, a, row.map fun n => (n, V.int (idx T' n : Int)), fun n => .int (idx T' n : Int), rfl, .inl ?_, ?_, ?_, by rw [List.length_map]; exact hrl, fun g H1 rs s1 hg ng hG => ?_⟩
    · rw [List.map_map]
      exact SqL.of ha
    · intro p hp
      obtain ⟨n, hn, rfl⟩ := List.mem_map.mp hp
      exact ⟨.int _, rfl⟩
    · intro p hp r hr'
      obtain ⟨n, hn, rfl⟩ := List.mem_map.mp hp
      obtain ⟨k, hk, rfl⟩ := List.mem_map.mp hr'
      show PyData.eqv (.int (idx T' n : Int)) (.int (idx T' k : Int)) = decide (n = k)
      rw [eqv_int]
      exact decide_eq_decide.mpr ⟨fun h => idx_inj (hm n hn) (hm k hk) (by omega), fun h => by rw [h]⟩
    refine ⟨g, rfl, ⟨_, SqL.of hg⟩, fun D hD => ?_⟩
    have hT1 := hT.same s1
    have offD := hT1.off hD
    have offg := hT.off ng
    have ngD : g ≠ D := ne_of_none hg hD
    have hD0 : H D = none := s1.free hD
    have lrs : rs.length = (grp Prod.fst (row.map fun n => (n, V.int (idx T' n : Int)))).length := Paired.length hG
    have lgr := grp_len (f := Prod.fst) (row.map fun n => (n, V.int (idx T' n : Int)))
    rw [List.length_map] at lgr
    refine lc_list (K := K) (a := g) (xs := rs.map V.ref) (fun i H' => ∃ Ti, Keep τ H1 H' ∧ H' g = some (.lst (rs.map V.ref)) ∧ TabAt P w C H' τ Ti ∧ Ext T' Ti ∧ (∀ n ∈ ((grp Prod.fst (row.map fun n => (n, V.int (idx T' n : Int)))).take i).map itm, n ∈ Ti) ∧ Ti.length ≤ T'.length + i ∧
        H' D = some (.lst (nums Ti (((grp Prod.fst (row.map fun n => (n, V.int (idx T' n : Int)))).take i).map itm))))
      ⟨T', (Keep.refl τ H1).new hD, by rw [upd_ne ngD]; exact hg, hT1.same (same_new hD), Ext.refl T', (fun n h => by cases h), Nat.le_refl _, upd_same⟩ (fun i H' _ ⟨Ti, k, hg', _⟩ => SqL.of hg') ?_ ?_
    · rintro i x H2 hi ⟨Ti, k, hg2, hTi, hx, hmi, hle, hd⟩
      rw [List.getElem?_map] at hi
      cases er : rs[i]? with
      | none =>
        rw [er] at hi
        cases hi
      | some r =>
        rw [er] at hi
        have hi : V.ref r = x := Option.some.inj hi
        subst hi
        obtain ⟨gp, eg, hr'⟩ := paired_get hG er
        have mem := List.mem_of_getElem? eg
        obtain ⟨mg', hk1⟩ := grp_mem (f := Prod.fst) mem
        obtain ⟨n, hn, en⟩ := List.mem_map.mp mg'
        have e1 : gp.1.1 = n := by rw [← en]
        have e2 : gp.1.2 = V.int (idx T' n : Int) := by rw [← en]
        have lt := (List.getElem?_eq_some_iff.mp eg).1
        have pin : (n, gp.2) ∈ grp id row := by
          have e := grp_map (f := (Prod.fst : Nd × V → Nd)) (row.map fun n => (n, V.int (idx T' n : Int)))
          rw [List.map_map] at e
          have e3 : row.map (Prod.fst ∘ fun n => (n, V.int (idx T' n : Int))) = row := List.map_id row
          rw [e3] at e
          rw [← e]
          exact List.mem_map.mpr ⟨gp, mem, by rw [e1]⟩
        have hsz : gp.2 * size n ≤ 2000 := by
          have := size_item (p := (n, gp.2)) hk1
          rw [← this]
          have m2 : itemN (n, gp.2) ∈ items row := List.mem_map.mpr ⟨_, pin, rfl⟩
          have := size_mem m2
          rw [sizeL_items] at this
          have := ok.few
          omega
        refine ⟨r, _, rfl, SqT.of (k.tm hT1 _ _ hr'), rfl, _, _, rfl, _, _, rfl, rfl, rfl, ?_⟩
        refine ⟨_, rfl, τ.t, τ.dx, _, rfl, hTi.ins, tf_item_number _ _ _ _, _, rfl, _, rfl, ?_⟩
        refine ⟨τ, Ti, n, gp.2, ?_, hTi, hx.mem (hm n hn), ok.plain n hn, hk1, count_le ok pin, hsz, by omega, fun H3 T3 hk3 hT3 hx3 hm3 hl3 => ?_⟩
        · rw [e2, hx.idx (hm n hn)]
          rfl
        have hd3 := hk3 D _ hd offD.d offD.l1 offD.l2 offD.l3
        have hg3 := hk3 g _ hg2 offg.d offg.l1 offg.l2 offg.l3
        refine ⟨_, hd3, lt_line (by rw [nums_length, List.length_map, List.length_take]; omega), T3, ?_, by rw [upd_ne ngD]; exact hg3, hT3.other offD (Tm.lst (Tm.refl _) hd3), hx.trans hx3, ?_, by omega, ?_⟩
        · exact (k.trans hk3).put hD
        · intro m hm'
          rw [List.take_add_one, eg, List.map_append] at hm'
          rcases List.mem_append.mp hm' with h | h
          · exact hx3.mem (hmi m h)
          · have h : m ∈ [itm gp] := h
            rw [List.mem_singleton.mp h]
            show itemN (gp.1.1, gp.2) ∈ T3
            rw [e1]
            exact hm3
        · rw [upd_same, List.take_add_one, eg, List.map_append]
          show _ = some (HO.lst (nums _ (_ ++ [itemN (gp.1.1, gp.2)])))
          rw [nums_snoc, nums_ext hx3 hmi, e1]
    · rintro H2 ⟨Ti, k, hg2, hTi, hx, hmi, hle, hd⟩
      rw [List.length_map, lrs, List.take_length, items_map2] at hd hmi
      rw [List.length_map] at hle
      refine ⟨D, _, rfl, .inl ⟨SqL.of hd, fun p np => ?_⟩⟩
      refine q p _ Ti (((s1.keep τ).trans k).new np) ?_ upd_same (hTi.same (same_new np)) hx hmi (by omega)
      exact Keep.free ((s1.keep τ).trans k) hTi np
/-! ### color_row -/
def spColorRow (P : Program) (w : World) (C : Addr) : Sp := fun vs H Q _ => ∃ (τ : TA) (T : List Nd) (a : Addr) (its : List Nd), vs = [.ref τ.t, .ref a] ∧ TabAt P w C H τ T ∧ H a = some (.tup (nums T its)) ∧ Row (cods its) ∧ its.length ≤ 2000 ∧ (∀ n ∈ its, n ∈ T) ∧
  ∀ (p : Addr) (H' : Hp), Same H H' → H' p = some (.tup (nI (colors (cods its)))) → Q (.ref p) H'
theorem sc_color_row : FnScope ["table", "items", "item"] ["table", "items"] (defScope s_color_row) := ⟨rfl, rfl, rfl, by decide +kernel, rfl, by decide +kernel, by decide +kernel⟩
theorem ok_color_row {C : Addr} (T : Tx K mg C) : Cal P w K mg base "color_row" 4 ["table", "items"] (spColorRow P w C) := by
  obtain ⟨fC, fdC, GC, mC, kC, bC⟩ := (ok_coins (P := P) (w := w) (base := base) T).ex
  obtain ⟨fL, fdL, GL, mL, kL, bL⟩ := (ok_colors (P := P) (w := w) (base := base) T).ex
  refine T.d_color_row.cal (fun _ _ _ _ _ _ us hl => match us, hl with | [_, _], _ => rfl) fun f fd F _ _ _ => ?_
  refine okD F sc_color_row (fun vs H Q E h => ?_) (fun cdv A outer s H vs Q E hr h => ?_)
  · obtain ⟨τ, T', a, its, rfl, _⟩ := h
    rfl
  · obtain ⟨τ, T', a, its, rfl, hT, ha, hR, hl, hm, q⟩ := h
    refine ⟨_, pss_one (ps_ret (pe_call GL hr rfl mL kL bL .nil pass0 (pa_cons (pe_call GC hr rfl mC kC bC .nil pass0 (pa_cons (pe_lc (own := [("item", 2)]) (g := gName 2) (te := tOp (rIxL K) (tFld K (tVar 0) "codes") (tVar 2)) rfl sc_color_row.nd (pi_tup (pv 1))
      (blkOk_by (own := [("item", 2)]) (N := ["table", "items", "item"]) (sc := defScope s_color_row) (by decide +kernel)) (fun _ _ _ _ _ => pg_name (i := 2) sc_color_row.nd rfl (Or.inl rfl) (Or.inr rfl)) (fun _ _ _ _ _ => pts_nil)
      (fun _ _ _ _ _ => pe_ix ix_list (pe_fld (pv 0) rfl) (pv 2) (fun _ _ => rfl))) pa_nil)) pa_nil))), ?_⟩
    refine ⟨_, rfl, a, rfl, ⟨_, SqT.of ha⟩, fun D hD => ?_⟩
    obtain ⟨as, h2, ht⟩ := hT.cod
    have la : as.length = T'.length := by
      have := Paired.length ht
      rw [cods_length] at this
      exact this
    refine lc_tup (K := K) (a := a) (xs := nums T' its) (fun i H' => ∃ ds : List Addr, Same H H' ∧ H' D = some (.lst (ds.map V.ref)) ∧ Tups H' ds ((its.take i).map code))
      ⟨[], same_new hD, upd_same, .nil⟩ (fun i H' _ ⟨_, s1, _⟩ => SqT.of (s1 _ _ ha)) ?_ ?_
    · rintro i x H1 hi ⟨ds, s1, hd1, htd⟩
      cases ec : its[i]? with
      | none =>
        unfold nums at hi
        rw [List.getElem?_map, ec] at hi
        cases hi
      | some c =>
        rw [nums_at ec] at hi
        have hi : V.int (idx T' c : Int) = x := Option.some.inj hi
        subst hi
        have mc : c ∈ T' := hm c (List.mem_of_getElem? ec)
        have lti := idx_lt mc
        obtain ⟨b, eb⟩ : ∃ b, as[idx T' c]? = some b := ⟨_, List.getElem?_eq_getElem (by rw [la]; exact lti)⟩
        obtain ⟨d, ed, hd⟩ := paired_get ht eb
        unfold cods at ed
        rw [List.getElem?_map, idx_get mc] at ed
        have ed : code c = d := Option.some.inj ed
        subst ed
        have lt := (List.getElem?_eq_some_iff.mp ec).1
        have ld : ds.length ≤ i := by
          have := Paired.length htd
          rw [List.length_map, List.length_take] at this
          omega
        refine ⟨rfl, ?_⟩
        refine ⟨_, rfl, τ.t, C, τ.dx, _, _, rfl, s1 _ _ hT.ins, T.cl, T.na_codes, tf_codes _ _ _ _, _, rfl, τ.l2, _, _, _, rfl, rfl, SqL.of (s1 _ _ h2), atI_nat (j := idx T' c) (by rw [List.getElem?_map, eb]; rfl), ?_⟩
        have t1 : Tm H1 (upd H1 D (.lst (ds.map V.ref ++ [.ref b]))) := Tm.lst (Tm.refl _) hd1
        refine ⟨_, hd1, lt_line (by rw [List.length_map]; omega), ds ++ [b], s1.put hD, ?_, ?_⟩
        · rw [upd_same, refs_snoc]
        · rw [List.take_add_one, ec, List.map_append]
          exact Tups.snoc (t1 _ _ (s1 _ _ hd)) (Tups.tm t1 htd)
    · rintro H1 ⟨ds, s1, hd1, htd⟩
      rw [nums_length, List.take_length] at htd
      refine ⟨D, ds, cods its, rfl, SqL.of hd1, htd, hR, by rw [cods_length]; exact hl, fun z H2 s2 hz => ?_⟩
      exact ⟨z, cods its, rfl, hz, hR, by rw [cods_length]; exact hl, fun p H3 s3 hp => q p H3 ((s1.trans s2).trans s3) hp⟩
end
end K33
/-! K33T5: row_spans, grow. -/
namespace K33
open PySem PySem.Spec PyProof.Rows L2
/-! ### spans -/
def spanL : Nat → List Nd → List (Nat × Nat)
  | _, [] => []
  | s, n :: r => (s, s + size n) :: spanL (s + size n) r
theorem spanL_app : ∀ (a : List Nd) (s : Nat) (b : List Nd), spanL s (a ++ b) = spanL s a ++ spanL (s + sizeL a) b
  | [], s, b => rfl
  | n :: r, s, b => by
    show (s, s + size n) :: spanL (s + size n) (r ++ b) = (s, s + size n) :: (spanL (s + size n) r ++ spanL (s + (size n + sizeL r)) b)
    rw [spanL_app r (s + size n) b, Nat.add_assoc]
theorem spanL_len : ∀ (a : List Nd) (s : Nat), (spanL s a).length = a.length
  | [], _ => rfl
  | n :: r, s => congrArg Nat.succ (spanL_len r (s + size n))
abbrev Spn (H : Hp) (rs : List Addr) (sp : List (Nat × Nat)) : Prop := Paired (fun (r : Addr) (p : Nat × Nat) => H r = some (.tup [.int (p.1 : Int), .int (p.2 : Int)])) rs sp
theorem Spn.tm {H H' : Hp} (t : Tm H H') : ∀ {rs : List Addr} {sp : List (Nat × Nat)}, Spn H rs sp → Spn H' rs sp
  | _, _, .nil => .nil
  | _, _, .cons h r => .cons (t _ _ h) (Spn.tm t r)
theorem Spn.snoc {H : Hp} {r : Addr} {p : Nat × Nat} {rs : List Addr} {sp : List (Nat × Nat)} (h : H r = some (.tup [.int (p.1 : Int), .int (p.2 : Int)])) (t : Spn H rs sp) : Spn H (rs ++ [r]) (sp ++ [p]) :=
  paired_snoc (R := fun (r : Addr) (p : Nat × Nat) => H r = some (.tup [.int (p.1 : Int), .int (p.2 : Int)])) h t
theorem slices_nums (T : List Nd) {its : List Nd} (h0 : 0 < its.length) : slices (nums T its) (startsL (cods its)) = (parts its).map (nums T) := by
  have e := slices_map (fun n => V.int (idx T n : Int)) its (startsL (cods its))
  rw [slices_starts its (cods_length its).symm (by rw [cods_length]; exact h0)] at e
  exact e
section
variable {P : Program} {w : World} {K : PySem.W.Frag} {mg : Str → Option Value} {base : Heap}
/-! ### row_spans -/
def spRowSpans (P : Program) (w : World) (C : Addr) : Sp := fun vs H Q _ => ∃ (τ : TA) (T : List Nd) (l : Addr) (row : List Nd) (s : Nat), vs = [.ref τ.t, .ref l, .int (s : Int)] ∧ TabAt P w C H τ T ∧ H l = some (.lst (nums T row)) ∧ (∀ n ∈ row, n ∈ T) ∧ row.length ≤ 2000 ∧
  ∀ (p : Addr) (H' : Hp) (rs : List Addr), Same H H' → H p = none → FrT H' p (rs.map V.ref) → Spn H' rs (spanL s row) → Q (.ref p) H'
theorem sc_row_spans : FnScope ["table", "row", "start", "spans", "number", "end"] ["table", "row", "start"] (defScope s_row_spans) := ⟨rfl, rfl, rfl, by decide +kernel, rfl, by decide +kernel, by decide +kernel⟩
theorem ok_row_spans {C : Addr} (T : Tx K mg C) : Cal P w K mg base "row_spans" 1 ["table", "row", "start"] (spRowSpans P w C) := by
  refine T.d_row_spans.cal (fun _ _ _ _ _ _ us hl => match us, hl with | [_, _, _], _ => rfl) fun f fd F _ _ _ => ?_
  refine okD F sc_row_spans (fun vs H Q E h => ?_) (fun cdv A outer s H vs Q E hr h => ?_)
  · obtain ⟨τ, T', l, row, s, rfl, _⟩ := h
    rfl
  · obtain ⟨τ, T', l, row, s0, rfl, hT, hl, hm, hrl, q⟩ := h
    refine ⟨_, pss_cons (ps_set (i := 3) sc_row_spans.nd rfl (Or.inl rfl) (pe_lst pa_nil))
      (pss_cons (ps_for PassesOwn.never rfl (pi_list (pv 1)) (pg_name (i := 4) sc_row_spans.nd rfl (Or.inl rfl))
        (pss_cons (ps_set (i := 5) sc_row_spans.nd rfl (Or.inl rfl) (pe_op op_add (pv 2) (pe_ix ix_list (pe_fld (pv 0) rfl) (pv 4) (fun _ _ => rfl))))
        (pss_cons (ps_expr (pe_bm PySem.F.plainAttrs_list PySem.F.slot_list_append PySem.F.type_list_append mt_append (pv 3) (pa_cons (pe_tup (pa_cons (pv 2) (pa_cons (pv 5) pa_nil))) pa_nil)))
        (pss_one (ps_set (i := 2) sc_row_spans.nd rfl (Or.inl rfl) (pv 5))))))
      (pss_one (ps_ret (pe_callTy call_tuple_frz (by rfl) T.n_tuple b_tuple (pa_cons (pv 3) pa_nil))))), ?_⟩
    refine ⟨Nat.zero_le _, fun g ng => ?_⟩
    refine ⟨_, rfl, l, rfl, ⟨_, SqL.of ((same_new ng) _ _ hl)⟩, for_list (K := K) (a := l) (xs := nums T' row) (fun i σ H' => ∃ (z : Int) (o4 o5 : Option V) (rs : List Addr), σ = [some (.ref τ.t), some (.ref l), some (.int z), some (.ref g), o4, o5] ∧ z = ((s0 + sizeL (row.take i) : Nat) : Int) ∧ Same H H' ∧
        H' g = some (.lst (rs.map V.ref)) ∧ Spn H' rs (spanL s0 (row.take i)))
      ⟨_, none, none, [], rfl, rfl, same_new ng, upd_same, .nil⟩ (fun i σ H' _ ⟨_, _, _, _, _, _, s1, _⟩ => SqL.of (s1 _ _ hl)) ?_ ?_⟩
    · rintro i x σ H1 hi ⟨z, o4, o5, rs, rfl, hz, s1, hg, hS⟩
      cases ec : row[i]? with
      | none =>
        unfold nums at hi
        rw [List.getElem?_map, ec] at hi
        cases hi
      | some c =>
        rw [nums_at ec] at hi
        have hi : V.int (idx T' c : Int) = x := Option.some.inj hi
        subst hi
        have mc : c ∈ T' := hm c (List.mem_of_getElem? ec)
        have lt := (List.getElem?_eq_some_iff.mp ec).1
        have hT1 := hT.same s1
        have lrs := Paired.length hS
        rw [spanL_len, List.length_take] at lrs
        refine ⟨_, rfl, _, rfl, τ.t, C, τ.dx, _, _, rfl, hT1.ins, T.cl, T.na_sizes, tf_sizes _ _ _ _, _, rfl, τ.l3, _, _, _, rfl, rfl, SqL.of hT1.siz, atI_nat (j := idx T' c) (sizesV_at (idx_get mc)), _, _, rfl, rfl, ?_⟩
        refine ⟨_, rfl, .inl ⟨rfl, _, SqL.of hg⟩, _, rfl, _, rfl, by show 2 ≤ sizeLine; rw [sizeLine_eq]; decide, fun t nt => ?_⟩
        have ngt : g ≠ t := ne_of_none hg nt
        refine ⟨g, _, _, rfl, rfl, by rw [upd_ne ngt]; exact hg, lt_line (by rw [List.length_map]; omega), ?_⟩
        have st : sizeL (row.take (i + 1)) = sizeL (row.take i) + size c := by
          rw [List.take_add_one, ec]
          show sizeL (row.take i ++ [c]) = _
          rw [sizeL_app]
          rfl
        refine ⟨_, rfl, z + (size c : Int), _, _, rs ++ [t], rfl, by rw [hz, st]; omega, (s1.new nt).put ng, by rw [upd_same, refs_snoc], ?_⟩
        have hg' : upd H1 t (.tup [.int z, .int (z + (size c : Int))]) g = some (.lst (rs.map V.ref)) := by rw [upd_ne ngt]; exact hg
        have t1 : Tm H1 (upd H1 t (.tup [.int z, .int (z + (size c : Int))])) := (Tm.refl _).new nt
        have t2 := Tm.lst (o := .lst (rs.map V.ref ++ [.ref t])) (Tm.refl _) hg'
        have e1 : spanL s0 (row.take (i + 1)) = spanL s0 (row.take i) ++ [(s0 + sizeL (row.take i), s0 + sizeL (row.take i) + size c)] := by
          rw [List.take_add_one, ec]
          show spanL s0 (row.take i ++ [c]) = _
          rw [spanL_app]
          rfl
        rw [e1]
        refine Spn.snoc ?_ (Spn.tm (t1.trans t2) hS)
        rw [upd_ne ngt.symm, upd_same]
        show some (HO.tup [.int z, .int (z + (size c : Int))]) = some (HO.tup [.int ((s0 + sizeL (row.take i) : Nat) : Int), .int ((s0 + sizeL (row.take i) + size c : Nat) : Int)])
        rw [hz, Int.natCast_add (s0 + sizeL (row.take i)) (size c)]
    · rintro σ H1 ⟨z, o4, o5, rs, rfl, hz, s1, hg, hS⟩
      rw [nums_length, List.take_length] at hS
      refine ⟨_, rfl, g, _, rfl, SqL.of hg, fun p H' s2 np fr => ?_⟩
      exact q p H' rs (s1.trans s2) (s1.free np) fr (Spn.tm s2.tm hS)
end
end K33
/-! K33T6: grow. -/
namespace K33
open PySem PySem.Spec PyProof.Rows L2
/-- at r stands a level's tuple, its first member the list of the numbers of the row's nodes -/
def LvAt (H : Hp) (τ : TA) (lv : Addr) (T : List Nd) (r : Addr) (row : List Nd) : Prop :=
  ∃ (l : Addr) (a b c : V), H r = some (.tup [.ref l, a, b, c]) ∧ H l = some (.lst (nums T row)) ∧ l ≠ lv ∧ Off τ l ∧ ∀ n ∈ row, n ∈ T
abbrev LvAts (H : Hp) (τ : TA) (lv : Addr) (T : List Nd) (rs : List Addr) (ls : List (List Nd)) : Prop := Paired (fun (r : Addr) (row : List Nd) => LvAt H τ lv T r row) rs ls
theorem LvAts.snoc {H : Hp} {τ : TA} {lv : Addr} {T : List Nd} {r : Addr} {row : List Nd} {rs : List Addr} {ls : List (List Nd)} (h : LvAt H τ lv T r row) (t : LvAts H τ lv T rs ls) : LvAts H τ lv T (rs ++ [r]) (ls ++ [row]) :=
  paired_snoc (R := fun (r : Addr) (row : List Nd) => LvAt H τ lv T r row) h t
section
variable {P : Program} {w : World} {C : Addr} {H H' : Hp} {τ : TA} {lv : Addr} {T T' T0 : List Nd}
theorem LvAt.keep (k : Keep τ H H') (hT : TabAt P w C H τ T0) (x : Ext T T') {r : Addr} {row : List Nd} (h : LvAt H τ lv T r row) : LvAt H' τ lv T' r row := by
  obtain ⟨l, a, b, c, h1, h2, h3, h4, h5⟩ := h
  exact ⟨l, a, b, c, k.tm hT _ _ h1, by rw [nums_ext x h5]; exact k l _ h2 h4.d h4.l1 h4.l2 h4.l3, h3, h4, fun n hn => x.mem (h5 n hn)⟩
theorem LvAts.keep (k : Keep τ H H') (hT : TabAt P w C H τ T0) (x : Ext T T') : ∀ {rs : List Addr} {ls : List (List Nd)}, LvAts H τ lv T rs ls → LvAts H' τ lv T' rs ls
  | _, _, .nil => .nil
  | _, _, .cons h r => .cons (LvAt.keep k hT x h) (LvAts.keep k hT x r)
theorem LvAt.put {xs : List V} {o : HO} (hl : H lv = some (.lst xs)) {r : Addr} {row : List Nd} (h : LvAt H τ lv T r row) : LvAt (upd H lv o) τ lv T r row := by
  obtain ⟨l, a, b, c, h1, h2, h3, h4, h5⟩ := h
  exact ⟨l, a, b, c, by rw [upd_ne (ne_of h1 hl (by intro z; cases z))]; exact h1, by rw [upd_ne h3]; exact h2, h3, h4, h5⟩
theorem LvAts.put {xs : List V} {o : HO} (hl : H lv = some (.lst xs)) : ∀ {rs : List Addr} {ls : List (List Nd)}, LvAts H τ lv T rs ls → LvAts (upd H lv o) τ lv T rs ls
  | _, _, .nil => .nil
  | _, _, .cons h r => .cons (LvAt.put hl h) (LvAts.put hl r)
end
theorem parts_mem {its q : List Nd} (hq : q ∈ parts its) : ∀ n ∈ q, n ∈ its := fun n hn => by
  have e := parts_flat its
  rw [← e]
  exact List.mem_flatten.mpr ⟨q, hq, hn⟩
theorem parts_len_le (its : List Nd) : (parts its).length ≤ its.length := by
  have h : ∀ ps : List (List Nd), (∀ q ∈ ps, q ≠ []) → ps.length ≤ ps.flatten.length := fun ps => by
    induction ps with
    | nil => intro _; exact Nat.le_refl _
    | cons q qs ih =>
      intro h
      have h1 := h q (List.mem_cons_self ..)
      have h2 := ih fun x hx => h x (List.mem_cons_of_mem _ hx)
      rw [List.flatten_cons, List.length_append, List.length_cons]
      cases q with
      | nil => exact absurd rfl h1
      | cons => rw [List.length_cons]; omega
  have h1 := h (parts its) fun q hq => segs_mem 0 _ q hq
  rw [parts_flat] at h1
  exact h1
theorem nextRow_big {row : List Nd} (h : 1 < (items row).length) : nextRow row = blks (parts (items row)) := by
  unfold nextRow
  rw [if_neg (by omega)]
theorem nextRow_small {row : List Nd} (h : ¬ 1 < (items row).length) : nextRow row = [] := by
  unfold nextRow
  rw [if_pos (by omega)]
/-- the state of grow's loop -/
def GrowW (P : Program) (w : World) (C : Addr) (H : Hp) (τ : TA) (a lv : Addr) (row0 : List Nd) (m : Nat) (σ : L2.St) (H' : Hp) : Prop :=
  ∃ (T row : List Nd) (l : Addr) (rs : List Addr) (dn rest : List (List Nd)) (o4 o5 o6 o7 : Option V), σ = [some (.ref τ.t), some (.ref a), some (.ref lv), some (.ref l), o4, o5, o6, o7] ∧ m = row.length ∧ Keep τ H H' ∧ TabAt P w C H' τ T ∧
    H' lv = some (.lst (rs.map V.ref)) ∧ LvAts H' τ lv T rs dn ∧ H' l = some (.lst (nums T row)) ∧ l ≠ lv ∧ Off τ l ∧ (∀ n ∈ row, n ∈ T) ∧ RowOk row ∧ Levels row rest ∧ Levels row0 (dn ++ rest) ∧ row.length ≤ 300 ∧ T.length + 600 * row.length ≤ 200000 ∧ dn.length + row.length ≤ 300
section
variable {P : Program} {w : World} {K : PySem.W.Frag} {mg : Str → Option Value} {base : Heap}
def spGrow (P : Program) (w : World) (C : Addr) : Sp := fun vs H Q _ => ∃ (τ : TA) (a : Addr) (row : List Nd) (xs : List V), vs = [.ref τ.t, .ref a] ∧ TabAt P w C H τ [] ∧ H a = some (.tup xs) ∧ EVs H row xs ∧ (∀ n ∈ row, El n) ∧ row.length ≤ 300 ∧
  ∀ (lv : Addr) (H' : Hp) (T : List Nd) (rs : List Addr) (ls : List (List Nd)), Keep τ H H' → H lv = none → H' lv = some (.lst (rs.map V.ref)) → TabAt P w C H' τ T → LvAts H' τ lv T rs ls → Levels row ls → Q (.ref lv) H'
theorem sc_grow : FnScope ["table", "contents", "levels", "row", "items", "colors", "starts", "part"] ["table", "contents"] (defScope s_grow) := ⟨rfl, rfl, rfl, by decide +kernel, rfl, by decide +kernel, by decide +kernel⟩
theorem ok_grow {C : Addr} (T : Tx K mg C) : Cal P w K mg base "grow" 8 ["table", "contents"] (spGrow P w C) := by
  obtain ⟨fF, fdF, GF, mF, kF, bF⟩ := (ok_leaf_row (P := P) (w := w) (base := base) T).ex
  obtain ⟨fI, fdI, GI, mI, kI, bI⟩ := (ok_item_row (P := P) (w := w) (base := base) T).ex
  obtain ⟨fC, fdC, GC, mC, kC, bC⟩ := (ok_color_row (P := P) (w := w) (base := base) T).ex
  obtain ⟨fS, fdS, GS, mS, kS, bS⟩ := (ok_starts (P := P) (w := w) (base := base) T).ex
  obtain ⟨fU, fdU, GU, mU, kU, bU⟩ := (ok_cut (P := P) (w := w) (base := base) T).ex
  obtain ⟨fN, fdN, GN, mN, bN⟩ := (ok_number (P := P) (w := w) (base := base) T).ex
  refine T.d_grow.cal (fun _ _ _ _ _ _ us hl => match us, hl with | [_, _], _ => rfl) fun f fd F _ _ _ => ?_
  refine okD F sc_grow (fun vs H Q E h => ?_) (fun cdv A outer s H vs Q E hr h => ?_)
  · obtain ⟨τ, a, row, xs, rfl, _⟩ := h
    rfl
  · obtain ⟨τ, a, row0, xs, rfl, hT0, ha, hE, hel, hrl, q⟩ := h
    have hr6 : Room 6 _ := hr.mono (by decide)
    have hr5 : Room 5 _ := hr.mono (by decide)
    have hr4 : Room 4 _ := hr.mono (by decide)
    have hr2 : Room 2 _ := hr.mono (by decide)
    have hr1 : Room 1 _ := hr.mono (by decide)
    refine ⟨_, pss_cons (ps_set (i := 2) sc_grow.nd rfl (Or.inl rfl) (pe_lst pa_nil))
      (pss_cons (ps_set (i := 3) sc_grow.nd rfl (Or.inl rfl) (pe_call GF hr6 rfl mF kF bF .nil pass0 (pa_cons (pv 0) (pa_cons (pv 1) pa_nil))))
      (pss_cons (ps_while PassesOwn.never (pt_truth (pv 3) (by intro _; rfl))
        (pss_cons (ps_set (i := 4) sc_grow.nd rfl (Or.inl rfl) (pe_call GI hr rfl mI kI bI .nil pass0 (pa_cons (pv 0) (pa_cons (pv 3) pa_nil))))
        (pss_cons (ps_set (i := 5) sc_grow.nd rfl (Or.inl rfl) (pe_call GC hr4 rfl mC kC bC .nil pass0 (pa_cons (pv 0) (pa_cons (pv 4) pa_nil))))
        (pss_cons (ps_set (i := 6) sc_grow.nd rfl (Or.inl rfl) (pe_call GS hr2 rfl mS kS bS .nil pass0 (pa_cons (pv 5) pa_nil)))
        (pss_cons (ps_expr (pe_bm PySem.F.plainAttrs_list PySem.F.slot_list_append PySem.F.type_list_append mt_append (pv 2) (pa_cons (pe_tup (pa_cons (pv 3) (pa_cons (pv 4) (pa_cons (pv 5) (pa_cons (pv 6) pa_nil))))) pa_nil)))
        (pss_cons (ps_set (i := 3) sc_grow.nd rfl (Or.inl rfl) (pe_lst pa_nil))
        (pss_one (ps_if (pt_cmpR op_gt (pe_callB call_len_seq (by rfl) T.n_len b_len (pa_cons (pv 4) pa_nil)) pe_int (nomark _))
          (pss_one (ps_setLc (i := 3) (own := [("part", 7)]) (g := gName 7) rfl sc_grow.nd rfl rfl (sw_true rfl rfl rfl (by decide +kernel))
            (pi_list (pe_call GU hr1 rfl mU kU bU .nil pass0 (pa_cons (pv 4) (pa_cons (pv 6) pa_nil))))
            (blkOk_by (own := [("part", 7)]) (N := ["table", "contents", "levels", "row", "items", "colors", "starts", "part"]) (sc := defScope s_grow) (by decide +kernel))
            (fun _ _ _ _ _ => pg_name (i := 7) sc_grow.nd rfl (Or.inl rfl) (Or.inr rfl)) (fun _ _ _ _ _ => pts_nil)
            (fun _ _ _ _ _ => pe_meth (pv 0) T.cl mN GN hr5 bN .nil pass0 (pa_cons (pe_tup (pa_cons pe_str (pa_cons (pv 7) pa_nil))) pa_nil))))
          pss_nil))))))))
      (pss_one (ps_ret (pv 2))))), ?_⟩
    refine ⟨Nat.zero_le _, fun lv nlv => ?_⟩
    have s0 : Same H (upd H lv (.lst [])) := same_new nlv
    refine ⟨_, rfl, _, rfl, τ, [], a, row0, xs, rfl, hT0.same s0, s0 _ _ ha, EVs.tm s0.tm hE, hel, by omega, by show 0 + _ ≤ _; omega, fun l H1 T1 k1 nl hl1 hT1 _ hm1 hle1 => ?_⟩
    have offlv := hT0.off nlv
    have hlv1 : H1 lv = some (.lst []) := k1 _ _ upd_same offlv.d offlv.l1 offlv.l2 offlv.l3
    obtain ⟨rest0, hL0⟩ := levels_ex row0.length row0 (Nat.le_refl _)
    refine ⟨GrowW P w C H τ a lv row0, ⟨row0.length, T1, row0, l, [], [], rest0, none, none, none, none, rfl, rfl, (s0.keep τ).trans k1, hT1, hlv1, .nil, hl1, ?_, (hT0.same s0).off nl, hm1, leaves_ok hel (by omega), hL0, hL0, hrl, ?_, by show 0 + _ ≤ _; omega⟩, ?_⟩
    · intro e
      rw [e, upd_same] at nl
      cases nl
    · have : T1.length ≤ 0 + row0.length := hle1
      omega
    rintro m σ H1 ⟨T1, row, l, rs, dn, rest, o4, o5, o6, o7, rfl, rfl, k1, hT1, hlv1, hD1, hl1, nlv1, offl, hm1, ok, hL, hLL, hrl1, hb1, hdn⟩
    have k1 : Keep τ H H1 := k1
    refine ⟨_, rfl, _, .inl ⟨_, SqL.of hl1, rfl⟩, ?_⟩
    cases hL with
    | nil =>
      refine iteF ?_
      rw [List.append_nil] at hLL
      exact ⟨_, rfl, q lv H1 T1 rs dn k1 nlv hlv1 hT1 hD1 hLL⟩
    | @cons _ ls' hne hL' =>
      have hnee : (!(nums T1 row).isEmpty) = true := by
        cases row with
        | nil => exact absurd rfl hne
        | cons => rfl
      rw [hnee]
      refine iteT ?_
      refine ⟨fun σ' H' => ∃ m', m' < row.length ∧ GrowW P w C H τ a lv row0 m' σ' H', fun _ _ h => h, ?_⟩
      have il := items_len row
      have ine := items_ne hne
      have ipos : 0 < (items row).length := by
        cases e : items row with
        | nil => exact absurd e ine
        | cons => simp
      have cl := cods_length (items row)
      -- items
      refine ⟨_, rfl, _, rfl, τ, T1, l, row, rfl, hT1, hl1, ok, by omega, hm1, by omega, fun p H2 T2 k2 np hp2 hT2 x2 hm2 hle2 => ?_⟩
      -- colors
      refine ⟨_, rfl, _, rfl, τ, T2, p, items row, rfl, hT2, hp2, cods_row ok, by omega, hm2, fun pc H3 s3 hpc3 => ?_⟩
      have hT3 := hT2.same s3
      -- starts
      refine ⟨_, rfl, pc, cods (items row), rfl, SqT.of hpc3, by omega, by omega, fun ps H4 s4 hps4 => ?_⟩
      have hT4 := hT3.same s4
      have k14 : Keep τ H1 H4 := k2.trans ((s3.trans s4).keep τ)
      have hlv4 : H4 lv = some (.lst (rs.map V.ref)) := k14 _ _ hlv1 offlv.d offlv.l1 offlv.l2 offlv.l3
      have hl4 : H4 l = some (.lst (nums T2 row)) := by
        rw [nums_ext x2 hm1]
        exact k14 _ _ hl1 offl.d offl.l1 offl.l2 offl.l3
      have hp4 : H4 p = some (.tup (nums T2 (items row))) := (s3.trans s4) _ _ hp2
      -- the level's tuple
      refine ⟨_, rfl, .inl ⟨rfl, _, SqL.of hlv4⟩, _, rfl, _, rfl, _, rfl, _, rfl, by show 4 ≤ sizeLine; rw [sizeLine_eq]; decide, fun t nt => ?_⟩
      have nlvt : lv ≠ t := ne_of_none hlv4 nt
      have nlt : l ≠ t := ne_of_none hl4 nt
      have lrs := Paired.length hD1
      have hlv5 : upd H4 t (.tup [.ref l, .ref p, .ref pc, .ref ps]) lv = some (.lst (rs.map V.ref)) := by rw [upd_ne nlvt]; exact hlv4
      refine ⟨lv, _, _, rfl, rfl, hlv5, lt_line (by rw [List.length_map]; omega), ?_⟩
      have k15 : Keep τ H1 (upd H4 t (.tup [.ref l, .ref p, .ref pc, .ref ps])) := k14.new nt
      have hT5 : TabAt P w C (upd H4 t (.tup [.ref l, .ref p, .ref pc, .ref ps])) τ T2 := hT4.same (same_new nt)
      have t56 : Tm (upd H4 t (.tup [.ref l, .ref p, .ref pc, .ref ps])) (upd (upd H4 t (.tup [.ref l, .ref p, .ref pc, .ref ps])) lv (.lst (rs.map V.ref ++ [.ref t]))) := Tm.lst (Tm.refl _) hlv5
      have t46 : Tm H4 (upd (upd H4 t (.tup [.ref l, .ref p, .ref pc, .ref ps])) lv (.lst (rs.map V.ref ++ [.ref t]))) := (same_new nt).tm.trans t56
      generalize e6 : upd (upd H4 t (.tup [.ref l, .ref p, .ref pc, .ref ps])) lv (.lst (rs.map V.ref ++ [.ref t])) = H6 at t56 t46 ⊢
      have hT6 : TabAt P w C H6 τ T2 := by
        rw [← e6]
        refine hT5.other offlv ?_
        rw [e6]
        exact t56
      have k6 : Keep τ H H6 := by
        rw [← e6]
        exact (k1.trans k15).put nlv
      have hlv6 : H6 lv = some (.lst ((rs ++ [t]).map V.ref)) := by
        rw [← e6, upd_same, refs_snoc]
      have hl6 : H6 l = some (.lst (nums T2 row)) := by
        rw [← e6, upd_ne nlv1, upd_ne nlt]
        exact hl4
      have ht6 : H6 t = some (.tup [.ref l, .ref p, .ref pc, .ref ps]) := t56 _ _ upd_same
      have hD6 : LvAts H6 τ lv T2 (rs ++ [t]) (dn ++ [row]) := by
        refine LvAts.snoc ⟨l, _, _, _, ht6, hl6, nlv1, offl, fun n hn => x2.mem (hm1 n hn)⟩ ?_
        rw [← e6]
        exact LvAts.put hlv5 (LvAts.keep k15 hT1 x2 hD1)
      have hLL6 : Levels row0 ((dn ++ [row]) ++ ls') := by
        rw [List.append_assoc]
        exact hLL
      have ldn : (dn ++ [row]).length = dn.length + 1 := by rw [List.length_append, List.length_singleton]
      have nlen := nextRow_len hne
      -- the next row
      refine ⟨Nat.zero_le _, fun l2 nl2 => ?_⟩
      have s7 : Same H6 (upd H6 l2 (.lst [])) := same_new nl2
      have hT7 := hT6.same s7
      have nl2lv : l2 ≠ lv := (ne_of_none hlv6 nl2).symm
      refine ⟨_, rfl, p, _, rfl, .inr (SqT.of (s7 _ _ (t46 _ _ hp4))), _, _, rfl, rfl, _, rfl, ?_⟩
      rw [nums_length]
      refine ite2d (fun c => ?_) (fun c => ?_)
      · have c : 1 < (items row).length := by omega
        have enx := nextRow_big c
        have okn := nextRow_ok ok
        rw [enx] at okn hL' nlen
        refine ⟨_, rfl, _, rfl, p, ps, nums T2 (items row), _, rfl, s7 _ _ (t46 _ _ hp4), s7 _ _ (t46 _ _ hps4), fun e he => ?_, ?_, by rw [nums_length]; omega, fun g H8 gs s8 ng hg8 hP => ?_⟩
        · have := startsL_lt (cs := cods (items row)) (by omega) e he
          rw [nums_length]
          omega
        · have h1 := List.length_filter_le (st (cods (items row))) (List.range' 2 ((cods (items row)).length - 3))
          rw [List.length_range'] at h1
          omega
        have hP : Pts H8 gs (slices (nums T2 (items row)) (startsL (cods (items row)))) := hP
        rw [slices_nums T2 ipos] at hP
        have lgs := Paired.length hP
        rw [List.length_map] at lgs
        have lpp := parts_len_le (items row)
        refine ⟨g, rfl, ⟨_, SqL.of hg8⟩, fun D hD => ?_⟩
        have hT8 := hT7.same s8
        have offD := hT8.off hD
        have offg := hT7.off ng
        have ngD : g ≠ D := ne_of_none hg8 hD
        have hlv8 : H8 lv = some (.lst ((rs ++ [t]).map V.ref)) := s8 _ _ (s7 _ _ hlv6)
        have nlvD : lv ≠ D := ne_of_none hlv8 hD
        refine lc_list (K := K) (a := g) (xs := gs.map V.ref) (fun i H' => ∃ Ti, Keep τ H8 H' ∧ H' g = some (.lst (gs.map V.ref)) ∧ TabAt P w C H' τ Ti ∧ Ext T2 Ti ∧ (∀ n ∈ blks ((parts (items row)).take i), n ∈ Ti) ∧ Ti.length ≤ T2.length + i ∧
            H' D = some (.lst (nums Ti (blks ((parts (items row)).take i)))))
          ⟨T2, (Keep.refl τ H8).new hD, by rw [upd_ne ngD]; exact hg8, hT8.same (same_new hD), Ext.refl T2, (fun n h => by cases h), Nat.le_refl _, upd_same⟩ (fun i H' _ ⟨Ti, k, hg', _⟩ => SqL.of hg') ?_ ?_
        · rintro i x H9 hi ⟨Ti, k9, hg9, hTi, x9, hm9, hle9, hd9⟩
          rw [List.getElem?_map] at hi
          cases er : gs[i]? with
          | none =>
            rw [er] at hi
            cases hi
          | some r =>
            rw [er] at hi
            have hi : V.ref r = x := Option.some.inj hi
            subst hi
            obtain ⟨zs, ez, hr'⟩ := paired_get hP er
            rw [List.getElem?_map] at ez
            cases eq : (parts (items row))[i]? with
            | none =>
              rw [eq] at ez
              cases ez
            | some pt =>
              rw [eq] at ez
              have ez : nums T2 pt = zs := Option.some.inj ez
              subst ez
              have mpt := List.mem_of_getElem? eq
              have lt := (List.getElem?_eq_some_iff.mp eq).1
              have mb : Nd.blk pt ∈ blks (parts (items row)) := List.mem_map.mpr ⟨pt, mpt, rfl⟩
              have ptT : ∀ n ∈ pt, n ∈ T2 := fun n hn => hm2 n (parts_mem mpt n hn)
              refine ⟨rfl, ?_⟩
              refine ⟨_, rfl, τ.t, τ.dx, _, rfl, hTi.ins, tf_number_of _ _ _ _, _, rfl, by show 2 ≤ sizeLine; rw [sizeLine_eq]; decide, fun b nb => ?_⟩
              have hr9 := k9.tm hT8 _ _ hr'
              have nDb : D ≠ b := ne_of_none hd9 nb
              have ngb : g ≠ b := ne_of_none hg9 nb
              refine ⟨τ, Ti, .blk pt, b, rfl, hTi.same (same_new nb), ⟨r, upd_same, ?_⟩, okn.good _ mb, ?_, fun c hc => x9.mem (ptT c hc), by omega, fun H10 k10 hT10 => ?_⟩
              · rw [upd_ne (ne_of_none hr9 nb), nums_ext x9 ptT]
                exact hr9
              · have := size_mem mb
                have := okn.few
                omega
              have hd10 : H10 D = some (.lst (nums Ti (blks ((parts (items row)).take i)))) := k10 D _ (by rw [upd_ne nDb]; exact hd9) offD.d offD.l1 offD.l2 offD.l3
              have hg10 : H10 g = some (.lst (gs.map V.ref)) := k10 g _ (by rw [upd_ne ngb]; exact hg9) offg.d offg.l1 offg.l2 offg.l3
              have e1 : blks ((parts (items row)).take (i + 1)) = blks ((parts (items row)).take i) ++ [.blk pt] := by
                rw [List.take_add_one, eq]
                unfold blks
                rw [List.map_append]
                rfl
              refine ⟨_, hd10, lt_line (by rw [nums_length]; unfold blks; rw [List.length_map, List.length_take]; omega), addN Ti (.blk pt), ((k9.new nb).trans k10).put hD, by rw [upd_ne ngD]; exact hg10, hT10.other offD (Tm.lst (Tm.refl _) hd10), x9.trans (addN_ext _ _), ?_, ?_, ?_⟩
              · intro n hn
                rw [e1] at hn
                rcases List.mem_append.mp hn with h | h
                · exact (addN_ext _ _).mem (hm9 n h)
                · rw [List.mem_singleton.mp h]
                  exact addN_mem _ _
              · have := addN_len Ti (.blk pt)
                omega
              · rw [upd_same, e1, nums_snoc, nums_ext (addN_ext _ _) hm9]
        · rintro H9 ⟨Ti, k9, hg9, hTi, x9, hm9, hle9, hd9⟩
          rw [List.length_map, lgs, List.take_length] at hd9 hm9
          rw [List.length_map, lgs] at hle9
          have lbl : (blks (parts (items row))).length = (parts (items row)).length := by
            unfold blks
            rw [List.length_map]
          have k69 : Keep τ H6 H9 := ((s7.trans s8).keep τ).trans k9
          refine ⟨(blks (parts (items row))).length, nlen, Ti, blks (parts (items row)), D, rs ++ [t], dn ++ [row], ls', _, _, _, _, rfl, rfl, k6.trans k69, hTi, k69 _ _ hlv6 offlv.d offlv.l1 offlv.l2 offlv.l3, LvAts.keep k69 hT6 x9 hD6, hd9, nlvD.symm, offD, hm9, okn, hL', hLL6, by omega, by omega, by omega⟩
      · have c : ¬ 1 < (items row).length := by omega
        have enx := nextRow_small c
        rw [enx] at hL' nlen
        refine ⟨0, ?_, T2, [], l2, rs ++ [t], dn ++ [row], ls', _, _, _, _, rfl, rfl, k6.trans (s7.keep τ), hT7, s7 _ _ hlv6, LvAts.keep (s7.keep τ) hT6 (Ext.refl _) hD6, upd_same, nl2lv, hT6.off nl2, (fun n h => by cases h), ⟨(fun x hx => by cases hx), (fun x hx => by cases hx), (fun x hx => by cases hx), by decide⟩, hL', hLL6, by decide, ?_, ?_⟩
        · exact nlen
        · show T2.length + 600 * 0 ≤ _
          omega
        · have : 0 < row.length := nlen
          show (dn ++ [row]).length + 0 ≤ 300
          omega
end
end K33
/-! K33T7: spans_of, fixed_blocks, fixed_of. -/
namespace K33
open PySem PySem.Spec PyProof.Rows L2
/-- at q stands a known tuple of spans -/
def SpT (H : Hp) (q : Addr) (sp : List (Nat × Nat)) : Prop := ∃ rs, FrT H q (rs.map V.ref) ∧ Spn H rs sp
abbrev SpTs (H : Hp) (qs : List Addr) (sps : List (List (Nat × Nat))) : Prop := Paired (fun (q : Addr) (sp : List (Nat × Nat)) => SpT H q sp) qs sps
theorem SpT.same {H H' : Hp} (s : Same H H') {q : Addr} {sp : List (Nat × Nat)} (h : SpT H q sp) : SpT H' q sp := by
  obtain ⟨rs, h1, h2⟩ := h
  exact ⟨rs, h1.same s, Spn.tm s.tm h2⟩
theorem SpTs.same {H H' : Hp} (s : Same H H') : ∀ {qs : List Addr} {sps : List (List (Nat × Nat))}, SpTs H qs sps → SpTs H' qs sps
  | _, _, .nil => .nil
  | _, _, .cons h r => .cons (SpT.same s h) (SpTs.same s r)
theorem SpTs.snoc {H : Hp} {q : Addr} {sp : List (Nat × Nat)} {qs : List Addr} {sps : List (List (Nat × Nat))} (h : SpT H q sp) (t : SpTs H qs sps) : SpTs H (qs ++ [q]) (sps ++ [sp]) :=
  paired_snoc (R := fun (q : Addr) (sp : List (Nat × Nat)) => SpT H q sp) h t
/-- a write to a list -/
theorem SpT.put {H : Hp} {p : Addr} {xs : List V} {o : HO} (hl : H p = some (.lst xs)) {q : Addr} {sp : List (Nat × Nat)} (h : SpT H q sp) : SpT (upd H p o) q sp := by
  obtain ⟨rs, ⟨ob, h1, h2⟩, h3⟩ := h
  exact ⟨rs, ⟨ob, by rw [upd_ne (ne_of h1 hl (by intro z; cases z))]; exact h1, h2⟩, Spn.tm (Tm.lst (Tm.refl _) hl) h3⟩
theorem SpTs.put {H : Hp} {p : Addr} {xs : List V} {o : HO} (hl : H p = some (.lst xs)) : ∀ {qs : List Addr} {sps : List (List (Nat × Nat))}, SpTs H qs sps → SpTs (upd H p o) qs sps
  | _, _, .nil => .nil
  | _, _, .cons h r => .cons (SpT.put hl h) (SpTs.put hl r)
section
variable {P : Program} {w : World} {C : Addr} {H H1 H' : Hp} {τ : TA} {T : List Nd}
theorem FrT.keep (k : Keep τ H H') (hT : TabAt P w C H τ T) {p : Addr} {xs : List V} (h : FrT H p xs) : FrT H' p xs := by
  obtain ⟨o, e, d⟩ := h
  obtain ⟨ks, hd, _⟩ := hT.dct
  obtain ⟨es, h1, _⟩ := hT.ent
  obtain ⟨as, h2, _⟩ := hT.cod
  exact ⟨o, k p _ e (ne_of e hd (by intro z; cases z)) (ne_of e h1 (by intro z; cases z)) (ne_of e h2 (by intro z; cases z)) (ne_of e hT.siz (by intro z; cases z)), d⟩
theorem SpT.keep (k : Keep τ H H') (hT : TabAt P w C H τ T) {q : Addr} {sp : List (Nat × Nat)} (h : SpT H q sp) : SpT H' q sp := by
  obtain ⟨rs, h1, h2⟩ := h
  exact ⟨rs, h1.keep k hT, Spn.tm (k.tm hT) h2⟩
theorem SpTs.keep (k : Keep τ H H') (hT : TabAt P w C H τ T) : ∀ {qs : List Addr} {sps : List (List (Nat × Nat))}, SpTs H qs sps → SpTs H' qs sps
  | _, _, .nil => .nil
  | _, _, .cons h r => .cons (SpT.keep k hT h) (SpTs.keep k hT r)
/-- a table that is new: all that was there stays -/
theorem Keep.same (k : Keep τ H1 H') (s : Same H H1) (nd : H τ.d = none) (n1 : H τ.l1 = none) (n2 : H τ.l2 = none) (n3 : H τ.l3 = none) : Same H H' := fun b o e =>
  k b o (s b o e) (ne_of_none e nd) (ne_of_none e n1) (ne_of_none e n2) (ne_of_none e n3)
end
section
variable {P : Program} {w : World} {K : PySem.W.Frag} {mg : Str → Option Value} {base : Heap}
/-! ### spans_of -/
def spSpans : Sp := fun vs H Q _ => ∃ (a : Addr) (row : List Nd) (xs : List V), vs = [.ref a] ∧ H a = some (.tup xs) ∧ EVs H row xs ∧ (∀ n ∈ row, El n) ∧ row.length ≤ 300 ∧
  ∀ (p : Addr) (H' : Hp) (qs : List Addr) (ls : List (List Nd)), Same H H' → H' p = some (.tup (qs.map V.ref)) → Levels row ls → SpTs H' qs (ls.map (spanL 0)) → Q (.ref p) H'
theorem sc_spans_of : FnScope ["contents", "table", "level"] ["contents"] (defScope s_spans_of) := ⟨rfl, rfl, rfl, by decide +kernel, rfl, by decide +kernel, by decide +kernel⟩
theorem levels_row_le {row : List Nd} {ls : List (List Nd)} (h : Levels row ls) : ∀ r ∈ ls, r.length ≤ row.length := by
  induction h with
  | nil => intro r hr; cases hr
  | cons ne _ ih =>
    intro r hr
    rcases List.mem_cons.mp hr with rfl | hr
    · exact Nat.le_refl _
    · have h1 := ih r hr
      have h2 := nextRow_len ne
      omega
theorem ok_spans {C : Addr} (T : Tx K mg C) : Cal P w K mg base "spans_of" 9 ["contents"] spSpans := by
  obtain ⟨fG, fdG, GG, mG, kG, bG⟩ := (ok_grow (P := P) (w := w) (base := base) T).ex
  obtain ⟨fR, fdR, GR, mR, kR, bR⟩ := (ok_row_spans (P := P) (w := w) (base := base) T).ex
  obtain ⟨fT, fdT, FT, MT⟩ := T.made
  have GT := ok_tinit (P := P) (w := w) (base := base) T FT
  have bT : Binds K fdT ["self"] [] := FunD.bindsN FT (fun _ _ _ _ _ _ us hl => match us, hl with | [_], _ => rfl)
  refine T.d_spans_of.cal (fun _ _ _ _ _ _ us hl => match us, hl with | [_], _ => rfl) fun f fd F _ _ _ => ?_
  refine okD F sc_spans_of (fun vs H Q E h => ?_) (fun cdv A outer s H vs Q E hr h => ?_)
  · obtain ⟨a, row, xs, rfl, _⟩ := h
    rfl
  · obtain ⟨a, row, xs, rfl, ha, hE, hel, hrl, q⟩ := h
    have hr2 : Room 2 _ := hr.mono (by decide)
    have hr1 : Room 1 _ := hr.mono (by decide)
    refine ⟨_, pss_cons (ps_set (i := 1) sc_spans_of.nd rfl (Or.inr rfl) (pe_make0 MT GT hr2 rfl T.mgC bT .nil pass0))
      (pss_one (ps_ret (pe_callTy call_tuple_of (by rfl) T.n_tuple b_tuple (pa_cons (pe_lc (own := [("level", 2)]) (g := gName 2) (te := tCall (spRowSpans P w C) [] E0 (tCons (tVar 1) (tCons (tOp (rIxT K) (tVar 2) (tC (.int 0))) (tCons (tC (.int 0)) tNil)))) rfl sc_spans_of.nd
        (pi_list (pe_call GG hr rfl mG kG bG .nil pass0 (pa_cons (pv 1) (pa_cons (pv 0) pa_nil))))
        (blkOk_by (own := [("level", 2)]) (N := ["contents", "table", "level"]) (sc := defScope s_spans_of) (by decide +kernel)) (fun _ _ _ _ _ => pg_name (i := 2) sc_spans_of.nd rfl (Or.inl rfl) (Or.inr rfl)) (fun _ _ _ _ _ => pts_nil)
        (fun _ _ _ _ _ => pe_call GR hr1 rfl mR kR bR .nil pass0 (pa_cons (pv 1) (pa_cons (pe_ix ix_tup (pv 2) pe_int (fun _ _ => rfl)) (pa_cons pe_int pa_nil))))) pa_nil)))), ?_⟩
    intro t dx nt ndx hne
    have sA : Same H (upd H dx (.own t)) := same_new ndx
    have nt1 : upd H dx (.own t) t = none := by rw [upd_ne hne.symm]; exact nt
    have sB : Same H (upd (upd H dx (.own t)) t (.ins C dx [])) := sA.new nt1
    refine ⟨t, dx, rfl, upd_same, fun H1 τ hold ht hTb nd n1 n2 n3 => ?_⟩
    have s1 : Same H H1 := fun b o e => hold b o (sB b o e) (ne_of_none e nt)
    have md := sB.free nd
    have m1 := sB.free n1
    have m2 := sB.free n2
    have m3 := sB.free n3
    refine ⟨rfl, ?_⟩
    refine ⟨_, rfl, _, rfl, τ, a, row, xs, by rw [ht]; rfl, hTb, s1 _ _ ha, EVs.tm s1.tm hE, hel, hrl, fun lv H2 T2 rs ls k2 nlv hlv hT2 hLv hL => ?_⟩
    have s2 : Same H H2 := k2.same s1 md m1 m2 m3
    refine ⟨lv, rfl, ⟨_, SqL.of hlv⟩, fun D hD => ?_⟩
    have nlvD : lv ≠ D := ne_of_none hlv hD
    have lrs := Paired.length hLv
    refine lc_list (K := K) (a := lv) (xs := rs.map V.ref) (fun i H' => ∃ qs : List Addr, Same H2 H' ∧ H' D = some (.lst (qs.map V.ref)) ∧ SpTs H' qs ((ls.take i).map (spanL 0)))
      ⟨[], same_new hD, upd_same, .nil⟩ (fun i H' _ ⟨_, s3, _⟩ => SqL.of (s3 _ _ hlv)) ?_ ?_
    · rintro i x H3 hi ⟨qs, s3, hd, hq⟩
      rw [List.getElem?_map] at hi
      cases er : rs[i]? with
      | none =>
        rw [er] at hi
        cases hi
      | some r =>
        rw [er] at hi
        have hi : V.ref r = x := Option.some.inj hi
        subst hi
        obtain ⟨rw', ew, l, u1, u2, u3, hr3, hl, _, _, hm⟩ := paired_get hLv er
        have lrw := levels_row_le hL rw' (List.mem_of_getElem? ew)
        have lqs := Paired.length hq
        rw [List.length_map, List.length_take] at lqs
        have lls := hL.len
        refine ⟨rfl, ?_⟩
        refine ⟨_, rfl, _, rfl, r, _, _, _, rfl, rfl, SqT.of (s3 _ _ hr3), atI_nat (j := 0) rfl, ?_⟩
        refine ⟨τ, T2, l, rw', 0, by rw [ht]; rfl, hT2.same s3, s3 _ _ hl, hm, by omega, fun p H4 rs4 s4 np fr hsp => ?_⟩
        have hd4 := s4 _ _ hd
        refine ⟨_, hd4, lt_line (by rw [List.length_map]; omega), qs ++ [p], (s3.trans s4).put hD, ?_, ?_⟩
        · rw [upd_same, refs_snoc]
        · rw [List.take_add_one, ew, List.map_append]
          exact SpTs.snoc (SpT.put hd4 ⟨rs4, fr, hsp⟩) (SpTs.put hd4 (SpTs.same s4 hq))
    · rintro H3 ⟨qs, s3, hd, hq⟩
      rw [List.length_map, lrs, List.take_length] at hq
      refine ⟨D, _, rfl, .inl ⟨SqL.of hd, fun p np => ?_⟩⟩
      exact q p _ qs ls ((s2.trans s3).new np) upd_same hL (SpTs.same (same_new np) hq)
/-! ### fixed_blocks -/
def spFixB (P : Program) (w : World) (C : Addr) : Sp := fun vs H Q _ => ∃ (τ : TA) (T : List Nd) (l : Addr) (row : List Nd) (s : Nat), vs = [.ref τ.t, .ref l, .int (s : Int)] ∧ TabAt P w C H τ T ∧ H l = some (.lst (nums T row)) ∧ RowOk row ∧ row ≠ [] ∧ row.length ≤ 300 ∧ (∀ n ∈ row, n ∈ T) ∧ T.length ≤ 300000 ∧
  ∀ (p b : Addr) (H' : Hp) (T' : List Nd), Keep τ H H' → H b = none → H' p = some (.tup [.ref b, .int ((s + fixOff row : Nat) : Int)]) → H' b = some (.lst (nums T' (fixRow row))) → TabAt P w C H' τ T' → Ext T T' → (∀ n ∈ fixRow row, n ∈ T') → T'.length ≤ T.length + 600 → Q (.ref p) H'
theorem sc_fixB : FnScope ["table", "row", "start", "items", "blocks", "end", "part", "place", "item"] ["table", "row", "start"] (defScope s_fixed_blocks) := ⟨rfl, rfl, rfl, by decide +kernel, rfl, by decide +kernel, by decide +kernel⟩
theorem flat_take (ps : List (List Nd)) (i : Nat) {q : List Nd} (h : ps[i]? = some q) : (ps.take (i + 1)).flatten.length = (ps.take i).flatten.length + q.length := by
  rw [List.take_add_one, h]
  show (ps.take i ++ [q]).flatten.length = _
  rw [List.flatten_append, List.length_append]
  simp
theorem ok_fixB {C : Addr} (T : Tx K mg C) : Cal P w K mg base "fixed_blocks" 8 ["table", "row", "start"] (spFixB P w C) := by
  obtain ⟨fI, fdI, GI, mI, kI, bI⟩ := (ok_item_row (P := P) (w := w) (base := base) T).ex
  obtain ⟨fC, fdC, GC, mC, kC, bC⟩ := (ok_color_row (P := P) (w := w) (base := base) T).ex
  obtain ⟨fS, fdS, GS, mS, kS, bS⟩ := (ok_starts (P := P) (w := w) (base := base) T).ex
  obtain ⟨fU, fdU, GU, mU, kU, bU⟩ := (ok_cut (P := P) (w := w) (base := base) T).ex
  obtain ⟨fN, fdN, GN, mN, bN⟩ := (ok_number (P := P) (w := w) (base := base) T).ex
  obtain ⟨t1, m1⟩ := T.c_BEFORE
  obtain ⟨t2, m2⟩ := T.c_BEHIND
  refine T.d_fixed_blocks.cal (fun _ _ _ _ _ _ us hl => match us, hl with | [_, _, _], _ => rfl) fun f fd F _ _ _ => ?_
  refine okD F sc_fixB (fun vs H Q E h => ?_) (fun cdv A outer s H vs Q E hr h => ?_)
  · obtain ⟨τ, T', l, row, s, rfl, _⟩ := h
    rfl
  · obtain ⟨τ, T', l, row, s0, rfl, hT, hl, ok, hne, hrl, hm, hTl, q⟩ := h
    have hr5 : Room 5 _ := hr.mono (by decide)
    have hr4 : Room 4 _ := hr.mono (by decide)
    have hr2 : Room 2 _ := hr.mono (by decide)
    have hr1 : Room 1 _ := hr.mono (by decide)
    refine ⟨_, pss_cons (ps_set (i := 3) sc_fixB.nd rfl (Or.inl rfl) (pe_call GI hr rfl mI kI bI .nil pass0 (pa_cons (pv 0) (pa_cons (pv 1) pa_nil))))
      (pss_cons (ps_set (i := 4) sc_fixB.nd rfl (Or.inl rfl) (pe_lst pa_nil))
      (pss_cons (ps_set (i := 5) sc_fixB.nd rfl (Or.inl rfl) pe_int)
      (pss_cons (ps_for PassesOwn.never rfl (pi_list (pe_call GU hr1 rfl mU kU bU .nil pass0 (pa_cons (pv 3) (pa_cons (pe_call GS hr2 rfl mS kS bS .nil pass0 (pa_cons (pe_call GC hr4 rfl mC kC bC .nil pass0 (pa_cons (pv 0) (pa_cons (pv 3) pa_nil))) pa_nil)) pa_nil))))
          (pg_name (i := 6) sc_fixB.nd rfl (Or.inl rfl))
        (pss_cons (ps_set (i := 7) sc_fixB.nd rfl (Or.inl rfl) (pv 5))
        (pss_cons (ps_set (i := 5) sc_fixB.nd rfl (Or.inl rfl) (pe_op op_add (pv 7) (pe_callB call_len_seq (by rfl) T.n_len b_len (pa_cons (pv 6) pa_nil))))
        (pss_one (ps_if (pt_cmpR op_lt (pv 7) (pe_glob (by rfl) m1 (relI _ _)) (nomark _))
          (pss_one (ps_aug (i := 2) sc_fixB.nd rfl (Or.inl rfl) (pe_callB (cr_sum rfl) (by rfl) T.n_sum b_sum (pa_cons
              (pe_lc (own := [("item", 8)]) (g := gName 8) (te := tOp (rIxL K) (tFld K (tVar 0) "sizes") (tVar 8)) rfl sc_fixB.nd (pi_tup (pv 6)) (blkOk_by (own := [("item", 8)]) (N := ["table", "row", "start", "items", "blocks", "end", "part", "place", "item"]) (sc := defScope s_fixed_blocks) (by decide +kernel))
                (fun _ _ _ _ _ => pg_name (i := 8) sc_fixB.nd rfl (Or.inl rfl) (Or.inr rfl)) (fun _ _ _ _ _ => pts_nil) (fun _ _ _ _ _ => pe_ix ix_list (pe_fld (pv 0) rfl) (pv 8) (fun _ _ => rfl))) pa_nil)) ip_add))
          (pss_one (ps_if (pt_cmpR op_le (pe_op op_add (pv 5) (pe_glob (by rfl) m2 (relI _ _))) (pe_callB call_len_seq (by rfl) T.n_len b_len (pa_cons (pv 3) pa_nil)) (nomark _))
            (pss_one (ps_expr (pe_bm PySem.F.plainAttrs_list PySem.F.slot_list_append PySem.F.type_list_append mt_append (pv 4) (pa_cons (pe_meth (pv 0) T.cl mN GN hr5 bN .nil pass0 (pa_cons (pe_tup (pa_cons pe_str (pa_cons (pv 6) pa_nil))) pa_nil)) pa_nil))))
            pss_nil)))))))
      (pss_one (ps_ret (pe_tup (pa_cons (pv 4) (pa_cons (pv 2) pa_nil)))))))), ?_⟩
    have il := items_len row
    have ine := items_ne hne
    have ipos : 0 < (items row).length := by
      cases e : items row with
      | nil => exact absurd e ine
      | cons => simp
    have cl := cods_length (items row)
    refine ⟨_, rfl, _, rfl, τ, T', l, row, rfl, hT, hl, ok, by omega, hm, by omega, fun p H2 T2 k2 np hp2 hT2 x2 hm2 hle2 => ?_⟩
    refine ⟨Nat.zero_le _, fun D nD => ?_⟩
    have sD : Same H2 (upd H2 D (.lst [])) := same_new nD
    have hTD := hT2.same sD
    have offD := hT2.off nD
    have hD0 : H D = none := Keep.free k2 hT2 nD
    refine ⟨_, rfl, _, rfl, _, rfl, τ, T2, p, items row, rfl, hTD, sD _ _ hp2, cods_row ok, by omega, hm2, fun pc H3 s3 hpc3 => ?_⟩
    refine ⟨pc, cods (items row), rfl, SqT.of hpc3, by omega, by omega, fun ps H4 s4 hps4 => ?_⟩
    have sD4 := (sD.trans s3).trans s4
    refine ⟨p, ps, nums T2 (items row), _, rfl, sD4 _ _ hp2, hps4, fun e he => ?_, ?_, by rw [nums_length]; omega, fun g H8 gs s8 ng hg8 hP => ?_⟩
    · have := startsL_lt (cs := cods (items row)) (by omega) e he
      rw [nums_length]
      omega
    · have h1 := List.length_filter_le (st (cods (items row))) (List.range' 2 ((cods (items row)).length - 3))
      rw [List.length_range'] at h1
      omega
    have hP : Pts H8 gs (slices (nums T2 (items row)) (startsL (cods (items row)))) := hP
    rw [slices_nums T2 ipos] at hP
    have lgs := Paired.length hP
    rw [List.length_map] at lgs
    have lpp := parts_len_le (items row)
    have s28 : Same H2 H8 := sD4.trans s8
    have hT8 := hT2.same s28
    have hD8 : H8 D = some (.lst []) := s8 _ _ (s4 _ _ (s3 _ _ upd_same))
    have hT4 := hT2.same sD4
    have offg := hT4.off ng
    have ngD : g ≠ D := fun e => by
      have h4 : H4 D = some (.lst []) := s4 _ _ (s3 _ _ upd_same)
      rw [← e, ng] at h4
      cases h4
    have hp8 : H8 p = some (.tup (nums T2 (items row))) := s28 _ _ hp2
    refine ⟨g, rfl, ⟨_, SqL.of hg8⟩, ?_⟩
    refine for_list (K := K) (a := g) (xs := gs.map V.ref) (fun i σ H' => ∃ (Ti bs : List Nd) (z e : Int) (pl : Nat) (sz : Nat) (o6 o7 o8 : Option V), σ = [some (.ref τ.t), some (.ref l), some (.int z), some (.ref p), some (.ref D), some (.int e), o6, o7, o8] ∧
        Keep τ H H' ∧ Tm H8 H' ∧ H' g = some (.lst (gs.map V.ref)) ∧ TabAt P w C H' τ Ti ∧ Ext T2 Ti ∧ (∀ n ∈ bs, n ∈ Ti) ∧ Ti.length ≤ T2.length + i ∧ bs.length ≤ i ∧ H' D = some (.lst (nums Ti bs)) ∧
        e = (pl : Int) ∧ z = (sz : Int) ∧ sz + skp size pl ((parts (items row)).drop i) = s0 + fixOff row ∧ bs ++ blks (fxp (items row).length pl ((parts (items row)).drop i)) = fixRow row)
      ⟨T2, [], s0, 0, 0, s0, _, _, _, rfl, k2.trans (s28.keep τ), Tm.refl _, hg8, hT8, Ext.refl T2, (fun n h => by cases h), Nat.le_refl _, Nat.le_refl _, hD8, rfl, rfl, rfl, rfl⟩ (fun i σ H' _ ⟨_, _, _, _, _, _, _, _, _, _, _, _, hg', _⟩ => SqL.of hg') ?_ ?_
    · rintro i x σ H9 hi ⟨Ti, bs, z, e, pl, sz, o6, o7, o8, rfl, k9, t9, hg9, hTi, x9, hm9, hle9, hbl, hd9, he, hz, hsk, hfx⟩
      rw [List.getElem?_map] at hi
      cases er : gs[i]? with
      | none =>
        rw [er] at hi
        cases hi
      | some r =>
        rw [er] at hi
        have hi : V.ref r = x := Option.some.inj hi
        subst hi
        obtain ⟨zs, ez, hr'⟩ := paired_get hP er
        rw [List.getElem?_map] at ez
        cases eq : (parts (items row))[i]? with
        | none =>
          rw [eq] at ez
          cases ez
        | some pt =>
          rw [eq] at ez
          have ez : nums T2 pt = zs := Option.some.inj ez
          subst ez
          have mpt := List.mem_of_getElem? eq
          have lt := (List.getElem?_eq_some_iff.mp eq).1
          have ptT : ∀ n ∈ pt, n ∈ T2 := fun n hn => hm2 n (parts_mem mpt n hn)
          have hr9 : H9 r = some (.tup (nums T2 pt)) := t9 _ _ hr'
          have dr := drop_cons eq
          rw [dr] at hsk hfx
          have ept : ((nums T2 pt).length : Int) = (pt.length : Int) := by rw [nums_length]
          refine ⟨_, rfl, _, rfl, _, rfl, r, _, rfl, .inr (SqT.of hr9), _, _, rfl, rfl, ?_⟩
          refine ⟨_, rfl, _, _, rfl, rfl, _, rfl, ite2d (fun c => ?_) (fun c => ?_)⟩
          · -- ahead of the first fixed one
            have c : pl < 7 := by omega
            rw [skp_lt c] at hsk
            rw [fxp_lt c] at hfx
            refine ⟨_, rfl, ?_⟩
            refine ⟨_, rfl, r, rfl, ⟨_, SqT.of hr9⟩, fun D2 hD2 => ?_⟩
            refine lc_tup (K := K) (a := r) (xs := nums T2 pt) (fun j H' => Same H9 H' ∧ H' D2 = some (.lst (sizesV (pt.take j)))) ⟨same_new hD2, upd_same⟩ (fun j H' _ ⟨s3, _⟩ => SqT.of (s3 _ _ hr9)) ?_ ?_
            · rintro j x H10 hj ⟨s10, hd10⟩
              cases ec : pt[j]? with
              | none =>
                unfold nums at hj
                rw [List.getElem?_map, ec] at hj
                cases hj
              | some c' =>
                rw [nums_at ec] at hj
                have hj : V.int (idx T2 c' : Int) = x := Option.some.inj hj
                subst hj
                have mc := ptT c' (List.mem_of_getElem? ec)
                have hT10 := hTi.same s10
                have ll := parts_mem mpt
                have lpt : pt.length ≤ 300 := by
                  have h1 : pt.length ≤ (parts (items row)).flatten.length := by
                    have := (List.sublist_flatten_of_mem mpt).length_le
                    exact this
                  rw [parts_flat] at h1
                  omega
                have ltj := (List.getElem?_eq_some_iff.mp ec).1
                refine ⟨rfl, ?_⟩
                refine ⟨_, rfl, τ.t, C, τ.dx, _, _, rfl, hT10.ins, T.cl, T.na_sizes, tf_sizes _ _ _ _, _, rfl, τ.l3, _, _, _, rfl, rfl, SqL.of hT10.siz, atI_nat (j := idx T2 c') (sizesV_at (by rw [← x9.idx mc]; exact idx_get (x9.mem mc))), ?_⟩
                refine ⟨_, hd10, lt_line (by rw [sizesV_length, List.length_take]; omega), s10.put hD2, ?_⟩
                rw [upd_same, List.take_add_one, ec]
                show _ = some (HO.lst (sizesV (pt.take j ++ [c'])))
                rw [sizesV_snoc]
            · rintro H10 ⟨s10, hd10⟩
              rw [nums_length, List.take_length, sizesV_ints] at hd10
              refine ⟨D2, _, rfl, SqL.of hd10, ?_⟩
              refine ⟨_, _, rfl, rfl, ?_⟩
              refine ⟨Ti, bs, _, _, pl + pt.length, sz + sizeL pt, _, _, _, rfl, k9.trans (s10.keep τ), t9.trans s10.tm, s10 _ _ hg9, hTi.same s10, x9, hm9, by omega, by omega, s10 _ _ hd9, by rw [he, ept]; omega, ?_, ?_, hfx⟩
              · rw [hz, sum_sizes]
                show (sz : Int) + (sizeL pt : Int) = ((sz + sizeL pt : Nat) : Int)
                omega
              · rw [← sizeL_eq] at hsk
                omega
          · have c : ¬ pl < 7 := by omega
            rw [skp_ge c] at hsk
            refine ⟨_, rfl, _, _, rfl, rfl, _, rfl, p, _, rfl, .inr (SqT.of (t9 _ _ hp8)), _, _, rfl, rfl, _, rfl, ?_⟩
            rw [nums_length (row := items row)]
            refine ite2d (fun c2 => ?_) (fun c2 => ?_)
            · -- a fixed one
              have c2 : pl + pt.length + 3 ≤ (items row).length := by
                rw [he, ept] at c2
                omega
              rw [fxp_in c c2] at hfx
              have h2 : 1 < (items row).length := by omega
              have enx := nextRow_big h2
              have okn := nextRow_ok ok
              rw [enx] at okn
              have mb : Nd.blk pt ∈ blks (parts (items row)) := List.mem_map.mpr ⟨pt, mpt, rfl⟩
              refine ⟨_, rfl, .inl ⟨rfl, _, SqL.of hd9⟩, ?_⟩
              refine ⟨_, rfl, τ.t, τ.dx, _, rfl, hTi.ins, tf_number_of _ _ _ _, _, rfl, by show 2 ≤ sizeLine; rw [sizeLine_eq]; decide, fun b nb => ?_⟩
              have nDb : D ≠ b := ne_of_none hd9 nb
              have ngb : g ≠ b := ne_of_none hg9 nb
              refine ⟨τ, Ti, .blk pt, b, rfl, hTi.same (same_new nb), ⟨r, upd_same, ?_⟩, okn.good _ mb, ?_, fun c' hc => x9.mem (ptT c' hc), by omega, fun H10 k10 hT10 => ?_⟩
              · rw [upd_ne (ne_of_none hr9 nb), nums_ext x9 ptT]
                exact hr9
              · have := size_mem mb
                have := okn.few
                omega
              have hd10 : H10 D = some (.lst (nums Ti bs)) := k10 D _ (by rw [upd_ne nDb]; exact hd9) offD.d offD.l1 offD.l2 offD.l3
              have hg10 : H10 g = some (.lst (gs.map V.ref)) := k10 g _ (by rw [upd_ne ngb]; exact hg9) offg.d offg.l1 offg.l2 offg.l3
              have t10 : Tm H9 H10 := (same_new nb).tm.trans (k10.tm (hTi.same (same_new nb)))
              refine ⟨D, _, _, rfl, rfl, hd10, lt_line (by rw [nums_length]; omega), ?_⟩
              have tl : Tm H10 (upd H10 D (.lst (nums Ti bs ++ [.int (idx (addN Ti (.blk pt)) (.blk pt) : Int)]))) := Tm.lst (Tm.refl _) hd10
              refine ⟨addN Ti (.blk pt), bs ++ [.blk pt], _, _, pl + pt.length, sz, _, _, _, rfl, ((k9.new nb).trans k10).put hD0, (t9.trans t10).trans tl, by rw [upd_ne ngD]; exact hg10, hT10.other offD tl, x9.trans (addN_ext _ _), ?_, ?_, ?_, ?_, by rw [he, ept]; omega, hz, hsk, ?_⟩
              · intro n hn
                rcases List.mem_append.mp hn with h | h
                · exact (addN_ext _ _).mem (hm9 n h)
                · rw [List.mem_singleton.mp h]
                  exact addN_mem _ _
              · have := addN_len Ti (.blk pt)
                omega
              · rw [List.length_append, List.length_singleton]
                omega
              · rw [upd_same, nums_snoc, nums_ext (addN_ext _ _) hm9]
              · rw [List.append_assoc]
                exact hfx
            · have c2 : ¬ pl + pt.length + 3 ≤ (items row).length := by
                rw [he, ept] at c2
                omega
              rw [fxp_out c c2] at hfx
              exact ⟨Ti, bs, _, _, pl + pt.length, sz, _, _, _, rfl, k9, t9, hg9, hTi, x9, hm9, by omega, by omega, hd9, by rw [he, ept]; omega, hz, hsk, hfx⟩
    · rintro σ H9 ⟨Ti, bs, z, e, pl, sz, o6, o7, o8, rfl, k9, t9, hg9, hTi, x9, hm9, hle9, hbl, hd9, he, hz, hsk, hfx⟩
      rw [List.length_map, lgs] at hsk hfx hle9
      rw [List.drop_length] at hsk hfx
      have hsk : sz = s0 + fixOff row := hsk
      have hfx : bs ++ [] = fixRow row := hfx
      rw [List.append_nil] at hfx
      rw [hfx] at hm9 hd9
      refine ⟨_, rfl, _, rfl, by show 2 ≤ sizeLine; rw [sizeLine_eq]; decide, fun t nt => ?_⟩
      refine q t D _ Ti (k9.new nt) hD0 ?_ ((same_new nt) _ _ hd9) (hTi.same (same_new nt)) (x2.trans x9) hm9 (by omega)
      rw [upd_same, hz, hsk]
end
end K33
/-! K33T8: fixed_of. -/
namespace K33
open PySem PySem.Spec PyProof.Rows L2
/-- the state of fixed_of's loop -/
def FixW (P : Program) (w : World) (C : Addr) (H H0 : Hp) (τ : TA) (a lv : Addr) (row0 : List Nd) (m : Nat) (σ : L2.St) (H' : Hp) : Prop :=
  ∃ (T row : List Nd) (l : Addr) (z : Int) (s : Nat) (qs : List Addr) (dn rest : List (List Nd × Nat)), σ = [some (.ref a), some (.ref τ.t), some (.ref l), some (.int z), some (.ref lv)] ∧ z = (s : Int) ∧ m = row.length ∧ Keep τ H0 H' ∧ TabAt P w C H' τ T ∧
    H' lv = some (.lst (qs.map V.ref)) ∧ SpTs H' qs (dn.map fun f => spanL f.2 f.1) ∧ H' l = some (.lst (nums T row)) ∧ l ≠ lv ∧ Off τ l ∧ (∀ n ∈ row, n ∈ T) ∧ RowOk row ∧ Fixes row s rest ∧ Fixes row0 0 (dn ++ rest) ∧ row.length ≤ 300 ∧ T.length + 600 * row.length ≤ 200000 ∧ dn.length + row.length ≤ 300
section
variable {P : Program} {w : World} {K : PySem.W.Frag} {mg : Str → Option Value} {base : Heap}
def spFixed : Sp := fun vs H Q _ => ∃ (a : Addr) (row : List Nd) (xs : List V), vs = [.ref a] ∧ H a = some (.tup xs) ∧ EVs H row xs ∧ (∀ n ∈ row, El n) ∧ row.length ≤ 300 ∧
  ∀ (p : Addr) (H' : Hp) (qs : List Addr) (fs : List (List Nd × Nat)), Same H H' → H' p = some (.tup (qs.map V.ref)) → Fixes row 0 fs → SpTs H' qs (fs.map fun f => spanL f.2 f.1) → Q (.ref p) H'
theorem sc_fixed : FnScope ["contents", "table", "row", "start", "found"] ["contents"] (defScope s_fixed_of) := ⟨rfl, rfl, rfl, by decide +kernel, rfl, by decide +kernel, by decide +kernel⟩
theorem ok_fixed {C : Addr} (T : Tx K mg C) : Cal P w K mg base "fixed_of" 9 ["contents"] spFixed := by
  obtain ⟨fF, fdF, GF, mF, kF, bF⟩ := (ok_leaf_row (P := P) (w := w) (base := base) T).ex
  obtain ⟨fB, fdB, GB, mB, kB, bB⟩ := (ok_fixB (P := P) (w := w) (base := base) T).ex
  obtain ⟨fR, fdR, GR, mR, kR, bR⟩ := (ok_row_spans (P := P) (w := w) (base := base) T).ex
  obtain ⟨fT, fdT, FT, MT⟩ := T.made
  have GT := ok_tinit (P := P) (w := w) (base := base) T FT
  have bT : Binds K fdT ["self"] [] := FunD.bindsN FT (fun _ _ _ _ _ _ us hl => match us, hl with | [_], _ => rfl)
  refine T.d_fixed_of.cal (fun _ _ _ _ _ _ us hl => match us, hl with | [_], _ => rfl) fun f fd F _ _ _ => ?_
  refine okD F sc_fixed (fun vs H Q E h => ?_) (fun cdv A outer s H vs Q E hr h => ?_)
  · obtain ⟨a, row, xs, rfl, _⟩ := h
    rfl
  · obtain ⟨a, row0, xs, rfl, ha, hE, hel, hrl, q⟩ := h
    have hr6 : Room 6 _ := hr.mono (by decide)
    have hr2 : Room 2 _ := hr.mono (by decide)
    have hr1 : Room 1 _ := hr.mono (by decide)
    refine ⟨_, pss_cons (ps_set (i := 1) sc_fixed.nd rfl (Or.inl rfl) (pe_make0 MT GT hr2 rfl T.mgC bT .nil pass0))
      (pss_cons (ps_set (i := 2) sc_fixed.nd rfl (Or.inl rfl) (pe_call GF hr6 rfl mF kF bF .nil pass0 (pa_cons (pv 1) (pa_cons (pv 0) pa_nil))))
      (pss_cons (ps_set (i := 3) sc_fixed.nd rfl (Or.inl rfl) pe_int)
      (pss_cons (ps_set (i := 4) sc_fixed.nd rfl (Or.inl rfl) (pe_lst pa_nil))
      (pss_cons (ps_while PassesOwn.never (pt_truth (pv 2) (by intro _; rfl))
        (pss_cons (ps_expr (pe_bm PySem.F.plainAttrs_list PySem.F.slot_list_append PySem.F.type_list_append mt_append (pv 4) (pa_cons (pe_call GR hr1 rfl mR kR bR .nil pass0 (pa_cons (pv 1) (pa_cons (pv 2) (pa_cons (pv 3) pa_nil)))) pa_nil)))
        (pss_one (ps_asg (pe_call GB hr rfl mB kB bB .nil pass0 (pa_cons (pv 1) (pa_cons (pv 2) (pa_cons (pv 3) pa_nil))))
          (pg_tup rfl (pgs_cons (pg_name (i := 2) sc_fixed.nd rfl (Or.inl rfl)) (pgs_cons (pg_name (i := 3) sc_fixed.nd rfl (Or.inl rfl)) pgs_nil)))))))
      (pss_one (ps_ret (pe_callTy call_tuple_of (by rfl) T.n_tuple b_tuple (pa_cons (pv 4) pa_nil)))))))), ?_⟩
    intro t dx nt ndx hne
    have sA : Same H (upd H dx (.own t)) := same_new ndx
    have nt1 : upd H dx (.own t) t = none := by rw [upd_ne hne.symm]; exact nt
    have sB : Same H (upd (upd H dx (.own t)) t (.ins C dx [])) := sA.new nt1
    refine ⟨t, dx, rfl, upd_same, fun H1 τ hold ht hTb nd n1 n2 n3 => ?_⟩
    have s1 : Same H H1 := fun b o e => hold b o (sB b o e) (ne_of_none e nt)
    have md := sB.free nd
    have m1 := sB.free n1
    have m2 := sB.free n2
    have m3 := sB.free n3
    refine ⟨rfl, ?_⟩
    subst ht
    refine ⟨_, rfl, _, rfl, τ, [], a, row0, xs, rfl, hTb, s1 _ _ ha, EVs.tm s1.tm hE, hel, by omega, by show 0 + _ ≤ _; omega, fun l H2 T2 k2 nl hl2 hT2 _ hm2 hle2 => ?_⟩
    refine ⟨Nat.zero_le _, fun lv nlv => ?_⟩
    have s3 : Same H2 (upd H2 lv (.lst [])) := same_new nlv
    have nlv1 : H1 lv = none := Keep.free k2 hT2 nlv
    have offlv := hTb.off nlv1
    obtain ⟨rest0, hL0⟩ := fixes_ex row0.length row0 0 (Nat.le_refl _)
    refine ⟨FixW P w C H H1 τ a lv row0, ⟨row0.length, T2, row0, l, 0, 0, [], [], rest0, rfl, rfl, rfl, k2.trans (s3.keep τ), hT2.same s3, upd_same, .nil, s3 _ _ hl2, ne_of_none hl2 nlv, hTb.off nl, hm2, leaves_ok hel (by omega), hL0, hL0, hrl, ?_, by show 0 + _ ≤ _; omega⟩, ?_⟩
    · have : T2.length ≤ 0 + row0.length := hle2
      omega
    rintro m σ H3 ⟨T3, row, l, z, s0, qs, dn, rest, rfl, hz, rfl, k3, hT3, hlv3, hD3, hl3, nl3, offl, hm3, ok, hL, hLL, hrl3, hb3, hdn⟩
    refine ⟨_, rfl, _, .inl ⟨_, SqL.of hl3, rfl⟩, ?_⟩
    cases hL with
    | nil =>
      refine iteF ?_
      rw [List.append_nil] at hLL
      refine ⟨_, rfl, lv, _, rfl, .inl ⟨SqL.of hlv3, fun p np => ?_⟩⟩
      have s03 : Same H H3 := k3.same s1 md m1 m2 m3
      exact q p _ qs dn (s03.new np) upd_same hLL (SpTs.same (same_new np) hD3)
    | @cons _ _ fs' hne hL' =>
      have hnee : (!(nums T3 row).isEmpty) = true := by
        cases row with
        | nil => exact absurd rfl hne
        | cons => rfl
      rw [hnee]
      refine iteT ?_
      refine ⟨fun σ' H' => ∃ m', m' < row.length ∧ FixW P w C H H1 τ a lv row0 m' σ' H', fun _ _ h => h, ?_⟩
      refine ⟨_, rfl, .inl ⟨rfl, _, SqL.of hlv3⟩, ?_⟩
      have lqs := Paired.length hD3
      rw [List.length_map] at lqs
      refine ⟨_, rfl, _, rfl, _, rfl, τ, T3, l, row, s0, by rw [hz]; rfl, hT3, hl3, hm3, by omega, fun p H4 rs4 s4 np fr hsp => ?_⟩
      have hlv4 := s4 _ _ hlv3
      refine ⟨lv, _, _, rfl, rfl, hlv4, lt_line (by rw [List.length_map]; omega), ?_⟩
      have hT4 := hT3.same s4
      have t45 : Tm H4 (upd H4 lv (.lst (qs.map V.ref ++ [.ref p]))) := Tm.lst (Tm.refl _) hlv4
      have hD5 : SpTs (upd H4 lv (.lst (qs.map V.ref ++ [.ref p]))) (qs ++ [p]) ((dn ++ [(row, s0)]).map fun f => spanL f.2 f.1) := by
        rw [List.map_append]
        exact SpTs.snoc (SpT.put hlv4 ⟨rs4, fr, hsp⟩) (SpTs.put hlv4 (SpTs.same s4 hD3))
      have hT5 : TabAt P w C (upd H4 lv (.lst (qs.map V.ref ++ [.ref p]))) τ T3 := hT4.other offlv t45
      have hl5 : upd H4 lv (.lst (qs.map V.ref ++ [.ref p])) l = some (.lst (nums T3 row)) := by
        rw [upd_ne nl3]
        exact s4 _ _ hl3
      have k5 : Keep τ H1 (upd H4 lv (.lst (qs.map V.ref ++ [.ref p]))) := (k3.trans (s4.keep τ)).put nlv1
      have hlv5 : upd H4 lv (.lst (qs.map V.ref ++ [.ref p])) lv = some (.lst ((qs ++ [p]).map V.ref)) := by rw [upd_same, refs_snoc]
      generalize upd H4 lv (.lst (qs.map V.ref ++ [.ref p])) = H5 at hD5 hT5 hl5 k5 hlv5 ⊢
      refine ⟨_, rfl, _, rfl, _, rfl, τ, T3, l, row, s0, by rw [hz]; rfl, hT5, hl5, ok, hne, hrl3, hm3, by omega, fun u b H6 T6 k6 nb hu hb6 hT6 x6 hm6 hle6 => ?_⟩
      refine ⟨u, _, rfl, SqT.of hu, rfl, _, _, rfl, _, _, rfl, rfl, ?_⟩
      have nlen := fixRow_len hne
      have ldn : (dn ++ [(row, s0)]).length = dn.length + 1 := by rw [List.length_append, List.length_singleton]
      have hLL6 : Fixes row0 0 ((dn ++ [(row, s0)]) ++ fs') := by
        rw [List.append_assoc]
        exact hLL
      refine ⟨(fixRow row).length, nlen, T6, fixRow row, b, _, s0 + fixOff row, qs ++ [p], dn ++ [(row, s0)], fs', rfl, rfl, rfl, k5.trans k6, hT6, k6 _ _ hlv5 offlv.d offlv.l1 offlv.l2 offlv.l3, SpTs.keep k6 hT5 hD5, hb6, (ne_of_none hlv5 nb).symm, hT5.off nb, hm6, fixRow_ok ok, hL', hLL6, by omega, by omega, by omega⟩
end
end K33
/-! K33L1: the law's tape and its draws. -/
namespace K33
open PySem PySem.Spec PyProof.Rows L2
/-- what follows a statement, by a word of the states behind it -/
theorem seq_key {a b : TS} {D : Ends} {σ : L2.St} {H : Hp} (R : L2.St → Hp → Prop) (hb : ∀ σ' H', R σ' H' → b D σ' H') (ha : (∀ σ' H', R σ' H' → b D σ' H') → a { D with nx := b D } σ H) : tSeq a b D σ H := ha hb
/-- an assignment of a constant to a name, and what follows -/
theorem seq_set {v : V} {i : Nat} {b : TS} {D : Ends} {σ : L2.St} {H : Hp} (h : b D (σ.set i (some v)) H) : tSeq (tAsg (tC v) (gName i)) b D σ H := h
theorem pos_m1 : (0 : Int) < 2147483647 := by decide
theorem pos_m2 : (0 : Int) < 2147483629 := by decide
/-- at t stands a tape -/
def Tp (H : Hp) (t l : Addr) : Prop := ∃ (ns : List Int) (p n m : Int), H t = some (.lst [.ref l, .int p, .int n, .int m]) ∧ H l = some (.lst (ns.map V.int)) ∧ 0 ≤ p ∧ t ≠ l
/-- all but the tape is as it was -/
def TK (t : Addr) (H H' : Hp) : Prop := ∀ b o, H b = some o → b ≠ t → H' b = some o
theorem TK.refl (t : Addr) (H : Hp) : TK t H H := fun _ _ e _ => e
theorem TK.trans {t : Addr} {H H1 H2 : Hp} (a : TK t H H1) (b : TK t H1 H2) : TK t H H2 := fun c o e h => b c o (a c o e h) h
theorem _root_.L2.Same.tk {H H' : Hp} (s : Same H H') (t : Addr) : TK t H H' := fun b o e _ => s b o e
theorem TK.tm {t l : Addr} {H H' : Hp} (k : TK t H H') (h : Tp H t l) : Tm H H' := fun b xs e => by
  obtain ⟨ns, p, n, m, h1, _⟩ := h
  exact k b _ e (ne_of e h1 (by intro z; cases z))
theorem TK.put {t : Addr} {H0 H : Hp} {p : Addr} {o : HO} (k : TK t H0 H) (h : H0 p = none) : TK t H0 (upd H p o) := fun b x e h1 => by
  rw [upd_ne (ne_of_none e h)]
  exact k b x e h1
theorem TK.new {t : Addr} {H0 H : Hp} {p : Addr} {o : HO} (k : TK t H0 H) (h : H p = none) : TK t H0 (upd H p o) := fun b x e h1 => by
  have e1 := k b x e h1
  rw [upd_ne (ne_of_none e1 h)]
  exact e1
theorem TK.wr {t : Addr} {H0 H : Hp} {o : HO} (k : TK t H0 H) : TK t H0 (upd H t o) := fun b x e h1 => by
  rw [upd_ne h1]
  exact k b x e h1
theorem Tp.ne {H : Hp} {t l : Addr} (h : Tp H t l) {D : Addr} (n : H D = none) : D ≠ t := by
  obtain ⟨ns, p, k, m, h1, _⟩ := h
  exact (ne_of_none h1 n).symm
theorem Tp.neL {H : Hp} {t l : Addr} (h : Tp H t l) {D : Addr} (n : H D = none) : D ≠ l := by
  obtain ⟨ns, p, k, m, _, h2, _⟩ := h
  exact (ne_of_none h2 n).symm
theorem Tp.same {H H' : Hp} {t l : Addr} (h : Tp H t l) (s : Same H H') : Tp H' t l := by
  obtain ⟨ns, p, n, m, h1, h2, h3, h4⟩ := h
  exact ⟨ns, p, n, m, s _ _ h1, s _ _ h2, h3, h4⟩
/-- a write elsewhere -/
theorem Tp.other {H : Hp} {t l D : Addr} {o : HO} (h : Tp H t l) (d1 : D ≠ t) (d2 : D ≠ l) : Tp (upd H D o) t l := by
  obtain ⟨ns, p, n, m, h1, h2, h3, h4⟩ := h
  exact ⟨ns, p, n, m, by rw [upd_ne d1.symm]; exact h1, by rw [upd_ne d2.symm]; exact h2, h3, h4⟩
theorem TK.free {t l : Addr} {H0 H : Hp} (k : TK t H0 H) (h : Tp H t l) {p : Addr} (n : H p = none) : H0 p = none := by
  cases e : H0 p with
  | none => rfl
  | some u =>
    rw [k p u e (h.ne n)] at n
    cases n
section
variable {P : Program} {w : World} {K : PySem.W.Frag} {mg : Str → Option Value} {base : Heap}
/-! ### _law_tape -/
def spTape (K : PySem.W.Frag) : Sp := fun vs H Q _ => ∃ (a : Addr) (ns : List Int), vs = [.ref a] ∧ SqL K H a (ns.map V.int) ∧ ns.length ≤ 63 ∧ ∀ (t l : Addr) (H' : Hp), Same H H' → H t = none → H l = none → Tp H' t l → Q (.ref t) H'
theorem sc_tape : FnScope ["_law_script", "_law_total", "_law_cell"] ["_law_script"] (defScope s_law_tape) := ⟨rfl, rfl, rfl, by decide +kernel, rfl, by decide +kernel, by decide +kernel⟩
theorem ok_tape {C : Addr} (T : Tx K mg C) : Cal P w K mg base "_law_tape" 1 ["_law_script"] (spTape K) := by
  refine T.d_law_tape.cal (fun _ _ _ _ _ _ us hl => match us, hl with | [_], _ => rfl) fun f fd F _ _ _ => ?_
  refine okD F sc_tape (fun vs H Q E h => ?_) (fun cdv A outer s H vs Q E hr h => ?_)
  · obtain ⟨a, ns, rfl, _⟩ := h
    rfl
  · obtain ⟨a, ns, rfl, hS, hl, q⟩ := h
    refine ⟨_, pss_cons (ps_set (i := 1) sc_tape.nd rfl (Or.inl rfl) pe_int)
      (pss_cons (ps_for PassesOwn.never rfl (pi_list (pv 0)) (pg_name (i := 2) sc_tape.nd rfl (Or.inl rfl))
        (pss_one (ps_set (i := 1) sc_tape.nd rfl (Or.inl rfl) (pe_op op_mod (pe_callTy call_int1 (by rfl) T.n_int b_int (pa_cons (pe_op op_add (pe_op op_mul (pv 1) pe_int)
          (pe_callB call_abs (by rfl) T.n_abs b_abs (pa_cons (pe_callTy call_int1 (by rfl) T.n_int b_int (pa_cons (pv 2) pa_nil)) pa_nil))) pa_nil)) pe_int))))
      (pss_one (ps_ret (pe_lst (pa_cons (pe_callTy call_list_of (by rfl) T.n_list b_list (pa_cons (pv 0) pa_nil)) (pa_cons pe_int (pa_cons pe_int (pa_cons (pv 1) pa_nil)))))))), ?_⟩
    refine ⟨_, rfl, a, rfl, ⟨_, hS⟩, for_list (K := K) (a := a) (xs := ns.map V.int) (fun i σ H' => ∃ (z : Int) (o : Option V), σ = [some (.ref a), some (.int z), o] ∧ H' = H) ⟨7, none, rfl, rfl⟩ (fun i σ H' _ ⟨_, _, _, e⟩ => by rw [e]; exact hS) ?_ ?_⟩
    · rintro i x σ H1 hi ⟨z, o, rfl, rfl⟩
      rw [List.getElem?_map] at hi
      cases en : ns[i]? with
      | none =>
        rw [en] at hi
        cases hi
      | some n =>
        rw [en] at hi
        have hi : V.int n = x := Option.some.inj hi
        subst hi
        refine ⟨_, rfl, _, _, rfl, rfl, .inr ⟨by decide, by decide⟩, _, rfl, .inl ⟨_, rfl, _, rfl, _, _, rfl, rfl, .inl ⟨_, rfl, _, _, rfl, rfl, pos_m1, ?_⟩⟩⟩
        exact ⟨_, _, rfl, rfl⟩
    · rintro σ H1 ⟨z, o, rfl, rfl⟩
      refine ⟨_, rfl, a, _, rfl, .inl hS, fun l nl => ⟨_, rfl, ?_⟩⟩
      refine ⟨by show 4 ≤ sizeLine; rw [sizeLine_eq]; decide, fun t nt => ?_⟩
      have nt0 : H1 t = none := (same_new nl).free nt
      have ntl : t ≠ l := fun e => by
        rw [e, upd_same] at nt
        cases nt
      exact q t l _ ((same_new nl).new nt) nt0 nl ⟨ns, 0, 0, z, upd_same, by rw [upd_ne ntl.symm, upd_same], by decide, ntl⟩
/-! ### _law_draw -/
def spDraw : Sp := fun vs H Q _ => ∃ (t l : Addr) (k : Int), vs = [.ref t, .int k] ∧ Tp H t l ∧ 1 ≤ k ∧ k < 1152921504606846976 ∧ ∀ (r : Int) (H' : Hp), TK t H H' → Tp H' t l → 0 ≤ r → r < k → Q (.int r) H'
theorem sc_draw : FnScope ["_law_tape_here", "_law_many", "_law_place", "_law_number"] ["_law_tape_here", "_law_many"] (defScope s_law_draw) := ⟨rfl, rfl, rfl, by decide +kernel, rfl, by decide +kernel, by decide +kernel⟩
theorem ok_draw {C : Addr} (T : Tx K mg C) : Cal P w K mg base "_law_draw" 1 ["_law_tape_here", "_law_many"] spDraw := by
  refine T.d_law_draw.cal (fun _ _ _ _ _ _ us hl => match us, hl with | [_, _], _ => rfl) fun f fd F _ _ _ => ?_
  refine okD F sc_draw (fun vs H Q E h => ?_) (fun cdv A outer s H vs Q E hr h => ?_)
  · obtain ⟨t, l, k, rfl, _⟩ := h
    rfl
  · obtain ⟨t, l, k, rfl, hT, hk1, hk2, q⟩ := h
    refine ⟨_, pss_cons (ps_if (pt_cmpR op_eq (pe_ix ix_list (pv 0) pe_int (fun _ _ => rfl)) pe_int (nomark _))
        (pss_cons (ps_set (i := 2) sc_draw.nd rfl (Or.inl rfl) (pe_ix ix_list (pv 0) pe_int (fun _ _ => rfl)))
        (pss_cons (ps_set (i := 3) sc_draw.nd rfl (Or.inl rfl) pe_int)
        (pss_cons (ps_if (pt_cmpR op_lt (pv 2) (pe_callB call_len_seq (by rfl) T.n_len b_len (pa_cons (pe_ix ix_list (pv 0) pe_int (fun _ _ => rfl)) pa_nil)) (nomark _))
          (pss_one (ps_set (i := 3) sc_draw.nd rfl (Or.inl rfl) (pe_callB call_abs (by rfl) T.n_abs b_abs (pa_cons (pe_callTy call_int1 (by rfl) T.n_int b_int (pa_cons (pe_ix ix_list (pe_ix ix_list (pv 0) pe_int (fun _ _ => rfl)) (pv 2) (fun _ _ => rfl)) pa_nil)) pa_nil))))
          (pss_cons (ps_asg (pe_op op_mod (pe_callTy call_int1 (by rfl) T.n_int b_int (pa_cons (pe_op op_add (pe_op op_add (pe_op op_mul (pe_ix ix_list (pv 0) pe_int (fun _ _ => rfl)) pe_int) (pv 2)) pe_int) pa_nil)) pe_int) (pg_sub (pv 0) pe_int set_list))
            (pss_one (ps_set (i := 3) sc_draw.nd rfl (Or.inl rfl) (pe_ix ix_list (pv 0) pe_int (fun _ _ => rfl))))))
        (pss_cons (ps_asg (pe_op op_add (pv 2) pe_int) (pg_sub (pv 0) pe_int set_list))
        (pss_cons (ps_if (pt_cmpR op_lt (pv 3) (pe_op op_pow pe_int pe_int) (nomark _))
          (pss_cons (ps_set (i := 3) sc_draw.nd rfl (Or.inl rfl) (pe_op op_mod (pe_callTy call_int1 (by rfl) T.n_int b_int (pa_cons (pe_op op_add (pe_op op_add (pe_op op_mul (pv 3) pe_int) (pe_op op_mul (pv 2) pe_int)) pe_int) pa_nil)) pe_int))
          (pss_cons (ps_set (i := 3) sc_draw.nd rfl (Or.inl rfl) (pe_op op_mod (pe_callTy call_int1 (by rfl) T.n_int b_int (pa_cons (pe_op op_mul (pv 3) pe_int) pa_nil)) pe_int))
          (pss_one (ps_ret (pe_op op_mod (pe_callTy call_int1 (by rfl) T.n_int b_int (pa_cons (pv 3) pa_nil)) (pe_callB (call_max2 rfl) (by rfl) T.n_max b_max (pa_cons (pv 1) (pa_cons pe_int pa_nil))))))))
          pss_nil)
        (pss_one (ps_asg (pv 3) (pg_sub (pv 0) pe_int set_list))))))))
        pss_nil)
      (pss_cons (ps_set (i := 3) sc_draw.nd rfl (Or.inl rfl) (pe_ix ix_list (pv 0) pe_int (fun _ _ => rfl)))
      (pss_cons (ps_asg (pe_op op_fdivW (pv 3) (pe_callB (call_max2 rfl) (by rfl) T.n_max b_max (pa_cons (pv 1) (pa_cons pe_int pa_nil)))) (pg_sub (pv 0) pe_int set_list))
      (pss_one (ps_ret (pe_op op_mod (pe_callTy call_int1 (by rfl) T.n_int b_int (pa_cons (pv 3) pa_nil)) (pe_callB (call_max2 rfl) (by rfl) T.n_max b_max (pa_cons (pv 1) (pa_cons pe_int pa_nil)))))))), ?_⟩
    have m1 : (if (1 : Int) > k then (1 : Int) else k) = k := if_neg (by omega)
    have m2 : 0 < (if (2 : Int) > k then (2 : Int) else k) ∧ (if (2 : Int) > k then (2 : Int) else k) < 1152921504606846976 := by
      by_cases c : (2 : Int) > k
      · rw [if_pos c]
        omega
      · rw [if_neg c]
        omega
    refine seq_key (fun σ' H' => ∃ o2 o3, σ' = [some (.ref t), some (.int k), o2, o3] ∧ TK t H H' ∧ Tp H' t l) ?_ fun key => ?_
    · rintro σ' H' ⟨o2, o3, rfl, k1, ns, p, n, m, h1, h2, h3, h4⟩
      refine ⟨_, rfl, t, _, _, _, rfl, rfl, SqL.of h1, atI_nat (j := 2) rfl, ?_⟩
      refine ⟨_, rfl, _, rfl, _, _, rfl, _, _, rfl, rfl, wide_div (b := 64) m2.1 (by omega) (by decide) (by decide), ?_⟩
      refine ⟨_, rfl, t, _, _, 2, rfl, rfl, h1, rfl, ?_⟩
      refine ⟨_, rfl, .inl ⟨_, rfl, _, rfl, _, _, rfl, _, _, rfl, rfl, by show 0 < (if (1 : Int) > k then (1 : Int) else k); rw [m1]; omega, ?_⟩⟩
      show Q (.int (n % (if (1 : Int) > k then (1 : Int) else k))) _
      rw [m1]
      exact q _ _ k1.wr ⟨ns, p, _, m, upd_same, by rw [upd_ne h4.symm]; exact h2, h3, h4⟩ (Int.emod_nonneg _ (by omega)) (Int.emod_lt_of_pos _ (by omega))
    · have hT' := hT
      obtain ⟨ns, p, n, m, h1, h2, h3, h4⟩ := hT
      refine ⟨_, rfl, t, _, _, _, rfl, rfl, SqL.of h1, atI_nat (j := 2) rfl, rfl, _, rfl, ite2d (fun c => ?_) (fun c => ?_)⟩
      · refine ⟨_, rfl, t, _, _, _, rfl, rfl, SqL.of h1, atI_nat (j := 1) rfl, ?_⟩
        refine seq_set ?_
        refine seq_set ?_
        refine seq_key (fun σ' H' => ∃ (z m' : Int), σ' = [some (.ref t), some (.int k), some (.int p), some (.int z)] ∧ TK t H H' ∧ H' t = some (.lst [.ref l, .int p, .int n, .int m'])) ?_ fun key2 => ?_
        · rintro σ' H' ⟨z, m', rfl, k1, h1'⟩
          refine ⟨_, rfl, _, _, rfl, rfl, ?_⟩
          refine ⟨_, rfl, t, _, _, 1, rfl, rfl, h1', rfl, ?_⟩
          have k2 : TK t H (upd H' t (.lst [.ref l, .int (p + 1), .int n, .int m'])) := k1.wr
          have h2' : upd H' t (.lst [.ref l, .int (p + 1), .int n, .int m']) l = some (.lst (ns.map V.int)) := k2 _ _ h2 h4.symm
          refine ⟨_, rfl, _, _, rfl, rfl, ⟨by decide, by decide, by decide⟩, _, _, rfl, rfl, _, rfl, ite2d (fun c => ?_) (fun c => ?_)⟩
          · refine ⟨_, rfl, _, _, rfl, rfl, .inr ⟨by decide, by decide⟩, _, rfl, _, _, rfl, rfl, .inr ⟨by decide, by decide⟩, _, _, rfl, rfl, _, _, rfl, rfl, .inl ⟨_, rfl, _, _, rfl, rfl, pos_m1, ?_⟩⟩
            refine ⟨_, rfl, _, _, rfl, rfl, .inr ⟨by decide, by decide⟩, .inl ⟨_, rfl, _, _, rfl, rfl, pos_m2, ?_⟩⟩
            refine ⟨_, rfl, .inl ⟨_, rfl, _, rfl, _, _, rfl, _, _, rfl, rfl, by show 0 < (if (1 : Int) > k then (1 : Int) else k); rw [m1]; omega, ?_⟩⟩
            show Q (.int (_ % (if (1 : Int) > k then (1 : Int) else k))) _
            rw [m1]
            exact q _ _ k2 ⟨ns, p + 1, n, m', upd_same, h2', by omega, h4⟩ (Int.emod_nonneg _ (by omega)) (Int.emod_lt_of_pos _ (by omega))
          · refine ⟨_, rfl, _, rfl, t, _, _, 2, rfl, rfl, upd_same, rfl, ?_⟩
            refine key _ _ ⟨_, _, rfl, k2.wr, ns, p + 1, z, m', upd_same, ?_, by omega, h4⟩
            rw [upd_ne h4.symm]
            exact h2'
        · refine ⟨_, rfl, _, rfl, t, _, _, _, rfl, rfl, SqL.of h1, atI_nat (j := 0) rfl, l, _, rfl, .inl (SqL.of h2), _, _, rfl, rfl, _, rfl, ite2d (fun c2 => ?_) (fun c2 => ?_)⟩
          · rw [List.length_map] at c2
            obtain ⟨v, ev⟩ : ∃ v, ns[p.toNat]? = some v := ⟨_, List.getElem?_eq_getElem (show p.toNat < ns.length by omega)⟩
            refine ⟨_, rfl, t, _, _, _, rfl, rfl, SqL.of h1, atI_nat (j := 0) rfl, _, rfl, l, _, _, _, rfl, rfl, SqL.of h2, at_of (j := p.toNat) (by omega) (by rw [List.getElem?_map, ev]; rfl), .inl ⟨_, rfl, _, rfl, ?_⟩⟩
            exact key2 _ _ ⟨_, m, rfl, TK.refl t H, h1⟩
          · refine ⟨_, rfl, t, _, _, _, rfl, rfl, SqL.of h1, atI_nat (j := 3) rfl, _, _, rfl, rfl, .inr ⟨by decide, by decide⟩, _, rfl, _, _, rfl, rfl, _, _, rfl, rfl, .inl ⟨_, rfl, _, _, rfl, rfl, pos_m1, ?_⟩⟩
            refine ⟨_, rfl, t, _, _, 3, rfl, rfl, h1, rfl, ?_⟩
            refine ⟨_, rfl, t, _, _, _, rfl, rfl, SqL.of upd_same, atI_nat (j := 3) rfl, ?_⟩
            exact key2 _ _ ⟨_, _, rfl, (TK.refl t H).wr, upd_same⟩
      · exact key _ _ ⟨none, none, rfl, TK.refl t H, hT'⟩
end
end K33
/-! K33L2: the law's signs, words, scalars, elements. -/
namespace K33
open PySem PySem.Spec PyProof.Rows L2
theorem sign_ix {z : Str} {r : Int} {H : Hp} {Q : VK} (hl : 94 ≤ z.cps.toList.length) (hz : z.length ≤ sizeLine) (ha : z.cps.toList.all (fun c => decide (c < 65536)) = true) (h0 : 0 ≤ r) (h1 : r < 94) (q : ∀ c : Nat, c < 65536 → Q (.str ⟨#[c]⟩) H) : rIxS (.str z) (.int r) H Q := by
  obtain ⟨c, hc⟩ : ∃ c, z.cps.toList[r.toNat]? = some c := ⟨_, List.getElem?_eq_getElem (show r.toNat < z.cps.toList.length by omega)⟩
  refine ⟨z, r, c, rfl, rfl, hz, ?_, q c ?_⟩
  · have e : ((r.toNat : Nat) : Int) = r := by omega
    rw [← e]
    exact atI_nat hc
  · have := List.all_eq_true.mp ha c (List.mem_of_getElem? hc)
    exact of_decide_eq_true this
/-- a word: of at most n signs -/
def Wd (n : Nat) (s : Str) : Prop := s.cps.toList.length ≤ n ∧ ∀ c ∈ s.cps.toList, c < 65536
theorem Wd.snoc {n : Nat} {s : Str} {c : Nat} (h : Wd n s) (hc : c < 65536) : Wd (n + 1) (s ++ ⟨#[c]⟩) := by
  have e : (s ++ (⟨#[c]⟩ : Str)).cps.toList = s.cps.toList ++ [c] := by
    show (s.cps ++ #[c]).toList = _
    simp
  refine ⟨?_, fun d hd => ?_⟩
  · rw [e, List.length_append, List.length_singleton]
    have := h.1
    omega
  · rw [e] at hd
    rcases List.mem_append.mp hd with hd | hd
    · exact h.2 d hd
    · rw [List.mem_singleton.mp hd]
      exact hc
theorem wd_of {n : Nat} {s : Str} (h1 : s.cps.toList.length ≤ n) (h2 : s.cps.toList.all (fun c => decide (c < 65536)) = true) : Wd n s := ⟨h1, fun c hc => of_decide_eq_true (List.all_eq_true.mp h2 c hc)⟩
theorem words_at : ∀ j : Nat, j < 4 → ∃ s : Str, ([.str "", .str "", .str "to", .str "abcdefghij0123456"] : List V)[j]? = some (.str s) ∧ Wd 17 s
  | 0, _ => ⟨_, rfl, wd_of (by decide +kernel) (by decide +kernel)⟩
  | 1, _ => ⟨_, rfl, wd_of (by decide +kernel) (by decide +kernel)⟩
  | 2, _ => ⟨_, rfl, wd_of (by decide +kernel) (by decide +kernel)⟩
  | 3, _ => ⟨_, rfl, wd_of (by decide +kernel) (by decide +kernel)⟩
  | n + 4, h => by omega
theorem edges_at : ∀ j : Nat, j < 10 → ∃ v : Int, ([.int 0, .int 1, .int 65535, .int 65536, .int 65537, .int 4294967295, .int 4294967296, .int 281474976710656, .int ((10 : Int) ^ (15 : Int).toNat - 1), .int ((10 : Int) ^ (15 : Int).toNat)] : List V)[j]? = some (.int v) ∧ 0 ≤ v ∧ v ≤ 1000000000000000
  | 0, _ => ⟨_, rfl, by decide, by decide⟩
  | 1, _ => ⟨_, rfl, by decide, by decide⟩
  | 2, _ => ⟨_, rfl, by decide, by decide⟩
  | 3, _ => ⟨_, rfl, by decide, by decide⟩
  | 4, _ => ⟨_, rfl, by decide, by decide⟩
  | 5, _ => ⟨_, rfl, by decide, by decide⟩
  | 6, _ => ⟨_, rfl, by decide, by decide⟩
  | 7, _ => ⟨_, rfl, by decide, by decide⟩
  | 8, _ => ⟨_, rfl, by decide, by decide⟩
  | 9, _ => ⟨_, rfl, by decide, by decide⟩
  | n + 10, h => by omega
theorem facs_at : ∀ j : Nat, j < 3 → ∃ v : Int, ([.int 1, .int 65536, .int 1000000000] : List V)[j]? = some (.int v) ∧ (v = 1 ∨ v = 65536 ∨ v = 1000000000)
  | 0, _ => ⟨_, rfl, .inl rfl⟩
  | 1, _ => ⟨_, rfl, .inr (.inl rfl)⟩
  | 2, _ => ⟨_, rfl, .inr (.inr rfl)⟩
  | n + 3, h => by omega
theorem ten15 : (10 : Int) ^ (15 : Int).toNat = 1000000000000000 := by decide
section
variable {P : Program} {w : World} {K : PySem.W.Frag} {mg : Str → Option Value} {base : Heap}
/-! ### _law_sign -/
def spSign : Sp := fun vs H Q _ => ∃ (t l : Addr), vs = [.ref t] ∧ Tp H t l ∧ ∀ (c : Nat) (H' : Hp), TK t H H' → Tp H' t l → c < 65536 → Q (.str ⟨#[c]⟩) H'
theorem sc_sign : FnScope ["_law_tape_here", "_law_signs"] ["_law_tape_here"] (defScope s_law_sign) := ⟨rfl, rfl, rfl, by decide +kernel, rfl, by decide +kernel, by decide +kernel⟩
theorem ok_sign {C : Addr} (T : Tx K mg C) : Cal P w K mg base "_law_sign" 2 ["_law_tape_here"] spSign := by
  obtain ⟨fD, fdD, GD, mD, kD, bD⟩ := (ok_draw (P := P) (w := w) (base := base) T).ex
  refine T.d_law_sign.cal (fun _ _ _ _ _ _ us hl => match us, hl with | [_], _ => rfl) fun f fd F _ _ _ => ?_
  refine okD F sc_sign (fun vs H Q E h => ?_) (fun cdv A outer s H vs Q E hr h => ?_)
  · obtain ⟨t, l, rfl, _⟩ := h
    rfl
  · obtain ⟨t, l, rfl, hT, q⟩ := h
    refine ⟨_, pss_cons (ps_set (i := 1) sc_sign.nd rfl (Or.inl rfl) pe_str) (pss_cons (ps_set (i := 1) sc_sign.nd rfl (Or.inl rfl) (pe_op op_add_str (pv 1) pe_str))
      (pss_one (ps_ret (pe_ix ix_str (pv 1) (pe_call GD hr rfl mD kD bD .nil pass0 (pa_cons (pv 0) (pa_cons pe_int pa_nil))) (fun _ _ => rfl))))), ?_⟩
    refine ⟨_, rfl, _, _, rfl, rfl, le_line (by decide +kernel), ?_⟩
    refine ⟨_, rfl, _, rfl, t, l, 94, rfl, hT, by decide, by decide, fun r H1 k1 hT1 h0 h1 => ?_⟩
    exact sign_ix (by decide +kernel) (le_line (by decide +kernel)) (by decide +kernel) h0 h1 fun c hc => q c H1 k1 hT1 hc
/-! ### _law_word -/
def spWord : Sp := fun vs H Q _ => ∃ (t l : Addr), vs = [.ref t] ∧ Tp H t l ∧ ∀ (x : Str) (H' : Hp), TK t H H' → Tp H' t l → Wd 20 x → Q (.str x) H'
theorem sc_word : FnScope ["_law_tape_here", "_law_word_here", "_law_k"] ["_law_tape_here"] (defScope s_law_word) := ⟨rfl, rfl, rfl, by decide +kernel, rfl, by decide +kernel, by decide +kernel⟩
theorem ok_word3 {C : Addr} (T : Tx K mg C) : Cal P w K mg base "_law_word" 3 ["_law_tape_here"] spWord := by
  obtain ⟨fD, fdD, GD, mD, kD, bD⟩ := (ok_draw (P := P) (w := w) (base := base) T).ex
  obtain ⟨fS, fdS, GS, mS, kS, bS⟩ := (ok_sign (P := P) (w := w) (base := base) T).ex
  refine T.d_law_word.cal (fun _ _ _ _ _ _ us hl => match us, hl with | [_], _ => rfl) fun f fd F _ _ _ => ?_
  refine okD F sc_word (fun vs H Q E h => ?_) (fun cdv A outer s H vs Q E hr h => ?_)
  · obtain ⟨t, l, rfl, _⟩ := h
    rfl
  · obtain ⟨t, l, rfl, hT, q⟩ := h
    have hr1 : Room 1 _ := hr.mono (by decide)
    refine ⟨_, pss_cons (ps_set (i := 1) sc_word.nd rfl (Or.inl rfl) (pe_ix ix_list (pe_lst (pa_cons pe_str (pa_cons pe_str (pa_cons pe_str (pa_cons pe_str pa_nil))))) (pe_call GD hr1 rfl mD kD bD .nil pass0 (pa_cons (pv 0) (pa_cons pe_int pa_nil))) (fun _ _ => rfl)))
      (pss_cons (ps_for PassesOwn.never rfl (pi_range1 (by rfl) T.n_range (pa_cons (pe_call GD hr1 rfl mD kD bD .nil pass0 (pa_cons (pv 0) (pa_cons pe_int pa_nil))) pa_nil)) (pg_name (i := 2) sc_word.nd rfl (Or.inl rfl))
        (pss_one (ps_set (i := 1) sc_word.nd rfl (Or.inl rfl) (pe_op op_add_str (pv 1) (pe_call GS hr rfl mS kS bS .nil pass0 (pa_cons (pv 0) pa_nil))))))
      (pss_one (ps_ret (pv 1)))), ?_⟩
    refine ⟨by show 4 ≤ sizeLine; rw [sizeLine_eq]; decide, fun p np => ?_⟩
    have npt := hT.ne np
    refine ⟨_, rfl, t, l, 4, rfl, hT.same (same_new np), by decide, by decide, fun r H1 k1 hT1 h0 h1 => ?_⟩
    have hp1 := k1 _ _ upd_same npt
    obtain ⟨x, hx, wx⟩ := words_at r.toNat (by omega)
    refine ⟨p, _, _, _, rfl, rfl, SqL.of hp1, at_of (j := r.toNat) (by omega) hx, ?_⟩
    have k01 : TK t H H1 := ((same_new np).tk t).trans k1
    refine ⟨_, rfl, t, l, 4, rfl, hT1, by decide, by decide, fun n H2 k2 hT2 h20 h21 => ?_⟩
    refine ⟨n, rfl, by omega, by omega, for_range (lo := 0) (n := n.toNat) (fun i σ H' => ∃ (y : Str) (o : Option V), σ = [some (.ref t), some (.str y), o] ∧ TK t H H' ∧ Tp H' t l ∧ Wd (17 + i) y)
      ⟨x, none, rfl, k01.trans k2, hT2, wx⟩ ?_ ?_⟩
    · rintro i σ H3 hi ⟨y, o, rfl, k3, hT3, wy⟩
      refine ⟨_, rfl, _, rfl, t, l, rfl, hT3, fun c H4 k4 hT4 hc => ?_⟩
      refine ⟨_, _, rfl, rfl, le_line ?_, ?_⟩
      · have h1 : y.length ≤ 17 + i := by
          have := wy.1
          rw [Array.length_toList] at this
          exact this
        show y.length + 1 ≤ 1000000
        omega
      · exact ⟨_, _, rfl, k3.trans k4, hT4, wy.snoc hc⟩
    · rintro σ H3 ⟨y, o, rfl, k3, hT3, wy⟩
      exact ⟨_, rfl, q y H3 k3 hT3 ⟨by have := wy.1; omega, wy.2⟩⟩
/-! ### _law_scalar -/
def spScalar : Sp := fun vs H Q _ => ∃ (t l : Addr), vs = [.ref t] ∧ Tp H t l ∧ ∀ (x : Nd) (H' : Hp), TK t H H' → Tp H' t l → Sc x → Q (scV x) H'
theorem sc_scalar : FnScope ["_law_tape_here", "_law_choice", "_law_edges"] ["_law_tape_here"] (defScope s_law_scalar) := ⟨rfl, rfl, rfl, by decide +kernel, rfl, by decide +kernel, by decide +kernel⟩
theorem ok_scalar {C : Addr} (T : Tx K mg C) : Cal P w K mg base "_law_scalar" 4 ["_law_tape_here"] spScalar := by
  obtain ⟨fD, fdD, GD, mD, kD, bD⟩ := (ok_draw (P := P) (w := w) (base := base) T).ex
  obtain ⟨fW, fdW, GW, mW, kW, bW⟩ := (ok_word3 (P := P) (w := w) (base := base) T).ex
  refine T.d_law_scalar.cal (fun _ _ _ _ _ _ us hl => match us, hl with | [_], _ => rfl) fun f fd F _ _ _ => ?_
  refine okD F sc_scalar (fun vs H Q E h => ?_) (fun cdv A outer s H vs Q E hr h => ?_)
  · obtain ⟨t, l, rfl, _⟩ := h
    rfl
  · obtain ⟨t, l, rfl, hT, q⟩ := h
    have hr1 : Room 1 _ := hr.mono (by decide)
    refine ⟨_, pss_cons (ps_set (i := 1) sc_scalar.nd rfl (Or.inl rfl) (pe_call GD hr1 rfl mD kD bD .nil pass0 (pa_cons (pv 0) (pa_cons pe_int pa_nil))))
      (pss_cons (ps_if (pt_cmpR op_eq (pv 1) pe_int (nomark _)) (pss_one (ps_ret (pe_call GW hr rfl mW kW bW .nil pass0 (pa_cons (pv 0) pa_nil)))) pss_nil)
      (pss_cons (ps_if (pt_cmpR op_eq (pv 1) pe_int (nomark _))
        (pss_cons (ps_set (i := 2) sc_scalar.nd rfl (Or.inl rfl) (pe_lst (pa_cons pe_int (pa_cons pe_int (pa_cons pe_int (pa_cons pe_int (pa_cons pe_int (pa_cons pe_int (pa_cons pe_int (pa_cons pe_int
            (pa_cons (pe_op op_sub (pe_op op_pow pe_int pe_int) pe_int) (pa_cons (pe_op op_pow pe_int pe_int) pa_nil))))))))))))
          (pss_one (ps_ret (pe_op op_mul (pe_ix ix_list (pv 2) (pe_call GD hr1 rfl mD kD bD .nil pass0 (pa_cons (pv 0) (pa_cons pe_int pa_nil))) (fun _ _ => rfl))
            (pe_op op_sub pe_int (pe_op op_mul pe_int (pe_call GD hr1 rfl mD kD bD .nil pass0 (pa_cons (pv 0) (pa_cons pe_int pa_nil))))))))) pss_nil)
      (pss_cons (ps_if (pt_cmpR op_eq (pv 1) pe_int (nomark _))
        (pss_one (ps_ret (pe_op op_mul (pe_op op_sub (pe_call GD hr1 rfl mD kD bD .nil pass0 (pa_cons (pv 0) (pa_cons pe_int pa_nil))) pe_int)
          (pe_ix ix_list (pe_lst (pa_cons pe_int (pa_cons pe_int (pa_cons pe_int pa_nil)))) (pe_call GD hr1 rfl mD kD bD .nil pass0 (pa_cons (pv 0) (pa_cons pe_int pa_nil))) (fun _ _ => rfl))))) pss_nil)
      (pss_cons (ps_if (pt_cmpR op_eq (pv 1) pe_int (nomark _))
        (pss_one (ps_ret (pe_op op_sub (pe_call GD hr1 rfl mD kD bD .nil pass0 (pa_cons (pv 0) (pa_cons (pe_op op_add (pe_op op_mul pe_int (pe_op op_pow pe_int pe_int)) pe_int) pa_nil))) (pe_op op_pow pe_int pe_int)))) pss_nil)
      (pss_one (ps_ret (pe_call GD hr1 rfl mD kD bD .nil pass0 (pa_cons (pv 0) (pa_cons pe_int pa_nil))))))))), ?_⟩
    refine ⟨_, rfl, t, l, 7, rfl, hT, by decide, by decide, fun c H1 k1 hT1 _ _ => ?_⟩
    have fin : ∀ (x : Int) (H' : Hp), TK t H H' → Tp H' t l → -1000000000000000 ≤ x → x ≤ 1000000000000000 → Q (.int x) H' := fun x H' k hT' h1 h2 => q (.int x) H' k hT' ⟨h1, h2⟩
    refine ⟨_, rfl, rfl, _, rfl, ite2d (fun c1 => ?_) (fun c1 => ?_)⟩
    · exact ⟨_, rfl, t, l, rfl, hT1, fun x H2 k2 hT2 wx => q (.str x) H2 (k1.trans k2) hT2 wx⟩
    refine ⟨_, rfl, rfl, _, rfl, ite2d (fun c2 => ?_) (fun c2 => ?_)⟩
    · refine ⟨_, _, rfl, rfl, ⟨by decide, by decide, by decide⟩, _, _, rfl, rfl, _, _, rfl, rfl, ⟨by decide, by decide, by decide⟩, by show 10 ≤ sizeLine; rw [sizeLine_eq]; decide, fun p np => ?_⟩
      have npt := hT1.ne np
      refine ⟨_, rfl, _, rfl, t, l, 10, rfl, hT1.same (same_new np), by decide, by decide, fun r H2 k2 hT2 h0 h1 => ?_⟩
      have hp2 := k2 _ _ upd_same npt
      obtain ⟨v, hv, v0, v1⟩ := edges_at r.toNat (by omega)
      refine ⟨p, _, _, _, rfl, rfl, SqL.of hp2, at_of (j := r.toNat) (by omega) hv, ?_⟩
      refine ⟨_, rfl, t, l, 2, rfl, hT2, by decide, by decide, fun d H3 k3 hT3 d0 d1 => ?_⟩
      refine ⟨_, _, rfl, rfl, .inl ⟨by decide, by decide⟩, _, _, rfl, rfl, _, _, rfl, rfl, .inl ⟨by omega, by omega⟩, ?_⟩
      have hd : d = 0 ∨ d = 1 := by omega
      refine fin _ H3 ((k1.trans ((same_new np).tk t)).trans (k2.trans k3)) hT3 ?_ ?_
      · show -1000000000000000 ≤ v * (1 - 2 * d)
        rcases hd with rfl | rfl <;> omega
      · show v * (1 - 2 * d) ≤ 1000000000000000
        rcases hd with rfl | rfl <;> omega
    refine ⟨_, rfl, rfl, _, rfl, ite2d (fun c3 => ?_) (fun c3 => ?_)⟩
    · refine ⟨_, rfl, t, l, 2000001, rfl, hT1, by decide, by decide, fun a H2 k2 hT2 a0 a1 => ?_⟩
      refine ⟨_, _, rfl, rfl, ?_⟩
      refine ⟨by show 3 ≤ sizeLine; rw [sizeLine_eq]; decide, fun p np => ?_⟩
      have npt := hT2.ne np
      refine ⟨_, rfl, t, l, 3, rfl, hT2.same (same_new np), by decide, by decide, fun r H3 k3 hT3 h0 h1 => ?_⟩
      have hp3 := k3 _ _ upd_same npt
      obtain ⟨v, hv, hvv⟩ := facs_at r.toNat (by omega)
      refine ⟨p, _, _, _, rfl, rfl, SqL.of hp3, at_of (j := r.toNat) (by omega) hv, ?_⟩
      refine ⟨_, _, rfl, rfl, .inl ⟨by omega, by omega⟩, ?_⟩
      refine fin _ H3 ((k1.trans k2).trans (((same_new np).tk t).trans k3)) hT3 ?_ ?_
      · show -1000000000000000 ≤ (a - 1000000) * v
        rcases hvv with rfl | rfl | rfl <;> omega
      · show (a - 1000000) * v ≤ 1000000000000000
        rcases hvv with rfl | rfl | rfl <;> omega
    refine ⟨_, rfl, rfl, _, rfl, ite2d (fun c4 => ?_) (fun c4 => ?_)⟩
    · refine ⟨_, rfl, _, _, rfl, rfl, ⟨by decide, by decide, by decide⟩, _, _, rfl, rfl, .inl ⟨by decide, by decide⟩, _, _, rfl, rfl, ?_⟩
      refine ⟨t, l, _, rfl, hT1, by decide, by decide, fun a H2 k2 hT2 a0 a1 => ?_⟩
      refine ⟨_, _, rfl, rfl, ⟨by decide, by decide, by decide⟩, _, _, rfl, rfl, ?_⟩
      have a1 : a < 2000000000000001 := a1
      refine fin _ H2 (k1.trans k2) hT2 ?_ ?_
      · show -1000000000000000 ≤ a - (10 : Int) ^ (15 : Int).toNat
        rw [ten15]
        omega
      · show a - (10 : Int) ^ (15 : Int).toNat ≤ 1000000000000000
        rw [ten15]
        omega
    · refine ⟨_, rfl, t, l, 9, rfl, hT1, by decide, by decide, fun a H2 k2 hT2 a0 a1 => ?_⟩
      exact fin _ H2 (k1.trans k2) hT2 (by omega) (by omega)
/-! ### _law_element -/
def spElem : Sp := fun vs H Q _ => ∃ (t l : Addr), vs = [.ref t] ∧ Tp H t l ∧ ∀ (x : Nd) (v : V) (H' : Hp), TK t H H' → Tp H' t l → El x → EV H' x v → Q v H'
theorem sc_elem : FnScope ["_law_tape_here", "_law_first"] ["_law_tape_here"] (defScope s_law_element) := ⟨rfl, rfl, rfl, by decide +kernel, rfl, by decide +kernel, by decide +kernel⟩
theorem Sc.el : ∀ {x : Nd}, Sc x → El x
  | .int _, h => h
  | .str _, h => h
  | .pair _ _, h => h.elim
  | .run _ _, h => h.elim
  | .blk _, h => h.elim
theorem ok_elem {C : Addr} (T : Tx K mg C) : Cal P w K mg base "_law_element" 5 ["_law_tape_here"] spElem := by
  obtain ⟨fD, fdD, GD, mD, kD, bD⟩ := (ok_draw (P := P) (w := w) (base := base) T).ex
  obtain ⟨fS, fdS, GS, mS, kS, bS⟩ := (ok_scalar (P := P) (w := w) (base := base) T).ex
  refine T.d_law_element.cal (fun _ _ _ _ _ _ us hl => match us, hl with | [_], _ => rfl) fun f fd F _ _ _ => ?_
  refine okD F sc_elem (fun vs H Q E h => ?_) (fun cdv A outer s H vs Q E hr h => ?_)
  · obtain ⟨t, l, rfl, _⟩ := h
    rfl
  · obtain ⟨t, l, rfl, hT, q⟩ := h
    have hr1 : Room 1 _ := hr.mono (by decide)
    refine ⟨_, pss_cons (ps_set (i := 1) sc_elem.nd rfl (Or.inl rfl) (pe_call GS hr rfl mS kS bS .nil pass0 (pa_cons (pv 0) pa_nil)))
      (pss_cons (ps_if (pt_cmpR op_eq (pe_call GD hr1 rfl mD kD bD .nil pass0 (pa_cons (pv 0) (pa_cons pe_int pa_nil))) pe_int (nomark _))
        (pss_one (ps_ret (pe_tup (pa_cons (pv 1) (pa_cons (pe_call GS hr rfl mS kS bS .nil pass0 (pa_cons (pv 0) pa_nil)) pa_nil))))) pss_nil)
      (pss_one (ps_ret (pv 1)))), ?_⟩
    refine ⟨_, rfl, t, l, rfl, hT, fun x H1 k1 hT1 hx => ?_⟩
    refine ⟨_, rfl, t, l, 4, rfl, hT1, by decide, by decide, fun c H2 k2 hT2 _ _ => ?_⟩
    refine ⟨rfl, _, rfl, ite2d (fun c1 => ?_) (fun c1 => ?_)⟩
    · refine ⟨_, rfl, _, rfl, t, l, rfl, hT2, fun y H3 k3 hT3 hy => ?_⟩
      refine ⟨by show 2 ≤ sizeLine; rw [sizeLine_eq]; decide, fun p np => ?_⟩
      exact q (.pair x y) (.ref p) _ ((k1.trans (k2.trans k3)).new np) (hT3.same (same_new np)) ⟨hx, hy⟩ ⟨p, rfl, upd_same⟩
    · exact ⟨_, rfl, q x (scV x) H2 (k1.trans k2) hT2 hx.el (scV_EV H2 hx)⟩
end
end K33
/-! K33L3: the law's contents. -/
namespace K33
open PySem PySem.Spec PyProof.Rows L2
section
variable {H : Hp}
theorem EVs.len {ns : List Nd} {vs : List V} (h : EVs H ns vs) : ns.length = vs.length := Paired.length h
theorem EVs.app : ∀ {a : List Nd} {xs : List V} {b : List Nd} {ys : List V}, EVs H a xs → EVs H b ys → EVs H (a ++ b) (xs ++ ys)
  | _, _, _, _, .nil, h => h
  | _, _, _, _, .cons u r, h => .cons u (EVs.app r h)
theorem EVs.drop : ∀ {ns : List Nd} {vs : List V} (k : Nat), EVs H ns vs → EVs H (ns.drop k) (vs.drop k)
  | _, _, 0, h => h
  | _, _, _ + 1, .nil => .nil
  | _, _, k + 1, .cons _ b => EVs.drop k b
theorem EVs.take : ∀ {ns : List Nd} {vs : List V} (k : Nat), EVs H ns vs → EVs H (ns.take k) (vs.take k)
  | _, _, 0, _ => .nil
  | _, _, _ + 1, .nil => .nil
  | _, _, k + 1, .cons a b => .cons a (EVs.take k b)
theorem EVs.rep {ns : List Nd} {vs : List V} (h : EVs H ns vs) : ∀ k : Nat, EVs H (List.replicate k ns).flatten (List.replicate k vs).flatten
  | 0 => .nil
  | k + 1 => by
    rw [List.replicate_succ, List.replicate_succ, List.flatten_cons, List.flatten_cons]
    exact EVs.app h (EVs.rep h k)
theorem rep_mem {α : Type} {xs : List α} {k : Nat} {x : α} (h : x ∈ (List.replicate k xs).flatten) : x ∈ xs := by
  obtain ⟨l, hl, hx⟩ := List.mem_flatten.mp h
  rw [(List.mem_replicate.mp hl).2] at hx
  exact hx
theorem rep_len {α : Type} (xs : List α) : ∀ k : Nat, (List.replicate k xs).flatten.length = k * xs.length
  | 0 => by simp
  | k + 1 => by
    rw [List.replicate_succ, List.flatten_cons, List.length_append, rep_len xs k, Nat.add_mul, Nat.one_mul, Nat.add_comm]
/-- a slice of a row -/
theorem EVs.cut {ns : List Nd} {vs : List V} (h : EVs H ns vs) (hel : ∀ n ∈ ns, El n) (lo hi : Option Int) (k : Nat) (hk : HT.sIx vs.length vs.length hi - HT.sIx vs.length 0 lo ≤ k) : ∃ ms, EVs H ms (cutV vs lo hi) ∧ (∀ n ∈ ms, El n) ∧ ms.length ≤ k := by
  refine ⟨(ns.drop (HT.sIx vs.length 0 lo)).take (HT.sIx vs.length vs.length hi - HT.sIx vs.length 0 lo), (h.drop _).take _, fun n hn => hel n (List.mem_of_mem_drop (List.mem_of_mem_take hn)), ?_⟩
  rw [List.length_take]
  omega
end
theorem sIx_m2 (n : Nat) : HT.sIx n n none - HT.sIx n 0 (some (-2)) ≤ 2 := by
  show n - (if (-2 : Int) < 0 then ((-2 : Int) + (n : Int)).toNat else min (-2 : Int).toNat n) ≤ 2
  rw [if_pos (by decide)]
  omega
/-- the state of the loop of _law_contents -/
def RowSt (t l pl : Addr) (m : Int) (H : Hp) (i : Nat) (σ : L2.St) (H' : Hp) : Prop :=
  ∃ (rw : Addr) (ps : List V) (pn : List Nd) (ys : List V) (ns : List Nd) (o4 o5 o6 o7 o8 : Option V), σ = [some (.ref t), some (.int m), some (.ref pl), some (.ref rw), o4, o5, o6, o7, o8] ∧ TK t H H' ∧ Tp H' t l ∧
    H' pl = some (.lst ps) ∧ EVs H' pn ps ∧ (∀ n ∈ pn, El n) ∧ 1 ≤ pn.length ∧ pn.length ≤ 5 ∧ pl ≠ t ∧ H' rw = some (.lst ys) ∧ EVs H' ns ys ∧ (∀ n ∈ ns, El n) ∧ ns.length ≤ 20 * i ∧ rw ≠ t
section
variable {P : Program} {w : World} {K : PySem.W.Frag} {mg : Str → Option Value} {base : Heap}
def spContents : Sp := fun vs H Q _ => ∃ (t l : Addr) (m : Nat), vs = [.ref t, .int (m : Int)] ∧ Tp H t l ∧ ∀ (p : Addr) (H' : Hp) (ys : List V) (ns : List Nd), TK t H H' → Tp H' t l → H p = none → H' p = some (.lst ys) → EVs H' ns ys → (∀ n ∈ ns, El n) → ns.length ≤ m → Q (.ref p) H'
theorem sc_contents : FnScope ["_law_tape_here", "_law_most", "_law_pool", "_law_row", "_law_k", "_law_choice", "_law_start", "_law_at", "_law_j"] ["_law_tape_here", "_law_most"] (defScope s_law_contents) := ⟨rfl, rfl, rfl, by decide +kernel, rfl, by decide +kernel, by decide +kernel⟩
theorem ok_contents {C : Addr} (T : Tx K mg C) : Cal P w K mg base "_law_contents" 6 ["_law_tape_here", "_law_most"] spContents := by
  obtain ⟨fD, fdD, GD, mD, kD, bD⟩ := (ok_draw (P := P) (w := w) (base := base) T).ex
  obtain ⟨fE, fdE, GE, mE, kE, bE⟩ := (ok_elem (P := P) (w := w) (base := base) T).ex
  refine T.d_law_contents.cal (fun _ _ _ _ _ _ us hl => match us, hl with | [_, _], _ => rfl) fun f fd F _ _ _ => ?_
  refine okD F sc_contents (fun vs H Q E h => ?_) (fun cdv A outer s H vs Q E hr h => ?_)
  · obtain ⟨t, l, m, rfl, _⟩ := h
    rfl
  · obtain ⟨t, l, m, rfl, hT, q⟩ := h
    have hr1 : Room 1 _ := hr.mono (by decide)
    refine ⟨_, pss_cons (ps_set (i := 2) sc_contents.nd rfl (Or.inr rfl) (pe_lc (own := [("_law_k", 4)]) (g := gName 4) rfl sc_contents.nd
        (pi_range1 (by rfl) T.n_range (pa_cons (pe_op op_add pe_int (pe_call GD hr1 rfl mD kD bD .nil pass0 (pa_cons (pv 0) (pa_cons pe_int pa_nil)))) pa_nil))
        (blkOk_by (own := [("_law_k", 4)]) (N := ["_law_tape_here", "_law_most", "_law_pool", "_law_row", "_law_k", "_law_choice", "_law_start", "_law_at", "_law_j"]) (sc := defScope s_law_contents) (by decide +kernel))
        (fun _ _ _ _ _ => pg_name (i := 4) sc_contents.nd rfl (Or.inl rfl) (Or.inr rfl)) (fun _ _ _ _ _ => pts_nil) (fun _ _ _ _ _ => pe_call GE hr rfl mE kE bE .nil pass0 (pa_cons (pv 0) pa_nil))))
      (pss_cons (ps_set (i := 3) sc_contents.nd rfl (Or.inl rfl) (pe_lst pa_nil))
      (pss_cons (ps_for PassesOwn.never rfl (pi_range1 (by rfl) T.n_range (pa_cons (pe_call GD hr1 rfl mD kD bD .nil pass0 (pa_cons (pv 0) (pa_cons pe_int pa_nil))) pa_nil)) (pg_name (i := 4) sc_contents.nd rfl (Or.inl rfl))
        (pss_cons (ps_set (i := 5) sc_contents.nd rfl (Or.inl rfl) (pe_call GD hr1 rfl mD kD bD .nil pass0 (pa_cons (pv 0) (pa_cons pe_int pa_nil))))
        (pss_one (ps_if (pt_cmpR op_eq (pv 5) pe_int (nomark _))
          (pss_one (ps_set (i := 3) sc_contents.nd rfl (Or.inl rfl) (pe_op op_cat (pv 3) (pe_op op_rep (pe_lst (pa_cons (pe_ix ix_list (pv 2) (pe_call GD hr1 rfl mD kD bD .nil pass0 (pa_cons (pv 0) (pa_cons (pe_callB call_len_seq (by rfl) T.n_len b_len (pa_cons (pv 2) pa_nil)) pa_nil))) (fun _ _ => rfl)) pa_nil))
            (pe_op op_add pe_int (pe_call GD hr1 rfl mD kD bD .nil pass0 (pa_cons (pv 0) (pa_cons pe_int pa_nil))))))))
          (pss_one (ps_if (pt_cmpR op_eq (pv 5) pe_int (nomark _))
            (pss_cons (ps_set (i := 6) sc_contents.nd rfl (Or.inr rfl) (pe_call GD hr1 rfl mD kD bD .nil pass0 (pa_cons (pv 0) (pa_cons pe_int pa_nil))))
              (pss_one (ps_set (i := 3) sc_contents.nd rfl (Or.inl rfl) (pe_op op_cat (pv 3) (pe_lc (own := [("_law_j", 8)]) (g := gName 8) rfl sc_contents.nd
                (pi_range1 (by rfl) T.n_range (pa_cons (pe_op op_add pe_int (pe_call GD hr1 rfl mD kD bD .nil pass0 (pa_cons (pv 0) (pa_cons pe_int pa_nil)))) pa_nil))
                (blkOk_by (own := [("_law_j", 8)]) (N := ["_law_tape_here", "_law_most", "_law_pool", "_law_row", "_law_k", "_law_choice", "_law_start", "_law_at", "_law_j"]) (sc := defScope s_law_contents) (by decide +kernel))
                (fun _ _ _ _ _ => pg_name (i := 8) sc_contents.nd rfl (Or.inl rfl) (Or.inr rfl)) (fun _ _ _ _ _ => pts_nil) (fun _ _ _ _ _ => pe_op op_add (pv 6) (pv 8)))))))
            (pss_one (ps_if (pt_cmpR op_eq (pv 5) pe_int (nomark _))
              (pss_cons (ps_set (i := 7) sc_contents.nd rfl (Or.inl rfl) (pe_call GD hr1 rfl mD kD bD .nil pass0 (pa_cons (pv 0) (pa_cons (pe_op op_add (pe_callB call_len_seq (by rfl) T.n_len b_len (pa_cons (pv 3) pa_nil)) pe_int) pa_nil))))
                (pss_one (ps_set (i := 3) sc_contents.nd rfl (Or.inl rfl) (pe_op op_cat (pv 3) (pe_slice sl_list (pv 3) (po_some (pv 7)) (po_some (pe_op op_add (pe_op op_add (pv 7) pe_int) (pe_call GD hr1 rfl mD kD bD .nil pass0 (pa_cons (pv 0) (pa_cons pe_int pa_nil))))))))))
              (pss_one (ps_if (pt_cmpR op_eq (pv 5) pe_int (nomark _))
                (pss_one (ps_set (i := 3) sc_contents.nd rfl (Or.inl rfl) (pe_op op_cat (pv 3) (pe_op op_rep (pe_op op_cat (pe_slice sl_list (pv 3) (po_some (pe_un un_neg pe_int)) po_none)
                  (pe_lst (pa_cons (pe_ix ix_list (pv 2) (pe_call GD hr1 rfl mD kD bD .nil pass0 (pa_cons (pv 0) (pa_cons (pe_callB call_len_seq (by rfl) T.n_len b_len (pa_cons (pv 2) pa_nil)) pa_nil))) (fun _ _ => rfl)) pa_nil)))
                  (pe_op op_add pe_int (pe_call GD hr1 rfl mD kD bD .nil pass0 (pa_cons (pv 0) (pa_cons pe_int pa_nil))))))))
                (pss_one (ps_set (i := 3) sc_contents.nd rfl (Or.inl rfl) (pe_op op_cat (pv 3) (pe_lc (own := [("_law_j", 8)]) (g := gName 8)
                  (te := tOp (rIxL K) (tVar 2) (tCall spDraw [] E0 (tCons (tVar 0) (tCons (tCB (fun xs H Q => ∃ p ys, xs = [V.ref p] ∧ (SqL K H p ys ∨ SqT K H p ys) ∧ Q (V.int (ys.length : Int)) H) (tCons (tVar 2) tNil)) tNil)))) rfl sc_contents.nd
                  (pi_range1 (by rfl) T.n_range (pa_cons (pe_op op_add pe_int (pe_call GD hr1 rfl mD kD bD .nil pass0 (pa_cons (pv 0) (pa_cons pe_int pa_nil)))) pa_nil))
                  (blkOk_by (own := [("_law_j", 8)]) (N := ["_law_tape_here", "_law_most", "_law_pool", "_law_row", "_law_k", "_law_choice", "_law_start", "_law_at", "_law_j"]) (sc := defScope s_law_contents) (by decide +kernel))
                  (fun _ _ _ _ _ => pg_name (i := 8) sc_contents.nd rfl (Or.inl rfl) (Or.inr rfl)) (fun _ _ _ _ _ => pts_nil)
                  (fun _ _ _ _ _ => pe_ix ix_list (pv 2) (pe_call GD hr1 rfl mD kD bD .nil pass0 (pa_cons (pv 0) (pa_cons (pe_callB call_len_seq (by rfl) T.n_len b_len (pa_cons (pv 2) pa_nil)) pa_nil))) (fun _ _ => rfl))))))))))))))))
      (pss_one (ps_ret (pe_slice sl_list (pv 3) po_none (po_some (pv 1))))))), ?_⟩
    refine ⟨_, rfl, t, l, 5, rfl, hT, by decide, by decide, fun r H1 k1 hT1 r0 r1 => ?_⟩
    refine ⟨_, _, rfl, rfl, _, rfl, by omega, by omega, fun D hD => ?_⟩
    have nDt := hT1.ne hD
    have nDl := hT1.neL hD
    refine lc_range (lo := 0) (n := (1 + r).toNat) (fun i H' => ∃ (ys : List V) (ns : List Nd), TK t H1 H' ∧ Tp H' t l ∧ H' D = some (.lst ys) ∧ EVs H' ns ys ∧ (∀ n ∈ ns, El n) ∧ ns.length = i)
      ⟨[], [], ((same_new hD).tk t), hT1.same (same_new hD), upd_same, .nil, (fun n h => by cases h), rfl⟩ ?_ ?_
    · rintro i H2 hi ⟨ys, ns, k2, hT2, hd, hE, hel, hln⟩
      refine ⟨rfl, ?_⟩
      refine ⟨_, rfl, t, l, rfl, hT2, fun x v H3 k3 hT3 hx hv => ?_⟩
      have hd3 := k3 _ _ hd nDt
      have hl := hE.len
      have t1 : Tm H3 (upd H3 D (.lst (ys ++ [v]))) := Tm.lst (Tm.refl _) hd3
      refine ⟨_, hd3, lt_line (by omega), ys ++ [v], ns ++ [x], (k2.trans k3).put hD, hT3.other nDt nDl, upd_same, EVs.app (EVs.tm ((k3.tm hT2).trans t1) hE) (.cons (EV.tm t1 hv) .nil), ?_, by rw [List.length_append, List.length_singleton, hln]⟩
      intro n hn
      rcases List.mem_append.mp hn with h | h
      · exact hel n h
      · rw [List.mem_singleton.mp h]
        exact hx
    rintro H2 ⟨ps, pn, k2, hT2, hd, hE, hel, hln⟩
    refine ⟨Nat.zero_le _, fun rw0 nrw => ?_⟩
    have s3 : Same H2 (upd H2 rw0 (.lst [])) := same_new nrw
    have k02 : TK t H (upd H2 rw0 (.lst [])) := (k1.trans k2).trans (s3.tk t)
    refine ⟨_, rfl, t, l, 10, rfl, hT2.same s3, by decide, by decide, fun cnt H4 k4 hT4 c0 c1 => ?_⟩
    refine ⟨cnt, rfl, by omega, by omega, for_range (lo := 0) (n := cnt.toNat) (RowSt t l D (m : Int) H) ?_ ?_ ?_⟩
    · exact ⟨rw0, ps, pn, [], [], _, _, _, _, _, rfl, k02.trans k4, hT4, k4 _ _ (s3 _ _ hd) nDt, EVs.tm (s3.tm.trans (k4.tm (hT2.same s3))) hE, hel, by omega, by omega, nDt, k4 _ _ upd_same (hT2.ne nrw), .nil, (fun n h => by cases h), by show 0 ≤ _; omega, hT2.ne nrw⟩
    · rintro i σ H5 hi ⟨rw, ps, pn, ys, ns, o4, o5, o6, o7, o8, rfl, k5, hT5, hpl, hpn, hpe, hp1, hp5, npl, hrw, hys, hne, hnl, nrwt⟩
      have hi9 : i < 10 := by omega
      have lys := hys.len
      have lps := hpn.len
      have close : ∀ (H6 : Hp) (p3 : Addr) (zs : List V) (ms : List Nd) (p4 p5 p6 p7 p8 : Option V), TK t H5 H6 → Tp H6 t l → H6 p3 = some (.lst (ys ++ zs)) → EVs H6 ms zs → (∀ n ∈ ms, El n) → ms.length ≤ 20 → p3 ≠ t →
          RowSt t l D (m : Int) H (i + 1) [some (.ref t), some (.int (m : Int)), some (.ref D), some (.ref p3), p4, p5, p6, p7, p8] H6 := by
        intro H6 p3 zs ms p4 p5 p6 p7 p8 k6 hT6 h3 hz hme hml n3
        have tm := k6.tm hT5
        refine ⟨p3, ps, pn, ys ++ zs, ns ++ ms, _, _, _, _, _, rfl, k5.trans k6, hT6, k6 _ _ hpl npl, EVs.tm tm hpn, hpe, hp1, hp5, npl, h3, EVs.app (EVs.tm tm hys) hz, ?_, ?_, n3⟩
        · intro n hn
          rcases List.mem_append.mp hn with h | h
          · exact hne n h
          · exact hme n h
        · rw [List.length_append]
          omega
      have pick : ∀ (H6 : Hp) (r : Int), TK t H5 H6 → 0 ≤ r → r < (ps.length : Int) → ∃ (x : Nd) (v : V), ps[r.toNat]? = some v ∧ El x ∧ EV H6 x v := by
        intro H6 r k6 h0 h1
        obtain ⟨v, hv⟩ : ∃ v, ps[r.toNat]? = some v := ⟨_, List.getElem?_eq_getElem (show r.toNat < ps.length by omega)⟩
        obtain ⟨x, hx, hxv⟩ := paired_get2 hpn hv
        exact ⟨x, v, hv, hpe x (List.mem_of_getElem? hx), EV.tm (k6.tm hT5) hxv⟩
      refine ⟨_, rfl, t, l, 5, rfl, hT5, by decide, by decide, fun c H6 k6 hT6 c0 c1 => ?_⟩
      have hpl6 := k6 _ _ hpl npl
      have hrw6 := k6 _ _ hrw nrwt
      refine ⟨_, rfl, rfl, _, rfl, ite2d (fun cc => ?_) (fun cc => ?_)⟩
      · -- some copies of one
        refine ⟨_, rfl, _, rfl, _, rfl, _, rfl, D, _, rfl, .inl (SqL.of hpl6), t, l, _, rfl, hT6, by omega, by omega, fun r H7 k7 hT7 h0 h1 => ?_⟩
        obtain ⟨x, v, hv, hx, hxv⟩ := pick H7 r (k6.trans k7) h0 h1
        refine ⟨D, _, _, _, rfl, rfl, SqL.of (k7 _ _ hpl6 npl), at_of (j := r.toNat) (by omega) hv, ?_⟩
        refine ⟨by show 1 ≤ sizeLine; rw [sizeLine_eq]; decide, fun p np => ?_⟩
        have npt := hT7.ne np
        have s8 : Same H7 (upd H7 p (.lst [v])) := same_new np
        refine ⟨_, rfl, t, l, 9, rfl, hT7.same s8, by decide, by decide, fun d H8 k8 hT8 d0 d1 => ?_⟩
        refine ⟨_, _, rfl, rfl, ?_⟩
        have hp8 : H8 p = some (.lst [v]) := k8 _ _ upd_same npt
        refine ⟨p, _, _, rfl, rfl, hp8, by omega, by omega, le_line (by show 1 * _ ≤ _; omega), fun p2 np2 => ?_⟩
        have np2t := hT8.ne np2
        have s9 : Same H8 (upd H8 p2 (.lst (List.replicate (1 + d).toNat [v]).flatten)) := same_new np2
        have hrw8 : H8 rw = some (.lst ys) := k8 _ _ (s8 _ _ (k7 _ _ hrw6 nrwt)) nrwt
        have lr := rep_len [v] (1 + d).toNat
        refine ⟨rw, p2, ys, _, rfl, rfl, s9 _ _ hrw8, upd_same, le_line (by rw [lr]; show _ + _ * 1 ≤ _; omega), fun p3 np3 => ?_⟩
        have s10 : Same (upd H8 p2 (.lst (List.replicate (1 + d).toNat [v]).flatten)) (upd (upd H8 p2 (.lst (List.replicate (1 + d).toNat [v]).flatten)) p3 (.lst (ys ++ (List.replicate (1 + d).toNat [v]).flatten))) := same_new np3
        have lr2 := rep_len [x] (1 + d).toNat
        refine close _ p3 _ (List.replicate (1 + d).toNat [x]).flatten _ _ _ _ _ ((((k6.trans k7).trans (s8.tk t)).trans k8).trans ((s9.trans s10).tk t)) (hT8.same (s9.trans s10)) upd_same ?_ ?_ ?_ ((hT8.same s9).ne np3)
        · exact EVs.rep (.cons (EV.tm (((s8.tm.trans (k8.tm (hT7.same s8))).trans s9.tm).trans s10.tm) hxv) .nil) _
        · intro n hn
          rw [List.mem_singleton.mp (rep_mem hn)]
          exact hx
        · rw [lr2]
          show (1 + d).toNat * 1 ≤ 20
          omega
      refine ⟨_, rfl, rfl, _, rfl, ite2d (fun cc2 => ?_) (fun cc2 => ?_)⟩
      · -- a run of numbers
        refine ⟨_, rfl, t, l, 30, rfl, hT6, by decide, by decide, fun a H7 k7 hT7 a0 a1 => ?_⟩
        refine ⟨_, rfl, ?_⟩
        refine ⟨_, rfl, t, l, 14, rfl, hT7, by decide, by decide, fun d H8 k8 hT8 d0 d1 => ?_⟩
        refine ⟨_, _, rfl, rfl, _, rfl, by omega, by omega, fun D2 hD2 => ?_⟩
        have hrw8 : H8 rw = some (.lst ys) := k8 _ _ (k7 _ _ hrw6 nrwt) nrwt
        have nrD : rw ≠ D2 := ne_of_none hrw8 hD2
        refine lc_range (lo := 0) (n := (1 + d).toNat) (fun j H' => ∃ (zs : List V) (ms : List Nd), Same H8 H' ∧ H' D2 = some (.lst zs) ∧ EVs H' ms zs ∧ (∀ n ∈ ms, El n) ∧ ms.length = j)
          ⟨[], [], same_new hD2, upd_same, .nil, (fun n h => by cases h), rfl⟩ ?_ ?_
        · rintro j H9 hj ⟨zs, ms, s9, hd, hz, hme, hml⟩
          refine ⟨rfl, ?_⟩
          have lz := hz.len
          refine ⟨_, rfl, _, rfl, _, _, rfl, rfl, ?_⟩
          have t1 : Tm H9 (upd H9 D2 (.lst (zs ++ [.int (a + (0 + (j : Int)))]))) := Tm.lst (Tm.refl _) hd
          refine ⟨_, hd, lt_line (by omega), zs ++ [.int (a + (0 + (j : Int)))], ms ++ [.int (a + (0 + (j : Int)))], s9.put hD2, upd_same, EVs.app (EVs.tm t1 hz) (.cons (show EV _ (.int (a + (0 + (j : Int)))) (.int (a + (0 + (j : Int)))) from rfl) .nil), ?_, by rw [List.length_append, List.length_singleton, hml]⟩
          intro n hn
          rcases List.mem_append.mp hn with h | h
          · exact hme n h
          · rw [List.mem_singleton.mp h]
            show -1000000000000000 ≤ a + (0 + (j : Int)) ∧ a + (0 + (j : Int)) ≤ 1000000000000000
            omega
        · rintro H9 ⟨zs, ms, s9, hd, hz, hme, hml⟩
          have lz := hz.len
          refine ⟨rw, D2, ys, zs, rfl, rfl, s9 _ _ hrw8, hd, le_line (by omega), fun p3 np3 => ?_⟩
          have s10 : Same H9 (upd H9 p3 (.lst (ys ++ zs))) := same_new np3
          exact close _ p3 zs ms _ _ _ _ _ (((k6.trans k7).trans k8).trans ((s9.trans s10).tk t)) (hT8.same (s9.trans s10)) upd_same (EVs.tm s10.tm hz) hme (by omega) ((hT8.same s9).ne np3)
      refine ⟨_, rfl, rfl, _, rfl, ite2d (fun cc3 => ?_) (fun cc3 => ?_)⟩
      · -- a piece again
        refine ⟨_, rfl, _, rfl, rw, _, rfl, .inl (SqL.of hrw6), _, _, rfl, rfl, t, l, _, rfl, hT6, by omega, by omega, fun a H7 k7 hT7 a0 a1 => ?_⟩
        have hrw7 := k7 _ _ hrw6 nrwt
        refine ⟨_, rfl, _, rfl, _, rfl, _, rfl, _, rfl, _, _, rfl, rfl, _, rfl, t, l, 20, rfl, hT7, by decide, by decide, fun d H8 k8 hT8 d0 d1 => ?_⟩
        have hrw8 := k8 _ _ hrw7 nrwt
        refine ⟨_, _, rfl, rfl, _, rfl, ?_⟩
        refine ⟨rw, ys, rfl, SqL.of hrw8, fun p np => ?_⟩
        have s9 : Same H8 (upd H8 p (.lst (cutV ys (some a) (some (a + 1 + d))))) := same_new np
        have h8 := EVs.tm ((k6.trans k7).trans k8 |>.tm hT5) hys
        obtain ⟨ms, hms, hme, hml⟩ := EVs.cut h8 hne (some a) (some (a + 1 + d)) 20 (by
          have e1 : a = ((a.toNat : Nat) : Int) := by omega
          have e2 : a + 1 + d = (((a + 1 + d).toNat : Nat) : Int) := by omega
          rw [e1, HT.sIx_nat, ← e1, e2, HT.sIx_nat]
          omega)
        have lc := cutV_length ys (some a) (some (a + 1 + d))
        refine ⟨rw, p, ys, _, rfl, rfl, s9 _ _ hrw8, upd_same, le_line (by omega), fun p3 np3 => ?_⟩
        have s10 := same_new (o := .lst (ys ++ cutV ys (some a) (some (a + 1 + d)))) np3
        exact close _ p3 _ ms _ _ _ _ _ (((k6.trans k7).trans k8).trans ((s9.trans s10).tk t)) (hT8.same (s9.trans s10)) upd_same (EVs.tm (s9.tm.trans s10.tm) hms) hme hml ((hT8.same s9).ne np3)
      refine ⟨_, rfl, rfl, _, rfl, ite2d (fun cc4 => ?_) (fun cc4 => ?_)⟩
      · -- the last two and one more, some times
        refine ⟨_, rfl, _, rfl, _, rfl, _, rfl, ?_⟩
        refine ⟨rw, ys, rfl, SqL.of hrw6, fun p np => ?_⟩
        have npt := hT6.ne np
        have s7 : Same H6 (upd H6 p (.lst (cutV ys (some (-2)) none))) := same_new np
        have hT7 := hT6.same s7
        have hpl7 := s7 _ _ hpl6
        have hrw7 := s7 _ _ hrw6
        have lc := cutV_length ys (some (-2)) none
        refine ⟨_, rfl, _, rfl, _, rfl, D, _, rfl, .inl (SqL.of hpl7), t, l, _, rfl, hT7, by omega, by omega, fun r H8 k8 hT8 h0 h1 => ?_⟩
        obtain ⟨x, v, hv, hx, hxv⟩ := pick H8 r ((k6.trans (s7.tk t)).trans k8) h0 h1
        refine ⟨D, _, _, _, rfl, rfl, SqL.of (k8 _ _ hpl7 npl), at_of (j := r.toNat) (by omega) hv, ?_⟩
        refine ⟨by show 1 ≤ sizeLine; rw [sizeLine_eq]; decide, fun p1 np1 => ?_⟩
        have s9 : Same H8 (upd H8 p1 (.lst [v])) := same_new np1
        have hp8 : H8 p = some (.lst (cutV ys (some (-2)) none)) := k8 _ _ upd_same npt
        refine ⟨p, p1, _, _, rfl, rfl, s9 _ _ hp8, upd_same, le_line (by show _ + 1 ≤ _; omega), fun p2 np2 => ?_⟩
        have s10 := same_new (o := .lst (cutV ys (some (-2)) none ++ [v])) np2
        have hT10 := hT8.same (s9.trans s10)
        have np2t := (hT8.same s9).ne np2
        refine ⟨_, rfl, t, l, 6, rfl, hT10, by decide, by decide, fun d H11 k11 hT11 d0 d1 => ?_⟩
        refine ⟨_, _, rfl, rfl, ?_⟩
        have hp11 := k11 _ _ (upd_same (H := upd H8 p1 (.lst [v])) (a := p2) (o := .lst (cutV ys (some (-2)) none ++ [v]))) np2t
        have h8 := EVs.tm ((k6.trans (s7.tk t)).trans k8 |>.tm hT5) hys
        obtain ⟨ms, hms, hme, hml⟩ := EVs.cut h8 hne (some (-2)) none 2 (sIx_m2 _)
        have lms := hms.len
        have lsum : (cutV ys (some (-2)) none ++ [v]).length ≤ 3 := by
          rw [List.length_append, List.length_singleton]
          omega
        have lmul : (cutV ys (some (-2)) none ++ [v]).length * (1 + d).toNat ≤ 3 * 6 := Nat.mul_le_mul lsum (by omega)
        refine ⟨p2, _, _, rfl, rfl, hp11, by omega, by omega, le_line (by omega), fun p3 np3 => ?_⟩
        have s12 := same_new (o := .lst (List.replicate (1 + d).toNat (cutV ys (some (-2)) none ++ [v])).flatten) np3
        have hrw11 : H11 rw = some (.lst ys) := k11 _ _ (s10 _ _ (s9 _ _ (k8 _ _ hrw7 nrwt))) nrwt
        have lr := rep_len (cutV ys (some (-2)) none ++ [v]) (1 + d).toNat
        rw [Nat.mul_comm] at lr
        refine ⟨rw, p3, ys, _, rfl, rfl, s12 _ _ hrw11, upd_same, le_line (by rw [lr]; omega), fun p4 np4 => ?_⟩
        have s13 := same_new (o := .lst (ys ++ (List.replicate (1 + d).toNat (cutV ys (some (-2)) none ++ [v])).flatten)) np4
        have t8 := ((s9.trans s10).tm.trans (k11.tm hT10)).trans (s12.trans s13).tm
        have lr2 := rep_len (ms ++ [x]) (1 + d).toNat
        have lm2 : (ms ++ [x]).length ≤ 3 := by
          rw [List.length_append, List.length_singleton]
          omega
        have lmul2 : (1 + d).toNat * (ms ++ [x]).length ≤ 6 * 3 := Nat.mul_le_mul (by omega) lm2
        refine close _ p4 _ (List.replicate (1 + d).toNat (ms ++ [x])).flatten _ _ _ _ _ ((((((k6.trans (s7.tk t)).trans k8).trans ((s9.trans s10).tk t)).trans k11).trans ((s12.trans s13).tk t))) (hT11.same (s12.trans s13)) upd_same ?_ ?_ (by omega) ((hT11.same s12).ne np4)
        · exact EVs.rep (EVs.app (EVs.tm t8 hms) (.cons (EV.tm t8 hxv) .nil)) _
        · intro n hn
          rcases List.mem_append.mp (rep_mem hn) with h | h
          · exact hme n h
          · rw [List.mem_singleton.mp h]
            exact hx
      · -- some of the pool
        refine ⟨_, rfl, ?_⟩
        refine ⟨_, rfl, t, l, 6, rfl, hT6, by decide, by decide, fun d H8 k8 hT8 d0 d1 => ?_⟩
        refine ⟨_, _, rfl, rfl, _, rfl, by omega, by omega, fun D2 hD2 => ?_⟩
        have hrw8 : H8 rw = some (.lst ys) := k8 _ _ hrw6 nrwt
        have hpl8 : H8 D = some (.lst ps) := k8 _ _ hpl6 npl
        have nrD : rw ≠ D2 := ne_of_none hrw8 hD2
        have nDD : D ≠ D2 := ne_of_none hpl8 hD2
        have nD2t := hT8.ne hD2
        have nD2l := hT8.neL hD2
        refine lc_range (lo := 0) (n := (1 + d).toNat) (fun j H' => ∃ (zs : List V) (ms : List Nd), TK t H8 H' ∧ Tp H' t l ∧ H' D2 = some (.lst zs) ∧ EVs H' ms zs ∧ (∀ n ∈ ms, El n) ∧ ms.length = j)
          ⟨[], [], (same_new hD2).tk t, hT8.same (same_new hD2), upd_same, .nil, (fun n h => by cases h), rfl⟩ ?_ ?_
        · rintro j H9 hj ⟨zs, ms, k9, hT9, hd, hz, hme, hml⟩
          refine ⟨rfl, ?_⟩
          have lz := hz.len
          have hpl9 := k9 _ _ hpl8 npl
          refine ⟨_, rfl, _, rfl, _, rfl, D, _, rfl, .inl (SqL.of hpl9), t, l, _, rfl, hT9, by omega, by omega, fun r H10 k10 hT10 h0 h1 => ?_⟩
          obtain ⟨x, v, hv, hx, hxv⟩ := pick H10 r (((k6.trans k8).trans k9).trans k10) h0 h1
          refine ⟨D, _, _, _, rfl, rfl, SqL.of (k10 _ _ hpl9 npl), at_of (j := r.toNat) (by omega) hv, ?_⟩
          have hd10 := k10 _ _ hd nD2t
          have t1 : Tm H10 (upd H10 D2 (.lst (zs ++ [v]))) := Tm.lst (Tm.refl _) hd10
          refine ⟨_, hd10, lt_line (by omega), zs ++ [v], ms ++ [x], (k9.trans k10).put hD2, hT10.other nD2t nD2l, upd_same, EVs.app (EVs.tm ((k10.tm hT9).trans t1) hz) (.cons (EV.tm t1 hxv) .nil), ?_, by rw [List.length_append, List.length_singleton, hml]⟩
          intro n hn
          rcases List.mem_append.mp hn with h | h
          · exact hme n h
          · rw [List.mem_singleton.mp h]
            exact hx
        · rintro H9 ⟨zs, ms, k9, hT9, hd, hz, hme, hml⟩
          have lz := hz.len
          refine ⟨rw, D2, ys, zs, rfl, rfl, k9 _ _ hrw8 nrwt, hd, le_line (by omega), fun p3 np3 => ?_⟩
          have s10 : Same H9 (upd H9 p3 (.lst (ys ++ zs))) := same_new np3
          exact close _ p3 zs ms _ _ _ _ _ (((k6.trans k8).trans k9).trans (s10.tk t)) (hT9.same s10) upd_same (EVs.tm s10.tm hz) hme (by omega) (hT9.ne np3)
    · rintro σ H5 ⟨rw, ps, pn, ys, ns, o4, o5, o6, o7, o8, rfl, k5, hT5, hpl, hpn, hpe, hp1, hp5, npl, hrw, hys, hne, hnl, nrwt⟩
      refine ⟨_, rfl, ?_⟩
      refine ⟨_, rfl, _, rfl, rw, ys, rfl, SqL.of hrw, fun p np => ?_⟩
      have s6 : Same H5 (upd H5 p (.lst (cutV ys none (some (m : Int))))) := same_new np
      obtain ⟨ms, hms, hme, hml⟩ := EVs.cut hys hne none (some (m : Int)) m (by
        rw [HT.sIx_nat, HT.sIx_none]
        omega)
      exact q p _ _ ms (k5.trans (s6.tk t)) (hT5.same s6) (TK.free k5 hT5 np) upd_same (EVs.tm s6.tm hms) hme hml
end
end K33
/-! K33L4: _law_large, _law_levels. -/
namespace K33
open PySem PySem.Spec PyProof.Rows L2
theorem widths_at : ∀ j : Nat, j < 5 → ∃ v : Int, ([.int 2, .int 9, .int 1000, .int 1000000, .int 1000000] : List V)[j]? = some (.int v) ∧ 0 < v ∧ v ≤ 1000000
  | 0, _ => ⟨_, rfl, by decide, by decide⟩
  | 1, _ => ⟨_, rfl, by decide, by decide⟩
  | 2, _ => ⟨_, rfl, by decide, by decide⟩
  | 3, _ => ⟨_, rfl, by decide, by decide⟩
  | 4, _ => ⟨_, rfl, by decide, by decide⟩
  | n + 5, h => by omega
/-- the levels as tuples of nested nodes -/
abbrev NTs (H : Hp) (rs : List Addr) (ls : List (List Nd)) : Prop := Paired (fun (r : Addr) (row : List Nd) => ∃ vs, H r = some (.tup vs) ∧ NVs H row vs) rs ls
theorem NTs.tm {H H' : Hp} (t : Tm H H') : ∀ {rs : List Addr} {ls : List (List Nd)}, NTs H rs ls → NTs H' rs ls
  | _, _, .nil => .nil
  | _, _, .cons ⟨vs, h1, h2⟩ r => .cons ⟨vs, t _ _ h1, NVs.tm t h2⟩ (NTs.tm t r)
theorem NTs.snoc {H : Hp} {r : Addr} {row : List Nd} {vs : List V} {rs : List Addr} {ls : List (List Nd)} (h : H r = some (.tup vs)) (hv : NVs H row vs) (t : NTs H rs ls) : NTs H (rs ++ [r]) (ls ++ [row]) :=
  paired_snoc (R := fun (r : Addr) (row : List Nd) => ∃ vs, H r = some (.tup vs) ∧ NVs H row vs) ⟨vs, h, hv⟩ t
theorem Levels.nil_of {ls : List (List Nd)} (h : Levels [] ls) : ls = [] := by
  cases h with
  | nil => rfl
  | cons ne _ => exact absurd rfl ne
section
variable {P : Program} {w : World} {K : PySem.W.Frag} {mg : Str → Option Value} {base : Heap}
/-! ### _law_large -/
def spLarge : Sp := fun vs H Q _ => ∃ (t l : Addr) (k : Int), vs = [.ref t, .int k] ∧ Tp H t l ∧ 0 ≤ k ∧ k ≤ 90 ∧ ∀ (p : Addr) (H' : Hp) (ys : List V) (ns : List Nd), TK t H H' → Tp H' t l → H p = none → H' p = some (.lst ys) → EVs H' ns ys → (∀ n ∈ ns, El n) → ns.length ≤ 90 → Q (.ref p) H'
theorem sc_large : FnScope ["_law_tape_here", "_law_size", "_law_number", "_law_width", "_law_row", "_law_k"] ["_law_tape_here", "_law_size"] (defScope s_law_large) := ⟨rfl, rfl, rfl, by decide +kernel, rfl, by decide +kernel, by decide +kernel⟩
theorem ok_large {C : Addr} (T : Tx K mg C) : Cal P w K mg base "_law_large" 2 ["_law_tape_here", "_law_size"] spLarge := by
  obtain ⟨fD, fdD, GD, mD, kD, bD⟩ := (ok_draw (P := P) (w := w) (base := base) T).ex
  refine T.d_law_large.cal (fun _ _ _ _ _ _ us hl => match us, hl with | [_, _], _ => rfl) fun f fd F _ _ _ => ?_
  refine okD F sc_large (fun vs H Q E h => ?_) (fun cdv A outer s H vs Q E hr h => ?_)
  · obtain ⟨t, l, k, rfl, _⟩ := h
    rfl
  · obtain ⟨t, l, k, rfl, hT, hk0, hk1, q⟩ := h
    refine ⟨_, pss_cons (ps_set (i := 2) sc_large.nd rfl (Or.inl rfl) (pe_op op_add pe_int (pe_call GD hr rfl mD kD bD .nil pass0 (pa_cons (pv 0) (pa_cons pe_int pa_nil)))))
      (pss_cons (ps_set (i := 3) sc_large.nd rfl (Or.inl rfl) (pe_ix ix_list (pe_lst (pa_cons pe_int (pa_cons pe_int (pa_cons pe_int (pa_cons pe_int (pa_cons pe_int pa_nil)))))) (pe_call GD hr rfl mD kD bD .nil pass0 (pa_cons (pv 0) (pa_cons pe_int pa_nil))) (fun _ _ => rfl)))
      (pss_cons (ps_set (i := 4) sc_large.nd rfl (Or.inl rfl) (pe_lst pa_nil))
      (pss_cons (ps_for PassesOwn.never rfl (pi_range1 (by rfl) T.n_range (pa_cons (pv 1) pa_nil)) (pg_name (i := 5) sc_large.nd rfl (Or.inl rfl))
        (pss_cons (ps_set (i := 2) sc_large.nd rfl (Or.inl rfl) (pe_op op_mod (pe_callTy call_int1 (by rfl) T.n_int b_int (pa_cons (pe_op op_mul (pv 2) pe_int) pa_nil)) pe_int))
        (pss_one (ps_expr (pe_bm PySem.F.plainAttrs_list PySem.F.slot_list_append PySem.F.type_list_append mt_append (pv 4) (pa_cons (pe_op op_mod (pe_callTy call_int1 (by rfl) T.n_int b_int (pa_cons (pv 2) pa_nil)) (pv 3)) pa_nil))))))
      (pss_one (ps_ret (pv 4)))))), ?_⟩
    refine ⟨_, rfl, t, l, _, rfl, hT, by decide, by decide, fun r H1 k1 hT1 _ _ => ?_⟩
    refine ⟨_, _, rfl, rfl, ?_⟩
    refine ⟨by show 5 ≤ sizeLine; rw [sizeLine_eq]; decide, fun p np => ?_⟩
    have npt := hT1.ne np
    refine ⟨_, rfl, t, l, 5, rfl, hT1.same (same_new np), by decide, by decide, fun d H2 k2 hT2 d0 d1 => ?_⟩
    have hp2 := k2 _ _ upd_same npt
    obtain ⟨v, hv, v0, v1⟩ := widths_at d.toNat (by omega)
    refine ⟨p, _, _, _, rfl, rfl, SqL.of hp2, at_of (j := d.toNat) (by omega) hv, ?_⟩
    refine ⟨Nat.zero_le _, fun g ng => ?_⟩
    have k02 : TK t H H2 := k1.trans (((same_new np).tk t).trans k2)
    have ng0 : H g = none := TK.free k02 hT2 ng
    refine ⟨_, rfl, k, rfl, by omega, by omega, for_range (lo := 0) (n := k.toNat) (fun i σ H' => ∃ (z : Int) (ys : List V) (ns : List Nd) (o : Option V), σ = [some (.ref t), some (.int k), some (.int z), some (.int v), some (.ref g), o] ∧ Same H2 H' ∧ H' g = some (.lst ys) ∧ EVs H' ns ys ∧ (∀ n ∈ ns, El n) ∧ ns.length = i)
      ⟨_, [], [], none, rfl, same_new ng, upd_same, .nil, (fun n h => by cases h), rfl⟩ ?_ ?_⟩
    · rintro i σ H3 hi ⟨z, ys, ns, o, rfl, s3, hg, hE, hel, hln⟩
      have lys := hE.len
      refine ⟨_, rfl, _, _, rfl, rfl, .inr ⟨by decide, by decide⟩, .inl ⟨_, rfl, _, _, rfl, rfl, pos_m1, ?_⟩⟩
      refine ⟨_, rfl, .inl ⟨rfl, _, SqL.of hg⟩, ?_⟩
      refine ⟨_, rfl, .inl ⟨_, rfl, _, rfl, _, _, rfl, rfl, v0, ?_⟩⟩
      refine ⟨g, _, _, rfl, rfl, hg, lt_line (by omega), ?_⟩
      have t1 := Tm.lst (o := .lst (ys ++ [.int (z * 48271 % 2147483647 % v)])) (Tm.refl _) hg
      have e0 := Int.emod_nonneg (z * 48271 % 2147483647) (Int.ne_of_gt v0)
      have e1 := Int.emod_lt_of_pos (z * 48271 % 2147483647) v0
      refine ⟨_, ys ++ [.int (z * 48271 % 2147483647 % v)], ns ++ [.int (z * 48271 % 2147483647 % v)], _, rfl, s3.put ng, upd_same, EVs.app (EVs.tm t1 hE) (.cons (show EV _ (.int _) (.int _) from rfl) .nil), ?_, by rw [List.length_append, List.length_singleton, hln]⟩
      intro n hn
      rcases List.mem_append.mp hn with h | h
      · exact hel n h
      · rw [List.mem_singleton.mp h]
        show -1000000000000000 ≤ z * 48271 % 2147483647 % v ∧ z * 48271 % 2147483647 % v ≤ 1000000000000000
        omega
    · rintro σ H3 ⟨z, ys, ns, o, rfl, s3, hg, hE, hel, hln⟩
      exact ⟨_, rfl, q g H3 ys ns (k02.trans (s3.tk t)) (hT2.same s3) ng0 hg hE hel (by omega)⟩
/-! ### _law_levels -/
def spLevels : Sp := fun vs H Q _ => ∃ (a : Addr) (row : List Nd) (xs : List V), vs = [.ref a] ∧ H a = some (.tup xs) ∧ EVs H row xs ∧ (∀ n ∈ row, El n) ∧ row.length ≤ 250 ∧
  ∀ (p : Addr) (H' : Hp) (rs : List Addr) (ls : List (List Nd)), Same H H' → H' p = some (.lst (rs.map V.ref)) → Levels row ls → NTs H' rs ls → Q (.ref p) H'
theorem sc_levels : FnScope ["_law_contents_here", "_law_levels_here", "_law_nodes", "_law_k", "_law_items", "_law_part"] ["_law_contents_here"] (defScope s_law_levels) := ⟨rfl, rfl, rfl, by decide +kernel, rfl, by decide +kernel, by decide +kernel⟩
theorem ok_levels {C : Addr} (T : Tx K mg C) : Cal P w K mg base "_law_levels" 24 ["_law_contents_here"] spLevels := by
  obtain ⟨fI, fdI, GI, mI, kI, bI⟩ := (ok_items_of (P := P) (w := w) (base := base) T).ex
  obtain ⟨fB, fdB, GB, mB, kB, bB⟩ := (ok_blocks (P := P) (w := w) (base := base) T).ex
  refine T.d_law_levels.cal (fun _ _ _ _ _ _ us hl => match us, hl with | [_], _ => rfl) fun f fd F _ _ _ => ?_
  refine okD F sc_levels (fun vs H Q E h => ?_) (fun cdv A outer s H vs Q E hr h => ?_)
  · obtain ⟨a, row, xs, rfl, _⟩ := h
    rfl
  · obtain ⟨a, row, xs, rfl, ha, hE, hel, hrl, q⟩ := h
    have hr2 : Room 2 _ := hr.mono (by decide)
    have len := hE.len
    refine ⟨_, pss_cons (ps_set (i := 1) sc_levels.nd rfl (Or.inl rfl) (pe_lst pa_nil))
      (pss_cons (ps_set (i := 2) sc_levels.nd rfl (Or.inl rfl) (pe_callTy call_tuple_of (by rfl) T.n_tuple b_tuple (pa_cons (pe_lc (own := [("_law_part", 5)]) (g := gName 5) rfl sc_levels.nd (pi_tup (pv 0))
        (blkOk_by (own := [("_law_part", 5)]) (N := ["_law_contents_here", "_law_levels_here", "_law_nodes", "_law_k", "_law_items", "_law_part"]) (sc := defScope s_law_levels) (by decide +kernel))
        (fun _ _ _ _ _ => pg_name (i := 5) sc_levels.nd rfl (Or.inl rfl) (Or.inr rfl)) (fun _ _ _ _ _ => pts_nil) (fun _ _ _ _ _ => pe_tup (pa_cons pe_str (pa_cons (pv 5) pa_nil)))) pa_nil)))
      (pss_cons (ps_for PassesOwn.never rfl (pi_range1 (by rfl) T.n_range (pa_cons (pe_callB call_len_seq (by rfl) T.n_len b_len (pa_cons (pv 0) pa_nil)) pa_nil)) (pg_name (i := 3) sc_levels.nd rfl (Or.inl rfl))
        (pss_cons (ps_expr (pe_bm PySem.F.plainAttrs_list PySem.F.slot_list_append PySem.F.type_list_append mt_append (pv 1) (pa_cons (pv 2) pa_nil)))
        (pss_cons (ps_set (i := 4) sc_levels.nd rfl (Or.inl rfl) (pe_call GI hr2 rfl mI kI bI .nil pass0 (pa_cons (pv 2) pa_nil)))
        (pss_cons (ps_if (pt_cmpR op_eq (pe_callB call_len_seq (by rfl) T.n_len b_len (pa_cons (pv 4) pa_nil)) pe_int (nomark _)) (pss_one ps_break) pss_nil)
        (pss_one (ps_set (i := 2) sc_levels.nd rfl (Or.inl rfl) (pe_call GB hr rfl mB kB bB .nil pass0 (pa_cons (pv 4) pa_nil))))))))
      (pss_one (ps_ret (pv 1))))), ?_⟩
    refine ⟨Nat.zero_le _, fun g ng => ?_⟩
    have s1 : Same H (upd H g (.lst [])) := same_new ng
    refine ⟨_, rfl, a, rfl, ⟨_, SqT.of (s1 _ _ ha)⟩, fun D hD => ?_⟩
    have hD0 : H D = none := s1.free hD
    have ngD : g ≠ D := ne_of_none upd_same hD
    refine lc_tup (K := K) (a := a) (xs := xs) (fun i H' => ∃ vs : List V, Same H H' ∧ H' g = some (.lst []) ∧ H' D = some (.lst vs) ∧ NVs H' (row.take i) vs)
      ⟨[], s1.new hD, by rw [upd_ne ngD, upd_same], upd_same, .nil⟩ (fun i H' _ ⟨_, s2, _⟩ => SqT.of (s2 _ _ ha)) ?_ ?_
    · rintro i x H2 hi ⟨vs, s2, hg2, hd, hN⟩
      obtain ⟨n, en, hv⟩ := paired_get2 hE hi
      have mn : n ∈ row := List.mem_of_getElem? en
      have lt := (List.getElem?_eq_some_iff.mp en).1
      have lvs := hN.length
      rw [List.length_take] at lvs
      refine ⟨rfl, ?_⟩
      refine ⟨_, rfl, by show 2 ≤ sizeLine; rw [sizeLine_eq]; decide, fun b nb => ?_⟩
      have ngb : g ≠ b := ne_of_none hg2 nb
      have nDb : D ≠ b := ne_of_none hd nb
      have hd3 : upd H2 b (.tup [.str "leaf", x]) D = some (.lst vs) := by rw [upd_ne nDb]; exact hd
      have t1 : Tm H2 (upd H2 b (.tup [.str "leaf", x])) := (Tm.refl _).new nb
      have t2 := Tm.lst (o := .lst (vs ++ [.ref b])) (Tm.refl _) hd3
      refine ⟨vs, hd3, lt_line (by omega), vs ++ [.ref b], (s2.new nb).put hD0, by rw [upd_ne ngD, upd_ne ngb]; exact hg2, upd_same, ?_⟩
      rw [List.take_add_one, en]
      exact NVs.snoc (.leaf (t2 _ _ upd_same) (EV.tm ((s2.tm.trans t1).trans t2) hv)) (NVs.tm (t1.trans t2) hN)
    rintro H2 ⟨vs0, s2, hg2, hd, hN⟩
    rw [← len, List.take_length] at hN
    refine ⟨D, _, rfl, .inl ⟨SqL.of hd, fun nd0 nnd => ?_⟩⟩
    have s3 : Same H2 (upd H2 nd0 (.tup vs0)) := same_new nnd
    have s03 := s2.trans s3
    obtain ⟨rest0, hL0⟩ := levels_ex row.length row (Nat.le_refl _)
    refine ⟨_, rfl, a, _, rfl, .inr (SqT.of (s03 _ _ ha)), ?_⟩
    refine ⟨_, rfl, by omega, by omega, for_range (lo := 0) (n := ((xs.length : Int)).toNat) (fun i σ H' => ∃ (nd : Addr) (vs : List V) (cur : List Nd) (rs : List Addr) (dn rest : List (List Nd)) (o3 o4 o5 : Option V), σ = [some (.ref a), some (.ref g), some (.ref nd), o3, o4, o5] ∧ Same H H' ∧
        H' g = some (.lst (rs.map V.ref)) ∧ NTs H' rs dn ∧ dn.length = i ∧ H' nd = some (.tup vs) ∧ NVs H' cur vs ∧ RowOk cur ∧ sizeL cur < 256 ∧ (row ≠ [] → cur ≠ []) ∧ Levels cur rest ∧ Levels row (dn ++ rest) ∧ cur.length + i ≤ row.length)
      ⟨nd0, vs0, row, [], [], rest0, none, none, _, rfl, s03, s3 _ _ hg2, .nil, rfl, upd_same, NVs.tm s3.tm hN, leaves_ok hel (by omega), by rw [leaves_size hel]; omega, fun h => h, hL0, hL0, Nat.le_refl _⟩ ?_ ?_⟩
    · rintro i σ H4 hi ⟨nd, vs, cur, rs, dn, rest, o3, o4, o5, rfl, s4, hg4, hNT, hdn, hnd, hNV, ok, hsz, hcn, hLc, hLr, hcl⟩
      rw [Int.toNat_natCast] at hi
      have rne : row ≠ [] := fun e => by
        rw [e] at len
        have : xs.length = 0 := len.symm
        omega
      have cne := hcn rne
      have lrs := Paired.length hNT
      refine ⟨_, rfl, .inl ⟨rfl, _, SqL.of hg4⟩, _, rfl, g, _, _, rfl, rfl, hg4, lt_line (by rw [List.length_map]; omega), ?_⟩
      have t5 := Tm.lst (o := .lst (rs.map V.ref ++ [.ref nd])) (Tm.refl _) hg4
      have s5 := s4.put (o := .lst (rs.map V.ref ++ [.ref nd])) ng
      have hg5 : upd H4 g (.lst (rs.map V.ref ++ [.ref nd])) g = some (.lst ((rs ++ [nd]).map V.ref)) := by rw [upd_same, refs_snoc]
      have hNT5 : NTs (upd H4 g (.lst (rs.map V.ref ++ [.ref nd]))) (rs ++ [nd]) (dn ++ [cur]) := NTs.snoc (t5 _ _ hnd) (NVs.tm t5 hNV) (NTs.tm t5 hNT)
      have hnd5 := t5 _ _ hnd
      have hNV5 := NVs.tm t5 hNV
      generalize upd H4 g (.lst (rs.map V.ref ++ [.ref nd])) = H5 at t5 s5 hg5 hNT5 hnd5 hNV5 ⊢
      cases hLc with
      | nil => exact absurd rfl cne
      | @cons _ ls' _ hL' =>
        have hLr5 : Levels row ((dn ++ [cur]) ++ ls') := by
          rw [List.append_assoc]
          exact hLr
        have ldn : (dn ++ [cur]).length = i + 1 := by rw [List.length_append, List.length_singleton, hdn]
        refine ⟨_, rfl, nd, cur, vs, rfl, SqT.of hnd5, hNV5, ok, hsz, fun p H6 ys s6 hp6 hN6 => ?_⟩
        have lits := hN6.length
        refine ⟨_, rfl, p, _, rfl, .inr (SqT.of hp6), rfl, _, rfl, ite2d (fun c => ?_) (fun c => ?_)⟩
        · have c : V.int (ys.length : Int) = V.int 1 := c
          injection c with c
          have e := nextRow_small (row := cur) (by omega)
          rw [e] at hL'
          have e2 := hL'.nil_of
          rw [e2, List.append_nil] at hLr5
          exact ⟨_, rfl, q g H6 (rs ++ [nd]) (dn ++ [cur]) (s5.trans s6) (s6 _ _ hg5) hLr5 (NTs.tm s6.tm hNT5)⟩
        · have ine := items_ne cne
          have il := items_len cur
          have ipos : 0 < (items cur).length := by
            cases e : items cur with
            | nil => exact absurd e ine
            | cons => simp
          have c : 1 < (items cur).length := by
            by_cases h : 1 < (items cur).length
            · exact h
            · exact absurd (by rw [show ys.length = 1 by omega]; rfl) c
          have e := nextRow_big c
          have okn := nextRow_ok ok
          have nlen := nextRow_len cne
          have nsz := sizeL_nextRow (row := cur)
          rw [e] at okn nlen nsz hL'
          refine ⟨_, rfl, p, items cur, ys, rfl, hp6, hN6, ine, ?_, by rw [sizeL_items]; exact hsz, cods_row ok, fun p2 H7 zs s7 hp7 hN7 => ?_⟩
          · exact (goodL_iff _).mpr fun x hx => (item_good ok hx).1
          · refine ⟨p2, zs, blks (parts (items cur)), rs ++ [nd], dn ++ [cur], ls', _, _, _, rfl, (s5.trans s6).trans s7, s7 _ _ (s6 _ _ hg5), NTs.tm (s6.tm.trans s7.tm) hNT5, ldn, hp7, hN7, okn, by omega, fun _ e0 => ?_, hL', hLr5, by omega⟩
            have pn : parts (items cur) = [] := List.map_eq_nil_iff.mp e0
            have pf := parts_flat (items cur)
            rw [pn] at pf
            exact ine pf.symm
    · rintro σ H4 ⟨nd, vs, cur, rs, dn, rest, o3, o4, o5, rfl, s4, hg4, hNT, hdn, hnd, hNV, ok, hsz, hcn, hLc, hLr, hcl⟩
      rw [Int.toNat_natCast] at hdn hcl
      have ce : cur = [] := List.eq_nil_of_length_eq_zero (by omega)
      rw [ce] at hLc
      have e2 := hLc.nil_of
      rw [e2, List.append_nil] at hLr
      exact ⟨_, rfl, q g H4 rs dn s4 hg4 hLr hNT⟩
end
end K33
/-! K33L5: _law_stays. -/
namespace K33
open PySem PySem.Spec PyProof.Rows L2
/-! ### spans as data -/
def pD (p : Nat × Nat) : PyData := .tuple [.int (p.1 : Int), .int (p.2 : Int)]
theorem pD_eqv (a b : Nat × Nat) : PyData.eqv (pD a) (pD b) = decide (a = b) := by
  unfold pD
  rw [eqv_tup2, eqv_int, eqv_int]
  obtain ⟨a1, a2⟩ := a
  obtain ⟨b1, b2⟩ := b
  by_cases h1 : a1 = b1
  · by_cases h2 : a2 = b2
    · rw [decide_eq_true (show ((a1 : Nat) : Int) = b1 by omega), decide_eq_true (show ((a2 : Nat) : Int) = b2 by omega), decide_eq_true (by rw [h1, h2])]
      rfl
    · rw [decide_eq_false (p := ((a2 : Nat) : Int) = b2) (by omega), Bool.and_false, decide_eq_false]
      intro e
      exact h2 (Prod.mk.inj e).2
  · rw [decide_eq_false (p := ((a1 : Nat) : Int) = b1) (by omega), Bool.false_and, decide_eq_false]
    intro e
    exact h1 (Prod.mk.inj e).1
theorem pD_shaped (a : Nat × Nat) : SeqAt.shaped (pD a) = true := by
  unfold SeqAt.shaped pD
  simp [PyData.canLay0, PyData.canLayAll0, PyData.depth, PyData.depthAll]
theorem pD_all : ∀ sp : List (Nat × Nat), PyData.canLayAll0 (sp.map pD) = true ∧ PyData.depthAll (sp.map pD) ≤ 1
  | [] => by simp [PyData.canLayAll0, PyData.depthAll]
  | a :: r => by
    obtain ⟨h1, h2⟩ := pD_all r
    have h3 := pD_shaped a
    rw [List.map_cons]
    constructor
    · rw [PyData.canLayAll0, h1, SeqAt.canLay_of_shaped h3]
      rfl
    · rw [PyData.depthAll]
      have h4 : (pD a).depth ≤ 1 := by
        unfold pD
        simp [PyData.depth, PyData.depthAll]
      omega
theorem pDs_shaped (sp : List (Nat × Nat)) : SeqAt.shaped (.tuple (sp.map pD)) = true := by
  obtain ⟨h1, h2⟩ := pD_all sp
  unfold SeqAt.shaped
  rw [PyData.canLay0, h1, Bool.true_and, PyData.depth]
  exact decide_eq_true (by omega)
theorem pDs_eqv : ∀ sp : List (Nat × Nat), PyData.eqvAll (sp.map pD) (sp.map pD) = true
  | [] => by simp [PyData.eqvAll]
  | a :: r => by
    rw [List.map_cons, PyData.eqvAll, pDs_eqv r, pD_eqv, decide_eq_true rfl]
    rfl
theorem pDs_self (sp : List (Nat × Nat)) : PyData.eqv (.tuple (sp.map pD)) (.tuple (sp.map pD)) = true := by
  rw [PyData.eqv]
  exact pDs_eqv sp
section
variable {K : PySem.W.Frag} {H : Hp}
theorem Spn.dp : ∀ {rs : List Addr} {sp : List (Nat × Nat)}, Spn H rs sp → DpAll K H (rs.map V.ref) (sp.map pD)
  | _, _, .nil => .nil
  | _, _, .cons h r => .cons (.tup (SqT.of h) (.cons (.int _) (.cons (.int _) .nil))) (Spn.dp r)
theorem dpDrop : ∀ {vs : List V} {ds : List PyData} (k : Nat), DpAll K H vs ds → DpAll K H (vs.drop k) (ds.drop k)
  | _, _, 0, h => h
  | _, _, _ + 1, .nil => .nil
  | _, _, k + 1, .cons _ b => dpDrop k b
theorem dpTake : ∀ {vs : List V} {ds : List PyData} (k : Nat), DpAll K H vs ds → DpAll K H (vs.take k) (ds.take k)
  | _, _, 0, _ => .nil
  | _, _, _ + 1, .nil => .nil
  | _, _, k + 1, .cons a b => .cons a (dpTake k b)
/-- t[s:e] of a tuple, known or not -/
theorem sl_midT {a : Addr} {xs : List V} {z1 z2 : Int} (s e : Nat) {Q : VK} (h : SqT K H a xs) (h1 : z1 = (s : Int)) (h2 : z2 = (e : Int)) (hs : s ≤ xs.length) (he : e ≤ xs.length) (q : ∀ p H', Same H H' → SqT K H' p ((xs.drop s).take (e - s)) → Q (.ref p) H') :
    rSlA K (.ref a) (some z1) (some z2) H Q := by
  subst h1 h2
  refine ⟨a, xs, rfl, h, fun c => ?_, fun _ p np => ?_⟩
  · obtain ⟨c1, c2⟩ := c
    rw [HT.sIx_nat, Nat.min_eq_left hs] at c1
    rw [HT.sIx_nat, Nat.min_eq_left he] at c2
    refine q a H (Same.refl H) ?_
    rw [c1, c2, List.drop_zero, Nat.sub_zero, List.take_length]
    exact h
  · refine q p _ (same_new np) (SqT.of ?_)
    rw [upd_same, cutV_mid xs hs he]
theorem sl_mid2 {a : Addr} {xs : List V} {z1 z2 : Int} (s e : Nat) {Q : VK} (h : H a = some (.tup xs)) (h1 : z1 = (s : Int)) (h2 : z2 = (e : Int)) (hs : s ≤ xs.length) (he : e ≤ xs.length) (q : ∀ p H', Same H H' → H' p = some (.tup ((xs.drop s).take (e - s))) → Q (.ref p) H') :
    rSlA K (.ref a) (some z1) (some z2) H Q := by
  subst h1 h2
  exact sl_mid h hs he q
end
section
variable {P : Program} {w : World} {K : PySem.W.Frag} {mg : Str → Option Value} {base : Heap}
def spStays (K : PySem.W.Frag) : Sp := fun vs H Q _ => ∃ (sa na ka : Addr) (rs ks : List Addr) (pre kr post : List (Nat × Nat)) (k0 : Nat × Nat) (ns : List V), vs = [.ref sa, .ref na, .ref ka] ∧ FrT H sa (rs.map V.ref) ∧ Spn H rs (pre ++ ((k0 :: kr) ++ post)) ∧
  SqT K H ka (ks.map V.ref) ∧ Spn H ks (k0 :: kr) ∧ (∀ x ∈ pre, x ≠ k0) ∧ H na = some (.tup ns) ∧ ns.length = (pre ++ ((k0 :: kr) ++ post)).length ∧
  ∀ (p u : Addr) (H' : Hp), Same H H' → H' p = some (.lst [.int (pre.length : Int), .ref u]) → H' u = some (.tup ((ns.drop pre.length).take (k0 :: kr).length)) → Q (.ref p) H'
theorem sc_stays : FnScope ["_law_spans", "_law_nodes", "_law_kept", "_law_place"] ["_law_spans", "_law_nodes", "_law_kept"] (defScope s_law_stays) := ⟨rfl, rfl, rfl, by decide +kernel, rfl, by decide +kernel, by decide +kernel⟩
theorem ok_stays {C : Addr} (T : Tx K mg C) : Cal P w K mg base "_law_stays" 5 ["_law_spans", "_law_nodes", "_law_kept"] (spStays K) := by
  refine T.d_law_stays.cal (fun _ _ _ _ _ _ us hl => match us, hl with | [_, _, _], _ => rfl) fun f fd F _ _ _ => ?_
  refine okD F sc_stays (fun vs H Q E h => ?_) (fun cdv A outer s H vs Q E hr h => ?_)
  · obtain ⟨sa, na, ka, rs, ks, pre, kr, post, k0, ns, rfl, _⟩ := h
    rfl
  · obtain ⟨sa, na, ka, rs, ks, pre, kr, post, k0, ns, rfl, hF, hS, hKq, hK, hne, hn, hnl, q⟩ := h
    have hu : (A.deeper (envOfC "_law_stays" (defScope s_law_stays) s.heap.objs.size f cdv)).units + 65 < cLine := by
      have := hr.un
      omega
    have hu2 := hr.units
    refine ⟨_, pss_cons (ps_if (PW.pt (pw_or (pt_not (pt_truth (pv 2) (by intro _; rfl))) (pw_or1 (pt_cmpR (op_notInT hu) (pe_ix ix_tup (pv 2) pe_int (fun _ _ => rfl)) (pv 0) (by rfl))))) (pss_one (ps_ret pe_non)) pss_nil)
      (pss_cons (ps_set (i := 3) sc_stays.nd rfl (Or.inl rfl) (pe_bmT PySem.F.slot_tuple_index PySem.F.type_tuple_index (mt_indexT hu) (pv 0) (pa_cons (pe_ix ix_tup (pv 2) pe_int (fun _ _ => rfl)) pa_nil)))
      (pss_cons (ps_if (pt_cmpR (op_neD hu2) (pe_slice sl_tupA (pv 0) (po_some (pv 3)) (po_some (pe_op op_add (pv 3) (pe_callB call_len_seq (by rfl) T.n_len b_len (pa_cons (pv 2) pa_nil))))) (pv 2) (nomark _)) (pss_one (ps_ret pe_non)) pss_nil)
      (pss_one (ps_ret (pe_lst (pa_cons (pv 3) (pa_cons (pe_slice sl_tupA (pv 1) (po_some (pv 3)) (po_some (pe_op op_add (pv 3) (pe_callB call_len_seq (by rfl) T.n_len b_len (pa_cons (pv 2) pa_nil))))) pa_nil))))))), ?_⟩
    have lks := Paired.length hK
    have lrs := Paired.length hS
    cases ks with
    | nil => cases hK
    | cons c0 cr =>
      obtain ⟨hc0, _⟩ : H c0 = some (.tup [.int (k0.1 : Int), .int (k0.2 : Int)]) ∧ True := by
        cases hK with
        | cons h _ => exact ⟨h, trivial⟩
      have dk0 : Dp K H (.ref c0) (pD k0) := .tup (SqT.of hc0) (.cons (.int _) (.cons (.int _) .nil))
      have dS : Dp K H (.ref sa) (.tuple ((pre ++ ((k0 :: kr) ++ post)).map pD)) := .tup hF.sq (Spn.dp hS)
      have dK : Dp K H (.ref ka) (.tuple ((k0 :: kr).map pD)) := .tup hKq (Spn.dp hK)
      refine ⟨_, rfl, true, .inr (.inl ⟨_, hKq, rfl⟩), ?_⟩
      refine iteF ?_
      refine ⟨_, rfl, ka, _, _, _, rfl, rfl, hKq, atI_nat (j := 0) rfl, _, rfl, _, _, dk0, dS, pD_shaped k0, pDs_shaped _, _, rfl, ?_⟩
      have hany : (((pre ++ ((k0 :: kr) ++ post)).map pD).any fun z => PyData.eqv z (pD k0)) = true := by
        rw [List.any_eq_true]
        exact ⟨pD k0, List.mem_map.mpr ⟨k0, List.mem_append_right _ (List.mem_append_left _ (List.mem_cons_self ..)), rfl⟩, by rw [pD_eqv]; exact decide_eq_true rfl⟩
      rw [hany]
      refine iteF ?_
      refine ⟨_, rfl, ⟨sa, _, rfl, hF⟩, _, rfl, ka, _, _, _, rfl, rfl, hKq, atI_nat (j := 0) rfl, ?_⟩
      refine ⟨sa, _, pD k0, (pre ++ ((k0 :: kr) ++ post)).map pD, pre.length, pD k0, rfl, rfl, dS, dk0, pDs_shaped _, pD_shaped k0, ?_, by rw [pD_eqv]; exact decide_eq_true rfl, ?_, ?_⟩
      · rw [List.getElem?_map, List.getElem?_append_right (Nat.le_refl _), Nat.sub_self]
        rfl
      · intro m z hm hz
        rw [List.getElem?_map, List.getElem?_append_left hm] at hz
        cases em : pre[m]? with
        | none =>
          rw [em] at hz
          cases hz
        | some x =>
          rw [em] at hz
          have hz : pD x = z := Option.some.inj hz
          rw [← hz, pD_eqv]
          exact decide_eq_false (hne x (List.mem_of_getElem? em))
      have lt1 : (rs.map V.ref).length = pre.length + ((k0 :: kr).length + post.length) := by rw [List.length_map, lrs, List.length_append, List.length_append]
      have lk2 : ((c0 :: cr).map V.ref).length = (k0 :: kr).length := by rw [List.length_map, lks]
      refine ⟨_, rfl, _, rfl, _, rfl, _, rfl, _, rfl, ka, _, rfl, .inr hKq, _, _, rfl, rfl, _, rfl, ?_⟩
      refine sl_midT (K := K) pre.length (pre.length + (k0 :: kr).length) hF.sq rfl (by rw [lk2]; omega) (by omega) (by omega) fun p H1 s1 hp => ?_
      have dP : Dp K H1 (.ref p) (.tuple ((k0 :: kr).map pD)) := by
        refine .tup hp ?_
        have h1 := dpTake (pre.length + (k0 :: kr).length - pre.length) (dpDrop pre.length (Spn.dp (K := K) (Spn.tm s1.tm hS)))
        have e1 : (((pre ++ ((k0 :: kr) ++ post)).map pD).drop pre.length).take (pre.length + (k0 :: kr).length - pre.length) = (k0 :: kr).map pD := by
          rw [List.map_append, Nat.add_sub_cancel_left]
          have e2 : ((pre.map pD) ++ (((k0 :: kr) ++ post).map pD)).drop pre.length = ((k0 :: kr) ++ post).map pD := by
            have := List.drop_left (l₁ := pre.map pD) (l₂ := ((k0 :: kr) ++ post).map pD)
            rw [List.length_map] at this
            exact this
          rw [e2, List.map_append]
          have := List.take_left (l₁ := (k0 :: kr).map pD) (l₂ := post.map pD)
          rw [List.length_map] at this
          exact this
        rw [e1] at h1
        exact h1
      refine ⟨_, rfl, _, _, dP, dp_same s1 dK, pDs_shaped _, pDs_shaped _, _, rfl, ?_⟩
      rw [pDs_self]
      refine iteF ?_
      have ln : ns.length = pre.length + ((k0 :: kr).length + post.length) := by rw [hnl, List.length_append, List.length_append]
      refine ⟨_, rfl, _, rfl, _, rfl, _, rfl, _, rfl, _, rfl, ka, _, rfl, .inr (s1.seqT hKq), _, _, rfl, rfl, _, rfl, ?_⟩
      refine sl_mid2 (K := K) pre.length (pre.length + (k0 :: kr).length) (s1 _ _ hn) rfl (by rw [lk2]; omega) (by omega) (by omega) fun u H2 s2 hu' => ?_
      refine ⟨by show 2 ≤ sizeLine; rw [sizeLine_eq]; decide, fun b nb => ?_⟩
      rw [Nat.add_sub_cancel_left] at hu'
      exact q b u _ ((s1.trans s2).new nb) upd_same ((same_new nb) _ _ hu')
end
end K33
/-! K33L6: the law. -/
namespace K33
open PySem PySem.Spec PyProof.Rows L2
/-! ### what the loop needs of the levels -/
theorem Levels.unique {row : List Nd} {l1 : List (List Nd)} (h : Levels row l1) : ∀ {l2 : List (List Nd)}, Levels row l2 → l1 = l2 := by
  induction h with
  | nil => exact fun h2 => h2.nil_of.symm
  | cons ne _ ih =>
    intro l2 h2
    cases h2 with
    | nil => exact absurd rfl ne
    | cons _ h3 => rw [ih h3]
theorem levels_rows {row : List Nd} {ls : List (List Nd)} (h : Levels row ls) (ok : RowOk row) (hs : sizeL row < 256) : ∀ r ∈ ls, RowOk r ∧ sizeL r < 256 := by
  induction h with
  | nil => intro r hr; cases hr
  | cons ne _ ih =>
    intro r hr
    rcases List.mem_cons.mp hr with rfl | hr
    · exact ⟨ok, hs⟩
    · exact ih (nextRow_ok ok) (Nat.lt_of_le_of_lt sizeL_nextRow hs) r hr
theorem spanL_lt {row : List Nd} (hg : ∀ x ∈ row, 1 ≤ size x) : ∀ (s : Nat), ∀ p ∈ spanL s row, p.1 < s + sizeL row := by
  induction row with
  | nil => intro s p hp; cases hp
  | cons n r ih =>
    intro s p hp
    have h1 := hg n (List.mem_cons_self ..)
    show p.1 < s + (size n + sizeL r)
    rcases List.mem_cons.mp hp with rfl | hp
    · show s < s + (size n + sizeL r)
      omega
    · have := ih (fun x hx => hg x (List.mem_cons_of_mem _ hx)) (s + size n) p hp
      omega
theorem spanL_shift (d : Nat) : ∀ (row : List Nd) (s : Nat), (spanL s row).map (fun p => (p.1 + d, p.2 + d)) = spanL (s + d) row
  | [], _ => rfl
  | n :: r, s => by
    show (s + d, s + size n + d) :: (spanL (s + size n) r).map (fun p => (p.1 + d, p.2 + d)) = (s + d, s + d + size n) :: spanL (s + d + size n) r
    rw [spanL_shift d r (s + size n), show s + size n + d = s + d + size n by omega]
/-- the spans of a row around a row within it -/
theorem spans_in {row frow : List Nd} {off a b : Nat} (hok : RowOk row) (h : In row frow off a b) (ne : frow ≠ []) : ∃ (pre kr post : List (Nat × Nat)) (k0 : Nat × Nat), spanL 0 row = pre ++ ((k0 :: kr) ++ post) ∧ spanL off frow = k0 :: kr ∧ (∀ x ∈ pre, x ≠ k0) ∧ pre.length ≤ a ∧ post.length ≤ b ∧
    (row.drop pre.length).take (k0 :: kr).length = frow ∧ (k0 :: kr).length = frow.length := by
  obtain ⟨pr, po, e, hs, ha, hb⟩ := h.ex
  cases frow with
  | nil => exact absurd rfl ne
  | cons n r =>
    have hp : ∀ x ∈ pr, 1 ≤ size x := fun x hx => size_pos x (hok.good x (by rw [e]; exact List.mem_append_left _ hx))
    refine ⟨spanL 0 pr, spanL (off + size n) r, spanL (off + sizeL (n :: r)) po, (off, off + size n), ?_, rfl, ?_, by rw [spanL_len]; exact ha, by rw [spanL_len]; exact hb, ?_, by rw [List.length_cons, spanL_len, List.length_cons]⟩
    · rw [e, spanL_app, spanL_app, Nat.zero_add, hs]
      rfl
    · intro x hx ex
      have := spanL_lt hp 0 x hx
      rw [ex] at this
      have : off < 0 + sizeL pr := this
      omega
    · rw [spanL_len, List.length_cons, spanL_len, e, List.drop_left]
      exact List.take_left (l₁ := n :: r) (l₂ := po)
theorem row_shaped {l : List Nd} (g : ∀ x ∈ l, Good x) (h : sizeL l < 256) : SeqAt.shaped (.tuple (pyL l)) = true := by
  obtain ⟨h1, h2⟩ := pyL_ok l ((goodL_iff l).mpr g)
  unfold SeqAt.shaped
  rw [PyData.canLay0, h1, Bool.true_and, PyData.depth]
  have h3 : heightL l ≤ 7 := by
    cases l with
    | nil => exact Nat.zero_le _
    | cons x r =>
      obtain ⟨y, hy, e⟩ := heightL_at (x :: r) (by intro z; cases z)
      rw [e]
      exact height_le (g y hy) (Nat.lt_of_le_of_lt (size_mem hy) h)
  exact decide_eq_true (by omega)
theorem row_self {l : List Nd} (g : ∀ x ∈ l, Good x) : PyData.eqv (.tuple (pyL l)) (.tuple (pyL l)) = true := by
  rw [PyData.eqv, pyL_eqv l l ((goodL_iff l).mpr g) ((goodL_iff l).mpr g)]
  exact decide_eq_true rfl
section
variable {P : Program} {w : World} {K : PySem.W.Frag} {mg : Str → Option Value} {base : Heap}
def spLaw (K : PySem.W.Frag) : Sp := fun vs H Q _ => ∃ (a : Addr) (ns : List Int), vs = [.ref a] ∧ SqL K H a (ns.map V.int) ∧ ns.length ≤ 63 ∧ ∀ H', Q (.bl true) H'
theorem sc_law : FnScope ["_law_script", "_law_tape_here", "_law_before", "_law_contents_here", "_law_whole", "_law_fixed", "_law_spans", "_law_wider", "_law_levels_here", "_law_taller", "_law_k", "_law_moved", "_law_alone", "_law_inside", "_law_span"] ["_law_script"] (defScope s_law) := ⟨rfl, rfl, rfl, by decide +kernel, rfl, by decide +kernel, by decide +kernel⟩
/-- a length of a list or tuple as the layer's rule reads it, over K -/
def rLen (K : PySem.W.Frag) : List V → Hp → VK → Prop := fun xs H Q => ∃ p ys, xs = [V.ref p] ∧ (SqL K H p ys ∨ SqT K H p ys) ∧ Q (V.int (ys.length : Int)) H
theorem fn_law {C f : Addr} {fd : FuncData} (T : Tx K mg C) (F : FunD K "law" "law" (defArgs s_law) (defBody s_law) (defScope s_law) [] [] f fd) : FnOk P w K mg base CX0 40 f fd ["_law_script"] (spLaw K) := by
  obtain ⟨fT, fdT, GT, mT, kT, bT⟩ := (ok_tape (P := P) (w := w) (base := base) T).ex
  obtain ⟨fD, fdD, GD, mD, kD, bD⟩ := (ok_draw (P := P) (w := w) (base := base) T).ex
  obtain ⟨fC, fdC, GC, mC, kC, bC⟩ := (ok_contents (P := P) (w := w) (base := base) T).ex
  obtain ⟨fL, fdL, GL, mL, kL, bL⟩ := (ok_large (P := P) (w := w) (base := base) T).ex
  obtain ⟨fF, fdF, GF, mF, kF, bF⟩ := (ok_fixed (P := P) (w := w) (base := base) T).ex
  obtain ⟨fS, fdS, GS, mS, kS, bS⟩ := (ok_spans (P := P) (w := w) (base := base) T).ex
  obtain ⟨fV, fdV, GV, mV, kV, bV⟩ := (ok_levels (P := P) (w := w) (base := base) T).ex
  obtain ⟨fY, fdY, GY, mY, kY, bY⟩ := (ok_stays (P := P) (w := w) (base := base) T).ex
  refine okD F sc_law (fun vs H Q E h => ?_) (fun cdv A outer s H vs Q E hr h => ?_)
  · obtain ⟨a, ns, rfl, _⟩ := h
    rfl
  · obtain ⟨a, ns, rfl, hS, hl, q⟩ := h
    have hr1 : Room 1 _ := hr.mono (by decide)
    have hr2 : Room 2 _ := hr.mono (by decide)
    have hr5 : Room 5 _ := hr.mono (by decide)
    have hr6 : Room 6 _ := hr.mono (by decide)
    have hr9 : Room 9 _ := hr.mono (by decide)
    have hr24 : Room 24 _ := hr.mono (by decide)
    have hu := hr.units
    refine ⟨_, pss_cons (ps_set (i := 1) sc_law.nd rfl (Or.inl rfl) (pe_call GT hr1 rfl mT kT bT .nil pass0 (pa_cons (pv 0) pa_nil)))
      (pss_cons (ps_set (i := 2) sc_law.nd rfl (Or.inr rfl) (pe_call GC hr6 rfl mC kC bC .nil pass0 (pa_cons (pv 1) (pa_cons pe_int pa_nil))))
      (pss_cons (ps_set (i := 3) sc_law.nd rfl (Or.inl rfl) (pe_call GC hr6 rfl mC kC bC .nil pass0 (pa_cons (pv 1) (pa_cons pe_int pa_nil))))
      (pss_cons (ps_if (pt_cmpR op_eq (pe_call GD hr1 rfl mD kD bD .nil pass0 (pa_cons (pv 1) (pa_cons pe_int pa_nil))) pe_int (nomark _))
        (pss_one (ps_set (i := 3) sc_law.nd rfl (Or.inl rfl) (pe_op op_cat (pv 3) (pe_call GL hr2 rfl mL kL bL .nil pass0 (pa_cons (pv 1) (pa_cons (pe_call GD hr1 rfl mD kD bD .nil pass0 (pa_cons (pv 1) (pa_cons pe_int pa_nil))) pa_nil)))))) pss_nil)
      (pss_cons (ps_set (i := 4) sc_law.nd rfl (Or.inl rfl) (pe_callTy call_tuple_of (by rfl) T.n_tuple b_tuple (pa_cons (pe_op op_cat (pe_op op_cat (pv 2) (pv 3)) (pe_call GC hr6 rfl mC kC bC .nil pass0 (pa_cons (pv 1) (pa_cons pe_int pa_nil)))) pa_nil)))
      (pss_cons (ps_set (i := 5) sc_law.nd rfl (Or.inl rfl) (pe_call GF hr9 rfl mF kF bF .nil pass0 (pa_cons (pe_callTy call_tuple_of (by rfl) T.n_tuple b_tuple (pa_cons (pv 3) pa_nil)) pa_nil)))
      (pss_cons (ps_set (i := 6) sc_law.nd rfl (Or.inl rfl) (pe_call GS hr9 rfl mS kS bS .nil pass0 (pa_cons (pe_callTy call_tuple_of (by rfl) T.n_tuple b_tuple (pa_cons (pv 3) pa_nil)) pa_nil)))
      (pss_cons (ps_set (i := 7) sc_law.nd rfl (Or.inl rfl) (pe_call GS hr9 rfl mS kS bS .nil pass0 (pa_cons (pv 4) pa_nil)))
      (pss_cons (ps_set (i := 8) sc_law.nd rfl (Or.inl rfl) (pe_call GV hr24 rfl mV kV bV .nil pass0 (pa_cons (pe_callTy call_tuple_of (by rfl) T.n_tuple b_tuple (pa_cons (pv 3) pa_nil)) pa_nil)))
      (pss_cons (ps_set (i := 9) sc_law.nd rfl (Or.inl rfl) (pe_call GV hr24 rfl mV kV bV .nil pass0 (pa_cons (pv 4) pa_nil)))
      (pss_cons (ps_if (PW.pt (pw_or (pt_cmpR op_gt (pe_callB call_len_seq (by rfl) T.n_len b_len (pa_cons (pv 5) pa_nil))
            (pe_callB (call_min4 rfl) (by rfl) T.n_min b_min (pa_cons (pe_callB call_len_seq (by rfl) T.n_len b_len (pa_cons (pv 6) pa_nil)) (pa_cons (pe_callB call_len_seq (by rfl) T.n_len b_len (pa_cons (pv 7) pa_nil)) (pa_cons (pe_callB call_len_seq (by rfl) T.n_len b_len (pa_cons (pv 8) pa_nil)) (pa_cons (pe_callB call_len_seq (by rfl) T.n_len b_len (pa_cons (pv 9) pa_nil)) pa_nil))))) (nomark _))
          (pw_or1 (pt_cmpR op_ne (pe_callB call_len_seq (by rfl) T.n_len b_len (pa_cons (pv 8) pa_nil)) (pe_callB call_len_seq (by rfl) T.n_len b_len (pa_cons (pv 6) pa_nil)) (nomark _))))) pss_never pss_nil)
      (pss_cons (ps_for PassesOwn.never rfl (pi_range1 (by rfl) T.n_range (pa_cons (pe_callB call_len_seq (by rfl) T.n_len b_len (pa_cons (pv 6) pa_nil)) pa_nil)) (pg_name (i := 10) sc_law.nd rfl (Or.inl rfl))
        (pss_cons (ps_if (pt_cmpR op_ge (pv 10) (pe_callB call_len_seq (by rfl) T.n_len b_len (pa_cons (pv 5) pa_nil)) (nomark _))
          (pss_cons (ps_if (pt_cmpR op_gt (pe_callB call_len_seq (by rfl) T.n_len b_len (pa_cons (pe_ix ix_tup (pv 6) (pv 10) (fun _ _ => rfl)) pa_nil)) pe_int (nomark _)) pss_never pss_nil) (pss_one ps_continue)) pss_nil)
        (pss_cons (ps_set (i := 11) sc_law.nd rfl (Or.inl rfl) (pe_callTy call_tuple_of (by rfl) T.n_tuple b_tuple (pa_cons (pe_lc (own := [("_law_span", 14)]) (g := gName 14)
          (te := tTup (tCons (tOp (rI0 fun i j => .int (i + j)) (tOp (rIxT K) (tVar 14) (tC (.int 0))) (tCB (rLen K) (tCons (tVar 2) tNil))) (tCons (tOp (rI0 fun i j => .int (i + j)) (tOp (rIxT K) (tVar 14) (tC (.int 1))) (tCB (rLen K) (tCons (tVar 2) tNil))) tNil))) rfl sc_law.nd
          (pi_tup (pe_ix ix_tup (pv 5) (pv 10) (fun _ _ => rfl)))
          (blkOk_by (own := [("_law_span", 14)]) (N := ["_law_script", "_law_tape_here", "_law_before", "_law_contents_here", "_law_whole", "_law_fixed", "_law_spans", "_law_wider", "_law_levels_here", "_law_taller", "_law_k", "_law_moved", "_law_alone", "_law_inside", "_law_span"]) (sc := defScope s_law) (by decide +kernel))
          (fun _ _ _ _ _ => pg_name (i := 14) sc_law.nd rfl (Or.inl rfl) (Or.inr rfl)) (fun _ _ _ _ _ => pts_nil)
          (fun _ _ _ _ _ => pe_tup (pa_cons (pe_op op_add (pe_ix ix_tup (pv 14) pe_int (fun _ _ => rfl)) (pe_callB call_len_seq (by rfl) T.n_len b_len (pa_cons (pv 2) pa_nil))) (pa_cons (pe_op op_add (pe_ix ix_tup (pv 14) pe_int (fun _ _ => rfl)) (pe_callB call_len_seq (by rfl) T.n_len b_len (pa_cons (pv 2) pa_nil))) pa_nil)))) pa_nil)))
        (pss_cons (ps_set (i := 12) sc_law.nd rfl (Or.inl rfl) (pe_call GY hr5 rfl mY kY bY .nil pass0 (pa_cons (pe_ix ix_tup (pv 6) (pv 10) (fun _ _ => rfl)) (pa_cons (pe_ix ix_list (pv 8) (pv 10) (fun _ _ => rfl)) (pa_cons (pe_ix ix_tup (pv 5) (pv 10) (fun _ _ => rfl)) pa_nil)))))
        (pss_cons (ps_set (i := 13) sc_law.nd rfl (Or.inl rfl) (pe_call GY hr5 rfl mY kY bY .nil pass0 (pa_cons (pe_ix ix_tup (pv 7) (pv 10) (fun _ _ => rfl)) (pa_cons (pe_ix ix_list (pv 9) (pv 10) (fun _ _ => rfl)) (pa_cons (pv 11) pa_nil)))))
        (pss_cons (ps_if (PW.pt (pw_or (pt_cmpR op_isN (pv 12) pe_non (nomark _)) (pw_or (pt_cmpR op_isN (pv 13) pe_non (nomark _)) (pw_or1 (pt_cmpR (op_neD hu) (pe_ix ix_list (pv 12) pe_int (fun _ _ => rfl)) (pe_ix ix_list (pv 13) pe_int (fun _ _ => rfl)) (nomark _)))))) pss_never pss_nil)
        (pss_one (ps_if (PW.pt (pw_or (pt_cmpR op_gt (pe_ix ix_list (pv 12) pe_int (fun _ _ => rfl)) pe_int (nomark _))
          (pw_or1 (pt_cmpR op_gt (pe_op op_sub (pe_op op_sub (pe_callB call_len_seq (by rfl) T.n_len b_len (pa_cons (pe_ix ix_tup (pv 6) (pv 10) (fun _ _ => rfl)) pa_nil)) (pe_ix ix_list (pv 12) pe_int (fun _ _ => rfl)))
            (pe_callB call_len_seq (by rfl) T.n_len b_len (pa_cons (pe_ix ix_tup (pv 5) (pv 10) (fun _ _ => rfl)) pa_nil))) pe_int (nomark _))))) pss_never pss_nil))))))))
      (pss_one (ps_ret pe_bl))))))))))))), ?_⟩
    -- the draws
    refine ⟨_, rfl, a, ns, rfl, hS, hl, fun t l H1 s1 nt nl hT1 => ?_⟩
    refine ⟨_, rfl, t, l, 30, rfl, hT1, fun bf H2 xb bn k2 hT2 nbf hbf hbE hbel hbl => ?_⟩
    have nbft := hT1.ne nbf
    refine ⟨_, rfl, t, l, 60, rfl, hT2, fun cn H3 xc ms k3 hT3 ncn hcn hcE hcel hcl => ?_⟩
    have ncnt := hT2.ne ncn
    have hbf3 := k3 _ _ hbf nbft
    have hbE3 := EVs.tm (k3.tm hT2) hbE
    refine seq_set ?_
    refine seq_key (fun σ' H' => ∃ (cn : Addr) (yc : List V) (ms : List Nd), σ' = [some (.ref a), some (.ref t), some (.ref bf), some (.ref cn), none, none, none, none, none, none, none, none, none, none, none] ∧ Tp H' t l ∧ H' bf = some (.lst xb) ∧ EVs H' bn xb ∧
      H' cn = some (.lst yc) ∧ EVs H' ms yc ∧ (∀ n ∈ ms, El n) ∧ ms.length ≤ 150 ∧ bf ≠ t ∧ cn ≠ t) ?_ fun key => ?_
    · rintro σ' H4 ⟨cn, yc, ms, rfl, hT4, hbf4, hbE4, hcn4, hcE4, hcel, hcl, nbft, ncnt⟩
      have lxb := hbE4.len
      have lyc := hcE4.len
      -- the whole
      refine ⟨_, rfl, _, rfl, bf, cn, xb, yc, rfl, rfl, hbf4, hcn4, le_line (by omega), fun p1 np1 => ?_⟩
      have np1t := hT4.ne np1
      have sA : Same H4 (upd H4 p1 (.lst (xb ++ yc))) := same_new np1
      refine ⟨_, rfl, t, l, 30, rfl, hT4.same sA, fun p2 H5 xd an k5 hT5 np2 hp2 hdE hdel hdl => ?_⟩
      have hp1 := k5 _ _ upd_same np1t
      have lxd := hdE.len
      refine ⟨p1, p2, _, _, rfl, rfl, hp1, hp2, le_line (by rw [List.length_append]; omega), fun p3 np3 => ?_⟩
      have sB : Same H5 (upd H5 p3 (.lst ((xb ++ yc) ++ xd))) := same_new np3
      refine ⟨p3, _, rfl, .inl ⟨SqL.of upd_same, fun wh nwh => ?_⟩⟩
      have sC : Same (upd H5 p3 (.lst ((xb ++ yc) ++ xd))) (upd (upd H5 p3 (.lst ((xb ++ yc) ++ xd))) wh (.tup ((xb ++ yc) ++ xd))) := same_new nwh
      have hwh : upd (upd H5 p3 (.lst ((xb ++ yc) ++ xd))) wh (.tup ((xb ++ yc) ++ xd)) wh = some (.tup ((xb ++ yc) ++ xd)) := upd_same
      have t46 := (sA.tm.trans (k5.tm (hT4.same sA))).trans (sB.trans sC).tm
      have hbf6 := (sB.trans sC) _ _ (k5 _ _ (sA _ _ hbf4) nbft)
      have hcn6 := (sB.trans sC) _ _ (k5 _ _ (sA _ _ hcn4) ncnt)
      have hbE6 := EVs.tm t46 hbE4
      have hcE6 := EVs.tm t46 hcE4
      have hwE6 := EVs.app (EVs.app hbE6 hcE6) (EVs.tm (sB.trans sC).tm hdE)
      have hwel : ∀ n ∈ (bn ++ ms) ++ an, El n := fun n hn => by
        rcases List.mem_append.mp hn with hn | hn
        · rcases List.mem_append.mp hn with hn | hn
          · exact hbel n hn
          · exact hcel n hn
        · exact hdel n hn
      have hwl : ((bn ++ ms) ++ an).length ≤ 210 := by
        rw [List.length_append, List.length_append]
        omega
      generalize upd (upd H5 p3 (.lst ((xb ++ yc) ++ xd))) wh (.tup ((xb ++ yc) ++ xd)) = H6 at hwh hbf6 hcn6 hbE6 hcE6 hwE6 ⊢
      -- what is computed of them
      refine ⟨_, rfl, cn, _, rfl, .inl ⟨SqL.of hcn6, fun q1 nq1 => ?_⟩⟩
      refine ⟨q1, ms, yc, rfl, upd_same, EVs.tm (same_new nq1).tm hcE6, hcel, by omega, fun pf H7 qf fs s7 hpf hFx hSf => ?_⟩
      have s67 : Same H6 H7 := (same_new nq1).trans s7
      refine ⟨_, rfl, cn, _, rfl, .inl ⟨SqL.of (s67 _ _ hcn6), fun q2 nq2 => ?_⟩⟩
      refine ⟨q2, ms, yc, rfl, upd_same, EVs.tm (s67.trans (same_new nq2)).tm hcE6, hcel, by omega, fun pq H8 qs ls s8 hpq hLs hSs => ?_⟩
      have s78 : Same H7 H8 := (same_new nq2).trans s8
      have s68 := s67.trans s78
      refine ⟨_, rfl, wh, _, _, rfl, s68 _ _ hwh, EVs.tm s68.tm hwE6, hwel, by omega, fun pw H9 qw lw s9 hpw hLw hSw => ?_⟩
      have s69 := s68.trans s9
      refine ⟨_, rfl, cn, _, rfl, .inl ⟨SqL.of (s69 _ _ hcn6), fun q3 nq3 => ?_⟩⟩
      refine ⟨q3, ms, yc, rfl, upd_same, EVs.tm (s69.trans (same_new nq3)).tm hcE6, hcel, by omega, fun pl H10 rl ll s10 hpl hLl hNl => ?_⟩
      have s910 : Same H9 H10 := (same_new nq3).trans s10
      have s610 := s69.trans s910
      refine ⟨_, rfl, wh, _, _, rfl, s610 _ _ hwh, EVs.tm s610.tm hwE6, hwel, by omega, fun pt B rt lt sB' hpt hLt hNt => ?_⟩
      have ell := hLs.unique hLl
      have elt := hLw.unique hLt
      subst ell elt
      rw [List.append_assoc] at hLw hwel hwl
      have stay := plain_law hbel hFx hLs hLw
      have okM : RowOk ms := leaves_ok hcel (by omega)
      have okW : RowOk (bn ++ (ms ++ an)) := leaves_ok hwel (by omega)
      have szM : sizeL ms < 256 := by rw [leaves_size hcel]; omega
      have szW : sizeL (bn ++ (ms ++ an)) < 256 := by rw [leaves_size hwel]; omega
      -- all at B
      have hpl := sB' _ _ hpl
      have hNl := NTs.tm sB'.tm hNl
      have s9B := s910.trans sB'
      have hpw := s9B _ _ hpw
      have hSw := SpTs.same s9B hSw
      have s8B := s9.trans s9B
      have hpq := s8B _ _ hpq
      have hSs := SpTs.same s8B hSs
      have s7B := s78.trans s8B
      have hpf := s7B _ _ hpf
      have hSf := SpTs.same s7B hSf
      have hbfB := s7B _ _ (s67 _ _ hbf6)
      have lf : (qf.map V.ref).length = fs.length := by
        have := Paired.length hSf
        rw [List.length_map] at this
        rw [List.length_map, this]
      have lq : (qs.map V.ref).length = ls.length := by
        have := Paired.length hSs
        rw [List.length_map] at this
        rw [List.length_map, this]
      have lqw : (qw.map V.ref).length = lw.length := by
        have := Paired.length hSw
        rw [List.length_map] at this
        rw [List.length_map, this]
      have lrl : (rl.map V.ref).length = ls.length := by
        rw [List.length_map, Paired.length hNl]
      have lrt : (rt.map V.ref).length = lw.length := by
        rw [List.length_map, Paired.length hNt]
      have le1 := stay.le1
      have le2 := stay.le2
      have lls := hLs.len
      -- the test ahead of the loop
      refine ⟨_, rfl, pf, _, rfl, .inr (SqT.of hpf), _, rfl, pq, _, rfl, .inr (SqT.of hpq), _, rfl, pw, _, rfl, .inr (SqT.of hpw), _, rfl, pl, _, rfl, .inl (SqL.of hpl), _, rfl, pt, _, rfl, .inl (SqL.of hpt), _, _, _, _, rfl, fun m hm => ?_⟩
      have hm' : (fs.length : Int) ≤ m := by
        rcases List.mem_cons.mp hm with rfl | hm
        · omega
        rcases List.mem_cons.mp hm with rfl | hm
        · omega
        rcases List.mem_cons.mp hm with rfl | hm
        · omega
        rw [List.mem_singleton.mp hm]
        omega
      refine ⟨_, _, rfl, rfl, _, rfl, ite2d (fun c => absurd c (by omega)) (fun _ => ?_)⟩
      refine ⟨_, rfl, pl, _, rfl, .inl (SqL.of hpl), _, rfl, pq, _, rfl, .inr (SqT.of hpq), rfl, _, rfl, ?_⟩
      rw [lrl, lq, decide_eq_true rfl]
      refine iteF ?_
      -- the loop
      refine ⟨_, rfl, pq, _, rfl, .inr (SqT.of hpq), _, rfl, by omega, by omega, for_range (lo := 0) (n := (((qs.map V.ref).length : Nat) : Int).toNat) (fun i σ H' => ∃ o10 o11 o12 o13 o14 : Option V,
        σ = [some (.ref a), some (.ref t), some (.ref bf), some (.ref cn), some (.ref wh), some (.ref pf), some (.ref pq), some (.ref pw), some (.ref pl), some (.ref pt), o10, o11, o12, o13, o14] ∧ Same B H') ⟨none, none, none, none, none, rfl, Same.refl B⟩ ?_ ?_⟩
      · rintro i σ H1 hi ⟨o10, o11, o12, o13, o14, rfl, s1⟩
        rw [Int.toNat_natCast, lq] at hi
        obtain ⟨row, erow⟩ : ∃ row, ls[i]? = some row := ⟨_, List.getElem?_eq_getElem hi⟩
        obtain ⟨q', eq', rsq, frq, spq⟩ := paired_get2 (i := i) (y := spanL 0 row) hSs (by rw [List.getElem?_map, erow]; rfl)
        have eq2 : (qs.map V.ref)[i]? = some (.ref q') := by rw [List.getElem?_map, eq']; rfl
        have lrq : (rsq.map V.ref).length = row.length := by rw [List.length_map, Paired.length spq, spanL_len]
        have frq1 := frq.same s1
        have spq1 := Spn.tm s1.tm spq
        refine ⟨_, rfl, _, rfl, pf, _, rfl, .inr (SqT.of (s1 _ _ hpf)), _, _, rfl, rfl, _, rfl, ite2d (fun c => ?_) (fun c => ?_)⟩
        · have hfar := stay.far i row (by omega) erow
          refine ⟨_, rfl, _, rfl, pq, _, _, _, rfl, rfl, SqT.of (s1 _ _ hpq), at_of (j := i) (by omega) eq2, q', _, rfl, .inr frq1.sq, _, _, rfl, rfl, _, rfl, ite2d (fun c2 => ?_) (fun _ => ?_)⟩
          · have c2 : (10 : Int) < ((rsq.map V.ref).length : Int) := c2
            exact absurd c2 (by omega)
          · exact ⟨_, _, _, _, _, rfl, s1⟩
        · have hif : i < fs.length := by omega
          obtain ⟨⟨frow, s0⟩, efs⟩ : ∃ p, fs[i]? = some p := ⟨_, List.getElem?_eq_getElem hif⟩
          obtain ⟨wide, ewide⟩ : ∃ row, lw[i]? = some row := ⟨_, List.getElem?_eq_getElem (show i < lw.length by omega)⟩
          obtain ⟨fq, efq, frs, frf, spf⟩ := paired_get2 (i := i) (y := spanL s0 frow) hSf (by rw [List.getElem?_map, efs]; rfl)
          obtain ⟨wq, ewq, wrs, frw, spw⟩ := paired_get2 (i := i) (y := spanL 0 wide) hSw (by rw [List.getElem?_map, ewide]; rfl)
          obtain ⟨na, ena, nvs, hna, hnv⟩ := paired_get2 (i := i) hNl erow
          obtain ⟨nb, enb, wvs, hnb, hwv⟩ := paired_get2 (i := i) hNt ewide
          obtain ⟨fne, inR, a', b', inW⟩ := stay.at_ i frow s0 row wide efs erow ewide
          obtain ⟨okR, szR⟩ := levels_rows hLs okM szM row (List.mem_of_getElem? erow)
          obtain ⟨okWi, _⟩ := levels_rows hLw okW szW wide (List.mem_of_getElem? ewide)
          obtain ⟨pre, kr, post, k0, e1, e2, e3, e4, e5, e6, e7⟩ := spans_in okR inR fne
          obtain ⟨pre', kr', post', k0', f1, f2, f3, f4, f5, f6, f7⟩ := spans_in okWi inW fne
          have efq2 : (qf.map V.ref)[i]? = some (.ref fq) := by rw [List.getElem?_map, efq]; rfl
          have ewq2 : (qw.map V.ref)[i]? = some (.ref wq) := by rw [List.getElem?_map, ewq]; rfl
          have ena2 : (rl.map V.ref)[i]? = some (.ref na) := by rw [List.getElem?_map, ena]; rfl
          have enb2 : (rt.map V.ref)[i]? = some (.ref nb) := by rw [List.getElem?_map, enb]; rfl
          have lfr : (frs.map V.ref).length = frow.length := by rw [List.length_map, Paired.length spf, spanL_len]
          have fgood : ∀ x ∈ frow, Good x := fun x hx => by
            rw [← e6] at hx
            exact okR.good x (List.mem_of_mem_drop (List.mem_of_mem_take hx))
          have fsz : sizeL frow < 256 := by
            have h1 : sizeL frow ≤ sizeL row := by
              refine sizeL_sub ?_
              rw [← e6]
              exact (List.take_sublist _ _).trans (List.drop_sublist _ _)
            omega
          have frlen : frow.length ≤ row.length := by
            rw [← e6, List.length_take, List.length_drop]
            omega
          have rlen : row.length ≤ 256 := by
            have := sizeL_pos row (goodL_of okR)
            omega
          -- moved
          refine ⟨_, rfl, _, rfl, pf, _, _, _, rfl, rfl, SqT.of (s1 _ _ hpf), at_of (j := i) (by omega) efq2, fq, rfl, ⟨_, (frf.same s1).sq⟩, fun D hD => ?_⟩
          refine lc_tup (K := K) (a := fq) (xs := frs.map V.ref) (fun j H' => ∃ ds : List Addr, Same H1 H' ∧ H' D = some (.lst (ds.map V.ref)) ∧ Spn H' ds (((spanL s0 frow).take j).map fun p => (p.1 + bn.length, p.2 + bn.length)))
            ⟨[], same_new hD, upd_same, .nil⟩ (fun j H' _ ⟨_, s2, _⟩ => ((frf.same s1).same s2).sq) ?_ ?_
          · rintro j x H2 hj ⟨ds, s2, hd, hP⟩
            rw [List.getElem?_map] at hj
            cases er : frs[j]? with
            | none =>
              rw [er] at hj
              cases hj
            | some r =>
              rw [er] at hj
              have hj : V.ref r = x := Option.some.inj hj
              subst hj
              obtain ⟨sp, esp, hr0⟩ := paired_get spf er
              have hr2 := s2 _ _ (s1 _ _ hr0)
              have hbf2 := s2 _ _ (s1 _ _ hbfB)
              have ltj := (List.getElem?_eq_some_iff.mp er).1
              have lds := Paired.length hP
              rw [List.length_map, List.length_take] at lds
              rw [List.length_map] at lfr
              refine ⟨rfl, ?_⟩
              refine ⟨_, rfl, r, _, _, _, rfl, rfl, SqT.of hr2, atI_nat (j := 0) rfl, _, rfl, bf, _, rfl, .inl (SqL.of hbf2), _, _, rfl, rfl, ?_⟩
              refine ⟨_, rfl, r, _, _, _, rfl, rfl, SqT.of hr2, atI_nat (j := 1) rfl, _, rfl, bf, _, rfl, .inl (SqL.of hbf2), _, _, rfl, rfl, by show 2 ≤ sizeLine; rw [sizeLine_eq]; decide, fun b nb' => ?_⟩
              have nDb : D ≠ b := ne_of_none hd nb'
              have hd3 : upd H2 b (.tup [.int ((sp.1 : Int) + (xb.length : Int)), .int ((sp.2 : Int) + (xb.length : Int))]) D = some (.lst (ds.map V.ref)) := by rw [upd_ne nDb]; exact hd
              have t1 : Tm H2 (upd H2 b (.tup [.int ((sp.1 : Int) + (xb.length : Int)), .int ((sp.2 : Int) + (xb.length : Int))])) := (Tm.refl _).new nb'
              have t2 := Tm.lst (o := .lst (ds.map V.ref ++ [.ref b])) (Tm.refl _) hd3
              refine ⟨_, hd3, lt_line (by rw [List.length_map]; omega), ds ++ [b], (s2.new nb').put hD, by rw [upd_same, refs_snoc], ?_⟩
              rw [List.take_add_one, esp, List.map_append]
              refine Spn.snoc (t2 _ _ ?_) (Spn.tm (t1.trans t2) hP)
              rw [upd_same]
              show some (HO.tup [.int ((sp.1 : Int) + (xb.length : Int)), .int ((sp.2 : Int) + (xb.length : Int))]) = some (HO.tup [.int ((sp.1 + bn.length : Nat) : Int), .int ((sp.2 + bn.length : Nat) : Int)])
              rw [Int.natCast_add, Int.natCast_add, lxb]
          rintro H2 ⟨ds, s2, hd, hP⟩
          have etk : (spanL s0 frow).take (frs.map V.ref).length = spanL s0 frow := List.take_of_length_le (by rw [spanL_len, lfr]; exact Nat.le_refl _)
          rw [etk, spanL_shift, f2] at hP
          refine ⟨D, _, rfl, .inl ⟨SqL.of hd, fun mv nmv => ?_⟩⟩
          have s3 : Same H2 (upd H2 mv (.tup (ds.map V.ref))) := same_new nmv
          have sB3 : Same B (upd H2 mv (.tup (ds.map V.ref))) := (s1.trans s2).trans s3
          have hmv : upd H2 mv (.tup (ds.map V.ref)) mv = some (.tup (ds.map V.ref)) := upd_same
          have hP3 := Spn.tm s3.tm hP
          generalize upd H2 mv (.tup (ds.map V.ref)) = H3 at sB3 hmv hP3 ⊢
          -- alone
          refine ⟨_, rfl, _, rfl, pq, _, _, _, rfl, rfl, SqT.of (sB3 _ _ hpq), at_of (j := i) (by omega) eq2, _, rfl, _, rfl, pl, _, _, _, rfl, rfl, SqL.of (sB3 _ _ hpl), at_of (j := i) (by omega) ena2, _, rfl, _, rfl, pf, _, _, _, rfl, rfl, SqT.of (sB3 _ _ hpf), at_of (j := i) (by omega) efq2, ?_⟩
          refine ⟨q', na, fq, rsq, frs, pre, kr, post, k0, nvs, rfl, frq.same sB3, by rw [← e1]; exact Spn.tm sB3.tm spq, (frf.same sB3).sq, by rw [← e2]; exact Spn.tm sB3.tm spf, e3, sB3 _ _ hna, by rw [← hnv.length, ← e1, spanL_len], fun x1 u1 H4' s4 hx1 hu1 => ?_⟩
          have sB4 := sB3.trans s4
          -- inside
          refine ⟨_, rfl, _, rfl, pw, _, _, _, rfl, rfl, SqT.of (sB4 _ _ hpw), at_of (j := i) (by omega) ewq2, _, rfl, _, rfl, pt, _, _, _, rfl, rfl, SqL.of (sB4 _ _ hpt), at_of (j := i) (by omega) enb2, _, rfl, ?_⟩
          refine ⟨wq, nb, mv, wrs, ds, pre', kr', post', k0', wvs, rfl, frw.same sB4, by rw [← f1]; exact Spn.tm sB4.tm spw, SqT.of (s4 _ _ hmv), Spn.tm s4.tm hP3, f3, sB4 _ _ hnb, by rw [← hwv.length, ← f1, spanL_len], fun x2 u2 H5' s5 hx2 hu2 => ?_⟩
          have sB5 := sB4.trans s5
          have hx1 := s5 _ _ hx1
          have hu1 := s5 _ _ hu1
          -- the tests
          refine ⟨_, rfl, rfl, _, rfl, iteN (by intro z; cases z) ?_⟩
          refine ⟨_, rfl, rfl, _, rfl, iteN (by intro z; cases z) ?_⟩
          have n1 := (NVs.tm sB5.tm hnv).drop pre.length |>.take (k0 :: kr).length
          rw [e6] at n1
          have n2 := (NVs.tm sB5.tm hwv).drop pre'.length |>.take (k0' :: kr').length
          rw [f6] at n2
          have d1 : Dp K H5' (.ref u1) (.tuple (pyL frow)) := .tup (SqT.of hu1) (NVs.dp ((goodL_iff _).mpr fgood) n1)
          have d2 : Dp K H5' (.ref u2) (.tuple (pyL frow)) := .tup (SqT.of hu2) (NVs.dp ((goodL_iff _).mpr fgood) n2)
          refine ⟨_, rfl, x1, _, _, _, rfl, rfl, SqL.of hx1, atI_nat (j := 1) rfl, _, rfl, x2, _, _, _, rfl, rfl, SqL.of hx2, atI_nat (j := 1) rfl, _, _, d1, d2, row_shaped fgood fsz, row_shaped fgood fsz, _, rfl, ?_⟩
          rw [row_self fgood]
          refine iteF ?_
          refine ⟨_, rfl, x1, _, _, _, rfl, rfl, SqL.of hx1, atI_nat (j := 0) rfl, _, _, rfl, rfl, _, rfl, ite2d (fun c2 => ?_) (fun _ => ?_)⟩
          · have c2 : (7 : Int) < (pre.length : Int) := c2
            exact absurd c2 (by omega)
          have lsum : row.length = pre.length + ((k0 :: kr).length + post.length) := by
            have h1 := congrArg List.length e1
            rw [spanL_len, List.length_append, List.length_append] at h1
            exact h1
          refine ⟨_, rfl, _, rfl, pq, _, _, _, rfl, rfl, SqT.of (sB5 _ _ hpq), at_of (j := i) (by omega) eq2, q', _, rfl, .inr (frq.same sB5).sq, _, rfl, x1, _, _, _, rfl, rfl, SqL.of hx1, atI_nat (j := 0) rfl, _, _, rfl, rfl,
            _, rfl, _, rfl, pf, _, _, _, rfl, rfl, SqT.of (sB5 _ _ hpf), at_of (j := i) (by omega) efq2, fq, _, rfl, .inr (frf.same sB5).sq, _, _, rfl, rfl, _, _, rfl, rfl, _, rfl, ite2d (fun c2 => ?_) (fun _ => ?_)⟩
          · have c2 : (3 : Int) < ((rsq.map V.ref).length : Int) - (pre.length : Int) - ((frs.map V.ref).length : Int) := c2
            exact absurd c2 (by omega)
          exact ⟨_, _, _, _, _, rfl, sB5⟩
      · rintro σ H1 ⟨o10, o11, o12, o13, o14, rfl, s1⟩
        exact q H1
    · refine ⟨_, rfl, t, l, 2, rfl, hT3, by decide, by decide, fun c H4 k4 hT4 _ _ => ?_⟩
      have hbf4 := k4 _ _ hbf3 nbft
      have hbE4 := EVs.tm (k4.tm hT3) hbE3
      have hcn4 := k4 _ _ hcn ncnt
      have hcE4 := EVs.tm (k4.tm hT3) hcE
      refine ⟨rfl, _, rfl, ite2d (fun c1 => ?_) (fun c1 => ?_)⟩
      · refine ⟨_, rfl, _, rfl, _, rfl, t, l, 91, rfl, hT4, by decide, by decide, fun k H5 k5 hT5 h0 h1 => ?_⟩
        refine ⟨t, l, k, rfl, hT5, h0, by omega, fun pl H6 xl ls k6 hT6 npl hpl hlE hlel hll => ?_⟩
        have k46 := k5.trans k6
        have hcn6 := k46 _ _ hcn4 ncnt
        have hcE6 := EVs.tm (k46.tm hT4) hcE4
        have lxc := hcE6.len
        have lxl := hlE.len
        refine ⟨cn, pl, xc, xl, rfl, rfl, hcn6, hpl, le_line (by omega), fun p np => ?_⟩
        have s7 : Same H6 (upd H6 p (.lst (xc ++ xl))) := same_new np
        refine key _ _ ⟨p, xc ++ xl, ms ++ ls, rfl, hT6.same s7, s7 _ _ (k46 _ _ hbf4 nbft), EVs.tm s7.tm (EVs.tm (k46.tm hT4) hbE4), upd_same, EVs.app (EVs.tm s7.tm hcE6) (EVs.tm s7.tm hlE), ?_, by rw [List.length_append]; omega, nbft, hT6.ne np⟩
        intro n hn
        rcases List.mem_append.mp hn with hn | hn
        · exact hcel n hn
        · exact hlel n hn
      · exact key _ _ ⟨cn, xc, ms, rfl, hT4, hbf4, hbE4, hcn4, hcE4, hcel, by omega, nbft, ncnt⟩
end
end K33
/-! K33H: the head: what the top has left. -/
namespace K33
open PySem PySem.Spec PyProof.Rows L2
def defsOf : List He.DefD :=
  [⟨("digits_of", none), "digits_of", "digits_of", defArgs s_digits_of, defBody s_digits_of, defScope s_digits_of, [], []⟩,
   ⟨("code_of", none), "code_of", "code_of", defArgs s_code_of, defBody s_code_of, defScope s_code_of, [], []⟩,
   ⟨("run_code", none), "run_code", "run_code", defArgs s_run_code, defBody s_run_code, defScope s_run_code, [], []⟩,
   ⟨("block_code", none), "block_code", "block_code", defArgs s_block_code, defBody s_block_code, defScope s_block_code, [], []⟩,
   ⟨("node_code", none), "node_code", "node_code", defArgs s_node_code, defBody s_node_code, defScope s_node_code, [], []⟩,
   ⟨("groups_of", none), "groups_of", "groups_of", defArgs s_groups_of, defBody s_groups_of, defScope s_groups_of, [], []⟩,
   ⟨("item_of", none), "item_of", "item_of", defArgs s_item_of, defBody s_item_of, defScope s_item_of, [], []⟩,
   ⟨("items_of", none), "items_of", "items_of", defArgs s_items_of, defBody s_items_of, defScope s_items_of, [], []⟩,
   ⟨("first_difference", none), "first_difference", "first_difference", defArgs s_first_difference, defBody s_first_difference, defScope s_first_difference, [], []⟩,
   ⟨("coin_after", none), "coin_after", "coin_after", defArgs s_coin_after, defBody s_coin_after, defScope s_coin_after, [], []⟩,
   ⟨("coins_of_codes", none), "coins_of_codes", "coins_of_codes", defArgs s_coins_of_codes, defBody s_coins_of_codes, defScope s_coins_of_codes, [], []⟩,
   ⟨("coins_of", none), "coins_of", "coins_of", defArgs s_coins_of, defBody s_coins_of, defScope s_coins_of, [], []⟩,
   ⟨("mix", none), "mix", "mix", defArgs s_mix, defBody s_mix, defScope s_mix, [], []⟩,
   ⟨("one_round", none), "one_round", "one_round", defArgs s_one_round, defBody s_one_round, defScope s_one_round, [], []⟩,
   ⟨("colors_of_coins", none), "colors_of_coins", "colors_of_coins", defArgs s_colors_of_coins, defBody s_colors_of_coins, defScope s_colors_of_coins, [], []⟩,
   ⟨("colors_of", none), "colors_of", "colors_of", defArgs s_colors_of, defBody s_colors_of, defScope s_colors_of, [], []⟩,
   ⟨("is_peak", none), "is_peak", "is_peak", defArgs s_is_peak, defBody s_is_peak, defScope s_is_peak, [], []⟩,
   ⟨("starts_of", none), "starts_of", "starts_of", defArgs s_starts_of, defBody s_starts_of, defScope s_starts_of, [], []⟩,
   ⟨("cut", none), "cut", "cut", defArgs s_cut, defBody s_cut, defScope s_cut, [], []⟩,
   ⟨("blocks_of", none), "blocks_of", "blocks_of", defArgs s_blocks_of, defBody s_blocks_of, defScope s_blocks_of, [], []⟩,
   ⟨("leaf_row", none), "leaf_row", "leaf_row", defArgs s_leaf_row, defBody s_leaf_row, defScope s_leaf_row, [], []⟩,
   ⟨("item_row", none), "item_row", "item_row", defArgs s_item_row, defBody s_item_row, defScope s_item_row, [], []⟩,
   ⟨("color_row", none), "color_row", "color_row", defArgs s_color_row, defBody s_color_row, defScope s_color_row, [], []⟩,
   ⟨("grow", none), "grow", "grow", defArgs s_grow, defBody s_grow, defScope s_grow, [], []⟩,
   ⟨("row_spans", none), "row_spans", "row_spans", defArgs s_row_spans, defBody s_row_spans, defScope s_row_spans, [], []⟩,
   ⟨("spans_of", none), "spans_of", "spans_of", defArgs s_spans_of, defBody s_spans_of, defScope s_spans_of, [], []⟩,
   ⟨("fixed_blocks", none), "fixed_blocks", "fixed_blocks", defArgs s_fixed_blocks, defBody s_fixed_blocks, defScope s_fixed_blocks, [], []⟩,
   ⟨("fixed_of", none), "fixed_of", "fixed_of", defArgs s_fixed_of, defBody s_fixed_of, defScope s_fixed_of, [], []⟩,
   ⟨("_law_tape", none), "_law_tape", "_law_tape", defArgs s_law_tape, defBody s_law_tape, defScope s_law_tape, [], []⟩,
   ⟨("_law_draw", none), "_law_draw", "_law_draw", defArgs s_law_draw, defBody s_law_draw, defScope s_law_draw, [], []⟩,
   ⟨("_law_sign", none), "_law_sign", "_law_sign", defArgs s_law_sign, defBody s_law_sign, defScope s_law_sign, [], []⟩,
   ⟨("_law_word", none), "_law_word", "_law_word", defArgs s_law_word, defBody s_law_word, defScope s_law_word, [], []⟩,
   ⟨("_law_scalar", none), "_law_scalar", "_law_scalar", defArgs s_law_scalar, defBody s_law_scalar, defScope s_law_scalar, [], []⟩,
   ⟨("_law_element", none), "_law_element", "_law_element", defArgs s_law_element, defBody s_law_element, defScope s_law_element, [], []⟩,
   ⟨("_law_contents", none), "_law_contents", "_law_contents", defArgs s_law_contents, defBody s_law_contents, defScope s_law_contents, [], []⟩,
   ⟨("_law_large", none), "_law_large", "_law_large", defArgs s_law_large, defBody s_law_large, defScope s_law_large, [], []⟩,
   ⟨("_law_levels", none), "_law_levels", "_law_levels", defArgs s_law_levels, defBody s_law_levels, defScope s_law_levels, [], []⟩,
   ⟨("_law_stays", none), "_law_stays", "_law_stays", defArgs s_law_stays, defBody s_law_stays, defScope s_law_stays, [], []⟩,
   ⟨("law", none), "law", "law", defArgs s_law, defBody s_law, defScope s_law, [], []⟩,
   ⟨("NodeTable", some "__init__"), "__init__", "NodeTable.__init__", defArgs m_init, defBody m_init, defScope m_init, [], []⟩,
   ⟨("NodeTable", some "number_of"), "number_of", "NodeTable.number_of", defArgs m_number_of, defBody m_number_of, defScope m_number_of, [], []⟩,
   ⟨("NodeTable", some "measure"), "measure", "NodeTable.measure", defArgs m_measure, defBody m_measure, defScope m_measure, [], []⟩,
   ⟨("NodeTable", some "item_number"), "item_number", "NodeTable.item_number", defArgs m_item_number, defBody m_item_number, defScope m_item_number, [], []⟩]
def factsOf : List He.Fa :=
  [.glo "digits_of",
   .glo "code_of",
   .glo "run_code",
   .glo "block_code",
   .glo "node_code",
   .glo "groups_of",
   .glo "item_of",
   .glo "items_of",
   .glo "first_difference",
   .glo "coin_after",
   .glo "coins_of_codes",
   .glo "coins_of",
   .glo "mix",
   .glo "one_round",
   .glo "colors_of_coins",
   .glo "colors_of",
   .glo "is_peak",
   .glo "starts_of",
   .glo "cut",
   .glo "blocks_of",
   .glo "leaf_row",
   .glo "item_row",
   .glo "color_row",
   .glo "grow",
   .glo "row_spans",
   .glo "spans_of",
   .glo "fixed_blocks",
   .glo "fixed_of",
   .glo "_law_tape",
   .glo "_law_draw",
   .glo "_law_sign",
   .glo "_law_word",
   .glo "_law_scalar",
   .glo "_law_element",
   .glo "_law_contents",
   .glo "_law_large",
   .glo "_law_levels",
   .glo "_law_stays",
   .glo "law",
   .glo "NodeTable",
   .int "DIGIT" 65536,
   .int "ROUNDS" 4,
   .int "BEFORE" 7,
   .int "BEHIND" 3,
   .free "range",
   .free "isinstance",
   .free "tuple",
   .free "str",
   .free "len",
   .free "ord",
   .free "zip",
   .free "sum",
   .free "int",
   .free "abs",
   .free "list",
   .free "max",
   .free "min",
   .cls "NodeTable",
   .noat "NodeTable" "numbers",
   .noat "NodeTable" "entries",
   .noat "NodeTable" "codes",
   .noat "NodeTable" "sizes",
   .meth "NodeTable" "number_of",
   .meth "NodeTable" "measure",
   .meth "NodeTable" "item_number",
   .mkr "NodeTable"]
def namesA : List PySem.Str := ["_wall", "digits_of", "code_of", "run_code", "block_code", "node_code", "groups_of", "item_of", "items_of", "first_difference", "coin_after", "coins_of_codes", "coins_of", "mix", "one_round", "colors_of_coins", "colors_of", "is_peak", "starts_of", "cut", "blocks_of", "leaf_row"]
def namesB : List PySem.Str := ["item_row", "color_row", "grow", "row_spans", "spans_of", "fixed_blocks", "fixed_of", "_law_tape", "_law_draw", "_law_sign", "_law_word", "_law_scalar", "_law_element", "_law_contents", "_law_large", "_law_levels", "_law_stays", "NodeTable", "DIGIT", "ROUNDS", "BEFORE", "BEHIND"]
abbrev rowK : PySem.W.OpenRow := PySem.W.OpenLaw.row PySem.Challenge.rw_sameshape_k33_whole_fixed_nodes_stay
abbrev hookK : PySem.W.Hook := He.hookD 4 factsOf defsOf
def seenK (s : PySem.W.SharedT) : He.AlD := He.obsDG 4 factsOf defsOf (HandSHeadRun.getT s)
theorem seenK_eq (s : PySem.W.SharedT) : seenK s = hookK.obs s.abs := He.obsDG_eq (HandSHeadRun.getT_eq s)
section
variable {K : PySem.W.Frag} {h : Heap} {mg : Str → Option Value}
theorem txOf (X : K.In h) (G : h.Ns mainGlobals mg) (c : He.SaysD factsOf defsOf K) : Tx K mg (He.ga K "NodeTable") where
  d_digits_of := ⟨by obtain ⟨fd, F⟩ := c.def_ 0; exact ⟨_, fd, F, He.glo_ok X G (c.fact 0)⟩⟩
  d_code_of := ⟨by obtain ⟨fd, F⟩ := c.def_ 1; exact ⟨_, fd, F, He.glo_ok X G (c.fact 1)⟩⟩
  d_run_code := ⟨by obtain ⟨fd, F⟩ := c.def_ 2; exact ⟨_, fd, F, He.glo_ok X G (c.fact 2)⟩⟩
  d_block_code := ⟨by obtain ⟨fd, F⟩ := c.def_ 3; exact ⟨_, fd, F, He.glo_ok X G (c.fact 3)⟩⟩
  d_node_code := ⟨by obtain ⟨fd, F⟩ := c.def_ 4; exact ⟨_, fd, F, He.glo_ok X G (c.fact 4)⟩⟩
  d_groups_of := ⟨by obtain ⟨fd, F⟩ := c.def_ 5; exact ⟨_, fd, F, He.glo_ok X G (c.fact 5)⟩⟩
  d_item_of := ⟨by obtain ⟨fd, F⟩ := c.def_ 6; exact ⟨_, fd, F, He.glo_ok X G (c.fact 6)⟩⟩
  d_items_of := ⟨by obtain ⟨fd, F⟩ := c.def_ 7; exact ⟨_, fd, F, He.glo_ok X G (c.fact 7)⟩⟩
  d_first_difference := ⟨by obtain ⟨fd, F⟩ := c.def_ 8; exact ⟨_, fd, F, He.glo_ok X G (c.fact 8)⟩⟩
  d_coin_after := ⟨by obtain ⟨fd, F⟩ := c.def_ 9; exact ⟨_, fd, F, He.glo_ok X G (c.fact 9)⟩⟩
  d_coins_of_codes := ⟨by obtain ⟨fd, F⟩ := c.def_ 10; exact ⟨_, fd, F, He.glo_ok X G (c.fact 10)⟩⟩
  d_coins_of := ⟨by obtain ⟨fd, F⟩ := c.def_ 11; exact ⟨_, fd, F, He.glo_ok X G (c.fact 11)⟩⟩
  d_mix := ⟨by obtain ⟨fd, F⟩ := c.def_ 12; exact ⟨_, fd, F, He.glo_ok X G (c.fact 12)⟩⟩
  d_one_round := ⟨by obtain ⟨fd, F⟩ := c.def_ 13; exact ⟨_, fd, F, He.glo_ok X G (c.fact 13)⟩⟩
  d_colors_of_coins := ⟨by obtain ⟨fd, F⟩ := c.def_ 14; exact ⟨_, fd, F, He.glo_ok X G (c.fact 14)⟩⟩
  d_colors_of := ⟨by obtain ⟨fd, F⟩ := c.def_ 15; exact ⟨_, fd, F, He.glo_ok X G (c.fact 15)⟩⟩
  d_is_peak := ⟨by obtain ⟨fd, F⟩ := c.def_ 16; exact ⟨_, fd, F, He.glo_ok X G (c.fact 16)⟩⟩
  d_starts_of := ⟨by obtain ⟨fd, F⟩ := c.def_ 17; exact ⟨_, fd, F, He.glo_ok X G (c.fact 17)⟩⟩
  d_cut := ⟨by obtain ⟨fd, F⟩ := c.def_ 18; exact ⟨_, fd, F, He.glo_ok X G (c.fact 18)⟩⟩
  d_blocks_of := ⟨by obtain ⟨fd, F⟩ := c.def_ 19; exact ⟨_, fd, F, He.glo_ok X G (c.fact 19)⟩⟩
  d_leaf_row := ⟨by obtain ⟨fd, F⟩ := c.def_ 20; exact ⟨_, fd, F, He.glo_ok X G (c.fact 20)⟩⟩
  d_item_row := ⟨by obtain ⟨fd, F⟩ := c.def_ 21; exact ⟨_, fd, F, He.glo_ok X G (c.fact 21)⟩⟩
  d_color_row := ⟨by obtain ⟨fd, F⟩ := c.def_ 22; exact ⟨_, fd, F, He.glo_ok X G (c.fact 22)⟩⟩
  d_grow := ⟨by obtain ⟨fd, F⟩ := c.def_ 23; exact ⟨_, fd, F, He.glo_ok X G (c.fact 23)⟩⟩
  d_row_spans := ⟨by obtain ⟨fd, F⟩ := c.def_ 24; exact ⟨_, fd, F, He.glo_ok X G (c.fact 24)⟩⟩
  d_spans_of := ⟨by obtain ⟨fd, F⟩ := c.def_ 25; exact ⟨_, fd, F, He.glo_ok X G (c.fact 25)⟩⟩
  d_fixed_blocks := ⟨by obtain ⟨fd, F⟩ := c.def_ 26; exact ⟨_, fd, F, He.glo_ok X G (c.fact 26)⟩⟩
  d_fixed_of := ⟨by obtain ⟨fd, F⟩ := c.def_ 27; exact ⟨_, fd, F, He.glo_ok X G (c.fact 27)⟩⟩
  d_law_tape := ⟨by obtain ⟨fd, F⟩ := c.def_ 28; exact ⟨_, fd, F, He.glo_ok X G (c.fact 28)⟩⟩
  d_law_draw := ⟨by obtain ⟨fd, F⟩ := c.def_ 29; exact ⟨_, fd, F, He.glo_ok X G (c.fact 29)⟩⟩
  d_law_sign := ⟨by obtain ⟨fd, F⟩ := c.def_ 30; exact ⟨_, fd, F, He.glo_ok X G (c.fact 30)⟩⟩
  d_law_word := ⟨by obtain ⟨fd, F⟩ := c.def_ 31; exact ⟨_, fd, F, He.glo_ok X G (c.fact 31)⟩⟩
  d_law_scalar := ⟨by obtain ⟨fd, F⟩ := c.def_ 32; exact ⟨_, fd, F, He.glo_ok X G (c.fact 32)⟩⟩
  d_law_element := ⟨by obtain ⟨fd, F⟩ := c.def_ 33; exact ⟨_, fd, F, He.glo_ok X G (c.fact 33)⟩⟩
  d_law_contents := ⟨by obtain ⟨fd, F⟩ := c.def_ 34; exact ⟨_, fd, F, He.glo_ok X G (c.fact 34)⟩⟩
  d_law_large := ⟨by obtain ⟨fd, F⟩ := c.def_ 35; exact ⟨_, fd, F, He.glo_ok X G (c.fact 35)⟩⟩
  d_law_levels := ⟨by obtain ⟨fd, F⟩ := c.def_ 36; exact ⟨_, fd, F, He.glo_ok X G (c.fact 36)⟩⟩
  d_law_stays := ⟨by obtain ⟨fd, F⟩ := c.def_ 37; exact ⟨_, fd, F, He.glo_ok X G (c.fact 37)⟩⟩
  d_law := ⟨by obtain ⟨fd, F⟩ := c.def_ 38; exact ⟨_, fd, F, He.glo_ok X G (c.fact 38)⟩⟩
  dm_number_of := ⟨by obtain ⟨fd, F⟩ := c.def_ 40; exact ⟨_, fd, F, He.meth_ok (c.fact 62)⟩⟩
  dm_measure := ⟨by obtain ⟨fd, F⟩ := c.def_ 41; exact ⟨_, fd, F, He.meth_ok (c.fact 63)⟩⟩
  dm_item_number := ⟨by obtain ⟨fd, F⟩ := c.def_ 42; exact ⟨_, fd, F, He.meth_ok (c.fact 64)⟩⟩
  c_DIGIT := He.int_ok X G (c.fact 40)
  c_ROUNDS := He.int_ok X G (c.fact 41)
  c_BEFORE := He.int_ok X G (c.fact 42)
  c_BEHIND := He.int_ok X G (c.fact 43)
  n_range := He.free_ok X G (c.fact 44)
  n_isinstance := He.free_ok X G (c.fact 45)
  n_tuple := He.free_ok X G (c.fact 46)
  n_str := He.free_ok X G (c.fact 47)
  n_len := He.free_ok X G (c.fact 48)
  n_ord := He.free_ok X G (c.fact 49)
  n_zip := He.free_ok X G (c.fact 50)
  n_sum := He.free_ok X G (c.fact 51)
  n_int := He.free_ok X G (c.fact 52)
  n_abs := He.free_ok X G (c.fact 53)
  n_list := He.free_ok X G (c.fact 54)
  n_max := He.free_ok X G (c.fact 55)
  n_min := He.free_ok X G (c.fact 56)
  mgC := He.glo_ok X G (c.fact 39)
  cl := He.cls_ok (c.fact 57)
  na_numbers := He.noat_ok (c.fact 58)
  na_entries := He.noat_ok (c.fact 59)
  na_codes := He.noat_ok (c.fact 60)
  na_sizes := He.noat_ok (c.fact 61)
  made := by obtain ⟨fd, F⟩ := c.def_ 39; exact ⟨_, fd, F, He.mkr_ok (c.fact 65)⟩
theorem factsX {P : Program} {w : World} {f : Addr} (X : K.In h) (G : h.Ns mainGlobals mg) (hfa : mg ("law" : Str) = some (.ref f)) (c : He.SaysD factsOf defsOf K) :
    ∃ fd : FuncData, (∀ (s : Shared) (v : Value), BindsTo s fd ⟨[v], []⟩ [("_law_script", v)]) ∧ ∀ base : Heap, K.In base → base.Ns mainGlobals mg → FnOk P w K mg base CX0 100 f fd ["_law_script"] (spLaw K) := by
  have T := txOf X G c
  obtain ⟨f', fd, F, m⟩ := T.d_law.ex
  rw [m] at hfa
  have e : f' = f := by
    injection hfa with e
    injection e
  subst e
  have b := FunD.bindsA (ps := ["_law_script"]) F fun _ _ _ _ _ _ us hl => match us, hl with | [_], _ => rfl
  exact ⟨fd, fun s v => b s [v] rfl, fun base _ _ => (fn_law (base := base) T F).mono (by decide)⟩
end
end K33
namespace K33
open PySem PySem.Spec PyProof.Rows L2
/-- the top, run by the kernel -/
theorem ranK (w : World) : HandSHeadRun.RunEq rowK (PySem.W.view rowK.prog [53]) hookK seenK 4000 (namesA ++ namesB) w := by
  intro os
  kernel_rfl
end K33
open PySem PySem.W PySem.Calls PyProof.Rows
theorem PySem.Challenge.cw_sameshape_k33_whole_fixed_nodes_stay_holds : PySem.Challenge.rw_sameshape_k33_whole_fixed_nodes_stay.Holds := by
  w_on; o_law
  refine HandSHeadRun.head_any (r := OpenLaw.row PySem.Challenge.rw_sameshape_k33_whole_fixed_nodes_stay) (q := view (OpenLaw.row PySem.Challenge.rw_sameshape_k33_whole_fixed_nodes_stay).prog [53]) (H := K33.hookK) (ob := K33.seenK) (M := 4000) (loose := K33.namesA ++ K33.namesB) (d := HandSHeadRun.topDef (OpenLaw.row PySem.Challenge.rw_sameshape_k33_whole_fixed_nodes_stay).prog 53) (kwd := []) K33.seenK_eq
    (by kernel_rfl) (fun s => by kernel_rfl) K33.ranK (by kernel_rfl) (by kernel_rfl) (by kernel_rfl) (by rfl) (by first | assumption | decide +kernel) (by decide +kernel) ⟨rfl, rfl, rfl, rfl, rfl, by decide +kernel⟩ ?hw ?hc
  case hw => w_witness2
  case hc =>
    refine L2.walk_ofE (l := PySem.Challenge.rw_sameshape_k33_whole_fixed_nodes_stay) (n := 63) (k := 100) (x := "_law_script") (CX := L2.CX0) rfl (by decide) (by kernel_rfl) ⟨rfl, by decide, by decide⟩ ?F (fun _ _ _ _ z => z)
    intro w mg fa h Y G hmg0
    obtain ⟨K, KX, c⟩ := Y
    have hmg : mg ("law" : PySem.Str) = some (.ref fa) := by
      have e : (HandSHeadRun.topDef (OpenLaw.row PySem.Challenge.rw_sameshape_k33_whole_fixed_nodes_stay).prog 53).name = ("law" : PySem.Str) := by kernel_rfl
      rw [← e]
      exact hmg0
    obtain ⟨fd, hb, hF⟩ := K33.factsX (P := (PySem.Challenge.rw_sameshape_k33_whole_fixed_nodes_stay).prog) (w := w) KX G hmg c
    exact ⟨K, fd, K33.spLaw K, KX, hb, fun H a ns hl _ hS => ⟨a, ns, rfl, hS, hl, fun _ => rfl⟩, hF⟩
