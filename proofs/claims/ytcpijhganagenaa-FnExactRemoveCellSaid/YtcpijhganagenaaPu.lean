/- Plain laws of lists, partitions, shapes and tableaux; no program in sight. -/
import Derived.Test.YtcpijhganagenaaAmP
set_option linter.unusedSimpArgs false
set_option linter.unusedVariables false
set_option linter.unnecessarySimpa false
set_option linter.unusedSectionVars false
section
/- Rules for loops over data: a loop that looks at all, a loop that folds. -/
namespace Go.Am.Pu
open Go.Am

theorem w64 {n : Int} (h1 : -9223372036854775808 ≤ n) (h2 : n ≤ 9223372036854775807) : IntKind.i64.wrap n = n := Go.Am.w64 h1 h2

/-- A loop that goes on while p holds. -/
theorem loop_all {R : Type} (L : Nat → Nat → Option R) (n : Nat) (p : Nat → Bool) (bad good : Option R)
    (hs : ∀ j i, i < n → L (j + 1) i = if p i = true then L j (i + 1) else bad) (he : ∀ j, L (j + 1) n = good) :
    ∀ (m j i : Nat), i + m = n → m < j → L j i = if (List.range' i m).all p = true then good else bad
  | m, 0, i, _, h => by omega
  | 0, j + 1, i, h, _ => by
    have : i = n := by omega
    subst this
    rw [he]; rfl
  | m + 1, j + 1, i, h, hj => by
    rw [hs j i (by omega), loop_all L n p bad good hs he m j (i + 1) (by omega) (by omega), List.range'_succ, List.all_cons]
    cases p i
    · rw [if_neg (by simp), Bool.false_and, if_neg (by simp)]
    · rw [if_pos rfl, Bool.true_and]

theorem all_range {p : Nat → Bool} {n : Nat} : (List.range' 0 n).all p = true ↔ ∀ i, i < n → p i = true := by
  simp [List.all_eq_true, List.mem_range'_1]

/-- What a fold over i, i + 1, .. makes. -/
def foldR {S : Type} (f : Nat → S → S) : Nat → Nat → S → S
  | 0, _, s => s
  | m + 1, i, s => foldR f m (i + 1) (f i s)

/-- A loop that folds. -/
theorem loop_fold {S R : Type} (L : Nat → Nat → S → Option R) (n : Nat) (Inv : Nat → S → Prop) (f : Nat → S → S) (fin : S → Option R)
    (hs : ∀ j i s, i < n → Inv i s → L (j + 1) i s = L j (i + 1) (f i s)) (hi : ∀ i s, i < n → Inv i s → Inv (i + 1) (f i s)) (he : ∀ j s, Inv n s → L (j + 1) n s = fin s) :
    ∀ (m j i : Nat) (s : S), i + m = n → m < j → Inv i s → L j i s = fin (foldR f m i s)
  | m, 0, i, s, _, h, _ => by omega
  | 0, j + 1, i, s, h, _, hI => by
    have : i = n := by omega
    subst this
    exact he j s hI
  | m + 1, j + 1, i, s, h, hj, hI => by
    rw [hs j i s (by omega) hI]
    exact loop_fold L n Inv f fin hs hi he m j (i + 1) (f i s) (by omega) (by omega) (hi i s (by omega) hI)

/-- A loop that folds, and may end early. -/
def runR {S A : Type} (f : Nat → S → S ⊕ A) (fin : S → A) : Nat → Nat → S → A
  | 0, _, s => fin s
  | m + 1, i, s => match f i s with
    | .inl s' => runR f fin m (i + 1) s'
    | .inr a => a

theorem loop_run {S A R : Type} (L : Nat → Nat → S → Option R) (n : Nat) (Inv : Nat → S → Prop) (f : Nat → S → S ⊕ A) (fin : S → A) (K : A → Option R)
    (hs : ∀ j i s, i < n → Inv i s → L (j + 1) i s = match f i s with
      | .inl s' => L j (i + 1) s'
      | .inr a => K a) (hi : ∀ i s s', i < n → Inv i s → f i s = .inl s' → Inv (i + 1) s') (he : ∀ j s, Inv n s → L (j + 1) n s = K (fin s)) :
    ∀ (m j i : Nat) (s : S), i + m = n → m < j → Inv i s → L j i s = K (runR f fin m i s)
  | m, 0, i, s, _, h, _ => by omega
  | 0, j + 1, i, s, h, _, hI => by
    have : i = n := by omega
    subst this
    exact he j s hI
  | m + 1, j + 1, i, s, h, hj, hI => by
    rw [hs j i s (by omega) hI]
    unfold runR
    cases hf : f i s with
    | inl s' => exact loop_run L n Inv f fin K hs hi he m j (i + 1) s' (by omega) (by omega) (hi i s s' (by omega) hI hf)
    | inr a => rfl

theorem getD_lt {α : Type} {xs : List α} {i : Nat} (h : i < xs.length) (d : α) : xs.getD i d = xs[i] := by
  simp only [List.getD_eq_getElem?_getD, List.getElem?_eq_getElem h, Option.getD_some]
theorem getD_ge {α : Type} {xs : List α} {i : Nat} (h : xs.length ≤ i) (d : α) : xs.getD i d = d := by
  simp only [List.getD_eq_getElem?_getD, List.getElem?_eq_none h, Option.getD_none]

theorem drop_cons {α : Type} {xs : List α} {i : Nat} (h : i < xs.length) (d : α) : xs.drop i = xs.getD i d :: xs.drop (i + 1) := by
  rw [getD_lt h, List.drop_eq_getElem_cons h]
theorem take_succ {α : Type} {xs : List α} {i : Nat} (h : i < xs.length) (d : α) : xs.take (i + 1) = xs.take i ++ [xs.getD i d] := by
  rw [getD_lt h, List.take_succ_eq_append_getElem h]

/-- A copy in the making: one place more is filled. -/
theorem fill_step {α : Type} {xs : List α} {i : Nat} (h : i < xs.length) (d z : α) : (xs.take i ++ List.replicate (xs.length - i) z).set i (xs.getD i d) = xs.take (i + 1) ++ List.replicate (xs.length - (i + 1)) z := by
  have e : xs.length - i = xs.length - (i + 1) + 1 := by omega
  rw [take_succ h d, e, List.replicate_succ, List.set_append_right _ _ (by simp; omega)]
  simp [Nat.min_eq_left (Nat.le_of_lt h)]

theorem all_getD {α : Type} (xs : List α) (d : α) (p : α → Bool) : xs.all p = (List.range' 0 xs.length).all fun i => p (xs.getD i d) := by
  cases h : xs.all p with
  | true =>
    symm
    rw [all_range]
    intro i hi
    rw [getD_lt hi]
    exact List.all_eq_true.1 h _ (List.getElem_mem hi)
  | false =>
    cases h' : (List.range' 0 xs.length).all fun i => p (xs.getD i d) with
    | false => rfl
    | true =>
      rw [all_range] at h'
      have : xs.all p = true := List.all_eq_true.2 fun x hx => by
        obtain ⟨i, hi, e⟩ := List.mem_iff_getElem.1 hx
        have := h' i hi
        rw [getD_lt hi, e] at this; exact this
      rw [this] at h; cases h
theorem ne_nil_of {α : Type} {xs : List α} {i : Nat} (h : i < xs.length) : xs ≠ [] := fun e => by rw [e] at h; simp at h

/-- All that a law sees of sizes. -/
def lim20 : Nat := 1048576

end Go.Am.Pu
end

section
/- Marking memory and looking whether the marks are held. -/
namespace Go.Am.Pu
/-- Looks whether a row holds q, q + 1, ..; -1 if not. -/
def held : List Int → Int → Int
  | [], q => q
  | x :: xs, q => if x = q then held xs (q + 1) else -1
/-- Marks. -/
def mark : List Int → Int → List Int
  | [], _ => []
  | _ :: xs, q => q :: mark xs (q + 1)
theorem mark_len : ∀ (xs : List Int) (q : Int), (mark xs q).length = xs.length
  | [], _ => rfl
  | _ :: xs, q => by simp [mark, mark_len xs]
theorem held_mark : ∀ (xs : List Int) (q : Int), held (mark xs q) q = q + xs.length
  | [], q => by simp [mark, held]
  | _ :: xs, q => by
    simp only [mark, held, if_true, List.length_cons]
    rw [held_mark xs]
    omega
theorem held_le : ∀ (xs : List Int) (q : Int), 0 ≤ q → held xs q ≤ q + xs.length
  | [], q, _ => by simp [held]
  | x :: xs, q, h => by
    simp only [held, List.length_cons]
    split
    · have := held_le xs (q + 1) (by omega)
      omega
    · omega
theorem held_neg : ∀ (xs : List Int) (q : Int), 0 ≤ q → held xs q < 0 → held xs q = -1
  | [], q, _, h' => by simp [held] at h'; omega
  | x :: xs, q, h, h' => by
    simp only [held] at h' ⊢
    split
    · next e => rw [if_pos e] at h'; exact held_neg xs (q + 1) (by omega) h'
    · rfl
def held2 : List (List Int) → Int → Int
  | [], q => q
  | x :: xs, q => if held x q < 0 then -1 else held2 xs (held x q)
theorem held2_neg : ∀ (xs : List (List Int)) (q : Int), 0 ≤ q → held2 xs q < 0 → held2 xs q = -1
  | [], q, _, h' => by simp [held2] at h'; omega
  | x :: xs, q, h, h' => by
    simp only [held2] at h' ⊢
    split
    · rfl
    · next e => rw [if_neg e] at h'; exact held2_neg xs _ (by omega) h'
def mark2 : List (List Int) → Int → List (List Int)
  | [], _ => []
  | x :: xs, q => mark x q :: mark2 xs (q + x.length)
def size2 : List (List Int) → Nat
  | [] => 0
  | x :: xs => x.length + size2 xs
theorem size2_le : ∀ (xs : List (List Int)) (n : Nat), (∀ x ∈ xs, x.length ≤ n) → size2 xs ≤ xs.length * n
  | [], n, _ => by simp [size2]
  | x :: xs, n, h => by
    have h1 := h x (by simp)
    have h2 := size2_le xs n fun y hy => h y (by simp [hy])
    simp only [size2, List.length_cons, Nat.succ_mul]
    omega
theorem size2_lim {xs : List (List Int)} (h : xs.length ≤ 1048576) (hr : ∀ x ∈ xs, x.length ≤ 1048576) : size2 xs ≤ 1099511627776 := by
  have h1 := size2_le xs 1048576 hr
  have h2 : xs.length * 1048576 ≤ 1048576 * 1048576 := Nat.mul_le_mul_right _ h
  omega
theorem mark2_mem {xs : List (List Int)} {q : Int} {n : Nat} (h : ∀ x ∈ xs, x.length ≤ n) : ∀ y ∈ mark2 xs q, y.length ≤ n := by
  induction xs generalizing q with
  | nil => intro y hy; cases hy
  | cons x xs ih =>
    intro y hy
    simp only [mark2, List.mem_cons] at hy
    rcases hy with rfl | hy
    · rw [mark_len]; exact h x (by simp)
    · exact ih (fun z hz => h z (by simp [hz])) y hy
theorem size2_mark : ∀ (xs : List (List Int)) (q : Int), size2 (mark2 xs q) = size2 xs
  | [], _ => rfl
  | x :: xs, q => by simp [mark2, size2, mark_len, size2_mark xs]
theorem mark2_len : ∀ (xs : List (List Int)) (q : Int), (mark2 xs q).length = xs.length
  | [], _ => rfl
  | _ :: xs, q => by simp [mark2, mark2_len xs]
theorem held2_mark : ∀ (xs : List (List Int)) (q : Int), 0 ≤ q → held2 (mark2 xs q) q = q + size2 xs
  | [], q, _ => by simp [mark2, held2, size2]
  | x :: xs, q, h => by
    simp only [mark2, held2, size2]
    rw [held_mark, if_neg (by omega), held2_mark xs _ (by omega)]
    omega
theorem mark_mem : ∀ (xs : List (List Int)) (q : Int) (y : List Int), y ∈ mark2 xs q → ∃ x ∈ xs, y.length = x.length
  | [], _, y, h => by cases h
  | x :: xs, q, y, h => by
    simp only [mark2, List.mem_cons] at h
    rcases h with rfl | h
    · exact ⟨x, by simp, mark_len x q⟩
    · obtain ⟨z, h1, h2⟩ := mark_mem xs _ y h
      exact ⟨z, by simp [h1], h2⟩
end Go.Am.Pu
end

section
/- Partitions, shapes and tableaux as plain words. -/
namespace Go.Am.Pu

def within (x lo hi : Int) : Bool := decide (lo ≤ x) && decide (x ≤ hi)
/-- An element of a list, 0 outside. -/
def atI (p : List Int) (i : Int) : Int := if i < 0 then 0 else p.getD i.toNat 0
theorem atI_nat (p : List Int) (i : Nat) : atI p (i : Int) = p.getD i 0 := by simp [atI]; omega
theorem atI_neg {p : List Int} {i : Int} (h : i < 0) : atI p i = 0 := by simp [atI, h]
theorem atI_ge {p : List Int} {i : Int} (h : (p.length : Int) ≤ i) : atI p i = 0 := by
  unfold atI
  split
  · rfl
  · exact getD_ge (by omega) 0

def partGo : List Int → Int → Int → Bool
  | [], _, _ => true
  | x :: xs, prev, s => decide (1 ≤ x) && (decide (x ≤ prev) && (decide (s + x ≤ 9) && partGo xs x (s + x)))
def isPart (p : List Int) : Bool := partGo p 9 0

def sumI : List Int → Int
  | [] => 0
  | x :: xs => x + sumI xs

theorem partGo_spec : ∀ (p : List Int) (prev s : Int), partGo p prev s = true → (∀ x ∈ p, 1 ≤ x ∧ x ≤ prev) ∧ (p ≠ [] → s + sumI p ≤ 9) ∧ (p.length : Int) ≤ sumI p
  | [], prev, s, _ => ⟨fun x h => (by cases h), fun h => absurd rfl h, (by simp [sumI])⟩
  | x :: xs, prev, s, h => by
    simp only [partGo, Bool.and_eq_true, decide_eq_true_eq] at h
    obtain ⟨h1, h2, h3, h4⟩ := h
    obtain ⟨k1, k2, k3⟩ := partGo_spec xs x (s + x) h4
    refine ⟨fun y hy => ?_, fun _ => ?_, ?_⟩
    · rcases List.mem_cons.1 hy with rfl | hy
      · exact ⟨h1, h2⟩
      · have := k1 y hy; omega
    · simp only [sumI]
      by_cases e : xs = []
      · subst e; simp [sumI]; omega
      · have := k2 e; omega
    · simp only [sumI, List.length_cons]; omega

theorem isPart_spec {p : List Int} (h : isPart p = true) : (∀ x ∈ p, 1 ≤ x ∧ x ≤ 9) ∧ sumI p ≤ 9 ∧ p.length ≤ 9 ∧ (p.length : Int) ≤ sumI p := by
  obtain ⟨h1, h2, h3⟩ := partGo_spec p 9 0 h
  have : sumI p ≤ 9 := by
    by_cases e : p = []
    · subst e; simp [sumI]
    · have := h2 e; omega
  exact ⟨h1, this, by omega, h3⟩

theorem part_atI {p : List Int} (h : isPart p = true) (i : Int) : 0 ≤ atI p i ∧ atI p i ≤ 9 := by
  unfold atI
  split
  · omega
  · by_cases hl : i.toNat < p.length
    · rw [getD_lt hl]
      have := (isPart_spec h).1 _ (List.getElem_mem hl)
      omega
    · rw [getD_ge (by omega)]; omega

def isInside (q p : List Int) : Bool := isPart q && (isPart p && (decide (q.length ≤ p.length) && (List.range' 0 q.length).all fun i => decide (q.getD i 0 ≤ p.getD i 0)))

theorem inside_len {q p : List Int} (hq : isPart q = true) (h : (List.range' 0 q.length).all (fun i => decide (q.getD i 0 ≤ p.getD i 0)) = true) : q.length ≤ p.length := by
  rw [all_range] at h
  refine Nat.le_of_not_lt fun hlt => ?_
  have h1 := h p.length hlt
  rw [decide_eq_true_eq, getD_ge (Nat.le_refl _), getD_lt hlt] at h1
  have := (isPart_spec hq).1 _ (List.getElem_mem hlt)
  omega
theorem isInside_eq {q p : List Int} : isInside q p = (isPart q && (isPart p && (List.range' 0 q.length).all fun i => decide (q.getD i 0 ≤ p.getD i 0))) := by
  unfold isInside
  cases hq : isPart q with
  | false => rfl
  | true =>
    cases hp : isPart p with
    | false => rfl
    | true =>
      simp only [Bool.true_and]
      cases ha : (List.range' 0 q.length).all fun i => decide (q.getD i 0 ≤ p.getD i 0) with
      | false => simp
      | true => simp [inside_len hq ha]

/-- The row lengths behind an inner partition. -/
def outerGo (inner : List Int) : Nat → List (List Int) → List Int
  | _, [] => []
  | i, r :: rs => (inner.getD i 0 + r.length) :: outerGo inner (i + 1) rs
theorem outerGo_len (inner : List Int) : ∀ (rs : List (List Int)) (i : Nat), (outerGo inner i rs).length = rs.length
  | [], _ => rfl
  | _ :: rs, i => by simp [outerGo, outerGo_len inner rs]
theorem outerGo_get (inner : List Int) : ∀ (rs : List (List Int)) (i q : Nat), q < rs.length → (outerGo inner i rs).getD q 0 = inner.getD (i + q) 0 + (rs.getD q []).length
  | [], i, q, h => by simp at h
  | r :: rs, i, 0, _ => by simp [outerGo]
  | r :: rs, i, q + 1, h => by
    have := outerGo_get inner rs (i + 1) q (by simpa using h)
    simp only [outerGo, List.getD_cons_succ]
    rw [this]
    have e : i + 1 + q = i + (q + 1) := by omega
    rw [e]

abbrev Tab := List Int × List (List Int)
def outer (t : Tab) : List Int := outerGo t.1 0 t.2
def shapeOK (t : Tab) : Bool := isPart t.1 && (decide (t.1.length ≤ t.2.length) && isInside t.1 (outer t))
def shapeOf (t : Tab) : (List Int × List Int) × Bool := if shapeOK t = true then ((outer t, t.1), true) else (([], []), false)
theorem shapeOK_len {t : Tab} (h : shapeOK t = true) : t.2.length ≤ 9 := by
  simp only [shapeOK, isInside, Bool.and_eq_true] at h
  have := (isPart_spec h.2.2.2.1).2.2.1
  rw [outer, outerGo_len] at this
  exact this

def entry (t : Tab) (r c : Int) : Int := if r < 0 then 0 else if (t.2.length : Int) ≤ r then 0 else atI (t.2.getD r.toNat []) (c - atI t.1 r)

theorem entry_nat {t : Tab} {r : Nat} (h : r < t.2.length) (c : Int) : entry t r c = atI (t.2.getD r []) (c - t.1.getD r 0) := by
  unfold entry
  rw [if_neg (by omega), if_neg (by omega), atI_nat]
  rfl
theorem entry_neg {t : Tab} {r c : Int} (h : r < 0) : entry t r c = 0 := by unfold entry; rw [if_pos h]
theorem entry_at {t : Tab} {r q : Nat} (h : r < t.2.length) : entry t r (t.1.getD r 0 + q) = (t.2.getD r []).getD q 0 := by
  rw [entry_nat h]
  have e : t.1.getD r 0 + (q : Int) - t.1.getD r 0 = q := by omega
  rw [e, atI_nat]
theorem entry_left {t : Tab} {r q : Nat} (h : r < t.2.length) : entry t r (t.1.getD r 0 + q - 1) = if q = 0 then 0 else (t.2.getD r []).getD (q - 1) 0 := by
  rw [entry_nat h]
  by_cases e : q = 0
  · subst e
    rw [if_pos rfl, atI_neg (by omega)]
  · rw [if_neg e]
    have e : t.1.getD r 0 + (q : Int) - 1 - t.1.getD r 0 = ((q - 1 : Nat) : Int) := by omega
    rw [e, atI_nat]
def cellOK (t : Tab) (i k : Nat) : Bool := within ((t.2.getD i []).getD k 0) 1 9 && ((decide (k = 0) || decide ((t.2.getD i []).getD (k - 1) 0 ≤ (t.2.getD i []).getD k 0)) &&
  (decide (i = 0) || decide (entry t ((i : Int) - 1) (t.1.getD i 0 + k) < (t.2.getD i []).getD k 0)))
def isTab (t : Tab) : Bool := shapeOK t && (List.range' 0 t.2.length).all fun i => (List.range' 0 (t.2.getD i []).length).all fun k => cellOK t i k
def isPlain (t : Tab) : Bool := isTab t && decide (t.1.length = 0)

theorem tab_shape {t : Tab} (h : isTab t = true) : shapeOK t = true := by
  simp only [isTab, Bool.and_eq_true] at h; exact h.1

theorem sum_outer (inner : List Int) : ∀ (rs : List (List Int)) (i : Nat), (∀ q, i ≤ q → inner.getD q 0 = 0) → sumI (outerGo inner i rs) = rs.flatten.length
  | [], i, _ => rfl
  | r :: rs, i, h => by
    simp only [outerGo, sumI, List.flatten_cons, List.length_append]
    rw [sum_outer inner rs (i + 1) (fun q hq => h q (by omega)), h i (Nat.le_refl _)]
    omega

theorem plain_nine {t : Tab} (h : isPlain t = true) : t.2.flatten.length ≤ 9 := by
  simp only [isPlain, Bool.and_eq_true, decide_eq_true_eq] at h
  have hs := tab_shape h.1
  simp only [shapeOK, isInside, Bool.and_eq_true] at hs
  have h9 := (isPart_spec hs.2.2.2.1).2.1
  have : t.1 = [] := List.eq_nil_of_length_eq_zero h.2
  rw [outer, sum_outer t.1 t.2 0 (fun q _ => by rw [this]; rfl)] at h9
  omega

/-- Inserts a number into rows: the rows, and the row with a new cell. -/
def insRows : List (List Int) → Int → List (List Int) × Nat
  | [], x => ([[x]], 0)
  | r :: rs, x => if r.findIdx (fun n => decide (x < n)) < r.length
      then (r.set (r.findIdx fun n => decide (x < n)) x :: (insRows rs (r.getD (r.findIdx fun n => decide (x < n)) 0)).1, (insRows rs (r.getD (r.findIdx fun n => decide (x < n)) 0)).2 + 1)
      else ((r ++ [x]) :: rs, 0)
theorem insRows_len : ∀ (rs : List (List Int)) (x : Int), (insRows rs x).1.length ≤ rs.length + 1
  | [], x => by simp [insRows]
  | r :: rs, x => by
    unfold insRows
    split
    · have := insRows_len rs (r.getD (r.findIdx fun n => decide (x < n)) 0)
      simp only [List.length_cons]; omega
    · simp
theorem insRows_mem : ∀ (rs : List (List Int)) (x : Int) (n : Nat), 1 ≤ n → (∀ r ∈ rs, r.length < n) → ∀ y ∈ (insRows rs x).1, y.length ≤ n
  | [], x, n, h1, _, y, hy => by
    simp [insRows] at hy
    subst hy; simpa using h1
  | r :: rs, x, n, h1, h, y, hy => by
    have hr := h r (by simp)
    unfold insRows at hy
    split at hy
    · simp only [List.mem_cons] at hy
      rcases hy with rfl | hy
      · simp; omega
      · exact insRows_mem rs _ n h1 (fun r' h' => h r' (by simp [h'])) y hy
    · simp only [List.mem_cons] at hy
      rcases hy with rfl | hy
      · simp; omega
      · have := h y (by simp [hy]); omega

def insertNumber (t : Tab) (x : Int) : Tab × (Int × Bool) :=
  if isPlain t = true ∧ within x 1 9 = true ∧ t.2.flatten.length < 9 then ((t.1, (insRows t.2 x).1), (((insRows t.2 x).2 : Nat), true)) else (([], []), (0, false))

/-- A tableau within a law's bounds. -/
def TabOK (t : Tab) : Prop := t.1.length ≤ 1048576 ∧ t.2.length ≤ 1048576 ∧ ∀ x ∈ t.2, x.length ≤ 1048576
theorem TabOK.nil : TabOK ([], []) := ⟨by simp, by simp, fun x h => by cases h⟩
theorem flat_row : ∀ {rs : List (List Int)} {r : List Int}, r ∈ rs → r.length ≤ rs.flatten.length
  | q :: rs, r, h => by
    simp only [List.flatten_cons, List.length_append]
    rcases List.mem_cons.1 h with rfl | h
    · omega
    · have := flat_row h; omega
theorem insertNumber_ok {t : Tab} (h : TabOK t) (x : Int) : TabOK (insertNumber t x).1 := by
  unfold insertNumber
  split
  · next hc =>
    have h9 := plain_nine hc.1
    have hp := hc.1
    simp only [isPlain, Bool.and_eq_true] at hp
    have hl := shapeOK_len (tab_shape hp.1)
    refine ⟨h.1, ?_, fun y hy => ?_⟩
    · have := insRows_len t.2 x
      show (insRows t.2 x).1.length ≤ 1048576
      omega
    · have := insRows_mem t.2 x 10 (by omega) (fun r hr => by have := flat_row hr; omega) y hy
      omega
  · exact TabOK.nil
/-- The first place at which p holds, by steps. -/
theorem findIdx_drop {p : Int → Bool} {r : List Int} {i : Nat} (h : i < r.length) (hp : p (r.getD i 0) = false) : (r.drop i).findIdx p = (r.drop (i + 1)).findIdx p + 1 := by
  rw [drop_cons h 0, List.findIdx_cons, hp]; rfl
theorem findIdx_here {p : Int → Bool} {r : List Int} {i : Nat} (h : i < r.length) (hp : p (r.getD i 0) = true) : (r.drop i).findIdx p = 0 := by
  rw [drop_cons h 0, List.findIdx_cons, hp]; rfl
theorem findIdx_le {p : Int → Bool} {r : List Int} {i : Nat} (hlt : i < r.length) (h : p (r.getD i 0) = true) : r.findIdx p ≤ i :=
  Nat.le_of_not_lt fun h' => by
    have := List.not_of_lt_findIdx h'
    rw [getD_lt hlt] at h
    rw [h] at this; cases this
theorem findIdx_at {p : Int → Bool} {r : List Int} (h : r.findIdx p < r.length) : p (r.getD (r.findIdx p) 0) = true := by
  rw [getD_lt h]; exact List.findIdx_getElem
theorem set_split {α : Type} {xs : List α} {i : Nat} (h : i < xs.length) (x : α) : xs.set i x = xs.take i ++ x :: xs.drop (i + 1) := by
  rw [List.set_eq_take_append_cons_drop, if_pos h]
theorem take_set_self {α : Type} {xs : List α} {i : Nat} (h : i < xs.length) (x : α) : (xs.set i x).take (i + 1) = xs.take i ++ [x] := by
  have h' : i < (xs.set i x).length := by rw [List.length_set]; exact h
  rw [take_succ h' x, List.take_set_of_le (Nat.le_refl _), getD_lt h', List.getElem_set_self]
theorem drop_set_next {α : Type} {xs : List α} {i : Nat} (x : α) : (xs.set i x).drop (i + 1) = xs.drop (i + 1) := by
  rw [List.drop_set_of_lt (by omega)]
end Go.Am.Pu
end

section
/- Standard tableaux, weights, descents: plain words. -/
namespace Go.Am.Pu

/-- A loop that looks for the first element with p. -/
theorem loop_idx {α R : Type} (r : List α) (d : α) (p : α → Bool) (L : Nat → Nat → Option R) (hit : Nat → Option R) (miss : Option R)
    (hs : ∀ j i, i < r.length → L (j + 1) i = if p (r.getD i d) = true then hit i else L j (i + 1)) (he : ∀ j, L (j + 1) r.length = miss) :
    ∀ (m j i : Nat), i + m = r.length → m < j → i ≤ r.findIdx p → L j i = if r.findIdx p < r.length then hit (r.findIdx p) else miss
  | m, 0, i, _, hj, _ => by omega
  | 0, j + 1, i, hm, _, hi => by
    have e : i = r.length := by omega
    rw [if_neg (by omega), e, he]
  | m + 1, j + 1, i, hm, hj, hi => by
    have hlt : i < r.length := by omega
    rw [hs j i hlt]
    by_cases c : p (r.getD i d) = true
    · have e : r.findIdx p = i := Nat.le_antisymm (Nat.le_of_not_lt fun h' => by
        have := List.not_of_lt_findIdx h'
        rw [getD_lt hlt] at c
        rw [c] at this; cases this) hi
      rw [if_pos c, e, if_pos hlt]
    · rw [if_neg c]
      refine loop_idx r d p L hit miss hs he m j (i + 1) (by omega) (by omega) ?_
      refine Nat.succ_le_of_lt (Nat.lt_of_le_of_ne hi fun e => c ?_)
      have hlt' : r.findIdx p < r.length := by omega
      have := List.findIdx_getElem (p := p) (xs := r) (w := hlt')
      rw [← getD_lt hlt' d, ← e] at this
      exact this

/-- The place of the first element with p, -1 for none. -/
def idxI {α : Type} (p : α → Bool) (r : List α) : Int := if r.findIdx p < r.length then (r.findIdx p : Int) else -1
theorem idxI_any {α : Type} (p : α → Bool) (r : List α) : decide (0 ≤ idxI p r) = r.any p := by
  unfold idxI
  by_cases h : r.findIdx p < r.length
  · rw [if_pos h, List.any_eq_true.2 ⟨_, List.getElem_mem h, List.findIdx_getElem⟩]
    simp
  · rw [if_neg h]
    have : r.any p = false := by
      rw [List.any_eq_false]
      intro x hx hp
      exact h (List.findIdx_lt_length_of_exists ⟨x, hx, hp⟩)
    rw [this]; rfl

theorem any_idx {α : Type} (p : α → Bool) (r : List α) : r.any p = decide (r.findIdx p < r.length) := by
  rw [← idxI_any]
  unfold idxI
  by_cases h : r.findIdx p < r.length <;> simp [h]
def has (l : List Int) (x : Int) : Bool := l.any fun y => decide (x = y)
theorem has_iff {l : List Int} {x : Int} : has l x = true ↔ x ∈ l := by
  simp [has, List.any_eq_true]

/-- Each number from 1 on occurs. -/
def areOnce (l : List Int) : Bool := (List.range' 0 l.length).all fun i => has l ((i : Int) + 1)

theorem len_sub : ∀ (R l : List Int), R.Nodup → (∀ x ∈ R, x ∈ l) → R.length ≤ l.length
  | [], l, _, _ => by simp
  | x :: R, l, hn, h => by
    rw [List.nodup_cons] at hn
    have hx := h x (by simp)
    have := len_sub R (l.erase x) hn.2 fun y hy => (List.mem_erase_of_ne fun (e : y = x) => hn.1 (e ▸ hy)).2 (h y (by simp [hy]))
    rw [List.length_erase_of_mem hx] at this
    have : 0 < l.length := List.length_pos_of_mem hx
    simp only [List.length_cons]
    omega

def upTo (n : Nat) : List Int := (List.range n).map fun (i : Nat) => (i : Int) + 1
theorem upTo_mem {n : Nat} {x : Int} : x ∈ upTo n ↔ 1 ≤ x ∧ x ≤ n := by
  simp only [upTo, List.mem_map, List.mem_range]
  constructor
  · rintro ⟨i, h, rfl⟩; omega
  · rintro ⟨h1, h2⟩; exact ⟨(x - 1).toNat, by omega, by omega⟩
theorem upTo_nodup (n : Nat) : (upTo n).Nodup := by
  unfold upTo
  refine List.Pairwise.map _ (fun (a b : Nat) (h : a ≠ b) => ?_) List.nodup_range
  intro e
  exact h (by omega)
theorem upTo_len (n : Nat) : (upTo n).length = n := by simp [upTo]

theorem once_iff {l : List Int} : areOnce l = true ↔ ∀ x ∈ upTo l.length, x ∈ l := by
  unfold areOnce
  rw [all_range]
  constructor
  · intro h x hx
    rw [upTo_mem] at hx
    have := h (x - 1).toNat (by omega)
    rw [has_iff] at this
    have e : (((x - 1).toNat : Nat) : Int) + 1 = x := by omega
    rw [e] at this; exact this
  · intro h i hi
    rw [has_iff]
    exact h _ (upTo_mem.2 (by omega))

/-- All occur just when none occurs twice and none is too great. -/
theorem once_nodup {l : List Int} (h1 : ∀ x ∈ l, 1 ≤ x) : areOnce l = true ↔ l.Nodup ∧ ∀ x ∈ l, x ≤ l.length := by
  rw [once_iff]
  constructor
  · intro h
    refine ⟨?_, fun x hx => ?_⟩
    · -- twice: one less would do
      refine Classical.byContradiction fun hn => ?_
      have : ∃ x, x ∈ l ∧ x ∈ l.erase x := by
        have key : ∀ l : List Int, ¬ l.Nodup → ∃ x, x ∈ l ∧ x ∈ l.erase x := by
          intro l
          induction l with
          | nil => intro h; exact absurd List.nodup_nil h
          | cons a l ih =>
            intro h
            by_cases ha : a ∈ l
            · exact ⟨a, by simp, by simpa using ha⟩
            · have : ¬ l.Nodup := fun hl => h (List.nodup_cons.2 ⟨ha, hl⟩)
              obtain ⟨x, h1, h2⟩ := ih this
              refine ⟨x, by simp [h1], ?_⟩
              have hne : a ≠ x := fun e => ha (e ▸ h1)
              rw [List.erase_cons_tail (by simpa using hne)]
              exact List.mem_cons_of_mem _ h2
        exact key l hn
      obtain ⟨x, hx, hx2⟩ := this
      have := len_sub (upTo l.length) (l.erase x) (upTo_nodup _) fun y hy => by
        by_cases e : y = x
        · rw [e]; exact hx2
        · exact (List.mem_erase_of_ne e).2 (h y hy)
      rw [upTo_len, List.length_erase_of_mem hx] at this
      have : 0 < l.length := List.length_pos_of_mem hx
      omega
    · refine Int.not_lt.1 fun hlt => ?_
      have := len_sub (upTo l.length) (l.erase x) (upTo_nodup _) fun y hy => by
        have hy' := upTo_mem.1 hy
        exact (List.mem_erase_of_ne (by omega)).2 (h y hy)
      rw [upTo_len, List.length_erase_of_mem hx] at this
      have : 0 < l.length := List.length_pos_of_mem hx
      omega
  · rintro ⟨hn, hb⟩ x hx
    refine Classical.byContradiction fun hxl => ?_
    have := len_sub (x :: l) (upTo l.length) (List.nodup_cons.2 ⟨hxl, hn⟩) fun y hy => by
      rcases List.mem_cons.1 hy with rfl | hy
      · exact hx
      · exact upTo_mem.2 ⟨h1 y hy, hb y hy⟩
    rw [upTo_len, List.length_cons] at this
    omega

/-- None is too great, none has been seen. -/
def freshGo (n : Int) : List Int → List Int → Bool
  | _, [] => true
  | seen, x :: xs => decide (x ≤ n) && (!has seen x && freshGo n (seen ++ [x]) xs)
theorem freshGo_iff (n : Int) : ∀ (xs seen : List Int), freshGo n seen xs = true ↔ (∀ x ∈ xs, x ≤ n) ∧ xs.Nodup ∧ ∀ x ∈ xs, x ∉ seen
  | [], seen => by simp [freshGo]
  | x :: xs, seen => by
    simp only [freshGo, Bool.and_eq_true, decide_eq_true_eq, freshGo_iff n xs, Bool.not_eq_true', List.nodup_cons]
    have hh : has seen x = false ↔ x ∉ seen := by rw [← has_iff]; simp
    rw [hh]
    constructor
    · rintro ⟨h1, h2, h3, h4, h5⟩
      refine ⟨fun y hy => ?_, ⟨fun hx => h5 x hx (by simp), h4⟩, fun y hy => ?_⟩
      · rcases List.mem_cons.1 hy with rfl | hy
        · exact h1
        · exact h3 y hy
      · rcases List.mem_cons.1 hy with rfl | hy
        · exact h2
        · exact fun h => h5 y hy (by simp [h])
    · rintro ⟨h1, ⟨h2, h3⟩, h4⟩
      refine ⟨h1 x (by simp), h4 x (by simp), fun y hy => h1 y (by simp [hy]), h3, fun y hy h => ?_⟩
      rcases List.mem_append.1 h with h | h
      · exact h4 y (by simp [hy]) h
      · simp only [List.mem_singleton] at h; exact h2 (h ▸ hy)

theorem once_fresh {l : List Int} (h1 : ∀ x ∈ l, 1 ≤ x) : freshGo l.length [] l = areOnce l := by
  have a := freshGo_iff l.length l []
  have b := once_nodup h1
  cases h : freshGo l.length [] l with
  | true =>
    have := a.1 h
    exact (b.2 ⟨this.2.1, this.1⟩).symm
  | false =>
    cases h' : areOnce l with
    | false => rfl
    | true =>
      have := b.1 h'
      rw [a.2 ⟨this.2, this.1, fun _ _ h => by cases h⟩] at h
      cases h

/-- The numbers of a tableau lie in 1..9, and there are at most 9. -/
theorem tab_entries {t : Tab} (h : isTab t = true) : ∀ x ∈ t.2.flatten, 1 ≤ x ∧ x ≤ 9 := by
  intro x hx
  simp only [isTab, Bool.and_eq_true] at h
  obtain ⟨r, hr, hxr⟩ := List.mem_flatten.1 hx
  obtain ⟨i, hi, e⟩ := List.mem_iff_getElem.1 hr
  obtain ⟨q, hq, e2⟩ := List.mem_iff_getElem.1 hxr
  have h1 := all_range.1 h.2 i hi
  rw [getD_lt hi, e] at h1
  have h2 := all_range.1 h1 q hq
  simp only [cellOK, within, Bool.and_eq_true, decide_eq_true_eq] at h2
  rw [getD_lt hi, e, getD_lt hq, e2] at h2
  exact h2.1
theorem sum_outer_ge (inner : List Int) (h : ∀ q, 0 ≤ inner.getD q 0) : ∀ (rs : List (List Int)) (i : Nat), (rs.flatten.length : Int) ≤ sumI (outerGo inner i rs)
  | [], i => by simp [outerGo, sumI]
  | r :: rs, i => by
    have := sum_outer_ge inner h rs (i + 1)
    have := h i
    simp only [outerGo, sumI, List.flatten_cons, List.length_append]
    omega
theorem tab_nine {t : Tab} (h : isTab t = true) : t.2.flatten.length ≤ 9 := by
  have hs := tab_shape h
  simp only [shapeOK, isInside, Bool.and_eq_true] at hs
  have h9 := (isPart_spec hs.2.2.2.1).2.1
  have := sum_outer_ge t.1 (fun q => by
    have := (part_atI hs.1 q).1
    rw [atI_nat] at this; exact this) t.2 0
  unfold outer at h9
  omega

def isStd (t : Tab) : Bool := isTab t && areOnce t.2.flatten
/-- The row of a number, -1 for none. -/
def rowOf (t : Tab) (n : Int) : Int := idxI (fun r => has r n) t.2
def descGo (t : Tab) : Nat → Int → List Int
  | 0, _ => []
  | m + 1, i => if rowOf t i < rowOf t (i + 1) then i :: descGo t m (i + 1) else descGo t m (i + 1)
def descents (t : Tab) : List Int := if isStd t = true then descGo t (t.2.flatten.length - 1) 1 else []
theorem descGo_mem (t : Tab) : ∀ (m : Nat) (i : Int), ∀ d ∈ descGo t m i, i ≤ d ∧ d < i + m
  | 0, i, d, h => by cases h
  | m + 1, i, d, h => by
    unfold descGo at h
    split at h
    · rcases List.mem_cons.1 h with rfl | h
      · omega
      · have := descGo_mem t m (i + 1) d h; omega
    · have := descGo_mem t m (i + 1) d h; omega
theorem descGo_len (t : Tab) : ∀ (m : Nat) (i : Int), (descGo t m i).length ≤ m
  | 0, i => by simp [descGo]
  | m + 1, i => by
    unfold descGo
    have := descGo_len t m (i + 1)
    split <;> simp <;> omega
def isWeight (w : List Int) : Bool := decide (w.length ≤ 9) && w.all fun n => within n 0 9

/-- The sums of the first numbers, from s on. -/
def sumsGo : Int → List Int → List Int
  | s, [] => [s]
  | s, x :: xs => s :: sumsGo (s + x) xs
def sums (w : List Int) : List Int := sumsGo 0 w
theorem sumsGo_len : ∀ (w : List Int) (s : Int), (sumsGo s w).length = w.length + 1
  | [], s => rfl
  | x :: xs, s => by simp [sumsGo, sumsGo_len xs]

theorem sumI_nonneg : ∀ (w : List Int), (∀ x ∈ w, 0 ≤ x) → 0 ≤ sumI w
  | [], _ => by simp [sumI]
  | x :: xs, h => by
    have := sumI_nonneg xs fun y hy => h y (by simp [hy])
    have := h x (by simp)
    simp only [sumI]; omega
theorem sumI_take (w : List Int) (h : ∀ x ∈ w, 0 ≤ x) (i : Nat) : 0 ≤ sumI (w.take i) ∧ sumI (w.take i) ≤ sumI w := by
  induction w generalizing i with
  | nil => simp [sumI]
  | cons x xs ih =>
    have hx := h x (by simp)
    have h' : ∀ y ∈ xs, 0 ≤ y := fun y hy => h y (by simp [hy])
    cases i with
    | zero => simp only [List.take_zero, sumI]; have := sumI_nonneg xs h'; omega
    | succ i =>
      simp only [List.take_succ_cons, sumI]
      have := ih h' i
      omega
theorem sumI_app (a b : List Int) : sumI (a ++ b) = sumI a + sumI b := by
  induction a with
  | nil => simp [sumI]
  | cons x a ih => simp only [List.cons_append, sumI, ih]; omega

def compatible (t : Tab) (w : List Int) : Bool := isStd t && (isWeight w && (decide (sumI w = (t.2.flatten.length : Int)) && (descents t).all fun d => has (sums w) d))

/-- The place of n among the sums. -/
def number (w : List Int) (n : Int) : Int := idxI (fun s => decide (n ≤ s)) (sums w)
theorem sumsGo_getD : ∀ (w : List Int) (s : Int) (i : Nat), i ≤ w.length → (sumsGo s w).getD i 0 = s + sumI (w.take i)
  | [], s, i, h => by
    have : i = 0 := by simpa using h
    subst this; simp [sumsGo, sumI]
  | x :: xs, s, 0, _ => by simp [sumsGo, sumI]
  | x :: xs, s, i + 1, h => by
    simp only [sumsGo, List.getD_cons_succ, List.take_succ_cons, sumI]
    rw [sumsGo_getD xs (s + x) i (by simpa using h)]
    omega
/-- The sums but the first. -/
def ends (w : List Int) : List Int := (sums w).drop 1
theorem ends_len (w : List Int) : (ends w).length = w.length := by simp [ends, sums, sumsGo_len]
theorem ends_getD {w : List Int} {i : Nat} (h : i < w.length) : (ends w).getD i 0 = sumI (w.take (i + 1)) := by
  have h1 := sumsGo_getD w 0 (i + 1) (by omega)
  have e : (ends w).getD i 0 = (sums w).getD (i + 1) 0 := by
    simp only [ends, List.getD_eq_getElem?_getD, List.getElem?_drop, Nat.add_comm 1 i]
  rw [e]
  unfold sums
  rw [h1]; omega
theorem has_ends {w : List Int} {d : Int} (h : 1 ≤ d) : has (sums w) d = has (ends w) d := by
  obtain ⟨l, hl⟩ : ∃ l, sums w = 0 :: l := by
    unfold sums
    cases w <;> exact ⟨_, rfl⟩
  unfold ends
  rw [hl]
  have : ¬ d = 0 := by omega
  simp [has, this]
theorem isWeight_spec {w : List Int} (h : isWeight w = true) : w.length ≤ 9 ∧ ∀ x ∈ w, 0 ≤ x ∧ x ≤ 9 := by
  simp only [isWeight, within, Bool.and_eq_true, decide_eq_true_eq, List.all_eq_true] at h
  exact h
theorem std_tab {t : Tab} (h : isStd t = true) : isTab t = true := by
  simp only [isStd, Bool.and_eq_true] at h; exact h.1
theorem std_entries {t : Tab} (h : isStd t = true) : ∀ x ∈ t.2.flatten, 1 ≤ x ∧ x ≤ t.2.flatten.length := by
  have h1 := tab_entries (std_tab h)
  simp only [isStd, Bool.and_eq_true] at h
  have := (once_nodup fun x hx => (h1 x hx).1).1 h.2
  exact fun x hx => ⟨(h1 x hx).1, this.2 x hx⟩
theorem desc_bounds {t : Tab} (h : isStd t = true) : (descents t).length ≤ 9 ∧ ∀ d ∈ descents t, 1 ≤ d ∧ d ≤ 8 := by
  have h9 := tab_nine (std_tab h)
  unfold descents
  rw [if_pos h]
  refine ⟨Nat.le_trans (descGo_len t _ 1) (by omega), fun d hd => ?_⟩
  have := descGo_mem t _ 1 d hd
  omega
/-- A list with a part done. -/
def mapTo {α : Type} (f : α → α) (xs : List α) (i : Nat) : List α := (xs.take i).map f ++ xs.drop i
theorem mapTo_zero {α : Type} (f : α → α) (xs : List α) : mapTo f xs 0 = xs := by simp [mapTo]
theorem mapTo_all {α : Type} (f : α → α) (xs : List α) : mapTo f xs xs.length = xs.map f := by simp [mapTo]
theorem mapTo_len {α : Type} (f : α → α) (xs : List α) (i : Nat) : (mapTo f xs i).length = xs.length := by simp [mapTo]; omega
theorem mapTo_at {α : Type} (f : α → α) {xs : List α} {i : Nat} (h : i < xs.length) (d : α) : (mapTo f xs i).getD i d = xs.getD i d := by
  unfold mapTo
  rw [getD_lt (by simp; omega), List.getElem_append_right (by simp; omega), getD_lt h]
  simp [Nat.min_eq_left (Nat.le_of_lt h)]
theorem mapTo_succ {α : Type} (f : α → α) {xs : List α} {i : Nat} (h : i < xs.length) (d : α) : (mapTo f xs i).set i (f (xs.getD i d)) = mapTo f xs (i + 1) := by
  unfold mapTo
  rw [List.set_append_right _ _ (by simp; omega), drop_cons h d, take_succ h d]
  simp [Nat.min_eq_left (Nat.le_of_lt h)]
def numsGo : Int → List Int → List Int
  | _, [] => []
  | k, x :: xs => List.replicate x.toNat (k + 1) ++ numsGo (k + 1) xs
theorem numsGo_len : ∀ (w : List Int) (k : Int), (∀ x ∈ w, 0 ≤ x) → ((numsGo k w).length : Int) = sumI w
  | [], k, _ => rfl
  | x :: xs, k, h => by
    have := numsGo_len xs (k + 1) fun y hy => h y (by simp [hy])
    have := h x (by simp)
    simp only [numsGo, sumI, List.length_append, List.length_replicate]
    omega
theorem numsGo_snoc : ∀ (w : List Int) (k x : Int), numsGo k (w ++ [x]) = numsGo k w ++ List.replicate x.toNat (k + w.length + 1)
  | [], k, x => by simp [numsGo]
  | y :: w, k, x => by
    simp only [List.cons_append, numsGo, numsGo_snoc w, List.length_cons, List.append_assoc]
    congr 3
    omega
theorem sums_head (s : Int) (w : List Int) : ∃ l, sumsGo s w = s :: l := by cases w <;> exact ⟨_, rfl⟩
theorem nums_find : ∀ (w : List Int) (k s n : Int), (∀ x ∈ w, 0 ≤ x) → s < n → n ≤ s + sumI w →
    (numsGo k w).getD (n - s - 1).toNat 0 = k + (((sumsGo s w).findIdx fun y => decide (n ≤ y) : Nat) : Int) ∧ (sumsGo s w).findIdx (fun y => decide (n ≤ y)) < (sumsGo s w).length
  | [], k, s, n, _, h1, h2 => by simp [sumI] at h2; omega
  | x :: xs, k, s, n, h, h1, h2 => by
    have hx := h x (by simp)
    simp only [sumI] at h2
    have hns : ¬ n ≤ s := by omega
    simp only [sumsGo, numsGo, List.findIdx_cons, hns, decide_false, cond_false, List.length_cons]
    by_cases c : n ≤ s + x
    · obtain ⟨l, hl⟩ := sums_head (s + x) xs
      rw [hl]
      simp only [List.findIdx_cons, c, decide_true, cond_true]
      have hlt : (n - s - 1).toNat < (List.replicate x.toNat (k + 1) ++ numsGo (k + 1) xs).length := by simp; omega
      rw [getD_lt hlt, List.getElem_append_left (by simp; omega)]
      simp
    · obtain ⟨i1, i2⟩ := nums_find xs (k + 1) (s + x) n (fun y hy => h y (by simp [hy])) (by omega) (by omega)
      have e : (n - s - 1).toNat = x.toNat + (n - (s + x) - 1).toNat := by omega
      refine ⟨?_, by omega⟩
      rw [e, List.getD_eq_getElem?_getD, List.getElem?_append_right (by simp)]
      simp only [List.length_replicate, Nat.add_sub_cancel_left]
      rw [← List.getD_eq_getElem?_getD, i1]
      omega
theorem number_get {w : List Int} {n : Int} (h : ∀ x ∈ w, 0 ≤ x) (h1 : 1 ≤ n) (h2 : n ≤ sumI w) : (0 :: numsGo 0 w).getD n.toNat 0 = number w n := by
  obtain ⟨a, b⟩ := nums_find w 0 0 n h (by omega) (by omega)
  unfold number idxI sums
  rw [if_pos b]
  have e : n.toNat = (n - 0 - 1).toNat + 1 := by omega
  rw [e, List.getD_cons_succ, a]
  omega
theorem number_le (w : List Int) (n : Int) : -1 ≤ number w n ∧ number w n ≤ w.length := by
  unfold number idxI sums
  have := sumsGo_len w 0
  split <;> omega
theorem compatible_spec {t : Tab} {w : List Int} (h : compatible t w = true) : isStd t = true ∧ w.length ≤ 9 ∧ (∀ x ∈ w, 0 ≤ x ∧ x ≤ 9) ∧ sumI w = (t.2.flatten.length : Int) := by
  simp only [compatible, Bool.and_eq_true, decide_eq_true_eq] at h
  obtain ⟨h1, h2, h3, _⟩ := h
  obtain ⟨h4, h5⟩ := isWeight_spec h2
  exact ⟨h1, h4, h5, h3⟩
theorem sumI_le {w : List Int} (h : ∀ x ∈ w, 0 ≤ x ∧ x ≤ 9) : sumI w ≤ 9 * w.length := by
  induction w with
  | nil => simp [sumI]
  | cons x w ih =>
    have := ih fun y hy => h y (by simp [hy])
    have := h x (by simp)
    simp only [sumI, List.length_cons]
    omega
theorem sumI_le9 {w : List Int} (h : ∀ x ∈ w, 0 ≤ x ∧ x ≤ 9) (hl : w.length ≤ 9) : sumI w ≤ 81 := by
  have := sumI_le h
  omega
def fillBy (t : Tab) (w : List Int) : Tab × Bool := if compatible t w = true then ((t.1, t.2.map fun r => r.map (number w)), true) else (([], []), false)
theorem fillBy_ok {t : Tab} (h : TabOK t) (w : List Int) : TabOK (fillBy t w).1 := by
  unfold fillBy
  split
  · refine ⟨h.1, by show (t.2.map _).length ≤ _; rw [List.length_map]; exact h.2.1, fun y hy => ?_⟩
    obtain ⟨r, hr, rfl⟩ := List.mem_map.1 hy
    rw [List.length_map]; exact h.2.2 r hr
  · exact TabOK.nil
end Go.Am.Pu
end

section
/- Plain laws of draws, and of boxes. -/
namespace Go.Am.Pu
open Go Go.Am
attribute [local instance] D.real

theorem and255 (a : Int) : 0 ≤ D.andI .i64 a 255 ∧ D.andI .i64 a 255 ≤ 255 := by
  have h : (BitVec.ofInt 64 a &&& BitVec.ofInt 64 255).toNat ≤ 255 := by
    rw [BitVec.toNat_and]
    exact Nat.le_trans Nat.and_le_right (by decide)
  have e : D.andI .i64 a 255 = (((BitVec.ofInt 64 a &&& BitVec.ofInt 64 255).toNat : Nat) : Int) := by
    show IntKind.i64.wrap (((BitVec.ofInt 64 a &&& BitVec.ofInt 64 255).toNat : Nat) : Int) = _
    rw [w64 (by omega) (by omega)]
  rw [e]
  omega

theorem test_lt {α : Type} (a b : Int) (x y : Option α) : D.test (D.lt a b) x y = if a < b then x else y := by
  show (if decide (a < b) = true then x else y) = _
  simp only [decide_eq_true_eq]

/-- How many partitions of n a list holds at most. -/
def allB : Nat → Nat
  | 0 => 1
  | n + 1 => 2 ^ n
def allS (n : Nat) : Nat → Nat
  | 0 => 0
  | p + 1 => allB (n - (p + 1)) + allS n p
theorem allS_le {n p : Nat} (hn : n ≤ 9) (h1 : 1 ≤ n) (hp : p ≤ n) : allS n p ≤ allB n := by
  have key : ∀ n < 10, ∀ p < 10, 1 ≤ n → p ≤ n → allS n p ≤ allB n := by decide
  exact key n (by omega) p (by omega) h1 hp
theorem allB_le {n : Nat} (hn : n ≤ 9) : allB n ≤ 256 := by
  have key : ∀ n < 10, allB n ≤ 256 := by decide
  exact key n (by omega)
/-- A row of at most n numbers 1..9. -/
def RowOK (n : Nat) (x : List Int) : Prop := x.length ≤ n ∧ ∀ y ∈ x, 1 ≤ y ∧ y ≤ 9

/-- How many numbers lie above c: a column's height. -/
def colI : List Int → Int → Int
  | [], _ => 0
  | x :: xs, c => (if c < x then 1 else 0) + colI xs c

theorem colI_bound : ∀ (p : List Int) (c : Int), 0 ≤ colI p c ∧ colI p c ≤ p.length
  | [], c => by simp [colI]
  | x :: xs, c => by
    have := colI_bound xs c
    unfold colI
    rw [List.length_cons]
    split <;> omega
theorem colI_pos {p : List Int} {c : Int} (hc : 0 ≤ c) (h : c < p.getD 0 0) : 0 < colI p c := by
  cases p with
  | nil => simp at h; omega
  | cons x xs =>
    have h : c < x := by simpa using h
    have := (colI_bound xs c).1
    unfold colI
    rw [if_pos h]
    omega
theorem colI_zero : ∀ (p : List Int) (c : Int), (∀ x ∈ p, x ≤ c) → colI p c = 0
  | [], _, _ => rfl
  | x :: xs, c, h => by
    have h1 : ¬ c < x := by have := h x List.mem_cons_self; omega
    unfold colI
    rw [if_neg h1, colI_zero xs c fun y hy => h y (List.mem_cons_of_mem _ hy)]
    omega
theorem part_head {p : List Int} (h : isPart p = true) : ∀ x ∈ p, x ≤ p.getD 0 0 := by
  cases p with
  | nil => intro x hx; cases hx
  | cons y ys =>
    unfold isPart at h
    simp only [partGo, Bool.and_eq_true, decide_eq_true_eq] at h
    obtain ⟨_, _, _, h4⟩ := h
    have := (partGo_spec ys y (0 + y) h4).1
    intro x hx
    rcases List.mem_cons.1 hx with rfl | hx
    · simp
    · have := this x hx
      simpa using this.2
def conjGo (p : List Int) : Nat → Nat → List Int
  | 0, _ => []
  | m + 1, c => colI p c :: conjGo p m (c + 1)
/-- The columns' heights. -/
def conj (p : List Int) : List Int := if isPart p = true then conjGo p (p.getD 0 0).toNat 0 else []

/-- A box put to a row. -/
def addBox (p : List Int) (r : Int) : List Int × Bool :=
  if isPart p = true ∧ 0 ≤ r ∧ r ≤ p.length then
    (let q := if r = p.length then p ++ [0] else p
     let o := q.set r.toNat (q.getD r.toNat 0 + 1)
     if isPart o = true then (o, true) else ([], false))
  else ([], false)
end Go.Am.Pu
end

section
/- Steps over equations: what a word comes to, told by what must hold of it. -/
namespace Go.Am.Pu
open Go Go.Am
attribute [local instance] D.real
section
variable {α β : Type}
/-- It comes to something of which Q holds. -/
def Ok (x : Option α) (Q : α → Prop) : Prop := ∃ y, x = some y ∧ Q y
theorem Ok.ret {y : α} {Q : α → Prop} (h : Q y) : Ok (some y) Q := ⟨y, rfl, h⟩
theorem Ok.mono {x : Option α} {P Q : α → Prop} (h : Ok x P) (g : ∀ y, P y → Q y) : Ok x Q :=
  let ⟨y, e, hp⟩ := h
  ⟨y, e, g y hp⟩
theorem Ok.bnd {x : Option α} {f : α → Option β} {P : α → Prop} {Q : β → Prop} (h : Ok x P) (g : ∀ y, P y → Ok (f y) Q) : Ok (D.bnd x f) Q := by
  obtain ⟨y, e, hp⟩ := h
  rw [e]
  exact g y hp
theorem Ok.bndE {x : Option α} {y : α} {f : α → Option β} {Q : β → Prop} (h : x = some y) (g : Ok (f y) Q) : Ok (D.bnd x f) Q := by
  rw [h]
  exact g
theorem Ok.t {p : Prop} [Decidable p] {x y : Option α} {Q : α → Prop} (h1 : p → Ok x Q) (h2 : ¬ p → Ok y Q) : Ok (D.test (decide p) x y) Q := by
  show Ok (if decide p = true then x else y) Q
  by_cases h : p
  · rw [if_pos (decide_eq_true h)]; exact h1 h
  · rw [if_neg (by rw [decide_eq_false h]; simp)]; exact h2 h
theorem Ok.tb {b : Bool} {x y : Option α} {Q : α → Prop} (h1 : b = true → Ok x Q) (h2 : b = false → Ok y Q) : Ok (D.test b x y) Q := by
  cases b
  · exact h2 rfl
  · exact h1 rfl
theorem Ok.tn {b : Bool} {x y : Option α} {Q : α → Prop} (h1 : b = false → Ok x Q) (h2 : b = true → Ok y Q) : Ok (D.test (!b) x y) Q := by
  cases b
  · exact h1 rfl
  · exact h2 rfl
theorem Ok.tnd {p : Prop} [Decidable p] {x y : Option α} {Q : α → Prop} (h1 : ¬ p → Ok x Q) (h2 : p → Ok y Q) : Ok (D.test (!decide p) x y) Q :=
  Ok.tn (fun h => h1 (of_decide_eq_false h)) (fun h => h2 (of_decide_eq_true h))
/-- A test that must hold. -/
theorem Ok.g {p : Prop} [Decidable p] {x y : Option α} {Q : α → Prop} (h : p) (g : Ok x Q) : Ok (D.test (decide p) x y) Q := Ok.t (fun _ => g) (fun h' => absurd h h')
theorem Ok.no {p : Prop} [Decidable p] {x y : Option α} {Q : α → Prop} (h : ¬ p) (g : Ok y Q) : Ok (D.test (decide p) x y) Q := Ok.t (fun h' => absurd h' h) (fun _ => g)
theorem Ok.gn {p : Prop} [Decidable p] {x y : Option α} {Q : α → Prop} (h : ¬ p) (g : Ok x Q) : Ok (D.test (!decide p) x y) Q := Ok.tnd (fun _ => g) (fun h' => absurd h' h)
theorem Ok.some {x : Option α} {Q : α → Prop} (h : Ok x Q) : ∃ y, x = Option.some y := let ⟨y, e, _⟩ := h; ⟨y, e⟩
end
/-- Rows that are no longer than that. -/
def RowsLe (n m : Nat) (rs : List (List Int)) : Prop := rs.length ≤ n ∧ ∀ r ∈ rs, r.length ≤ m
theorem RowsLe.at {n m : Nat} {rs : List (List Int)} (h : RowsLe n m rs) (i : Nat) : (rs.getD i []).length ≤ m := by
  by_cases hi : i < rs.length
  · rw [getD_lt hi]; exact h.2 _ (List.getElem_mem hi)
  · rw [getD_ge (by omega)]; simp
theorem RowsLe.set {n m : Nat} {rs : List (List Int)} (h : RowsLe n m rs) (i : Nat) {r : List Int} (hr : r.length ≤ m) : RowsLe n m (rs.set i r) := by
  refine ⟨by rw [List.length_set]; exact h.1, fun x hx => ?_⟩
  rcases List.mem_or_eq_of_mem_set hx with h' | rfl
  · exact h.2 x h'
  · exact hr
theorem RowsLe.mono {n m n' m' : Nat} {rs : List (List Int)} (h : RowsLe n m rs) (hn : n ≤ n') (hm : m ≤ m') : RowsLe n' m' rs :=
  ⟨Nat.le_trans h.1 hn, fun x hx => Nat.le_trans (h.2 x hx) hm⟩
theorem RowsLe.app {n m : Nat} {rs : List (List Int)} (h : RowsLe n m rs) {r : List Int} (hr : r.length ≤ m) : RowsLe (n + 1) m (rs ++ [r]) := by
  refine ⟨by rw [List.length_append]; simp; exact h.1, fun x hx => ?_⟩
  rcases List.mem_append.1 hx with h' | h'
  · exact h.2 x h'
  · simp only [List.mem_singleton] at h'; subst h'; exact hr
theorem addBox_len (p : List Int) (r : Int) : (addBox p r).1.length ≤ p.length + 1 := by
  unfold addBox
  split
  · simp only
    generalize hq : (if r = (p.length : Int) then p ++ [0] else p) = q
    have hl : q.length ≤ p.length + 1 := by
      rw [← hq]
      split
      · simp
      · omega
    split
    · rw [List.length_set]; exact hl
    · simp
  · simp
theorem conjGo_len (p : List Int) : ∀ (m c : Nat), (conjGo p m c).length = m
  | 0, _ => rfl
  | m + 1, c => by simp [conjGo, conjGo_len p m]
theorem conj_len (p : List Int) : (conj p).length ≤ 9 := by
  unfold conj
  split
  · next h =>
    rw [conjGo_len]
    by_cases hz : 0 < p.length
    · rw [getD_lt hz]
      have := (isPart_spec h).1 _ (List.getElem_mem hz)
      omega
    · rw [getD_ge (by omega)]; decide
  · simp
end Go.Am.Pu
end

section
/- Corners; a number taken out of rows. Plain words. -/
namespace Go.Am.Pu

/-- The rows that end behind the next one's end. -/
def cornGo (p : List Int) : Nat → Nat → List Int
  | 0, _ => []
  | m + 1, i => if p.getD (i + 1) 0 < p.getD i 0 then (i : Int) :: cornGo p m (i + 1) else cornGo p m (i + 1)
def corners (p : List Int) : List Int := if isPart p = true then cornGo p p.length 0 else []
theorem cornGo_len (p : List Int) : ∀ (m i : Nat), (cornGo p m i).length ≤ m
  | 0, _ => by simp [cornGo]
  | m + 1, i => by
    have := cornGo_len p m (i + 1)
    unfold cornGo
    split <;> simp <;> omega
theorem cornGo_mem (p : List Int) : ∀ (m i : Nat) (x : Int), x ∈ cornGo p m i → ∃ n : Nat, x = n ∧ i ≤ n ∧ n < i + m ∧ p.getD (n + 1) 0 < p.getD n 0
  | 0, _, _, h => by simp [cornGo] at h
  | m + 1, i, x, h => by
    unfold cornGo at h
    split at h
    · next hc =>
      rcases List.mem_cons.1 h with rfl | h
      · exact ⟨i, rfl, Nat.le_refl _, by omega, hc⟩
      · obtain ⟨n, h1, h2, h3, h4⟩ := cornGo_mem p m (i + 1) x h
        exact ⟨n, h1, by omega, by omega, h4⟩
    · obtain ⟨n, h1, h2, h3, h4⟩ := cornGo_mem p m (i + 1) x h
      exact ⟨n, h1, by omega, by omega, h4⟩
theorem corners_len (p : List Int) : (corners p).length ≤ p.length := by
  unfold corners
  split
  · exact cornGo_len _ _ _
  · simp
theorem corners_mem {p : List Int} {x : Int} (h : x ∈ corners p) : isPart p = true ∧ ∃ n : Nat, x = n ∧ n < p.length ∧ p.getD (n + 1) 0 < p.getD n 0 := by
  unfold corners at h
  split at h
  · next hp =>
    obtain ⟨n, h1, _, h3, h4⟩ := cornGo_mem _ _ _ _ h
    exact ⟨hp, n, h1, by omega, h4⟩
  · cases h

theorem part_mono : ∀ {p : List Int} {prev s : Int}, partGo p prev s = true → ∀ i, i + 1 < p.length → p.getD (i + 1) 0 ≤ p.getD i 0
  | [], _, _, _, i, h => by simp at h
  | [x], _, _, _, i, h => by simp at h
  | x :: y :: xs, prev, s, hp, i, h => by
    simp only [partGo, Bool.and_eq_true, decide_eq_true_eq] at hp
    cases i with
    | zero => simpa using hp.2.2.2.2.1
    | succ i =>
      have h2 : partGo (y :: xs) x (s + x) = true := by
        simp only [partGo, Bool.and_eq_true, decide_eq_true_eq]
        exact hp.2.2.2
      have := part_mono h2 i (by simpa using h)
      simpa using this

/-- The last place of m at which the number is less than y. -/
def lastLt (r : List Int) (y : Int) : Nat → Option Nat
  | 0 => none
  | i + 1 => if r.getD i 0 < y then some i else lastLt r y i
theorem lastLt_some {r : List Int} {y : Int} : ∀ {m q : Nat}, lastLt r y m = some q → q < m ∧ r.getD q 0 < y
  | 0, q, h => by simp [lastLt] at h
  | m + 1, q, h => by
    unfold lastLt at h
    split at h
    · next hc => injection h with h; subst h; exact ⟨by omega, hc⟩
    · have := lastLt_some h; exact ⟨by omega, this.2⟩
theorem lastLt_ex {r : List Int} {y : Int} : ∀ {m i : Nat}, i < m → r.getD i 0 < y → ∃ q, lastLt r y m = some q
  | 0, i, h, _ => by omega
  | m + 1, i, h, hi => by
    unfold lastLt
    split
    · exact ⟨_, rfl⟩
    · next hc =>
      have : i ≠ m := fun e => hc (e ▸ hi)
      exact lastLt_ex (by omega) hi

/-- A number taken out goes up through the rows. -/
def remGo : Nat → List (List Int) → Int → List (List Int) × Int
  | 0, rs, y => (rs, y)
  | r + 1, rs, y => match lastLt (rs.getD r []) y (rs.getD r []).length with
    | some q => remGo r (rs.set r ((rs.getD r []).set q y)) ((rs.getD r []).getD q 0)
    | none => remGo r rs y
/-- In each row there is a lesser number. -/
def okGo : Nat → List (List Int) → Int → Prop
  | 0, _, _ => True
  | r + 1, rs, y => ∃ q, lastLt (rs.getD r []) y (rs.getD r []).length = some q ∧ okGo r (rs.set r ((rs.getD r []).set q y)) ((rs.getD r []).getD q 0)

theorem getD_set_ne {α : Type} {xs : List α} {i j : Nat} (h : j ≠ i) (x d : α) : (xs.set j x).getD i d = xs.getD i d := by
  simp only [List.getD_eq_getElem?_getD, List.getElem?_set]
  rw [if_neg h]

theorem okGo_of : ∀ (r : Nat) (rs : List (List Int)) (y : Int), (∀ i, i + 1 < r → (rs.getD (i + 1) []).length ≤ (rs.getD i []).length ∧ ∀ q, q < (rs.getD (i + 1) []).length → (rs.getD i []).getD q 0 < (rs.getD (i + 1) []).getD q 0) →
    (∀ i, i + 1 = r → ∃ q, q < (rs.getD i []).length ∧ (rs.getD i []).getD q 0 < y) → okGo r rs y
  | 0, _, _, _, _ => trivial
  | r + 1, rs, y, h, he => by
    obtain ⟨q0, h1, h2⟩ := he r rfl
    obtain ⟨q, hq⟩ := lastLt_ex h1 h2
    obtain ⟨q1, q2⟩ := lastLt_some hq
    refine ⟨q, hq, okGo_of r _ _ (fun i hi => ?_) (fun i hi => ?_)⟩
    · rw [getD_set_ne (by omega), getD_set_ne (by omega)]
      exact h i (by omega)
    · subst hi
      rw [getD_set_ne (by omega)]
      obtain ⟨k1, k2⟩ := h i (by omega)
      exact ⟨q, by omega, k2 q q1⟩

theorem remGo_rows {n m : Nat} : ∀ (r : Nat) (rs : List (List Int)) (y : Int), RowsLe n m rs → RowsLe n m (remGo r rs y).1
  | 0, _, _, h => h
  | r + 1, rs, y, h => by
    unfold remGo
    split
    · exact remGo_rows r _ _ (h.set r (by rw [List.length_set]; exact h.at r))
    · exact remGo_rows r rs y h

/-- A cell taken out of a plain tableau. -/
def takeOut (rs : List (List Int)) (row : Nat) : List (List Int) × Int :=
  ((if (rs.getD row []).length = 1 then (remGo row (rs.set row ((rs.getD row []).take ((rs.getD row []).length - 1))) ((rs.getD row []).getD ((rs.getD row []).length - 1) 0)).1.take row
    else (remGo row (rs.set row ((rs.getD row []).take ((rs.getD row []).length - 1))) ((rs.getD row []).getD ((rs.getD row []).length - 1) 0)).1),
   (remGo row (rs.set row ((rs.getD row []).take ((rs.getD row []).length - 1))) ((rs.getD row []).getD ((rs.getD row []).length - 1) 0)).2)
def removeCell (t : Tab) (row : Int) : Tab × (Int × Bool) :=
  if isPlain t = true ∧ has (corners (outer t)) row = true then ((t.1, (takeOut t.2 row.toNat).1), ((takeOut t.2 row.toNat).2, true)) else (([], []), (0, false))

theorem takeOut_rows {n m : Nat} {rs : List (List Int)} (h : RowsLe n m rs) (row : Nat) : RowsLe n m (takeOut rs row).1 := by
  have h1 := remGo_rows row (rs.set row ((rs.getD row []).take ((rs.getD row []).length - 1))) ((rs.getD row []).getD ((rs.getD row []).length - 1) 0) (h.set row (by rw [List.length_take]; have := h.at row; omega))
  unfold takeOut
  simp only
  split
  · exact ⟨by rw [List.length_take]; have := h1.1; omega, fun x hx => h1.2 x (List.mem_of_mem_take hx)⟩
  · exact h1

/-- What a plain tableau is. -/
theorem plain_inner {t : Tab} (h : isPlain t = true) : t.1 = [] := by
  simp only [isPlain, Bool.and_eq_true, decide_eq_true_eq] at h
  exact List.eq_nil_of_length_eq_zero h.2
theorem plain_outer {t : Tab} (h : isPlain t = true) {i : Nat} (hi : i < t.2.length) : (outer t).getD i 0 = (t.2.getD i []).length := by
  have e := outerGo_get t.1 t.2 0 i hi
  rw [plain_inner h] at e
  unfold outer
  rw [plain_inner h, e]
  simp
theorem plain_part {t : Tab} (h : isPlain t = true) : isPart (outer t) = true := by
  simp only [isPlain, Bool.and_eq_true] at h
  have hs := tab_shape h.1
  simp only [shapeOK, isInside, Bool.and_eq_true] at hs
  exact hs.2.2.2.1
theorem outer_len (t : Tab) : (outer t).length = t.2.length := by unfold outer; rw [outerGo_len]
theorem plain_rows {t : Tab} (h : isPlain t = true) : RowsLe 9 9 t.2 := by
  have h9 := plain_nine h
  have hl := (isPart_spec (plain_part h)).2.2.1
  rw [outer_len] at hl
  exact ⟨hl, fun r hr => by have := flat_row hr; omega⟩
theorem plain_cols {t : Tab} (h : isPlain t = true) : ∀ i, i + 1 < t.2.length → (t.2.getD (i + 1) []).length ≤ (t.2.getD i []).length ∧ ∀ q, q < (t.2.getD (i + 1) []).length → (t.2.getD i []).getD q 0 < (t.2.getD (i + 1) []).getD q 0 := by
  intro i hi
  have hm := part_mono (show partGo (outer t) 9 0 = true from plain_part h) i (by rw [outer_len]; exact hi)
  rw [plain_outer h hi, plain_outer h (by omega)] at hm
  have hl : (t.2.getD (i + 1) []).length ≤ (t.2.getD i []).length := by omega
  refine ⟨hl, fun q hq => ?_⟩
  have ht := h
  simp only [isPlain, Bool.and_eq_true] at ht
  have ht := ht.1
  simp only [isTab, Bool.and_eq_true] at ht
  have h1 := all_range.1 (all_range.1 ht.2 (i + 1) hi) q hq
  simp only [cellOK, Bool.and_eq_true, Bool.or_eq_true, decide_eq_true_eq] at h1
  have h2 := h1.2.2.resolve_left (by omega)
  rw [plain_inner h] at h2
  have e : ((i + 1 : Nat) : Int) - 1 = (i : Int) := by omega
  have e2 : ([] : List Int).getD (i + 1) 0 + (q : Int) = ([] : List Int).getD i 0 + (q : Int) := by simp
  rw [e, e2] at h2
  have ee : entry t (i : Int) (([] : List Int).getD i 0 + (q : Int)) = (t.2.getD i []).getD q 0 := by
    have := entry_at (t := t) (r := i) (q := q) (by omega)
    rw [plain_inner h] at this
    exact this
  rw [ee] at h2
  exact h2
theorem corner_row {t : Tab} {row : Int} (h : isPlain t = true) (hc : has (corners (outer t)) row = true) : ∃ n : Nat, row = n ∧ n < t.2.length ∧ 1 ≤ (t.2.getD n []).length := by
  obtain ⟨_, n, h1, h2, h3⟩ := corners_mem (has_iff.1 hc)
  rw [outer_len] at h2
  refine ⟨n, h1, h2, ?_⟩
  have hp := (isPart_spec (plain_part h)).1 _ (List.getElem_mem (show n < (outer t).length by rw [outer_len]; exact h2))
  rw [← getD_lt _ 0, plain_outer h h2] at hp
  omega
theorem plain_okGo {t : Tab} (h : isPlain t = true) {n : Nat} (hn : n < t.2.length) (hl : 1 ≤ (t.2.getD n []).length) :
    okGo n (t.2.set n ((t.2.getD n []).take ((t.2.getD n []).length - 1))) ((t.2.getD n []).getD ((t.2.getD n []).length - 1) 0) := by
  refine okGo_of n _ _ (fun i hi => ?_) (fun i hi => ?_)
  · rw [getD_set_ne (by omega), getD_set_ne (by omega)]
    exact plain_cols h i (by omega)
  · subst hi
    rw [getD_set_ne (by omega)]
    obtain ⟨k1, k2⟩ := plain_cols h i hn
    exact ⟨(t.2.getD (i + 1) []).length - 1, by omega, k2 _ (by omega)⟩
theorem removeCell_ok {t : Tab} (h : TabOK t) (row : Int) : TabOK (removeCell t row).1 := by
  unfold removeCell
  split
  · next hc =>
    have h1 := takeOut_rows (plain_rows hc.1) row.toNat
    exact ⟨h.1, by have := h1.1; dsimp only; omega, fun x hx => by have := h1.2 x hx; omega⟩
  · exact TabOK.nil
end Go.Am.Pu
end
