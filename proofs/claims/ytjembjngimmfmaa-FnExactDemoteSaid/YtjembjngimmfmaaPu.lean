/- Plain laws of lists, partitions, shapes and tableaux; no program in sight. -/
import Derived.Test.YtjembjngimmfmaaAmP
set_option linter.unusedSimpArgs false
set_option linter.unusedVariables false
set_option linter.unnecessarySimpa false
set_option linter.unusedSectionVars false
section
/- Rules for loops over data: a loop that looks at all, a loop that folds. -/
namespace Go.Am.Pu
open Go.Am

theorem w64 {n : Int} (h1 : -9223372036854775808 ≤ n) (h2 : n ≤ 9223372036854775807) : IntKind.i64.wrap n = n := Go.Am.w64 h1 h2

/-- A loop that goes on while p holds. -/
theorem loop_all {R : Type} (L : Nat → Nat → Option R) (n : Nat) (p : Nat → Bool) (bad good : Option R)
    (hs : ∀ j i, i < n → L (j + 1) i = if p i = true then L j (i + 1) else bad) (he : ∀ j, L (j + 1) n = good) :
    ∀ (m j i : Nat), i + m = n → m < j → L j i = if (List.range' i m).all p = true then good else bad
  | m, 0, i, _, h => by omega
  | 0, j + 1, i, h, _ => by
    have : i = n := by omega
    subst this
    rw [he]; rfl
  | m + 1, j + 1, i, h, hj => by
    rw [hs j i (by omega), loop_all L n p bad good hs he m j (i + 1) (by omega) (by omega), List.range'_succ, List.all_cons]
    cases p i
    · rw [if_neg (by simp), Bool.false_and, if_neg (by simp)]
    · rw [if_pos rfl, Bool.true_and]

theorem all_range {p : Nat → Bool} {n : Nat} : (List.range' 0 n).all p = true ↔ ∀ i, i < n → p i = true := by
  simp [List.all_eq_true, List.mem_range'_1]

theorem getD_lt {α : Type} {xs : List α} {i : Nat} (h : i < xs.length) (d : α) : xs.getD i d = xs[i] := by
  simp only [List.getD_eq_getElem?_getD, List.getElem?_eq_getElem h, Option.getD_some]
theorem getD_ge {α : Type} {xs : List α} {i : Nat} (h : xs.length ≤ i) (d : α) : xs.getD i d = d := by
  simp only [List.getD_eq_getElem?_getD, List.getElem?_eq_none h, Option.getD_none]

theorem drop_cons {α : Type} {xs : List α} {i : Nat} (h : i < xs.length) (d : α) : xs.drop i = xs.getD i d :: xs.drop (i + 1) := by
  rw [getD_lt h, List.drop_eq_getElem_cons h]
theorem take_succ {α : Type} {xs : List α} {i : Nat} (h : i < xs.length) (d : α) : xs.take (i + 1) = xs.take i ++ [xs.getD i d] := by
  rw [getD_lt h, List.take_succ_eq_append_getElem h]

/-- A copy in the making: one place more is filled. -/
theorem fill_step {α : Type} {xs : List α} {i : Nat} (h : i < xs.length) (d z : α) : (xs.take i ++ List.replicate (xs.length - i) z).set i (xs.getD i d) = xs.take (i + 1) ++ List.replicate (xs.length - (i + 1)) z := by
  have e : xs.length - i = xs.length - (i + 1) + 1 := by omega
  rw [take_succ h d, e, List.replicate_succ, List.set_append_right _ _ (by simp; omega)]
  simp [Nat.min_eq_left (Nat.le_of_lt h)]

end Go.Am.Pu
end

section
/- Marking memory and looking whether the marks are held. -/
namespace Go.Am.Pu
/-- Looks whether a row holds q, q + 1, ..; -1 if not. -/
def held : List Int → Int → Int
  | [], q => q
  | x :: xs, q => if x = q then held xs (q + 1) else -1
/-- Marks. -/
def mark : List Int → Int → List Int
  | [], _ => []
  | _ :: xs, q => q :: mark xs (q + 1)
theorem mark_len : ∀ (xs : List Int) (q : Int), (mark xs q).length = xs.length
  | [], _ => rfl
  | _ :: xs, q => by simp [mark, mark_len xs]
theorem held_mark : ∀ (xs : List Int) (q : Int), held (mark xs q) q = q + xs.length
  | [], q => by simp [mark, held]
  | _ :: xs, q => by
    simp only [mark, held, if_true, List.length_cons]
    rw [held_mark xs]
    omega
theorem held_le : ∀ (xs : List Int) (q : Int), 0 ≤ q → held xs q ≤ q + xs.length
  | [], q, _ => by simp [held]
  | x :: xs, q, h => by
    simp only [held, List.length_cons]
    split
    · have := held_le xs (q + 1) (by omega)
      omega
    · omega
def held2 : List (List Int) → Int → Int
  | [], q => q
  | x :: xs, q => if held x q < 0 then -1 else held2 xs (held x q)
theorem held2_neg : ∀ (xs : List (List Int)) (q : Int), 0 ≤ q → held2 xs q < 0 → held2 xs q = -1
  | [], q, _, h' => by simp [held2] at h'; omega
  | x :: xs, q, h, h' => by
    simp only [held2] at h' ⊢
    split
    · rfl
    · next e => rw [if_neg e] at h'; exact held2_neg xs _ (by omega) h'
def mark2 : List (List Int) → Int → List (List Int)
  | [], _ => []
  | x :: xs, q => mark x q :: mark2 xs (q + x.length)
def size2 : List (List Int) → Nat
  | [] => 0
  | x :: xs => x.length + size2 xs
theorem size2_le : ∀ (xs : List (List Int)) (n : Nat), (∀ x ∈ xs, x.length ≤ n) → size2 xs ≤ xs.length * n
  | [], n, _ => by simp [size2]
  | x :: xs, n, h => by
    have h1 := h x (by simp)
    have h2 := size2_le xs n fun y hy => h y (by simp [hy])
    simp only [size2, List.length_cons, Nat.succ_mul]
    omega
theorem size2_lim {xs : List (List Int)} (h : xs.length ≤ 1048576) (hr : ∀ x ∈ xs, x.length ≤ 1048576) : size2 xs ≤ 1099511627776 := by
  have h1 := size2_le xs 1048576 hr
  have h2 : xs.length * 1048576 ≤ 1048576 * 1048576 := Nat.mul_le_mul_right _ h
  omega
theorem mark2_mem {xs : List (List Int)} {q : Int} {n : Nat} (h : ∀ x ∈ xs, x.length ≤ n) : ∀ y ∈ mark2 xs q, y.length ≤ n := by
  induction xs generalizing q with
  | nil => intro y hy; cases hy
  | cons x xs ih =>
    intro y hy
    simp only [mark2, List.mem_cons] at hy
    rcases hy with rfl | hy
    · rw [mark_len]; exact h x (by simp)
    · exact ih (fun z hz => h z (by simp [hz])) y hy
theorem size2_mark : ∀ (xs : List (List Int)) (q : Int), size2 (mark2 xs q) = size2 xs
  | [], _ => rfl
  | x :: xs, q => by simp [mark2, size2, mark_len, size2_mark xs]
theorem mark2_len : ∀ (xs : List (List Int)) (q : Int), (mark2 xs q).length = xs.length
  | [], _ => rfl
  | _ :: xs, q => by simp [mark2, mark2_len xs]
theorem held2_mark : ∀ (xs : List (List Int)) (q : Int), 0 ≤ q → held2 (mark2 xs q) q = q + size2 xs
  | [], q, _ => by simp [mark2, held2, size2]
  | x :: xs, q, h => by
    simp only [mark2, held2, size2]
    rw [held_mark, if_neg (by omega), held2_mark xs _ (by omega)]
    omega
end Go.Am.Pu
end

section
/- Partitions, shapes and tableaux as plain words. -/
namespace Go.Am.Pu

def within (x lo hi : Int) : Bool := decide (lo ≤ x) && decide (x ≤ hi)
/-- An element of a list, 0 outside. -/
def atI (p : List Int) (i : Int) : Int := if i < 0 then 0 else p.getD i.toNat 0
theorem atI_nat (p : List Int) (i : Nat) : atI p (i : Int) = p.getD i 0 := by simp [atI]; omega
theorem atI_neg {p : List Int} {i : Int} (h : i < 0) : atI p i = 0 := by simp [atI, h]
theorem atI_ge {p : List Int} {i : Int} (h : (p.length : Int) ≤ i) : atI p i = 0 := by
  unfold atI
  split
  · rfl
  · exact getD_ge (by omega) 0

def partGo : List Int → Int → Int → Bool
  | [], _, _ => true
  | x :: xs, prev, s => decide (1 ≤ x) && (decide (x ≤ prev) && (decide (s + x ≤ 9) && partGo xs x (s + x)))
def isPart (p : List Int) : Bool := partGo p 9 0

def sumI : List Int → Int
  | [] => 0
  | x :: xs => x + sumI xs

theorem partGo_spec : ∀ (p : List Int) (prev s : Int), partGo p prev s = true → (∀ x ∈ p, 1 ≤ x ∧ x ≤ prev) ∧ (p ≠ [] → s + sumI p ≤ 9) ∧ (p.length : Int) ≤ sumI p
  | [], prev, s, _ => ⟨fun x h => (by cases h), fun h => absurd rfl h, (by simp [sumI])⟩
  | x :: xs, prev, s, h => by
    simp only [partGo, Bool.and_eq_true, decide_eq_true_eq] at h
    obtain ⟨h1, h2, h3, h4⟩ := h
    obtain ⟨k1, k2, k3⟩ := partGo_spec xs x (s + x) h4
    refine ⟨fun y hy => ?_, fun _ => ?_, ?_⟩
    · rcases List.mem_cons.1 hy with rfl | hy
      · exact ⟨h1, h2⟩
      · have := k1 y hy; omega
    · simp only [sumI]
      by_cases e : xs = []
      · subst e; simp [sumI]; omega
      · have := k2 e; omega
    · simp only [sumI, List.length_cons]; omega

theorem isPart_spec {p : List Int} (h : isPart p = true) : (∀ x ∈ p, 1 ≤ x ∧ x ≤ 9) ∧ sumI p ≤ 9 ∧ p.length ≤ 9 ∧ (p.length : Int) ≤ sumI p := by
  obtain ⟨h1, h2, h3⟩ := partGo_spec p 9 0 h
  have : sumI p ≤ 9 := by
    by_cases e : p = []
    · subst e; simp [sumI]
    · have := h2 e; omega
  exact ⟨h1, this, by omega, h3⟩

theorem part_atI {p : List Int} (h : isPart p = true) (i : Int) : 0 ≤ atI p i ∧ atI p i ≤ 9 := by
  unfold atI
  split
  · omega
  · by_cases hl : i.toNat < p.length
    · rw [getD_lt hl]
      have := (isPart_spec h).1 _ (List.getElem_mem hl)
      omega
    · rw [getD_ge (by omega)]; omega

def isInside (q p : List Int) : Bool := isPart q && (isPart p && (decide (q.length ≤ p.length) && (List.range' 0 q.length).all fun i => decide (q.getD i 0 ≤ p.getD i 0)))

theorem inside_len {q p : List Int} (hq : isPart q = true) (h : (List.range' 0 q.length).all (fun i => decide (q.getD i 0 ≤ p.getD i 0)) = true) : q.length ≤ p.length := by
  rw [all_range] at h
  refine Nat.le_of_not_lt fun hlt => ?_
  have h1 := h p.length hlt
  rw [decide_eq_true_eq, getD_ge (Nat.le_refl _), getD_lt hlt] at h1
  have := (isPart_spec hq).1 _ (List.getElem_mem hlt)
  omega
theorem isInside_eq {q p : List Int} : isInside q p = (isPart q && (isPart p && (List.range' 0 q.length).all fun i => decide (q.getD i 0 ≤ p.getD i 0))) := by
  unfold isInside
  cases hq : isPart q with
  | false => rfl
  | true =>
    cases hp : isPart p with
    | false => rfl
    | true =>
      simp only [Bool.true_and]
      cases ha : (List.range' 0 q.length).all fun i => decide (q.getD i 0 ≤ p.getD i 0) with
      | false => simp
      | true => simp [inside_len hq ha]

/-- The row lengths behind an inner partition. -/
def outerGo (inner : List Int) : Nat → List (List Int) → List Int
  | _, [] => []
  | i, r :: rs => (inner.getD i 0 + r.length) :: outerGo inner (i + 1) rs
theorem outerGo_len (inner : List Int) : ∀ (rs : List (List Int)) (i : Nat), (outerGo inner i rs).length = rs.length
  | [], _ => rfl
  | _ :: rs, i => by simp [outerGo, outerGo_len inner rs]
theorem outerGo_get (inner : List Int) : ∀ (rs : List (List Int)) (i q : Nat), q < rs.length → (outerGo inner i rs).getD q 0 = inner.getD (i + q) 0 + (rs.getD q []).length
  | [], i, q, h => by simp at h
  | r :: rs, i, 0, _ => by simp [outerGo]
  | r :: rs, i, q + 1, h => by
    have := outerGo_get inner rs (i + 1) q (by simpa using h)
    simp only [outerGo, List.getD_cons_succ]
    rw [this]
    have e : i + 1 + q = i + (q + 1) := by omega
    rw [e]

abbrev Tab := List Int × List (List Int)
def outer (t : Tab) : List Int := outerGo t.1 0 t.2
def shapeOK (t : Tab) : Bool := isPart t.1 && (decide (t.1.length ≤ t.2.length) && isInside t.1 (outer t))
def shapeOf (t : Tab) : (List Int × List Int) × Bool := if shapeOK t = true then ((outer t, t.1), true) else (([], []), false)
theorem shapeOK_len {t : Tab} (h : shapeOK t = true) : t.2.length ≤ 9 := by
  simp only [shapeOK, isInside, Bool.and_eq_true] at h
  have := (isPart_spec h.2.2.2.1).2.2.1
  rw [outer, outerGo_len] at this
  exact this

def entry (t : Tab) (r c : Int) : Int := if r < 0 then 0 else if (t.2.length : Int) ≤ r then 0 else atI (t.2.getD r.toNat []) (c - atI t.1 r)

theorem entry_nat {t : Tab} {r : Nat} (h : r < t.2.length) (c : Int) : entry t r c = atI (t.2.getD r []) (c - t.1.getD r 0) := by
  unfold entry
  rw [if_neg (by omega), if_neg (by omega), atI_nat]
  rfl
theorem entry_neg {t : Tab} {r c : Int} (h : r < 0) : entry t r c = 0 := by unfold entry; rw [if_pos h]
theorem entry_at {t : Tab} {r q : Nat} (h : r < t.2.length) : entry t r (t.1.getD r 0 + q) = (t.2.getD r []).getD q 0 := by
  rw [entry_nat h]
  have e : t.1.getD r 0 + (q : Int) - t.1.getD r 0 = q := by omega
  rw [e, atI_nat]
theorem entry_left {t : Tab} {r q : Nat} (h : r < t.2.length) : entry t r (t.1.getD r 0 + q - 1) = if q = 0 then 0 else (t.2.getD r []).getD (q - 1) 0 := by
  rw [entry_nat h]
  by_cases e : q = 0
  · subst e
    rw [if_pos rfl, atI_neg (by omega)]
  · rw [if_neg e]
    have e : t.1.getD r 0 + (q : Int) - 1 - t.1.getD r 0 = ((q - 1 : Nat) : Int) := by omega
    rw [e, atI_nat]
def cellOK (t : Tab) (i k : Nat) : Bool := within ((t.2.getD i []).getD k 0) 1 9 && ((decide (k = 0) || decide ((t.2.getD i []).getD (k - 1) 0 ≤ (t.2.getD i []).getD k 0)) &&
  (decide (i = 0) || decide (entry t ((i : Int) - 1) (t.1.getD i 0 + k) < (t.2.getD i []).getD k 0)))
def isTab (t : Tab) : Bool := shapeOK t && (List.range' 0 t.2.length).all fun i => (List.range' 0 (t.2.getD i []).length).all fun k => cellOK t i k
def isPlain (t : Tab) : Bool := isTab t && decide (t.1.length = 0)

theorem tab_shape {t : Tab} (h : isTab t = true) : shapeOK t = true := by
  simp only [isTab, Bool.and_eq_true] at h; exact h.1

theorem sum_outer (inner : List Int) : ∀ (rs : List (List Int)) (i : Nat), (∀ q, i ≤ q → inner.getD q 0 = 0) → sumI (outerGo inner i rs) = rs.flatten.length
  | [], i, _ => rfl
  | r :: rs, i, h => by
    simp only [outerGo, sumI, List.flatten_cons, List.length_append]
    rw [sum_outer inner rs (i + 1) (fun q hq => h q (by omega)), h i (Nat.le_refl _)]
    omega

theorem plain_nine {t : Tab} (h : isPlain t = true) : t.2.flatten.length ≤ 9 := by
  simp only [isPlain, Bool.and_eq_true, decide_eq_true_eq] at h
  have hs := tab_shape h.1
  simp only [shapeOK, isInside, Bool.and_eq_true] at hs
  have h9 := (isPart_spec hs.2.2.2.1).2.1
  have : t.1 = [] := List.eq_nil_of_length_eq_zero h.2
  rw [outer, sum_outer t.1 t.2 0 (fun q _ => by rw [this]; rfl)] at h9
  omega

/-- A tableau within a law's bounds. -/
def TabOK (t : Tab) : Prop := t.1.length ≤ 1048576 ∧ t.2.length ≤ 1048576 ∧ ∀ x ∈ t.2, x.length ≤ 1048576
theorem TabOK.nil : TabOK ([], []) := ⟨by simp, by simp, fun x h => by cases h⟩
theorem flat_row : ∀ {rs : List (List Int)} {r : List Int}, r ∈ rs → r.length ≤ rs.flatten.length
  | q :: rs, r, h => by
    simp only [List.flatten_cons, List.length_append]
    rcases List.mem_cons.1 h with rfl | h
    · omega
    · have := flat_row h; omega
theorem take_set_self {α : Type} {xs : List α} {i : Nat} (h : i < xs.length) (x : α) : (xs.set i x).take (i + 1) = xs.take i ++ [x] := by
  have h' : i < (xs.set i x).length := by rw [List.length_set]; exact h
  rw [take_succ h' x, List.take_set_of_le (Nat.le_refl _), getD_lt h', List.getElem_set_self]
theorem drop_set_next {α : Type} {xs : List α} {i : Nat} (x : α) : (xs.set i x).drop (i + 1) = xs.drop (i + 1) := by
  rw [List.drop_set_of_lt (by omega)]
end Go.Am.Pu
end

section
/- Standard tableaux, weights, descents: plain words. -/
namespace Go.Am.Pu

/-- A loop that looks for the first element with p. -/
theorem loop_idx {α R : Type} (r : List α) (d : α) (p : α → Bool) (L : Nat → Nat → Option R) (hit : Nat → Option R) (miss : Option R)
    (hs : ∀ j i, i < r.length → L (j + 1) i = if p (r.getD i d) = true then hit i else L j (i + 1)) (he : ∀ j, L (j + 1) r.length = miss) :
    ∀ (m j i : Nat), i + m = r.length → m < j → i ≤ r.findIdx p → L j i = if r.findIdx p < r.length then hit (r.findIdx p) else miss
  | m, 0, i, _, hj, _ => by omega
  | 0, j + 1, i, hm, _, hi => by
    have e : i = r.length := by omega
    rw [if_neg (by omega), e, he]
  | m + 1, j + 1, i, hm, hj, hi => by
    have hlt : i < r.length := by omega
    rw [hs j i hlt]
    by_cases c : p (r.getD i d) = true
    · have e : r.findIdx p = i := Nat.le_antisymm (Nat.le_of_not_lt fun h' => by
        have := List.not_of_lt_findIdx h'
        rw [getD_lt hlt] at c
        rw [c] at this; cases this) hi
      rw [if_pos c, e, if_pos hlt]
    · rw [if_neg c]
      refine loop_idx r d p L hit miss hs he m j (i + 1) (by omega) (by omega) ?_
      refine Nat.succ_le_of_lt (Nat.lt_of_le_of_ne hi fun e => c ?_)
      have hlt' : r.findIdx p < r.length := by omega
      have := List.findIdx_getElem (p := p) (xs := r) (w := hlt')
      rw [← getD_lt hlt' d, ← e] at this
      exact this

/-- The place of the first element with p, -1 for none. -/
def idxI {α : Type} (p : α → Bool) (r : List α) : Int := if r.findIdx p < r.length then (r.findIdx p : Int) else -1
theorem idxI_any {α : Type} (p : α → Bool) (r : List α) : decide (0 ≤ idxI p r) = r.any p := by
  unfold idxI
  by_cases h : r.findIdx p < r.length
  · rw [if_pos h, List.any_eq_true.2 ⟨_, List.getElem_mem h, List.findIdx_getElem⟩]
    simp
  · rw [if_neg h]
    have : r.any p = false := by
      rw [List.any_eq_false]
      intro x hx hp
      exact h (List.findIdx_lt_length_of_exists ⟨x, hx, hp⟩)
    rw [this]; rfl

def has (l : List Int) (x : Int) : Bool := l.any fun y => decide (x = y)
theorem has_iff {l : List Int} {x : Int} : has l x = true ↔ x ∈ l := by
  simp [has, List.any_eq_true]

/-- Each number from 1 on occurs. -/
def areOnce (l : List Int) : Bool := (List.range' 0 l.length).all fun i => has l ((i : Int) + 1)

theorem len_sub : ∀ (R l : List Int), R.Nodup → (∀ x ∈ R, x ∈ l) → R.length ≤ l.length
  | [], l, _, _ => by simp
  | x :: R, l, hn, h => by
    rw [List.nodup_cons] at hn
    have hx := h x (by simp)
    have := len_sub R (l.erase x) hn.2 fun y hy => (List.mem_erase_of_ne fun (e : y = x) => hn.1 (e ▸ hy)).2 (h y (by simp [hy]))
    rw [List.length_erase_of_mem hx] at this
    have : 0 < l.length := List.length_pos_of_mem hx
    simp only [List.length_cons]
    omega

def upTo (n : Nat) : List Int := (List.range n).map fun (i : Nat) => (i : Int) + 1
theorem upTo_mem {n : Nat} {x : Int} : x ∈ upTo n ↔ 1 ≤ x ∧ x ≤ n := by
  simp only [upTo, List.mem_map, List.mem_range]
  constructor
  · rintro ⟨i, h, rfl⟩; omega
  · rintro ⟨h1, h2⟩; exact ⟨(x - 1).toNat, by omega, by omega⟩
theorem upTo_nodup (n : Nat) : (upTo n).Nodup := by
  unfold upTo
  refine List.Pairwise.map _ (fun (a b : Nat) (h : a ≠ b) => ?_) List.nodup_range
  intro e
  exact h (by omega)
theorem upTo_len (n : Nat) : (upTo n).length = n := by simp [upTo]

theorem once_iff {l : List Int} : areOnce l = true ↔ ∀ x ∈ upTo l.length, x ∈ l := by
  unfold areOnce
  rw [all_range]
  constructor
  · intro h x hx
    rw [upTo_mem] at hx
    have := h (x - 1).toNat (by omega)
    rw [has_iff] at this
    have e : (((x - 1).toNat : Nat) : Int) + 1 = x := by omega
    rw [e] at this; exact this
  · intro h i hi
    rw [has_iff]
    exact h _ (upTo_mem.2 (by omega))

/-- All occur just when none occurs twice and none is too great. -/
theorem once_nodup {l : List Int} (h1 : ∀ x ∈ l, 1 ≤ x) : areOnce l = true ↔ l.Nodup ∧ ∀ x ∈ l, x ≤ l.length := by
  rw [once_iff]
  constructor
  · intro h
    refine ⟨?_, fun x hx => ?_⟩
    · -- twice: one less would do
      refine Classical.byContradiction fun hn => ?_
      have : ∃ x, x ∈ l ∧ x ∈ l.erase x := by
        have key : ∀ l : List Int, ¬ l.Nodup → ∃ x, x ∈ l ∧ x ∈ l.erase x := by
          intro l
          induction l with
          | nil => intro h; exact absurd List.nodup_nil h
          | cons a l ih =>
            intro h
            by_cases ha : a ∈ l
            · exact ⟨a, by simp, by simpa using ha⟩
            · have : ¬ l.Nodup := fun hl => h (List.nodup_cons.2 ⟨ha, hl⟩)
              obtain ⟨x, h1, h2⟩ := ih this
              refine ⟨x, by simp [h1], ?_⟩
              have hne : a ≠ x := fun e => ha (e ▸ h1)
              rw [List.erase_cons_tail (by simpa using hne)]
              exact List.mem_cons_of_mem _ h2
        exact key l hn
      obtain ⟨x, hx, hx2⟩ := this
      have := len_sub (upTo l.length) (l.erase x) (upTo_nodup _) fun y hy => by
        by_cases e : y = x
        · rw [e]; exact hx2
        · exact (List.mem_erase_of_ne e).2 (h y hy)
      rw [upTo_len, List.length_erase_of_mem hx] at this
      have : 0 < l.length := List.length_pos_of_mem hx
      omega
    · refine Int.not_lt.1 fun hlt => ?_
      have := len_sub (upTo l.length) (l.erase x) (upTo_nodup _) fun y hy => by
        have hy' := upTo_mem.1 hy
        exact (List.mem_erase_of_ne (by omega)).2 (h y hy)
      rw [upTo_len, List.length_erase_of_mem hx] at this
      have : 0 < l.length := List.length_pos_of_mem hx
      omega
  · rintro ⟨hn, hb⟩ x hx
    refine Classical.byContradiction fun hxl => ?_
    have := len_sub (x :: l) (upTo l.length) (List.nodup_cons.2 ⟨hxl, hn⟩) fun y hy => by
      rcases List.mem_cons.1 hy with rfl | hy
      · exact hx
      · exact upTo_mem.2 ⟨h1 y hy, hb y hy⟩
    rw [upTo_len, List.length_cons] at this
    omega

/-- None is too great, none has been seen. -/
def freshGo (n : Int) : List Int → List Int → Bool
  | _, [] => true
  | seen, x :: xs => decide (x ≤ n) && (!has seen x && freshGo n (seen ++ [x]) xs)
theorem freshGo_iff (n : Int) : ∀ (xs seen : List Int), freshGo n seen xs = true ↔ (∀ x ∈ xs, x ≤ n) ∧ xs.Nodup ∧ ∀ x ∈ xs, x ∉ seen
  | [], seen => by simp [freshGo]
  | x :: xs, seen => by
    simp only [freshGo, Bool.and_eq_true, decide_eq_true_eq, freshGo_iff n xs, Bool.not_eq_true', List.nodup_cons]
    have hh : has seen x = false ↔ x ∉ seen := by rw [← has_iff]; simp
    rw [hh]
    constructor
    · rintro ⟨h1, h2, h3, h4, h5⟩
      refine ⟨fun y hy => ?_, ⟨fun hx => h5 x hx (by simp), h4⟩, fun y hy => ?_⟩
      · rcases List.mem_cons.1 hy with rfl | hy
        · exact h1
        · exact h3 y hy
      · rcases List.mem_cons.1 hy with rfl | hy
        · exact h2
        · exact fun h => h5 y hy (by simp [h])
    · rintro ⟨h1, ⟨h2, h3⟩, h4⟩
      refine ⟨h1 x (by simp), h4 x (by simp), fun y hy => h1 y (by simp [hy]), h3, fun y hy h => ?_⟩
      rcases List.mem_append.1 h with h | h
      · exact h4 y (by simp [hy]) h
      · simp only [List.mem_singleton] at h; exact h2 (h ▸ hy)

theorem once_fresh {l : List Int} (h1 : ∀ x ∈ l, 1 ≤ x) : freshGo l.length [] l = areOnce l := by
  have a := freshGo_iff l.length l []
  have b := once_nodup h1
  cases h : freshGo l.length [] l with
  | true =>
    have := a.1 h
    exact (b.2 ⟨this.2.1, this.1⟩).symm
  | false =>
    cases h' : areOnce l with
    | false => rfl
    | true =>
      have := b.1 h'
      rw [a.2 ⟨this.2, this.1, fun _ _ h => by cases h⟩] at h
      cases h

/-- The numbers of a tableau lie in 1..9, and there are at most 9. -/
theorem tab_entries {t : Tab} (h : isTab t = true) : ∀ x ∈ t.2.flatten, 1 ≤ x ∧ x ≤ 9 := by
  intro x hx
  simp only [isTab, Bool.and_eq_true] at h
  obtain ⟨r, hr, hxr⟩ := List.mem_flatten.1 hx
  obtain ⟨i, hi, e⟩ := List.mem_iff_getElem.1 hr
  obtain ⟨q, hq, e2⟩ := List.mem_iff_getElem.1 hxr
  have h1 := all_range.1 h.2 i hi
  rw [getD_lt hi, e] at h1
  have h2 := all_range.1 h1 q hq
  simp only [cellOK, within, Bool.and_eq_true, decide_eq_true_eq] at h2
  rw [getD_lt hi, e, getD_lt hq, e2] at h2
  exact h2.1
theorem sum_outer_ge (inner : List Int) (h : ∀ q, 0 ≤ inner.getD q 0) : ∀ (rs : List (List Int)) (i : Nat), (rs.flatten.length : Int) ≤ sumI (outerGo inner i rs)
  | [], i => by simp [outerGo, sumI]
  | r :: rs, i => by
    have := sum_outer_ge inner h rs (i + 1)
    have := h i
    simp only [outerGo, sumI, List.flatten_cons, List.length_append]
    omega
theorem tab_nine {t : Tab} (h : isTab t = true) : t.2.flatten.length ≤ 9 := by
  have hs := tab_shape h
  simp only [shapeOK, isInside, Bool.and_eq_true] at hs
  have h9 := (isPart_spec hs.2.2.2.1).2.1
  have := sum_outer_ge t.1 (fun q => by
    have := (part_atI hs.1 q).1
    rw [atI_nat] at this; exact this) t.2 0
  unfold outer at h9
  omega

def isStd (t : Tab) : Bool := isTab t && areOnce t.2.flatten
/-- The row of a number, -1 for none. -/
def rowOf (t : Tab) (n : Int) : Int := idxI (fun r => has r n) t.2
end Go.Am.Pu
end

section
/- Plain laws of draws, and of boxes. -/
namespace Go.Am.Pu
open Go Go.Am
attribute [local instance] D.real

/-- A box put to a row. -/
def addBox (p : List Int) (r : Int) : List Int × Bool :=
  if isPart p = true ∧ 0 ≤ r ∧ r ≤ p.length then
    (let q := if r = p.length then p ++ [0] else p
     let o := q.set r.toNat (q.getD r.toNat 0 + 1)
     if isPart o = true then (o, true) else ([], false))
  else ([], false)
end Go.Am.Pu
end

section
/- Steps over equations: what a word comes to, told by what must hold of it. -/
namespace Go.Am.Pu
open Go Go.Am
attribute [local instance] D.real
section
variable {α β : Type}
/-- It comes to something of which Q holds. -/
def Ok (x : Option α) (Q : α → Prop) : Prop := ∃ y, x = some y ∧ Q y
theorem Ok.ret {y : α} {Q : α → Prop} (h : Q y) : Ok (some y) Q := ⟨y, rfl, h⟩
theorem Ok.mono {x : Option α} {P Q : α → Prop} (h : Ok x P) (g : ∀ y, P y → Q y) : Ok x Q :=
  let ⟨y, e, hp⟩ := h
  ⟨y, e, g y hp⟩
theorem Ok.bnd {x : Option α} {f : α → Option β} {P : α → Prop} {Q : β → Prop} (h : Ok x P) (g : ∀ y, P y → Ok (f y) Q) : Ok (D.bnd x f) Q := by
  obtain ⟨y, e, hp⟩ := h
  rw [e]
  exact g y hp
theorem Ok.bndE {x : Option α} {y : α} {f : α → Option β} {Q : β → Prop} (h : x = some y) (g : Ok (f y) Q) : Ok (D.bnd x f) Q := by
  rw [h]
  exact g
theorem Ok.t {p : Prop} [Decidable p] {x y : Option α} {Q : α → Prop} (h1 : p → Ok x Q) (h2 : ¬ p → Ok y Q) : Ok (D.test (decide p) x y) Q := by
  show Ok (if decide p = true then x else y) Q
  by_cases h : p
  · rw [if_pos (decide_eq_true h)]; exact h1 h
  · rw [if_neg (by rw [decide_eq_false h]; simp)]; exact h2 h
theorem Ok.tb {b : Bool} {x y : Option α} {Q : α → Prop} (h1 : b = true → Ok x Q) (h2 : b = false → Ok y Q) : Ok (D.test b x y) Q := by
  cases b
  · exact h2 rfl
  · exact h1 rfl
theorem Ok.tn {b : Bool} {x y : Option α} {Q : α → Prop} (h1 : b = false → Ok x Q) (h2 : b = true → Ok y Q) : Ok (D.test (!b) x y) Q := by
  cases b
  · exact h1 rfl
  · exact h2 rfl
/-- A test that must hold. -/
theorem Ok.g {p : Prop} [Decidable p] {x y : Option α} {Q : α → Prop} (h : p) (g : Ok x Q) : Ok (D.test (decide p) x y) Q := Ok.t (fun _ => g) (fun h' => absurd h h')
theorem Ok.no {p : Prop} [Decidable p] {x y : Option α} {Q : α → Prop} (h : ¬ p) (g : Ok y Q) : Ok (D.test (decide p) x y) Q := Ok.t (fun h' => absurd h' h) (fun _ => g)
theorem Ok.some {x : Option α} {Q : α → Prop} (h : Ok x Q) : ∃ y, x = Option.some y := let ⟨y, e, _⟩ := h; ⟨y, e⟩
end
/-- Rows that are no longer than that. -/
def RowsLe (n m : Nat) (rs : List (List Int)) : Prop := rs.length ≤ n ∧ ∀ r ∈ rs, r.length ≤ m
theorem RowsLe.at {n m : Nat} {rs : List (List Int)} (h : RowsLe n m rs) (i : Nat) : (rs.getD i []).length ≤ m := by
  by_cases hi : i < rs.length
  · rw [getD_lt hi]; exact h.2 _ (List.getElem_mem hi)
  · rw [getD_ge (by omega)]; simp
theorem RowsLe.set {n m : Nat} {rs : List (List Int)} (h : RowsLe n m rs) (i : Nat) {r : List Int} (hr : r.length ≤ m) : RowsLe n m (rs.set i r) := by
  refine ⟨by rw [List.length_set]; exact h.1, fun x hx => ?_⟩
  rcases List.mem_or_eq_of_mem_set hx with h' | rfl
  · exact h.2 x h'
  · exact hr
theorem RowsLe.mono {n m n' m' : Nat} {rs : List (List Int)} (h : RowsLe n m rs) (hn : n ≤ n') (hm : m ≤ m') : RowsLe n' m' rs :=
  ⟨Nat.le_trans h.1 hn, fun x hx => Nat.le_trans (h.2 x hx) hm⟩
theorem RowsLe.app {n m : Nat} {rs : List (List Int)} (h : RowsLe n m rs) {r : List Int} (hr : r.length ≤ m) : RowsLe (n + 1) m (rs ++ [r]) := by
  refine ⟨by rw [List.length_append]; simp; exact h.1, fun x hx => ?_⟩
  rcases List.mem_append.1 hx with h' | h'
  · exact h.2 x h'
  · simp only [List.mem_singleton] at h'; subst h'; exact hr
theorem addBox_len (p : List Int) (r : Int) : (addBox p r).1.length ≤ p.length + 1 := by
  unfold addBox
  split
  · simp only
    generalize hq : (if r = (p.length : Int) then p ++ [0] else p) = q
    have hl : q.length ≤ p.length + 1 := by
      rw [← hq]
      split
      · simp
      · omega
    split
    · rw [List.length_set]; exact hl
    · simp
  · simp
end Go.Am.Pu
end

section
/- Corners; a number taken out of rows. Plain words. -/
namespace Go.Am.Pu

theorem part_mono : ∀ {p : List Int} {prev s : Int}, partGo p prev s = true → ∀ i, i + 1 < p.length → p.getD (i + 1) 0 ≤ p.getD i 0
  | [], _, _, _, i, h => by simp at h
  | [x], _, _, _, i, h => by simp at h
  | x :: y :: xs, prev, s, hp, i, h => by
    simp only [partGo, Bool.and_eq_true, decide_eq_true_eq] at hp
    cases i with
    | zero => simpa using hp.2.2.2.2.1
    | succ i =>
      have h2 : partGo (y :: xs) x (s + x) = true := by
        simp only [partGo, Bool.and_eq_true, decide_eq_true_eq]
        exact hp.2.2.2
      have := part_mono h2 i (by simpa using h)
      simpa using this

theorem getD_set_ne {α : Type} {xs : List α} {i j : Nat} (h : j ≠ i) (x d : α) : (xs.set j x).getD i d = xs.getD i d := by
  simp only [List.getD_eq_getElem?_getD, List.getElem?_set]
  rw [if_neg h]

/-- What a plain tableau is. -/
theorem plain_inner {t : Tab} (h : isPlain t = true) : t.1 = [] := by
  simp only [isPlain, Bool.and_eq_true, decide_eq_true_eq] at h
  exact List.eq_nil_of_length_eq_zero h.2
theorem plain_outer {t : Tab} (h : isPlain t = true) {i : Nat} (hi : i < t.2.length) : (outer t).getD i 0 = (t.2.getD i []).length := by
  have e := outerGo_get t.1 t.2 0 i hi
  rw [plain_inner h] at e
  unfold outer
  rw [plain_inner h, e]
  simp
theorem plain_part {t : Tab} (h : isPlain t = true) : isPart (outer t) = true := by
  simp only [isPlain, Bool.and_eq_true] at h
  have hs := tab_shape h.1
  simp only [shapeOK, isInside, Bool.and_eq_true] at hs
  exact hs.2.2.2.1
theorem outer_len (t : Tab) : (outer t).length = t.2.length := by unfold outer; rw [outerGo_len]
theorem plain_rows {t : Tab} (h : isPlain t = true) : RowsLe 9 9 t.2 := by
  have h9 := plain_nine h
  have hl := (isPart_spec (plain_part h)).2.2.1
  rw [outer_len] at hl
  exact ⟨hl, fun r hr => by have := flat_row hr; omega⟩
theorem plain_cols {t : Tab} (h : isPlain t = true) : ∀ i, i + 1 < t.2.length → (t.2.getD (i + 1) []).length ≤ (t.2.getD i []).length ∧ ∀ q, q < (t.2.getD (i + 1) []).length → (t.2.getD i []).getD q 0 < (t.2.getD (i + 1) []).getD q 0 := by
  intro i hi
  have hm := part_mono (show partGo (outer t) 9 0 = true from plain_part h) i (by rw [outer_len]; exact hi)
  rw [plain_outer h hi, plain_outer h (by omega)] at hm
  have hl : (t.2.getD (i + 1) []).length ≤ (t.2.getD i []).length := by omega
  refine ⟨hl, fun q hq => ?_⟩
  have ht := h
  simp only [isPlain, Bool.and_eq_true] at ht
  have ht := ht.1
  simp only [isTab, Bool.and_eq_true] at ht
  have h1 := all_range.1 (all_range.1 ht.2 (i + 1) hi) q hq
  simp only [cellOK, Bool.and_eq_true, Bool.or_eq_true, decide_eq_true_eq] at h1
  have h2 := h1.2.2.resolve_left (by omega)
  rw [plain_inner h] at h2
  have e : ((i + 1 : Nat) : Int) - 1 = (i : Int) := by omega
  have e2 : ([] : List Int).getD (i + 1) 0 + (q : Int) = ([] : List Int).getD i 0 + (q : Int) := by simp
  rw [e, e2] at h2
  have ee : entry t (i : Int) (([] : List Int).getD i 0 + (q : Int)) = (t.2.getD i []).getD q 0 := by
    have := entry_at (t := t) (r := i) (q := q) (by omega)
    rw [plain_inner h] at this
    exact this
  rw [ee] at h2
  exact h2
end Go.Am.Pu
end

section
/- Rows with noughts in front; a box taken from a partition. Plain words. -/
namespace Go.Am.Pu

/-- A number of rows, 0 where there is none. -/
def cellI (a : List (List Int)) (i c : Int) : Int := if i < 0 then 0 else atI (a.getD i.toNat []) c
theorem cellI_nat (a : List (List Int)) (i j : Nat) : cellI a i j = (a.getD i []).getD j 0 := by
  unfold cellI
  rw [if_neg (by omega), atI_nat, Int.toNat_natCast]
theorem cellI_neg {a : List (List Int)} {i c : Int} (h : i < 0) : cellI a i c = 0 := by unfold cellI; rw [if_pos h]
theorem cellI_ge {a : List (List Int)} {i c : Int} (h : (a.length : Int) ≤ i) : cellI a i c = 0 := by
  unfold cellI
  rw [if_neg (by omega), getD_ge (by omega)]
  unfold atI
  split <;> simp

/-- A tableau's rows, with noughts for the inner partition's cells. -/
def gridOf (t : Tab) : List (List Int) := (List.range' 0 t.2.length).map fun i => List.replicate (t.1.getD i 0).toNat 0 ++ t.2.getD i []
theorem grid_len (t : Tab) : (gridOf t).length = t.2.length := by simp [gridOf]
theorem grid_get {t : Tab} {i : Nat} (h : i < t.2.length) : (gridOf t).getD i [] = List.replicate (t.1.getD i 0).toNat 0 ++ t.2.getD i [] := by
  rw [getD_lt (by rw [grid_len]; exact h)]
  simp [gridOf]

/-- The box at a row's end is taken out. -/
def dropBox (p : List Int) (n : Nat) : List Int := if p.getD n 0 - 1 = 0 then p.take n else p.set n (p.getD n 0 - 1)
theorem dropBox_len (p : List Int) (n : Nat) : (dropBox p n).length ≤ p.length := by
  unfold dropBox
  split
  · rw [List.length_take]; omega
  · rw [List.length_set]; exact Nat.le_refl _
end Go.Am.Pu
end

section
/- A slide: the hole goes right or down until nothing is there. Plain words. -/
namespace Go.Am.Pu

/-- A number of rows. -/
def cel (g : List (List Int)) (r c : Nat) : Int := (g.getD r []).getD c 0
def setc (g : List (List Int)) (r c : Nat) (v : Int) : List (List Int) := g.set r ((g.getD r []).set c v)
def slideGo : Nat → List (List Int) → Nat → Nat → List (List Int) × (Nat × Nat)
  | 0, g, i, c => (g, (i, c))
  | m + 1, g, i, c => if cel g i (c + 1) = 0 ∧ cel g (i + 1) c = 0 then (g, (i, c))
    else if cel g i (c + 1) = 0 ∨ (0 < cel g (i + 1) c ∧ cel g (i + 1) c ≤ cel g i (c + 1)) then slideGo m (setc g i c (cel g (i + 1) c)) (i + 1) c
    else slideGo m (setc g i c (cel g i (c + 1))) i (c + 1)

theorem cel_in {g : List (List Int)} {r c : Nat} (h : cel g r c ≠ 0) : r < g.length ∧ c < (g.getD r []).length := by
  unfold cel at h
  by_cases h1 : r < g.length
  · refine ⟨h1, ?_⟩
    by_cases h2 : c < (g.getD r []).length
    · exact h2
    · exact absurd (getD_ge (by omega) 0) h
  · rw [getD_ge (xs := g) (by omega)] at h
    simp at h
theorem setc_len (g : List (List Int)) (r c : Nat) (v : Int) : (setc g r c v).length = g.length := by unfold setc; rw [List.length_set]
theorem setc_row (g : List (List Int)) (r c : Nat) (v : Int) (q : Nat) : ((setc g r c v).getD q []).length = (g.getD q []).length := by
  unfold setc
  by_cases e : q = r
  · subst e
    by_cases h : q < g.length
    · rw [getD_lt (by rw [List.length_set]; exact h), List.getElem_set_self, List.length_set]
    · rw [getD_ge (by rw [List.length_set]; omega), getD_ge (by omega)]
  · rw [getD_set_ne (Ne.symm e)]
theorem setc_at {g : List (List Int)} {r c : Nat} (v : Int) (h1 : r < g.length) (h2 : c < (g.getD r []).length) : cel (setc g r c v) r c = v := by
  unfold cel setc
  rw [getD_lt (xs := g.set r _) (by rw [List.length_set]; exact h1), List.getElem_set_self, getD_lt (by rw [List.length_set]; exact h2), List.getElem_set_self]
theorem setc_ne {g : List (List Int)} {r c q x : Nat} (v : Int) (h : ¬ (q = r ∧ x = c)) : cel (setc g r c v) q x = cel g q x := by
  unfold cel setc
  by_cases e : q = r
  · subst e
    have hx : x ≠ c := fun e => h ⟨rfl, e⟩
    by_cases hl : q < g.length
    · rw [getD_lt (xs := g.set q _) (by rw [List.length_set]; exact hl), List.getElem_set_self, getD_set_ne (Ne.symm hx)]
    · rw [getD_ge (xs := g.set q _) (by rw [List.length_set]; omega), getD_ge (xs := g) (by omega)]
  · rw [getD_set_ne (Ne.symm e)]

/-- What holds on a slide: q is the inner partition after it, l the rows' lengths; all cells but the hole hold numbers that rise. -/
structure Sl (q : List Int) (g : List (List Int)) (i c : Nat) : Prop where
  q0 : ∀ r, 0 ≤ q.getD r 0
  qm : ∀ r, q.getD (r + 1) 0 ≤ q.getD r 0
  lm : ∀ r, (g.getD (r + 1) []).length ≤ (g.getD r []).length
  hi : i < g.length
  hc : c < (g.getD i []).length
  hq : q.getD i 0 ≤ c
  pos : ∀ r x, 0 ≤ cel g r x
  num : ∀ r x : Nat, q.getD r 0 ≤ x → x < (g.getD r []).length → ¬ (r = i ∧ x = c) → 1 ≤ cel g r x ∧ cel g r x ≤ 9
  row : ∀ r x : Nat, q.getD r 0 ≤ x → x + 1 < (g.getD r []).length → ¬ (r = i ∧ x = c) → ¬ (r = i ∧ x + 1 = c) → cel g r x ≤ cel g r (x + 1)
  col : ∀ r x : Nat, q.getD r 0 ≤ x → x < (g.getD (r + 1) []).length → ¬ (r = i ∧ x = c) → ¬ (r + 1 = i ∧ x = c) → cel g r x < cel g (r + 1) x
  rowH : ∀ x : Nat, x + 1 = c → q.getD i 0 ≤ x → c + 1 < (g.getD i []).length → cel g i x ≤ cel g i (c + 1)
  colH : ∀ r : Nat, r + 1 = i → q.getD r 0 ≤ c → c < (g.getD (i + 1) []).length → cel g r c < cel g (i + 1) c

/-- The hole goes down. -/
theorem Sl.down {q : List Int} {g : List (List Int)} {i c : Nat} (h : Sl q g i c) (hb : cel g (i + 1) c ≠ 0) (hr : cel g i (c + 1) = 0 ∨ (0 < cel g (i + 1) c ∧ cel g (i + 1) c ≤ cel g i (c + 1))) :
    Sl q (setc g i c (cel g (i + 1) c)) (i + 1) c := by
  obtain ⟨b1, b2⟩ := cel_in hb
  have hqm := h.qm i
  have hq := h.hq
  have hbn := h.num (i + 1) c (by omega) b2 (by omega)
  have e0 := setc_at (cel g (i + 1) c) h.hi h.hc
  have en : ∀ r x, ¬ (r = i ∧ x = c) → cel (setc g i c (cel g (i + 1) c)) r x = cel g r x := fun r x hh => setc_ne _ hh
  refine ⟨h.q0, h.qm, fun r => ?_, ?_, ?_, by omega, fun r x => ?_, fun r x h1 h2 h3 => ?_, fun r x h1 h2 h3 h4 => ?_, fun r x h1 h2 h3 h4 => ?_, fun x h1 h2 h3 => ?_, fun r h1 h2 h3 => ?_⟩
  · rw [setc_row, setc_row]; exact h.lm r
  · rw [setc_len]; exact b1
  · rw [setc_row]; exact b2
  · by_cases e : r = i ∧ x = c
    · rw [e.1, e.2, e0]; exact h.pos _ _
    · rw [en r x e]; exact h.pos _ _
  · rw [setc_row] at h2
    by_cases e : r = i ∧ x = c
    · rw [e.1, e.2, e0]; exact hbn
    · rw [en r x e]; exact h.num r x h1 h2 e
  · rw [setc_row] at h2
    by_cases e : r = i ∧ x = c
    · obtain ⟨rfl, rfl⟩ := e
      rw [e0, en _ _ (by omega)]
      rcases hr with hr | hr
      · have := (h.num r (x + 1) (by omega) h2 (by omega)).1
        omega
      · exact hr.2
    · rw [en r x e]
      by_cases e' : r = i ∧ x + 1 = c
      · obtain ⟨rfl, rfl⟩ := e'
        rw [e0]
        -- the left one lies over the one left of what came up
        have hl := h.lm r
        have h5 := h.col r x h1 (by omega) (by omega) (by omega)
        have h6 := h.row (r + 1) x (by omega) (by omega) (by omega) (by omega)
        omega
      · rw [en r (x + 1) e']; exact h.row r x h1 h2 e e'
  · rw [setc_row] at h2
    by_cases e : r = i ∧ x = c
    · exact (h4 ⟨by omega, e.2⟩).elim
    · rw [en r x e]
      by_cases e' : r + 1 = i ∧ x = c
      · obtain ⟨rfl, rfl⟩ := e'
        rw [e0]
        exact h.colH r rfl h1 b2
      · rw [en (r + 1) x e']
        exact h.col r x h1 h2 e e'
  · rw [setc_row] at h3
    rw [en _ _ (by omega), en _ _ (by omega)]
    have h5 := h.row (i + 1) x h2 (by omega) (by omega) (by omega)
    have h6 := h.row (i + 1) c (by omega) h3 (by omega) (by omega)
    subst h1
    omega
  · rw [setc_row] at h3
    have : r = i := by omega
    subst this
    rw [e0, en _ _ (by omega)]
    exact h.col (r + 1) c (by omega) h3 (by omega) (by omega)

/-- The hole goes right. -/
theorem Sl.right {q : List Int} {g : List (List Int)} {i c : Nat} (h : Sl q g i c) (hr : cel g i (c + 1) ≠ 0) (hb : ¬ (0 < cel g (i + 1) c ∧ cel g (i + 1) c ≤ cel g i (c + 1))) :
    Sl q (setc g i c (cel g i (c + 1))) i (c + 1) := by
  obtain ⟨b1, b2⟩ := cel_in hr
  have hq := h.hq
  have hrn := h.num i (c + 1) (by omega) b2 (by omega)
  have e0 := setc_at (cel g i (c + 1)) h.hi h.hc
  have en : ∀ r x, ¬ (r = i ∧ x = c) → cel (setc g i c (cel g i (c + 1))) r x = cel g r x := fun r x hh => setc_ne _ hh
  refine ⟨h.q0, h.qm, fun r => ?_, ?_, ?_, by omega, fun r x => ?_, fun r x h1 h2 h3 => ?_, fun r x h1 h2 h3 h4 => ?_, fun r x h1 h2 h3 h4 => ?_, fun x h1 h2 h3 => ?_, fun r h1 h2 h3 => ?_⟩
  · rw [setc_row, setc_row]; exact h.lm r
  · rw [setc_len]; exact b1
  · rw [setc_row]; exact b2
  · by_cases e : r = i ∧ x = c
    · rw [e.1, e.2, e0]; exact h.pos _ _
    · rw [en r x e]; exact h.pos _ _
  · rw [setc_row] at h2
    by_cases e : r = i ∧ x = c
    · rw [e.1, e.2, e0]; exact hrn
    · rw [en r x e]; exact h.num r x h1 h2 e
  · rw [setc_row] at h2
    by_cases e : r = i ∧ x = c
    · exact (h4 ⟨e.1, by omega⟩).elim
    · rw [en r x e]
      by_cases e' : r = i ∧ x + 1 = c
      · obtain ⟨rfl, rfl⟩ := e'
        rw [e0]
        exact h.rowH x rfl h1 b2
      · rw [en r (x + 1) e']; exact h.row r x h1 h2 e e'
  · rw [setc_row] at h2
    by_cases e : r = i ∧ x = c
    · obtain ⟨rfl, rfl⟩ := e
      rw [e0, en _ _ (by omega)]
      have hqm := h.qm r
      have h5 := (h.num (r + 1) x (by omega) h2 (by omega)).1
      omega
    · rw [en r x e]
      by_cases e' : r + 1 = i ∧ x = c
      · obtain ⟨rfl, rfl⟩ := e'
        rw [e0]
        have hl := h.lm r
        have h5 := h.row r x h1 (by omega) (by omega) (by omega)
        have h6 := h.col r (x + 1) (by omega) b2 (by omega) (by omega)
        omega
      · rw [en (r + 1) x e']
        exact h.col r x h1 h2 e e'
  · rw [setc_row] at h3
    have : x = c := by omega
    subst this
    rw [e0, en _ _ (by omega)]
    exact h.row i (x + 1) (by omega) h3 (by omega) (by omega)
  · rw [setc_row] at h3
    rw [en _ _ (by omega), en _ _ (by omega)]
    subst h1
    have h5 := h.col r (c + 1) h2 (by omega) (by omega) (by omega)
    have h6 := h.col (r + 1) (c + 1) (by omega) h3 (by omega) (by omega)
    omega
end Go.Am.Pu
end

section
/- A slide's end and its start. Plain words. -/
namespace Go.Am.Pu

theorem slideGo_ok {q : List Int} {w : Nat} : ∀ (m : Nat) (g : List (List Int)) (i c : Nat), Sl q g i c → (∀ r, (g.getD r []).length ≤ w) → g.length + w ≤ i + c + m →
    Sl q (slideGo m g i c).1 (slideGo m g i c).2.1 (slideGo m g i c).2.2 ∧ (slideGo m g i c).1.length = g.length ∧ (∀ r, ((slideGo m g i c).1.getD r []).length = (g.getD r []).length) ∧
      cel (slideGo m g i c).1 (slideGo m g i c).2.1 ((slideGo m g i c).2.2 + 1) = 0 ∧ cel (slideGo m g i c).1 ((slideGo m g i c).2.1 + 1) (slideGo m g i c).2.2 = 0
  | 0, g, i, c, h, hw, hm => by
    have h1 := h.hi
    have h2 := h.hc
    have h3 := hw i
    omega
  | m + 1, g, i, c, h, hw, hm => by
    unfold slideGo
    by_cases c1 : cel g i (c + 1) = 0 ∧ cel g (i + 1) c = 0
    · rw [if_pos c1]
      exact ⟨h, rfl, fun _ => rfl, c1.1, c1.2⟩
    · rw [if_neg c1]
      by_cases c2 : cel g i (c + 1) = 0 ∨ (0 < cel g (i + 1) c ∧ cel g (i + 1) c ≤ cel g i (c + 1))
      · rw [if_pos c2]
        have hd := h.down (by
          intro e
          rcases c2 with c2 | c2
          · exact c1 ⟨c2, e⟩
          · omega) c2
        obtain ⟨a1, a2, a3, a4, a5⟩ := slideGo_ok (q := q) (w := w) m _ _ _ hd (fun r => by rw [setc_row]; exact hw r) (by rw [setc_len]; omega)
        exact ⟨a1, by rw [a2, setc_len], fun r => by rw [a3, setc_row], a4, a5⟩
      · rw [if_neg c2]
        have hd := h.right (fun e => c2 (.inl e)) (fun e => c2 (.inr e))
        obtain ⟨a1, a2, a3, a4, a5⟩ := slideGo_ok (q := q) (w := w) m _ _ _ hd (fun r => by rw [setc_row]; exact hw r) (by rw [setc_len]; omega)
        exact ⟨a1, by rw [a2, setc_len], fun r => by rw [a3, setc_row], a4, a5⟩

/-- Nothing right of the hole: it is its row's end. -/
theorem Sl.endRow {q : List Int} {g : List (List Int)} {i c : Nat} (h : Sl q g i c) (hr : cel g i (c + 1) = 0) : (g.getD i []).length = c + 1 := by
  have h1 := h.hc
  have h2 := h.hq
  refine Nat.le_antisymm (Nat.le_of_not_lt fun hlt => ?_) h1
  have := (h.num i (c + 1) (by omega) hlt (by omega)).1
  omega
/-- Nothing below the hole: the next row is shorter. -/
theorem Sl.endCol {q : List Int} {g : List (List Int)} {i c : Nat} (h : Sl q g i c) (hb : cel g (i + 1) c = 0) : (g.getD (i + 1) []).length ≤ c := by
  have h2 := h.hq
  have h3 := h.qm i
  refine Nat.le_of_not_lt fun hlt => ?_
  have := (h.num (i + 1) c (by omega) hlt (by omega)).1
  omega

theorem part_mono' {p : List Int} (hp : isPart p = true) (r : Nat) : p.getD (r + 1) 0 ≤ p.getD r 0 := by
  by_cases h : r + 1 < p.length
  · exact part_mono hp r h
  · rw [getD_ge (by omega)]
    have := (part_atI hp r).1
    rw [atI_nat] at this
    exact this
theorem drop_get {p : List Int} {n : Nat} (hp : isPart p = true) (hn : n < p.length) (hc : p.getD (n + 1) 0 < p.getD n 0) (r : Nat) : (dropBox p n).getD r 0 = if r = n then p.getD n 0 - 1 else p.getD r 0 := by
  unfold dropBox
  by_cases h : p.getD n 0 - 1 = 0
  · rw [if_pos h]
    have h0 := (part_atI hp (n + 1 : Nat)).1
    rw [atI_nat] at h0
    -- the last row
    have hl : p.length ≤ n + 1 := by
      refine Nat.le_of_not_lt fun hlt => ?_
      have := (isPart_spec hp).1 _ (List.getElem_mem hlt)
      rw [← getD_lt hlt 0] at this
      omega
    by_cases e : r = n
    · subst e
      rw [if_pos rfl, h, getD_ge (by rw [List.length_take]; omega)]
    · rw [if_neg e]
      by_cases e2 : r < n
      · rw [getD_lt (by rw [List.length_take]; omega), List.getElem_take, getD_lt (by omega)]
      · rw [getD_ge (by rw [List.length_take]; omega), getD_ge (by omega)]
  · rw [if_neg h]
    by_cases e : r = n
    · subst e
      rw [if_pos rfl, getD_lt (by rw [List.length_set]; exact hn), List.getElem_set_self]
    · rw [if_neg e, getD_set_ne (Ne.symm e)]

theorem grid_row {t : Tab} {r : Nat} (h : r < t.2.length) : ((gridOf t).getD r []).length = (t.1.getD r 0).toNat + (t.2.getD r []).length := by
  rw [grid_get h]; simp
theorem grid_cel {t : Tab} {r : Nat} (h : r < t.2.length) (x : Nat) : cel (gridOf t) r x = if x < (t.1.getD r 0).toNat then 0 else (t.2.getD r []).getD (x - (t.1.getD r 0).toNat) 0 := by
  unfold cel
  rw [grid_get h]
  generalize (t.1.getD r 0).toNat = n
  generalize t.2.getD r [] = y
  by_cases c : x < n
  · rw [if_pos c]
    simp only [List.getD_eq_getElem?_getD]
    rw [List.getElem?_append_left (by rw [List.length_replicate]; exact c), List.getElem?_replicate, if_pos c]
    rfl
  · rw [if_neg c]
    simp only [List.getD_eq_getElem?_getD]
    rw [List.getElem?_append_right (by rw [List.length_replicate]; omega), List.length_replicate]
theorem grid_ge {t : Tab} {r : Nat} (h : t.2.length ≤ r) : (gridOf t).getD r [] = [] := getD_ge (by rw [grid_len]; exact h) []

/-- What a tableau is, cell by cell. -/
structure TabP (t : Tab) : Prop where
  q0 : ∀ r, 0 ≤ t.1.getD r 0
  qm : ∀ r, t.1.getD (r + 1) 0 ≤ t.1.getD r 0
  lm : ∀ r, ((gridOf t).getD (r + 1) []).length ≤ ((gridOf t).getD r []).length
  num : ∀ r x : Nat, t.1.getD r 0 ≤ x → x < ((gridOf t).getD r []).length → 1 ≤ cel (gridOf t) r x ∧ cel (gridOf t) r x ≤ 9
  row : ∀ r x : Nat, t.1.getD r 0 ≤ x → x + 1 < ((gridOf t).getD r []).length → cel (gridOf t) r x ≤ cel (gridOf t) r (x + 1)
  col : ∀ r x : Nat, t.1.getD r 0 ≤ x → x < ((gridOf t).getD (r + 1) []).length → cel (gridOf t) r x < cel (gridOf t) (r + 1) x
end Go.Am.Pu
end

section
/- A tableau cell by cell; a slide's start. Plain words. -/
namespace Go.Am.Pu

theorem tab_parts {t : Tab} (h : isTab t = true) : isPart t.1 = true ∧ isPart (outer t) = true ∧ t.1.length ≤ t.2.length ∧ (∀ i k, i < t.2.length → k < (t.2.getD i []).length → cellOK t i k = true) := by
  simp only [isTab, shapeOK, isInside, Bool.and_eq_true, decide_eq_true_eq] at h
  obtain ⟨⟨h1, h2, h3, h4, h5⟩, h6⟩ := h
  refine ⟨h1, h4, h2, fun i k hi hk => ?_⟩
  rw [all_range] at h6
  have := h6 i hi
  rw [all_range] at this
  exact this k hk
theorem grid_out {t : Tab} (h : isPart t.1 = true) (r : Nat) : (((gridOf t).getD r []).length : Int) = (outer t).getD r 0 := by
  have h0 := (part_atI h r).1
  rw [atI_nat] at h0
  by_cases hr : r < t.2.length
  · rw [grid_row hr]
    have := outerGo_get t.1 t.2 0 r hr
    rw [Nat.zero_add] at this
    unfold outer
    rw [this]
    omega
  · rw [grid_ge (by omega), getD_ge (by rw [outer_len]; omega)]
    rfl
theorem grid_in {t : Tab} {r x : Nat} (h : x < ((gridOf t).getD r []).length) : r < t.2.length := by
  refine Nat.lt_of_not_le fun hle => ?_
  rw [grid_ge hle] at h
  simp at h

theorem tabP {t : Tab} (h : isTab t = true) : TabP t := by
  obtain ⟨hp, ho, hl, hc⟩ := tab_parts h
  have q0 : ∀ r, 0 ≤ t.1.getD r 0 := fun r => by
    have := (part_atI hp r).1
    rw [atI_nat] at this
    exact this
  -- a cell of the grid is one of the rows
  have at_ : ∀ r x : Nat, t.1.getD r 0 ≤ x → x < ((gridOf t).getD r []).length → ∃ k : Nat, (x : Int) = t.1.getD r 0 + k ∧ k < (t.2.getD r []).length ∧ cel (gridOf t) r x = (t.2.getD r []).getD k 0 := by
    intro r x h1 h2
    have hr := grid_in h2
    rw [grid_row hr] at h2
    have := q0 r
    refine ⟨x - (t.1.getD r 0).toNat, by omega, by omega, ?_⟩
    rw [grid_cel hr, if_neg (by omega)]
  refine ⟨q0, part_mono' hp, fun r => ?_, fun r x h1 h2 => ?_, fun r x h1 h2 => ?_, fun r x h1 h2 => ?_⟩
  · have a := grid_out hp r
    have b := grid_out hp (r + 1)
    have c := part_mono' ho r
    omega
  · obtain ⟨k, e1, e2, e3⟩ := at_ r x h1 h2
    have := hc r k (grid_in h2) e2
    simp only [cellOK, within, Bool.and_eq_true, decide_eq_true_eq] at this
    rw [e3]
    exact this.1
  · obtain ⟨k, e1, e2, e3⟩ := at_ r x h1 (by omega)
    obtain ⟨k', e1', e2', e3'⟩ := at_ r (x + 1) (by omega) h2
    have : k' = k + 1 := by omega
    subst this
    have := hc r (k + 1) (grid_in h2) e2'
    simp only [cellOK, Bool.and_eq_true, Bool.or_eq_true, decide_eq_true_eq] at this
    rw [e3, e3']
    rcases this.2.1 with h | h
    · omega
    · simpa using h
  · have hm := part_mono' hp r
    have a := grid_out hp r
    have b := grid_out hp (r + 1)
    have c := part_mono' ho r
    obtain ⟨k, e1, e2, e3⟩ := at_ r x h1 (by omega)
    obtain ⟨k', e1', e2', e3'⟩ := at_ (r + 1) x (by omega) h2
    have := hc (r + 1) k' (grid_in h2) e2'
    simp only [cellOK, Bool.and_eq_true, Bool.or_eq_true, decide_eq_true_eq] at this
    rw [e3, e3']
    rcases this.2.2 with h | h
    · omega
    · have hr : r < t.2.length := by have := grid_in h2; omega
      have er : ((r + 1 : Nat) : Int) - 1 = (r : Int) := by omega
      rw [er, entry_nat hr, show t.1.getD (r + 1) 0 + (k' : Int) - t.1.getD r 0 = (k : Int) by omega, atI_nat] at h
      exact h

/-- A slide's start: the hole is the inner partition's box. -/
theorem sl_start {t : Tab} (h : isTab t = true) {n : Nat} (hn : n < t.1.length) (hc : t.1.getD (n + 1) 0 < t.1.getD n 0) :
    Sl (dropBox t.1 n) (gridOf t) n (t.1.getD n 0 - 1).toNat := by
  have hP := tabP h
  obtain ⟨hp, ho, hl, _⟩ := tab_parts h
  have h1 := hP.q0 (n + 1)
  have hd := drop_get hp hn hc
  have hne : t.2.length > n := by omega
  have hrow := grid_row hne
  have hlen : (t.1.getD n 0).toNat ≤ ((gridOf t).getD n []).length := by rw [hrow]; omega
  -- a cell behind the new inner partition is one behind the old one, or the hole
  have old : ∀ r x : Nat, (dropBox t.1 n).getD r 0 ≤ x → ¬ (r = n ∧ x = (t.1.getD n 0 - 1).toNat) → t.1.getD r 0 ≤ x := by
    intro r x h2 h3
    rw [hd] at h2
    by_cases e : r = n
    · subst e
      rw [if_pos rfl] at h2
      have : x ≠ (t.1.getD r 0 - 1).toNat := fun e => h3 ⟨rfl, e⟩
      omega
    · rw [if_neg e] at h2
      exact h2
  refine ⟨fun r => ?_, fun r => ?_, hP.lm, by rw [grid_len]; exact hne, by omega, by rw [hd, if_pos rfl]; omega, fun r x => ?_, fun r x h2 h3 h4 => hP.num r x (old r x h2 h4) h3,
    fun r x h2 h3 h4 h5 => hP.row r x (old r x h2 h4) h3, fun r x h2 h3 h4 h5 => hP.col r x (old r x h2 h4) h3, fun x h2 h3 h4 => ?_, fun r h2 h3 h4 => ?_⟩
  · rw [hd]
    have := hP.q0 r
    split <;> omega
  · rw [hd, hd]
    have := hP.qm r
    by_cases e : r = n
    · subst e
      rw [if_neg (by omega), if_pos rfl]; omega
    · rw [if_neg e]
      by_cases e2 : r + 1 = n
      · subst e2; rw [if_pos rfl]; omega
      · rw [if_neg e2]; exact this
  · by_cases hx : x < ((gridOf t).getD r []).length
    · have hr := grid_in hx
      by_cases hq : t.1.getD r 0 ≤ x
      · have := (hP.num r x hq hx).1; omega
      · rw [grid_cel hr, if_pos (by omega)]; exact Int.le_refl _
    · unfold cel
      rw [getD_ge (by omega)]; exact Int.le_refl _
  · -- left of the hole nothing is told
    rw [hd, if_pos rfl] at h3
    omega
  · -- above the hole there is a box of the inner partition, or a number over the one below
    rw [hd, if_neg (by omega)] at h3
    subst h2
    have := hP.qm r
    omega
end Go.Am.Pu
end

section
/- A partition less a box; the tableau that a slide leaves. Plain words. -/
namespace Go.Am.Pu

theorem partGo_intro : ∀ (p : List Int) (prev s : Int), (∀ x ∈ p, 1 ≤ x) → (0 < p.length → p.getD 0 0 ≤ prev) → (∀ i, i + 1 < p.length → p.getD (i + 1) 0 ≤ p.getD i 0) → s + sumI p ≤ 9 → partGo p prev s = true
  | [], _, _, _, _, _, _ => rfl
  | x :: xs, prev, s, h1, h2, h3, h4 => by
    have hs : ∀ (l : List Int), (∀ y ∈ l, 1 ≤ y) → 0 ≤ sumI l := by
      intro l
      induction l with
      | nil => intro _; simp [sumI]
      | cons y l ih =>
        intro h
        have a := h y List.mem_cons_self
        have b := ih (fun z hz => h z (List.mem_cons_of_mem _ hz))
        simp only [sumI]; omega
    have hx := h1 x List.mem_cons_self
    have hxs := hs xs (fun z hz => h1 z (List.mem_cons_of_mem _ hz))
    have h2' := h2 (by simp)
    simp only [List.getD_cons_zero] at h2'
    simp only [sumI] at h4
    have ih := partGo_intro xs x (s + x) (fun z hz => h1 z (List.mem_cons_of_mem _ hz)) (fun hl => by have := h3 0 (by simpa using hl); simpa using this) (fun i hi => by have := h3 (i + 1) (by simpa using hi); simpa using this) (by omega)
    simp only [partGo, Bool.and_eq_true, decide_eq_true_eq]
    exact ⟨hx, h2', by omega, ih⟩
theorem sumI_set : ∀ (p : List Int) (n : Nat) (v : Int), n < p.length → sumI (p.set n v) = sumI p - p.getD n 0 + v
  | [], n, v, h => by simp at h
  | x :: xs, 0, v, _ => by simp [sumI]; omega
  | x :: xs, n + 1, v, h => by
    have := sumI_set xs n v (by simpa using h)
    simp only [List.set_cons_succ, sumI, List.getD_cons_succ, this]
    omega
theorem sumI_tk : ∀ (p : List Int) (n : Nat), p.length = n + 1 → sumI (p.take n) = sumI p - p.getD n 0
  | [], n, h => by simp at h
  | [x], 0, _ => by simp [sumI]
  | x :: xs, n + 1, h => by
    have := sumI_tk xs n (by simpa using h)
    simp only [List.take_succ_cons, sumI, List.getD_cons_succ, this]
    omega
  | x :: y :: xs, 0, h => by simp at h

theorem drop_last {p : List Int} {n : Nat} (hp : isPart p = true) (hc : p.getD (n + 1) 0 < p.getD n 0) (h : p.getD n 0 - 1 = 0) : p.length ≤ n + 1 := by
  have h0 := (part_atI hp (n + 1 : Nat)).1
  rw [atI_nat] at h0
  refine Nat.le_of_not_lt fun hlt => ?_
  have := (isPart_spec hp).1 _ (List.getElem_mem hlt)
  rw [← getD_lt hlt 0] at this
  omega
theorem drop_pos {p : List Int} {n : Nat} (hp : isPart p = true) (hn : n < p.length) (hc : p.getD (n + 1) 0 < p.getD n 0) {i : Nat} (hi : i < (dropBox p n).length) : 1 ≤ (dropBox p n).getD i 0 := by
  rw [drop_get hp hn hc]
  have hl := dropBox_len p n
  have h1 : ∀ i, i < p.length → 1 ≤ p.getD i 0 := fun i hi => by
    rw [getD_lt hi]
    exact ((isPart_spec hp).1 _ (List.getElem_mem hi)).1
  by_cases h : p.getD n 0 - 1 = 0
  · unfold dropBox at hi
    rw [if_pos h, List.length_take] at hi
    rw [if_neg (by omega)]
    exact h1 i (by omega)
  · have a := h1 n hn
    have b := h1 i (by omega)
    split <;> omega
theorem drop_part {p : List Int} {n : Nat} (hp : isPart p = true) (hn : n < p.length) (hc : p.getD (n + 1) 0 < p.getD n 0) : isPart (dropBox p n) = true := by
  have hs := isPart_spec hp
  have hg := drop_get hp hn hc
  have hpn : 1 ≤ p.getD n 0 := by
    rw [getD_lt hn]
    exact (hs.1 _ (List.getElem_mem hn)).1
  refine partGo_intro _ _ _ (fun x hx => ?_) (fun _ => ?_) (fun i _ => ?_) ?_
  · obtain ⟨i, hi, rfl⟩ := List.getElem_of_mem hx
    rw [← getD_lt hi 0]
    exact drop_pos hp hn hc hi
  · rw [hg]
    have : ∀ i, p.getD i 0 ≤ 9 := fun i => by
      have := (part_atI hp i).2
      rw [atI_nat] at this
      exact this
    have a := this 0
    have b := this n
    split <;> omega
  · rw [hg, hg]
    have := part_mono' hp i
    by_cases e : i = n
    · subst e
      rw [if_neg (by omega), if_pos rfl]; omega
    · rw [if_neg e]
      by_cases e2 : i + 1 = n
      · subst e2; rw [if_pos rfl]; omega
      · rw [if_neg e2]; exact this
  · have h9 := hs.2.1
    unfold dropBox
    split
    · next h =>
      have hl := drop_last hp hc h
      rw [sumI_tk p n (by omega)]
      omega
    · rw [sumI_set p n _ hn]
      omega

/-- The rows behind an inner partition. -/
def slideRows (q : List Int) (g : List (List Int)) (n : Nat) : List (List Int) := (List.range' 0 n).map fun r => (g.getD r []).drop (q.getD r 0).toNat
theorem slideRows_len (q : List Int) (g : List (List Int)) (n : Nat) : (slideRows q g n).length = n := by simp [slideRows]
theorem slideRows_get {q : List Int} {g : List (List Int)} {n r : Nat} (h : r < n) : (slideRows q g n).getD r [] = (g.getD r []).drop (q.getD r 0).toNat := by
  rw [getD_lt (by rw [slideRows_len]; exact h)]
  simp [slideRows]
def cutG (g : List (List Int)) (i c : Nat) : List (List Int) := g.set i ((g.getD i []).take c)
def slideEnd (t : Tab) (n : Nat) : List (List Int) × (Nat × Nat) := slideGo 18 (gridOf t) n (t.1.getD n 0 - 1).toNat
/-- A tableau after a slide into the inner partition's row n, and the row that the hole leaves at. -/
def slideTab (t : Tab) (n : Nat) : Tab × Nat :=
  let s := slideEnd t n
  ((dropBox t.1 n, slideRows (dropBox t.1 n) (cutG s.1 s.2.1 s.2.2) (dropBox (outer t) s.2.1).length), s.2.1)
end Go.Am.Pu
namespace Go.Am.Pu
/-- A tableau's numbers in a square of 11, noughts around. -/
def entRow (t : Tab) (r : Nat) : List Int := (List.range' 0 11).map fun c => entry t (r : Int) ((c : Nat) : Int)
def ent11 (t : Tab) : List (List Int) := (List.range' 0 11).map fun r => entRow t r
theorem entRow_len (t : Tab) (r : Nat) : (entRow t r).length = 11 := by simp [entRow]
theorem entRow_get {t : Tab} {r c : Nat} (h : c < 11) : (entRow t r).getD c 0 = entry t r c := by
  rw [getD_lt (by rw [entRow_len]; exact h)]
  simp [entRow]
theorem ent_len (t : Tab) : (ent11 t).length = 11 := by simp [ent11]
theorem ent_get {t : Tab} {r : Nat} (h : r < 11) : (ent11 t).getD r [] = entRow t r := by
  rw [getD_lt (by rw [ent_len]; exact h)]
  simp [ent11]
/-- The square holds the same numbers as the rows. -/
theorem ent_cel {t : Tab} (hp : isPart t.1 = true) {r c : Nat} (h1 : r < 11) (h2 : c < 11) : cel (ent11 t) r c = cel (gridOf t) r c := by
  have h0 := (part_atI hp r).1
  rw [atI_nat] at h0
  unfold cel
  rw [ent_get h1, entRow_get h2]
  by_cases hr : r < t.2.length
  · rw [entry_nat hr]
    have := grid_cel hr c
    unfold cel at this
    rw [this]
    by_cases hc : c < (t.1.getD r 0).toNat
    · rw [if_pos hc, atI_neg (by omega)]
    · rw [if_neg hc, show (c : Int) - t.1.getD r 0 = ((c - (t.1.getD r 0).toNat : Nat) : Int) by omega, atI_nat]
  · rw [grid_ge (by omega)]
    unfold entry
    rw [if_neg (by omega), if_pos (by omega)]
    simp
end Go.Am.Pu
end

section
/- What a slide leaves. Plain words. -/
namespace Go.Am.Pu

theorem cut_row {g : List (List Int)} {i c r : Nat} (hi : i < g.length) : (cutG g i c).getD r [] = if r = i then (g.getD i []).take c else g.getD r [] := by
  unfold cutG
  by_cases e : r = i
  · subst e
    rw [if_pos rfl, getD_lt (by rw [List.length_set]; exact hi), List.getElem_set_self]
  · rw [if_neg e, getD_set_ne (Ne.symm e)]
theorem cut_len (g : List (List Int)) (i c : Nat) : (cutG g i c).length = g.length := by unfold cutG; rw [List.length_set]
theorem cut_cel {g : List (List Int)} {i c r x : Nat} (hi : i < g.length) (hx : x < ((cutG g i c).getD r []).length) : cel (cutG g i c) r x = cel g r x := by
  unfold cel
  rw [cut_row hi] at hx ⊢
  by_cases e : r = i
  · subst e
    rw [if_pos rfl] at hx ⊢
    rw [List.length_take] at hx
    rw [getD_lt (by rw [List.length_take]; exact hx), List.getElem_take]
    exact (getD_lt (by omega) 0).symm
  · rw [if_neg e]

/-- All that is known at a slide's end. -/
structure EndP (t : Tab) (n : Nat) (g : List (List Int)) (i c : Nat) : Prop where
  sl : Sl (dropBox t.1 n) g i c
  len : g.length = t.2.length
  row : ∀ r, (g.getD r []).length = ((gridOf t).getD r []).length
  hi : i < (outer t).length
  end_ : (outer t).getD i 0 = c + 1
  cor : (outer t).getD (i + 1) 0 < (outer t).getD i 0
  cutl : ∀ r, (((cutG g i c).getD r []).length : Int) = (dropBox (outer t) i).getD r 0
  ins : ∀ r, (dropBox t.1 n).getD r 0 ≤ (dropBox (outer t) i).getD r 0
  rows : RowsLe 9 9 (cutG g i c)

theorem endP {t : Tab} (h : isTab t = true) {n : Nat} (hn : n < t.1.length) (hc : t.1.getD (n + 1) 0 < t.1.getD n 0) :
    EndP t n (slideEnd t n).1 (slideEnd t n).2.1 (slideEnd t n).2.2 ∧ cel (slideEnd t n).1 (slideEnd t n).2.1 ((slideEnd t n).2.2 + 1) = 0 ∧ cel (slideEnd t n).1 ((slideEnd t n).2.1 + 1) (slideEnd t n).2.2 = 0 := by
  obtain ⟨hp, ho, hl, _⟩ := tab_parts h
  have hout := grid_out hp
  have h9 : ∀ r, (outer t).getD r 0 ≤ 9 := fun r => by
    have := (part_atI ho r).2
    rw [atI_nat] at this
    exact this
  have hol := outer_len t
  have ho9 := (isPart_spec ho).2.2.1
  have hst := sl_start h hn hc
  have hok := slideGo_ok (w := 9) 18 (gridOf t) n (t.1.getD n 0 - 1).toNat hst (fun r => by have := hout r; have := h9 r; omega) (by rw [grid_len]; omega)
  unfold slideEnd
  generalize hS : slideGo 18 (gridOf t) n (t.1.getD n 0 - 1).toNat = S at hok
  obtain ⟨g, i, c⟩ := S
  obtain ⟨a1, a2, a3, a4, a5⟩ := hok
  simp only at a1 a2 a3 a4 a5 ⊢
  have er := a1.endRow a4
  have ec := a1.endCol a5
  have o1 := hout i
  have o2 := hout (i + 1)
  rw [← a3] at o1 o2
  rw [grid_len] at a2
  have hi := a1.hi
  have cor : (outer t).getD (i + 1) 0 < (outer t).getD i 0 := by omega
  have hdg := drop_get ho (by omega) cor
  have hcl : ∀ r, (((cutG g i c).getD r []).length : Int) = (dropBox (outer t) i).getD r 0 := fun r => by
    rw [cut_row hi, hdg]
    by_cases e : r = i
    · rw [if_pos e, if_pos e, List.length_take]; omega
    · rw [if_neg e, if_neg e, a3, hout]
  refine ⟨⟨a1, a2, a3, by omega, by omega, cor, hcl, fun r => ?_, ?_⟩, a4, a5⟩
  · rw [hdg]
    by_cases e : r = i
    · subst e
      rw [if_pos rfl]
      have := a1.hq
      omega
    · rw [if_neg e, drop_get hp hn hc]
      -- the inner partition lies inside
      have hin : t.1.getD r 0 ≤ (outer t).getD r 0 := by
        rw [← hout r]
        by_cases hr : r < t.2.length
        · rw [grid_row hr]
          have := (part_atI hp r).1
          rw [atI_nat] at this
          omega
        · rw [getD_ge (xs := t.1) (by omega)]
          omega
      split
      · next e2 => subst e2; omega
      · exact hin
  · refine ⟨by rw [cut_len]; omega, fun r hr => ?_⟩
    obtain ⟨k, hk, rfl⟩ := List.getElem_of_mem hr
    have a := hcl k
    have b := h9 k
    have c' := h9 i
    rw [getD_lt hk, hdg] at a
    split at a <;> omega
end Go.Am.Pu
end

section
/- The square that the reference slides in. Plain words. -/
namespace Go.Am.Pu

structure Sq (s g : List (List Int)) (i c : Nat) : Prop where
  len : s.length = 11
  row : ∀ r, r < 11 → (s.getD r []).length = 11
  at_ : ∀ r x, r < 11 → x < 11 → ¬ (r = i ∧ x = c) → cel s r x = cel g r x
  hole : cel s i c = 0
theorem Sq.step {s g : List (List Int)} {i c i' c' : Nat} (h : Sq s g i c) (hi : i < g.length) (hc : c < (g.getD i []).length) (h1 : i < 11) (h2 : c < 11) (h3 : i' < 11) (h4 : c' < 11) (hne : ¬ (i' = i ∧ c' = c)) (v : Int) :
    Sq (setc (setc s i c v) i' c' 0) (setc g i c v) i' c' := by
  refine ⟨by rw [setc_len, setc_len]; exact h.len, fun r hr => by rw [setc_row, setc_row]; exact h.row r hr, fun r x hr hx hn => ?_, ?_⟩
  · rw [setc_ne _ hn]
    by_cases e : r = i ∧ x = c
    · obtain ⟨rfl, rfl⟩ := e
      rw [setc_at _ (by rw [h.len]; exact h1) (by rw [h.row _ h1]; exact h2), setc_at _ hi hc]
    · rw [setc_ne _ e, setc_ne _ e]; exact h.at_ r x hr hx e
  · rw [setc_at _ (by rw [setc_len, h.len]; exact h3) (by rw [setc_row, h.row _ h3]; exact h4)]
theorem sq_start {t : Tab} (h : isTab t = true) {n : Nat} (hn : n < t.1.length) : Sq (ent11 t) (gridOf t) n (t.1.getD n 0 - 1).toNat := by
  obtain ⟨hp, ho, hl, _⟩ := tab_parts h
  have h9 := (isPart_spec hp).2.2.1
  have hb := part_atI hp n
  rw [atI_nat] at hb
  have hpos : 1 ≤ t.1.getD n 0 := by
    rw [getD_lt hn]
    exact ((isPart_spec hp).1 _ (List.getElem_mem hn)).1
  refine ⟨ent_len t, fun r hr => by rw [ent_get hr, entRow_len], fun r x hr hx _ => ent_cel hp hr hx, ?_⟩
  rw [ent_cel hp (by omega) (by omega), grid_cel (by omega), if_pos (by omega)]
end Go.Am.Pu
end

section
/- What a slide leaves is a tableau. Plain words. -/
namespace Go.Am.Pu

theorem getD_drop {α : Type} (l : List α) (a x : Nat) (d : α) : (l.drop a).getD x d = l.getD (a + x) d := by
  simp [List.getD_eq_getElem?_getD, List.getElem?_drop]

section
variable {t : Tab} {n : Nat} {g : List (List Int)} {i c : Nat}
/-- A row's cells, told by the grid's. -/
theorem EndP.cell (E : EndP t n g i c) {r k : Nat} (hr : r < (dropBox (outer t) i).length)
    (hk : k < ((slideRows (dropBox t.1 n) (cutG g i c) (dropBox (outer t) i).length).getD r []).length) :
    ((dropBox t.1 n).getD r 0).toNat + k < (g.getD r []).length ∧ ((((dropBox t.1 n).getD r 0).toNat + k : Nat) : Int) < (dropBox (outer t) i).getD r 0 ∧ ¬ (r = i ∧ ((dropBox t.1 n).getD r 0).toNat + k = c) ∧
      ((slideRows (dropBox t.1 n) (cutG g i c) (dropBox (outer t) i).length).getD r []).getD k 0 = cel g r (((dropBox t.1 n).getD r 0).toNat + k) := by
  have hq := E.sl.q0 r
  rw [slideRows_get hr] at hk ⊢
  rw [List.length_drop] at hk
  have hx : ((dropBox t.1 n).getD r 0).toNat + k < ((cutG g i c).getD r []).length := by omega
  have hl := E.cutl r
  have hcut := cut_row (c := c) (r := r) E.sl.hi
  refine ⟨?_, by omega, fun e => ?_, ?_⟩
  · rw [hcut] at hx
    by_cases e : r = i
    · subst e; rw [if_pos rfl, List.length_take] at hx; omega
    · rw [if_neg e] at hx; exact hx
  · rw [hcut, if_pos e.1, List.length_take] at hx
    omega
  · rw [getD_drop]
    exact cut_cel E.sl.hi hx
theorem EndP.rlen (E : EndP t n g i c) {r : Nat} (hr : r < (dropBox (outer t) i).length) :
    (dropBox (outer t) i).getD r 0 = (dropBox t.1 n).getD r 0 + (((slideRows (dropBox t.1 n) (cutG g i c) (dropBox (outer t) i).length).getD r []).length : Int) := by
  have hq := E.sl.q0 r
  have hi := E.ins r
  have hl := E.cutl r
  rw [slideRows_get hr, List.length_drop]
  omega

theorem EndP.tab (E : EndP t n g i c) (h : isTab t = true) (hn : n < t.1.length) (hc : t.1.getD (n + 1) 0 < t.1.getD n 0) :
    isTab (dropBox t.1 n, slideRows (dropBox t.1 n) (cutG g i c) (dropBox (outer t) i).length) = true := by
  obtain ⟨hp, ho, hl, _⟩ := tab_parts h
  have hqp := drop_part hp hn hc
  have hop := drop_part ho E.hi E.cor
  generalize hR : slideRows (dropBox t.1 n) (cutG g i c) (dropBox (outer t) i).length = R
  have hRl : R.length = (dropBox (outer t) i).length := by rw [← hR, slideRows_len]
  have cell : ∀ {r k : Nat}, r < R.length → k < (R.getD r []).length → ((dropBox t.1 n).getD r 0).toNat + k < (g.getD r []).length ∧ ((((dropBox t.1 n).getD r 0).toNat + k : Nat) : Int) < (dropBox (outer t) i).getD r 0 ∧ ¬ (r = i ∧ ((dropBox t.1 n).getD r 0).toNat + k = c) ∧ (R.getD r []).getD k 0 = cel g r (((dropBox t.1 n).getD r 0).toNat + k) := by
    intro r k hr hk
    subst hR
    exact E.cell (by omega) hk
  have rlen : ∀ {r : Nat}, r < R.length → (dropBox (outer t) i).getD r 0 = (dropBox t.1 n).getD r 0 + ((R.getD r []).length : Int) := by
    intro r hr
    subst hR
    exact E.rlen (by omega)
  have q0 := E.sl.q0
  have hout : outer (dropBox t.1 n, R) = dropBox (outer t) i := by
    refine List.ext_getElem (by rw [outer_len]; exact hRl) fun r h1 h2 => ?_
    rw [← getD_lt h1 0, ← getD_lt h2 0]
    have h3 : r < R.length := by omega
    have := outerGo_get (dropBox t.1 n) R 0 r h3
    rw [Nat.zero_add] at this
    unfold outer
    rw [this]
    exact (rlen h3).symm
  have hlen : (dropBox t.1 n).length ≤ R.length := by
    refine Nat.le_of_not_lt fun hlt => ?_
    have a := drop_pos hp hn hc hlt
    have b := E.ins R.length
    rw [getD_ge (xs := dropBox (outer t) i) (by omega)] at b
    omega
  have om := part_mono' hop
  simp only [isTab, shapeOK, isInside, Bool.and_eq_true, decide_eq_true_eq]
  rw [hout]
  refine ⟨⟨hqp, hlen, hqp, hop, by omega, ?_⟩, ?_⟩
  · rw [all_range]
    intro r _
    exact decide_eq_true (E.ins r)
  · rw [all_range]
    intro r hr
    rw [all_range]
    intro k hk
    have hq := q0 r
    obtain ⟨c1, c2, c3, c4⟩ := cell hr hk
    have hx : (dropBox t.1 n).getD r 0 ≤ ((((dropBox t.1 n).getD r 0).toNat + k : Nat) : Int) := by omega
    have hnum := E.sl.num r _ hx c1 c3
    simp only [cellOK, within, Bool.and_eq_true, Bool.or_eq_true, decide_eq_true_eq]
    rw [c4]
    refine ⟨hnum, ?_, ?_⟩
    · cases k with
      | zero => exact .inl rfl
      | succ k =>
        obtain ⟨d1, d2, d3, d4⟩ := cell hr (show k < (R.getD r []).length by omega)
        right
        rw [show k + 1 - 1 = k from rfl, d4]
        exact E.sl.row r (((dropBox t.1 n).getD r 0).toNat + k) (by omega) (by omega) d3 (by omega)
    · cases r with
      | zero => exact .inl rfl
      | succ r =>
        right
        have hr' : r < R.length := by omega
        have em : ((r + 1 : Nat) : Int) - 1 = (r : Int) := by omega
        rw [em, entry_nat hr']
        have hqr := q0 r
        have hrl := rlen hr'
        have hom := om r
        simp only
        by_cases e : (dropBox t.1 n).getD (r + 1) 0 + (k : Int) < (dropBox t.1 n).getD r 0
        · rw [atI_neg (by omega)]; omega
        · obtain ⟨y, hy⟩ : ∃ y : Nat, (dropBox t.1 n).getD (r + 1) 0 + (k : Int) - (dropBox t.1 n).getD r 0 = y := ⟨((dropBox t.1 n).getD (r + 1) 0 + (k : Int) - (dropBox t.1 n).getD r 0).toNat, by omega⟩
          rw [hy, atI_nat]
          obtain ⟨d1, d2, d3, d4⟩ := cell hr' (show y < (R.getD r []).length by omega)
          have ey : ((dropBox t.1 n).getD r 0).toNat + y = ((dropBox t.1 n).getD (r + 1) 0).toNat + k := by omega
          rw [d4, ey]
          rw [ey] at d3
          exact E.sl.col r _ (by omega) c1 d3 c3
end

theorem slide_tab {t : Tab} (h : isTab t = true) {n : Nat} (hn : n < t.1.length) (hc : t.1.getD (n + 1) 0 < t.1.getD n 0) : isTab (slideTab t n).1 = true := (endP h hn hc).1.tab h hn hc
theorem tab_small {t : Tab} (h : isTab t = true) : t.1.length ≤ 9 ∧ RowsLe 9 9 t.2 := by
  obtain ⟨hp, ho, hl, _⟩ := tab_parts h
  have h9 := (isPart_spec ho).2.2.1
  rw [outer_len] at h9
  refine ⟨by omega, h9, fun r hr => ?_⟩
  obtain ⟨k, hk, rfl⟩ := List.getElem_of_mem hr
  have a := grid_out hp k
  have b := (part_atI ho k).2
  rw [atI_nat] at b
  rw [grid_row hk] at a
  rw [← getD_lt hk []]
  omega
end Go.Am.Pu
namespace Go.Am.Pu
end Go.Am.Pu
end

section
/- Taking the least number out of a plain tableau; evacuation. Plain words. -/
namespace Go.Am.Pu

theorem EndP.out {t : Tab} {n : Nat} {g : List (List Int)} {i c : Nat} (E : EndP t n g i c) :
    outer (dropBox t.1 n, slideRows (dropBox t.1 n) (cutG g i c) (dropBox (outer t) i).length) = dropBox (outer t) i := by
  refine List.ext_getElem (by rw [outer_len]; exact slideRows_len _ _ _) fun r h1 h2 => ?_
  rw [← getD_lt h1 0, ← getD_lt h2 0]
  have h3 : r < (slideRows (dropBox t.1 n) (cutG g i c) (dropBox (outer t) i).length).length := by rw [slideRows_len]; exact h2
  have := outerGo_get (dropBox t.1 n) (slideRows (dropBox t.1 n) (cutG g i c) (dropBox (outer t) i).length) 0 r h3
  rw [Nat.zero_add] at this
  exact this.trans (E.rlen h2).symm
theorem slide_out {t : Tab} (h : isTab t = true) {n : Nat} (hn : n < t.1.length) (hc : t.1.getD (n + 1) 0 < t.1.getD n 0) :
    outer (slideTab t n).1 = dropBox (outer t) (slideTab t n).2 ∧ (slideTab t n).2 < (outer t).length ∧ (outer t).getD ((slideTab t n).2 + 1) 0 < (outer t).getD (slideTab t n).2 0 :=
  have E := (endP h hn hc).1
  ⟨E.out, E.hi, E.cor⟩

/-- A plain tableau whose first cell is taken out. -/
def openT (t : Tab) : Tab := ([1], t.2.set 0 ((t.2.getD 0 []).drop 1))
theorem open_row (t : Tab) (r : Nat) : (openT t).2.getD r [] = if r = 0 then (t.2.getD 0 []).drop 1 else t.2.getD r [] := by
  unfold openT
  by_cases e : r = 0
  · subst e
    rw [if_pos rfl]
    by_cases h : 0 < t.2.length
    · rw [getD_lt (by rw [List.length_set]; exact h), List.getElem_set_self]
    · rw [getD_ge (by rw [List.length_set]; omega), getD_ge (xs := t.2) (by omega)]; rfl
  · rw [if_neg e, getD_set_ne (Ne.symm e)]
theorem row_pos {t : Tab} (h : isPlain t = true) {r : Nat} (hr : r < t.2.length) : 1 ≤ (t.2.getD r []).length := by
  have hl := plain_outer h hr
  have hp := (isPart_spec (plain_part h)).1 ((outer t)[r]'(by rw [outer_len]; exact hr)) (List.getElem_mem _)
  rw [getD_lt (by rw [outer_len]; exact hr)] at hl
  omega
theorem open_len (t : Tab) : (openT t).2.length = t.2.length := by simp [openT]
theorem one_get (r : Nat) : ([1] : List Int).getD r 0 = if r = 0 then 1 else 0 := by
  cases r with
  | zero => rfl
  | succ r => simp
theorem open_outer {t : Tab} (h : isPlain t = true) (h0 : 0 < t.2.length) : outer (openT t) = outer t := by
  refine List.ext_getElem (by rw [outer_len, outer_len, open_len]) fun r h1 h2 => ?_
  rw [← getD_lt h1 0, ← getD_lt h2 0]
  have h3 : r < t.2.length := by rw [outer_len] at h2; exact h2
  have h4 := row_pos h h3
  rw [plain_outer h h3]
  have := outerGo_get (openT t).1 (openT t).2 0 r (by rw [open_len]; exact h3)
  rw [Nat.zero_add] at this
  unfold outer
  rw [this, open_row, show (openT t).1 = [1] from rfl, one_get]
  by_cases e : r = 0
  · subst e
    rw [if_pos rfl, if_pos rfl, List.length_drop]
    omega
  · rw [if_neg e, if_neg e]; omega
theorem open_tab {t : Tab} (h : isPlain t = true) (h0 : 0 < t.2.length) : isTab (openT t) = true := by
  have hin := plain_inner h
  have hp := plain_part h
  have h' := h
  simp only [isPlain, Bool.and_eq_true] at h'
  obtain ⟨_, _, _, hc⟩ := tab_parts h'.1
  have hout := open_outer h h0
  have hr0 := row_pos h h0
  simp only [isTab, shapeOK, isInside, Bool.and_eq_true, decide_eq_true_eq]
  rw [hout, open_len]
  refine ⟨⟨rfl, (show 1 ≤ t.2.length from h0), rfl, hp, (by rw [outer_len]; exact (show 1 ≤ t.2.length from h0)), ?_⟩, ?_⟩
  · rw [all_range]
    intro r hr
    have e : r = 0 := by simp [openT] at hr; exact hr
    subst e
    rw [plain_outer h h0]
    exact decide_eq_true (show (1 : Int) ≤ _ by omega)
  · rw [all_range]
    intro r hr
    rw [all_range]
    intro k hk
    rw [open_row] at hk
    have hl : (openT t).1 = [1] := rfl
    by_cases e : r = 0
    · subst e
      rw [if_pos rfl, List.length_drop] at hk
      have hck := hc 0 (k + 1) h0 (by omega)
      simp only [cellOK, within, Bool.and_eq_true, Bool.or_eq_true, decide_eq_true_eq] at hck ⊢
      rw [open_row, if_pos rfl, getD_drop, getD_drop, show 1 + k = k + 1 by omega]
      refine ⟨hck.1, ?_, .inl (by simp)⟩
      by_cases e : k = 0
      · exact .inl e
      · right
        have := hck.2.1
        rw [show 1 + (k - 1) = k + 1 - 1 by omega]
        exact this.resolve_left (by omega)
    · rw [if_neg e] at hk
      have hck := hc r k hr hk
      simp only [cellOK, within, Bool.and_eq_true, Bool.or_eq_true, decide_eq_true_eq] at hck ⊢
      rw [open_row, if_neg e]
      refine ⟨hck.1, hck.2.1, .inr ?_⟩
      have hent := hck.2.2.resolve_left e
      rw [hin] at hent
      obtain ⟨q, rfl⟩ : ∃ q, r = q + 1 := ⟨r - 1, by omega⟩
      have em : ((q + 1 : Nat) : Int) - 1 = (q : Int) := by omega
      rw [em] at hent ⊢
      rw [entry_nat (by omega)] at hent
      simp only [hin, List.getD_nil] at hent
      have g1 := one_get (q + 1)
      have g2 := one_get q
      have o2 := open_row t q
      rw [if_neg (by omega)] at g1
      rw [entry_nat (by rw [open_len]; omega), hl, g1, g2, o2]
      by_cases e0 : q = 0
      · subst e0
        rw [if_pos rfl, if_pos rfl]
        by_cases ek : k = 0
        · subst ek
          rw [atI_neg (by omega)]
          omega
        · rw [show (0 : Int) + (k : Int) - 1 = ((k - 1 : Nat) : Int) by omega, atI_nat, getD_drop, show 1 + (k - 1) = k by omega]
          rw [show (0 : Int) + (k : Int) - 0 = (k : Int) by omega, atI_nat] at hent
          exact hent
      · rw [if_neg e0, if_neg e0]
        exact hent
/-- The least number taken out of a plain tableau: what is left, and the row that gets shorter. -/
def takeT (t : Tab) : Tab × Nat := slideTab (openT t) 0
theorem take_spec {t : Tab} (h : isPlain t = true) (h0 : 0 < t.2.length) :
    isPlain (takeT t).1 = true ∧ outer (takeT t).1 = dropBox (outer t) (takeT t).2 ∧ (takeT t).2 < t.2.length ∧ (outer t).getD ((takeT t).2 + 1) 0 < (outer t).getD (takeT t).2 0 := by
  have hi : (openT t).1 = [1] := rfl
  have ht := open_tab h h0
  have h1 : 0 < (openT t).1.length := by rw [hi]; simp
  have hc : (openT t).1.getD (0 + 1) 0 < (openT t).1.getD 0 0 := by rw [hi]; simp
  obtain ⟨a, b, c⟩ := slide_out ht h1 hc
  rw [open_outer h h0] at a b c
  rw [outer_len] at b
  refine ⟨?_, a, b, c⟩
  simp only [isPlain, Bool.and_eq_true, decide_eq_true_eq]
  refine ⟨slide_tab ht h1 hc, ?_⟩
  show (dropBox (openT t).1 0).length = 0
  rw [hi]; rfl
theorem plain_sum {t : Tab} (h : isPlain t = true) : sumI (outer t) = t.2.flatten.length := by
  unfold outer
  exact sum_outer t.1 t.2 0 fun q _ => by rw [plain_inner h]; rfl
theorem plain_ne {t : Tab} (h : 0 < t.2.flatten.length) : 0 < t.2.length := by
  refine Nat.pos_of_ne_zero fun e => ?_
  rw [List.eq_nil_of_length_eq_zero e] at h
  simp at h
/-- How long the rows are behind a take. -/
theorem take_rows {t : Tab} (h : isPlain t = true) (h0 : 0 < t.2.length) (r : Nat) :
    ((takeT t).1.2.getD r []).length = if r = (takeT t).2 then (t.2.getD r []).length - 1 else (t.2.getD r []).length := by
  obtain ⟨a, b, c, d⟩ := take_spec h h0
  have hg := drop_get (plain_part h) (show (takeT t).2 < (outer t).length by rw [outer_len]; exact c) d r
  have lenI : ∀ {u : Tab}, isPlain u = true → ∀ r, (outer u).getD r 0 = (u.2.getD r []).length := by
    intro u hu r
    by_cases hr : r < u.2.length
    · exact plain_outer hu hr
    · rw [getD_ge (by rw [outer_len]; omega), getD_ge (xs := u.2) (by omega)]; rfl
  rw [← b, lenI a, lenI h, lenI h] at hg
  have := row_pos h c
  by_cases e : r = (takeT t).2
  · subst e; rw [if_pos rfl] at hg ⊢; omega
  · rw [if_neg e] at hg ⊢; omega
end Go.Am.Pu
end

section
/- Promotion. Plain words. -/
namespace Go.Am.Pu
def mapFrom (d : Int) (q : Nat) (r : List Int) : List Int := r.take q ++ (r.drop q).map (· + d)
theorem mapFrom_len (d : Int) (q : Nat) (r : List Int) : (mapFrom d q r).length = r.length := by
  unfold mapFrom
  rw [List.length_append, List.length_map, ← List.length_append, List.take_append_drop]
theorem mapFrom_all (d : Int) (r : List Int) : mapFrom d r.length r = r := by
  unfold mapFrom
  rw [List.take_length, List.drop_length]
  simp
theorem mapFrom_step {d : Int} {q : Nat} {r : List Int} (h : q < r.length) : mapFrom d (q + 1) (r.set q (r.getD q 0 + d)) = mapFrom d q r := by
  unfold mapFrom
  rw [take_set_self h, drop_set_next, drop_cons h 0]
  simp
def shiftRows (d : Int) (rs : List (List Int)) : List (List Int) := rs.map fun r => r.map (· + d)
def shiftFrom (d : Int) (i : Nat) (rs : List (List Int)) : List (List Int) := rs.take i ++ shiftRows d (rs.drop i)
theorem shiftFrom_all (d : Int) (rs : List (List Int)) : shiftFrom d rs.length rs = rs := by
  unfold shiftFrom shiftRows
  rw [List.take_length, List.drop_length]
  simp
theorem shiftFrom_step {d : Int} {i : Nat} {rs : List (List Int)} (h : i < rs.length) : shiftFrom d (i + 1) (rs.set i (mapFrom d 0 (rs.getD i []))) = shiftFrom d i rs := by
  unfold shiftFrom shiftRows
  rw [take_set_self h, drop_set_next, drop_cons h []]
  simp [mapFrom]
theorem shift_len (d : Int) (rs : List (List Int)) : (shiftRows d rs).length = rs.length := by simp [shiftRows]
theorem shift_get (d : Int) (rs : List (List Int)) (i : Nat) : (shiftRows d rs).getD i [] = (rs.getD i []).map (· + d) := by
  unfold shiftRows
  by_cases h : i < rs.length
  · rw [getD_lt (by rw [List.length_map]; exact h), getD_lt h, List.getElem_map]
  · rw [getD_ge (by rw [List.length_map]; omega), getD_ge (by omega)]; rfl
theorem shift_set (d : Int) (rs : List (List Int)) (i : Nat) (r : List Int) : shiftRows d (rs.set i r) = (shiftRows d rs).set i (r.map (· + d)) := by
  unfold shiftRows
  rw [List.map_set]
/-- Numbers that may be shifted. -/
def Small (rs : List (List Int)) : Prop := ∀ i q, -100 ≤ (rs.getD i []).getD q 0 ∧ (rs.getD i []).getD q 0 ≤ 100
theorem tab_numbers {t : Tab} (h : isTab t = true) : Small t.2 := by
  intro i q
  by_cases hi : i < t.2.length
  · by_cases hq : q < (t.2.getD i []).length
    · have := tab_entries h ((t.2.getD i []).getD q 0) (List.mem_flatten.2 ⟨t.2.getD i [], by rw [getD_lt hi]; exact List.getElem_mem hi, by rw [getD_lt hq]; exact List.getElem_mem hq⟩)
      omega
    · rw [getD_ge (by omega)]; omega
  · rw [getD_ge (xs := t.2) (by omega)]; simp
/-- What is left of a plain tableau by a take, with a row for the number that comes. -/
def withRow (s : Tab × Nat) : List (List Int) := if s.2 = s.1.2.length then s.1.2 ++ [[]] else s.1.2
def promote (t : Tab) : Tab × Bool :=
  if isPlain t = true ∧ isStd t = true then
    if t.2.flatten.length = 0 then (([], []), true)
    else ((([] : List Int), (shiftRows (-1) (withRow (takeT t))).set (takeT t).2 ((shiftRows (-1) (withRow (takeT t))).getD (takeT t).2 [] ++ [(t.2.flatten.length : Int)])), true)
  else (([], []), false)
theorem take_le {t : Tab} (h : isPlain t = true) (h0 : 0 < t.2.length) : (takeT t).2 ≤ (takeT t).1.2.length ∧ (takeT t).1.2.length ≤ t.2.length := by
  obtain ⟨s1, s2, s3, s4⟩ := take_spec h h0
  have a := congrArg List.length s2
  rw [outer_len] at a
  unfold dropBox at a
  split at a
  · rw [List.length_take, outer_len] at a; omega
  · rw [List.length_set, outer_len] at a; omega
theorem withRow_lt {t : Tab} (h : isPlain t = true) (h0 : 0 < t.2.length) : (takeT t).2 < (withRow (takeT t)).length ∧ RowsLe 10 9 (withRow (takeT t)) := by
  have a := (take_le h h0).1
  have b := plain_rows (take_spec h h0).1
  unfold withRow
  split
  · next e => rw [List.length_append]; exact ⟨by simp; omega, b.app (by simp)⟩
  · exact ⟨by omega, b.mono (by omega) (by omega)⟩
theorem withRow_small {t : Tab} (h : isPlain t = true) (h0 : 0 < t.2.length) : Small (withRow (takeT t)) := by
  have b := (take_spec h h0).1
  simp only [isPlain, Bool.and_eq_true] at b
  have c := tab_numbers b.1
  unfold withRow
  split
  · intro i q
    have := c i q
    have hg : ((takeT t).1.2 ++ [[]]).getD i [] = (takeT t).1.2.getD i [] := by
      by_cases hi : i < (takeT t).1.2.length
      · rw [getD_lt (xs := (takeT t).1.2 ++ [[]]) (by rw [List.length_append]; omega), List.getElem_append_left hi, ← getD_lt hi []]
      · rw [getD_ge (xs := (takeT t).1.2) (by omega)]
        simp only [List.getD_eq_getElem?_getD, List.getElem?_append_right (Nat.le_of_not_lt hi)]
        cases i - (takeT t).1.2.length <;> rfl
    rw [hg]; exact this
  · exact c
theorem shift_rows {n m : Nat} {rs : List (List Int)} (h : RowsLe n m rs) (d : Int) : RowsLe n m (shiftRows d rs) := by
  refine ⟨by rw [shift_len]; exact h.1, fun r hr => ?_⟩
  unfold shiftRows at hr
  obtain ⟨x, hx, rfl⟩ := List.mem_map.1 hr
  rw [List.length_map]
  exact h.2 x hx
theorem promote_rows {t : Tab} : RowsLe 10 10 (promote t).1.2 := by
  unfold promote
  split
  · next h =>
    split
    · exact ⟨by simp, fun r hr => by simp at hr⟩
    · next hn =>
      have b := (withRow_lt h.1 (plain_ne (by omega))).2
      have c := shift_rows b (-1)
      refine RowsLe.set (c.mono (Nat.le_refl _) (by omega)) _ ?_
      rw [List.length_append]
      have := c.at (takeT t).2
      simp only [List.length_cons, List.length_nil]
      omega
  · exact ⟨by simp, fun r hr => by simp at hr⟩
theorem promote_in {t : Tab} : (promote t).1.1 = [] := by
  unfold promote
  split
  · split <;> rfl
  · rfl
theorem promote_ok {t : Tab} : TabOK (promote t).1 := by
  have a := promote_rows (t := t)
  refine ⟨by rw [promote_in]; simp, by have := a.1; omega, fun r hr => by have := a.2 r hr; omega⟩
/-- The reference puts the number first and shifts then. -/
theorem promote_ref {t : Tab} (n : Int) (h : (takeT t).2 < (withRow (takeT t)).length) : shiftRows (-1) ((withRow (takeT t)).set (takeT t).2 ((withRow (takeT t)).getD (takeT t).2 [] ++ [n + 1])) =
    (shiftRows (-1) (withRow (takeT t))).set (takeT t).2 ((shiftRows (-1) (withRow (takeT t))).getD (takeT t).2 [] ++ [n]) := by
  rw [shift_set, shift_get, List.map_append, List.map_cons, List.map_nil, show n + 1 + -1 = n by omega]
end Go.Am.Pu
end

section
/- Slides undone. Plain words. -/
namespace Go.Am.Pu
def leftOf (g : List (List Int)) (i c : Nat) : Int := if c = 0 then 0 else cel g i (c - 1)
def upOf (g : List (List Int)) (i c : Nat) : Int := if i = 0 then 0 else cel g (i - 1) c
/-- A slide outwards: the hole goes up or to the left. -/
def backGo : Nat → List (List Int) → Nat → Nat → List (List Int) × (Nat × Nat)
  | 0, g, i, c => (g, (i, c))
  | m + 1, g, i, c => if leftOf g i c = 0 ∧ upOf g i c = 0 then (g, (i, c))
    else if leftOf g i c ≤ upOf g i c then backGo m (setc g i c (upOf g i c)) (i - 1) c
    else backGo m (setc g i c (leftOf g i c)) i (c - 1)
theorem back_stop {g : List (List Int)} {i c : Nat} (h1 : leftOf g i c = 0) (h2 : upOf g i c = 0) : ∀ m, backGo m g i c = (g, (i, c))
  | 0 => rfl
  | m + 1 => by unfold backGo; rw [if_pos ⟨h1, h2⟩]

/-- A grid that tells another one's numbers, through f, but for a cell. -/
structure Ag (f : Int → Int) (g h : List (List Int)) (i c : Nat) : Prop where
  len : h.length = g.length
  row : ∀ r, (h.getD r []).length = (g.getD r []).length
  at_ : ∀ r x, ¬ (r = i ∧ x = c) → cel h r x = f (cel g r x)
/-- The inner partition's cells are noughts. -/
def Inn (q : List Int) (g : List (List Int)) : Prop := ∀ r x : Nat, (x : Int) < q.getD r 0 → cel g r x = 0
theorem Inn.step {q : List Int} {g : List (List Int)} {i c : Nat} (h : Inn q g) (hq : q.getD i 0 ≤ c) (v : Int) : Inn q (setc g i c v) := by
  intro r x hx
  by_cases e : r = i ∧ x = c
  · obtain ⟨rfl, rfl⟩ := e; omega
  · rw [setc_ne _ e]; exact h r x hx
theorem val_step {V : Int → Prop} {g : List (List Int)} (h : ∀ r x, V (cel g r x)) (i c a b : Nat) : ∀ r x, V (cel (setc g i c (cel g a b)) r x) := by
  intro r x
  by_cases e : r = i ∧ x = c
  · obtain ⟨rfl, rfl⟩ := e
    by_cases h1 : r < g.length
    · by_cases h2 : x < (g.getD r []).length
      · rw [setc_at _ h1 h2]; exact h a b
      · have hl := setc_row g r x (cel g a b) r
        have e0 : cel (setc g r x (cel g a b)) r x = cel g r x := by
          show ((setc g r x (cel g a b)).getD r []).getD x 0 = (g.getD r []).getD x 0
          rw [getD_ge (xs := (setc g r x (cel g a b)).getD r []) (by omega), getD_ge (xs := g.getD r []) (by omega)]
        rw [e0]; exact h r x
    · have e0 : cel (setc g r x (cel g a b)) r x = cel g r x := by
        show ((setc g r x (cel g a b)).getD r []).getD x 0 = (g.getD r []).getD x 0
        rw [getD_ge (xs := setc g r x (cel g a b)) (by rw [setc_len]; omega), getD_ge (xs := g) (by omega)]
      rw [e0]; exact h r x
  · rw [setc_ne _ e]; exact h r x
/-- A step back, where the hole had gone down. -/
theorem Ag.down {f : Int → Int} {q : List Int} {g h : List (List Int)} {i c : Nat} (hs : Sl q g i c) (hi : Inn q g) (hf : ∀ a b x y, cel g a b < cel g x y → f (cel g a b) < f (cel g x y)) (f0 : f 0 = 0)
    (hb : cel g (i + 1) c ≠ 0) (ha : Ag f (setc g i c (cel g (i + 1) c)) h (i + 1) c) :
    ∃ h', Ag f g h' i c ∧ ∀ m, backGo (m + 1) h (i + 1) c = backGo m h' i c := by
  obtain ⟨b1, b2⟩ := cel_in hb
  have mono : ∀ a b x y, cel g a b ≤ cel g x y → f (cel g a b) ≤ f (cel g x y) := fun a b x y hh => by
    rcases Int.lt_or_eq_of_le hh with h1 | h1
    · exact Int.le_of_lt (hf _ _ _ _ h1)
    · rw [h1]; exact Int.le_refl _
  have f0' : ∀ a b, cel g a b = 0 → f (cel g a b) = 0 := fun a b e => by rw [e]; exact f0
  have hu : upOf h (i + 1) c = f (cel g (i + 1) c) := by
    unfold upOf
    rw [if_neg (by omega), show i + 1 - 1 = i by omega, ha.at_ i c (by omega), setc_at _ hs.hi hs.hc]
  have hpos : 0 < f (cel g (i + 1) c) := by
    have hp := hs.pos (i + 1) c
    have := hf g.length 0 (i + 1) c (by
      have : cel g g.length 0 = 0 := by unfold cel; rw [getD_ge (Nat.le_refl _)]; rfl
      omega)
    have e : cel g g.length 0 = 0 := by unfold cel; rw [getD_ge (Nat.le_refl _)]; rfl
    rw [e, f0] at this
    exact this
  have hl : leftOf h (i + 1) c ≤ f (cel g (i + 1) c) := by
    unfold leftOf
    by_cases e : c = 0
    · rw [if_pos e]; omega
    · rw [if_neg e, ha.at_ _ _ (by omega), setc_ne _ (by omega)]
      by_cases hq : q.getD (i + 1) 0 ≤ ((c - 1 : Nat) : Int)
      · have hr := hs.row (i + 1) (c - 1) hq (by omega) (by omega) (by omega)
        rw [show c - 1 + 1 = c by omega] at hr
        exact mono _ _ _ _ hr
      · rw [f0' _ _ (hi (i + 1) (c - 1) (by omega))]; omega
  have hhi : i + 1 < h.length := by rw [ha.len, setc_len]; exact b1
  have hhc : c < (h.getD (i + 1) []).length := by rw [ha.row, setc_row]; exact b2
  refine ⟨setc h (i + 1) c (upOf h (i + 1) c), ⟨by rw [setc_len, ha.len, setc_len], fun r => by rw [setc_row, ha.row, setc_row], fun r x hn => ?_⟩, fun m => ?_⟩
  · by_cases e : r = i + 1 ∧ x = c
    · obtain ⟨rfl, rfl⟩ := e
      rw [setc_at _ hhi hhc, hu]
    · rw [setc_ne _ e, ha.at_ r x e, setc_ne _ hn]
  · conv => lhs; unfold backGo
    rw [if_neg (by omega), if_pos (by omega)]
    rfl
/-- A step back, where the hole had gone to the right. -/
theorem Ag.right {f : Int → Int} {q : List Int} {g h : List (List Int)} {i c : Nat} (hs : Sl q g i c) (hi : Inn q g) (hf : ∀ a b x y, cel g a b < cel g x y → f (cel g a b) < f (cel g x y)) (f0 : f 0 = 0)
    (hr : cel g i (c + 1) ≠ 0) (ha : Ag f (setc g i c (cel g i (c + 1))) h i (c + 1)) :
    ∃ h', Ag f g h' i c ∧ ∀ m, backGo (m + 1) h i (c + 1) = backGo m h' i c := by
  obtain ⟨b1, b2⟩ := cel_in hr
  have f0' : ∀ a b, cel g a b = 0 → f (cel g a b) = 0 := fun a b e => by rw [e]; exact f0
  have hl : leftOf h i (c + 1) = f (cel g i (c + 1)) := by
    unfold leftOf
    rw [if_neg (by omega), show c + 1 - 1 = c by omega, ha.at_ i c (by omega), setc_at _ hs.hi hs.hc]
  have hpos : 0 < f (cel g i (c + 1)) := by
    have hp := hs.pos i (c + 1)
    have e : cel g g.length 0 = 0 := by unfold cel; rw [getD_ge (Nat.le_refl _)]; rfl
    have := hf g.length 0 i (c + 1) (by omega)
    rw [e, f0] at this
    exact this
  have hu : upOf h i (c + 1) < f (cel g i (c + 1)) := by
    unfold upOf
    by_cases e : i = 0
    · rw [if_pos e]; exact hpos
    · rw [if_neg e, ha.at_ _ _ (by omega), setc_ne _ (by omega)]
      by_cases hq : q.getD (i - 1) 0 ≤ ((c + 1 : Nat) : Int)
      · have hc := hs.col (i - 1) (c + 1) hq (by rw [show i - 1 + 1 = i by omega]; exact b2) (by omega) (by omega)
        rw [show i - 1 + 1 = i by omega] at hc
        exact hf _ _ _ _ hc
      · rw [f0' _ _ (hi (i - 1) (c + 1) (by omega))]; exact hpos
  have hhi : i < h.length := by rw [ha.len, setc_len]; exact b1
  have hhc : c + 1 < (h.getD i []).length := by rw [ha.row, setc_row]; exact b2
  refine ⟨setc h i (c + 1) (leftOf h i (c + 1)), ⟨by rw [setc_len, ha.len, setc_len], fun r => by rw [setc_row, ha.row, setc_row], fun r x hn => ?_⟩, fun m => ?_⟩
  · by_cases e : r = i ∧ x = c + 1
    · obtain ⟨rfl, rfl⟩ := e
      rw [setc_at _ hhi hhc, hl]
    · rw [setc_ne _ e, ha.at_ r x e, setc_ne _ hn]
  · conv => lhs; unfold backGo
    rw [if_neg (by omega), if_neg (by omega)]
    rfl
/-- A slide undone. V: what numbers the grid holds; f tells them rising. -/
theorem back_slide {f : Int → Int} {V : Int → Prop} (hf : ∀ u v, V u → V v → u < v → f u < f v) (f0 : f 0 = 0) {q : List Int} : ∀ (m : Nat) (g : List (List Int)) (i c : Nat), Sl q g i c → Inn q g → (∀ r x, V (cel g r x)) →
    ∀ h, Ag f (slideGo m g i c).1 h (slideGo m g i c).2.1 (slideGo m g i c).2.2 → ∃ n h', Ag f g h' i c ∧ i + c + n = (slideGo m g i c).2.1 + (slideGo m g i c).2.2 ∧ ∀ m0, backGo (m0 + n) h (slideGo m g i c).2.1 (slideGo m g i c).2.2 = backGo m0 h' i c
  | 0, g, i, c, _, _, _, h, ha => ⟨0, h, ha, rfl, fun _ => rfl⟩
  | m + 1, g, i, c, hs, hi, hv, h, ha => by
    unfold slideGo at ha ⊢
    by_cases c1 : cel g i (c + 1) = 0 ∧ cel g (i + 1) c = 0
    · rw [if_pos c1] at ha ⊢
      exact ⟨0, h, ha, rfl, fun _ => rfl⟩
    · rw [if_neg c1] at ha ⊢
      have hf' : ∀ a b x y, cel g a b < cel g x y → f (cel g a b) < f (cel g x y) := fun a b x y hh => hf _ _ (hv a b) (hv x y) hh
      by_cases c2 : cel g i (c + 1) = 0 ∨ (0 < cel g (i + 1) c ∧ cel g (i + 1) c ≤ cel g i (c + 1))
      · rw [if_pos c2] at ha ⊢
        have hb : cel g (i + 1) c ≠ 0 := fun e => c2.elim (fun e1 => c1 ⟨e1, e⟩) (fun e1 => by omega)
        obtain ⟨n, h1, a1, a2, a3⟩ := back_slide hf f0 m _ _ _ (hs.down hb c2) (hi.step hs.hq _) (val_step hv _ _ _ _) h ha
        obtain ⟨h2, d1, d2⟩ := Ag.down hs hi hf' f0 hb a1
        exact ⟨n + 1, h2, d1, by omega, fun m0 => by rw [show m0 + (n + 1) = (m0 + 1) + n by omega, a3, d2]⟩
      · rw [if_neg c2] at ha ⊢
        have hr : cel g i (c + 1) ≠ 0 := fun e => c2 (.inl e)
        obtain ⟨n, h1, a1, a2, a3⟩ := back_slide hf f0 m _ _ _ (hs.right hr (fun e => c2 (.inr e))) (hi.step hs.hq _) (val_step hv _ _ _ _) h ha
        obtain ⟨h2, d1, d2⟩ := Ag.right hs hi hf' f0 hr a1
        exact ⟨n + 1, h2, d1, by omega, fun m0 => by rw [show m0 + (n + 1) = (m0 + 1) + n by omega, a3, d2]⟩
/-- A number that stands in a cell other than the hole. -/
def Occ (q : List Int) (v : Int) (g : List (List Int)) (i c : Nat) : Prop := ∃ r x : Nat, ¬ (r = i ∧ x = c) ∧ x < (g.getD r []).length ∧ q.getD r 0 ≤ x ∧ cel g r x = v
theorem Occ.step {q : List Int} {v : Int} {g : List (List Int)} {i c a b : Nat} (h : Occ q v g i c) (hi : i < g.length) (hc : c < (g.getD i []).length) (hq : q.getD i 0 ≤ c) (hne : ¬ (a = i ∧ b = c)) : Occ q v (setc g i c (cel g a b)) a b := by
  obtain ⟨r, x, h1, h2, h3, h4⟩ := h
  by_cases e : r = a ∧ x = b
  · obtain ⟨rfl, rfl⟩ := e
    exact ⟨i, c, fun e => hne ⟨e.1.symm, e.2.symm⟩, by rw [setc_row]; exact hc, hq, by rw [setc_at _ hi hc]; exact h4⟩
  · exact ⟨r, x, e, by rw [setc_row]; exact h2, h3, by rw [setc_ne _ h1]; exact h4⟩
theorem slide_occ {q : List Int} {v : Int} : ∀ (m : Nat) (g : List (List Int)) (i c : Nat), Sl q g i c → Occ q v g i c → Occ q v (slideGo m g i c).1 (slideGo m g i c).2.1 (slideGo m g i c).2.2
  | 0, g, i, c, _, h => h
  | m + 1, g, i, c, hs, h => by
    unfold slideGo
    by_cases c1 : cel g i (c + 1) = 0 ∧ cel g (i + 1) c = 0
    · rw [if_pos c1]; exact h
    · rw [if_neg c1]
      by_cases c2 : cel g i (c + 1) = 0 ∨ (0 < cel g (i + 1) c ∧ cel g (i + 1) c ≤ cel g i (c + 1))
      · rw [if_pos c2]
        have hb : cel g (i + 1) c ≠ 0 := fun e => c2.elim (fun e1 => c1 ⟨e1, e⟩) (fun e1 => by omega)
        exact slide_occ m _ _ _ (hs.down hb c2) (h.step hs.hi hs.hc hs.hq (by omega))
      · rw [if_neg c2]
        have hr : cel g i (c + 1) ≠ 0 := fun e => c2 (.inl e)
        exact slide_occ m _ _ _ (hs.right hr (fun e => c2 (.inr e))) (h.step hs.hi hs.hc hs.hq (by omega))
end Go.Am.Pu
end

section
/- Promotion of a standard tableau is standard, of the same shape, and can be undone. Plain words. -/
namespace Go.Am.Pu

theorem slide_val {V : Int → Prop} : ∀ (m : Nat) (g : List (List Int)) (i c : Nat), (∀ r x, V (cel g r x)) → ∀ r x, V (cel (slideGo m g i c).1 r x)
  | 0, _, _, _, h => h
  | m + 1, g, i, c, h => by
    unfold slideGo
    split
    · exact h
    · split
      · exact slide_val m _ _ _ (val_step h _ _ _ _)
      · exact slide_val m _ _ _ (val_step h _ _ _ _)
/-- A plain tableau, cell by cell. -/
theorem plain_intro {t : Tab} (h0 : t.1 = []) (hp : isPart (outer t) = true) (hn : ∀ r x, r < t.2.length → x < (t.2.getD r []).length → 1 ≤ cel t.2 r x ∧ cel t.2 r x ≤ 9)
    (hr : ∀ r x, r < t.2.length → x + 1 < (t.2.getD r []).length → cel t.2 r x ≤ cel t.2 r (x + 1)) (hc : ∀ r x, r + 1 < t.2.length → x < (t.2.getD (r + 1) []).length → cel t.2 r x < cel t.2 (r + 1) x) : isPlain t = true := by
  simp only [isPlain, isTab, shapeOK, isInside, Bool.and_eq_true, decide_eq_true_eq, h0]
  refine ⟨⟨⟨rfl, by simp, rfl, hp, by simp, ?_⟩, ?_⟩, rfl⟩
  · rw [all_range]
    intro i hi
    simp at hi
  · rw [all_range]
    intro r hr'
    rw [all_range]
    intro k hk
    simp only [cellOK, within, Bool.and_eq_true, Bool.or_eq_true, decide_eq_true_eq]
    refine ⟨hn r k hr' hk, ?_, ?_⟩
    · by_cases e : k = 0
      · exact .inl e
      · right
        have := hr r (k - 1) hr' (by omega)
        rw [show k - 1 + 1 = k by omega] at this
        exact this
    · by_cases e : r = 0
      · exact .inl e
      · right
        have := hc (r - 1) k (by omega) (by rw [show r - 1 + 1 = r by omega]; exact hk)
        rw [show r - 1 + 1 = r by omega] at this
        rw [show (r : Int) - 1 = ((r - 1 : Nat) : Int) by omega, entry_nat (by omega), h0]
        simp only [List.getD_nil]
        rw [show (0 : Int) + (k : Int) - 0 = (k : Int) by omega, atI_nat]
        exact this
theorem plain_cells {t : Tab} (h : isPlain t = true) : (∀ r x, r < t.2.length → x < (t.2.getD r []).length → 1 ≤ cel t.2 r x ∧ cel t.2 r x ≤ 9) ∧ (∀ r x, r < t.2.length → x + 1 < (t.2.getD r []).length → cel t.2 r x ≤ cel t.2 r (x + 1)) := by
  have h' := h
  simp only [isPlain, Bool.and_eq_true] at h'
  obtain ⟨_, _, _, hc⟩ := tab_parts h'.1
  refine ⟨fun r x hr hx => ?_, fun r x hr hx => ?_⟩
  · have := hc r x hr hx
    simp only [cellOK, within, Bool.and_eq_true, decide_eq_true_eq] at this
    exact this.1
  · have := hc r (x + 1) hr hx
    simp only [cellOK, within, Bool.and_eq_true, Bool.or_eq_true, decide_eq_true_eq] at this
    exact this.2.1.resolve_left (by omega)
theorem cel_mem {rs : List (List Int)} {r x : Nat} (hr : r < rs.length) (hx : x < (rs.getD r []).length) : cel rs r x ∈ rs.flatten := by
  refine List.mem_flatten.2 ⟨rs.getD r [], by rw [getD_lt hr]; exact List.getElem_mem hr, ?_⟩
  unfold cel
  rw [getD_lt hx]
  exact List.getElem_mem hx
theorem mem_cel {rs : List (List Int)} {v : Int} (h : v ∈ rs.flatten) : ∃ r x, r < rs.length ∧ x < (rs.getD r []).length ∧ cel rs r x = v := by
  obtain ⟨l, hl, hv⟩ := List.mem_flatten.1 h
  obtain ⟨r, hr, rfl⟩ := List.getElem_of_mem hl
  obtain ⟨x, hx, rfl⟩ := List.getElem_of_mem hv
  have e := getD_lt hr ([] : List Int)
  refine ⟨r, x, hr, by rw [e]; exact hx, ?_⟩
  unfold cel
  rw [e, getD_lt hx]
theorem std_bounds {t : Tab} (h : isPlain t = true) (hs : isStd t = true) : t.2.flatten.Nodup ∧ (∀ x ∈ t.2.flatten, 1 ≤ x ∧ x ≤ t.2.flatten.length) := by
  simp only [isStd, Bool.and_eq_true] at hs
  have h1 := tab_entries hs.1
  obtain ⟨a, b⟩ := (once_nodup fun x hx => (h1 x hx).1).1 hs.2
  exact ⟨a, fun x hx => ⟨(h1 x hx).1, b x hx⟩⟩
/-- In a standard tableau 1 stands in the first cell alone. -/
theorem std_one {t : Tab} (h : isPlain t = true) (hs : isStd t = true) {r x : Nat} (hr : r < t.2.length) (hx : x < (t.2.getD r []).length) (e : cel t.2 r x = 1) : r = 0 ∧ x = 0 := by
  obtain ⟨hn, hrow⟩ := plain_cells h
  have hcol := plain_cols h
  have r0 : r = 0 := by
    by_cases e0 : r = 0
    · exact e0
    · have hc := hcol (r - 1) (by omega)
      rw [show r - 1 + 1 = r by omega] at hc
      have h2 := hc.2 x hx
      have h3 := hn (r - 1) x (by omega) (by omega)
      unfold cel at e h3
      omega
  subst r0
  refine ⟨rfl, Nat.eq_zero_of_not_pos fun hp => ?_⟩
  have h2 := hrow 0 (x - 1) hr (by omega)
  rw [show x - 1 + 1 = x by omega] at h2
  have h3 := hn 0 (x - 1) hr (by omega)
  have nd : (t.2.getD 0 []).Nodup := by
    have := (std_bounds h hs).1
    exact (List.pairwise_flatten.1 this).1 _ (by rw [getD_lt hr]; exact List.getElem_mem hr)
  have e2 : (t.2.getD 0 [])[x - 1]'(by omega) = (t.2.getD 0 [])[x] := by
    have a := getD_lt (xs := t.2.getD 0 []) (i := x - 1) (by omega) 0
    have b := getD_lt (xs := t.2.getD 0 []) (i := x) hx 0
    unfold cel at e h2 h3
    rw [← a, ← b]
    omega
  exact List.pairwise_iff_getElem.1 nd (x - 1) x (by omega) hx (by omega) e2
theorem std_first {t : Tab} (h : isPlain t = true) (hs : isStd t = true) (h0 : 0 < t.2.flatten.length) : cel t.2 0 0 = 1 := by
  have ho : areOnce t.2.flatten = true := by
    simp only [isStd, Bool.and_eq_true] at hs
    exact hs.2
  have hm := once_iff.1 ho 1 (upTo_mem.2 (by omega))
  obtain ⟨r, x, a, b, c⟩ := mem_cel hm
  obtain ⟨rfl, rfl⟩ := std_one h hs a b c
  exact c
end Go.Am.Pu
end

section
/- Promotion keeps shapes and standardness. Plain words. -/
namespace Go.Am.Pu
section
variable {t : Tab}
theorem open_cel (h0 : 0 < t.2.length) (r x : Nat) : cel (gridOf (openT t)) r x = if r = 0 ∧ x = 0 then 0 else cel t.2 r x := by
  have hl : (openT t).1 = [1] := rfl
  by_cases hr : r < t.2.length
  · rw [grid_cel (by rw [open_len]; exact hr), hl, one_get, open_row]
    by_cases e : r = 0
    · subst e
      rw [if_pos rfl, if_pos rfl, show (1 : Int).toNat = 1 from rfl]
      by_cases ex : x = 0
      · subst ex; simp
      · rw [if_neg (by omega), if_neg (by omega), getD_drop, show 1 + (x - 1) = x by omega]; rfl
    · rw [if_neg e, if_neg e, if_neg (by simp), if_neg (by omega), show x - (0 : Int).toNat = x from rfl]; rfl
  · rw [if_neg (by omega)]
    unfold cel
    rw [grid_ge (by rw [open_len]; omega), getD_ge (xs := t.2) (by omega)]
theorem open_grow (h : isPlain t = true) (h0 : 0 < t.2.length) (r : Nat) : ((gridOf (openT t)).getD r []).length = (t.2.getD r []).length := by
  have hl : (openT t).1 = [1] := rfl
  by_cases hr : r < t.2.length
  · rw [grid_row (by rw [open_len]; exact hr), hl, one_get, open_row]
    by_cases e : r = 0
    · subst e
      have := row_pos h h0
      rw [if_pos rfl, if_pos rfl, List.length_drop, show (1 : Int).toNat = 1 from rfl]
      omega
    · rw [if_neg e, if_neg e]; simp
  · rw [grid_ge (by rw [open_len]; omega), getD_ge (xs := t.2) (by omega)]
/-- The grid and the hole at the end of a take. -/
def takeEnd (t : Tab) : List (List Int) × (Nat × Nat) := slideGo 18 (gridOf (openT t)) 0 0
theorem take_row_eq (t : Tab) : (takeT t).2 = (takeEnd t).2.1 := rfl
theorem take_end (h : isPlain t = true) (h0 : 0 < t.2.length) : EndP (openT t) 0 (takeEnd t).1 (takeEnd t).2.1 (takeEnd t).2.2 :=
  (endP (open_tab h h0) (n := 0) (show 0 < 1 by omega) (show (0 : Int) < 1 by omega)).1
theorem take_rowG (h : isPlain t = true) (h0 : 0 < t.2.length) (r : Nat) : (takeT t).1.2.getD r [] = (cutG (takeEnd t).1 (takeEnd t).2.1 (takeEnd t).2.2).getD r [] := by
  have E := take_end h h0
  show (slideRows [] (cutG (takeEnd t).1 (takeEnd t).2.1 (takeEnd t).2.2) (dropBox (outer (openT t)) (takeEnd t).2.1).length).getD r [] = _
  by_cases hr : r < (dropBox (outer (openT t)) (takeEnd t).2.1).length
  · rw [slideRows_get hr]; rfl
  · rw [getD_ge (by rw [slideRows_len]; omega)]
    have := E.cutl r
    rw [getD_ge (xs := dropBox _ _) (by omega)] at this
    exact (List.eq_nil_of_length_eq_zero (by omega)).symm
theorem take_cel (h : isPlain t = true) (h0 : 0 < t.2.length) {r x : Nat} (hx : x < ((takeT t).1.2.getD r []).length) : cel (takeT t).1.2 r x = cel (takeEnd t).1 r x := by
  have E := take_end h h0
  have e := take_rowG h h0 r
  rw [e] at hx
  have := cut_cel E.sl.hi hx
  unfold cel at this ⊢
  rw [e]
  exact this
/-- Noughts, and the numbers from 2 on. -/
def Vn (n : Nat) (v : Int) : Prop := v = 0 ∨ (2 ≤ v ∧ v ≤ n)
theorem open_val (h : isPlain t = true) (hs : isStd t = true) (h0 : 0 < t.2.length) : ∀ r x, Vn t.2.flatten.length (cel (gridOf (openT t)) r x) := by
  intro r x
  rw [open_cel h0]
  by_cases e : r = 0 ∧ x = 0
  · rw [if_pos e]; exact .inl rfl
  · rw [if_neg e]
    by_cases hr : r < t.2.length
    · by_cases hx : x < (t.2.getD r []).length
      · have a := (std_bounds h hs).2 _ (cel_mem hr hx)
        have b : cel t.2 r x ≠ 1 := fun e1 => e (std_one h hs hr hx e1)
        exact .inr ⟨by omega, a.2⟩
      · unfold cel; rw [getD_ge (by omega)]; exact .inl rfl
    · unfold cel; rw [getD_ge (xs := t.2) (by omega)]; exact .inl rfl
theorem take_val (h : isPlain t = true) (hs : isStd t = true) (h0 : 0 < t.2.length) : ∀ r x, Vn t.2.flatten.length (cel (takeEnd t).1 r x) := slide_val 18 _ _ _ (open_val h hs h0)
theorem take_num (h : isPlain t = true) (hs : isStd t = true) (h0 : 0 < t.2.length) {r x : Nat} (hx : x < ((takeT t).1.2.getD r []).length) : 2 ≤ cel (takeT t).1.2 r x ∧ cel (takeT t).1.2 r x ≤ t.2.flatten.length := by
  have hr : r < (takeT t).1.2.length := Nat.lt_of_not_le fun hle => by rw [getD_ge hle] at hx; simp at hx
  have a := (plain_cells (take_spec h h0).1).1 r x hr hx
  have b := take_val h hs h0 r x
  rw [← take_cel h h0 hx] at b
  rcases b with b | b
  · omega
  · exact b
theorem withRow_get (t : Tab) (r : Nat) : (withRow (takeT t)).getD r [] = (takeT t).1.2.getD r [] := by
  unfold withRow
  split
  · by_cases hi : r < (takeT t).1.2.length
    · rw [getD_lt (xs := (takeT t).1.2 ++ [[]]) (by rw [List.length_append]; omega), List.getElem_append_left hi, ← getD_lt hi []]
    · rw [getD_ge (xs := (takeT t).1.2) (by omega)]
      simp only [List.getD_eq_getElem?_getD, List.getElem?_append_right (Nat.le_of_not_lt hi)]
      cases r - (takeT t).1.2.length <;> rfl
  · rfl
theorem withRow_len (h : isPlain t = true) (h0 : 0 < t.2.length) : (withRow (takeT t)).length = t.2.length := by
  obtain ⟨s1, s2, s3, s4⟩ := take_spec h h0
  have a := congrArg List.length s2
  rw [outer_len] at a
  have hd := drop_last (plain_part h) s4
  rw [outer_len] at hd
  unfold dropBox at a
  unfold withRow
  split at a
  · next e =>
    rw [List.length_take, outer_len] at a
    have := hd e
    rw [if_pos (by omega), List.length_append, List.length_singleton]
    omega
  · rw [List.length_set, outer_len] at a
    rw [if_neg (by omega)]
    exact a
theorem promote_eq (h : isPlain t = true) (hs : isStd t = true) (hn : t.2.flatten.length ≠ 0) :
    promote t = ((([] : List Int), (shiftRows (-1) (withRow (takeT t))).set (takeT t).2 ((shiftRows (-1) (withRow (takeT t))).getD (takeT t).2 [] ++ [(t.2.flatten.length : Int)])), true) := by
  unfold promote
  rw [if_pos ⟨h, hs⟩, if_neg hn]
theorem promote_get (h : isPlain t = true) (hs : isStd t = true) (hn : t.2.flatten.length ≠ 0) (r : Nat) :
    (promote t).1.2.getD r [] = if r = (takeT t).2 then ((takeT t).1.2.getD r []).map (· + -1) ++ [(t.2.flatten.length : Int)] else ((takeT t).1.2.getD r []).map (· + -1) := by
  rw [promote_eq h hs hn]
  have hl := (withRow_lt h (plain_ne (by omega))).1
  simp only
  by_cases e : r = (takeT t).2
  · rw [if_pos e, e, getD_lt (by rw [List.length_set, shift_len]; exact hl), List.getElem_set_self, shift_get, withRow_get]
  · rw [if_neg e, getD_set_ne (Ne.symm e), shift_get, withRow_get]
theorem promote_len (h : isPlain t = true) (hs : isStd t = true) (hn : t.2.flatten.length ≠ 0) : (promote t).1.2.length = t.2.length := by
  rw [promote_eq h hs hn]
  simp only [List.length_set, shift_len]
  exact withRow_len h (plain_ne (by omega))
theorem promote_rlen (h : isPlain t = true) (hs : isStd t = true) (hn : t.2.flatten.length ≠ 0) (r : Nat) : ((promote t).1.2.getD r []).length = (t.2.getD r []).length := by
  have h0 := plain_ne (t := t) (by omega)
  have a := take_rows h h0 r
  have b := row_pos h (take_spec h h0).2.2.1
  rw [promote_get h hs hn]
  by_cases e : r = (takeT t).2
  · subst e
    rw [if_pos rfl] at a ⊢
    simp only [List.length_append, List.length_map, List.length_singleton]
    omega
  · rw [if_neg e] at a ⊢
    rw [List.length_map]; exact a
theorem outer_ext {a b : Tab} (ha : a.1 = []) (hb : b.1 = []) (hl : a.2.length = b.2.length) (hr : ∀ r, (a.2.getD r []).length = (b.2.getD r []).length) : outer a = outer b := by
  refine List.ext_getElem (by rw [outer_len, outer_len]; exact hl) fun r h1 h2 => ?_
  rw [outer_len] at h1 h2
  have e1 := outerGo_get a.1 a.2 0 r h1
  have e2 := outerGo_get b.1 b.2 0 r h2
  rw [← getD_lt (by rw [outer_len]; exact h1) 0, ← getD_lt (by rw [outer_len]; exact h2) 0]
  unfold outer
  rw [e1, e2, ha, hb, hr]
theorem promote_outer (h : isPlain t = true) (hs : isStd t = true) (hn : t.2.flatten.length ≠ 0) : outer (promote t).1 = outer t :=
  outer_ext promote_in (plain_inner h) (promote_len h hs hn) (promote_rlen h hs hn)
theorem getD_appL {xs ys : List Int} {x : Nat} (h : x < xs.length) : (xs ++ ys).getD x 0 = xs.getD x 0 := by
  simp only [List.getD_eq_getElem?_getD, List.getElem?_append_left h]
theorem getD_appR {xs ys : List Int} {x : Nat} (h : xs.length ≤ x) : (xs ++ ys).getD x 0 = ys.getD (x - xs.length) 0 := by
  simp only [List.getD_eq_getElem?_getD, List.getElem?_append_right h]
/-- A promotion's cells. -/
theorem promote_cel (h : isPlain t = true) (hs : isStd t = true) (hn : t.2.flatten.length ≠ 0) {r x : Nat} (hx : x < (t.2.getD r []).length) :
    (r = (takeT t).2 ∧ x + 1 = (t.2.getD r []).length ∧ cel (promote t).1.2 r x = t.2.flatten.length) ∨
    (¬ (r = (takeT t).2 ∧ x + 1 = (t.2.getD r []).length) ∧ x < ((takeT t).1.2.getD r []).length ∧ cel (promote t).1.2 r x = cel (takeT t).1.2 r x - 1) := by
  have h0 := plain_ne (t := t) (by omega)
  have a := take_rows h h0 r
  have b := row_pos h (take_spec h h0).2.2.1
  have mapc : ∀ (l : List Int) (y : Nat), y < l.length → (l.map (· + -1)).getD y 0 = l.getD y 0 - 1 := fun l y hy => by
    rw [getD_lt (by rw [List.length_map]; exact hy), List.getElem_map, getD_lt hy]; rfl
  unfold cel
  rw [promote_get h hs hn]
  by_cases e : r = (takeT t).2
  · subst e
    rw [if_pos rfl] at a ⊢
    by_cases e2 : x + 1 = (t.2.getD (takeT t).2 []).length
    · left
      refine ⟨rfl, e2, ?_⟩
      rw [getD_appR (by rw [List.length_map]; omega), List.length_map, show x - ((takeT t).1.2.getD (takeT t).2 []).length = 0 by omega]
      rfl
    · right
      refine ⟨fun hh => e2 hh.2, by omega, ?_⟩
      rw [← mapc _ x (by omega), getD_appL (by rw [List.length_map]; omega)]
  · rw [if_neg e] at a ⊢
    right
    exact ⟨fun hh => e hh.1, by omega, mapc _ x (by omega)⟩
theorem promote_plain (h : isPlain t = true) (hs : isStd t = true) (hn : t.2.flatten.length ≠ 0) : isPlain (promote t).1 = true := by
  have h0 := plain_ne (t := t) (by omega)
  have hS := (take_spec h h0).1
  obtain ⟨c1, c2⟩ := plain_cells hS
  have c3 := plain_cols hS
  have h9 := plain_nine h
  have hlen := promote_len h hs hn
  have hrl := promote_rlen h hs hn
  have num : ∀ {r x : Nat}, x < (t.2.getD r []).length → 1 ≤ cel (promote t).1.2 r x ∧ cel (promote t).1.2 r x ≤ t.2.flatten.length := fun {r x} hx => by
    rcases promote_cel h hs hn hx with ⟨_, _, e⟩ | ⟨_, e1, e⟩
    · rw [e]; omega
    · have := take_num h hs h0 e1
      rw [e]; omega
  refine plain_intro promote_in (by rw [promote_outer h hs hn]; exact plain_part h) (fun r x hr hx => ?_) (fun r x hr hx => ?_) (fun r x hr hx => ?_)
  · rw [hrl] at hx
    have := num hx
    omega
  · rw [hrl] at hx
    rcases promote_cel h hs hn hx with ⟨e1, e2, e⟩ | ⟨n1, e1, e⟩
    · rw [e]; exact (num (by omega)).2
    · rcases promote_cel h hs hn (show x < (t.2.getD r []).length by omega) with ⟨e3, e4, _⟩ | ⟨_, _, e4⟩
      · omega
      · have := c2 r x (Nat.lt_of_not_le fun hle => by rw [getD_ge hle] at e1; simp at e1) e1
        rw [e, e4]; omega
  · rw [hrl] at hx
    rw [hlen] at hr
    have hm := (plain_cols h r hr).1
    rcases promote_cel h hs hn hx with ⟨e1, e2, e⟩ | ⟨n1, e1, e⟩
    · rcases promote_cel h hs hn (show x < (t.2.getD r []).length by omega) with ⟨e3, _, _⟩ | ⟨_, e5, e4⟩
      · omega
      · have := take_num h hs h0 e5
        rw [e, e4]; omega
    · rcases promote_cel h hs hn (show x < (t.2.getD r []).length by omega) with ⟨e3, e4, _⟩ | ⟨_, _, e4⟩
      · -- the new cell has nothing below it
        exfalso
        obtain ⟨_, _, s3, s4⟩ := take_spec h h0
        rw [← e3, plain_outer h hr, plain_outer h (show r < t.2.length by omega)] at s4
        omega
      · have := (c3 r (Nat.lt_of_not_le fun hle => by rw [getD_ge hle] at e1; simp at e1)).2 x e1
        unfold cel at e e4 ⊢
        rw [e, e4]; omega
theorem promote_flat (h : isPlain t = true) (hs : isStd t = true) (hn : t.2.flatten.length ≠ 0) : (promote t).1.2.flatten.length = t.2.flatten.length := by
  have a := plain_sum (promote_plain h hs hn)
  rw [promote_outer h hs hn, plain_sum h] at a
  omega
theorem promote_std (h : isPlain t = true) (hs : isStd t = true) (hn : t.2.flatten.length ≠ 0) : isStd (promote t).1 = true := by
  have h0 := plain_ne (t := t) (by omega)
  have hp := promote_plain h hs hn
  have hp' := hp
  simp only [isPlain, Bool.and_eq_true] at hp'
  simp only [isStd, Bool.and_eq_true]
  refine ⟨hp'.1, once_iff.2 fun v hv => ?_⟩
  rw [promote_flat h hs hn, upTo_mem] at hv
  have hrl := promote_rlen h hs hn
  have hlen := promote_len h hs hn
  have E := take_end h h0
  obtain ⟨s1, s2, s3, s4⟩ := take_spec h h0
  by_cases e : v = t.2.flatten.length
  · have hb := row_pos h s3
    have hx : (t.2.getD (takeT t).2 []).length - 1 < (t.2.getD (takeT t).2 []).length := by omega
    rcases promote_cel h hs hn hx with ⟨_, _, e1⟩ | ⟨n1, _, _⟩
    · rw [e, ← e1]
      exact cel_mem (by rw [hlen]; exact s3) (by rw [hrl]; exact hx)
    · exact absurd ⟨rfl, by omega⟩ n1
  · have ho : areOnce t.2.flatten = true := by
      have := hs
      simp only [isStd, Bool.and_eq_true] at this
      exact this.2
    obtain ⟨a, b, ha, hb, hab⟩ := mem_cel (once_iff.1 ho (v + 1) (upTo_mem.2 (by omega)))
    have hne : ¬ (a = 0 ∧ b = 0) := fun hh => by
      have := std_first h hs (by omega)
      rw [hh.1, hh.2] at hab
      omega
    have hocc : Occ (dropBox (openT t).1 0) (v + 1) (gridOf (openT t)) 0 0 := ⟨a, b, hne, by rw [open_grow h h0]; exact hb, by rw [show dropBox (openT t).1 0 = [] from rfl]; simp, by rw [open_cel h0, if_neg hne]; exact hab⟩
    have hst := sl_start (open_tab h h0) (n := 0) (show 0 < 1 by omega) (show (0 : Int) < 1 by omega)
    obtain ⟨a', b', h1, h2, h3, h4⟩ := slide_occ 18 _ _ _ hst hocc
    have h1 : ¬ (a' = (takeEnd t).2.1 ∧ b' = (takeEnd t).2.2) := h1
    have h2 : b' < ((takeEnd t).1.getD a' []).length := h2
    have h4 : cel (takeEnd t).1 a' b' = v + 1 := h4
    have hl2 := E.row a'
    rw [open_grow h h0] at hl2
    have hcut : b' < ((takeT t).1.2.getD a' []).length := by
      rw [take_rows h h0]
      by_cases e2 : a' = (takeT t).2
      · rw [if_pos e2]
        have e3 := E.end_
        rw [open_outer h h0, ← take_row_eq, plain_outer h s3] at e3
        rw [e2] at h2 hl2 ⊢
        rw [e2] at h1
        have : ¬ b' = (takeEnd t).2.2 := fun hh => h1 ⟨rfl, hh⟩
        omega
      · rw [if_neg e2]; omega
    have hv2 := take_cel h h0 hcut
    rw [h4] at hv2
    rcases promote_cel h hs hn (show b' < (t.2.getD a' []).length by omega) with ⟨e1, e2, _⟩ | ⟨_, _, e1⟩
    · have := take_rows h h0 a'
      rw [if_pos e1] at this
      omega
    · rw [hv2] at e1
      rw [show v = cel (promote t).1.2 a' b' by omega]
      refine cel_mem ?_ (by rw [hrl]; omega)
      rw [hlen]
      exact Nat.lt_of_not_le fun hle => by rw [hl2, getD_ge (xs := t.2) hle] at h2; simp at h2
end
end Go.Am.Pu
end

section
/- Promotion undone: it is one to one. Plain words. -/
namespace Go.Am.Pu
/-- The grid of a tableau with a hole at a row's end. -/
def outGrid (t : Tab) (n : Nat) : List (List Int) :=
  (if n = t.2.length then gridOf t ++ [[]] else gridOf t).set n ((if n = t.2.length then gridOf t ++ [[]] else gridOf t).getD n [] ++ [0])
def pred0 (v : Int) : Int := if v = 0 then 0 else v - 1
theorem plain_grid {t : Tab} (h : t.1 = []) : gridOf t = t.2 := by
  refine List.ext_getElem (grid_len t) fun r h1 h2 => ?_
  rw [← getD_lt h1 [], ← getD_lt h2 [], grid_get h2, h]
  simp
section
variable {t : Tab}
/-- What a take leaves, each number less one. -/
def dropT (t : Tab) : Tab := ([], shiftRows (-1) (takeT t).1.2)
theorem drop_row (t : Tab) (r : Nat) : (dropT t).2.getD r [] = ((takeT t).1.2.getD r []).map (· + -1) := shift_get _ _ _
theorem dropT_cel {r x : Nat} (hx : x < ((takeT t).1.2.getD r []).length) : cel (dropT t).2 r x = cel (takeT t).1.2 r x - 1 := by
  unfold cel
  rw [drop_row, getD_lt (by rw [List.length_map]; exact hx), List.getElem_map, getD_lt hx]; rfl
theorem dropT_outer (h : isPlain t = true) (h0 : 0 < t.2.length) : outer (dropT t) = dropBox (outer t) (takeT t).2 := by
  rw [← (take_spec h h0).2.1]
  exact outer_ext rfl (plain_inner (take_spec h h0).1) (shift_len _ _) fun r => by rw [drop_row, List.length_map]
theorem dropT_plain (h : isPlain t = true) (hs : isStd t = true) (h0 : 0 < t.2.length) : isPlain (dropT t) = true := by
  have hS := (take_spec h h0).1
  obtain ⟨c1, c2⟩ := plain_cells hS
  have c3 := plain_cols hS
  have h9 := plain_nine h
  have hl : (dropT t).2.length = (takeT t).1.2.length := shift_len _ _
  have hrl : ∀ r, ((dropT t).2.getD r []).length = ((takeT t).1.2.getD r []).length := fun r => by rw [drop_row, List.length_map]
  refine plain_intro rfl ?_ (fun r x hr hx => ?_) (fun r x hr hx => ?_) (fun r x hr hx => ?_)
  · have := plain_part hS
    rw [(take_spec h h0).2.1, ← dropT_outer h h0] at this
    exact this
  · rw [hrl] at hx
    have := take_num h hs h0 hx
    rw [dropT_cel hx]; omega
  · rw [hrl] at hx
    rw [hl] at hr
    rw [dropT_cel hx, dropT_cel (by omega)]
    have := c2 r x hr hx
    omega
  · rw [hrl] at hx
    rw [hl] at hr
    have := c3 r hr
    rw [dropT_cel hx, dropT_cel (by omega)]
    have := this.2 x hx
    unfold cel
    omega
theorem add_drop {p : List Int} {n : Nat} (hp : isPart p = true) (hn : n < p.length) (hc : p.getD (n + 1) 0 < p.getD n 0) : addBox (dropBox p n) n = (p, true) := by
  have hd := drop_part hp hn hc
  have hg := drop_get hp hn hc
  have hl : n ≤ (dropBox p n).length ∧ (if n = (dropBox p n).length then (dropBox p n) ++ [0] else dropBox p n).length = p.length := by
    have hlast := drop_last hp hc
    unfold dropBox
    split
    · next e =>
      have := hlast e
      rw [List.length_take, if_pos (by omega), List.length_append, List.length_take]
      simp; omega
    · rw [List.length_set, if_neg (by omega), List.length_set]
      exact ⟨by omega, rfl⟩
  have hget : ∀ r, (if n = (dropBox p n).length then (dropBox p n) ++ [0] else dropBox p n).getD r 0 = (dropBox p n).getD r 0 := by
    intro r
    split
    · by_cases hr : r < (dropBox p n).length
      · rw [getD_appL hr]
      · rw [getD_appR (by omega), getD_ge (xs := dropBox p n) (by omega)]
        cases r - (dropBox p n).length <;> rfl
    · rfl
  have ei : ((n : Int) = ((dropBox p n).length : Int)) = (n = (dropBox p n).length) := by rw [Int.ofNat_inj]
  have key : (if (n : Int) = (dropBox p n).length then dropBox p n ++ [0] else dropBox p n).set (n : Int).toNat ((if (n : Int) = (dropBox p n).length then dropBox p n ++ [0] else dropBox p n).getD (n : Int).toNat 0 + 1) = p := by
    simp only [ei, Int.toNat_natCast]
    refine List.ext_getElem (by rw [List.length_set]; exact hl.2) fun r h1 h2 => ?_
    rw [← getD_lt h1 0, ← getD_lt h2 0]
    by_cases e : r = n
    · subst e
      rw [getD_lt (by rw [List.length_set, hl.2]; exact hn), List.getElem_set_self, hget, hg, if_pos rfl]; omega
    · rw [getD_set_ne (Ne.symm e), hget, hg, if_neg e]
  unfold addBox
  rw [if_pos ⟨hd, by omega, by omega⟩]
  simp only [key, hp, if_true]
theorem pred0_lt {n : Nat} : ∀ u v, Vn n u → Vn n v → u < v → pred0 u < pred0 v := by
  intro u v hu hv h
  unfold pred0 Vn at *
  split <;> split <;> omega
theorem pred0_inj {n : Nat} {u v : Int} (hu : Vn n u) (hv : Vn n v) (h : pred0 u = pred0 v) : u = v := by
  unfold pred0 Vn at *
  split at h <;> split at h <;> omega
/-- The slide that a take was, undone on the numbers less one. -/
theorem undo_core (h : isPlain t = true) (hs : isStd t = true) (h0 : 0 < t.2.length) :
    ∃ g, backGo 18 (outGrid (dropT t) (takeT t).2) (takeT t).2 ((outer t).getD (takeT t).2 0 - 1).toNat = (g, (0, 0)) ∧ Ag pred0 (gridOf (openT t)) g 0 0 := by
  have E := take_end h h0
  obtain ⟨s1, s2, s3, s4⟩ := take_spec h h0
  have hrows := take_rows h h0
  have hp := row_pos h s3
  have hle := take_le h h0
  have hc : ((outer t).getD (takeT t).2 0 - 1).toNat = (takeEnd t).2.2 := by
    have := E.end_
    rw [open_outer h h0, ← take_row_eq] at this
    omega
  have hcl : (takeEnd t).2.2 + 1 = (t.2.getD (takeT t).2 []).length := by
    rw [plain_outer h s3] at hc
    omega
  have hst := sl_start (open_tab h h0) (n := 0) (show 0 < 1 by omega) (show (0 : Int) < 1 by omega)
  have hinn : Inn (dropBox (openT t).1 0) (gridOf (openT t)) := fun r x hx => by
    rw [show dropBox (openT t).1 0 = [] from rfl] at hx
    simp at hx; omega
  have hlS : (dropT t).2.length = (takeT t).1.2.length := shift_len _ _
  have hW := withRow_len h h0
  -- the rows of the grid with the hole
  have hbase : ∀ r, (if (takeT t).2 = (dropT t).2.length then gridOf (dropT t) ++ [[]] else gridOf (dropT t)).getD r [] = (dropT t).2.getD r [] := by
    intro r
    rw [plain_grid rfl]
    split
    · by_cases hr : r < (dropT t).2.length
      · simp only [List.getD_eq_getElem?_getD, List.getElem?_append_left hr]
      · rw [getD_ge (xs := (dropT t).2) (by omega)]
        simp only [List.getD_eq_getElem?_getD, List.getElem?_append_right (Nat.le_of_not_lt hr)]
        cases r - (dropT t).2.length <;> rfl
    · rfl
  have hblen : (if (takeT t).2 = (dropT t).2.length then gridOf (dropT t) ++ [[]] else gridOf (dropT t)).length = t.2.length := by
    rw [plain_grid rfl, ← hW]
    unfold withRow
    rw [hlS]
    split
    · rw [List.length_append, List.length_append, hlS]
    · exact hlS
  have hog : ∀ r, (outGrid (dropT t) (takeT t).2).getD r [] = if r = (takeT t).2 then (dropT t).2.getD r [] ++ [0] else (dropT t).2.getD r [] := by
    intro r
    unfold outGrid
    by_cases e : r = (takeT t).2
    · subst e
      rw [if_pos rfl, getD_lt (by rw [List.length_set, hblen]; exact s3), List.getElem_set_self, hbase]
    · rw [if_neg e, getD_set_ne (Ne.symm e), hbase]
  have hag : Ag pred0 (takeEnd t).1 (outGrid (dropT t) (takeT t).2) (takeEnd t).2.1 (takeEnd t).2.2 := by
    refine ⟨?_, fun r => ?_, fun r x hn => ?_⟩
    · unfold outGrid
      rw [List.length_set, hblen, E.len, open_len]
    · have a := E.row r
      rw [open_grow h h0] at a
      have b := hrows r
      rw [a, hog]
      by_cases e : r = (takeT t).2
      · subst e
        rw [if_pos rfl] at b ⊢
        rw [List.length_append, drop_row, List.length_map, List.length_singleton]
        omega
      · rw [if_neg e] at b ⊢
        rw [drop_row, List.length_map]; exact b
    · have hin : x < ((takeT t).1.2.getD r []).length → cel (outGrid (dropT t) (takeT t).2) r x = cel (dropT t).2 r x := fun hx => by
        unfold cel
        rw [hog]
        by_cases e : r = (takeT t).2
        · rw [if_pos e, getD_appL (by rw [drop_row, List.length_map]; exact hx)]
        · rw [if_neg e]
      by_cases hx : x < ((takeT t).1.2.getD r []).length
      · have hv := take_num h hs h0 hx
        rw [hin hx, dropT_cel hx, ← take_cel h h0 hx]
        unfold pred0
        rw [if_neg (by omega)]
      · have a := E.row r
        rw [open_grow h h0] at a
        have b := hrows r
        have hout : ((takeEnd t).1.getD r []).length ≤ x := by
          by_cases e : r = (takeT t).2
          · subst e
            rw [if_pos rfl] at b
            have : ¬ x = (takeEnd t).2.2 := fun hh => hn ⟨rfl, hh⟩
            omega
          · rw [if_neg e] at b; omega
        have e1 : cel (takeEnd t).1 r x = 0 := by unfold cel; rw [getD_ge hout]
        have e2 : cel (outGrid (dropT t) (takeT t).2) r x = 0 := by
          unfold cel
          rw [hog]
          by_cases e : r = (takeT t).2
          · subst e
            rw [if_pos rfl] at b ⊢
            rw [getD_ge]
            rw [List.length_append, drop_row, List.length_map, List.length_singleton]
            omega
          · rw [if_neg e] at b ⊢
            rw [getD_ge]
            rw [drop_row, List.length_map]; omega
        rw [e1, e2]; rfl
  obtain ⟨n, g, a1, a2, a3⟩ := back_slide (f := pred0) (V := Vn t.2.flatten.length) pred0_lt rfl 18 _ _ _ hst hinn (open_val h hs h0) _ hag
  have a2 : 0 + (1 - 1 : Int).toNat + n = (takeEnd t).2.1 + (takeEnd t).2.2 := a2
  have a3 : ∀ m0, backGo (m0 + n) (outGrid (dropT t) (takeT t).2) (takeEnd t).2.1 (takeEnd t).2.2 = backGo m0 g 0 0 := a3
  have hn : n ≤ 18 := by
    have h9 := plain_rows h
    have := h9.at (takeT t).2
    have h10 := h9.1
    have : (takeEnd t).2.1 = (takeT t).2 := rfl
    simp at a2
    omega
  refine ⟨g, ?_, a1⟩
  have a4 := a3 (18 - n)
  rw [show (18 - n) + n = 18 by omega, ← take_row_eq] at a4
  rw [hc, a4]
  exact back_stop rfl rfl _
/-- Promotion is one to one on standard tableaux. -/
theorem promote_inj {u : Tab} (h : isPlain t = true) (hs : isStd t = true) (hn : t.2.flatten.length ≠ 0) (h' : isPlain u = true) (hs' : isStd u = true) (hn' : u.2.flatten.length ≠ 0) (e : (promote t).1 = (promote u).1) : t = u := by
  have h0 := plain_ne (t := t) (by omega)
  have h0' := plain_ne (t := u) (by omega)
  have e2 : (promote t).1.2 = (promote u).1.2 := by rw [e]
  have el : t.2.length = u.2.length := by rw [← promote_len h hs hn, ← promote_len h' hs' hn', e2]
  have er : ∀ r, (t.2.getD r []).length = (u.2.getD r []).length := fun r => by rw [← promote_rlen h hs hn, ← promote_rlen h' hs' hn', e2]
  have eo : outer t = outer u := by rw [← promote_outer h hs hn, ← promote_outer h' hs' hn', e]
  have ef : t.2.flatten.length = u.2.flatten.length := by rw [← promote_flat h hs hn, ← promote_flat h' hs' hn', e2]
  -- the row of the greatest number
  have erow : (takeT t).2 = (takeT u).2 := by
    obtain ⟨_, _, s3, _⟩ := take_spec h h0
    have hb := row_pos h s3
    rcases promote_cel h hs hn (show (t.2.getD (takeT t).2 []).length - 1 < (t.2.getD (takeT t).2 []).length by omega) with ⟨_, _, e1⟩ | ⟨n1, _, _⟩
    · have hx : (t.2.getD (takeT t).2 []).length - 1 < (u.2.getD (takeT t).2 []).length := by rw [← er]; omega
      rcases promote_cel h' hs' hn' hx with ⟨e3, _, _⟩ | ⟨_, e4, e5⟩
      · exact e3
      · have := take_num h' hs' h0' e4
        rw [e2, e5] at e1
        omega
    · exact absurd ⟨rfl, by omega⟩ n1
  have es : ∀ r, (takeT t).1.2.getD r [] = (takeT u).1.2.getD r [] := by
    intro r
    have a := promote_get h hs hn r
    rw [e2, promote_get h' hs' hn', ← erow] at a
    have inj : ∀ {l m : List Int}, l.map (· + -1) = m.map (· + -1) → l = m := fun {l m} hlm => by
      have := congrArg (List.map (· + (1 : Int))) hlm
      simpa [List.map_map, Function.comp_def, Int.add_assoc] using this
    by_cases er : r = (takeT t).2
    · rw [if_pos er, if_pos er] at a
      exact (inj (List.append_inj' a rfl).1).symm
    · rw [if_neg er, if_neg er] at a
      exact (inj a).symm
  have eW : (takeT t).1.2.length = (takeT u).1.2.length := by
    have a := congrArg List.length (take_spec h h0).2.1
    have b := congrArg List.length (take_spec h' h0').2.1
    rw [outer_len] at a b
    rw [a, b, eo, erow]
  have eS : (takeT t).1.2 = (takeT u).1.2 := List.ext_getElem eW fun r h1 h2 => by
    rw [← getD_lt h1 [], ← getD_lt h2 []]; exact es r
  have eD : dropT t = dropT u := by unfold dropT; rw [eS]
  obtain ⟨g, a1, a2⟩ := undo_core h hs h0
  obtain ⟨g', b1, b2⟩ := undo_core h' hs' h0'
  rw [eD, erow, eo, b1] at a1
  have eg : g' = g := by injection a1
  subst eg
  have cells : ∀ r x, cel t.2 r x = cel u.2 r x := by
    intro r x
    by_cases c : r = 0 ∧ x = 0
    · rw [c.1, c.2, std_first h hs (by omega), std_first h' hs' (by omega)]
    · have v1 := open_val h hs h0 r x
      have v2 := open_val h' hs' h0' r x
      rw [← ef] at v2
      have c1 := a2.at_ r x c
      have c2 := b2.at_ r x c
      have := pred0_inj v1 v2 (by rw [← c1, ← c2])
      rw [open_cel h0, open_cel h0', if_neg c, if_neg c] at this
      exact this
  refine Prod.ext (by rw [plain_inner h, plain_inner h']) ?_
  refine List.ext_getElem el fun r h1 h2 => ?_
  rw [← getD_lt h1 [], ← getD_lt h2 []]
  refine List.ext_getElem (er r) fun x h3 h4 => ?_
  rw [← getD_lt h3 0, ← getD_lt h4 0]
  exact cells r x
end
end Go.Am.Pu
end

section
/- Orbits of promotion come back. Plain words. -/
namespace Go.Am.Pu
def prom (t : Tab) : Tab := (promote t).1
def iter : Nat → Tab → Tab
  | 0, t => t
  | n + 1, t => iter n (prom t)
/-- A plain standard tableau with cells. -/
structure Good (t : Tab) : Prop where
  pl : isPlain t = true
  st : isStd t = true
  ne : t.2.flatten.length ≠ 0
theorem Good.prom {t : Tab} (h : Good t) : Good (prom t) := ⟨promote_plain h.pl h.st h.ne, promote_std h.pl h.st h.ne, by unfold Pu.prom; rw [promote_flat h.pl h.st h.ne]; exact h.ne⟩
theorem iter_good : ∀ (n : Nat) {t : Tab}, Good t → Good (iter n t)
  | 0, _, h => h
  | n + 1, _, h => iter_good n h.prom
theorem iter_add : ∀ (a b : Nat) (t : Tab), iter (a + b) t = iter b (iter a t)
  | 0, b, t => by rw [Nat.zero_add]; rfl
  | a + 1, b, t => by
    rw [show a + 1 + b = (a + b) + 1 by omega]
    exact iter_add a b (prom t)
theorem iter_inj : ∀ (n : Nat) {t u : Tab}, Good t → Good u → iter n t = iter n u → t = u
  | 0, _, _, _, _, e => e
  | n + 1, t, u, h, h', e => promote_inj h.pl h.st h.ne h'.pl h'.st h'.ne (iter_inj n h.prom h'.prom e)
theorem iter_outer : ∀ (n : Nat) {t : Tab}, Good t → outer (iter n t) = outer t
  | 0, _, _ => rfl
  | n + 1, t, h => by
    have a := iter_outer n h.prom
    have b := promote_outer h.pl h.st h.ne
    exact a.trans b
def code : List Int → Int
  | [] => 0
  | x :: xs => x + 10 * code xs
theorem code_lt : ∀ (n : Nat) (l : List Int), l.length ≤ n → (∀ x ∈ l, 1 ≤ x ∧ x ≤ 9) → 0 ≤ code l ∧ code l < (10 ^ n : Nat)
  | n, [], _, _ => ⟨by simp [code], by
    have : 0 < 10 ^ n := Nat.pow_pos (by omega)
    simp only [code]; omega⟩
  | 0, x :: xs, h, _ => by simp at h
  | n + 1, x :: xs, h, hx => by
    have ih := code_lt n xs (by simp at h; exact h) fun y hy => hx y (List.mem_cons_of_mem _ hy)
    have := hx x (List.mem_cons_self ..)
    rw [Nat.pow_succ]
    simp only [code]
    omega
theorem code_inj : ∀ (l m : List Int), l.length = m.length → (∀ x ∈ l, 1 ≤ x ∧ x ≤ 9) → (∀ x ∈ m, 1 ≤ x ∧ x ≤ 9) → code l = code m → l = m
  | [], [], _, _, _, _ => rfl
  | [], _ :: _, h, _, _, _ => by simp at h
  | _ :: _, [], h, _, _, _ => by simp at h
  | x :: xs, y :: ys, h, hx, hy, e => by
    have a := hx x (List.mem_cons_self ..)
    have b := hy y (List.mem_cons_self ..)
    simp only [code] at e
    have e1 : x = y := by omega
    have e2 : code xs = code ys := by omega
    rw [e1, code_inj xs ys (by simpa using h) (fun z hz => hx z (List.mem_cons_of_mem _ hz)) (fun z hz => hy z (List.mem_cons_of_mem _ hz)) e2]
theorem flat_inj : ∀ (a b : List (List Int)), a.map List.length = b.map List.length → a.flatten = b.flatten → a = b
  | [], [], _, _ => rfl
  | [], _ :: _, h, _ => by simp at h
  | _ :: _, [], h, _ => by simp at h
  | x :: xs, y :: ys, h, e => by
    simp only [List.map_cons, List.cons.injEq] at h
    simp only [List.flatten_cons] at e
    obtain ⟨e1, e2⟩ := List.append_inj e h.1
    rw [e1, flat_inj xs ys h.2 e2]
theorem plain_ext {t u : Tab} (h : isPlain t = true) (h' : isPlain u = true) (eo : outer t = outer u) (ef : t.2.flatten = u.2.flatten) : t = u := by
  have el : t.2.length = u.2.length := by rw [← outer_len, ← outer_len, eo]
  refine Prod.ext (by rw [plain_inner h, plain_inner h']) (flat_inj _ _ ?_ ef)
  refine List.ext_getElem (by simpa using el) fun r h1 h2 => ?_
  simp only [List.length_map] at h1 h2
  rw [List.getElem_map, List.getElem_map]
  have a := plain_outer h h1
  have b := plain_outer h' h2
  rw [eo] at a
  rw [getD_lt h1] at a
  rw [getD_lt h2] at b
  omega
theorem good_code {t : Tab} (h : Good t) : 0 ≤ code t.2.flatten ∧ code t.2.flatten < 1000000000 ∧ (∀ x ∈ t.2.flatten, 1 ≤ x ∧ x ≤ 9) := by
  have hp := h.pl
  simp only [isPlain, Bool.and_eq_true] at hp
  have := tab_entries hp.1
  have := code_lt 9 _ (plain_nine h.pl) this
  refine ⟨this.1, this.2, ?_⟩
  assumption
/-- Each orbit comes back. -/
theorem comes_back {t : Tab} (h : Good t) : ∃ d, 1 ≤ d ∧ d ≤ 1000000000 ∧ iter d t = t := by
  refine Classical.byContradiction fun hno => ?_
  have hne : ∀ i j, i < j → j ≤ 1000000000 → iter i t ≠ iter j t := by
    intro i j hij hj e
    refine hno ⟨j - i, by omega, by omega, ?_⟩
    rw [show j = (j - i) + i by omega, iter_add] at e
    exact (iter_inj i h (iter_good (j - i) h) e).symm
  have hcode : ∀ i j, code (iter i t).2.flatten = code (iter j t).2.flatten → iter i t = iter j t := by
    intro i j e
    have a := iter_good i h
    have b := iter_good j h
    have eo : outer (iter i t) = outer (iter j t) := by rw [iter_outer i h, iter_outer j h]
    have el : (iter i t).2.flatten.length = (iter j t).2.flatten.length := by
      have x := plain_sum a.pl
      have y := plain_sum b.pl
      rw [eo] at x
      omega
    exact plain_ext a.pl b.pl eo (code_inj _ _ el (good_code a).2.2 (good_code b).2.2 e)
  have hR : ((List.range 1000000001).map fun i => code (iter i t).2.flatten + 1).Nodup := by
    rw [List.Nodup, List.pairwise_map]
    refine List.Pairwise.imp_of_mem (R := fun a b => a < b) (fun {a b} ha hb hab e => ?_) List.pairwise_lt_range
    rw [List.mem_range] at hb
    exact hne a b hab (by omega) (hcode a b (by omega))
  have hsub : ∀ x ∈ (List.range 1000000001).map (fun i => code (iter i t).2.flatten + 1), x ∈ upTo 1000000000 := by
    intro x hx
    obtain ⟨i, _, rfl⟩ := List.mem_map.1 hx
    have := good_code (iter_good i h)
    rw [upTo_mem]
    omega
  have := len_sub _ _ hR hsub
  rw [List.length_map, List.length_range, upTo_len] at this
  omega
/-- The promotions until a tableau comes again. -/
def orbGo : Nat → Tab → Tab → List Tab → List Tab
  | 0, _, _, acc => acc
  | m + 1, t, cur, acc => if prom cur = t then acc else orbGo m t (prom cur) (acc ++ [prom cur])
theorem orbGo_len : ∀ (m : Nat) (t cur : Tab) (acc : List Tab), (orbGo m t cur acc).length ≤ acc.length + m
  | 0, _, _, _ => Nat.le_refl _
  | m + 1, t, cur, acc => by
    unfold orbGo
    split
    · omega
    · have := orbGo_len m t (prom cur) (acc ++ [prom cur])
      rw [List.length_append, List.length_singleton] at this
      omega
theorem std_back {t : Tab} (h : isPlain t = true) (hs : isStd t = true) : ∃ d, 1 ≤ d ∧ d ≤ 1000000000 ∧ iter d t = t := by
  by_cases hn : t.2.flatten.length = 0
  · refine ⟨1, by omega, by omega, ?_⟩
    show (promote t).1 = t
    unfold promote
    rw [if_pos ⟨h, hs⟩, if_pos hn]
    refine Prod.ext (plain_inner h).symm ?_
    refine (List.eq_nil_of_length_eq_zero (Nat.eq_zero_of_not_pos fun hp => ?_)).symm
    have := row_pos h hp
    have hl := cel_mem hp (show 0 < (t.2.getD 0 []).length by omega)
    rw [List.eq_nil_of_length_eq_zero hn] at hl
    simp at hl
  · exact comes_back ⟨h, hs, hn⟩
end Go.Am.Pu
end

section
/- A slide outwards, as the program has it; demotion. Plain words. -/
namespace Go.Am.Pu
theorem cell_left (g : List (List Int)) (i c : Nat) : cellI g i ((c : Int) - 1) = leftOf g i c := by
  unfold leftOf
  by_cases e : c = 0
  · subst e
    unfold cellI
    rw [if_neg (by omega), atI_neg (by omega)]; rfl
  · rw [if_neg e, show (c : Int) - 1 = ((c - 1 : Nat) : Int) by omega, cellI_nat]; rfl
theorem cell_up (g : List (List Int)) (i c : Nat) : cellI g ((i : Int) - 1) c = upOf g i c := by
  unfold upOf
  by_cases e : i = 0
  · subst e; rw [cellI_neg (by omega)]; rfl
  · rw [if_neg e, show (i : Int) - 1 = ((i - 1 : Nat) : Int) by omega, cellI_nat]; rfl
theorem left_in {g : List (List Int)} {i c : Nat} (h : leftOf g i c ≠ 0) : 1 ≤ c ∧ i < g.length ∧ c - 1 < (g.getD i []).length := by
  unfold leftOf at h
  by_cases e : c = 0
  · rw [if_pos e] at h; exact absurd rfl h
  · rw [if_neg e] at h
    have := cel_in h
    exact ⟨by omega, this.1, this.2⟩
theorem up_in {g : List (List Int)} {i c : Nat} (h : upOf g i c ≠ 0) : 1 ≤ i ∧ i - 1 < g.length ∧ c < (g.getD (i - 1) []).length := by
  unfold upOf at h
  by_cases e : i = 0
  · rw [if_pos e] at h; exact absurd rfl h
  · rw [if_neg e] at h
    have := cel_in h
    exact ⟨by omega, this.1, this.2⟩
theorem left_val {V : Int → Prop} {g : List (List Int)} (v0 : V 0) (h : ∀ r x, V (cel g r x)) (i c : Nat) : V (leftOf g i c) := by
  unfold leftOf; split
  · exact v0
  · exact h _ _
theorem up_val {V : Int → Prop} {g : List (List Int)} (v0 : V 0) (h : ∀ r x, V (cel g r x)) (i c : Nat) : V (upOf g i c) := by
  unfold upOf; split
  · exact v0
  · exact h _ _
theorem set_pos {g : List (List Int)} (h : ∀ r x, 0 ≤ cel g r x) (i c : Nat) {v : Int} (hv : 0 ≤ v) : ∀ r x, 0 ≤ cel (setc g i c v) r x := by
  intro r x
  by_cases e : r = i ∧ x = c
  · obtain ⟨rfl, rfl⟩ := e
    by_cases h1 : r < g.length
    · by_cases h2 : x < (g.getD r []).length
      · rw [setc_at _ h1 h2]; exact hv
      · have hl := setc_row g r x v r
        show 0 ≤ ((setc g r x v).getD r []).getD x 0
        rw [getD_ge (xs := (setc g r x v).getD r []) (by omega)]; omega
    · show 0 ≤ ((setc g r x v).getD r []).getD x 0
      rw [getD_ge (xs := setc g r x v) (by rw [setc_len]; omega)]; simp
  · rw [setc_ne _ e]; exact h r x
/-- The rows that hold cells, behind an inner partition. -/
def ofGo (q : List Int) : Nat → List (List Int) → List (List Int)
  | _, [] => []
  | i, r :: rs => if 0 < r.length then r.drop (q.getD i 0).toNat :: ofGo q (i + 1) rs else ofGo q (i + 1) rs
theorem addBox_lt {p q : List Int} {n : Nat} (h : addBox p n = (q, true)) : n ≤ p.length ∧ n < q.length ∧ q.length ≤ p.length + 1 ∧ (∀ r, q.getD r 0 = if r = n then p.getD n 0 + 1 else p.getD r 0) ∧ isPart q = true := by
  have hl := addBox_len p n
  rw [h] at hl
  unfold addBox at h
  by_cases hc : isPart p = true ∧ (0 : Int) ≤ n ∧ (n : Int) ≤ p.length
  · rw [if_pos hc] at h
    have hn : n ≤ p.length := by omega
    generalize hw : (if (n : Int) = p.length then p ++ [0] else p) = w at h
    have hb : ∀ r, w.getD r 0 = p.getD r 0 := fun r => by
      rw [← hw]
      split
      · by_cases hr : r < p.length
        · rw [getD_appL hr]
        · rw [getD_appR (by omega), getD_ge (xs := p) (by omega)]
          cases r - p.length <;> rfl
      · rfl
    have hwl : n < w.length := by
      rw [← hw]
      split
      · rw [List.length_append, List.length_singleton]; omega
      · omega
    simp only [Int.toNat_natCast] at h
    by_cases hp : isPart (w.set n (w.getD n 0 + 1)) = true
    · rw [if_pos hp] at h
      have h1 := congrArg Prod.fst h
      simp only at h1
      subst h1
      refine ⟨hn, by rw [List.length_set]; exact hwl, hl, fun r => ?_, hp⟩
      by_cases e : r = n
      · subst e
        rw [if_pos rfl, getD_lt (by rw [List.length_set]; exact hwl), List.getElem_set_self, hb]
      · rw [if_neg e, getD_set_ne (Ne.symm e), hb]
    · rw [if_neg hp] at h
      have h2 := congrArg Prod.snd h
      simp at h2
  · rw [if_neg hc] at h
    have h2 := congrArg Prod.snd h
    simp at h2
theorem ext_getD {l m : List Int} (hl : l.length = m.length) (h : ∀ x, x < m.length → l.getD x 0 = m.getD x 0) : l = m :=
  List.ext_getElem hl fun x h1 h2 => by rw [← getD_lt h1 0, ← getD_lt h2 0]; exact h x h2
theorem map_get {l : List Int} {d : Int} {y : Nat} (h : y < l.length) : (l.map (· + d)).getD y 0 = l.getD y 0 + d := by
  rw [getD_lt (by rw [List.length_map]; exact h), List.getElem_map, getD_lt h]
theorem out_row {t : Tab} {n : Nat} (hn : n ≤ t.2.length) (r : Nat) : (outGrid t n).getD r [] = if r = n then (gridOf t).getD n [] ++ [0] else (gridOf t).getD r [] := by
  have hb : ∀ r, (if n = t.2.length then gridOf t ++ [[]] else gridOf t).getD r [] = (gridOf t).getD r [] := fun r => by
    split
    · by_cases hr : r < (gridOf t).length
      · simp only [List.getD_eq_getElem?_getD, List.getElem?_append_left hr]
      · rw [getD_ge (xs := gridOf t) (by omega)]
        simp only [List.getD_eq_getElem?_getD, List.getElem?_append_right (Nat.le_of_not_lt hr)]
        cases r - (gridOf t).length <;> rfl
    · rfl
  unfold outGrid
  by_cases e : r = n
  · subst e
    rw [if_pos rfl, getD_lt (by
      rw [List.length_set]
      split
      · rw [List.length_append, List.length_singleton, grid_len]; omega
      · rw [grid_len]; omega), List.getElem_set_self, hb]
  · rw [if_neg e, getD_set_ne (Ne.symm e), hb]
theorem out_len {t : Tab} {n : Nat} : (outGrid t n).length = if n = t.2.length then t.2.length + 1 else t.2.length := by
  unfold outGrid
  rw [List.length_set]
  split
  · rw [List.length_append, List.length_singleton, grid_len]
  · rw [grid_len]
section
variable {u : Tab}
/-- Where the greatest number stands behind a promotion. -/
theorem promote_rowOf (h : Good u) : rowOf (prom u) u.2.flatten.length = ((takeT u).2 : Int) := by
  obtain ⟨hp, hs, hn⟩ := h
  have h0 := plain_ne (t := u) (by omega)
  obtain ⟨_, _, s3, _⟩ := take_spec hp h0
  have hl := promote_len hp hs hn
  have hlt : (takeT u).2 < (prom u).2.length := by show _ < (promote u).1.2.length; omega
  have hf : (prom u).2.findIdx (fun r => has r u.2.flatten.length) = (takeT u).2 := by
    rw [List.findIdx_eq hlt]
    refine ⟨?_, fun j hj => ?_⟩
    · rw [← getD_lt hlt []]
      show has ((promote u).1.2.getD (takeT u).2 []) u.2.flatten.length = true
      rw [promote_get hp hs hn, if_pos rfl, has_iff]
      simp
    · rw [← getD_lt (show j < (prom u).2.length by omega) []]
      show has ((promote u).1.2.getD j []) u.2.flatten.length = false
      rw [Bool.eq_false_iff]
      intro hc
      rw [has_iff, promote_get hp hs hn, if_neg (by omega)] at hc
      obtain ⟨x, hx, e⟩ := List.mem_map.1 hc
      obtain ⟨y, hy, rfl⟩ := List.getElem_of_mem hx
      have := take_num hp hs h0 hy
      unfold cel at this
      rw [getD_lt hy] at this
      omega
  unfold rowOf idxI
  rw [hf, if_pos hlt]
/-- The greatest number taken out again. -/
theorem promote_cut (h : Good u) : (prom u).2.set (takeT u).2 (((prom u).2.getD (takeT u).2 []).take (((prom u).2.getD (takeT u).2 []).length - 1)) = shiftRows (-1) (withRow (takeT u)) := by
  obtain ⟨hp, hs, hn⟩ := h
  have h0 := plain_ne (t := u) (by omega)
  have hg : (prom u).2.getD (takeT u).2 [] = ((takeT u).1.2.getD (takeT u).2 []).map (· + -1) ++ [(u.2.flatten.length : Int)] := by
    have := promote_get hp hs hn (takeT u).2
    rw [if_pos rfl] at this
    exact this
  have hw := (withRow_lt hp h0).1
  rw [hg]
  show (promote u).1.2.set _ _ = _
  rw [promote_eq hp hs hn]
  simp only [List.set_set]
  refine List.ext_getElem (by rw [List.length_set]) fun r h1 h2 => ?_
  rw [← getD_lt h1 [], ← getD_lt h2 []]
  by_cases e : r = (takeT u).2
  · subst e
    rw [getD_lt (by rw [List.length_set, shift_len]; exact hw), List.getElem_set_self, shift_get, withRow_get]
    simp
  · rw [getD_set_ne (Ne.symm e)]
/-- The row that is left without numbers goes. -/
theorem promote_cut2 (h : Good u) : if ((takeT u).1.2.getD (takeT u).2 []).length = 0 then (shiftRows (-1) (withRow (takeT u))).take (takeT u).2 = (dropT u).2 else shiftRows (-1) (withRow (takeT u)) = (dropT u).2 := by
  obtain ⟨hp, hs, hn⟩ := h
  have h0 := plain_ne (t := u) (by omega)
  have hle := take_le hp h0
  have hS := (take_spec hp h0).1
  unfold withRow
  by_cases e : (takeT u).2 = (takeT u).1.2.length
  · have e1 : ((takeT u).1.2.getD (takeT u).2 []).length = 0 := by rw [getD_ge (by omega)]; rfl
    rw [if_pos e1, if_pos e]
    show (shiftRows (-1) ((takeT u).1.2 ++ [[]])).take (takeT u).2 = shiftRows (-1) (takeT u).1.2
    rw [e]
    simp [shiftRows]
  · have := row_pos hS (show (takeT u).2 < (takeT u).1.2.length by omega)
    rw [if_neg (by omega), if_neg e]
    rfl
/-- The rows that a slide outwards leaves, with 1 ahead and each number one more, are the tableau's. -/
theorem undo_rows (h : Good u) {g : List (List Int)} (ha : Ag pred0 (gridOf (openT u)) g 0 0) :
    (∀ r, r < g.length → 0 < (g.getD r []).length) ∧ g.length = u.2.length ∧
    (shiftRows 1 (ofGo [1] 0 g)).set 0 (1 :: (shiftRows 1 (ofGo [1] 0 g)).getD 0 []) = u.2 := by
  obtain ⟨hp, hs, hn⟩ := h
  have h0 := plain_ne (t := u) (by omega)
  have hl : g.length = u.2.length := by rw [ha.len, grid_len, open_len]
  have hr : ∀ r, (g.getD r []).length = (u.2.getD r []).length := fun r => by rw [ha.row, open_grow hp h0]
  have hpos : ∀ r, r < g.length → 0 < (g.getD r []).length := fun r h1 => by
    have := row_pos hp (show r < u.2.length by omega)
    rw [hr]; omega
  refine ⟨hpos, hl, ?_⟩
  have hgo : ∀ (rs : List (List Int)) (i : Nat), (∀ r ∈ rs, 0 < r.length) → (ofGo [1] i rs).length = rs.length ∧ ∀ r, r < rs.length → (ofGo [1] i rs).getD r [] = (rs.getD r []).drop (([1] : List Int).getD (i + r) 0).toNat := by
    intro rs
    induction rs with
    | nil => intro i _; exact ⟨rfl, fun r h => by simp at h⟩
    | cons x xs ih =>
      intro i hx
      obtain ⟨a, b⟩ := ih (i + 1) fun r h => hx r (List.mem_cons_of_mem _ h)
      unfold ofGo
      rw [if_pos (hx x (List.mem_cons_self ..))]
      refine ⟨by simp [a], fun r h => ?_⟩
      cases r with
      | zero => rfl
      | succ r =>
        have := b r (by simpa using h)
        rw [show i + 1 + r = i + (r + 1) by omega] at this
        exact this
  obtain ⟨o1, o2⟩ := hgo g 0 fun r hm => by
    obtain ⟨q, hq, rfl⟩ := List.getElem_of_mem hm
    have := hpos q hq
    rw [getD_lt hq] at this
    exact this
  refine List.ext_getElem (by rw [List.length_set, shift_len, o1, hl]) fun r h1 h2 => ?_
  have h3 : r < g.length := by omega
  rw [← getD_lt h1 [], ← getD_lt h2 []]
  have hsh : (shiftRows 1 (ofGo [1] 0 g)).getD r [] = ((g.getD r []).drop (([1] : List Int).getD r 0).toNat).map (· + 1) := by
    rw [shift_get, o2 r h3, Nat.zero_add]
  have hval : ∀ x, ¬ (r = 0 ∧ x = 0) → x < (u.2.getD r []).length → (g.getD r []).getD x 0 + 1 = (u.2.getD r []).getD x 0 := by
    intro x hc hx
    have a := ha.at_ r x hc
    rw [open_cel h0, if_neg hc] at a
    have b := (std_bounds hp hs).2 _ (cel_mem h2 hx)
    have c : cel u.2 r x ≠ 1 := fun e1 => hc (std_one hp hs h2 hx e1)
    unfold pred0 at a
    rw [if_neg (by omega)] at a
    unfold cel at a
    omega
  by_cases e : r = 0
  · subst e
    rw [getD_lt h1, List.getElem_set_self, hsh]
    have hrl := hr 0
    have hp0 := hpos 0 h3
    refine ext_getD (by rw [List.length_cons, List.length_map, List.length_drop, one_get, if_pos rfl, show (1 : Int).toNat = 1 from rfl]; omega) fun x h5 => ?_
    cases x with
    | zero => exact (std_first hp hs (by omega)).symm
    | succ x =>
      show (((g.getD 0 []).drop 1).map (· + 1)).getD x 0 = _
      rw [map_get (by rw [List.length_drop]; omega), getD_drop, ← hval (x + 1) (by omega) h5, Nat.add_comm 1 x]
  · rw [getD_set_ne (Ne.symm e), hsh, one_get, if_neg e]
    have hrl := hr r
    refine ext_getD (by rw [List.length_map, List.length_drop, show (0 : Int).toNat = 0 from rfl]; omega) fun x h5 => ?_
    show (((g.getD r []).drop 0).map (· + 1)).getD x 0 = _
    rw [map_get (by rw [List.length_drop]; omega), getD_drop, ← hval x (by omega) h5, Nat.zero_add]
end
end Go.Am.Pu
end

section
/- The last promotion of an orbit; orbits' sizes. Plain words. -/
namespace Go.Am.Pu
theorem orb_last {t : Tab} : ∀ (m : Nat) (cur : Tab) (acc : List Tab), Good cur → (∃ d, 1 ≤ d ∧ d ≤ m ∧ iter d cur = t) → ∃ l u, orbGo m t cur (acc ++ [cur]) = l ++ [u] ∧ Good u ∧ prom u = t
  | 0, cur, acc, _, ⟨d, h1, h2, _⟩ => by omega
  | m + 1, cur, acc, hg, ⟨d, h1, h2, h3⟩ => by
    unfold orbGo
    by_cases c : prom cur = t
    · rw [if_pos c]; exact ⟨acc, cur, rfl, hg, c⟩
    · rw [if_neg c]
      refine orb_last m (prom cur) (acc ++ [cur]) hg.prom ?_
      cases d with
      | zero => omega
      | succ d =>
        have h3 : iter d (prom cur) = t := h3
        refine ⟨d, ?_, by omega, h3⟩
        cases d with
        | zero => exact absurd h3 c
        | succ d => omega
theorem empty_std {t : Tab} (h : isPlain t = true) (hn : t.2.flatten.length = 0) : t = ([], []) := by
  refine Prod.ext (plain_inner h) ?_
  refine List.eq_nil_of_length_eq_zero (Nat.eq_zero_of_not_pos fun hp => ?_)
  have := row_pos h hp
  have hl := cel_mem hp (show 0 < (t.2.getD 0 []).length by omega)
  rw [List.eq_nil_of_length_eq_zero hn] at hl
  simp at hl
/-- The tableau whose promotion is this one: the last of the orbit. -/
theorem orbit_end {m : Nat} {t : Tab} (h : isPlain t = true) (hs : isStd t = true) (hd : ∃ d, 1 ≤ d ∧ d ≤ m ∧ iter d t = t) :
    ∃ l u, orbGo m t t [t] = l ++ [u] ∧ TabOK u ∧ ((Good u ∧ prom u = t) ∨ (t.2.flatten.length = 0 ∧ u = ([], []))) := by
  by_cases hn : t.2.flatten.length = 0
  · have ht := empty_std h hn
    subst ht
    obtain ⟨d, h1, h2, _⟩ := hd
    refine ⟨[], ([], []), ?_, TabOK.nil, .inr ⟨rfl, rfl⟩⟩
    cases m with
    | zero => omega
    | succ m =>
      unfold orbGo
      rw [if_pos ?_]; rfl
      show (promote ([], [])).1 = ([], [])
      unfold promote
      rw [if_pos ⟨h, hs⟩, if_pos hn]
  · obtain ⟨l, u, a, b, c⟩ := orb_last m t [] ⟨h, hs, hn⟩ hd
    refine ⟨l, u, a, ?_, .inl ⟨b, c⟩⟩
    have hr := plain_rows b.pl
    exact ⟨by rw [plain_inner b.pl]; simp, by have := hr.1; omega, fun r hm => by have := hr.2 r hm; omega⟩
/-- The orbit's tableaux are small. -/
def TabSm (t : Tab) : Prop := t.1 = [] ∧ RowsLe 10 10 t.2
theorem TabSm.ok {t : Tab} (h : TabSm t) : TabOK t := ⟨by rw [h.1]; simp, by have := h.2.1; omega, fun r hr => by have := h.2.2 r hr; omega⟩
theorem TabSm.size {t : Tab} (h : TabSm t) : size2 t.2 ≤ 100 := by
  have a := size2_le t.2 10 h.2.2
  have b := h.2.1
  omega
section
attribute [local instance] D.real
variable {α β : Type} {x y v : Option α}
/-- Steps through an equation's right side, one at a time. -/
theorem bE {x : Option β} {z : β} {f : β → Option α} (h : x = some z) (g : f z = v) : D.bnd x f = v := by rw [h]; exact g
theorem tN (g : x = v) : D.test (D.no true) y x = v := g
theorem tG {p : Prop} [Decidable p] (h : p) (g : x = v) : D.test (decide p) x y = v := by
  show (if decide p = true then x else y) = v
  rw [if_pos (decide_eq_true h)]; exact g
theorem tX {p : Prop} [Decidable p] (h : ¬ p) (g : y = v) : D.test (decide p) x y = v := by
  show (if decide p = true then x else y) = v
  rw [decide_eq_false h]; exact g
theorem tE {a b : Int} (h : a = b) (g : x = v) : D.test (D.no (D.eq a b)) y x = v := by
  show (if (!decide (a = b)) = true then y else x) = v
  rw [decide_eq_true h]; exact g
theorem tB {b : Bool} (g : x = v) : D.test (D.no (D.eqB b b)) y x = v := by
  show (if (!(b == b)) = true then y else x) = v
  rw [beq_self_eq_true]; exact g
end
end Go.Am.Pu
end
