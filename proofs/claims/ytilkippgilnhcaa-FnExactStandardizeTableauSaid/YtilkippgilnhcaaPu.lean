/- Plain laws of lists, partitions, shapes and tableaux; no program in sight. -/
import Derived.Test.YtilkippgilnhcaaAmP
set_option linter.unusedSimpArgs false
set_option linter.unusedVariables false
set_option linter.unnecessarySimpa false
set_option linter.unusedSectionVars false
section
/- Rules for loops over data: a loop that looks at all, a loop that folds. -/
namespace Go.Am.Pu
open Go.Am
theorem w64 {n : Int} (h1 : -9223372036854775808 ≤ n) (h2 : n ≤ 9223372036854775807) : IntKind.i64.wrap n = n := Go.Am.w64 h1 h2
theorem ji {R : Type} (L : Nat → Nat → Option R) (n : Nat) (p : Nat → Bool) (bad xH : Option R)
    (hs : ∀ j i, i < n → L (j + 1) i = if p i = true then L j (i + 1) else bad) (he : ∀ j, L (j + 1) n = xH) :
    ∀ (m j i : Nat), i + m = n → m < j → L j i = if (List.range' i m).all p = true then xH else bad
  | m, 0, i, _, h => by omega
  | 0, j + 1, i, h, _ => by
    have : i = n := by omega
    subst this
    rw [he]; rfl
  | m + 1, j + 1, i, h, hj => by
    rw [hs j i (by omega), ji L n p bad xH hs he m j (i + 1) (by omega) (by omega), List.range'_succ, List.all_cons]
    cases p i
    · rw [if_neg (by simp), Bool.false_and, if_neg (by simp)]
    · rw [if_pos rfl, Bool.true_and]
theorem eA {p : Nat → Bool} {n : Nat} : (List.range' 0 n).all p = true ↔ ∀ i, i < n → p i = true := by
  simp [List.all_eq_true, List.mem_range'_1]
theorem aJ {α : Type} {xs : List α} {i : Nat} (h : i < xs.length) (d : α) : xs.getD i d = xs[i] := by
  simp only [List.getD_eq_getElem?_getD, List.getElem?_eq_getElem h, Option.getD_some]
theorem bQ {α : Type} {xs : List α} {i : Nat} (h : xs.length ≤ i) (d : α) : xs.getD i d = d := by
  simp only [List.getD_eq_getElem?_getD, List.getElem?_eq_none h, Option.getD_none]
theorem drop_cons {α : Type} {xs : List α} {i : Nat} (h : i < xs.length) (d : α) : xs.drop i = xs.getD i d :: xs.drop (i + 1) := by
  rw [aJ h, List.drop_eq_getElem_cons h]
theorem take_succ {α : Type} {xs : List α} {i : Nat} (h : i < xs.length) (d : α) : xs.take (i + 1) = xs.take i ++ [xs.getD i d] := by
  rw [aJ h, List.take_succ_eq_append_getElem h]
theorem sg {α : Type} {xs : List α} {i : Nat} (h : i < xs.length) (d z : α) : (xs.take i ++ List.replicate (xs.length - i) z).set i (xs.getD i d) = xs.take (i + 1) ++ List.replicate (xs.length - (i + 1)) z := by
  have e : xs.length - i = xs.length - (i + 1) + 1 := by omega
  rw [take_succ h d, e, List.replicate_succ, List.set_append_right _ _ (by simp; omega)]
  simp [Nat.min_eq_left (Nat.le_of_lt h)]
end Go.Am.Pu
end
section
/- Marking memory and looking whether the marks are held. -/
namespace Go.Am.Pu
def held : List Int → Int → Int
  | [], q => q
  | x :: xs, q => if x = q then held xs (q + 1) else -1
def mark : List Int → Int → List Int
  | [], _ => []
  | _ :: xs, q => q :: mark xs (q + 1)
theorem j4 : ∀ (xs : List Int) (q : Int), (mark xs q).length = xs.length
  | [], _ => rfl
  | _ :: xs, q => by simp [mark, j4 xs]
theorem om : ∀ (xs : List Int) (q : Int), held (mark xs q) q = q + xs.length
  | [], q => by simp [mark, held]
  | _ :: xs, q => by
    simp only [mark, held, if_true, List.length_cons]
    rw [om xs]
    omega
theorem sM : ∀ (xs : List Int) (q : Int), 0 ≤ q → held xs q ≤ q + xs.length
  | [], q, _ => by simp [held]
  | x :: xs, q, h => by
    simp only [held, List.length_cons]
    split
    · have := sM xs (q + 1) (by omega)
      omega
    · omega
def iF : List (List Int) → Int → Int
  | [], q => q
  | x :: xs, q => if held x q < 0 then -1 else iF xs (held x q)
theorem rH : ∀ (xs : List (List Int)) (q : Int), 0 ≤ q → iF xs q < 0 → iF xs q = -1
  | [], q, _, h' => by simp [iF] at h'; omega
  | x :: xs, q, h, h' => by
    simp only [iF] at h' ⊢
    split
    · rfl
    · next e => rw [if_neg e] at h'; exact rH xs _ (by omega) h'
def iv : List (List Int) → Int → List (List Int)
  | [], _ => []
  | x :: xs, q => mark x q :: iv xs (q + x.length)
def dZ : List (List Int) → Nat
  | [] => 0
  | x :: xs => x.length + dZ xs
theorem qJ : ∀ (xs : List (List Int)) (n : Nat), (∀ x ∈ xs, x.length ≤ n) → dZ xs ≤ xs.length * n
  | [], n, _ => by simp [dZ]
  | x :: xs, n, h => by
    have h1 := h x (by simp)
    have h2 := qJ xs n fun y hy => h y (by simp [hy])
    simp only [dZ, List.length_cons, Nat.succ_mul]
    omega
theorem rO {xs : List (List Int)} (h : xs.length ≤ 1048576) (hr : ∀ x ∈ xs, x.length ≤ 1048576) : dZ xs ≤ 1099511627776 := by
  have h1 := qJ xs 1048576 hr
  have h2 : xs.length * 1048576 ≤ 1048576 * 1048576 := Nat.mul_le_mul_right _ h
  omega
theorem wK {xs : List (List Int)} {q : Int} {n : Nat} (h : ∀ x ∈ xs, x.length ≤ n) : ∀ y ∈ iv xs q, y.length ≤ n := by
  induction xs generalizing q with
  | nil => intro y hy; cases hy
  | cons x xs ih =>
    intro y hy
    simp only [iv, List.mem_cons] at hy
    rcases hy with rfl | hy
    · rw [j4]; exact h x (by simp)
    · exact ih (fun z hz => h z (by simp [hz])) y hy
theorem qT : ∀ (xs : List (List Int)) (q : Int), dZ (iv xs q) = dZ xs
  | [], _ => rfl
  | x :: xs, q => by simp [iv, dZ, j4, qT xs]
theorem rZ : ∀ (xs : List (List Int)) (q : Int), (iv xs q).length = xs.length
  | [], _ => rfl
  | _ :: xs, q => by simp [iv, rZ xs]
theorem qE : ∀ (xs : List (List Int)) (q : Int), 0 ≤ q → iF (iv xs q) q = q + dZ xs
  | [], q, _ => by simp [iv, iF, dZ]
  | x :: xs, q, h => by
    simp only [iv, iF, dZ]
    rw [om, if_neg (by omega), qE xs _ (by omega)]
    omega
end Go.Am.Pu
end
section
/- Partitions, shapes and tableaux as plain words. -/
namespace Go.Am.Pu
def within (x lo hi : Int) : Bool := decide (lo ≤ x) && decide (x ≤ hi)
def atI (p : List Int) (i : Int) : Int := if i < 0 then 0 else p.getD i.toNat 0
theorem cH (p : List Int) (i : Nat) : atI p (i : Int) = p.getD i 0 := by simp [atI]; omega
theorem na {p : List Int} {i : Int} (h : i < 0) : atI p i = 0 := by simp [atI, h]
theorem sI {p : List Int} {i : Int} (h : (p.length : Int) ≤ i) : atI p i = 0 := by
  unfold atI
  split
  · rfl
  · exact bQ (by omega) 0
def eL : List Int → Int → Int → Bool
  | [], _, _ => true
  | x :: xs, prev, s => decide (1 ≤ x) && (decide (x ≤ prev) && (decide (s + x ≤ 9) && eL xs x (s + x)))
def b9 (p : List Int) : Bool := eL p 9 0
def fJ : List Int → Int
  | [] => 0
  | x :: xs => x + fJ xs
theorem oS : ∀ (p : List Int) (prev s : Int), eL p prev s = true → (∀ x ∈ p, 1 ≤ x ∧ x ≤ prev) ∧ (p ≠ [] → s + fJ p ≤ 9) ∧ (p.length : Int) ≤ fJ p
  | [], prev, s, _ => ⟨fun x h => (by cases h), fun h => absurd rfl h, (by simp [fJ])⟩
  | x :: xs, prev, s, h => by
    simp only [eL, Bool.and_eq_true, decide_eq_true_eq] at h
    obtain ⟨h1, h2, h3, h4⟩ := h
    obtain ⟨k1, k2, k3⟩ := oS xs x (s + x) h4
    refine ⟨fun y hy => ?_, fun _ => ?_, ?_⟩
    · rcases List.mem_cons.1 hy with rfl | hy
      · exact ⟨h1, h2⟩
      · have := k1 y hy; omega
    · simp only [fJ]
      by_cases e : xs = []
      · subst e; simp [fJ]; omega
      · have := k2 e; omega
    · simp only [fJ, List.length_cons]; omega
theorem bY {p : List Int} (h : b9 p = true) : (∀ x ∈ p, 1 ≤ x ∧ x ≤ 9) ∧ fJ p ≤ 9 ∧ p.length ≤ 9 ∧ (p.length : Int) ≤ fJ p := by
  obtain ⟨h1, h2, h3⟩ := oS p 9 0 h
  have : fJ p ≤ 9 := by
    by_cases e : p = []
    · subst e; simp [fJ]
    · have := h2 e; omega
  exact ⟨h1, this, by omega, h3⟩
theorem cK {p : List Int} (h : b9 p = true) (i : Int) : 0 ≤ atI p i ∧ atI p i ≤ 9 := by
  unfold atI
  split
  · omega
  · by_cases hl : i.toNat < p.length
    · rw [aJ hl]
      have := (bY h).1 _ (List.getElem_mem hl)
      omega
    · rw [bQ (by omega)]; omega
def de (q p : List Int) : Bool := b9 q && (b9 p && (decide (q.length ≤ p.length) && (List.range' 0 q.length).all fun i => decide (q.getD i 0 ≤ p.getD i 0)))
theorem vE {q p : List Int} (hq : b9 q = true) (h : (List.range' 0 q.length).all (fun i => decide (q.getD i 0 ≤ p.getD i 0)) = true) : q.length ≤ p.length := by
  rw [eA] at h
  refine Nat.le_of_not_lt fun hlt => ?_
  have h1 := h p.length hlt
  rw [decide_eq_true_eq, bQ (Nat.le_refl _), aJ hlt] at h1
  have := (bY hq).1 _ (List.getElem_mem hlt)
  omega
theorem tU {q p : List Int} : de q p = (b9 q && (b9 p && (List.range' 0 q.length).all fun i => decide (q.getD i 0 ≤ p.getD i 0))) := by
  unfold de
  cases hq : b9 q with
  | false => rfl
  | true =>
    cases hp : b9 p with
    | false => rfl
    | true =>
      simp only [Bool.true_and]
      cases ha : (List.range' 0 q.length).all fun i => decide (q.getD i 0 ≤ p.getD i 0) with
      | false => simp
      | true => simp [vE hq ha]
def cV (inner : List Int) : Nat → List (List Int) → List Int
  | _, [] => []
  | i, r :: rs => (inner.getD i 0 + r.length) :: cV inner (i + 1) rs
theorem im (inner : List Int) : ∀ (rs : List (List Int)) (i : Nat), (cV inner i rs).length = rs.length
  | [], _ => rfl
  | _ :: rs, i => by simp [cV, im inner rs]
theorem dh (inner : List Int) : ∀ (rs : List (List Int)) (i q : Nat), q < rs.length → (cV inner i rs).getD q 0 = inner.getD (i + q) 0 + (rs.getD q []).length
  | [], i, q, h => by simp at h
  | r :: rs, i, 0, _ => by simp [cV]
  | r :: rs, i, q + 1, h => by
    have := dh inner rs (i + 1) q (by simpa using h)
    simp only [cV, List.getD_cons_succ]
    rw [this]
    have e : i + 1 + q = i + (q + 1) := by omega
    rw [e]
abbrev Tab := List Int × List (List Int)
def outer (t : Tab) : List Int := cV t.1 0 t.2
def cy (t : Tab) : Bool := b9 t.1 && (decide (t.1.length ≤ t.2.length) && de t.1 (outer t))
def shapeOf (t : Tab) : (List Int × List Int) × Bool := if cy t = true then ((outer t, t.1), true) else (([], []), false)
theorem iy {t : Tab} (h : cy t = true) : t.2.length ≤ 9 := by
  simp only [cy, de, Bool.and_eq_true] at h
  have := (bY h.2.2.2.1).2.2.1
  rw [outer, im] at this
  exact this
def entry (t : Tab) (r c : Int) : Int := if r < 0 then 0 else if (t.2.length : Int) ≤ r then 0 else atI (t.2.getD r.toNat []) (c - atI t.1 r)
theorem lU {t : Tab} {r : Nat} (h : r < t.2.length) (c : Int) : entry t r c = atI (t.2.getD r []) (c - t.1.getD r 0) := by
  unfold entry
  rw [if_neg (by omega), if_neg (by omega), cH]
  rfl
theorem xo {t : Tab} {r c : Int} (h : r < 0) : entry t r c = 0 := by unfold entry; rw [if_pos h]
theorem lz {t : Tab} {r q : Nat} (h : r < t.2.length) : entry t r (t.1.getD r 0 + q) = (t.2.getD r []).getD q 0 := by
  rw [lU h]
  have e : t.1.getD r 0 + (q : Int) - t.1.getD r 0 = q := by omega
  rw [e, cH]
theorem vC {t : Tab} {r q : Nat} (h : r < t.2.length) : entry t r (t.1.getD r 0 + q - 1) = if q = 0 then 0 else (t.2.getD r []).getD (q - 1) 0 := by
  rw [lU h]
  by_cases e : q = 0
  · subst e
    rw [if_pos rfl, na (by omega)]
  · rw [if_neg e]
    have e : t.1.getD r 0 + (q : Int) - 1 - t.1.getD r 0 = ((q - 1 : Nat) : Int) := by omega
    rw [e, cH]
def ez (t : Tab) (i k : Nat) : Bool := within ((t.2.getD i []).getD k 0) 1 9 && ((decide (k = 0) || decide ((t.2.getD i []).getD (k - 1) 0 ≤ (t.2.getD i []).getD k 0)) &&
  (decide (i = 0) || decide (entry t ((i : Int) - 1) (t.1.getD i 0 + k) < (t.2.getD i []).getD k 0)))
def dm (t : Tab) : Bool := cy t && (List.range' 0 t.2.length).all fun i => (List.range' 0 (t.2.getD i []).length).all fun k => ez t i k
def ck (t : Tab) : Bool := dm t && decide (t.1.length = 0)
theorem g7 {t : Tab} (h : dm t = true) : cy t = true := by
  simp only [dm, Bool.and_eq_true] at h; exact h.1
theorem mc (inner : List Int) : ∀ (rs : List (List Int)) (i : Nat), (∀ q, i ≤ q → inner.getD q 0 = 0) → fJ (cV inner i rs) = rs.flatten.length
  | [], i, _ => rfl
  | r :: rs, i, h => by
    simp only [cV, fJ, List.flatten_cons, List.length_append]
    rw [mc inner rs (i + 1) (fun q hq => h q (by omega)), h i (Nat.le_refl _)]
    omega
theorem vS {t : Tab} (h : ck t = true) : t.2.flatten.length ≤ 9 := by
  simp only [ck, Bool.and_eq_true, decide_eq_true_eq] at h
  have hs := g7 h.1
  simp only [cy, de, Bool.and_eq_true] at hs
  have h9 := (bY hs.2.2.2.1).2.1
  have : t.1 = [] := List.eq_nil_of_length_eq_zero h.2
  rw [outer, mc t.1 t.2 0 (fun q _ => by rw [this]; rfl)] at h9
  omega
def dc : List (List Int) → Int → List (List Int) × Nat
  | [], x => ([[x]], 0)
  | r :: rs, x => if r.findIdx (fun n => decide (x < n)) < r.length
      then (r.set (r.findIdx fun n => decide (x < n)) x :: (dc rs (r.getD (r.findIdx fun n => decide (x < n)) 0)).1, (dc rs (r.getD (r.findIdx fun n => decide (x < n)) 0)).2 + 1)
      else ((r ++ [x]) :: rs, 0)
def nh (t : Tab) : Prop := t.1.length ≤ 1048576 ∧ t.2.length ≤ 1048576 ∧ ∀ x ∈ t.2, x.length ≤ 1048576
theorem nh.nil : nh ([], []) := ⟨by simp, by simp, fun x h => by cases h⟩
theorem qD : ∀ {rs : List (List Int)} {r : List Int}, r ∈ rs → r.length ≤ rs.flatten.length
  | q :: rs, r, h => by
    simp only [List.flatten_cons, List.length_append]
    rcases List.mem_cons.1 h with rfl | h
    · omega
    · have := qD h; omega
theorem vd {p : Int → Bool} {r : List Int} (h : r.findIdx p < r.length) : p (r.getD (r.findIdx p) 0) = true := by
  rw [aJ h]; exact List.findIdx_getElem
end Go.Am.Pu
end
section
/- Standard tableaux, weights, descents: plain words. -/
namespace Go.Am.Pu
def zp {α : Type} (p : α → Bool) (r : List α) : Int := if r.findIdx p < r.length then (r.findIdx p : Int) else -1
def has (l : List Int) (x : Int) : Bool := l.any fun y => decide (x = y)
theorem pj {l : List Int} {x : Int} : has l x = true ↔ x ∈ l := by
  simp [has, List.any_eq_true]
def kJ (l : List Int) : Bool := (List.range' 0 l.length).all fun i => has l ((i : Int) + 1)
theorem px : ∀ (R l : List Int), R.Nodup → (∀ x ∈ R, x ∈ l) → R.length ≤ l.length
  | [], l, _, _ => by simp
  | x :: R, l, hn, h => by
    rw [List.nodup_cons] at hn
    have hx := h x (by simp)
    have := px R (l.erase x) hn.2 fun y hy => (List.mem_erase_of_ne fun (e : y = x) => hn.1 (e ▸ hy)).2 (h y (by simp [hy]))
    rw [List.length_erase_of_mem hx] at this
    have : 0 < l.length := List.length_pos_of_mem hx
    simp only [List.length_cons]
    omega
def rk (n : Nat) : List Int := (List.range n).map fun (i : Nat) => (i : Int) + 1
theorem fM {n : Nat} {x : Int} : x ∈ rk n ↔ 1 ≤ x ∧ x ≤ n := by
  simp only [rk, List.mem_map, List.mem_range]
  constructor
  · rintro ⟨i, h, rfl⟩; omega
  · rintro ⟨h1, h2⟩; exact ⟨(x - 1).toNat, by omega, by omega⟩
theorem qv (n : Nat) : (rk n).Nodup := by
  unfold rk
  refine List.Pairwise.map _ (fun (a b : Nat) (h : a ≠ b) => ?_) List.nodup_range
  intro e
  exact h (by omega)
theorem qb (n : Nat) : (rk n).length = n := by simp [rk]
theorem jt {l : List Int} : kJ l = true ↔ ∀ x ∈ rk l.length, x ∈ l := by
  unfold kJ
  rw [eA]
  constructor
  · intro h x hx
    rw [fM] at hx
    have := h (x - 1).toNat (by omega)
    rw [pj] at this
    have e : (((x - 1).toNat : Nat) : Int) + 1 = x := by omega
    rw [e] at this; exact this
  · intro h i hi
    rw [pj]
    exact h _ (fM.2 (by omega))
theorem u3 {l : List Int} (h1 : ∀ x ∈ l, 1 ≤ x) : kJ l = true ↔ l.Nodup ∧ ∀ x ∈ l, x ≤ l.length := by
  rw [jt]
  constructor
  · intro h
    refine ⟨?_, fun x hx => ?_⟩
    ·
      refine Classical.byContradiction fun hn => ?_
      have : ∃ x, x ∈ l ∧ x ∈ l.erase x := by
        have key : ∀ l : List Int, ¬ l.Nodup → ∃ x, x ∈ l ∧ x ∈ l.erase x := by
          intro l
          induction l with
          | nil => intro h; exact absurd List.nodup_nil h
          | cons a l ih =>
            intro h
            by_cases ha : a ∈ l
            · exact ⟨a, by simp, by simpa using ha⟩
            · have : ¬ l.Nodup := fun hl => h (List.nodup_cons.2 ⟨ha, hl⟩)
              obtain ⟨x, h1, h2⟩ := ih this
              refine ⟨x, by simp [h1], ?_⟩
              have hne : a ≠ x := fun e => ha (e ▸ h1)
              rw [List.erase_cons_tail (by simpa using hne)]
              exact List.mem_cons_of_mem _ h2
        exact key l hn
      obtain ⟨x, hx, hx2⟩ := this
      have := px (rk l.length) (l.erase x) (qv _) fun y hy => by
        by_cases e : y = x
        · rw [e]; exact hx2
        · exact (List.mem_erase_of_ne e).2 (h y hy)
      rw [qb, List.length_erase_of_mem hx] at this
      have : 0 < l.length := List.length_pos_of_mem hx
      omega
    · refine Int.not_lt.1 fun hlt => ?_
      have := px (rk l.length) (l.erase x) (qv _) fun y hy => by
        have hy' := fM.1 hy
        exact (List.mem_erase_of_ne (by omega)).2 (h y hy)
      rw [qb, List.length_erase_of_mem hx] at this
      have : 0 < l.length := List.length_pos_of_mem hx
      omega
  · rintro ⟨hn, hb⟩ x hx
    refine Classical.byContradiction fun hxl => ?_
    have := px (x :: l) (rk l.length) (List.nodup_cons.2 ⟨hxl, hn⟩) fun y hy => by
      rcases List.mem_cons.1 hy with rfl | hy
      · exact hx
      · exact fM.2 ⟨h1 y hy, hb y hy⟩
    rw [qb, List.length_cons] at this
    omega
theorem tC {t : Tab} (h : dm t = true) : ∀ x ∈ t.2.flatten, 1 ≤ x ∧ x ≤ 9 := by
  intro x hx
  simp only [dm, Bool.and_eq_true] at h
  obtain ⟨r, hr, hxr⟩ := List.mem_flatten.1 hx
  obtain ⟨i, hi, e⟩ := List.mem_iff_getElem.1 hr
  obtain ⟨q, hq, e2⟩ := List.mem_iff_getElem.1 hxr
  have h1 := eA.1 h.2 i hi
  rw [aJ hi, e] at h1
  have h2 := eA.1 h1 q hq
  simp only [ez, within, Bool.and_eq_true, decide_eq_true_eq] at h2
  rw [aJ hi, e, aJ hq, e2] at h2
  exact h2.1
def gG (t : Tab) : Bool := dm t && kJ t.2.flatten
def rowOf (t : Tab) (n : Int) : Int := zp (fun r => has r n) t.2
end Go.Am.Pu
end
section
/- Plain laws of draws, and of boxes. -/
namespace Go.Am.Pu
open Go Go.Am
attribute [local instance] D.real
end Go.Am.Pu
end
section
/- Steps over equations: what a word comes to, told by what must hold of it. -/
namespace Go.Am.Pu
open Go Go.Am
attribute [local instance] D.real
section
variable {α β : Type}
def Ok (x : Option α) (Q : α → Prop) : Prop := ∃ y, x = some y ∧ Q y
theorem Ok.ret {y : α} {Q : α → Prop} (h : Q y) : Ok (some y) Q := ⟨y, rfl, h⟩
theorem Ok.mono {x : Option α} {P Q : α → Prop} (h : Ok x P) (g : ∀ y, P y → Q y) : Ok x Q :=
  let ⟨y, e, hp⟩ := h
  ⟨y, e, g y hp⟩
theorem Ok.bnd {x : Option α} {f : α → Option β} {P : α → Prop} {Q : β → Prop} (h : Ok x P) (g : ∀ y, P y → Ok (f y) Q) : Ok (D.bnd x f) Q := by
  obtain ⟨y, e, hp⟩ := h
  rw [e]
  exact g y hp
theorem Ok.t {p : Prop} [Decidable p] {x y : Option α} {Q : α → Prop} (h1 : p → Ok x Q) (h2 : ¬ p → Ok y Q) : Ok (D.test (decide p) x y) Q := by
  show Ok (if decide p = true then x else y) Q
  by_cases h : p
  · rw [if_pos (decide_eq_true h)]; exact h1 h
  · rw [if_neg (by rw [decide_eq_false h]; simp)]; exact h2 h
theorem Ok.tb {b : Bool} {x y : Option α} {Q : α → Prop} (h1 : b = true → Ok x Q) (h2 : b = false → Ok y Q) : Ok (D.test b x y) Q := by
  cases b
  · exact h2 rfl
  · exact h1 rfl
theorem Ok.g {p : Prop} [Decidable p] {x y : Option α} {Q : α → Prop} (h : p) (g : Ok x Q) : Ok (D.test (decide p) x y) Q := Ok.t (fun _ => g) (fun h' => absurd h h')
theorem Ok.no {p : Prop} [Decidable p] {x y : Option α} {Q : α → Prop} (h : ¬ p) (g : Ok y Q) : Ok (D.test (decide p) x y) Q := Ok.t (fun h' => absurd h' h) (fun _ => g)
theorem Ok.some {x : Option α} {Q : α → Prop} (h : Ok x Q) : ∃ y, x = Option.some y := let ⟨y, e, _⟩ := h; ⟨y, e⟩
end
def dG (n m : Nat) (rs : List (List Int)) : Prop := rs.length ≤ n ∧ ∀ r ∈ rs, r.length ≤ m
theorem dG.at {n m : Nat} {rs : List (List Int)} (h : dG n m rs) (i : Nat) : (rs.getD i []).length ≤ m := by
  by_cases hi : i < rs.length
  · rw [aJ hi]; exact h.2 _ (List.getElem_mem hi)
  · rw [bQ (by omega)]; simp
theorem dG.set {n m : Nat} {rs : List (List Int)} (h : dG n m rs) (i : Nat) {r : List Int} (hr : r.length ≤ m) : dG n m (rs.set i r) := by
  refine ⟨by rw [List.length_set]; exact h.1, fun x hx => ?_⟩
  rcases List.mem_or_eq_of_mem_set hx with h' | rfl
  · exact h.2 x h'
  · exact hr
theorem dG.mono {n m n' m' : Nat} {rs : List (List Int)} (h : dG n m rs) (hn : n ≤ n') (hm : m ≤ m') : dG n' m' rs :=
  ⟨Nat.le_trans h.1 hn, fun x hx => Nat.le_trans (h.2 x hx) hm⟩
theorem dG.app {n m : Nat} {rs : List (List Int)} (h : dG n m rs) {r : List Int} (hr : r.length ≤ m) : dG (n + 1) m (rs ++ [r]) := by
  refine ⟨by rw [List.length_append]; simp; exact h.1, fun x hx => ?_⟩
  rcases List.mem_append.1 hx with h' | h'
  · exact h.2 x h'
  · simp only [List.mem_singleton] at h'; subst h'; exact hr
end Go.Am.Pu
end
section
/- Corners; a number taken out of rows. Plain words. -/
namespace Go.Am.Pu
theorem ot : ∀ {p : List Int} {prev s : Int}, eL p prev s = true → ∀ i, i + 1 < p.length → p.getD (i + 1) 0 ≤ p.getD i 0
  | [], _, _, _, i, h => by simp at h
  | [x], _, _, _, i, h => by simp at h
  | x :: y :: xs, prev, s, hp, i, h => by
    simp only [eL, Bool.and_eq_true, decide_eq_true_eq] at hp
    cases i with
    | zero => simpa using hp.2.2.2.2.1
    | succ i =>
      have h2 : eL (y :: xs) x (s + x) = true := by
        simp only [eL, Bool.and_eq_true, decide_eq_true_eq]
        exact hp.2.2.2
      have := ot h2 i (by simpa using h)
      simpa using this
def jR (r : List Int) (y : Int) : Nat → Option Nat
  | 0 => none
  | i + 1 => if r.getD i 0 < y then some i else jR r y i
theorem oR {r : List Int} {y : Int} : ∀ {m q : Nat}, jR r y m = some q → q < m ∧ r.getD q 0 < y
  | 0, q, h => by simp [jR] at h
  | m + 1, q, h => by
    unfold jR at h
    split at h
    · next hc => injection h with h; subst h; exact ⟨by omega, hc⟩
    · have := oR h; exact ⟨by omega, this.2⟩
theorem rM {r : List Int} {y : Int} : ∀ {m i : Nat}, i < m → r.getD i 0 < y → ∃ q, jR r y m = some q
  | 0, i, h, _ => by omega
  | m + 1, i, h, hi => by
    unfold jR
    split
    · exact ⟨_, rfl⟩
    · next hc =>
      have : i ≠ m := fun e => hc (e ▸ hi)
      exact rM (by omega) hi
def ko : Nat → List (List Int) → Int → List (List Int) × Int
  | 0, rs, y => (rs, y)
  | r + 1, rs, y => match jR (rs.getD r []) y (rs.getD r []).length with
    | some q => ko r (rs.set r ((rs.getD r []).set q y)) ((rs.getD r []).getD q 0)
    | none => ko r rs y
theorem getD_set_ne {α : Type} {xs : List α} {i j : Nat} (h : j ≠ i) (x d : α) : (xs.set j x).getD i d = xs.getD i d := by
  simp only [List.getD_eq_getElem?_getD, List.getElem?_set]
  rw [if_neg h]
theorem mT {n m : Nat} : ∀ (r : Nat) (rs : List (List Int)) (y : Int), dG n m rs → dG n m (ko r rs y).1
  | 0, _, _, h => h
  | r + 1, rs, y, h => by
    unfold ko
    split
    · exact mT r _ _ (h.set r (by rw [List.length_set]; exact h.at r))
    · exact mT r rs y h
def jC (rs : List (List Int)) (row : Nat) : List (List Int) × Int :=
  ((if (rs.getD row []).length = 1 then (ko row (rs.set row ((rs.getD row []).take ((rs.getD row []).length - 1))) ((rs.getD row []).getD ((rs.getD row []).length - 1) 0)).1.take row
    else (ko row (rs.set row ((rs.getD row []).take ((rs.getD row []).length - 1))) ((rs.getD row []).getD ((rs.getD row []).length - 1) 0)).1),
   (ko row (rs.set row ((rs.getD row []).take ((rs.getD row []).length - 1))) ((rs.getD row []).getD ((rs.getD row []).length - 1) 0)).2)
theorem s8 {n m : Nat} {rs : List (List Int)} (h : dG n m rs) (row : Nat) : dG n m (jC rs row).1 := by
  have h1 := mT row (rs.set row ((rs.getD row []).take ((rs.getD row []).length - 1))) ((rs.getD row []).getD ((rs.getD row []).length - 1) 0) (h.set row (by rw [List.length_take]; have := h.at row; omega))
  unfold jC
  simp only
  split
  · exact ⟨by rw [List.length_take]; have := h1.1; omega, fun x hx => h1.2 x (List.mem_of_mem_take hx)⟩
  · exact h1
theorem ir {t : Tab} (h : ck t = true) : t.1 = [] := by
  simp only [ck, Bool.and_eq_true, decide_eq_true_eq] at h
  exact List.eq_nil_of_length_eq_zero h.2
theorem eD {t : Tab} (h : ck t = true) {i : Nat} (hi : i < t.2.length) : (outer t).getD i 0 = (t.2.getD i []).length := by
  have e := dh t.1 t.2 0 i hi
  rw [ir h] at e
  unfold outer
  rw [ir h, e]
  simp
theorem gZ {t : Tab} (h : ck t = true) : b9 (outer t) = true := by
  simp only [ck, Bool.and_eq_true] at h
  have hs := g7 h.1
  simp only [cy, de, Bool.and_eq_true] at hs
  exact hs.2.2.2.1
theorem dg (t : Tab) : (outer t).length = t.2.length := by unfold outer; rw [im]
theorem vu {t : Tab} (h : ck t = true) : dG 9 9 t.2 := by
  have h9 := vS h
  have hl := (bY (gZ h)).2.2.1
  rw [dg] at hl
  exact ⟨hl, fun r hr => by have := qD hr; omega⟩
theorem mM {t : Tab} (h : ck t = true) : ∀ i, i + 1 < t.2.length → (t.2.getD (i + 1) []).length ≤ (t.2.getD i []).length ∧ ∀ q, q < (t.2.getD (i + 1) []).length → (t.2.getD i []).getD q 0 < (t.2.getD (i + 1) []).getD q 0 := by
  intro i hi
  have hm := ot (show eL (outer t) 9 0 = true from gZ h) i (by rw [dg]; exact hi)
  rw [eD h hi, eD h (by omega)] at hm
  have hl : (t.2.getD (i + 1) []).length ≤ (t.2.getD i []).length := by omega
  refine ⟨hl, fun q hq => ?_⟩
  have ht := h
  simp only [ck, Bool.and_eq_true] at ht
  have ht := ht.1
  simp only [dm, Bool.and_eq_true] at ht
  have h1 := eA.1 (eA.1 ht.2 (i + 1) hi) q hq
  simp only [ez, Bool.and_eq_true, Bool.or_eq_true, decide_eq_true_eq] at h1
  have h2 := h1.2.2.resolve_left (by omega)
  rw [ir h] at h2
  have e : ((i + 1 : Nat) : Int) - 1 = (i : Int) := by omega
  have e2 : ([] : List Int).getD (i + 1) 0 + (q : Int) = ([] : List Int).getD i 0 + (q : Int) := by simp
  rw [e, e2] at h2
  have ee : entry t (i : Int) (([] : List Int).getD i 0 + (q : Int)) = (t.2.getD i []).getD q 0 := by
    have := lz (t := t) (r := i) (q := q) (by omega)
    rw [ir h] at this
    exact this
  rw [ee] at h2
  exact h2
end Go.Am.Pu
end
section
/- Rows with noughts in front; a box taken from a partition. Plain words. -/
namespace Go.Am.Pu
def iJ (t : Tab) : List (List Int) := (List.range' 0 t.2.length).map fun i => List.replicate (t.1.getD i 0).toNat 0 ++ t.2.getD i []
def bH (p : List Int) (n : Nat) : List Int := if p.getD n 0 - 1 = 0 then p.take n else p.set n (p.getD n 0 - 1)
theorem tW (p : List Int) (n : Nat) : (bH p n).length ≤ p.length := by
  unfold bH
  split
  · rw [List.length_take]; omega
  · rw [List.length_set]; exact Nat.le_refl _
end Go.Am.Pu
end
section
/- A slide: the hole goes right or down until nothing is there. Plain words. -/
namespace Go.Am.Pu
def cel (g : List (List Int)) (r c : Nat) : Int := (g.getD r []).getD c 0
def iR (g : List (List Int)) (r c : Nat) (v : Int) : List (List Int) := g.set r ((g.getD r []).set c v)
theorem xr {g : List (List Int)} {r c : Nat} (h : cel g r c ≠ 0) : r < g.length ∧ c < (g.getD r []).length := by
  unfold cel at h
  by_cases h1 : r < g.length
  · refine ⟨h1, ?_⟩
    by_cases h2 : c < (g.getD r []).length
    · exact h2
    · exact absurd (bQ (by omega) 0) h
  · rw [bQ (xs := g) (by omega)] at h
    simp at h
theorem fO (g : List (List Int)) (r c : Nat) (v : Int) : (iR g r c v).length = g.length := by unfold iR; rw [List.length_set]
theorem cZ (g : List (List Int)) (r c : Nat) (v : Int) (q : Nat) : ((iR g r c v).getD q []).length = (g.getD q []).length := by
  unfold iR
  by_cases e : q = r
  · subst e
    by_cases h : q < g.length
    · rw [aJ (by rw [List.length_set]; exact h), List.getElem_set_self, List.length_set]
    · rw [bQ (by rw [List.length_set]; omega), bQ (by omega)]
  · rw [getD_set_ne (Ne.symm e)]
theorem jD {g : List (List Int)} {r c : Nat} (v : Int) (h1 : r < g.length) (h2 : c < (g.getD r []).length) : cel (iR g r c v) r c = v := by
  unfold cel iR
  rw [aJ (xs := g.set r _) (by rw [List.length_set]; exact h1), List.getElem_set_self, aJ (by rw [List.length_set]; exact h2), List.getElem_set_self]
theorem ic {g : List (List Int)} {r c q x : Nat} (v : Int) (h : ¬ (q = r ∧ x = c)) : cel (iR g r c v) q x = cel g q x := by
  unfold cel iR
  by_cases e : q = r
  · subst e
    have hx : x ≠ c := fun e => h ⟨rfl, e⟩
    by_cases hl : q < g.length
    · rw [aJ (xs := g.set q _) (by rw [List.length_set]; exact hl), List.getElem_set_self, getD_set_ne (Ne.symm hx)]
    · rw [bQ (xs := g.set q _) (by rw [List.length_set]; omega), bQ (xs := g) (by omega)]
  · rw [getD_set_ne (Ne.symm e)]
structure Sl (q : List Int) (g : List (List Int)) (i c : Nat) : Prop where
  q0 : ∀ r, 0 ≤ q.getD r 0
  qm : ∀ r, q.getD (r + 1) 0 ≤ q.getD r 0
  lm : ∀ r, (g.getD (r + 1) []).length ≤ (g.getD r []).length
  hi : i < g.length
  hc : c < (g.getD i []).length
  hq : q.getD i 0 ≤ c
  pos : ∀ r x, 0 ≤ cel g r x
  num : ∀ r x : Nat, q.getD r 0 ≤ x → x < (g.getD r []).length → ¬ (r = i ∧ x = c) → 1 ≤ cel g r x ∧ cel g r x ≤ 9
  row : ∀ r x : Nat, q.getD r 0 ≤ x → x + 1 < (g.getD r []).length → ¬ (r = i ∧ x = c) → ¬ (r = i ∧ x + 1 = c) → cel g r x ≤ cel g r (x + 1)
  col : ∀ r x : Nat, q.getD r 0 ≤ x → x < (g.getD (r + 1) []).length → ¬ (r = i ∧ x = c) → ¬ (r + 1 = i ∧ x = c) → cel g r x < cel g (r + 1) x
  rowH : ∀ x : Nat, x + 1 = c → q.getD i 0 ≤ x → c + 1 < (g.getD i []).length → cel g i x ≤ cel g i (c + 1)
  colH : ∀ r : Nat, r + 1 = i → q.getD r 0 ≤ c → c < (g.getD (i + 1) []).length → cel g r c < cel g (i + 1) c
theorem Sl.right {q : List Int} {g : List (List Int)} {i c : Nat} (h : Sl q g i c) (hr : cel g i (c + 1) ≠ 0) (hb : ¬ (0 < cel g (i + 1) c ∧ cel g (i + 1) c ≤ cel g i (c + 1))) :
    Sl q (iR g i c (cel g i (c + 1))) i (c + 1) := by
  obtain ⟨b1, b2⟩ := xr hr
  have hq := h.hq
  have hrn := h.num i (c + 1) (by omega) b2 (by omega)
  have e0 := jD (cel g i (c + 1)) h.hi h.hc
  have en : ∀ r x, ¬ (r = i ∧ x = c) → cel (iR g i c (cel g i (c + 1))) r x = cel g r x := fun r x hh => ic _ hh
  refine ⟨h.q0, h.qm, fun r => ?_, ?_, ?_, by omega, fun r x => ?_, fun r x h1 h2 h3 => ?_, fun r x h1 h2 h3 h4 => ?_, fun r x h1 h2 h3 h4 => ?_, fun x h1 h2 h3 => ?_, fun r h1 h2 h3 => ?_⟩
  · rw [cZ, cZ]; exact h.lm r
  · rw [fO]; exact b1
  · rw [cZ]; exact b2
  · by_cases e : r = i ∧ x = c
    · rw [e.1, e.2, e0]; exact h.pos _ _
    · rw [en r x e]; exact h.pos _ _
  · rw [cZ] at h2
    by_cases e : r = i ∧ x = c
    · rw [e.1, e.2, e0]; exact hrn
    · rw [en r x e]; exact h.num r x h1 h2 e
  · rw [cZ] at h2
    by_cases e : r = i ∧ x = c
    · exact (h4 ⟨e.1, by omega⟩).elim
    · rw [en r x e]
      by_cases e' : r = i ∧ x + 1 = c
      · obtain ⟨rfl, rfl⟩ := e'
        rw [e0]
        exact h.rowH x rfl h1 b2
      · rw [en r (x + 1) e']; exact h.row r x h1 h2 e e'
  · rw [cZ] at h2
    by_cases e : r = i ∧ x = c
    · obtain ⟨rfl, rfl⟩ := e
      rw [e0, en _ _ (by omega)]
      have hqm := h.qm r
      have h5 := (h.num (r + 1) x (by omega) h2 (by omega)).1
      omega
    · rw [en r x e]
      by_cases e' : r + 1 = i ∧ x = c
      · obtain ⟨rfl, rfl⟩ := e'
        rw [e0]
        have hl := h.lm r
        have h5 := h.row r x h1 (by omega) (by omega) (by omega)
        have h6 := h.col r (x + 1) (by omega) b2 (by omega) (by omega)
        omega
      · rw [en (r + 1) x e']
        exact h.col r x h1 h2 e e'
  · rw [cZ] at h3
    have : x = c := by omega
    subst this
    rw [e0, en _ _ (by omega)]
    exact h.row i (x + 1) (by omega) h3 (by omega) (by omega)
  · rw [cZ] at h3
    rw [en _ _ (by omega), en _ _ (by omega)]
    subst h1
    have h5 := h.col r (c + 1) h2 (by omega) (by omega) (by omega)
    have h6 := h.col (r + 1) (c + 1) (by omega) h3 (by omega) (by omega)
    omega
end Go.Am.Pu
end
section
/- A slide's end and its start. Plain words. -/
namespace Go.Am.Pu
theorem mF {p : List Int} (hp : b9 p = true) (r : Nat) : p.getD (r + 1) 0 ≤ p.getD r 0 := by
  by_cases h : r + 1 < p.length
  · exact ot hp r h
  · rw [bQ (by omega)]
    have := (cK hp r).1
    rw [cH] at this
    exact this
theorem qh {p : List Int} {n : Nat} (hp : b9 p = true) (hn : n < p.length) (hc : p.getD (n + 1) 0 < p.getD n 0) (r : Nat) : (bH p n).getD r 0 = if r = n then p.getD n 0 - 1 else p.getD r 0 := by
  unfold bH
  by_cases h : p.getD n 0 - 1 = 0
  · rw [if_pos h]
    have h0 := (cK hp (n + 1 : Nat)).1
    rw [cH] at h0
    have hl : p.length ≤ n + 1 := by
      refine Nat.le_of_not_lt fun hlt => ?_
      have := (bY hp).1 _ (List.getElem_mem hlt)
      rw [← aJ hlt 0] at this
      omega
    by_cases e : r = n
    · subst e
      rw [if_pos rfl, h, bQ (by rw [List.length_take]; omega)]
    · rw [if_neg e]
      by_cases e2 : r < n
      · rw [aJ (by rw [List.length_take]; omega), List.getElem_take, aJ (by omega)]
      · rw [bQ (by rw [List.length_take]; omega), bQ (by omega)]
  · rw [if_neg h]
    by_cases e : r = n
    · subst e
      rw [if_pos rfl, aJ (by rw [List.length_set]; exact hn), List.getElem_set_self]
    · rw [if_neg e, getD_set_ne (Ne.symm e)]
structure zO (t : Tab) : Prop where
  q0 : ∀ r, 0 ≤ t.1.getD r 0
  qm : ∀ r, t.1.getD (r + 1) 0 ≤ t.1.getD r 0
  lm : ∀ r, ((iJ t).getD (r + 1) []).length ≤ ((iJ t).getD r []).length
  num : ∀ r x : Nat, t.1.getD r 0 ≤ x → x < ((iJ t).getD r []).length → 1 ≤ cel (iJ t) r x ∧ cel (iJ t) r x ≤ 9
  row : ∀ r x : Nat, t.1.getD r 0 ≤ x → x + 1 < ((iJ t).getD r []).length → cel (iJ t) r x ≤ cel (iJ t) r (x + 1)
  col : ∀ r x : Nat, t.1.getD r 0 ≤ x → x < ((iJ t).getD (r + 1) []).length → cel (iJ t) r x < cel (iJ t) (r + 1) x
end Go.Am.Pu
end
section
/- A tableau cell by cell; a slide's start. Plain words. -/
namespace Go.Am.Pu
theorem ey {t : Tab} (h : dm t = true) : b9 t.1 = true ∧ b9 (outer t) = true ∧ t.1.length ≤ t.2.length ∧ (∀ i k, i < t.2.length → k < (t.2.getD i []).length → ez t i k = true) := by
  simp only [dm, cy, de, Bool.and_eq_true, decide_eq_true_eq] at h
  obtain ⟨⟨h1, h2, h3, h4, h5⟩, h6⟩ := h
  refine ⟨h1, h4, h2, fun i k hi hk => ?_⟩
  rw [eA] at h6
  have := h6 i hi
  rw [eA] at this
  exact this k hk
end Go.Am.Pu
end
section
/- A partition less a box; the tableau that a slide leaves. Plain words. -/
namespace Go.Am.Pu
theorem kr : ∀ (p : List Int) (prev s : Int), (∀ x ∈ p, 1 ≤ x) → (0 < p.length → p.getD 0 0 ≤ prev) → (∀ i, i + 1 < p.length → p.getD (i + 1) 0 ≤ p.getD i 0) → s + fJ p ≤ 9 → eL p prev s = true
  | [], _, _, _, _, _, _ => rfl
  | x :: xs, prev, s, h1, h2, h3, h4 => by
    have hs : ∀ (l : List Int), (∀ y ∈ l, 1 ≤ y) → 0 ≤ fJ l := by
      intro l
      induction l with
      | nil => intro _; simp [fJ]
      | cons y l ih =>
        intro h
        have a := h y List.mem_cons_self
        have b := ih (fun z hz => h z (List.mem_cons_of_mem _ hz))
        simp only [fJ]; omega
    have hx := h1 x List.mem_cons_self
    have hxs := hs xs (fun z hz => h1 z (List.mem_cons_of_mem _ hz))
    have h2' := h2 (by simp)
    simp only [List.getD_cons_zero] at h2'
    simp only [fJ] at h4
    have ih := kr xs x (s + x) (fun z hz => h1 z (List.mem_cons_of_mem _ hz)) (fun hl => by have := h3 0 (by simpa using hl); simpa using this) (fun i hi => by have := h3 (i + 1) (by simpa using hi); simpa using this) (by omega)
    simp only [eL, Bool.and_eq_true, decide_eq_true_eq]
    exact ⟨hx, h2', by omega, ih⟩
theorem re : ∀ (p : List Int) (n : Nat) (v : Int), n < p.length → fJ (p.set n v) = fJ p - p.getD n 0 + v
  | [], n, v, h => by simp at h
  | x :: xs, 0, v, _ => by simp [fJ]; omega
  | x :: xs, n + 1, v, h => by
    have := re xs n v (by simpa using h)
    simp only [List.set_cons_succ, fJ, List.getD_cons_succ, this]
    omega
theorem tc : ∀ (p : List Int) (n : Nat), p.length = n + 1 → fJ (p.take n) = fJ p - p.getD n 0
  | [], n, h => by simp at h
  | [x], 0, _ => by simp [fJ]
  | x :: xs, n + 1, h => by
    have := tc xs n (by simpa using h)
    simp only [List.take_succ_cons, fJ, List.getD_cons_succ, this]
    omega
  | x :: y :: xs, 0, h => by simp at h
theorem rV {p : List Int} {n : Nat} (hp : b9 p = true) (hc : p.getD (n + 1) 0 < p.getD n 0) (h : p.getD n 0 - 1 = 0) : p.length ≤ n + 1 := by
  have h0 := (cK hp (n + 1 : Nat)).1
  rw [cH] at h0
  refine Nat.le_of_not_lt fun hlt => ?_
  have := (bY hp).1 _ (List.getElem_mem hlt)
  rw [← aJ hlt 0] at this
  omega
theorem xC {p : List Int} {n : Nat} (hp : b9 p = true) (hn : n < p.length) (hc : p.getD (n + 1) 0 < p.getD n 0) {i : Nat} (hi : i < (bH p n).length) : 1 ≤ (bH p n).getD i 0 := by
  rw [qh hp hn hc]
  have hl := tW p n
  have h1 : ∀ i, i < p.length → 1 ≤ p.getD i 0 := fun i hi => by
    rw [aJ hi]
    exact ((bY hp).1 _ (List.getElem_mem hi)).1
  by_cases h : p.getD n 0 - 1 = 0
  · unfold bH at hi
    rw [if_pos h, List.length_take] at hi
    rw [if_neg (by omega)]
    exact h1 i (by omega)
  · have a := h1 n hn
    have b := h1 i (by omega)
    split <;> omega
theorem wS {p : List Int} {n : Nat} (hp : b9 p = true) (hn : n < p.length) (hc : p.getD (n + 1) 0 < p.getD n 0) : b9 (bH p n) = true := by
  have hs := bY hp
  have hg := qh hp hn hc
  have hpn : 1 ≤ p.getD n 0 := by
    rw [aJ hn]
    exact (hs.1 _ (List.getElem_mem hn)).1
  refine kr _ _ _ (fun x hx => ?_) (fun _ => ?_) (fun i _ => ?_) ?_
  · obtain ⟨i, hi, rfl⟩ := List.getElem_of_mem hx
    rw [← aJ hi 0]
    exact xC hp hn hc hi
  · rw [hg]
    have : ∀ i, p.getD i 0 ≤ 9 := fun i => by
      have := (cK hp i).2
      rw [cH] at this
      exact this
    have a := this 0
    have b := this n
    split <;> omega
  · rw [hg, hg]
    have := mF hp i
    by_cases e : i = n
    · subst e
      rw [if_neg (by omega), if_pos rfl]; omega
    · rw [if_neg e]
      by_cases e2 : i + 1 = n
      · subst e2; rw [if_pos rfl]; omega
      · rw [if_neg e2]; exact this
  · have h9 := hs.2.1
    unfold bH
    split
    · next h =>
      have hl := rV hp hc h
      rw [tc p n (by omega)]
      omega
    · rw [re p n _ hn]
      omega
def eQ (q : List Int) (g : List (List Int)) (n : Nat) : List (List Int) := (List.range' 0 n).map fun r => (g.getD r []).drop (q.getD r 0).toNat
theorem jN (q : List Int) (g : List (List Int)) (n : Nat) : (eQ q g n).length = n := by simp [eQ]
theorem mB {q : List Int} {g : List (List Int)} {n r : Nat} (h : r < n) : (eQ q g n).getD r [] = (g.getD r []).drop (q.getD r 0).toNat := by
  rw [aJ (by rw [jN]; exact h)]
  simp [eQ]
def mK (g : List (List Int)) (i c : Nat) : List (List Int) := g.set i ((g.getD i []).take c)
end Go.Am.Pu
namespace Go.Am.Pu
end Go.Am.Pu
end
section
/- What a slide leaves. Plain words. -/
namespace Go.Am.Pu
theorem vY {g : List (List Int)} {i c r : Nat} (hi : i < g.length) : (mK g i c).getD r [] = if r = i then (g.getD i []).take c else g.getD r [] := by
  unfold mK
  by_cases e : r = i
  · subst e
    rw [if_pos rfl, aJ (by rw [List.length_set]; exact hi), List.getElem_set_self]
  · rw [if_neg e, getD_set_ne (Ne.symm e)]
theorem nw (g : List (List Int)) (i c : Nat) : (mK g i c).length = g.length := by unfold mK; rw [List.length_set]
theorem yD {g : List (List Int)} {i c r x : Nat} (hi : i < g.length) (hx : x < ((mK g i c).getD r []).length) : cel (mK g i c) r x = cel g r x := by
  unfold cel
  rw [vY hi] at hx ⊢
  by_cases e : r = i
  · subst e
    rw [if_pos rfl] at hx ⊢
    rw [List.length_take] at hx
    rw [aJ (by rw [List.length_take]; exact hx), List.getElem_take]
    exact (aJ (by omega) 0).symm
  · rw [if_neg e]
structure xn (t : Tab) (n : Nat) (g : List (List Int)) (i c : Nat) : Prop where
  sl : Sl (bH t.1 n) g i c
  len : g.length = t.2.length
  row : ∀ r, (g.getD r []).length = ((iJ t).getD r []).length
  hi : i < (outer t).length
  end_ : (outer t).getD i 0 = c + 1
  cor : (outer t).getD (i + 1) 0 < (outer t).getD i 0
  cutl : ∀ r, (((mK g i c).getD r []).length : Int) = (bH (outer t) i).getD r 0
  ins : ∀ r, (bH t.1 n).getD r 0 ≤ (bH (outer t) i).getD r 0
  rows : dG 9 9 (mK g i c)
end Go.Am.Pu
end
section
/- The square that the reference slides in. Plain words. -/
namespace Go.Am.Pu
structure Sq (s g : List (List Int)) (i c : Nat) : Prop where
  len : s.length = 11
  row : ∀ r, r < 11 → (s.getD r []).length = 11
  at_ : ∀ r x, r < 11 → x < 11 → ¬ (r = i ∧ x = c) → cel s r x = cel g r x
  hole : cel s i c = 0
theorem Sq.step {s g : List (List Int)} {i c i' c' : Nat} (h : Sq s g i c) (hi : i < g.length) (hc : c < (g.getD i []).length) (h1 : i < 11) (h2 : c < 11) (h3 : i' < 11) (h4 : c' < 11) (hne : ¬ (i' = i ∧ c' = c)) (v : Int) :
    Sq (iR (iR s i c v) i' c' 0) (iR g i c v) i' c' := by
  refine ⟨by rw [fO, fO]; exact h.len, fun r hr => by rw [cZ, cZ]; exact h.row r hr, fun r x hr hx hn => ?_, ?_⟩
  · rw [ic _ hn]
    by_cases e : r = i ∧ x = c
    · obtain ⟨rfl, rfl⟩ := e
      rw [jD _ (by rw [h.len]; exact h1) (by rw [h.row _ h1]; exact h2), jD _ hi hc]
    · rw [ic _ e, ic _ e]; exact h.at_ r x hr hx e
  · rw [jD _ (by rw [fO, h.len]; exact h3) (by rw [cZ, h.row _ h3]; exact h4)]
end Go.Am.Pu
end
section
/- What a slide leaves is a tableau. Plain words. -/
namespace Go.Am.Pu
theorem xj {α : Type} (l : List α) (a x : Nat) (d : α) : (l.drop a).getD x d = l.getD (a + x) d := by
  simp [List.getD_eq_getElem?_getD, List.getElem?_drop]
section
variable {t : Tab} {n : Nat} {g : List (List Int)} {i c : Nat}
theorem xn.cell (E : xn t n g i c) {r k : Nat} (hr : r < (bH (outer t) i).length)
    (hk : k < ((eQ (bH t.1 n) (mK g i c) (bH (outer t) i).length).getD r []).length) :
    ((bH t.1 n).getD r 0).toNat + k < (g.getD r []).length ∧ ((((bH t.1 n).getD r 0).toNat + k : Nat) : Int) < (bH (outer t) i).getD r 0 ∧ ¬ (r = i ∧ ((bH t.1 n).getD r 0).toNat + k = c) ∧
      ((eQ (bH t.1 n) (mK g i c) (bH (outer t) i).length).getD r []).getD k 0 = cel g r (((bH t.1 n).getD r 0).toNat + k) := by
  have hq := E.sl.q0 r
  rw [mB hr] at hk ⊢
  rw [List.length_drop] at hk
  have hx : ((bH t.1 n).getD r 0).toNat + k < ((mK g i c).getD r []).length := by omega
  have hl := E.cutl r
  have hcut := vY (c := c) (r := r) E.sl.hi
  refine ⟨?_, by omega, fun e => ?_, ?_⟩
  · rw [hcut] at hx
    by_cases e : r = i
    · subst e; rw [if_pos rfl, List.length_take] at hx; omega
    · rw [if_neg e] at hx; exact hx
  · rw [hcut, if_pos e.1, List.length_take] at hx
    omega
  · rw [xj]
    exact yD E.sl.hi hx
theorem xn.zw (E : xn t n g i c) {r : Nat} (hr : r < (bH (outer t) i).length) :
    (bH (outer t) i).getD r 0 = (bH t.1 n).getD r 0 + (((eQ (bH t.1 n) (mK g i c) (bH (outer t) i).length).getD r []).length : Int) := by
  have hq := E.sl.q0 r
  have hi := E.ins r
  have hl := E.cutl r
  rw [mB hr, List.length_drop]
  omega
end
theorem xQ {p : List Int} {n : Nat} (hp : b9 p = true) (hn : n < p.length) (hc : p.getD (n + 1) 0 < p.getD n 0) : fJ (bH p n) = fJ p - 1 := by
  unfold bH
  split
  · next h =>
    have hl := rV hp hc h
    rw [tc p n (by omega)]
    omega
  · rw [re p n _ hn]
    omega
end Go.Am.Pu
namespace Go.Am.Pu
end Go.Am.Pu
end
section
/- Taking the least number out of a plain tableau; evacuation. Plain words. -/
namespace Go.Am.Pu
theorem xn.out {t : Tab} {n : Nat} {g : List (List Int)} {i c : Nat} (E : xn t n g i c) :
    outer (bH t.1 n, eQ (bH t.1 n) (mK g i c) (bH (outer t) i).length) = bH (outer t) i := by
  refine List.ext_getElem (by rw [dg]; exact jN _ _ _) fun r h1 h2 => ?_
  rw [← aJ h1 0, ← aJ h2 0]
  have h3 : r < (eQ (bH t.1 n) (mK g i c) (bH (outer t) i).length).length := by rw [jN]; exact h2
  have := dh (bH t.1 n) (eQ (bH t.1 n) (mK g i c) (bH (outer t) i).length) 0 r h3
  rw [Nat.zero_add] at this
  exact this.trans (E.zw h2).symm
theorem vZ {t : Tab} (h : ck t = true) {r : Nat} (hr : r < t.2.length) : 1 ≤ (t.2.getD r []).length := by
  have hl := eD h hr
  have hp := (bY (gZ h)).1 ((outer t)[r]'(by rw [dg]; exact hr)) (List.getElem_mem _)
  rw [aJ (by rw [dg]; exact hr)] at hl
  omega
theorem rA {t : Tab} (h : ck t = true) : fJ (outer t) = t.2.flatten.length := by
  unfold outer
  exact mc t.1 t.2 0 fun q _ => by rw [ir h]; rfl
end Go.Am.Pu
end
section
/- Promotion. Plain words. -/
namespace Go.Am.Pu
def Small (rs : List (List Int)) : Prop := ∀ i q, -100 ≤ (rs.getD i []).getD q 0 ∧ (rs.getD i []).getD q 0 ≤ 100
end Go.Am.Pu
end
section
/- Slides undone. Plain words. -/
namespace Go.Am.Pu
def leftOf (g : List (List Int)) (i c : Nat) : Int := if c = 0 then 0 else cel g i (c - 1)
def xD (g : List (List Int)) (i c : Nat) : Int := if i = 0 then 0 else cel g (i - 1) c
def qM : Nat → List (List Int) → Nat → Nat → List (List Int) × (Nat × Nat)
  | 0, g, i, c => (g, (i, c))
  | m + 1, g, i, c => if leftOf g i c = 0 ∧ xD g i c = 0 then (g, (i, c))
    else if leftOf g i c ≤ xD g i c then qM m (iR g i c (xD g i c)) (i - 1) c
    else qM m (iR g i c (leftOf g i c)) i (c - 1)
structure Ag (f : Int → Int) (g h : List (List Int)) (i c : Nat) : Prop where
  len : h.length = g.length
  row : ∀ r, (h.getD r []).length = (g.getD r []).length
  at_ : ∀ r x, ¬ (r = i ∧ x = c) → cel h r x = f (cel g r x)
def Inn (q : List Int) (g : List (List Int)) : Prop := ∀ r x : Nat, (x : Int) < q.getD r 0 → cel g r x = 0
theorem Inn.step {q : List Int} {g : List (List Int)} {i c : Nat} (h : Inn q g) (hq : q.getD i 0 ≤ c) (v : Int) : Inn q (iR g i c v) := by
  intro r x hx
  by_cases e : r = i ∧ x = c
  · obtain ⟨rfl, rfl⟩ := e; omega
  · rw [ic _ e]; exact h r x hx
theorem Ag.right {f : Int → Int} {q : List Int} {g h : List (List Int)} {i c : Nat} (hs : Sl q g i c) (hi : Inn q g) (hf : ∀ a b x y, cel g a b < cel g x y → f (cel g a b) < f (cel g x y)) (f0 : f 0 = 0)
    (hr : cel g i (c + 1) ≠ 0) (ha : Ag f (iR g i c (cel g i (c + 1))) h i (c + 1)) :
    ∃ h', Ag f g h' i c ∧ ∀ m, qM (m + 1) h i (c + 1) = qM m h' i c := by
  obtain ⟨b1, b2⟩ := xr hr
  have f0' : ∀ a b, cel g a b = 0 → f (cel g a b) = 0 := fun a b e => by rw [e]; exact f0
  have hl : leftOf h i (c + 1) = f (cel g i (c + 1)) := by
    unfold leftOf
    rw [if_neg (by omega), show c + 1 - 1 = c by omega, ha.at_ i c (by omega), jD _ hs.hi hs.hc]
  have hpos : 0 < f (cel g i (c + 1)) := by
    have hp := hs.pos i (c + 1)
    have e : cel g g.length 0 = 0 := by unfold cel; rw [bQ (Nat.le_refl _)]; rfl
    have := hf g.length 0 i (c + 1) (by omega)
    rw [e, f0] at this
    exact this
  have hu : xD h i (c + 1) < f (cel g i (c + 1)) := by
    unfold xD
    by_cases e : i = 0
    · rw [if_pos e]; exact hpos
    · rw [if_neg e, ha.at_ _ _ (by omega), ic _ (by omega)]
      by_cases hq : q.getD (i - 1) 0 ≤ ((c + 1 : Nat) : Int)
      · have hc := hs.col (i - 1) (c + 1) hq (by rw [show i - 1 + 1 = i by omega]; exact b2) (by omega) (by omega)
        rw [show i - 1 + 1 = i by omega] at hc
        exact hf _ _ _ _ hc
      · rw [f0' _ _ (hi (i - 1) (c + 1) (by omega))]; exact hpos
  have hhi : i < h.length := by rw [ha.len, fO]; exact b1
  have hhc : c + 1 < (h.getD i []).length := by rw [ha.row, cZ]; exact b2
  refine ⟨iR h i (c + 1) (leftOf h i (c + 1)), ⟨by rw [fO, ha.len, fO], fun r => by rw [cZ, ha.row, cZ], fun r x hn => ?_⟩, fun m => ?_⟩
  · by_cases e : r = i ∧ x = c + 1
    · obtain ⟨rfl, rfl⟩ := e
      rw [jD _ hhi hhc, hl]
    · rw [ic _ e, ha.at_ r x e, ic _ hn]
  · conv => lhs; unfold qM
    rw [if_neg (by omega), if_neg (by omega)]
    rfl
def Occ (q : List Int) (v : Int) (g : List (List Int)) (i c : Nat) : Prop := ∃ r x : Nat, ¬ (r = i ∧ x = c) ∧ x < (g.getD r []).length ∧ q.getD r 0 ≤ x ∧ cel g r x = v
theorem Occ.step {q : List Int} {v : Int} {g : List (List Int)} {i c a b : Nat} (h : Occ q v g i c) (hi : i < g.length) (hc : c < (g.getD i []).length) (hq : q.getD i 0 ≤ c) (hne : ¬ (a = i ∧ b = c)) : Occ q v (iR g i c (cel g a b)) a b := by
  obtain ⟨r, x, h1, h2, h3, h4⟩ := h
  by_cases e : r = a ∧ x = b
  · obtain ⟨rfl, rfl⟩ := e
    exact ⟨i, c, fun e => hne ⟨e.1.symm, e.2.symm⟩, by rw [cZ]; exact hc, hq, by rw [jD _ hi hc]; exact h4⟩
  · exact ⟨r, x, e, by rw [cZ]; exact h2, h3, by rw [ic _ h1]; exact h4⟩
end Go.Am.Pu
end
section
/- Promotion of a standard tableau is standard, of the same shape, and can be undone. Plain words. -/
namespace Go.Am.Pu
theorem oB {t : Tab} (h0 : t.1 = []) (hp : b9 (outer t) = true) (hn : ∀ r x, r < t.2.length → x < (t.2.getD r []).length → 1 ≤ cel t.2 r x ∧ cel t.2 r x ≤ 9)
    (hr : ∀ r x, r < t.2.length → x + 1 < (t.2.getD r []).length → cel t.2 r x ≤ cel t.2 r (x + 1)) (hc : ∀ r x, r + 1 < t.2.length → x < (t.2.getD (r + 1) []).length → cel t.2 r x < cel t.2 (r + 1) x) : ck t = true := by
  simp only [ck, dm, cy, de, Bool.and_eq_true, decide_eq_true_eq, h0]
  refine ⟨⟨⟨rfl, by simp, rfl, hp, by simp, ?_⟩, ?_⟩, rfl⟩
  · rw [eA]
    intro i hi
    simp at hi
  · rw [eA]
    intro r hr'
    rw [eA]
    intro k hk
    simp only [ez, within, Bool.and_eq_true, Bool.or_eq_true, decide_eq_true_eq]
    refine ⟨hn r k hr' hk, ?_, ?_⟩
    · by_cases e : k = 0
      · exact .inl e
      · right
        have := hr r (k - 1) hr' (by omega)
        rw [show k - 1 + 1 = k by omega] at this
        exact this
    · by_cases e : r = 0
      · exact .inl e
      · right
        have := hc (r - 1) k (by omega) (by rw [show r - 1 + 1 = r by omega]; exact hk)
        rw [show r - 1 + 1 = r by omega] at this
        rw [show (r : Int) - 1 = ((r - 1 : Nat) : Int) by omega, lU (by omega), h0]
        simp only [List.getD_nil]
        rw [show (0 : Int) + (k : Int) - 0 = (k : Int) by omega, cH]
        exact this
theorem lb {t : Tab} (h : ck t = true) : (∀ r x, r < t.2.length → x < (t.2.getD r []).length → 1 ≤ cel t.2 r x ∧ cel t.2 r x ≤ 9) ∧ (∀ r x, r < t.2.length → x + 1 < (t.2.getD r []).length → cel t.2 r x ≤ cel t.2 r (x + 1)) := by
  have h' := h
  simp only [ck, Bool.and_eq_true] at h'
  obtain ⟨_, _, _, hc⟩ := ey h'.1
  refine ⟨fun r x hr hx => ?_, fun r x hr hx => ?_⟩
  · have := hc r x hr hx
    simp only [ez, within, Bool.and_eq_true, decide_eq_true_eq] at this
    exact this.1
  · have := hc r (x + 1) hr hx
    simp only [ez, within, Bool.and_eq_true, Bool.or_eq_true, decide_eq_true_eq] at this
    exact this.2.1.resolve_left (by omega)
theorem jF {rs : List (List Int)} {r x : Nat} (hr : r < rs.length) (hx : x < (rs.getD r []).length) : cel rs r x ∈ rs.flatten := by
  refine List.mem_flatten.2 ⟨rs.getD r [], by rw [aJ hr]; exact List.getElem_mem hr, ?_⟩
  unfold cel
  rw [aJ hx]
  exact List.getElem_mem hx
theorem nH {rs : List (List Int)} {v : Int} (h : v ∈ rs.flatten) : ∃ r x, r < rs.length ∧ x < (rs.getD r []).length ∧ cel rs r x = v := by
  obtain ⟨l, hl, hv⟩ := List.mem_flatten.1 h
  obtain ⟨r, hr, rfl⟩ := List.getElem_of_mem hl
  obtain ⟨x, hx, rfl⟩ := List.getElem_of_mem hv
  have e := aJ hr ([] : List Int)
  refine ⟨r, x, hr, by rw [e]; exact hx, ?_⟩
  unfold cel
  rw [e, aJ hx]
theorem kz {t : Tab} (h : ck t = true) (hs : gG t = true) : t.2.flatten.Nodup ∧ (∀ x ∈ t.2.flatten, 1 ≤ x ∧ x ≤ t.2.flatten.length) := by
  simp only [gG, Bool.and_eq_true] at hs
  have h1 := tC hs.1
  obtain ⟨a, b⟩ := (u3 fun x hx => (h1 x hx).1).1 hs.2
  exact ⟨a, fun x hx => ⟨(h1 x hx).1, b x hx⟩⟩
end Go.Am.Pu
end
section
/- Promotion keeps shapes and standardness. Plain words. -/
namespace Go.Am.Pu
section
variable {t : Tab}
theorem xb {xs ys : List Int} {x : Nat} (h : x < xs.length) : (xs ++ ys).getD x 0 = xs.getD x 0 := by
  simp only [List.getD_eq_getElem?_getD, List.getElem?_append_left h]
theorem wN {xs ys : List Int} {x : Nat} (h : xs.length ≤ x) : (xs ++ ys).getD x 0 = ys.getD (x - xs.length) 0 := by
  simp only [List.getD_eq_getElem?_getD, List.getElem?_append_right h]
end
end Go.Am.Pu
end
section
/- Promotion undone: it is one to one. Plain words. -/
namespace Go.Am.Pu
section
variable {t : Tab}
end
end Go.Am.Pu
end
section
/- Orbits of promotion come back. Plain words. -/
namespace Go.Am.Pu
structure Good (t : Tab) : Prop where
  pl : ck t = true
  st : gG t = true
  ne : t.2.flatten.length ≠ 0
end Go.Am.Pu
end
section
/- A slide outwards, as the program has it; demotion. Plain words. -/
namespace Go.Am.Pu
section
variable {u : Tab}
end
end Go.Am.Pu
end
section
/- The last promotion of an orbit; orbits' sizes. Plain words. -/
namespace Go.Am.Pu
def wy (t : Tab) : Prop := t.1 = [] ∧ dG 10 10 t.2
theorem wy.ok {t : Tab} (h : wy t) : nh t := ⟨by rw [h.1]; simp, by have := h.2.1; omega, fun r hr => by have := h.2.2 r hr; omega⟩
theorem wy.size {t : Tab} (h : wy t) : dZ t.2 ≤ 100 := by
  have a := qJ t.2 10 h.2.2
  have b := h.2.1
  omega
section
attribute [local instance] D.real
variable {α β : Type} {x y v : Option α}
theorem bE {x : Option β} {z : β} {f : β → Option α} (h : x = some z) (g : f z = v) : D.bnd x f = v := by rw [h]; exact g
theorem tN (g : x = v) : D.test (D.no true) y x = v := g
theorem tM (g : y = v) : D.test (D.no false) y x = v := g
theorem tG {p : Prop} [Decidable p] (h : p) (g : x = v) : D.test (decide p) x y = v := by
  show (if decide p = true then x else y) = v
  rw [if_pos (decide_eq_true h)]; exact g
theorem tX {p : Prop} [Decidable p] (h : ¬ p) (g : y = v) : D.test (decide p) x y = v := by
  show (if decide p = true then x else y) = v
  rw [decide_eq_false h]; exact g
theorem tE {a b : Int} (h : a = b) (g : x = v) : D.test (D.no (D.eq a b)) y x = v := by
  show (if (!decide (a = b)) = true then y else x) = v
  rw [decide_eq_true h]; exact g
end
end Go.Am.Pu
end
section
/- Cells taken out of plain tableaux, one behind another. Plain words. -/
namespace Go.Am.Pu
def nr (rs : List (List Int)) : Prop := ∀ i, i + 1 < rs.length → (rs.getD (i + 1) []).length ≤ (rs.getD i []).length ∧ ∀ q, q < (rs.getD (i + 1) []).length → (rs.getD i []).getD q 0 < (rs.getD (i + 1) []).getD q 0
theorem pI {r : List Int} {y : Int} : ∀ {m q : Nat}, jR r y m = some q → ∀ c, q < c → c < m → y ≤ r.getD c 0
  | 0, q, h, _, _, _ => by simp [jR] at h
  | m + 1, q, h, c, h1, h2 => by
    unfold jR at h
    split at h
    · next hc => injection h with h; omega
    · next hc =>
      by_cases e : c = m
      · subst e; omega
      · exact pI h c h1 (by omega)
theorem n5 : ∀ (r : Nat) (rs : List (List Int)) (y : Int), (ko r rs y).1.length = rs.length ∧ ∀ i, ((ko r rs y).1.getD i []).length = (rs.getD i []).length
  | 0, _, _ => ⟨rfl, fun _ => rfl⟩
  | r + 1, rs, y => by
    unfold ko
    split
    · next q hq =>
      obtain ⟨a, b⟩ := n5 r (rs.set r ((rs.getD r []).set q y)) ((rs.getD r []).getD q 0)
      refine ⟨by rw [a, List.length_set], fun i => ?_⟩
      rw [b]
      by_cases e : i = r
      · subst e
        by_cases h : i < rs.length
        · rw [aJ (by rw [List.length_set]; exact h), List.getElem_set_self, List.length_set]
        · rw [bQ (by rw [List.length_set]; omega), bQ (xs := rs) (by omega)]
      · rw [getD_set_ne (Ne.symm e)]
    · exact n5 r rs y
theorem rT : ∀ (r : Nat) (rs : List (List Int)) (y : Int) (q : Nat), r < rs.length → (∀ i, i + 1 < r → (rs.getD (i + 1) []).length ≤ (rs.getD i []).length ∧ ∀ q, q < (rs.getD (i + 1) []).length → (rs.getD i []).getD q 0 < (rs.getD (i + 1) []).getD q 0) →
    (∀ i, r ≤ i → i + 1 < rs.length → (rs.getD (i + 1) []).length ≤ (rs.getD i []).length ∧ ∀ q, q < (rs.getD (i + 1) []).length → (rs.getD i []).getD q 0 < (rs.getD (i + 1) []).getD q 0) →
    (∀ i, i + 1 = r → (rs.getD r []).length ≤ (rs.getD i []).length ∧ q < (rs.getD i []).length ∧ (rs.getD i []).getD q 0 < y ∧ (∀ c, c < (rs.getD r []).length → c ≠ q → (rs.getD i []).getD c 0 < (rs.getD r []).getD c 0) ∧ (∀ c, q ≤ c → c < (rs.getD r []).length → y < (rs.getD r []).getD c 0)) →
    nr (ko r rs y).1
  | 0, rs, y, q, hr, _, hB, _ => fun i hi => hB i (Nat.zero_le _) hi
  | r + 1, rs, y, q, hr, hA, hB, hI => by
    obtain ⟨i1, i2, i3, i4, i5⟩ := hI r rfl
    obtain ⟨q0, hq0⟩ := rM i2 i3
    have hmax := pI hq0
    obtain ⟨k1, k2⟩ := oR hq0
    have hqq : q ≤ q0 := Nat.le_of_not_lt fun hlt => by
      have := hmax q hlt i2
      omega
    unfold ko
    rw [hq0]
    have hrow : (rs.set r ((rs.getD r []).set q0 y)).getD r [] = (rs.getD r []).set q0 y := by
      rw [aJ (by rw [List.length_set]; omega), List.getElem_set_self]
    have hne : ∀ i, i ≠ r → (rs.set r ((rs.getD r []).set q0 y)).getD i [] = rs.getD i [] := fun i h => getD_set_ne (Ne.symm h) _ _
    have hset : ∀ c, c ≠ q0 → ((rs.getD r []).set q0 y).getD c 0 = (rs.getD r []).getD c 0 := fun c h => getD_set_ne (Ne.symm h) _ _
    have hself : ((rs.getD r []).set q0 y).getD q0 0 = y := by rw [aJ (by rw [List.length_set]; exact k1), List.getElem_set_self]
    refine rT r _ _ q0 (by rw [List.length_set]; omega) (fun i hi => ?_) (fun i hi hl => ?_) (fun i hi => ?_)
    · rw [hne _ (by omega), hne _ (by omega)]
      exact hA i (by omega)
    · rw [List.length_set] at hl
      by_cases e : i = r
      · subst e
        rw [hne (i + 1) (by omega), hrow, List.length_set]
        refine ⟨i1, fun c hc => ?_⟩
        by_cases e2 : c = q0
        · subst e2; rw [hself]; exact i5 c hqq hc
        · rw [hset c e2]
          by_cases e3 : c = q
          · subst e3
            have := i5 c (Nat.le_refl _) hc
            omega
          · exact i4 c hc e3
      · rw [hne (i + 1) (by omega), hne i e]
        exact hB i (by omega) hl
    · subst hi
      obtain ⟨a1, a2⟩ := hA i (by omega)
      rw [hrow, hne i (by omega), List.length_set]
      refine ⟨a1, by omega, a2 q0 k1, fun c hc e => ?_, fun c h1 h2 => ?_⟩
      · rw [hset c e]; exact a2 c hc
      · by_cases e : c = q0
        · subst e; rw [hself]; exact k2
        · rw [hset c e]
          have := hmax c (by omega) h2
          omega
def ch (rs : List (List Int)) (r : Nat) : List (List Int) :=
  if (rs.getD r []).length = 1 then (rs.set r ((rs.getD r []).take ((rs.getD r []).length - 1))).take r else rs.set r ((rs.getD r []).take ((rs.getD r []).length - 1))
def cU (a b : List (List Int)) : Prop := a.length = b.length ∧ ∀ i, (a.getD i []).length = (b.getD i []).length
theorem eR {α : Type} {l : List α} {n i : Nat} (h : i < n) (d : α) : (l.take n).getD i d = l.getD i d := by
  simp only [List.getD_eq_getElem?_getD, List.getElem?_take, if_pos h]
theorem rD {a b : List (List Int)} (h : cU a b) (n : Nat) : cU (a.take n) (b.take n) := by
  refine ⟨by rw [List.length_take, List.length_take, h.1], fun i => ?_⟩
  by_cases hi : i < n
  · rw [eR hi, eR hi]; exact h.2 i
  · rw [bQ (xs := a.take n) (by rw [List.length_take]; omega), bQ (xs := b.take n) (by rw [List.length_take]; omega)]
theorem sL (rs : List (List Int)) (r : Nat) : cU (jC rs r).1 (ch rs r) := by
  have a := n5 r (rs.set r ((rs.getD r []).take ((rs.getD r []).length - 1))) ((rs.getD r []).getD ((rs.getD r []).length - 1) 0)
  unfold jC ch
  simp only
  split
  · exact rD a r
  · exact a
theorem uS {a b : List (List Int)} (h : cU a b) (r : Nat) : cU (ch a r) (ch b r) := by
  have hs : cU (a.set r ((a.getD r []).take ((a.getD r []).length - 1))) (b.set r ((b.getD r []).take ((b.getD r []).length - 1))) := by
    refine ⟨by rw [List.length_set, List.length_set, h.1], fun i => ?_⟩
    by_cases e : i = r
    · subst e
      by_cases hi : i < a.length
      · rw [aJ (xs := a.set _ _) (by rw [List.length_set]; exact hi), List.getElem_set_self, aJ (xs := b.set _ _) (by rw [List.length_set, ← h.1]; exact hi), List.getElem_set_self, List.length_take, List.length_take, h.2 i]
      · rw [bQ (xs := a.set _ _) (by rw [List.length_set]; omega), bQ (xs := b.set _ _) (by rw [List.length_set, ← h.1]; omega)]
    · rw [getD_set_ne (Ne.symm e), getD_set_ne (Ne.symm e)]; exact h.2 i
  unfold ch
  rw [h.2 r]
  split
  · rw [← h.2 r] ; rw [h.2 r] at *; exact rD hs r
  · rw [h.2 r] at hs; exact hs
theorem cU.trans {a b c : List (List Int)} (h : cU a b) (h' : cU b c) : cU a c := ⟨h.1.trans h'.1, fun i => (h.2 i).trans (h'.2 i)⟩
theorem xO {rs : List (List Int)} (h : nr rs) (n : Nat) : nr (rs.take n) := by
  intro i hi
  rw [List.length_take] at hi
  rw [eR (by omega), eR (by omega)]
  exact h i (by omega)
theorem um {rs : List (List Int)} {r : Nat} (h : nr rs) (hr : r < rs.length) (hl : 1 ≤ (rs.getD r []).length) (hc : (rs.getD (r + 1) []).length < (rs.getD r []).length) : nr (jC rs r).1 := by
  have hrow : (rs.set r ((rs.getD r []).take ((rs.getD r []).length - 1))).getD r [] = (rs.getD r []).take ((rs.getD r []).length - 1) := by
    rw [aJ (by rw [List.length_set]; exact hr), List.getElem_set_self]
  have hne : ∀ i, i ≠ r → (rs.set r ((rs.getD r []).take ((rs.getD r []).length - 1))).getD i [] = rs.getD i [] := fun i h => getD_set_ne (Ne.symm h) _ _
  have key : nr (ko r (rs.set r ((rs.getD r []).take ((rs.getD r []).length - 1))) ((rs.getD r []).getD ((rs.getD r []).length - 1) 0)).1 := by
    refine rT r _ _ ((rs.getD r []).length - 1) (by rw [List.length_set]; exact hr) (fun i hi => ?_) (fun i hi hil => ?_) (fun i hi => ?_)
    · rw [hne _ (by omega), hne _ (by omega)]; exact h i (by omega)
    · rw [List.length_set] at hil
      by_cases e : i = r
      · subst e
        rw [hne (i + 1) (by omega), hrow, List.length_take]
        refine ⟨by omega, fun c hc' => ?_⟩
        rw [eR (by omega)]
        exact (h i hil).2 c hc'
      · rw [hne (i + 1) (by omega), hne i e]; exact h i hil
    · subst hi
      obtain ⟨a1, a2⟩ := h i hr
      rw [hrow, hne i (by omega), List.length_take]
      refine ⟨by omega, by omega, a2 _ (by omega), fun c h1 h2 => ?_, fun c h1 h2 => by omega⟩
      rw [eR (by omega)]
      exact a2 c (by omega)
  unfold jC
  simp only
  split
  · exact xO key r
  · exact key
end Go.Am.Pu
end
section
/- The greatest number of a standard tableau, and the tableau without it; a pair of tableaux unrolled. Plain words. -/
namespace Go.Am.Pu
section
variable {t : Tab}
theorem qP (h : ck t = true) (hs : gG t = true) {a b x y : Nat} (ha : a < t.2.length) (hx : x < (t.2.getD a []).length) (hb : b < t.2.length) (hy : y < (t.2.getD b []).length) (e : cel t.2 a x = cel t.2 b y) : a = b ∧ x = y := by
  have nd := (kz h hs).1
  rw [List.Nodup, List.pairwise_flatten] at nd
  have mem : ∀ {r z : Nat}, r < t.2.length → (hz : z < (t.2.getD r []).length) → cel t.2 r z ∈ t.2.getD r [] := fun {r z} _ hz => by
    unfold cel
    rw [aJ hz]
    exact List.getElem_mem hz
  have ab : ∀ {a b x y : Nat}, a < b → a < t.2.length → x < (t.2.getD a []).length → b < t.2.length → y < (t.2.getD b []).length → cel t.2 a x ≠ cel t.2 b y := fun {a b x y} hab ha hx hb hy => by
    have := List.pairwise_iff_getElem.1 nd.2 a b ha hb hab
    exact this _ (by rw [← aJ ha []]; exact mem ha hx) _ (by rw [← aJ hb []]; exact mem hb hy)
  have e1 : a = b := by
    rcases Nat.lt_trichotomy a b with hl | hl | hl
    · exact absurd e (ab hl ha hx hb hy)
    · exact hl
    · exact absurd e.symm (ab hl hb hy ha hx)
  subst e1
  refine ⟨rfl, ?_⟩
  have n2 := nd.1 _ (by rw [aJ ha]; exact List.getElem_mem ha : t.2.getD a [] ∈ t.2)
  unfold cel at e
  rw [aJ hx, aJ hy] at e
  rcases Nat.lt_trichotomy x y with hl | hl | hl
  · exact absurd e (List.pairwise_iff_getElem.1 n2 x y hx hy hl)
  · exact hl
  · exact absurd e.symm (List.pairwise_iff_getElem.1 n2 y x hy hx hl)
theorem iZ (h : ck t = true) (hs : gG t = true) {a x : Nat} {v : Int} (ha : a < t.2.length) (hx : x < (t.2.getD a []).length) (e : cel t.2 a x = v) : rowOf t v = a := by
  have hf : t.2.findIdx (fun r => has r v) = a := by
    rw [List.findIdx_eq ha]
    refine ⟨?_, fun j hj => ?_⟩
    · rw [← aJ ha [], pj, ← e]
      unfold cel
      rw [aJ hx]
      exact List.getElem_mem hx
    · rw [Bool.eq_false_iff]
      intro hc
      rw [pj] at hc
      obtain ⟨y, hy, e2⟩ := List.getElem_of_mem hc
      have hjl : j < t.2.length := by omega
      have hy' : y < (t.2.getD j []).length := by rw [aJ hjl]; exact hy
      have e3 : cel t.2 j y = v := by
        unfold cel
        rw [aJ hy']
        simp only [aJ hjl]
        exact e2
      have := qP h hs hjl hy' ha hx (by rw [e, e3])
      omega
  unfold rowOf zp
  rw [hf, if_pos ha]
theorem xL (h : ck t = true) (hs : gG t = true) (hn : t.2.flatten.length ≠ 0) : ∃ a : Nat, a < t.2.length ∧ 1 ≤ (t.2.getD a []).length ∧ cel t.2 a ((t.2.getD a []).length - 1) = t.2.flatten.length ∧ (t.2.getD (a + 1) []).length < (t.2.getD a []).length ∧ rowOf t t.2.flatten.length = a := by
  have ho : kJ t.2.flatten = true := by
    have := hs
    simp only [gG, Bool.and_eq_true] at this
    exact this.2
  obtain ⟨a, x, ha, hx, e⟩ := nH (jt.1 ho t.2.flatten.length (fM.2 (by omega)))
  have hb := (kz h hs).2
  obtain ⟨c1, c2⟩ := lb h
  have hx1 : x + 1 = (t.2.getD a []).length := by
    refine Nat.le_antisymm hx (Nat.le_of_not_lt fun hlt => ?_)
    have k1 := c2 a x ha hlt
    have k2 := (hb _ (jF ha hlt)).2
    have := qP h hs ha hx ha hlt (by omega)
    omega
  have hbel : (t.2.getD (a + 1) []).length ≤ x := by
    refine Nat.le_of_not_lt fun hlt => ?_
    have ha1 : a + 1 < t.2.length := Nat.lt_of_not_le fun hle => by rw [bQ hle] at hlt; simp at hlt
    have k1 := (mM h a ha1).2 x hlt
    have k2 := (hb _ (jF ha1 hlt)).2
    unfold cel at e k2
    omega
  refine ⟨a, ha, by omega, by rw [show (t.2.getD a []).length - 1 = x by omega]; exact e, by omega, iZ h hs ha hx e⟩
theorem mQ {rs : List (List Int)} {a : Nat} (ha : a < rs.length) (hc : (rs.getD (a + 1) []).length < (rs.getD a []).length) (hp : ∀ r, r < rs.length → 1 ≤ (rs.getD r []).length) (r : Nat) : (ch rs a).getD r [] = if r = a then (rs.getD a []).take ((rs.getD a []).length - 1) else rs.getD r [] := by
  have hset : (rs.set a ((rs.getD a []).take ((rs.getD a []).length - 1))).getD r [] = if r = a then (rs.getD a []).take ((rs.getD a []).length - 1) else rs.getD r [] := by
    by_cases e : r = a
    · subst e; rw [if_pos rfl, aJ (by rw [List.length_set]; exact ha), List.getElem_set_self]
    · rw [if_neg e, getD_set_ne (Ne.symm e)]
  unfold ch
  split
  · next h1 =>
    by_cases hr : r < a
    · rw [eR hr, hset]
    · rw [bQ (by rw [List.length_take]; omega)]
      by_cases e : r = a
      · subst e; rw [if_pos rfl, h1]; rfl
      · rw [if_neg e]
        have hlast : rs.length ≤ a + 1 := Nat.le_of_not_lt fun hlt => by
          have := hp (a + 1) hlt
          omega
        rw [bQ (by omega)]
  · exact hset
theorem pB {rs : List (List Int)} {a : Nat} (ha : a < rs.length) : (ch rs a).length = if (rs.getD a []).length = 1 then a else rs.length := by
  unfold ch
  split
  · rw [List.length_take, List.length_set]; omega
  · rw [List.length_set]
theorem yG (h : ck t = true) (hs : gG t = true) {a : Nat} (hn : t.2.flatten.length ≠ 0) (ha : a < t.2.length) (h1 : 1 ≤ (t.2.getD a []).length) (htop : cel t.2 a ((t.2.getD a []).length - 1) = t.2.flatten.length) (hc : (t.2.getD (a + 1) []).length < (t.2.getD a []).length) :
    ck (([], ch t.2 a) : Tab) = true ∧ gG (([], ch t.2 a) : Tab) = true ∧ (ch t.2 a).flatten.length + 1 = t.2.flatten.length ∧ ∀ v, 1 ≤ v → v < (t.2.flatten.length : Int) → rowOf ([], ch t.2 a) v = rowOf t v := by
  have hpos := fun r (hr : r < t.2.length) => vZ h hr
  have hrow := mQ ha hc hpos
  have hlen := pB ha
  obtain ⟨c1, c2⟩ := lb h
  have c3 := mM h
  have hcorner : (outer t).getD (a + 1) 0 < (outer t).getD a 0 := by
    rw [eD h ha]
    by_cases e : a + 1 < t.2.length
    · rw [eD h e]; omega
    · rw [bQ (by rw [dg]; omega)]; omega
  have hal : a < (outer t).length := by rw [dg]; exact ha
  have hout : outer (([], ch t.2 a) : Tab) = bH (outer t) a := by
    have hdl : (bH (outer t) a).length = (ch t.2 a).length := by
      rw [hlen]
      unfold bH
      rw [eD h ha]
      by_cases e : (t.2.getD a []).length = 1
      · rw [if_pos (by omega), if_pos e, List.length_take, dg]; omega
      · rw [if_neg (by omega), if_neg e, List.length_set, dg]
    refine List.ext_getElem (by rw [dg, hdl]) fun r k1 k2 => ?_
    rw [← aJ k1 0, ← aJ k2 0, qh (gZ h) hal hcorner]
    have k3 : r < (ch t.2 a).length := by rw [dg] at k1; exact k1
    have := dh [] (ch t.2 a) 0 r k3
    unfold outer at this ⊢
    rw [this, hrow]
    have hrl : r < t.2.length := by
      rw [hlen] at k3
      split at k3 <;> omega
    have po := eD h hrl
    have pa := eD h ha
    unfold outer at po pa
    by_cases e : r = a
    · subst e
      rw [if_pos rfl, if_pos rfl, List.length_take, pa]
      simp only [List.getD_nil]
      omega
    · rw [if_neg e, if_neg e, po]
      simp only [List.getD_nil]
      omega
  have hcel : ∀ {r x : Nat}, x < ((ch t.2 a).getD r []).length → x < (t.2.getD r []).length ∧ cel (ch t.2 a) r x = cel t.2 r x := fun {r x} hx => by
    unfold cel
    rw [hrow] at hx ⊢
    by_cases e : r = a
    · subst e
      rw [if_pos rfl, List.length_take] at hx
      rw [if_pos rfl, eR (by omega)]
      exact ⟨by omega, rfl⟩
    · rw [if_neg e] at hx ⊢
      exact ⟨hx, rfl⟩
  have hrl : ∀ {r : Nat}, r < (ch t.2 a).length → r < t.2.length := fun {r} hr => by
    rw [hlen] at hr
    split at hr <;> omega
  have hin : ∀ {r x : Nat}, x < (t.2.getD r []).length → ¬ (r = a ∧ x + 1 = (t.2.getD a []).length) → x < ((ch t.2 a).getD r []).length := fun {r x} hx hne => by
    rw [hrow]
    by_cases e : r = a
    · subst e
      rw [if_pos rfl, List.length_take]
      have : ¬ x + 1 = (t.2.getD r []).length := fun e => hne ⟨rfl, e⟩
      omega
    · rw [if_neg e]; exact hx
  have hpl : ck (([], ch t.2 a) : Tab) = true := by
    refine oB rfl (by rw [hout]; exact wS (gZ h) hal hcorner) (fun r x hr hx => ?_) (fun r x hr hx => ?_) (fun r x hr hx => ?_)
    · obtain ⟨k1, k2⟩ := hcel hx
      rw [k2]; exact c1 r x (hrl hr) k1
    · obtain ⟨k1, k2⟩ := hcel hx
      obtain ⟨_, k4⟩ := hcel (show x < ((ch t.2 a).getD r []).length from Nat.lt_of_succ_lt hx)
      rw [k2, k4]; exact c2 r x (hrl hr) k1
    · obtain ⟨k1, k2⟩ := hcel hx
      have hr1 := hrl hr
      obtain ⟨d1, d2⟩ := c3 r hr1
      have hxr : x < ((ch t.2 a).getD r []).length := by
        refine hin (by omega) fun e => ?_
        rw [e.1] at k1
        omega
      obtain ⟨_, k4⟩ := hcel hxr
      rw [k2, k4]
      exact d2 x k1
  have hfl : (ch t.2 a).flatten.length + 1 = t.2.flatten.length := by
    have e1 := rA hpl
    rw [hout, xQ (gZ h) hal hcorner, rA h] at e1
    simp only at e1
    omega
  have ho : kJ t.2.flatten = true := by
    have := hs
    simp only [gG, Bool.and_eq_true] at this
    exact this.2
  have hcells : ∀ v, 1 ≤ v → v < (t.2.flatten.length : Int) → ∃ r x, r < (ch t.2 a).length ∧ x < ((ch t.2 a).getD r []).length ∧ cel (ch t.2 a) r x = v ∧ r < t.2.length ∧ x < (t.2.getD r []).length ∧ cel t.2 r x = v := by
    intro v v1 v2
    obtain ⟨r, x, hr, hx, e⟩ := nH (jt.1 ho v (fM.2 (by omega)))
    have hx' : x < ((ch t.2 a).getD r []).length := by
      refine hin hx fun e2 => ?_
      rw [e2.1, show x = (t.2.getD a []).length - 1 by omega, htop] at e
      omega
    exact ⟨r, x, Nat.lt_of_not_le fun hle => by rw [bQ hle] at hx'; simp at hx', hx', by rw [(hcel hx').2]; exact e, hr, hx, e⟩
  have hst : gG (([], ch t.2 a) : Tab) = true := by
    have hp' := hpl
    simp only [ck, Bool.and_eq_true] at hp'
    simp only [gG, Bool.and_eq_true]
    refine ⟨hp'.1, jt.2 fun v hv => ?_⟩
    rw [fM] at hv
    obtain ⟨r, x, q1, q2, q3, _⟩ := hcells v hv.1 (by omega)
    rw [← q3]
    exact jF q1 q2
  refine ⟨hpl, hst, hfl, fun v v1 v2 => ?_⟩
  obtain ⟨r, x, q1, q2, q3, q4, q5, q6⟩ := hcells v v1 v2
  rw [iZ h hs q4 q5 q6, iZ hpl hst q1 q2 q3]
end
structure Unr (q : Tab) (k : Nat) (P Q : List (List Int)) : Prop where
  pl : ck (([], Q) : Tab) = true
  st : gG (([], Q) : Tab) = true
  fl : Q.flatten.length = k
  col : nr P
  same : cU P Q
  p9 : dG 9 9 P
  row : ∀ v, 1 ≤ v → v ≤ (k : Int) → rowOf ([], Q) v = rowOf q v
theorem Unr.step {q : Tab} {k : Nat} {P Q : List (List Int)} (h : Unr q (k + 1) P Q) : ∃ a : Nat, rowOf q ((k + 1 : Nat) : Int) = a ∧ a < Q.length ∧ 1 ≤ (Q.getD a []).length ∧ cel Q a ((Q.getD a []).length - 1) = (k + 1 : Nat) ∧ (Q.getD (a + 1) []).length < (Q.getD a []).length ∧ Unr q k (jC P a).1 (ch Q a) := by
  have hfl : (([], Q) : Tab).2.flatten.length = k + 1 := h.fl
  obtain ⟨a, a1, a2, a3, a4, a5⟩ := xL h.pl h.st (by omega)
  obtain ⟨b1, b2, b3, b4⟩ := yG h.pl h.st (by omega) a1 a2 a3 a4
  simp only at a1 a2 a3 a4 b3
  have hP1 : a < P.length := by rw [h.same.1]; exact a1
  refine ⟨a, ?_, a1, a2, by rw [a3, h.fl], a4, ⟨b1, b2, by have := h.fl; omega, um h.col hP1 (by rw [h.same.2]; exact a2) (by rw [h.same.2, h.same.2]; exact a4), (sL P a).trans (uS h.same a), s8 h.p9 a, fun v v1 v2 => ?_⟩⟩
  · rw [← h.row _ (by omega) (Int.le_refl _), ← a5, hfl]
  · rw [b4 v v1 (by rw [hfl]; omega)]
    exact h.row v v1 (by omega)
end Go.Am.Pu
namespace Go.Am.Pu
end Go.Am.Pu
end
section
/- Insertion keeps tableaux; where the new cells lie; a tableau from its word. Plain words. -/
namespace Go.Am.Pu
def jW (r : List Int) : Prop := ∀ i, i + 1 < r.length → r.getD i 0 ≤ r.getD (i + 1) 0
theorem jW.le {r : List Int} (h : jW r) : ∀ (d i : Nat), i + d < r.length → r.getD i 0 ≤ r.getD (i + d) 0
  | 0, i, _ => Int.le_refl _
  | d + 1, i, hi => by
    have a := jW.le h d i (by omega)
    have b := h (i + d) (by omega)
    rw [show i + (d + 1) = i + d + 1 by omega]
    omega
theorem jW.mono {r : List Int} (h : jW r) {i j : Nat} (hij : i ≤ j) (hj : j < r.length) : r.getD i 0 ≤ r.getD j 0 := by
  have := h.le (j - i) i (by omega)
  rw [show i + (j - i) = j by omega] at this
  exact this
def fst (r : List Int) (x : Int) : Nat := r.findIdx fun n => decide (x < n)
theorem tk {r : List Int} {x : Int} : fst r x ≤ r.length := List.findIdx_le_length
theorem ye {r : List Int} {x : Int} (h : fst r x < r.length) : x < r.getD (fst r x) 0 := by
  have := vd (p := fun n => decide (x < n)) h
  exact of_decide_eq_true this
theorem sA {r : List Int} {x : Int} {i : Nat} (h : i < fst r x) : r.getD i 0 ≤ x := by
  have h1 : i < r.length := Nat.lt_of_lt_of_le h tk
  have h2 := List.not_of_lt_findIdx h
  rw [aJ h1]
  exact Int.not_lt.1 (of_decide_eq_false h2)
theorem gB (r : List Int) (rs : List (List Int)) (x : Int) : dc (r :: rs) x = if fst r x < r.length then (r.set (fst r x) x :: (dc rs (r.getD (fst r x) 0)).1, (dc rs (r.getD (fst r x) 0)).2 + 1) else ((r ++ [x]) :: rs, 0) := rfl
def zf (r : List Int) : List (List Int) → Prop
  | [] => True
  | s :: _ => s.length ≤ r.length ∧ ∀ q, q < s.length → r.getD q 0 < s.getD q 0
def SSR : List (List Int) → Prop
  | [] => True
  | r :: rs => 0 < r.length ∧ jW r ∧ zf r rs ∧ SSR rs
theorem hU {r : List Int} {i : Nat} (x : Int) (h : i < r.length) (q : Nat) : (r.set i x).getD q 0 = if q = i then x else r.getD q 0 := by
  by_cases e : q = i
  · subst e; rw [if_pos rfl, aJ (by rw [List.length_set]; exact h), List.getElem_set_self]
  · rw [if_neg e, getD_set_ne (Ne.symm e)]
theorem fS {r : List Int} (x : Int) (q : Nat) : (r ++ [x]).getD q 0 = if q = r.length then x else r.getD q 0 := by
  by_cases h : q < r.length
  · rw [xb h, if_neg (by omega)]
  · rw [wN (by omega)]
    by_cases e : q = r.length
    · rw [if_pos e, e, Nat.sub_self]; rfl
    · rw [if_neg e, bQ (by simp; omega), bQ (by omega)]
theorem yp {r : List Int} {x : Int} (h : jW r) (hf : fst r x < r.length) : jW (r.set (fst r x) x) := by
  intro i hi
  rw [List.length_set] at hi
  rw [hU x hf, hU x hf]
  have h0 := h i hi
  by_cases e1 : i = fst r x
  · rw [if_pos e1, if_neg (by omega)]
    have := ye hf
    rw [← e1] at this
    omega
  · rw [if_neg e1]
    by_cases e2 : i + 1 = fst r x
    · rw [if_pos e2]; exact sA (by omega)
    · rw [if_neg e2]; exact h0
theorem yT {r : List Int} {x : Int} (h : jW r) (hf : ¬ fst r x < r.length) : jW (r ++ [x]) := by
  intro i hi
  rw [List.length_append, List.length_singleton] at hi
  rw [fS, fS, if_neg (by omega)]
  by_cases e : i + 1 = r.length
  · rw [if_pos e]
    have := @tk r x
    exact sA (by omega)
  · rw [if_neg e]; exact h i (by omega)
theorem xW {r : List Int} {x : Int} {rs : List (List Int)} (h : jW r) (hf : fst r x < r.length) (ho : zf r rs) : zf (r.set (fst r x) x) (dc rs (r.getD (fst r x) 0)).1 := by
  have hy := ye hf
  have hle : ∀ q, q < r.length → (r.set (fst r x) x).getD q 0 ≤ r.getD q 0 := fun q hq => by
    rw [hU x hf]
    split
    · next e => rw [e]; omega
    · exact Int.le_refl _
  have hlow : ∀ p, p ≤ fst r x → (r.set (fst r x) x).getD p 0 < r.getD (fst r x) 0 := fun p hp => by
    rw [hU x hf]
    split
    · exact hy
    · have := sA (r := r) (x := x) (i := p) (by omega)
      omega
  cases rs with
  | nil =>
    show ([r.getD (fst r x) 0] : List Int).length ≤ _ ∧ _
    refine ⟨by rw [List.length_set]; simp; omega, fun q hq => ?_⟩
    have e : q = 0 := by simp at hq; exact hq
    subst e
    exact hlow 0 (by omega)
  | cons s rs =>
    obtain ⟨o1, o2⟩ := ho
    have hp : fst s (r.getD (fst r x) 0) ≤ fst r x := by
      refine Nat.le_of_not_lt fun hlt => ?_
      have hs : fst r x < s.length := Nat.lt_of_lt_of_le hlt tk
      have a := sA hlt
      have b := o2 _ hs
      omega
    rw [gB]
    by_cases c : fst s (r.getD (fst r x) 0) < s.length
    · rw [if_pos c]
      refine ⟨by rw [List.length_set, List.length_set]; exact o1, fun q hq => ?_⟩
      rw [List.length_set] at hq
      rw [hU (r := s) _ c]
      split
      · next e => rw [e]; exact hlow _ hp
      · have a := hle q (by omega)
        have b := o2 q hq
        omega
    · rw [if_neg c]
      have hsl : fst s (r.getD (fst r x) 0) = s.length := Nat.le_antisymm tk (Nat.le_of_not_lt c)
      refine ⟨by rw [List.length_set, List.length_append, List.length_singleton]; omega, fun q hq => ?_⟩
      rw [List.length_append, List.length_singleton] at hq
      rw [fS]
      split
      · next e => rw [e]; exact hlow _ (by omega)
      · have a := hle q (by omega)
        have b := o2 q (by omega)
        omega
theorem wm : ∀ (rs : List (List Int)) (x : Int), SSR rs → SSR (dc rs x).1
  | [], x, _ => ⟨by simp, fun i hi => by simp at hi, trivial, trivial⟩
  | r :: rs, x, h => by
    obtain ⟨h1, h2, h3, h4⟩ := h
    rw [gB]
    split
    · next c => exact ⟨by rw [List.length_set]; exact h1, yp h2 c, xW h2 c h3, wm rs _ h4⟩
    · next c =>
      refine ⟨by simp, yT h2 c, ?_, h4⟩
      cases rs with
      | nil => trivial
      | cons s rs =>
        obtain ⟨o1, o2⟩ := h3
        refine ⟨by rw [List.length_append]; omega, fun q hq => ?_⟩
        rw [fS, if_neg (by omega)]
        exact o2 q hq
end Go.Am.Pu
end
section
/- Plain tableaux, row by row; a tableau from its word; words inserted. Plain words. -/
namespace Go.Am.Pu
theorem sN : ∀ {rs : List (List Int)}, SSR rs → ∀ r, r < rs.length → 0 < (rs.getD r []).length ∧ jW (rs.getD r [])
  | r :: rs, h, 0, _ => ⟨h.1, h.2.1⟩
  | r :: rs, h, q + 1, hq => sN h.2.2.2 q (by simpa using hq)
theorem ta : ∀ {rs : List (List Int)}, SSR rs → nr rs
  | [], _, i, hi => by simp at hi
  | [r], _, i, hi => by simp at hi
  | r :: s :: rs, h, 0, _ => h.2.2.1
  | r :: s :: rs, h, i + 1, hi => ta h.2.2.2 i (by simpa using hi)
theorem sr : ∀ {rs : List (List Int)}, (∀ r, r < rs.length → 0 < (rs.getD r []).length ∧ jW (rs.getD r [])) → nr rs → SSR rs
  | [], _, _ => trivial
  | r :: rs, h1, h2 => by
    refine ⟨(h1 0 (by simp)).1, (h1 0 (by simp)).2, ?_, sr (fun q hq => h1 (q + 1) (by simpa using hq)) (fun i hi => h2 (i + 1) (by simpa using hi))⟩
    cases rs with
    | nil => trivial
    | cons s rs => exact h2 0 (by simp)
theorem mf (rs : List (List Int)) {i : Nat} (h : i < rs.length) : (outer (([], rs) : Tab)).getD i 0 = (rs.getD i []).length := by
  have := dh [] rs 0 i h
  unfold outer
  rw [this]
  simp
theorem sW {rs : List (List Int)} (h : SSR rs) (hn : ∀ x ∈ rs.flatten, 1 ≤ x ∧ x ≤ 9) (h9 : rs.flatten.length ≤ 9) : ck (([], rs) : Tab) = true := by
  have hr := fun r hr => sN h r hr
  have hc := ta h
  have hrl : ∀ r, r < rs.length → (rs.getD r []).length ≤ 9 := fun r h1 => by
    have := qD (rs := rs) (r := rs.getD r []) (by rw [aJ h1]; exact List.getElem_mem h1)
    omega
  refine oB rfl ?_ (fun r x h1 h2 => hn _ (jF h1 h2)) (fun r x h1 h2 => (hr r h1).2 x h2) (fun r x h1 h2 => (hc r h1).2 x h2)
  have hs : fJ (outer (([], rs) : Tab)) = rs.flatten.length := mc [] rs 0 fun q _ => by simp
  refine kr _ 9 0 (fun x hx => ?_) (fun h0 => ?_) (fun i hi => ?_) (by omega)
  · obtain ⟨i, hi, rfl⟩ := List.getElem_of_mem hx
    have hi' : i < rs.length := by rw [dg] at hi; exact hi
    rw [← aJ hi 0, mf rs hi']
    have := (hr i hi').1
    omega
  · have h0' : 0 < rs.length := by rw [dg] at h0; exact h0
    rw [mf rs h0']
    have := hrl 0 h0'
    omega
  · have hi' : i + 1 < rs.length := by rw [dg] at hi; exact hi
    rw [mf rs hi', mf rs (by omega)]
    have := (hc i hi').1
    omega
theorem v7 : ∀ (rs : List (List Int)) (x z : Int), z ∈ (dc rs x).1.flatten → z = x ∨ z ∈ rs.flatten
  | [], x, z, h => by simp [dc] at h; exact .inl h
  | r :: rs, x, z, h => by
    rw [gB] at h
    split at h
    · next c =>
      simp only [List.flatten_cons, List.mem_append] at h ⊢
      rcases h with h | h
      · rcases List.mem_or_eq_of_mem_set h with h | h
        · exact .inr (.inl h)
        · exact .inl h
      · rcases v7 rs _ z h with h | h
        · right; left
          rw [h, aJ c]
          exact List.getElem_mem c
        · exact .inr (.inr h)
    · simp only [List.flatten_cons, List.mem_append, List.mem_singleton] at h ⊢
      rcases h with (h | h) | h
      · exact .inr (.inl h)
      · exact .inl h
      · exact .inr (.inr h)
theorem ud : ∀ (rs : List (List Int)) (x : Int), (dc rs x).1.flatten.length = rs.flatten.length + 1
  | [], x => by simp [dc]
  | r :: rs, x => by
    rw [gB]
    split
    · have := ud rs (r.getD (fst r x) 0)
      simp only [List.flatten_cons, List.length_append, List.length_set]
      omega
    · simp only [List.flatten_cons, List.length_append, List.length_singleton]
      omega
theorem wg : ∀ (rs : List (List Int)) (x : Int), (dc rs x).2 ≤ rs.length ∧ ((dc rs x).1.length = if (dc rs x).2 = rs.length then rs.length + 1 else rs.length) ∧ ∀ i, ((dc rs x).1.getD i []).length = if i = (dc rs x).2 then (rs.getD i []).length + 1 else (rs.getD i []).length
  | [], x => by
    refine ⟨Nat.le_refl _, rfl, fun i => ?_⟩
    cases i with
    | zero => rfl
    | succ i => simp [dc]
  | r :: rs, x => by
    rw [gB]
    split
    · next c =>
      obtain ⟨a, b, d⟩ := wg rs (r.getD (fst r x) 0)
      refine ⟨by simp only [List.length_cons]; omega, ?_, fun i => ?_⟩
      · simp only [List.length_cons, b, Nat.add_right_cancel_iff]
        split <;> rfl
      · cases i with
        | zero => simp
        | succ i =>
          have := d i
          simp only [Nat.add_right_cancel_iff]
          exact this
    · refine ⟨Nat.zero_le _, by simp, fun i => ?_⟩
      cases i with
      | zero => simp
      | succ i => simp
end Go.Am.Pu
end
section
/- The recording tableau is standard, and its descents are the word's. Plain words. -/
namespace Go.Am.Pu
def iL (Q : List (List Int)) (a : Nat) (v : Int) : List (List Int) := if a = Q.length then Q ++ [[v]] else Q.set a (Q.getD a [] ++ [v])
theorem wH {Q : List (List Int)} {a : Nat} (v : Int) (ha : a ≤ Q.length) (i : Nat) : (iL Q a v).getD i [] = if i = a then Q.getD a [] ++ [v] else Q.getD i [] := by
  unfold iL
  by_cases e : a = Q.length
  · rw [if_pos e]
    by_cases h : i < Q.length
    · rw [if_neg (by omega)]
      simp only [List.getD_eq_getElem?_getD, List.getElem?_append_left h]
    · by_cases e2 : i = a
      · rw [if_pos e2, e2, e, bQ (xs := Q) (Nat.le_refl _)]
        simp
      · rw [if_neg e2, bQ (xs := Q) (by omega), bQ (by rw [List.length_append, List.length_singleton]; omega)]
  · rw [if_neg e]
    by_cases e2 : i = a
    · subst e2; rw [if_pos rfl, aJ (by rw [List.length_set]; omega), List.getElem_set_self]
    · rw [if_neg e2, getD_set_ne (Ne.symm e2)]
theorem w8 {Q : List (List Int)} {a : Nat} (v : Int) : (iL Q a v).length = if a = Q.length then Q.length + 1 else Q.length := by
  unfold iL
  split
  · rw [List.length_append, List.length_singleton]
  · rw [List.length_set]
theorem u9 {Q : List (List Int)} {a : Nat} (v : Int) (ha : a ≤ Q.length) : (iL Q a v).flatten.length = Q.flatten.length + 1 := by
  unfold iL
  split
  · simp
  · next e =>
    have : ∀ (Q : List (List Int)) (a : Nat), a < Q.length → (Q.set a (Q.getD a [] ++ [v])).flatten.length = Q.flatten.length + 1 := by
      intro Q
      induction Q with
      | nil => intro a h; simp at h
      | cons r rs ih =>
        intro a h
        cases a with
        | zero => simp; omega
        | succ a =>
          have := ih a (by simpa using h)
          simp only [List.set_cons_succ, List.getD_cons_succ, List.flatten_cons, List.length_append, this]
          omega
    exact this Q a (by omega)
theorem yA {Q P : List (List Int)} {a k : Nat} (hp : ck (([], Q) : Tab) = true) (hs : gG (([], Q) : Tab) = true) (hk : Q.flatten.length = k) (h9 : k + 1 ≤ 9) (hP : SSR P) (ha : a ≤ Q.length) (hPl : P.length = if a = Q.length then Q.length + 1 else Q.length)
    (hl : ∀ i, (P.getD i []).length = if i = a then (Q.getD i []).length + 1 else (Q.getD i []).length) :
    ck (([], iL Q a ((k + 1 : Nat) : Int)) : Tab) = true ∧ gG (([], iL Q a ((k + 1 : Nat) : Int)) : Tab) = true ∧ (iL Q a ((k + 1 : Nat) : Int)).flatten.length = k + 1 ∧ cU P (iL Q a ((k + 1 : Nat) : Int)) ∧
      rowOf ([], iL Q a ((k + 1 : Nat) : Int)) ((k + 1 : Nat) : Int) = a ∧ ∀ v, 1 ≤ v → v ≤ (k : Int) → rowOf ([], iL Q a ((k + 1 : Nat) : Int)) v = rowOf ([], Q) v := by
  have hget := wH ((k + 1 : Nat) : Int) ha
  have hlen := @w8 Q a ((k + 1 : Nat) : Int)
  have hfl := u9 ((k + 1 : Nat) : Int) ha
  generalize hN : iL Q a ((k + 1 : Nat) : Int) = N at *
  have hNl : ∀ i, (N.getD i []).length = if i = a then (Q.getD i []).length + 1 else (Q.getD i []).length := fun i => by
    rw [hget]
    split
    · next e => rw [e, List.length_append, List.length_singleton]
    · rfl
  have hsame : cU P N := ⟨by rw [hPl, hlen], fun i => by rw [hl, hNl]⟩
  have hcel : ∀ r x, cel N r x = if r = a ∧ x = (Q.getD a []).length then ((k + 1 : Nat) : Int) else cel Q r x := fun r x => by
    unfold cel
    rw [hget]
    by_cases e : r = a
    · subst e
      rw [if_pos rfl, fS]
      by_cases e2 : x = (Q.getD r []).length
      · rw [if_pos e2, if_pos ⟨rfl, e2⟩]
      · rw [if_neg e2, if_neg (fun h => e2 h.2)]
    · rw [if_neg e, if_neg (fun h => e h.1)]
  have hb := (kz hp hs).2
  simp only at hb
  rw [hk] at hb
  have hQ : ∀ {r x : Nat}, x < (Q.getD r []).length → 1 ≤ cel Q r x ∧ cel Q r x ≤ (k : Int) := fun {r x} hx => by
    have hr : r < Q.length := Nat.lt_of_not_le fun hle => by rw [bQ hle] at hx; simp at hx
    exact hb _ (jF hr hx)
  obtain ⟨q1, q2⟩ := lb hp
  have q3 := mM hp
  simp only at q2 q3
  have pc := ta hP
  have pr := fun r hr => sN hP r hr
  have hqlen : ∀ i, (Q.getD (i + 1) []).length ≤ (Q.getD i []).length := fun i => by
    by_cases h : i + 1 < Q.length
    · exact (q3 i h).1
    · rw [bQ (by omega)]; exact Nat.zero_le _
  have hssr : SSR N := by
    refine sr (fun r hr => ⟨?_, fun x hx => ?_⟩) (fun i hi => ?_)
    · rw [← hsame.2]; exact (pr r (by rw [hsame.1]; exact hr)).1
    · have e1 := hcel r x
      have e2 := hcel r (x + 1)
      unfold cel at e1 e2
      rw [e1, e2]
      rw [hNl] at hx
      have hxQ : x < (Q.getD r []).length := by
        split at hx <;> omega
      rw [if_neg (fun h => by rw [h.1] at hxQ; omega)]
      have hv := hQ hxQ
      unfold cel at hv
      by_cases e : r = a ∧ x + 1 = (Q.getD a []).length
      · rw [if_pos e]; omega
      · rw [if_neg e]
        have hx1 : x + 1 < (Q.getD r []).length := by
          split at hx
          · next e3 =>
            have : ¬ x + 1 = (Q.getD a []).length := fun h => e ⟨e3, h⟩
            rw [← e3] at this
            omega
          · exact hx
        have hr : r < Q.length := Nat.lt_of_not_le fun hle => by rw [bQ hle] at hx1; simp at hx1
        exact q2 r x hr hx1
    · obtain ⟨c1, c2⟩ := pc i (by rw [hsame.1]; exact hi)
      rw [hsame.2, hsame.2] at c1
      refine ⟨c1, fun x hx => ?_⟩
      have e1 := hcel i x
      have e2 := hcel (i + 1) x
      unfold cel at e1 e2
      rw [e1, e2]
      rw [hNl] at hx
      have hxi : x < (N.getD i []).length := by
        have := hNl (i + 1)
        omega
      rw [hNl] at hxi
      by_cases e : i + 1 = a ∧ x = (Q.getD a []).length
      · rw [if_pos e, if_neg (fun h => by omega)]
        have hxQ : x < (Q.getD i []).length := by rw [if_neg (by omega)] at hxi; exact hxi
        have hv := hQ hxQ
        unfold cel at hv
        omega
      · rw [if_neg e]
        have hx1 : x < (Q.getD (i + 1) []).length := by
          split at hx
          · next e3 =>
            have : ¬ x = (Q.getD a []).length := fun h => e ⟨e3, h⟩
            rw [← e3] at this
            omega
          · exact hx
        have hxQ : x < (Q.getD i []).length := Nat.lt_of_lt_of_le hx1 (hqlen i)
        rw [if_neg (fun h => by rw [h.1] at hxQ; omega)]
        have hr : i + 1 < Q.length := Nat.lt_of_not_le fun hle => by rw [bQ hle] at hx1; simp at hx1
        exact (q3 i hr).2 x hx1
  have hflk : N.flatten.length = k + 1 := by omega
  have hmem : ∀ z ∈ N.flatten, 1 ≤ z ∧ z ≤ 9 := fun z hz => by
    obtain ⟨r, x, hr, hx, e⟩ := nH hz
    rw [← e, hcel]
    split
    · omega
    · next hc =>
      rw [hNl] at hx
      have hxQ : x < (Q.getD r []).length := by
        split at hx
        · next e3 =>
          have : ¬ x = (Q.getD a []).length := fun h => hc ⟨e3, h⟩
          rw [← e3] at this
          omega
        · exact hx
      have := hQ hxQ
      omega
  have hpl := sW hssr hmem (by omega)
  have haN : a < N.length := by
    rw [hlen]
    split <;> omega
  have hxN : (Q.getD a []).length < (N.getD a []).length := by rw [hNl, if_pos rfl]; omega
  have hnew : cel N a (Q.getD a []).length = ((k + 1 : Nat) : Int) := by rw [hcel, if_pos ⟨rfl, rfl⟩]
  have hold : ∀ {r x : Nat}, x < (Q.getD r []).length → r < N.length ∧ x < (N.getD r []).length ∧ cel N r x = cel Q r x := fun {r x} hx => by
    have hx' : x < (N.getD r []).length := by
      rw [hNl]
      split <;> omega
    refine ⟨Nat.lt_of_not_le fun hle => by rw [bQ hle] at hx'; simp at hx', hx', ?_⟩
    rw [hcel, if_neg (fun h => by rw [h.1] at hx; omega)]
  have ho : kJ Q.flatten = true := by
    have := hs
    simp only [gG, Bool.and_eq_true] at this
    exact this.2
  have hst : gG (([], N) : Tab) = true := by
    have hp' := hpl
    simp only [ck, Bool.and_eq_true] at hp'
    simp only [gG, Bool.and_eq_true]
    refine ⟨hp'.1, jt.2 fun v hv => ?_⟩
    rw [hflk, fM] at hv
    by_cases e : v = ((k + 1 : Nat) : Int)
    · rw [e, ← hnew]; exact jF haN hxN
    · obtain ⟨r, x, hr, hx, e2⟩ := nH (jt.1 ho v (fM.2 (by omega)))
      obtain ⟨d1, d2, d3⟩ := hold hx
      rw [← e2, ← d3]
      exact jF d1 d2
  refine ⟨hpl, hst, hflk, hsame, iZ hpl hst haN hxN hnew, fun v v1 v2 => ?_⟩
  obtain ⟨r, x, hr, hx, e2⟩ := nH (jt.1 ho v (fM.2 (by omega)))
  obtain ⟨d1, d2, d3⟩ := hold hx
  rw [iZ hpl hst d1 d2 (by rw [d3]; exact e2), iZ hp hs hr hx e2]
structure Ins (P Q : List (List Int)) (k : Nat) : Prop where
  ssr : SSR P
  num : ∀ x ∈ P.flatten, 1 ≤ x ∧ x ≤ 9
  fl : P.flatten.length = k
  pl : ck (([], Q) : Tab) = true
  st : gG (([], Q) : Tab) = true
  qf : Q.flatten.length = k
  same : cU P Q
theorem Ins.step {P Q : List (List Int)} {k : Nat} {x : Int} (h : Ins P Q k) (hx : 1 ≤ x ∧ x ≤ 9) (h9 : k + 1 ≤ 9) :
    Ins (dc P x).1 (iL Q (dc P x).2 ((k + 1 : Nat) : Int)) (k + 1) ∧ rowOf ([], iL Q (dc P x).2 ((k + 1 : Nat) : Int)) ((k + 1 : Nat) : Int) = ((dc P x).2 : Nat) ∧ ∀ v, 1 ≤ v → v ≤ (k : Int) → rowOf ([], iL Q (dc P x).2 ((k + 1 : Nat) : Int)) v = rowOf ([], Q) v := by
  obtain ⟨a, b, c⟩ := wg P x
  have hs := wm P x h.ssr
  obtain ⟨d1, d2, d3, d4, d5, d6⟩ := yA (a := (dc P x).2) h.pl h.st h.qf h9 hs (by rw [← h.same.1]; exact a) (by rw [← h.same.1]; exact b) (fun i => by rw [← h.same.2]; exact c i)
  refine ⟨⟨hs, fun z hz => ?_, by rw [ud, h.fl], d1, d2, d3, d4⟩, d5, d6⟩
  rcases v7 P x z hz with e | e
  · rw [e]; exact hx
  · exact h.num z e
theorem Ins.nil : Ins [] [] 0 := ⟨trivial, fun x hx => by simp at hx, rfl, rfl, rfl, rfl, ⟨rfl, fun _ => rfl⟩⟩
end Go.Am.Pu
end
section
/- Words, and what inserting makes of them. Plain words. -/
namespace Go.Am.Pu
end Go.Am.Pu
end
section
/- Standardizing a tableau: the cells numbered by number and column. Plain words. -/
namespace Go.Am.Pu
def fL (Q : List (List Int)) (v : Int) (c r : Nat) (s : Nat × List (List Int)) : Nat × List (List Int) :=
  if c < (Q.getD r []).length ∧ cel Q r c = v then (s.1 + 1, iR s.2 r c ((s.1 + 1 : Nat) : Int)) else s
structure Num (Q : List (List Int)) (D : Nat → Nat → Prop) (s : Nat × List (List Int)) (F : List Int) : Prop where
  same : cU s.2 Q
  len : F.length = s.1
  val : ∀ r x, r < Q.length → x < (Q.getD r []).length → D r x → ∃ k, k < s.1 ∧ cel s.2 r x = ((k + 1 : Nat) : Int) ∧ F.getD k 0 = cel Q r x
  inj : ∀ r x r' x', r < Q.length → x < (Q.getD r []).length → D r x → r' < Q.length → x' < (Q.getD r' []).length → D r' x' → cel s.2 r x = cel s.2 r' x' → r = r' ∧ x = x'
  all : ∀ k, k < s.1 → ∃ r x, r < Q.length ∧ x < (Q.getD r []).length ∧ D r x ∧ cel s.2 r x = ((k + 1 : Nat) : Int)
  lex : ∀ r x r' x', r < Q.length → x < (Q.getD r []).length → D r x → r' < Q.length → x' < (Q.getD r' []).length → D r' x' → cel s.2 r x < cel s.2 r' x' → cel Q r x < cel Q r' x' ∨ (cel Q r x = cel Q r' x' ∧ x ≤ x')
theorem Num.congr {Q : List (List Int)} {D D' : Nat → Nat → Prop} {s : Nat × List (List Int)} {F : List Int} (h : Num Q D s F) (e : ∀ r x, r < Q.length → x < (Q.getD r []).length → (D r x ↔ D' r x)) : Num Q D' s F :=
  ⟨h.same, h.len, fun r x a b d => h.val r x a b ((e r x a b).2 d), fun r x r' x' a b d a' b' d' => h.inj r x r' x' a b ((e r x a b).2 d) a' b' ((e r' x' a' b').2 d'),
    fun k hk => by obtain ⟨r, x, a, b, d, q⟩ := h.all k hk; exact ⟨r, x, a, b, (e r x a b).1 d, q⟩, fun r x r' x' a b d a' b' d' => h.lex r x r' x' a b ((e r x a b).2 d) a' b' ((e r' x' a' b').2 d')⟩
def Dn (Q : List (List Int)) (v : Int) (c r : Nat) (a i : Nat) : Prop := cel Q a i < v ∨ (cel Q a i = v ∧ (i < c ∨ (i = c ∧ a < r)))
theorem Num.step {Q : List (List Int)} {v : Int} {c r : Nat} {s : Nat × List (List Int)} {F : List Int} (h : Num Q (Dn Q v c r) s F) (hr : r < Q.length) : ∃ F', Num Q (Dn Q v c (r + 1)) (fL Q v c r s) F' := by
  unfold fL
  split
  · next hc =>
    obtain ⟨hc, hv⟩ := hc
    have hnd : ¬ Dn Q v c r r c := by unfold Dn; omega
    have hsr : r < s.2.length := by rw [h.same.1]; exact hr
    have hsc : c < (s.2.getD r []).length := by rw [h.same.2]; exact hc
    have new : ∀ a i, Dn Q v c (r + 1) a i → (a = r ∧ i = c) ∨ (¬ (a = r ∧ i = c) ∧ Dn Q v c r a i) := fun a i d => by
      by_cases e : a = r ∧ i = c
      · exact .inl e
      · refine .inr ⟨e, ?_⟩
        unfold Dn at d ⊢
        omega
    have at1 := jD (g := s.2) (r := r) (c := c) ((s.1 + 1 : Nat) : Int) hsr hsc
    have ne1 : ∀ a i, ¬ (a = r ∧ i = c) → cel (iR s.2 r c ((s.1 + 1 : Nat) : Int)) a i = cel s.2 a i := fun a i e => ic _ e
    refine ⟨F ++ [v], ⟨⟨by rw [fO]; exact h.same.1, fun i => by rw [cZ]; exact h.same.2 i⟩, by rw [List.length_append, List.length_singleton, h.len], ?_, ?_, ?_, ?_⟩⟩
    · intro a i ha hi d
      rcases new a i d with ⟨rfl, rfl⟩ | ⟨e, d'⟩
      · refine ⟨s.1, by simp only; omega, at1, ?_⟩
        rw [hv, ← h.len, List.getD_eq_getElem?_getD]
        simp
      · obtain ⟨k, k1, k2, k3⟩ := h.val a i ha hi d'
        refine ⟨k, by simp only; omega, by rw [ne1 a i e]; exact k2, ?_⟩
        rw [← k3, List.getD_eq_getElem?_getD, List.getD_eq_getElem?_getD, List.getElem?_append_left (by rw [h.len]; exact k1)]
    · intro a i b j ha hi d hb hj d' e
      rcases new a i d with ⟨rfl, rfl⟩ | ⟨ea, da⟩
      · rcases new b j d' with ⟨rfl, rfl⟩ | ⟨eb, db⟩
        · exact ⟨rfl, rfl⟩
        · obtain ⟨k, k1, k2, _⟩ := h.val b j hb hj db
          simp only at e
          rw [at1, ne1 b j eb, k2] at e
          omega
      · rcases new b j d' with ⟨rfl, rfl⟩ | ⟨eb, db⟩
        · obtain ⟨k, k1, k2, _⟩ := h.val a i ha hi da
          simp only at e
          rw [at1, ne1 a i ea, k2] at e
          omega
        · simp only at e
          rw [ne1 a i ea, ne1 b j eb] at e
          exact h.inj a i b j ha hi da hb hj db e
    · intro k hk
      simp only at hk
      by_cases ek : k = s.1
      · subst ek
        exact ⟨r, c, hr, hc, by unfold Dn; omega, at1⟩
      · obtain ⟨a, i, ha, hi, d, e⟩ := h.all k (by omega)
        have hne : ¬ (a = r ∧ i = c) := fun q => by rw [q.1, q.2] at d; exact hnd d
        exact ⟨a, i, ha, hi, by unfold Dn at d ⊢; omega, by simp only; rw [ne1 a i hne]; exact e⟩
    · intro a i b j ha hi d hb hj d' e
      simp only at e
      rcases new a i d with ⟨rfl, rfl⟩ | ⟨ea, da⟩
      · rcases new b j d' with ⟨rfl, rfl⟩ | ⟨eb, db⟩
        · omega
        · obtain ⟨k, k1, k2, _⟩ := h.val b j hb hj db
          rw [at1, ne1 b j eb, k2] at e
          omega
      · rcases new b j d' with ⟨rfl, rfl⟩ | ⟨eb, db⟩
        · unfold Dn at da
          omega
        · rw [ne1 a i ea, ne1 b j eb] at e
          exact h.lex a i b j ha hi da hb hj db e
  · next hc =>
    refine ⟨F, h.congr fun a i ha hi => ?_⟩
    unfold Dn
    constructor
    · intro d; omega
    · intro d
      by_cases e : a = r ∧ i = c
      · obtain ⟨rfl, rfl⟩ := e
        have : cel Q a i ≠ v := fun q => hc ⟨hi, q⟩
        omega
      · omega
structure rR (Q X : List (List Int)) (f : Int → Int) : Prop where
  same : cU X Q
  val : ∀ r x, r < X.length → x < (X.getD r []).length → cel Q r x = f (cel X r x)
  lex : ∀ r x r' x', r < X.length → x < (X.getD r []).length → r' < X.length → x' < (X.getD r' []).length → cel X r x < cel X r' x' → cel Q r x < cel Q r' x' ∨ (cel Q r x = cel Q r' x' ∧ x < x')
end Go.Am.Pu
end
section
/- A pair of tableaux unrolled, the second one semistandard; sorting; the matrix of a pair. Plain words. -/
namespace Go.Am.Pu
def vg (R : Int → Prop) (rs : List (List Int)) : Prop := ∀ r ∈ rs, ∀ v ∈ r, R v
theorem vg.at {R : Int → Prop} {rs : List (List Int)} (h : vg R rs) {r x : Nat} (hr : r < rs.length) (hx : x < (rs.getD r []).length) : R ((rs.getD r []).getD x 0) := by
  rw [aJ hx]
  exact h (rs.getD r []) (by rw [aJ hr]; exact List.getElem_mem hr) _ (List.getElem_mem hx)
theorem vg.set {R : Int → Prop} {rs : List (List Int)} (h : vg R rs) (i : Nat) {r : List Int} (hr : ∀ v ∈ r, R v) : vg R (rs.set i r) := fun y hy => by
  rcases List.mem_or_eq_of_mem_set hy with h' | rfl
  · exact h y h'
  · exact hr
theorem vg.row {R : Int → Prop} {rs : List (List Int)} (h : vg R rs) (i : Nat) : ∀ v ∈ rs.getD i [], R v := by
  by_cases hi : i < rs.length
  · exact h _ (by rw [aJ hi]; exact List.getElem_mem hi)
  · rw [bQ (by omega)]; simp
theorem Unr.top {q : Tab} {m : Nat} {P X : List (List Int)} (h : Unr q (m + 1) P X) {a : Nat} (ha : a < X.length) (htop : cel X a ((X.getD a []).length - 1) = ((m + 1 : Nat) : Int)) :
    (∀ r, r < X.length → 1 ≤ (X.getD r []).length) ∧ (∀ r, r < X.length → r ≠ a → cel X r ((X.getD r []).length - 1) < ((m + 1 : Nat) : Int)) := by
  have hp := fun r hr => vZ h.pl (r := r) hr
  refine ⟨hp, fun r hr hne => ?_⟩
  have h1 := hp r hr
  have h2 := hp a ha
  simp only at h1 h2
  have hb := ((kz h.pl h.st).2 _ (jF (rs := X) hr (show (X.getD r []).length - 1 < (X.getD r []).length by omega))).2
  have hf := h.fl
  simp only at hb
  rw [hf] at hb
  have hx : cel X r ((X.getD r []).length - 1) ≠ ((m + 1 : Nat) : Int) := fun e => hne (qP h.pl h.st (a := r) (b := a) (x := (X.getD r []).length - 1) (y := (X.getD a []).length - 1) hr (show _ < (X.getD r []).length by omega) ha (show _ < (X.getD a []).length by omega) (by rw [htop]; exact e)).1
  omega
theorem xc {n m : Nat} {A B : List (List Int)} (h : dG n m A) (s : cU A B) : dG n m B := by
  refine ⟨by rw [← s.1]; exact h.1, fun x hx => ?_⟩
  obtain ⟨i, hi, rfl⟩ := List.getElem_of_mem hx
  have := h.at i
  rw [s.2 i, aJ hi] at this
  exact this
theorem rR.cut {Q X : List (List Int)} {f : Int → Int} (s : rR Q X f) {a : Nat} (ha : a < X.length) (hc : (X.getD (a + 1) []).length < (X.getD a []).length) (hp : ∀ r, r < X.length → 1 ≤ (X.getD r []).length) : rR (ch Q a) (ch X a) f := by
  have hq : ∀ r, r < Q.length → 1 ≤ (Q.getD r []).length := fun r hr => by rw [← s.same.2]; exact hp r (by rw [s.same.1]; exact hr)
  have rX := mQ ha hc hp
  have rQ := mQ (rs := Q) (a := a) (by rw [← s.same.1]; exact ha) (by rw [← s.same.2, ← s.same.2]; exact hc) hq
  have old : ∀ {r x}, r < (ch X a).length → x < ((ch X a).getD r []).length → r < X.length ∧ x < (X.getD r []).length ∧ cel (ch X a) r x = cel X r x ∧ cel (ch Q a) r x = cel Q r x := fun {r x} hr hx => by
    have hl := pB (rs := X) ha
    have hr' : r < X.length := by rw [hl] at hr; split at hr <;> omega
    have e1 := rX r
    have e2 := rQ r
    unfold cel
    by_cases e : r = a
    · rw [if_pos e] at e1 e2
      rw [e1] at hx
      rw [List.length_take] at hx
      subst e
      refine ⟨hr', by omega, by rw [e1, eR (by omega)], ?_⟩
      rw [e2, eR (by have := s.same.2 r; omega)]
    · rw [if_neg e] at e1 e2
      rw [e1] at hx
      exact ⟨hr', hx, by rw [e1], by rw [e2]⟩
  refine ⟨uS s.same a, fun r x hr hx => ?_, fun r x r' x' hr hx hr' hx' hlt => ?_⟩
  · obtain ⟨o1, o2, o3, o4⟩ := old hr hx
    rw [o3, o4]
    exact s.val r x o1 o2
  · obtain ⟨o1, o2, o3, o4⟩ := old hr hx
    obtain ⟨p1, p2, p3, p4⟩ := old hr' hx'
    rw [o3, p3] at hlt
    rw [o4, p4]
    exact s.lex r x r' x' o1 o2 p1 p2 hlt
theorem rR.step {q : Tab} {m : Nat} {P X Q : List (List Int)} {f : Int → Int} (s : rR Q X f) (h : Unr q (m + 1) P X) :
    ∃ a : Nat, rowOf q ((m + 1 : Nat) : Int) = a ∧ a < Q.length ∧ 1 ≤ (Q.getD a []).length ∧ (Q.getD a []).getD ((Q.getD a []).length - 1) 0 = f ((m + 1 : Nat) : Int) ∧ (∀ r, r < Q.length → 1 ≤ (Q.getD r []).length) ∧
      (∀ r, r < Q.length → r ≠ a → (Q.getD r []).getD ((Q.getD r []).length - 1) 0 < f ((m + 1 : Nat) : Int) ∨ ((Q.getD r []).getD ((Q.getD r []).length - 1) 0 = f ((m + 1 : Nat) : Int) ∧ (Q.getD r []).length < (Q.getD a []).length)) ∧
      dG 9 9 Q ∧ a < P.length ∧ 1 ≤ (P.getD a []).length ∧ Unr q m (jC P a).1 (ch X a) ∧ rR (ch Q a) (ch X a) f := by
  obtain ⟨a, a1, a2, a3, a4, a5, a6⟩ := h.step
  obtain ⟨t1, t2⟩ := h.top a2 a4
  have v0 := s.val a ((X.getD a []).length - 1) a2 (by omega)
  rw [a4] at v0
  unfold cel at v0
  rw [s.same.2] at v0
  refine ⟨a, a1, by rw [← s.same.1]; exact a2, by rw [← s.same.2]; exact a3, v0, fun r hr => by rw [← s.same.2]; exact t1 r (by rw [s.same.1]; exact hr), fun r hr hne => ?_, xc (vu h.pl) s.same,
    by rw [h.same.1]; exact a2, by rw [h.same.2]; exact a3, a6, s.cut a2 a5 t1⟩
  have hr' : r < X.length := by rw [s.same.1]; exact hr
  have u1 := t1 r hr'
  have hl := s.lex r ((X.getD r []).length - 1) a ((X.getD a []).length - 1) hr' (by omega) a2 (by omega) (by rw [a4]; exact t2 r hr' hne)
  have v := s.val a ((X.getD a []).length - 1) a2 (by omega)
  rw [v, a4] at hl
  unfold cel at hl
  rw [s.same.2 r, s.same.2 a] at hl
  have e1 := s.same.2 r
  rcases hl with hl | hl
  · exact .inl hl
  · exact .inr ⟨hl.1, by omega⟩
structure zN (r c : Nat) (b : Int) (M : List (List Int)) : Prop where
  len : M.length = r
  row : ∀ i, i < r → (M.getD i []).length = c
  sm : ∀ x ∈ M, ∀ v ∈ x, 0 ≤ v ∧ v ≤ b
end Go.Am.Pu
end
section
/- Standardizing any tableau: its cells in the order of number and column. Plain words. -/
namespace Go.Am.Pu
theorem pP {p : List Int} (hp : b9 p = true) (r : Nat) : ∀ d : Nat, p.getD (r + d) 0 ≤ p.getD r 0
  | 0 => Int.le_refl _
  | d + 1 => Int.le_trans (mF hp (r + d)) (pP hp r d)
theorem lZ {t : Tab} (h : dm t = true) {r x : Nat} (hr : r < t.2.length) (hx : x < (t.2.getD r []).length) : 1 ≤ cel t.2 r x ∧ cel t.2 r x ≤ 9 := by
  obtain ⟨_, _, _, hc⟩ := ey h
  have := hc r x hr hx
  simp only [ez, Bool.and_eq_true, within, decide_eq_true_eq] at this
  exact this.1
theorem fm {t : Tab} {r : Nat} {c : Int} (hr : r < t.2.length) (h : entry t r c ≠ 0) : ∃ x : Nat, x < (t.2.getD r []).length ∧ c = t.1.getD r 0 + x ∧ entry t r c = cel t.2 r x := by
  rw [lU hr] at h
  have h1 : 0 ≤ c - t.1.getD r 0 := Int.not_lt.1 fun hn => h (na hn)
  have h2 : c - t.1.getD r 0 < (t.2.getD r []).length := Int.not_le.1 fun hn => h (sI hn)
  refine ⟨(c - t.1.getD r 0).toNat, by omega, by omega, ?_⟩
  have e : c = t.1.getD r 0 + ((c - t.1.getD r 0).toNat : Int) := by omega
  rw [e, lz hr]
  unfold cel
  congr 1
  omega
theorem yi {t : Tab} (h : dm t = true) {r : Nat} {c : Int} (hr : r + 1 < t.2.length) (hc : entry t ((r + 1 : Nat) : Int) c ≠ 0) : entry t r c < entry t ((r + 1 : Nat) : Int) c := by
  obtain ⟨_, _, _, hk⟩ := ey h
  obtain ⟨x, x1, x2, x3⟩ := fm hr hc
  have := hk (r + 1) x hr x1
  simp only [ez, Bool.and_eq_true, Bool.or_eq_true, decide_eq_true_eq] at this
  have h2 := this.2.2.resolve_left (by omega)
  rw [show (((r + 1 : Nat) : Int)) - 1 = (r : Int) by omega, ← x2] at h2
  rw [x3]
  exact h2
theorem qG {t : Tab} (h : dm t = true) {c : Int} {r : Nat} (h0 : entry t r c ≠ 0) : ∀ d : Nat, r + d + 1 < t.2.length → entry t ((r + d + 1 : Nat) : Int) c ≠ 0 → entry t r c < entry t ((r + d + 1 : Nat) : Int) c
  | 0, hr, hc => yi h hr hc
  | d + 1, hr, hc => by
    obtain ⟨p1, p2, _, _⟩ := ey h
    have h1 := yi h (r := r + d + 1) hr hc
    obtain ⟨x, x1, x2, _⟩ := fm (r := r + d + 1 + 1) hr hc
    obtain ⟨y, y1, y2, _⟩ := fm (r := r) (by omega) h0
    have a1 := pP p1 r (d + 1)
    have a2 := mF p2 (r + d + 1)
    rw [show outer t = cV t.1 0 t.2 from rfl, dh t.1 t.2 0 (r + d + 1 + 1) (show r + d + 1 + 1 < t.2.length from hr), dh t.1 t.2 0 (r + d + 1) (by omega), Nat.zero_add, Nat.zero_add] at a2
    have hm : entry t ((r + d + 1 : Nat) : Int) c ≠ 0 := by
      have e : c = t.1.getD (r + d + 1) 0 + ((c - t.1.getD (r + d + 1) 0).toNat : Int) := by
        have : t.1.getD (r + (d + 1)) 0 = t.1.getD (r + d + 1) 0 := rfl
        omega
      have hz : (c - t.1.getD (r + d + 1) 0).toNat < (t.2.getD (r + d + 1) []).length := by omega
      have := (lZ h (show r + d + 1 < t.2.length by omega) hz).1
      rw [e, lz (by omega)]
      unfold cel at this
      omega
    have h2 := qG h h0 d (by omega) hm
    exact Int.lt_trans h2 h1
theorem tx {t : Tab} (h : dm t = true) {c : Int} {a b : Nat} (ha : a < t.2.length) (hb : b < t.2.length) (h0 : entry t a c ≠ 0) (e : entry t a c = entry t b c) : a = b := by
  rcases Nat.lt_trichotomy a b with hl | hl | hl
  · obtain ⟨d, rfl⟩ : ∃ d, b = a + d + 1 := ⟨b - a - 1, by omega⟩
    have := qG h h0 d hb (by rw [← e]; exact h0)
    omega
  · exact hl
  · obtain ⟨d, rfl⟩ : ∃ d, a = b + d + 1 := ⟨a - b - 1, by omega⟩
    have := qG h (by rw [← e]; exact h0) d ha h0
    omega
def dP (t : Tab) (r : Nat) : List (Int × Int × Int) := (List.range (t.2.getD r []).length).map fun x => (cel t.2 r x, t.1.getD r 0 + x, (r : Int))
def cellsOf (t : Tab) : List (Int × Int × Int) := ((List.range t.2.length).map (dP t)).flatten
theorem iz {t : Tab} (h : dm t = true) {p : Int × Int × Int} : p ∈ cellsOf t ↔ ∃ r : Nat, r < t.2.length ∧ p.2.2 = r ∧ entry t r p.2.1 = p.1 ∧ p.1 ≠ 0 := by
  unfold cellsOf dP
  simp only [List.mem_flatten, List.mem_map, List.mem_range]
  constructor
  · rintro ⟨l, ⟨r, hr, rfl⟩, hp⟩
    rw [List.mem_map] at hp
    obtain ⟨x, hx, rfl⟩ := hp
    rw [List.mem_range] at hx
    have := (lZ h hr hx).1
    exact ⟨r, hr, rfl, by simp only; rw [lz hr]; rfl, by simp only; omega⟩
  · rintro ⟨r, hr, e1, e2, e3⟩
    obtain ⟨x, x1, x2, x3⟩ := fm hr (by rw [e2]; exact e3)
    refine ⟨_, ⟨r, hr, rfl⟩, List.mem_map.2 ⟨x, List.mem_range.2 x1, ?_⟩⟩
    obtain ⟨a, b, c⟩ := p
    simp only at e1 e2 x2 x3 ⊢
    rw [e1, ← x2, ← x3, e2]
theorem rp (t : Tab) : (cellsOf t).Nodup := by
  unfold cellsOf
  rw [List.Nodup, List.pairwise_flatten]
  constructor
  · intro l hl
    obtain ⟨r, _, rfl⟩ := List.mem_map.1 hl
    unfold dP
    rw [List.pairwise_map]
    refine List.Pairwise.imp ?_ (List.nodup_range (n := (t.2.getD r []).length))
    intro a b hab e
    have := congrArg (fun p : Int × Int × Int => p.2.1) e
    simp only at this
    omega
  · rw [List.pairwise_map]
    refine List.Pairwise.imp ?_ (List.nodup_range (n := t.2.length))
    intro a b hab x hx y hy e
    unfold dP at hx hy
    obtain ⟨_, _, rfl⟩ := List.mem_map.1 hx
    obtain ⟨_, _, rfl⟩ := List.mem_map.1 hy
    have := congrArg (fun p : Int × Int × Int => p.2.2) e
    simp only at this
    omega
def KLt (a b : Int × Int × Int) : Prop := a.1 < b.1 ∨ (a.1 = b.1 ∧ a.2.1 < b.2.1)
def fR (t : Tab) (v c : Int) (r : Nat) : List (Int × Int × Int) := if entry t r c = v then [(v, c, (r : Int))] else []
def md (t : Tab) (v c : Int) : List (Int × Int × Int) := ((List.range t.2.length).map (fR t v c)).flatten
def kE (t : Tab) (v : Int) : List (Int × Int × Int) := ((List.range 9).map fun c : Nat => md t v (c : Int)).flatten
def eF (t : Tab) : List (Int × Int × Int) := ((List.range 9).map fun v : Nat => kE t ((v + 1 : Nat) : Int)).flatten
theorem iD {t : Tab} {v c : Int} {p : Int × Int × Int} : p ∈ md t v c ↔ p.1 = v ∧ p.2.1 = c ∧ ∃ r : Nat, r < t.2.length ∧ p.2.2 = r ∧ entry t r c = v := by
  unfold md
  simp only [List.mem_flatten, List.mem_map, List.mem_range]
  constructor
  · rintro ⟨l, ⟨r, hr, rfl⟩, hp⟩
    unfold fR at hp
    split at hp
    · next e => rw [List.mem_singleton] at hp; subst hp; exact ⟨rfl, rfl, r, hr, rfl, e⟩
    · cases hp
  · rintro ⟨e1, e2, r, hr, e3, e4⟩
    refine ⟨_, ⟨r, hr, rfl⟩, ?_⟩
    unfold fR
    rw [if_pos e4, List.mem_singleton]
    obtain ⟨a, b, d⟩ := p
    simp only at e1 e2 e3
    rw [e1, e2, e3]
theorem oO {t : Tab} (h : dm t = true) {p : Int × Int × Int} : p ∈ eF t ↔ p ∈ cellsOf t := by
  rw [iz h]
  unfold eF kE
  simp only [List.mem_flatten, List.mem_map, List.mem_range]
  obtain ⟨q1, q2, q3, _⟩ := ey h
  constructor
  · rintro ⟨l, ⟨v, hv, rfl⟩, hp⟩
    simp only [List.mem_flatten, List.mem_map, List.mem_range] at hp
    obtain ⟨l, ⟨c, hc, rfl⟩, hp⟩ := hp
    obtain ⟨e1, e2, r, hr, e3, e4⟩ := iD.1 hp
    exact ⟨r, hr, e3, by rw [e2, e1]; exact e4, by rw [e1]; omega⟩
  · rintro ⟨r, hr, e1, e2, e3⟩
    obtain ⟨x, x1, x2, x3⟩ := fm hr (by rw [e2]; exact e3)
    have hb := lZ h hr x1
    have hm := pP q2 0 r
    rw [Nat.zero_add] at hm
    have ho := dh t.1 t.2 0 r hr
    rw [Nat.zero_add] at ho
    have ha := (cK q1 r).1
    have hb9 := (cK q2 r).2
    rw [cH] at ha hb9
    unfold outer at hb9
    rw [ho] at hb9
    refine ⟨_, ⟨(p.1 - 1).toNat, by omega, rfl⟩, ?_⟩
    simp only [List.mem_flatten, List.mem_map, List.mem_range]
    refine ⟨_, ⟨p.2.1.toNat, by omega, rfl⟩, iD.2 ⟨by omega, by omega, r, hr, e1, ?_⟩⟩
    rw [show ((p.2.1.toNat : Nat) : Int) = p.2.1 by omega, e2]
    omega
theorem lg {t : Tab} (h : dm t = true) : (eF t).Pairwise KLt := by
  have hcol : ∀ v c : Int, 1 ≤ v → (md t v c).Pairwise KLt := fun v c hv => by
    unfold md
    rw [List.pairwise_flatten]
    constructor
    · intro l hl
      obtain ⟨r, _, rfl⟩ := List.mem_map.1 hl
      unfold fR
      split
      · exact List.pairwise_singleton _ _
      · exact List.Pairwise.nil
    · rw [List.pairwise_map]
      refine List.Pairwise.imp_of_mem ?_ (List.nodup_range (n := t.2.length))
      intro a b ha hb hab x hx y hy
      rw [List.mem_range] at ha hb
      unfold fR at hx hy
      split at hx
      · next e1 =>
        split at hy
        · next e2 => exact absurd (tx h ha hb (by rw [e1]; omega) (by rw [e1, e2])) hab
        · cases hy
      · cases hx
  have hval : ∀ v : Int, 1 ≤ v → (kE t v).Pairwise KLt := fun v hv => by
    unfold kE
    rw [List.pairwise_flatten]
    constructor
    · intro l hl
      obtain ⟨c, _, rfl⟩ := List.mem_map.1 hl
      exact hcol v c hv
    · rw [List.pairwise_map]
      refine List.Pairwise.imp ?_ (List.pairwise_lt_range (n := 9))
      intro a b hab x hx y hy
      have q1 := iD.1 hx
      have q2 := iD.1 hy
      refine .inr ⟨by rw [q1.1, q2.1], ?_⟩
      rw [q1.2.1, q2.2.1]
      omega
  unfold eF
  rw [List.pairwise_flatten]
  constructor
  · intro l hl
    obtain ⟨v, _, rfl⟩ := List.mem_map.1 hl
    exact hval _ (by omega)
  · rw [List.pairwise_map]
    refine List.Pairwise.imp ?_ (List.pairwise_lt_range (n := 9))
    intro a b hab x hx y hy
    have mv : ∀ {v : Int} {p : Int × Int × Int}, p ∈ kE t v → p.1 = v := fun {v p} hp => by
      unfold kE at hp
      simp only [List.mem_flatten, List.mem_map, List.mem_range] at hp
      obtain ⟨l, ⟨c, _, rfl⟩, hp⟩ := hp
      exact (iD.1 hp).1
    refine .inl ?_
    rw [mv hx, mv hy]
    omega
theorem nv {t : Tab} (h : dm t = true) : (eF t).Perm (cellsOf t) := by
  refine (List.perm_ext_iff_of_nodup ?_ (rp t)).2 fun p => oO h
  refine List.Pairwise.imp ?_ (lg h)
  intro a b hab e
  subst e
  unfold KLt at hab
  omega
theorem s9 {t : Tab} (h : dm t = true) {l : List (Int × Int × Int)} (hp : l.Perm (cellsOf t)) (hs : l.Pairwise fun a b => ¬ KLt b a) : l = eF t := by
  have hq : (eF t).Pairwise fun a b => ¬ KLt b a := List.Pairwise.imp (fun {a b} hab => by unfold KLt at hab ⊢; omega) (lg h)
  refine List.Perm.eq_of_pairwise ?_ hs hq (hp.trans (nv h).symm)
  intro a b ha hb h1 h2
  unfold KLt at h1 h2
  have e1 : a.1 = b.1 := by omega
  have e2 : a.2.1 = b.2.1 := by omega
  obtain ⟨r, hr, a1, a2, a3⟩ := (iz h).1 (hp.mem_iff.1 ha)
  obtain ⟨s, hs', b1, b2, b3⟩ := (iz h).1 ((oO h).1 hb)
  have e3 := tx h hr hs' (c := a.2.1) (by rw [a2]; exact a3) (by rw [a2, e1, e2, b2])
  obtain ⟨x, y, z⟩ := a
  obtain ⟨x', y', z'⟩ := b
  simp only at e1 e2 a1 b1
  rw [e1, e2, a1, b1, e3]
def gJ (inn : List Int) : Nat → List (Int × Int × Int) → List (List Int) → List (List Int)
  | _, [], X => X
  | k, p :: l, X => gJ inn (k + 1) l (iR X p.2.2.toNat (p.2.1 - atI inn p.2.2).toNat ((k + 1 : Nat) : Int))
def eZ (t : Tab) : Tab × Bool := if dm t = true then ((t.1, gJ t.1 0 (eF t) t.2), true) else (([], []), false)
theorem l9 (inn : List Int) : ∀ (l l' : List (Int × Int × Int)) (k : Nat) (X : List (List Int)), gJ inn k (l ++ l') X = gJ inn (k + l.length) l' (gJ inn k l X)
  | [], _, _, _ => rfl
  | p :: l, l', k, X => by
    show gJ inn (k + 1) (l ++ l') _ = _
    rw [l9 inn l l', List.length_cons, show k + (l.length + 1) = k + 1 + l.length by omega]
    rfl
theorem jo (inn : List Int) {Q : List (List Int)} : ∀ (l : List (Int × Int × Int)) (k : Nat) (X : List (List Int)), cU X Q → cU (gJ inn k l X) Q
  | [], _, _, h => h
  | p :: l, k, X, h => jo inn l (k + 1) _ ⟨by rw [fO]; exact h.1, fun i => by rw [cZ]; exact h.2 i⟩
end Go.Am.Pu
end
section
/- Sorting cells by insertion, as the library does. Plain words. -/
namespace Go.Am.Pu
instance (a b : Int × Int × Int) : Decidable (KLt a b) := by unfold KLt; infer_instance
def kR (x : Int × Int × Int) : List (Int × Int × Int) → List (Int × Int × Int)
  | [] => [x]
  | y :: ys => if KLt x y then y :: kR x ys else x :: y :: ys
theorem kn (x : Int × Int × Int) : ∀ R : List (Int × Int × Int), (kR x R).Perm (x :: R)
  | [] => List.Perm.refl _
  | y :: ys => by
    unfold kR
    split
    · exact ((kn x ys).cons y).trans (List.Perm.swap x y ys)
    · exact List.Perm.refl _
theorem oT (x : Int × Int × Int) : ∀ R : List (Int × Int × Int), (R.Pairwise fun a b => ¬ KLt a b) → (kR x R).Pairwise fun a b => ¬ KLt a b
  | [], _ => List.pairwise_singleton _ _
  | y :: ys, h => by
    rw [List.pairwise_cons] at h
    unfold kR
    split
    · next c =>
      rw [List.pairwise_cons]
      refine ⟨fun z hz => ?_, oT x ys h.2⟩
      rcases List.mem_cons.1 ((kn x ys).mem_iff.1 hz) with rfl | hz
      · unfold KLt at c ⊢; omega
      · exact h.1 z hz
    · next c =>
      rw [List.pairwise_cons]
      refine ⟨fun z hz => ?_, List.pairwise_cons.2 h⟩
      rcases List.mem_cons.1 hz with rfl | hz
      · exact c
      · have := h.1 z hz
        unfold KLt at c this ⊢
        omega
def oU (R l : List (Int × Int × Int)) : List (Int × Int × Int) := l.foldl (fun R x => kR x R) R
theorem pW : ∀ (l R : List (Int × Int × Int)), (R.Pairwise fun a b => ¬ KLt a b) → ((oU R l).Pairwise fun a b => ¬ KLt a b) ∧ (oU R l).Perm (R ++ l)
  | [], R, h => ⟨h, by simp [oU]⟩
  | x :: l, R, h => by
    obtain ⟨h1, h2⟩ := pW l (kR x R) (oT x R h)
    refine ⟨h1, h2.trans ?_⟩
    exact ((kn x R).append_right l).trans (List.perm_middle (a := x) (l₁ := R) (l₂ := l)).symm
theorem sP {t : Tab} (h : dm t = true) : (oU [] (cellsOf t)).reverse = eF t := by
  obtain ⟨h1, h2⟩ := pW (cellsOf t) [] List.Pairwise.nil
  rw [List.nil_append] at h2
  refine s9 h ((List.reverse_perm _).trans h2) ?_
  rw [List.pairwise_reverse]
  exact h1
theorem xG (R C : List (Int × Int × Int)) (x d : Int × Int × Int) : (R.reverse ++ x :: C).getD R.length d = x := by
  rw [List.getD_eq_getElem?_getD, List.getElem?_append_right (by simp), List.length_reverse, Nat.sub_self]
  rfl
theorem yK (ys C : List (Int × Int × Int)) (x y d : Int × Int × Int) : ((y :: ys).reverse ++ x :: C).getD ys.length d = y := by
  rw [List.reverse_cons, List.append_assoc, List.singleton_append]
  exact xG ys (x :: C) y d
theorem xK (ys C : List (Int × Int × Int)) (x y : Int × Int × Int) : (((y :: ys).reverse ++ x :: C).set (ys.length + 1) y).set ys.length x = ys.reverse ++ x :: y :: C := by
  rw [List.reverse_cons, List.append_assoc, List.singleton_append]
  rw [List.set_append_right _ _ (by simp), List.length_reverse, show ys.length + 1 - ys.length = 1 by omega, List.set_cons_succ, List.set_cons_zero]
  rw [List.set_append_right _ _ (by simp), List.length_reverse, Nat.sub_self, List.set_cons_zero]
theorem yr (R C : List (Int × Int × Int)) (x : Int × Int × Int) : (R.reverse ++ x :: C).length = R.length + 1 + C.length := by
  rw [List.length_append, List.length_reverse, List.length_cons]; omega
end Go.Am.Pu
end
