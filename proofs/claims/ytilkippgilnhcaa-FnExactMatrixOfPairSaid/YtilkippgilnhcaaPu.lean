/- Plain laws of lists, partitions, shapes and tableaux; no program in sight. -/
import Derived.Test.YtilkippgilnhcaaAmP
set_option linter.unusedSimpArgs false
set_option linter.unusedVariables false
set_option linter.unnecessarySimpa false
set_option linter.unusedSectionVars false
section
/- Rules for loops over data: a loop that looks at all, a loop that folds. -/
namespace Go.Am.Pu
open Go.Am
theorem w64 {n : Int} (h1 : -9223372036854775808 ≤ n) (h2 : n ≤ 9223372036854775807) : IntKind.i64.wrap n = n := Go.Am.w64 h1 h2
theorem jS {R : Type} (L : Nat → Nat → Option R) (n : Nat) (p : Nat → Bool) (bad yN : Option R)
    (hs : ∀ j i, i < n → L (j + 1) i = if p i = true then L j (i + 1) else bad) (he : ∀ j, L (j + 1) n = yN) :
    ∀ (m j i : Nat), i + m = n → m < j → L j i = if (List.range' i m).all p = true then yN else bad
  | m, 0, i, _, h => by omega
  | 0, j + 1, i, h, _ => by
    have : i = n := by omega
    subst this
    rw [he]; rfl
  | m + 1, j + 1, i, h, hj => by
    rw [hs j i (by omega), jS L n p bad yN hs he m j (i + 1) (by omega) (by omega), List.range'_succ, List.all_cons]
    cases p i
    · rw [if_neg (by simp), Bool.false_and, if_neg (by simp)]
    · rw [if_pos rfl, Bool.true_and]
theorem eU {p : Nat → Bool} {n : Nat} : (List.range' 0 n).all p = true ↔ ∀ i, i < n → p i = true := by
  simp [List.all_eq_true, List.mem_range'_1]
theorem ar {α : Type} {xs : List α} {i : Nat} (h : i < xs.length) (d : α) : xs.getD i d = xs[i] := by
  simp only [List.getD_eq_getElem?_getD, List.getElem?_eq_getElem h, Option.getD_some]
theorem cd {α : Type} {xs : List α} {i : Nat} (h : xs.length ≤ i) (d : α) : xs.getD i d = d := by
  simp only [List.getD_eq_getElem?_getD, List.getElem?_eq_none h, Option.getD_none]
theorem drop_cons {α : Type} {xs : List α} {i : Nat} (h : i < xs.length) (d : α) : xs.drop i = xs.getD i d :: xs.drop (i + 1) := by
  rw [ar h, List.drop_eq_getElem_cons h]
theorem take_succ {α : Type} {xs : List α} {i : Nat} (h : i < xs.length) (d : α) : xs.take (i + 1) = xs.take i ++ [xs.getD i d] := by
  rw [ar h, List.take_succ_eq_append_getElem h]
theorem sT {α : Type} {xs : List α} {i : Nat} (h : i < xs.length) (d z : α) : (xs.take i ++ List.replicate (xs.length - i) z).set i (xs.getD i d) = xs.take (i + 1) ++ List.replicate (xs.length - (i + 1)) z := by
  have e : xs.length - i = xs.length - (i + 1) + 1 := by omega
  rw [take_succ h d, e, List.replicate_succ, List.set_append_right _ _ (by simp; omega)]
  simp [Nat.min_eq_left (Nat.le_of_lt h)]
end Go.Am.Pu
end
section
/- Marking memory and looking whether the marks are held. -/
namespace Go.Am.Pu
def held : List Int → Int → Int
  | [], q => q
  | x :: xs, q => if x = q then held xs (q + 1) else -1
def mark : List Int → Int → List Int
  | [], _ => []
  | _ :: xs, q => q :: mark xs (q + 1)
theorem nP : ∀ (xs : List Int) (q : Int), (mark xs q).length = xs.length
  | [], _ => rfl
  | _ :: xs, q => by simp [mark, nP xs]
theorem sA : ∀ (xs : List Int) (q : Int), held (mark xs q) q = q + xs.length
  | [], q => by simp [mark, held]
  | _ :: xs, q => by
    simp only [mark, held, if_true, List.length_cons]
    rw [sA xs]
    omega
theorem wW : ∀ (xs : List Int) (q : Int), 0 ≤ q → held xs q ≤ q + xs.length
  | [], q, _ => by simp [held]
  | x :: xs, q, h => by
    simp only [held, List.length_cons]
    split
    · have := wW xs (q + 1) (by omega)
      omega
    · omega
def py : List (List Int) → Int → Int
  | [], q => q
  | x :: xs, q => if held x q < 0 then -1 else py xs (held x q)
def iU : List (List Int) → Int → List (List Int)
  | [], _ => []
  | x :: xs, q => mark x q :: iU xs (q + x.length)
def eO : List (List Int) → Nat
  | [] => 0
  | x :: xs => x.length + eO xs
theorem qo : ∀ (xs : List (List Int)) (n : Nat), (∀ x ∈ xs, x.length ≤ n) → eO xs ≤ xs.length * n
  | [], n, _ => by simp [eO]
  | x :: xs, n, h => by
    have h1 := h x (by simp)
    have h2 := qo xs n fun y hy => h y (by simp [hy])
    simp only [eO, List.length_cons, Nat.succ_mul]
    omega
theorem ov {xs : List (List Int)} (h : xs.length ≤ 1048576) (hr : ∀ x ∈ xs, x.length ≤ 1048576) : eO xs ≤ 1099511627776 := by
  have h1 := qo xs 1048576 hr
  have h2 : xs.length * 1048576 ≤ 1048576 * 1048576 := Nat.mul_le_mul_right _ h
  omega
theorem xA {xs : List (List Int)} {q : Int} {n : Nat} (h : ∀ x ∈ xs, x.length ≤ n) : ∀ y ∈ iU xs q, y.length ≤ n := by
  induction xs generalizing q with
  | nil => intro y hy; cases hy
  | cons x xs ih =>
    intro y hy
    simp only [iU, List.mem_cons] at hy
    rcases hy with rfl | hy
    · rw [nP]; exact h x (by simp)
    · exact ih (fun z hz => h z (by simp [hz])) y hy
theorem rp : ∀ (xs : List (List Int)) (q : Int), eO (iU xs q) = eO xs
  | [], _ => rfl
  | x :: xs, q => by simp [iU, eO, nP, rp xs]
theorem sR : ∀ (xs : List (List Int)) (q : Int), (iU xs q).length = xs.length
  | [], _ => rfl
  | _ :: xs, q => by simp [iU, sR xs]
theorem q9 : ∀ (xs : List (List Int)) (q : Int), 0 ≤ q → py (iU xs q) q = q + eO xs
  | [], q, _ => by simp [iU, py, eO]
  | x :: xs, q, h => by
    simp only [iU, py, eO]
    rw [sA, if_neg (by omega), q9 xs _ (by omega)]
    omega
end Go.Am.Pu
end
section
/- Partitions, shapes and tableaux as plain words. -/
namespace Go.Am.Pu
def within (x lo hi : Int) : Bool := decide (lo ≤ x) && decide (x ≤ hi)
def atI (p : List Int) (i : Int) : Int := if i < 0 then 0 else p.getD i.toNat 0
theorem dM (p : List Int) (i : Nat) : atI p (i : Int) = p.getD i 0 := by simp [atI]; omega
theorem qb {p : List Int} {i : Int} (h : i < 0) : atI p i = 0 := by simp [atI, h]
theorem wR {p : List Int} {i : Int} (h : (p.length : Int) ≤ i) : atI p i = 0 := by
  unfold atI
  split
  · rfl
  · exact cd (by omega) 0
def fj : List Int → Int → Int → Bool
  | [], _, _ => true
  | x :: xs, prev, s => decide (1 ≤ x) && (decide (x ≤ prev) && (decide (s + x ≤ 9) && fj xs x (s + x)))
def cy (p : List Int) : Bool := fj p 9 0
def fw : List Int → Int
  | [] => 0
  | x :: xs => x + fw xs
theorem pG : ∀ (p : List Int) (prev s : Int), fj p prev s = true → (∀ x ∈ p, 1 ≤ x ∧ x ≤ prev) ∧ (p ≠ [] → s + fw p ≤ 9) ∧ (p.length : Int) ≤ fw p
  | [], prev, s, _ => ⟨fun x h => (by cases h), fun h => absurd rfl h, (by simp [fw])⟩
  | x :: xs, prev, s, h => by
    simp only [fj, Bool.and_eq_true, decide_eq_true_eq] at h
    obtain ⟨h1, h2, h3, h4⟩ := h
    obtain ⟨k1, k2, k3⟩ := pG xs x (s + x) h4
    refine ⟨fun y hy => ?_, fun _ => ?_, ?_⟩
    · rcases List.mem_cons.1 hy with rfl | hy
      · exact ⟨h1, h2⟩
      · have := k1 y hy; omega
    · simp only [fw]
      by_cases e : xs = []
      · subst e; simp [fw]; omega
      · have := k2 e; omega
    · simp only [fw, List.length_cons]; omega
theorem cI {p : List Int} (h : cy p = true) : (∀ x ∈ p, 1 ≤ x ∧ x ≤ 9) ∧ fw p ≤ 9 ∧ p.length ≤ 9 ∧ (p.length : Int) ≤ fw p := by
  obtain ⟨h1, h2, h3⟩ := pG p 9 0 h
  have : fw p ≤ 9 := by
    by_cases e : p = []
    · subst e; simp [fw]
    · have := h2 e; omega
  exact ⟨h1, this, by omega, h3⟩
theorem fP {p : List Int} (h : cy p = true) (i : Int) : 0 ≤ atI p i ∧ atI p i ≤ 9 := by
  unfold atI
  split
  · omega
  · by_cases hl : i.toNat < p.length
    · rw [ar hl]
      have := (cI h).1 _ (List.getElem_mem hl)
      omega
    · rw [cd (by omega)]; omega
def dp (q p : List Int) : Bool := cy q && (cy p && (decide (q.length ≤ p.length) && (List.range' 0 q.length).all fun i => decide (q.getD i 0 ≤ p.getD i 0)))
theorem wu {q p : List Int} (hq : cy q = true) (h : (List.range' 0 q.length).all (fun i => decide (q.getD i 0 ≤ p.getD i 0)) = true) : q.length ≤ p.length := by
  rw [eU] at h
  refine Nat.le_of_not_lt fun hlt => ?_
  have h1 := h p.length hlt
  rw [decide_eq_true_eq, cd (Nat.le_refl _), ar hlt] at h1
  have := (cI hq).1 _ (List.getElem_mem hlt)
  omega
theorem uw {q p : List Int} : dp q p = (cy q && (cy p && (List.range' 0 q.length).all fun i => decide (q.getD i 0 ≤ p.getD i 0))) := by
  unfold dp
  cases hq : cy q with
  | false => rfl
  | true =>
    cases hp : cy p with
    | false => rfl
    | true =>
      simp only [Bool.true_and]
      cases ha : (List.range' 0 q.length).all fun i => decide (q.getD i 0 ≤ p.getD i 0) with
      | false => simp
      | true => simp [wu hq ha]
def dL (inner : List Int) : Nat → List (List Int) → List Int
  | _, [] => []
  | i, r :: rs => (inner.getD i 0 + r.length) :: dL inner (i + 1) rs
theorem iY (inner : List Int) : ∀ (rs : List (List Int)) (i : Nat), (dL inner i rs).length = rs.length
  | [], _ => rfl
  | _ :: rs, i => by simp [dL, iY inner rs]
theorem eY (inner : List Int) : ∀ (rs : List (List Int)) (i q : Nat), q < rs.length → (dL inner i rs).getD q 0 = inner.getD (i + q) 0 + (rs.getD q []).length
  | [], i, q, h => by simp at h
  | r :: rs, i, 0, _ => by simp [dL]
  | r :: rs, i, q + 1, h => by
    have := eY inner rs (i + 1) q (by simpa using h)
    simp only [dL, List.getD_cons_succ]
    rw [this]
    have e : i + 1 + q = i + (q + 1) := by omega
    rw [e]
abbrev Tab := List Int × List (List Int)
def outer (t : Tab) : List Int := dL t.1 0 t.2
def cQ (t : Tab) : Bool := cy t.1 && (decide (t.1.length ≤ t.2.length) && dp t.1 (outer t))
def shapeOf (t : Tab) : (List Int × List Int) × Bool := if cQ t = true then ((outer t, t.1), true) else (([], []), false)
theorem u9 {t : Tab} (h : cQ t = true) : t.2.length ≤ 9 := by
  simp only [cQ, dp, Bool.and_eq_true] at h
  have := (cI h.2.2.2.1).2.2.1
  rw [outer, iY] at this
  exact this
def entry (t : Tab) (r c : Int) : Int := if r < 0 then 0 else if (t.2.length : Int) ≤ r then 0 else atI (t.2.getD r.toNat []) (c - atI t.1 r)
theorem mK {t : Tab} {r : Nat} (h : r < t.2.length) (c : Int) : entry t r c = atI (t.2.getD r []) (c - t.1.getD r 0) := by
  unfold entry
  rw [if_neg (by omega), if_neg (by omega), dM]
  rfl
theorem yr {t : Tab} {r c : Int} (h : r < 0) : entry t r c = 0 := by unfold entry; rw [if_pos h]
theorem uJ {t : Tab} {r q : Nat} (h : r < t.2.length) : entry t r (t.1.getD r 0 + q) = (t.2.getD r []).getD q 0 := by
  rw [mK h]
  have e : t.1.getD r 0 + (q : Int) - t.1.getD r 0 = q := by omega
  rw [e, dM]
theorem vY {t : Tab} {r q : Nat} (h : r < t.2.length) : entry t r (t.1.getD r 0 + q - 1) = if q = 0 then 0 else (t.2.getD r []).getD (q - 1) 0 := by
  rw [mK h]
  by_cases e : q = 0
  · subst e
    rw [if_pos rfl, qb (by omega)]
  · rw [if_neg e]
    have e : t.1.getD r 0 + (q : Int) - 1 - t.1.getD r 0 = ((q - 1 : Nat) : Int) := by omega
    rw [e, dM]
def fB (t : Tab) (i k : Nat) : Bool := within ((t.2.getD i []).getD k 0) 1 9 && ((decide (k = 0) || decide ((t.2.getD i []).getD (k - 1) 0 ≤ (t.2.getD i []).getD k 0)) &&
  (decide (i = 0) || decide (entry t ((i : Int) - 1) (t.1.getD i 0 + k) < (t.2.getD i []).getD k 0)))
def iR (t : Tab) : Bool := cQ t && (List.range' 0 t.2.length).all fun i => (List.range' 0 (t.2.getD i []).length).all fun k => fB t i k
def a8 (t : Tab) : Bool := iR t && decide (t.1.length = 0)
theorem iE {t : Tab} (h : iR t = true) : cQ t = true := by
  simp only [iR, Bool.and_eq_true] at h; exact h.1
theorem mC (inner : List Int) : ∀ (rs : List (List Int)) (i : Nat), (∀ q, i ≤ q → inner.getD q 0 = 0) → fw (dL inner i rs) = rs.flatten.length
  | [], i, _ => rfl
  | r :: rs, i, h => by
    simp only [dL, fw, List.flatten_cons, List.length_append]
    rw [mC inner rs (i + 1) (fun q hq => h q (by omega)), h i (Nat.le_refl _)]
    omega
theorem fN {t : Tab} (h : a8 t = true) : t.2.flatten.length ≤ 9 := by
  simp only [a8, Bool.and_eq_true, decide_eq_true_eq] at h
  have hs := iE h.1
  simp only [cQ, dp, Bool.and_eq_true] at hs
  have h9 := (cI hs.2.2.2.1).2.1
  have : t.1 = [] := List.eq_nil_of_length_eq_zero h.2
  rw [outer, mC t.1 t.2 0 (fun q _ => by rw [this]; rfl)] at h9
  omega
def dx : List (List Int) → Int → List (List Int) × Nat
  | [], x => ([[x]], 0)
  | r :: rs, x => if r.findIdx (fun n => decide (x < n)) < r.length
      then (r.set (r.findIdx fun n => decide (x < n)) x :: (dx rs (r.getD (r.findIdx fun n => decide (x < n)) 0)).1, (dx rs (r.getD (r.findIdx fun n => decide (x < n)) 0)).2 + 1)
      else ((r ++ [x]) :: rs, 0)
def jY (t : Tab) : Prop := t.1.length ≤ 1048576 ∧ t.2.length ≤ 1048576 ∧ ∀ x ∈ t.2, x.length ≤ 1048576
theorem jY.nil : jY ([], []) := ⟨by simp, by simp, fun x h => by cases h⟩
theorem ql : ∀ {rs : List (List Int)} {r : List Int}, r ∈ rs → r.length ≤ rs.flatten.length
  | q :: rs, r, h => by
    simp only [List.flatten_cons, List.length_append]
    rcases List.mem_cons.1 h with rfl | h
    · omega
    · have := ql h; omega
theorem wh {p : Int → Bool} {r : List Int} (h : r.findIdx p < r.length) : p (r.getD (r.findIdx p) 0) = true := by
  rw [ar h]; exact List.findIdx_getElem
end Go.Am.Pu
end
section
/- Standard tableaux, weights, descents: plain words. -/
namespace Go.Am.Pu
theorem qT {α R : Type} (r : List α) (d : α) (p : α → Bool) (L : Nat → Nat → Option R) (hit : Nat → Option R) (miss : Option R)
    (hs : ∀ j i, i < r.length → L (j + 1) i = if p (r.getD i d) = true then hit i else L j (i + 1)) (he : ∀ j, L (j + 1) r.length = miss) :
    ∀ (m j i : Nat), i + m = r.length → m < j → i ≤ r.findIdx p → L j i = if r.findIdx p < r.length then hit (r.findIdx p) else miss
  | m, 0, i, _, hj, _ => by omega
  | 0, j + 1, i, hm, _, hi => by
    have e : i = r.length := by omega
    rw [if_neg (by omega), e, he]
  | m + 1, j + 1, i, hm, hj, hi => by
    have hlt : i < r.length := by omega
    rw [hs j i hlt]
    by_cases c : p (r.getD i d) = true
    · have e : r.findIdx p = i := Nat.le_antisymm (Nat.le_of_not_lt fun h' => by
        have := List.not_of_lt_findIdx h'
        rw [ar hlt] at c
        rw [c] at this; cases this) hi
      rw [if_pos c, e, if_pos hlt]
    · rw [if_neg c]
      refine qT r d p L hit miss hs he m j (i + 1) (by omega) (by omega) ?_
      refine Nat.succ_le_of_lt (Nat.lt_of_le_of_ne hi fun e => c ?_)
      have hlt' : r.findIdx p < r.length := by omega
      have := List.findIdx_getElem (p := p) (xs := r) (w := hlt')
      rw [← ar hlt' d, ← e] at this
      exact this
def xP {α : Type} (p : α → Bool) (r : List α) : Int := if r.findIdx p < r.length then (r.findIdx p : Int) else -1
theorem y0 {α : Type} (p : α → Bool) (r : List α) : decide (0 ≤ xP p r) = r.any p := by
  unfold xP
  by_cases h : r.findIdx p < r.length
  · rw [if_pos h, List.any_eq_true.2 ⟨_, List.getElem_mem h, List.findIdx_getElem⟩]
    simp
  · rw [if_neg h]
    have : r.any p = false := by
      rw [List.any_eq_false]
      intro x hx hp
      exact h (List.findIdx_lt_length_of_exists ⟨x, hx, hp⟩)
    rw [this]; rfl
theorem zH {α : Type} (p : α → Bool) (r : List α) : r.any p = decide (r.findIdx p < r.length) := by
  rw [← y0]
  unfold xP
  by_cases h : r.findIdx p < r.length <;> simp [h]
def has (l : List Int) (x : Int) : Bool := l.any fun y => decide (x = y)
theorem mJ {l : List Int} {x : Int} : has l x = true ↔ x ∈ l := by
  simp [has, List.any_eq_true]
def jv (l : List Int) : Bool := (List.range' 0 l.length).all fun i => has l ((i : Int) + 1)
theorem p0 : ∀ (R l : List Int), R.Nodup → (∀ x ∈ R, x ∈ l) → R.length ≤ l.length
  | [], l, _, _ => by simp
  | x :: R, l, hn, h => by
    rw [List.nodup_cons] at hn
    have hx := h x (by simp)
    have := p0 R (l.erase x) hn.2 fun y hy => (List.mem_erase_of_ne fun (e : y = x) => hn.1 (e ▸ hy)).2 (h y (by simp [hy]))
    rw [List.length_erase_of_mem hx] at this
    have : 0 < l.length := List.length_pos_of_mem hx
    simp only [List.length_cons]
    omega
def lR (n : Nat) : List Int := (List.range n).map fun (i : Nat) => (i : Int) + 1
theorem fu {n : Nat} {x : Int} : x ∈ lR n ↔ 1 ≤ x ∧ x ≤ n := by
  simp only [lR, List.mem_map, List.mem_range]
  constructor
  · rintro ⟨i, h, rfl⟩; omega
  · rintro ⟨h1, h2⟩; exact ⟨(x - 1).toNat, by omega, by omega⟩
theorem lh (n : Nat) : (lR n).Nodup := by
  unfold lR
  refine List.Pairwise.map _ (fun (a b : Nat) (h : a ≠ b) => ?_) List.nodup_range
  intro e
  exact h (by omega)
theorem qz (n : Nat) : (lR n).length = n := by simp [lR]
theorem iZ {l : List Int} : jv l = true ↔ ∀ x ∈ lR l.length, x ∈ l := by
  unfold jv
  rw [eU]
  constructor
  · intro h x hx
    rw [fu] at hx
    have := h (x - 1).toNat (by omega)
    rw [mJ] at this
    have e : (((x - 1).toNat : Nat) : Int) + 1 = x := by omega
    rw [e] at this; exact this
  · intro h i hi
    rw [mJ]
    exact h _ (fu.2 (by omega))
theorem rk {l : List Int} (h1 : ∀ x ∈ l, 1 ≤ x) : jv l = true ↔ l.Nodup ∧ ∀ x ∈ l, x ≤ l.length := by
  rw [iZ]
  constructor
  · intro h
    refine ⟨?_, fun x hx => ?_⟩
    ·
      refine Classical.byContradiction fun hn => ?_
      have : ∃ x, x ∈ l ∧ x ∈ l.erase x := by
        have key : ∀ l : List Int, ¬ l.Nodup → ∃ x, x ∈ l ∧ x ∈ l.erase x := by
          intro l
          induction l with
          | nil => intro h; exact absurd List.nodup_nil h
          | cons a l ih =>
            intro h
            by_cases ha : a ∈ l
            · exact ⟨a, by simp, by simpa using ha⟩
            · have : ¬ l.Nodup := fun hl => h (List.nodup_cons.2 ⟨ha, hl⟩)
              obtain ⟨x, h1, h2⟩ := ih this
              refine ⟨x, by simp [h1], ?_⟩
              have hne : a ≠ x := fun e => ha (e ▸ h1)
              rw [List.erase_cons_tail (by simpa using hne)]
              exact List.mem_cons_of_mem _ h2
        exact key l hn
      obtain ⟨x, hx, hx2⟩ := this
      have := p0 (lR l.length) (l.erase x) (lh _) fun y hy => by
        by_cases e : y = x
        · rw [e]; exact hx2
        · exact (List.mem_erase_of_ne e).2 (h y hy)
      rw [qz, List.length_erase_of_mem hx] at this
      have : 0 < l.length := List.length_pos_of_mem hx
      omega
    · refine Int.not_lt.1 fun hlt => ?_
      have := p0 (lR l.length) (l.erase x) (lh _) fun y hy => by
        have hy' := fu.1 hy
        exact (List.mem_erase_of_ne (by omega)).2 (h y hy)
      rw [qz, List.length_erase_of_mem hx] at this
      have : 0 < l.length := List.length_pos_of_mem hx
      omega
  · rintro ⟨hn, hb⟩ x hx
    refine Classical.byContradiction fun hxl => ?_
    have := p0 (x :: l) (lR l.length) (List.nodup_cons.2 ⟨hxl, hn⟩) fun y hy => by
      rcases List.mem_cons.1 hy with rfl | hy
      · exact hx
      · exact fu.2 ⟨h1 y hy, hb y hy⟩
    rw [qz, List.length_cons] at this
    omega
def jm (n : Int) : List Int → List Int → Bool
  | _, [] => true
  | seen, x :: xs => decide (x ≤ n) && (!has seen x && jm n (seen ++ [x]) xs)
theorem pB (n : Int) : ∀ (xs seen : List Int), jm n seen xs = true ↔ (∀ x ∈ xs, x ≤ n) ∧ xs.Nodup ∧ ∀ x ∈ xs, x ∉ seen
  | [], seen => by simp [jm]
  | x :: xs, seen => by
    simp only [jm, Bool.and_eq_true, decide_eq_true_eq, pB n xs, Bool.not_eq_true', List.nodup_cons]
    have hh : has seen x = false ↔ x ∉ seen := by rw [← mJ]; simp
    rw [hh]
    constructor
    · rintro ⟨h1, h2, h3, h4, h5⟩
      refine ⟨fun y hy => ?_, ⟨fun hx => h5 x hx (by simp), h4⟩, fun y hy => ?_⟩
      · rcases List.mem_cons.1 hy with rfl | hy
        · exact h1
        · exact h3 y hy
      · rcases List.mem_cons.1 hy with rfl | hy
        · exact h2
        · exact fun h => h5 y hy (by simp [h])
    · rintro ⟨h1, ⟨h2, h3⟩, h4⟩
      refine ⟨h1 x (by simp), h4 x (by simp), fun y hy => h1 y (by simp [hy]), h3, fun y hy h => ?_⟩
      rcases List.mem_append.1 h with h | h
      · exact h4 y (by simp [hy]) h
      · simp only [List.mem_singleton] at h; exact h2 (h ▸ hy)
theorem vL {l : List Int} (h1 : ∀ x ∈ l, 1 ≤ x) : jm l.length [] l = jv l := by
  have a := pB l.length l []
  have b := rk h1
  cases h : jm l.length [] l with
  | true =>
    have := a.1 h
    exact (b.2 ⟨this.2.1, this.1⟩).symm
  | false =>
    cases h' : jv l with
    | false => rfl
    | true =>
      have := b.1 h'
      rw [a.2 ⟨this.2, this.1, fun _ _ h => by cases h⟩] at h
      cases h
theorem pJ {t : Tab} (h : iR t = true) : ∀ x ∈ t.2.flatten, 1 ≤ x ∧ x ≤ 9 := by
  intro x hx
  simp only [iR, Bool.and_eq_true] at h
  obtain ⟨r, hr, hxr⟩ := List.mem_flatten.1 hx
  obtain ⟨i, hi, e⟩ := List.mem_iff_getElem.1 hr
  obtain ⟨q, hq, e2⟩ := List.mem_iff_getElem.1 hxr
  have h1 := eU.1 h.2 i hi
  rw [ar hi, e] at h1
  have h2 := eU.1 h1 q hq
  simp only [fB, within, Bool.and_eq_true, decide_eq_true_eq] at h2
  rw [ar hi, e, ar hq, e2] at h2
  exact h2.1
theorem nY (inner : List Int) (h : ∀ q, 0 ≤ inner.getD q 0) : ∀ (rs : List (List Int)) (i : Nat), (rs.flatten.length : Int) ≤ fw (dL inner i rs)
  | [], i => by simp [dL, fw]
  | r :: rs, i => by
    have := nY inner h rs (i + 1)
    have := h i
    simp only [dL, fw, List.flatten_cons, List.length_append]
    omega
theorem yO {t : Tab} (h : iR t = true) : t.2.flatten.length ≤ 9 := by
  have hs := iE h
  simp only [cQ, dp, Bool.and_eq_true] at hs
  have h9 := (cI hs.2.2.2.1).2.1
  have := nY t.1 (fun q => by
    have := (fP hs.1 q).1
    rw [dM] at this; exact this) t.2 0
  unfold outer at h9
  omega
def dI (t : Tab) : Bool := iR t && jv t.2.flatten
def rowOf (t : Tab) (n : Int) : Int := xP (fun r => has r n) t.2
end Go.Am.Pu
end
section
/- Plain laws of draws, and of boxes. -/
namespace Go.Am.Pu
open Go Go.Am
attribute [local instance] D.real
end Go.Am.Pu
end
section
/- Steps over equations: what a word comes to, told by what must hold of it. -/
namespace Go.Am.Pu
open Go Go.Am
attribute [local instance] D.real
section
variable {α β : Type}
def Ok (x : Option α) (Q : α → Prop) : Prop := ∃ y, x = some y ∧ Q y
theorem Ok.ret {y : α} {Q : α → Prop} (h : Q y) : Ok (some y) Q := ⟨y, rfl, h⟩
theorem Ok.mono {x : Option α} {P Q : α → Prop} (h : Ok x P) (g : ∀ y, P y → Q y) : Ok x Q :=
  let ⟨y, e, hp⟩ := h
  ⟨y, e, g y hp⟩
theorem Ok.bnd {x : Option α} {f : α → Option β} {P : α → Prop} {Q : β → Prop} (h : Ok x P) (g : ∀ y, P y → Ok (f y) Q) : Ok (D.bnd x f) Q := by
  obtain ⟨y, e, hp⟩ := h
  rw [e]
  exact g y hp
theorem Ok.t {p : Prop} [Decidable p] {x y : Option α} {Q : α → Prop} (h1 : p → Ok x Q) (h2 : ¬ p → Ok y Q) : Ok (D.test (decide p) x y) Q := by
  show Ok (if decide p = true then x else y) Q
  by_cases h : p
  · rw [if_pos (decide_eq_true h)]; exact h1 h
  · rw [if_neg (by rw [decide_eq_false h]; simp)]; exact h2 h
theorem Ok.tb {b : Bool} {x y : Option α} {Q : α → Prop} (h1 : b = true → Ok x Q) (h2 : b = false → Ok y Q) : Ok (D.test b x y) Q := by
  cases b
  · exact h2 rfl
  · exact h1 rfl
theorem Ok.g {p : Prop} [Decidable p] {x y : Option α} {Q : α → Prop} (h : p) (g : Ok x Q) : Ok (D.test (decide p) x y) Q := Ok.t (fun _ => g) (fun h' => absurd h h')
theorem Ok.no {p : Prop} [Decidable p] {x y : Option α} {Q : α → Prop} (h : ¬ p) (g : Ok y Q) : Ok (D.test (decide p) x y) Q := Ok.t (fun h' => absurd h' h) (fun _ => g)
theorem Ok.some {x : Option α} {Q : α → Prop} (h : Ok x Q) : ∃ y, x = Option.some y := let ⟨y, e, _⟩ := h; ⟨y, e⟩
end
def cK (n m : Nat) (rs : List (List Int)) : Prop := rs.length ≤ n ∧ ∀ r ∈ rs, r.length ≤ m
theorem cK.at {n m : Nat} {rs : List (List Int)} (h : cK n m rs) (i : Nat) : (rs.getD i []).length ≤ m := by
  by_cases hi : i < rs.length
  · rw [ar hi]; exact h.2 _ (List.getElem_mem hi)
  · rw [cd (by omega)]; simp
theorem cK.set {n m : Nat} {rs : List (List Int)} (h : cK n m rs) (i : Nat) {r : List Int} (hr : r.length ≤ m) : cK n m (rs.set i r) := by
  refine ⟨by rw [List.length_set]; exact h.1, fun x hx => ?_⟩
  rcases List.mem_or_eq_of_mem_set hx with h' | rfl
  · exact h.2 x h'
  · exact hr
theorem cK.mono {n m n' m' : Nat} {rs : List (List Int)} (h : cK n m rs) (hn : n ≤ n') (hm : m ≤ m') : cK n' m' rs :=
  ⟨Nat.le_trans h.1 hn, fun x hx => Nat.le_trans (h.2 x hx) hm⟩
theorem cK.app {n m : Nat} {rs : List (List Int)} (h : cK n m rs) {r : List Int} (hr : r.length ≤ m) : cK (n + 1) m (rs ++ [r]) := by
  refine ⟨by rw [List.length_append]; simp; exact h.1, fun x hx => ?_⟩
  rcases List.mem_append.1 hx with h' | h'
  · exact h.2 x h'
  · simp only [List.mem_singleton] at h'; subst h'; exact hr
end Go.Am.Pu
end
section
/- Corners; a number taken out of rows. Plain words. -/
namespace Go.Am.Pu
theorem oS : ∀ {p : List Int} {prev s : Int}, fj p prev s = true → ∀ i, i + 1 < p.length → p.getD (i + 1) 0 ≤ p.getD i 0
  | [], _, _, _, i, h => by simp at h
  | [x], _, _, _, i, h => by simp at h
  | x :: y :: xs, prev, s, hp, i, h => by
    simp only [fj, Bool.and_eq_true, decide_eq_true_eq] at hp
    cases i with
    | zero => simpa using hp.2.2.2.2.1
    | succ i =>
      have h2 : fj (y :: xs) x (s + x) = true := by
        simp only [fj, Bool.and_eq_true, decide_eq_true_eq]
        exact hp.2.2.2
      have := oS h2 i (by simpa using h)
      simpa using this
def dP (r : List Int) (y : Int) : Nat → Option Nat
  | 0 => none
  | i + 1 => if r.getD i 0 < y then some i else dP r y i
theorem j4 {r : List Int} {y : Int} : ∀ {m q : Nat}, dP r y m = some q → q < m ∧ r.getD q 0 < y
  | 0, q, h => by simp [dP] at h
  | m + 1, q, h => by
    unfold dP at h
    split at h
    · next hc => injection h with h; subst h; exact ⟨by omega, hc⟩
    · have := j4 h; exact ⟨by omega, this.2⟩
theorem oW {r : List Int} {y : Int} : ∀ {m i : Nat}, i < m → r.getD i 0 < y → ∃ q, dP r y m = some q
  | 0, i, h, _ => by omega
  | m + 1, i, h, hi => by
    unfold dP
    split
    · exact ⟨_, rfl⟩
    · next hc =>
      have : i ≠ m := fun e => hc (e ▸ hi)
      exact oW (by omega) hi
def dV : Nat → List (List Int) → Int → List (List Int) × Int
  | 0, rs, y => (rs, y)
  | r + 1, rs, y => match dP (rs.getD r []) y (rs.getD r []).length with
    | some q => dV r (rs.set r ((rs.getD r []).set q y)) ((rs.getD r []).getD q 0)
    | none => dV r rs y
def xw : Nat → List (List Int) → Int → Prop
  | 0, _, _ => True
  | r + 1, rs, y => ∃ q, dP (rs.getD r []) y (rs.getD r []).length = some q ∧ xw r (rs.set r ((rs.getD r []).set q y)) ((rs.getD r []).getD q 0)
theorem getD_set_ne {α : Type} {xs : List α} {i j : Nat} (h : j ≠ i) (x d : α) : (xs.set j x).getD i d = xs.getD i d := by
  simp only [List.getD_eq_getElem?_getD, List.getElem?_set]
  rw [if_neg h]
theorem xl : ∀ (r : Nat) (rs : List (List Int)) (y : Int), (∀ i, i + 1 < r → (rs.getD (i + 1) []).length ≤ (rs.getD i []).length ∧ ∀ q, q < (rs.getD (i + 1) []).length → (rs.getD i []).getD q 0 < (rs.getD (i + 1) []).getD q 0) →
    (∀ i, i + 1 = r → ∃ q, q < (rs.getD i []).length ∧ (rs.getD i []).getD q 0 < y) → xw r rs y
  | 0, _, _, _, _ => trivial
  | r + 1, rs, y, h, he => by
    obtain ⟨q0, h1, h2⟩ := he r rfl
    obtain ⟨q, hq⟩ := oW h1 h2
    obtain ⟨q1, q2⟩ := j4 hq
    refine ⟨q, hq, xl r _ _ (fun i hi => ?_) (fun i hi => ?_)⟩
    · rw [getD_set_ne (by omega), getD_set_ne (by omega)]
      exact h i (by omega)
    · subst hi
      rw [getD_set_ne (by omega)]
      obtain ⟨k1, k2⟩ := h i (by omega)
      exact ⟨q, by omega, k2 q q1⟩
theorem nt {n m : Nat} : ∀ (r : Nat) (rs : List (List Int)) (y : Int), cK n m rs → cK n m (dV r rs y).1
  | 0, _, _, h => h
  | r + 1, rs, y, h => by
    unfold dV
    split
    · exact nt r _ _ (h.set r (by rw [List.length_set]; exact h.at r))
    · exact nt r rs y h
def bT (rs : List (List Int)) (row : Nat) : List (List Int) × Int :=
  ((if (rs.getD row []).length = 1 then (dV row (rs.set row ((rs.getD row []).take ((rs.getD row []).length - 1))) ((rs.getD row []).getD ((rs.getD row []).length - 1) 0)).1.take row
    else (dV row (rs.set row ((rs.getD row []).take ((rs.getD row []).length - 1))) ((rs.getD row []).getD ((rs.getD row []).length - 1) 0)).1),
   (dV row (rs.set row ((rs.getD row []).take ((rs.getD row []).length - 1))) ((rs.getD row []).getD ((rs.getD row []).length - 1) 0)).2)
theorem tP {n m : Nat} {rs : List (List Int)} (h : cK n m rs) (row : Nat) : cK n m (bT rs row).1 := by
  have h1 := nt row (rs.set row ((rs.getD row []).take ((rs.getD row []).length - 1))) ((rs.getD row []).getD ((rs.getD row []).length - 1) 0) (h.set row (by rw [List.length_take]; have := h.at row; omega))
  unfold bT
  simp only
  split
  · exact ⟨by rw [List.length_take]; have := h1.1; omega, fun x hx => h1.2 x (List.mem_of_mem_take hx)⟩
  · exact h1
theorem cw {t : Tab} (h : a8 t = true) : t.1 = [] := by
  simp only [a8, Bool.and_eq_true, decide_eq_true_eq] at h
  exact List.eq_nil_of_length_eq_zero h.2
theorem dU {t : Tab} (h : a8 t = true) {i : Nat} (hi : i < t.2.length) : (outer t).getD i 0 = (t.2.getD i []).length := by
  have e := eY t.1 t.2 0 i hi
  rw [cw h] at e
  unfold outer
  rw [cw h, e]
  simp
theorem fU {t : Tab} (h : a8 t = true) : cy (outer t) = true := by
  simp only [a8, Bool.and_eq_true] at h
  have hs := iE h.1
  simp only [cQ, dp, Bool.and_eq_true] at hs
  exact hs.2.2.2.1
theorem cp (t : Tab) : (outer t).length = t.2.length := by unfold outer; rw [iY]
theorem dw {t : Tab} (h : a8 t = true) : cK 9 9 t.2 := by
  have h9 := fN h
  have hl := (cI (fU h)).2.2.1
  rw [cp] at hl
  exact ⟨hl, fun r hr => by have := ql hr; omega⟩
theorem gG {t : Tab} (h : a8 t = true) : ∀ i, i + 1 < t.2.length → (t.2.getD (i + 1) []).length ≤ (t.2.getD i []).length ∧ ∀ q, q < (t.2.getD (i + 1) []).length → (t.2.getD i []).getD q 0 < (t.2.getD (i + 1) []).getD q 0 := by
  intro i hi
  have hm := oS (show fj (outer t) 9 0 = true from fU h) i (by rw [cp]; exact hi)
  rw [dU h hi, dU h (by omega)] at hm
  have hl : (t.2.getD (i + 1) []).length ≤ (t.2.getD i []).length := by omega
  refine ⟨hl, fun q hq => ?_⟩
  have ht := h
  simp only [a8, Bool.and_eq_true] at ht
  have ht := ht.1
  simp only [iR, Bool.and_eq_true] at ht
  have h1 := eU.1 (eU.1 ht.2 (i + 1) hi) q hq
  simp only [fB, Bool.and_eq_true, Bool.or_eq_true, decide_eq_true_eq] at h1
  have h2 := h1.2.2.resolve_left (by omega)
  rw [cw h] at h2
  have e : ((i + 1 : Nat) : Int) - 1 = (i : Int) := by omega
  have e2 : ([] : List Int).getD (i + 1) 0 + (q : Int) = ([] : List Int).getD i 0 + (q : Int) := by simp
  rw [e, e2] at h2
  have ee : entry t (i : Int) (([] : List Int).getD i 0 + (q : Int)) = (t.2.getD i []).getD q 0 := by
    have := uJ (t := t) (r := i) (q := q) (by omega)
    rw [cw h] at this
    exact this
  rw [ee] at h2
  exact h2
end Go.Am.Pu
end
section
/- Rows with noughts in front; a box taken from a partition. Plain words. -/
namespace Go.Am.Pu
def je (t : Tab) : List (List Int) := (List.range' 0 t.2.length).map fun i => List.replicate (t.1.getD i 0).toNat 0 ++ t.2.getD i []
def bZ (p : List Int) (n : Nat) : List Int := if p.getD n 0 - 1 = 0 then p.take n else p.set n (p.getD n 0 - 1)
theorem ug (p : List Int) (n : Nat) : (bZ p n).length ≤ p.length := by
  unfold bZ
  split
  · rw [List.length_take]; omega
  · rw [List.length_set]; exact Nat.le_refl _
end Go.Am.Pu
end
section
/- A slide: the hole goes right or down until nothing is there. Plain words. -/
namespace Go.Am.Pu
def cel (g : List (List Int)) (r c : Nat) : Int := (g.getD r []).getD c 0
def jV (g : List (List Int)) (r c : Nat) (v : Int) : List (List Int) := g.set r ((g.getD r []).set c v)
theorem yH {g : List (List Int)} {r c : Nat} (h : cel g r c ≠ 0) : r < g.length ∧ c < (g.getD r []).length := by
  unfold cel at h
  by_cases h1 : r < g.length
  · refine ⟨h1, ?_⟩
    by_cases h2 : c < (g.getD r []).length
    · exact h2
    · exact absurd (cd (by omega) 0) h
  · rw [cd (xs := g) (by omega)] at h
    simp at h
theorem hU (g : List (List Int)) (r c : Nat) (v : Int) : (jV g r c v).length = g.length := by unfold jV; rw [List.length_set]
theorem dE (g : List (List Int)) (r c : Nat) (v : Int) (q : Nat) : ((jV g r c v).getD q []).length = (g.getD q []).length := by
  unfold jV
  by_cases e : q = r
  · subst e
    by_cases h : q < g.length
    · rw [ar (by rw [List.length_set]; exact h), List.getElem_set_self, List.length_set]
    · rw [cd (by rw [List.length_set]; omega), cd (by omega)]
  · rw [getD_set_ne (Ne.symm e)]
theorem j5 {g : List (List Int)} {r c : Nat} (v : Int) (h1 : r < g.length) (h2 : c < (g.getD r []).length) : cel (jV g r c v) r c = v := by
  unfold cel jV
  rw [ar (xs := g.set r _) (by rw [List.length_set]; exact h1), List.getElem_set_self, ar (by rw [List.length_set]; exact h2), List.getElem_set_self]
theorem iK {g : List (List Int)} {r c q x : Nat} (v : Int) (h : ¬ (q = r ∧ x = c)) : cel (jV g r c v) q x = cel g q x := by
  unfold cel jV
  by_cases e : q = r
  · subst e
    have hx : x ≠ c := fun e => h ⟨rfl, e⟩
    by_cases hl : q < g.length
    · rw [ar (xs := g.set q _) (by rw [List.length_set]; exact hl), List.getElem_set_self, getD_set_ne (Ne.symm hx)]
    · rw [cd (xs := g.set q _) (by rw [List.length_set]; omega), cd (xs := g) (by omega)]
  · rw [getD_set_ne (Ne.symm e)]
structure Sl (q : List Int) (g : List (List Int)) (i c : Nat) : Prop where
  q0 : ∀ r, 0 ≤ q.getD r 0
  qm : ∀ r, q.getD (r + 1) 0 ≤ q.getD r 0
  lm : ∀ r, (g.getD (r + 1) []).length ≤ (g.getD r []).length
  hi : i < g.length
  hc : c < (g.getD i []).length
  hq : q.getD i 0 ≤ c
  pos : ∀ r x, 0 ≤ cel g r x
  num : ∀ r x : Nat, q.getD r 0 ≤ x → x < (g.getD r []).length → ¬ (r = i ∧ x = c) → 1 ≤ cel g r x ∧ cel g r x ≤ 9
  row : ∀ r x : Nat, q.getD r 0 ≤ x → x + 1 < (g.getD r []).length → ¬ (r = i ∧ x = c) → ¬ (r = i ∧ x + 1 = c) → cel g r x ≤ cel g r (x + 1)
  col : ∀ r x : Nat, q.getD r 0 ≤ x → x < (g.getD (r + 1) []).length → ¬ (r = i ∧ x = c) → ¬ (r + 1 = i ∧ x = c) → cel g r x < cel g (r + 1) x
  rowH : ∀ x : Nat, x + 1 = c → q.getD i 0 ≤ x → c + 1 < (g.getD i []).length → cel g i x ≤ cel g i (c + 1)
  colH : ∀ r : Nat, r + 1 = i → q.getD r 0 ≤ c → c < (g.getD (i + 1) []).length → cel g r c < cel g (i + 1) c
theorem Sl.right {q : List Int} {g : List (List Int)} {i c : Nat} (h : Sl q g i c) (hr : cel g i (c + 1) ≠ 0) (hb : ¬ (0 < cel g (i + 1) c ∧ cel g (i + 1) c ≤ cel g i (c + 1))) :
    Sl q (jV g i c (cel g i (c + 1))) i (c + 1) := by
  obtain ⟨b1, b2⟩ := yH hr
  have hq := h.hq
  have hrn := h.num i (c + 1) (by omega) b2 (by omega)
  have e0 := j5 (cel g i (c + 1)) h.hi h.hc
  have en : ∀ r x, ¬ (r = i ∧ x = c) → cel (jV g i c (cel g i (c + 1))) r x = cel g r x := fun r x hh => iK _ hh
  refine ⟨h.q0, h.qm, fun r => ?_, ?_, ?_, by omega, fun r x => ?_, fun r x h1 h2 h3 => ?_, fun r x h1 h2 h3 h4 => ?_, fun r x h1 h2 h3 h4 => ?_, fun x h1 h2 h3 => ?_, fun r h1 h2 h3 => ?_⟩
  · rw [dE, dE]; exact h.lm r
  · rw [hU]; exact b1
  · rw [dE]; exact b2
  · by_cases e : r = i ∧ x = c
    · rw [e.1, e.2, e0]; exact h.pos _ _
    · rw [en r x e]; exact h.pos _ _
  · rw [dE] at h2
    by_cases e : r = i ∧ x = c
    · rw [e.1, e.2, e0]; exact hrn
    · rw [en r x e]; exact h.num r x h1 h2 e
  · rw [dE] at h2
    by_cases e : r = i ∧ x = c
    · exact (h4 ⟨e.1, by omega⟩).elim
    · rw [en r x e]
      by_cases e' : r = i ∧ x + 1 = c
      · obtain ⟨rfl, rfl⟩ := e'
        rw [e0]
        exact h.rowH x rfl h1 b2
      · rw [en r (x + 1) e']; exact h.row r x h1 h2 e e'
  · rw [dE] at h2
    by_cases e : r = i ∧ x = c
    · obtain ⟨rfl, rfl⟩ := e
      rw [e0, en _ _ (by omega)]
      have hqm := h.qm r
      have h5 := (h.num (r + 1) x (by omega) h2 (by omega)).1
      omega
    · rw [en r x e]
      by_cases e' : r + 1 = i ∧ x = c
      · obtain ⟨rfl, rfl⟩ := e'
        rw [e0]
        have hl := h.lm r
        have h5 := h.row r x h1 (by omega) (by omega) (by omega)
        have h6 := h.col r (x + 1) (by omega) b2 (by omega) (by omega)
        omega
      · rw [en (r + 1) x e']
        exact h.col r x h1 h2 e e'
  · rw [dE] at h3
    have : x = c := by omega
    subst this
    rw [e0, en _ _ (by omega)]
    exact h.row i (x + 1) (by omega) h3 (by omega) (by omega)
  · rw [dE] at h3
    rw [en _ _ (by omega), en _ _ (by omega)]
    subst h1
    have h5 := h.col r (c + 1) h2 (by omega) (by omega) (by omega)
    have h6 := h.col (r + 1) (c + 1) (by omega) h3 (by omega) (by omega)
    omega
end Go.Am.Pu
end
section
/- A slide's end and its start. Plain words. -/
namespace Go.Am.Pu
theorem vU {p : List Int} (hp : cy p = true) (r : Nat) : p.getD (r + 1) 0 ≤ p.getD r 0 := by
  by_cases h : r + 1 < p.length
  · exact oS hp r h
  · rw [cd (by omega)]
    have := (fP hp r).1
    rw [dM] at this
    exact this
theorem rW {p : List Int} {n : Nat} (hp : cy p = true) (hn : n < p.length) (hc : p.getD (n + 1) 0 < p.getD n 0) (r : Nat) : (bZ p n).getD r 0 = if r = n then p.getD n 0 - 1 else p.getD r 0 := by
  unfold bZ
  by_cases h : p.getD n 0 - 1 = 0
  · rw [if_pos h]
    have h0 := (fP hp (n + 1 : Nat)).1
    rw [dM] at h0
    have hl : p.length ≤ n + 1 := by
      refine Nat.le_of_not_lt fun hlt => ?_
      have := (cI hp).1 _ (List.getElem_mem hlt)
      rw [← ar hlt 0] at this
      omega
    by_cases e : r = n
    · subst e
      rw [if_pos rfl, h, cd (by rw [List.length_take]; omega)]
    · rw [if_neg e]
      by_cases e2 : r < n
      · rw [ar (by rw [List.length_take]; omega), List.getElem_take, ar (by omega)]
      · rw [cd (by rw [List.length_take]; omega), cd (by omega)]
  · rw [if_neg h]
    by_cases e : r = n
    · subst e
      rw [if_pos rfl, ar (by rw [List.length_set]; exact hn), List.getElem_set_self]
    · rw [if_neg e, getD_set_ne (Ne.symm e)]
structure Bv (t : Tab) : Prop where
  q0 : ∀ r, 0 ≤ t.1.getD r 0
  qm : ∀ r, t.1.getD (r + 1) 0 ≤ t.1.getD r 0
  lm : ∀ r, ((je t).getD (r + 1) []).length ≤ ((je t).getD r []).length
  num : ∀ r x : Nat, t.1.getD r 0 ≤ x → x < ((je t).getD r []).length → 1 ≤ cel (je t) r x ∧ cel (je t) r x ≤ 9
  row : ∀ r x : Nat, t.1.getD r 0 ≤ x → x + 1 < ((je t).getD r []).length → cel (je t) r x ≤ cel (je t) r (x + 1)
  col : ∀ r x : Nat, t.1.getD r 0 ≤ x → x < ((je t).getD (r + 1) []).length → cel (je t) r x < cel (je t) (r + 1) x
end Go.Am.Pu
end
section
/- A tableau cell by cell; a slide's start. Plain words. -/
namespace Go.Am.Pu
theorem yl {t : Tab} (h : iR t = true) : cy t.1 = true ∧ cy (outer t) = true ∧ t.1.length ≤ t.2.length ∧ (∀ i k, i < t.2.length → k < (t.2.getD i []).length → fB t i k = true) := by
  simp only [iR, cQ, dp, Bool.and_eq_true, decide_eq_true_eq] at h
  obtain ⟨⟨h1, h2, h3, h4, h5⟩, h6⟩ := h
  refine ⟨h1, h4, h2, fun i k hi hk => ?_⟩
  rw [eU] at h6
  have := h6 i hi
  rw [eU] at this
  exact this k hk
end Go.Am.Pu
end
section
/- A partition less a box; the tableau that a slide leaves. Plain words. -/
namespace Go.Am.Pu
theorem kR : ∀ (p : List Int) (prev s : Int), (∀ x ∈ p, 1 ≤ x) → (0 < p.length → p.getD 0 0 ≤ prev) → (∀ i, i + 1 < p.length → p.getD (i + 1) 0 ≤ p.getD i 0) → s + fw p ≤ 9 → fj p prev s = true
  | [], _, _, _, _, _, _ => rfl
  | x :: xs, prev, s, h1, h2, h3, h4 => by
    have hs : ∀ (l : List Int), (∀ y ∈ l, 1 ≤ y) → 0 ≤ fw l := by
      intro l
      induction l with
      | nil => intro _; simp [fw]
      | cons y l ih =>
        intro h
        have a := h y List.mem_cons_self
        have b := ih (fun z hz => h z (List.mem_cons_of_mem _ hz))
        simp only [fw]; omega
    have hx := h1 x List.mem_cons_self
    have hxs := hs xs (fun z hz => h1 z (List.mem_cons_of_mem _ hz))
    have h2' := h2 (by simp)
    simp only [List.getD_cons_zero] at h2'
    simp only [fw] at h4
    have ih := kR xs x (s + x) (fun z hz => h1 z (List.mem_cons_of_mem _ hz)) (fun hl => by have := h3 0 (by simpa using hl); simpa using this) (fun i hi => by have := h3 (i + 1) (by simpa using hi); simpa using this) (by omega)
    simp only [fj, Bool.and_eq_true, decide_eq_true_eq]
    exact ⟨hx, h2', by omega, ih⟩
theorem qx : ∀ (p : List Int) (n : Nat) (v : Int), n < p.length → fw (p.set n v) = fw p - p.getD n 0 + v
  | [], n, v, h => by simp at h
  | x :: xs, 0, v, _ => by simp [fw]; omega
  | x :: xs, n + 1, v, h => by
    have := qx xs n v (by simpa using h)
    simp only [List.set_cons_succ, fw, List.getD_cons_succ, this]
    omega
theorem tJ : ∀ (p : List Int) (n : Nat), p.length = n + 1 → fw (p.take n) = fw p - p.getD n 0
  | [], n, h => by simp at h
  | [x], 0, _ => by simp [fw]
  | x :: xs, n + 1, h => by
    have := tJ xs n (by simpa using h)
    simp only [List.take_succ_cons, fw, List.getD_cons_succ, this]
    omega
  | x :: y :: xs, 0, h => by simp at h
theorem sY {p : List Int} {n : Nat} (hp : cy p = true) (hc : p.getD (n + 1) 0 < p.getD n 0) (h : p.getD n 0 - 1 = 0) : p.length ≤ n + 1 := by
  have h0 := (fP hp (n + 1 : Nat)).1
  rw [dM] at h0
  refine Nat.le_of_not_lt fun hlt => ?_
  have := (cI hp).1 _ (List.getElem_mem hlt)
  rw [← ar hlt 0] at this
  omega
theorem yR {p : List Int} {n : Nat} (hp : cy p = true) (hn : n < p.length) (hc : p.getD (n + 1) 0 < p.getD n 0) {i : Nat} (hi : i < (bZ p n).length) : 1 ≤ (bZ p n).getD i 0 := by
  rw [rW hp hn hc]
  have hl := ug p n
  have h1 : ∀ i, i < p.length → 1 ≤ p.getD i 0 := fun i hi => by
    rw [ar hi]
    exact ((cI hp).1 _ (List.getElem_mem hi)).1
  by_cases h : p.getD n 0 - 1 = 0
  · unfold bZ at hi
    rw [if_pos h, List.length_take] at hi
    rw [if_neg (by omega)]
    exact h1 i (by omega)
  · have a := h1 n hn
    have b := h1 i (by omega)
    split <;> omega
theorem ye {p : List Int} {n : Nat} (hp : cy p = true) (hn : n < p.length) (hc : p.getD (n + 1) 0 < p.getD n 0) : cy (bZ p n) = true := by
  have hs := cI hp
  have hg := rW hp hn hc
  have hpn : 1 ≤ p.getD n 0 := by
    rw [ar hn]
    exact (hs.1 _ (List.getElem_mem hn)).1
  refine kR _ _ _ (fun x hx => ?_) (fun _ => ?_) (fun i _ => ?_) ?_
  · obtain ⟨i, hi, rfl⟩ := List.getElem_of_mem hx
    rw [← ar hi 0]
    exact yR hp hn hc hi
  · rw [hg]
    have : ∀ i, p.getD i 0 ≤ 9 := fun i => by
      have := (fP hp i).2
      rw [dM] at this
      exact this
    have a := this 0
    have b := this n
    split <;> omega
  · rw [hg, hg]
    have := vU hp i
    by_cases e : i = n
    · subst e
      rw [if_neg (by omega), if_pos rfl]; omega
    · rw [if_neg e]
      by_cases e2 : i + 1 = n
      · subst e2; rw [if_pos rfl]; omega
      · rw [if_neg e2]; exact this
  · have h9 := hs.2.1
    unfold bZ
    split
    · next h =>
      have hl := sY hp hc h
      rw [tJ p n (by omega)]
      omega
    · rw [qx p n _ hn]
      omega
def fx (q : List Int) (g : List (List Int)) (n : Nat) : List (List Int) := (List.range' 0 n).map fun r => (g.getD r []).drop (q.getD r 0).toNat
theorem kq (q : List Int) (g : List (List Int)) (n : Nat) : (fx q g n).length = n := by simp [fx]
theorem mQ {q : List Int} {g : List (List Int)} {n r : Nat} (h : r < n) : (fx q g n).getD r [] = (g.getD r []).drop (q.getD r 0).toNat := by
  rw [ar (by rw [kq]; exact h)]
  simp [fx]
def nH (g : List (List Int)) (i c : Nat) : List (List Int) := g.set i ((g.getD i []).take c)
end Go.Am.Pu
namespace Go.Am.Pu
end Go.Am.Pu
end
section
/- What a slide leaves. Plain words. -/
namespace Go.Am.Pu
theorem xo {g : List (List Int)} {i c r : Nat} (hi : i < g.length) : (nH g i c).getD r [] = if r = i then (g.getD i []).take c else g.getD r [] := by
  unfold nH
  by_cases e : r = i
  · subst e
    rw [if_pos rfl, ar (by rw [List.length_set]; exact hi), List.getElem_set_self]
  · rw [if_neg e, getD_set_ne (Ne.symm e)]
theorem nW (g : List (List Int)) (i c : Nat) : (nH g i c).length = g.length := by unfold nH; rw [List.length_set]
theorem zL {g : List (List Int)} {i c r x : Nat} (hi : i < g.length) (hx : x < ((nH g i c).getD r []).length) : cel (nH g i c) r x = cel g r x := by
  unfold cel
  rw [xo hi] at hx ⊢
  by_cases e : r = i
  · subst e
    rw [if_pos rfl] at hx ⊢
    rw [List.length_take] at hx
    rw [ar (by rw [List.length_take]; exact hx), List.getElem_take]
    exact (ar (by omega) 0).symm
  · rw [if_neg e]
structure yq (t : Tab) (n : Nat) (g : List (List Int)) (i c : Nat) : Prop where
  sl : Sl (bZ t.1 n) g i c
  len : g.length = t.2.length
  row : ∀ r, (g.getD r []).length = ((je t).getD r []).length
  hi : i < (outer t).length
  end_ : (outer t).getD i 0 = c + 1
  cor : (outer t).getD (i + 1) 0 < (outer t).getD i 0
  cutl : ∀ r, (((nH g i c).getD r []).length : Int) = (bZ (outer t) i).getD r 0
  ins : ∀ r, (bZ t.1 n).getD r 0 ≤ (bZ (outer t) i).getD r 0
  rows : cK 9 9 (nH g i c)
end Go.Am.Pu
end
section
/- The square that the reference slides in. Plain words. -/
namespace Go.Am.Pu
structure Sq (s g : List (List Int)) (i c : Nat) : Prop where
  len : s.length = 11
  row : ∀ r, r < 11 → (s.getD r []).length = 11
  at_ : ∀ r x, r < 11 → x < 11 → ¬ (r = i ∧ x = c) → cel s r x = cel g r x
  hole : cel s i c = 0
theorem Sq.step {s g : List (List Int)} {i c i' c' : Nat} (h : Sq s g i c) (hi : i < g.length) (hc : c < (g.getD i []).length) (h1 : i < 11) (h2 : c < 11) (h3 : i' < 11) (h4 : c' < 11) (hne : ¬ (i' = i ∧ c' = c)) (v : Int) :
    Sq (jV (jV s i c v) i' c' 0) (jV g i c v) i' c' := by
  refine ⟨by rw [hU, hU]; exact h.len, fun r hr => by rw [dE, dE]; exact h.row r hr, fun r x hr hx hn => ?_, ?_⟩
  · rw [iK _ hn]
    by_cases e : r = i ∧ x = c
    · obtain ⟨rfl, rfl⟩ := e
      rw [j5 _ (by rw [h.len]; exact h1) (by rw [h.row _ h1]; exact h2), j5 _ hi hc]
    · rw [iK _ e, iK _ e]; exact h.at_ r x hr hx e
  · rw [j5 _ (by rw [hU, h.len]; exact h3) (by rw [dE, h.row _ h3]; exact h4)]
end Go.Am.Pu
end
section
/- What a slide leaves is a tableau. Plain words. -/
namespace Go.Am.Pu
theorem xx {α : Type} (l : List α) (a x : Nat) (d : α) : (l.drop a).getD x d = l.getD (a + x) d := by
  simp [List.getD_eq_getElem?_getD, List.getElem?_drop]
section
variable {t : Tab} {n : Nat} {g : List (List Int)} {i c : Nat}
theorem yq.cell (E : yq t n g i c) {r k : Nat} (hr : r < (bZ (outer t) i).length)
    (hk : k < ((fx (bZ t.1 n) (nH g i c) (bZ (outer t) i).length).getD r []).length) :
    ((bZ t.1 n).getD r 0).toNat + k < (g.getD r []).length ∧ ((((bZ t.1 n).getD r 0).toNat + k : Nat) : Int) < (bZ (outer t) i).getD r 0 ∧ ¬ (r = i ∧ ((bZ t.1 n).getD r 0).toNat + k = c) ∧
      ((fx (bZ t.1 n) (nH g i c) (bZ (outer t) i).length).getD r []).getD k 0 = cel g r (((bZ t.1 n).getD r 0).toNat + k) := by
  have hq := E.sl.q0 r
  rw [mQ hr] at hk ⊢
  rw [List.length_drop] at hk
  have hx : ((bZ t.1 n).getD r 0).toNat + k < ((nH g i c).getD r []).length := by omega
  have hl := E.cutl r
  have hcut := xo (c := c) (r := r) E.sl.hi
  refine ⟨?_, by omega, fun e => ?_, ?_⟩
  · rw [hcut] at hx
    by_cases e : r = i
    · subst e; rw [if_pos rfl, List.length_take] at hx; omega
    · rw [if_neg e] at hx; exact hx
  · rw [hcut, if_pos e.1, List.length_take] at hx
    omega
  · rw [xx]
    exact zL E.sl.hi hx
theorem yq.Be (E : yq t n g i c) {r : Nat} (hr : r < (bZ (outer t) i).length) :
    (bZ (outer t) i).getD r 0 = (bZ t.1 n).getD r 0 + (((fx (bZ t.1 n) (nH g i c) (bZ (outer t) i).length).getD r []).length : Int) := by
  have hq := E.sl.q0 r
  have hi := E.ins r
  have hl := E.cutl r
  rw [mQ hr, List.length_drop]
  omega
end
theorem zj {p : List Int} {n : Nat} (hp : cy p = true) (hn : n < p.length) (hc : p.getD (n + 1) 0 < p.getD n 0) : fw (bZ p n) = fw p - 1 := by
  unfold bZ
  split
  · next h =>
    have hl := sY hp hc h
    rw [tJ p n (by omega)]
    omega
  · rw [qx p n _ hn]
    omega
end Go.Am.Pu
namespace Go.Am.Pu
end Go.Am.Pu
end
section
/- Taking the least number out of a plain tableau; evacuation. Plain words. -/
namespace Go.Am.Pu
theorem yq.out {t : Tab} {n : Nat} {g : List (List Int)} {i c : Nat} (E : yq t n g i c) :
    outer (bZ t.1 n, fx (bZ t.1 n) (nH g i c) (bZ (outer t) i).length) = bZ (outer t) i := by
  refine List.ext_getElem (by rw [cp]; exact kq _ _ _) fun r h1 h2 => ?_
  rw [← ar h1 0, ← ar h2 0]
  have h3 : r < (fx (bZ t.1 n) (nH g i c) (bZ (outer t) i).length).length := by rw [kq]; exact h2
  have := eY (bZ t.1 n) (fx (bZ t.1 n) (nH g i c) (bZ (outer t) i).length) 0 r h3
  rw [Nat.zero_add] at this
  exact this.trans (E.Be h2).symm
theorem pW {t : Tab} (h : a8 t = true) {r : Nat} (hr : r < t.2.length) : 1 ≤ (t.2.getD r []).length := by
  have hl := dU h hr
  have hp := (cI (fU h)).1 ((outer t)[r]'(by rw [cp]; exact hr)) (List.getElem_mem _)
  rw [ar (by rw [cp]; exact hr)] at hl
  omega
theorem o5 {t : Tab} (h : a8 t = true) : fw (outer t) = t.2.flatten.length := by
  unfold outer
  exact mC t.1 t.2 0 fun q _ => by rw [cw h]; rfl
end Go.Am.Pu
end
section
/- Promotion. Plain words. -/
namespace Go.Am.Pu
def Small (rs : List (List Int)) : Prop := ∀ i q, -100 ≤ (rs.getD i []).getD q 0 ∧ (rs.getD i []).getD q 0 ≤ 100
end Go.Am.Pu
end
section
/- Slides undone. Plain words. -/
namespace Go.Am.Pu
def leftOf (g : List (List Int)) (i c : Nat) : Int := if c = 0 then 0 else cel g i (c - 1)
def yQ (g : List (List Int)) (i c : Nat) : Int := if i = 0 then 0 else cel g (i - 1) c
def qJ : Nat → List (List Int) → Nat → Nat → List (List Int) × (Nat × Nat)
  | 0, g, i, c => (g, (i, c))
  | m + 1, g, i, c => if leftOf g i c = 0 ∧ yQ g i c = 0 then (g, (i, c))
    else if leftOf g i c ≤ yQ g i c then qJ m (jV g i c (yQ g i c)) (i - 1) c
    else qJ m (jV g i c (leftOf g i c)) i (c - 1)
structure Ag (f : Int → Int) (g h : List (List Int)) (i c : Nat) : Prop where
  len : h.length = g.length
  row : ∀ r, (h.getD r []).length = (g.getD r []).length
  at_ : ∀ r x, ¬ (r = i ∧ x = c) → cel h r x = f (cel g r x)
def Inn (q : List Int) (g : List (List Int)) : Prop := ∀ r x : Nat, (x : Int) < q.getD r 0 → cel g r x = 0
theorem Inn.step {q : List Int} {g : List (List Int)} {i c : Nat} (h : Inn q g) (hq : q.getD i 0 ≤ c) (v : Int) : Inn q (jV g i c v) := by
  intro r x hx
  by_cases e : r = i ∧ x = c
  · obtain ⟨rfl, rfl⟩ := e; omega
  · rw [iK _ e]; exact h r x hx
theorem Ag.right {f : Int → Int} {q : List Int} {g h : List (List Int)} {i c : Nat} (hs : Sl q g i c) (hi : Inn q g) (hf : ∀ a b x y, cel g a b < cel g x y → f (cel g a b) < f (cel g x y)) (f0 : f 0 = 0)
    (hr : cel g i (c + 1) ≠ 0) (ha : Ag f (jV g i c (cel g i (c + 1))) h i (c + 1)) :
    ∃ h', Ag f g h' i c ∧ ∀ m, qJ (m + 1) h i (c + 1) = qJ m h' i c := by
  obtain ⟨b1, b2⟩ := yH hr
  have f0' : ∀ a b, cel g a b = 0 → f (cel g a b) = 0 := fun a b e => by rw [e]; exact f0
  have hl : leftOf h i (c + 1) = f (cel g i (c + 1)) := by
    unfold leftOf
    rw [if_neg (by omega), show c + 1 - 1 = c by omega, ha.at_ i c (by omega), j5 _ hs.hi hs.hc]
  have hpos : 0 < f (cel g i (c + 1)) := by
    have hp := hs.pos i (c + 1)
    have e : cel g g.length 0 = 0 := by unfold cel; rw [cd (Nat.le_refl _)]; rfl
    have := hf g.length 0 i (c + 1) (by omega)
    rw [e, f0] at this
    exact this
  have hu : yQ h i (c + 1) < f (cel g i (c + 1)) := by
    unfold yQ
    by_cases e : i = 0
    · rw [if_pos e]; exact hpos
    · rw [if_neg e, ha.at_ _ _ (by omega), iK _ (by omega)]
      by_cases hq : q.getD (i - 1) 0 ≤ ((c + 1 : Nat) : Int)
      · have hc := hs.col (i - 1) (c + 1) hq (by rw [show i - 1 + 1 = i by omega]; exact b2) (by omega) (by omega)
        rw [show i - 1 + 1 = i by omega] at hc
        exact hf _ _ _ _ hc
      · rw [f0' _ _ (hi (i - 1) (c + 1) (by omega))]; exact hpos
  have hhi : i < h.length := by rw [ha.len, hU]; exact b1
  have hhc : c + 1 < (h.getD i []).length := by rw [ha.row, dE]; exact b2
  refine ⟨jV h i (c + 1) (leftOf h i (c + 1)), ⟨by rw [hU, ha.len, hU], fun r => by rw [dE, ha.row, dE], fun r x hn => ?_⟩, fun m => ?_⟩
  · by_cases e : r = i ∧ x = c + 1
    · obtain ⟨rfl, rfl⟩ := e
      rw [j5 _ hhi hhc, hl]
    · rw [iK _ e, ha.at_ r x e, iK _ hn]
  · conv => lhs; unfold qJ
    rw [if_neg (by omega), if_neg (by omega)]
    rfl
def Occ (q : List Int) (v : Int) (g : List (List Int)) (i c : Nat) : Prop := ∃ r x : Nat, ¬ (r = i ∧ x = c) ∧ x < (g.getD r []).length ∧ q.getD r 0 ≤ x ∧ cel g r x = v
theorem Occ.step {q : List Int} {v : Int} {g : List (List Int)} {i c a b : Nat} (h : Occ q v g i c) (hi : i < g.length) (hc : c < (g.getD i []).length) (hq : q.getD i 0 ≤ c) (hne : ¬ (a = i ∧ b = c)) : Occ q v (jV g i c (cel g a b)) a b := by
  obtain ⟨r, x, h1, h2, h3, h4⟩ := h
  by_cases e : r = a ∧ x = b
  · obtain ⟨rfl, rfl⟩ := e
    exact ⟨i, c, fun e => hne ⟨e.1.symm, e.2.symm⟩, by rw [dE]; exact hc, hq, by rw [j5 _ hi hc]; exact h4⟩
  · exact ⟨r, x, e, by rw [dE]; exact h2, h3, by rw [iK _ h1]; exact h4⟩
end Go.Am.Pu
end
section
/- Promotion of a standard tableau is standard, of the same shape, and can be undone. Plain words. -/
namespace Go.Am.Pu
theorem lC {t : Tab} (h0 : t.1 = []) (hp : cy (outer t) = true) (hn : ∀ r x, r < t.2.length → x < (t.2.getD r []).length → 1 ≤ cel t.2 r x ∧ cel t.2 r x ≤ 9)
    (hr : ∀ r x, r < t.2.length → x + 1 < (t.2.getD r []).length → cel t.2 r x ≤ cel t.2 r (x + 1)) (hc : ∀ r x, r + 1 < t.2.length → x < (t.2.getD (r + 1) []).length → cel t.2 r x < cel t.2 (r + 1) x) : a8 t = true := by
  simp only [a8, iR, cQ, dp, Bool.and_eq_true, decide_eq_true_eq, h0]
  refine ⟨⟨⟨rfl, by simp, rfl, hp, by simp, ?_⟩, ?_⟩, rfl⟩
  · rw [eU]
    intro i hi
    simp at hi
  · rw [eU]
    intro r hr'
    rw [eU]
    intro k hk
    simp only [fB, within, Bool.and_eq_true, Bool.or_eq_true, decide_eq_true_eq]
    refine ⟨hn r k hr' hk, ?_, ?_⟩
    · by_cases e : k = 0
      · exact .inl e
      · right
        have := hr r (k - 1) hr' (by omega)
        rw [show k - 1 + 1 = k by omega] at this
        exact this
    · by_cases e : r = 0
      · exact .inl e
      · right
        have := hc (r - 1) k (by omega) (by rw [show r - 1 + 1 = r by omega]; exact hk)
        rw [show r - 1 + 1 = r by omega] at this
        rw [show (r : Int) - 1 = ((r - 1 : Nat) : Int) by omega, mK (by omega), h0]
        simp only [List.getD_nil]
        rw [show (0 : Int) + (k : Int) - 0 = (k : Int) by omega, dM]
        exact this
theorem fQ {t : Tab} (h : a8 t = true) : (∀ r x, r < t.2.length → x < (t.2.getD r []).length → 1 ≤ cel t.2 r x ∧ cel t.2 r x ≤ 9) ∧ (∀ r x, r < t.2.length → x + 1 < (t.2.getD r []).length → cel t.2 r x ≤ cel t.2 r (x + 1)) := by
  have h' := h
  simp only [a8, Bool.and_eq_true] at h'
  obtain ⟨_, _, _, hc⟩ := yl h'.1
  refine ⟨fun r x hr hx => ?_, fun r x hr hx => ?_⟩
  · have := hc r x hr hx
    simp only [fB, within, Bool.and_eq_true, decide_eq_true_eq] at this
    exact this.1
  · have := hc r (x + 1) hr hx
    simp only [fB, within, Bool.and_eq_true, Bool.or_eq_true, decide_eq_true_eq] at this
    exact this.2.1.resolve_left (by omega)
theorem g6 {rs : List (List Int)} {r x : Nat} (hr : r < rs.length) (hx : x < (rs.getD r []).length) : cel rs r x ∈ rs.flatten := by
  refine List.mem_flatten.2 ⟨rs.getD r [], by rw [ar hr]; exact List.getElem_mem hr, ?_⟩
  unfold cel
  rw [ar hx]
  exact List.getElem_mem hx
theorem j6 {rs : List (List Int)} {v : Int} (h : v ∈ rs.flatten) : ∃ r x, r < rs.length ∧ x < (rs.getD r []).length ∧ cel rs r x = v := by
  obtain ⟨l, hl, hv⟩ := List.mem_flatten.1 h
  obtain ⟨r, hr, rfl⟩ := List.getElem_of_mem hl
  obtain ⟨x, hx, rfl⟩ := List.getElem_of_mem hv
  have e := ar hr ([] : List Int)
  refine ⟨r, x, hr, by rw [e]; exact hx, ?_⟩
  unfold cel
  rw [e, ar hx]
theorem lr {t : Tab} (h : a8 t = true) (hs : dI t = true) : t.2.flatten.Nodup ∧ (∀ x ∈ t.2.flatten, 1 ≤ x ∧ x ≤ t.2.flatten.length) := by
  simp only [dI, Bool.and_eq_true] at hs
  have h1 := pJ hs.1
  obtain ⟨a, b⟩ := (rk fun x hx => (h1 x hx).1).1 hs.2
  exact ⟨a, fun x hx => ⟨(h1 x hx).1, b x hx⟩⟩
end Go.Am.Pu
end
section
/- Promotion keeps shapes and standardness. Plain words. -/
namespace Go.Am.Pu
section
variable {t : Tab}
theorem oQ {a b : Tab} (ha : a.1 = []) (hb : b.1 = []) (hl : a.2.length = b.2.length) (hr : ∀ r, (a.2.getD r []).length = (b.2.getD r []).length) : outer a = outer b := by
  refine List.ext_getElem (by rw [cp, cp]; exact hl) fun r h1 h2 => ?_
  rw [cp] at h1 h2
  have e1 := eY a.1 a.2 0 r h1
  have e2 := eY b.1 b.2 0 r h2
  rw [← ar (by rw [cp]; exact h1) 0, ← ar (by rw [cp]; exact h2) 0]
  unfold outer
  rw [e1, e2, ha, hb, hr]
theorem ya {xs ys : List Int} {x : Nat} (h : x < xs.length) : (xs ++ ys).getD x 0 = xs.getD x 0 := by
  simp only [List.getD_eq_getElem?_getD, List.getElem?_append_left h]
theorem xY {xs ys : List Int} {x : Nat} (h : xs.length ≤ x) : (xs ++ ys).getD x 0 = ys.getD (x - xs.length) 0 := by
  simp only [List.getD_eq_getElem?_getD, List.getElem?_append_right h]
end
end Go.Am.Pu
end
section
/- Promotion undone: it is one to one. Plain words. -/
namespace Go.Am.Pu
section
variable {t : Tab}
end
end Go.Am.Pu
end
section
/- Orbits of promotion come back. Plain words. -/
namespace Go.Am.Pu
structure Good (t : Tab) : Prop where
  pl : a8 t = true
  st : dI t = true
  ne : t.2.flatten.length ≠ 0
end Go.Am.Pu
end
section
/- A slide outwards, as the program has it; demotion. Plain words. -/
namespace Go.Am.Pu
section
variable {u : Tab}
end
end Go.Am.Pu
end
section
/- The last promotion of an orbit; orbits' sizes. Plain words. -/
namespace Go.Am.Pu
def w9 (t : Tab) : Prop := t.1 = [] ∧ cK 10 10 t.2
theorem w9.ok {t : Tab} (h : w9 t) : jY t := ⟨by rw [h.1]; simp, by have := h.2.1; omega, fun r hr => by have := h.2.2 r hr; omega⟩
theorem w9.size {t : Tab} (h : w9 t) : eO t.2 ≤ 100 := by
  have a := qo t.2 10 h.2.2
  have b := h.2.1
  omega
section
attribute [local instance] D.real
variable {α β : Type} {x y v : Option α}
theorem bE {x : Option β} {z : β} {f : β → Option α} (h : x = some z) (g : f z = v) : D.bnd x f = v := by rw [h]; exact g
theorem tN (g : x = v) : D.test (D.no true) y x = v := g
theorem tM (g : y = v) : D.test (D.no false) y x = v := g
theorem tG {p : Prop} [Decidable p] (h : p) (g : x = v) : D.test (decide p) x y = v := by
  show (if decide p = true then x else y) = v
  rw [if_pos (decide_eq_true h)]; exact g
theorem tX {p : Prop} [Decidable p] (h : ¬ p) (g : y = v) : D.test (decide p) x y = v := by
  show (if decide p = true then x else y) = v
  rw [decide_eq_false h]; exact g
theorem tE {a b : Int} (h : a = b) (g : x = v) : D.test (D.no (D.eq a b)) y x = v := by
  show (if (!decide (a = b)) = true then y else x) = v
  rw [decide_eq_true h]; exact g
theorem tB {b : Bool} (g : x = v) : D.test (D.no (D.eqB b b)) y x = v := by
  show (if (!(b == b)) = true then y else x) = v
  rw [beq_self_eq_true]; exact g
end
end Go.Am.Pu
end
section
/- Cells taken out of plain tableaux, one behind another. Plain words. -/
namespace Go.Am.Pu
def mY (rs : List (List Int)) : Prop := ∀ i, i + 1 < rs.length → (rs.getD (i + 1) []).length ≤ (rs.getD i []).length ∧ ∀ q, q < (rs.getD (i + 1) []).length → (rs.getD i []).getD q 0 < (rs.getD (i + 1) []).getD q 0
theorem qy {r : List Int} {y : Int} : ∀ {m q : Nat}, dP r y m = some q → ∀ c, q < c → c < m → y ≤ r.getD c 0
  | 0, q, h, _, _, _ => by simp [dP] at h
  | m + 1, q, h, c, h1, h2 => by
    unfold dP at h
    split at h
    · next hc => injection h with h; omega
    · next hc =>
      by_cases e : c = m
      · subst e; omega
      · exact qy h c h1 (by omega)
theorem oI : ∀ (r : Nat) (rs : List (List Int)) (y : Int), (dV r rs y).1.length = rs.length ∧ ∀ i, ((dV r rs y).1.getD i []).length = (rs.getD i []).length
  | 0, _, _ => ⟨rfl, fun _ => rfl⟩
  | r + 1, rs, y => by
    unfold dV
    split
    · next q hq =>
      obtain ⟨a, b⟩ := oI r (rs.set r ((rs.getD r []).set q y)) ((rs.getD r []).getD q 0)
      refine ⟨by rw [a, List.length_set], fun i => ?_⟩
      rw [b]
      by_cases e : i = r
      · subst e
        by_cases h : i < rs.length
        · rw [ar (by rw [List.length_set]; exact h), List.getElem_set_self, List.length_set]
        · rw [cd (by rw [List.length_set]; omega), cd (xs := rs) (by omega)]
      · rw [getD_set_ne (Ne.symm e)]
    · exact oI r rs y
theorem sF : ∀ (r : Nat) (rs : List (List Int)) (y : Int) (q : Nat), r < rs.length → (∀ i, i + 1 < r → (rs.getD (i + 1) []).length ≤ (rs.getD i []).length ∧ ∀ q, q < (rs.getD (i + 1) []).length → (rs.getD i []).getD q 0 < (rs.getD (i + 1) []).getD q 0) →
    (∀ i, r ≤ i → i + 1 < rs.length → (rs.getD (i + 1) []).length ≤ (rs.getD i []).length ∧ ∀ q, q < (rs.getD (i + 1) []).length → (rs.getD i []).getD q 0 < (rs.getD (i + 1) []).getD q 0) →
    (∀ i, i + 1 = r → (rs.getD r []).length ≤ (rs.getD i []).length ∧ q < (rs.getD i []).length ∧ (rs.getD i []).getD q 0 < y ∧ (∀ c, c < (rs.getD r []).length → c ≠ q → (rs.getD i []).getD c 0 < (rs.getD r []).getD c 0) ∧ (∀ c, q ≤ c → c < (rs.getD r []).length → y < (rs.getD r []).getD c 0)) →
    mY (dV r rs y).1
  | 0, rs, y, q, hr, _, hB, _ => fun i hi => hB i (Nat.zero_le _) hi
  | r + 1, rs, y, q, hr, hA, hB, hI => by
    obtain ⟨i1, i2, i3, i4, i5⟩ := hI r rfl
    obtain ⟨q0, hq0⟩ := oW i2 i3
    have hmax := qy hq0
    obtain ⟨k1, k2⟩ := j4 hq0
    have hqq : q ≤ q0 := Nat.le_of_not_lt fun hlt => by
      have := hmax q hlt i2
      omega
    unfold dV
    rw [hq0]
    have hrow : (rs.set r ((rs.getD r []).set q0 y)).getD r [] = (rs.getD r []).set q0 y := by
      rw [ar (by rw [List.length_set]; omega), List.getElem_set_self]
    have hne : ∀ i, i ≠ r → (rs.set r ((rs.getD r []).set q0 y)).getD i [] = rs.getD i [] := fun i h => getD_set_ne (Ne.symm h) _ _
    have hset : ∀ c, c ≠ q0 → ((rs.getD r []).set q0 y).getD c 0 = (rs.getD r []).getD c 0 := fun c h => getD_set_ne (Ne.symm h) _ _
    have hself : ((rs.getD r []).set q0 y).getD q0 0 = y := by rw [ar (by rw [List.length_set]; exact k1), List.getElem_set_self]
    refine sF r _ _ q0 (by rw [List.length_set]; omega) (fun i hi => ?_) (fun i hi hl => ?_) (fun i hi => ?_)
    · rw [hne _ (by omega), hne _ (by omega)]
      exact hA i (by omega)
    · rw [List.length_set] at hl
      by_cases e : i = r
      · subst e
        rw [hne (i + 1) (by omega), hrow, List.length_set]
        refine ⟨i1, fun c hc => ?_⟩
        by_cases e2 : c = q0
        · subst e2; rw [hself]; exact i5 c hqq hc
        · rw [hset c e2]
          by_cases e3 : c = q
          · subst e3
            have := i5 c (Nat.le_refl _) hc
            omega
          · exact i4 c hc e3
      · rw [hne (i + 1) (by omega), hne i e]
        exact hB i (by omega) hl
    · subst hi
      obtain ⟨a1, a2⟩ := hA i (by omega)
      rw [hrow, hne i (by omega), List.length_set]
      refine ⟨a1, by omega, a2 q0 k1, fun c hc e => ?_, fun c h1 h2 => ?_⟩
      · rw [hset c e]; exact a2 c hc
      · by_cases e : c = q0
        · subst e; rw [hself]; exact k2
        · rw [hset c e]
          have := hmax c (by omega) h2
          omega
def b7 (rs : List (List Int)) (r : Nat) : List (List Int) :=
  if (rs.getD r []).length = 1 then (rs.set r ((rs.getD r []).take ((rs.getD r []).length - 1))).take r else rs.set r ((rs.getD r []).take ((rs.getD r []).length - 1))
def cL (a b : List (List Int)) : Prop := a.length = b.length ∧ ∀ i, (a.getD i []).length = (b.getD i []).length
theorem eX {α : Type} {l : List α} {n i : Nat} (h : i < n) (d : α) : (l.take n).getD i d = l.getD i d := by
  simp only [List.getD_eq_getElem?_getD, List.getElem?_take, if_pos h]
theorem su {a b : List (List Int)} (h : cL a b) (n : Nat) : cL (a.take n) (b.take n) := by
  refine ⟨by rw [List.length_take, List.length_take, h.1], fun i => ?_⟩
  by_cases hi : i < n
  · rw [eX hi, eX hi]; exact h.2 i
  · rw [cd (xs := a.take n) (by rw [List.length_take]; omega), cd (xs := b.take n) (by rw [List.length_take]; omega)]
theorem tH (rs : List (List Int)) (r : Nat) : cL (bT rs r).1 (b7 rs r) := by
  have a := oI r (rs.set r ((rs.getD r []).take ((rs.getD r []).length - 1))) ((rs.getD r []).getD ((rs.getD r []).length - 1) 0)
  unfold bT b7
  simp only
  split
  · exact su a r
  · exact a
theorem vt {a b : List (List Int)} (h : cL a b) (r : Nat) : cL (b7 a r) (b7 b r) := by
  have hs : cL (a.set r ((a.getD r []).take ((a.getD r []).length - 1))) (b.set r ((b.getD r []).take ((b.getD r []).length - 1))) := by
    refine ⟨by rw [List.length_set, List.length_set, h.1], fun i => ?_⟩
    by_cases e : i = r
    · subst e
      by_cases hi : i < a.length
      · rw [ar (xs := a.set _ _) (by rw [List.length_set]; exact hi), List.getElem_set_self, ar (xs := b.set _ _) (by rw [List.length_set, ← h.1]; exact hi), List.getElem_set_self, List.length_take, List.length_take, h.2 i]
      · rw [cd (xs := a.set _ _) (by rw [List.length_set]; omega), cd (xs := b.set _ _) (by rw [List.length_set, ← h.1]; omega)]
    · rw [getD_set_ne (Ne.symm e), getD_set_ne (Ne.symm e)]; exact h.2 i
  unfold b7
  rw [h.2 r]
  split
  · rw [← h.2 r] ; rw [h.2 r] at *; exact su hs r
  · rw [h.2 r] at hs; exact hs
theorem cL.trans {a b c : List (List Int)} (h : cL a b) (h' : cL b c) : cL a c := ⟨h.1.trans h'.1, fun i => (h.2 i).trans (h'.2 i)⟩
theorem zc {rs : List (List Int)} (h : mY rs) (n : Nat) : mY (rs.take n) := by
  intro i hi
  rw [List.length_take] at hi
  rw [eX (by omega), eX (by omega)]
  exact h i (by omega)
theorem uo {rs : List (List Int)} {r : Nat} (h : mY rs) (hr : r < rs.length) (hl : 1 ≤ (rs.getD r []).length) (hc : (rs.getD (r + 1) []).length < (rs.getD r []).length) : mY (bT rs r).1 := by
  have hrow : (rs.set r ((rs.getD r []).take ((rs.getD r []).length - 1))).getD r [] = (rs.getD r []).take ((rs.getD r []).length - 1) := by
    rw [ar (by rw [List.length_set]; exact hr), List.getElem_set_self]
  have hne : ∀ i, i ≠ r → (rs.set r ((rs.getD r []).take ((rs.getD r []).length - 1))).getD i [] = rs.getD i [] := fun i h => getD_set_ne (Ne.symm h) _ _
  have key : mY (dV r (rs.set r ((rs.getD r []).take ((rs.getD r []).length - 1))) ((rs.getD r []).getD ((rs.getD r []).length - 1) 0)).1 := by
    refine sF r _ _ ((rs.getD r []).length - 1) (by rw [List.length_set]; exact hr) (fun i hi => ?_) (fun i hi hil => ?_) (fun i hi => ?_)
    · rw [hne _ (by omega), hne _ (by omega)]; exact h i (by omega)
    · rw [List.length_set] at hil
      by_cases e : i = r
      · subst e
        rw [hne (i + 1) (by omega), hrow, List.length_take]
        refine ⟨by omega, fun c hc' => ?_⟩
        rw [eX (by omega)]
        exact (h i hil).2 c hc'
      · rw [hne (i + 1) (by omega), hne i e]; exact h i hil
    · subst hi
      obtain ⟨a1, a2⟩ := h i hr
      rw [hrow, hne i (by omega), List.length_take]
      refine ⟨by omega, by omega, a2 _ (by omega), fun c h1 h2 => ?_, fun c h1 h2 => by omega⟩
      rw [eX (by omega)]
      exact a2 c (by omega)
  unfold bT
  simp only
  split
  · exact zc key r
  · exact key
end Go.Am.Pu
end
section
/- The greatest number of a standard tableau, and the tableau without it; a pair of tableaux unrolled. Plain words. -/
namespace Go.Am.Pu
section
variable {t : Tab}
theorem rG (h : a8 t = true) (hs : dI t = true) {a b x y : Nat} (ha : a < t.2.length) (hx : x < (t.2.getD a []).length) (hb : b < t.2.length) (hy : y < (t.2.getD b []).length) (e : cel t.2 a x = cel t.2 b y) : a = b ∧ x = y := by
  have nd := (lr h hs).1
  rw [List.Nodup, List.pairwise_flatten] at nd
  have mem : ∀ {r z : Nat}, r < t.2.length → (hz : z < (t.2.getD r []).length) → cel t.2 r z ∈ t.2.getD r [] := fun {r z} _ hz => by
    unfold cel
    rw [ar hz]
    exact List.getElem_mem hz
  have ab : ∀ {a b x y : Nat}, a < b → a < t.2.length → x < (t.2.getD a []).length → b < t.2.length → y < (t.2.getD b []).length → cel t.2 a x ≠ cel t.2 b y := fun {a b x y} hab ha hx hb hy => by
    have := List.pairwise_iff_getElem.1 nd.2 a b ha hb hab
    exact this _ (by rw [← ar ha []]; exact mem ha hx) _ (by rw [← ar hb []]; exact mem hb hy)
  have e1 : a = b := by
    rcases Nat.lt_trichotomy a b with hl | hl | hl
    · exact absurd e (ab hl ha hx hb hy)
    · exact hl
    · exact absurd e.symm (ab hl hb hy ha hx)
  subst e1
  refine ⟨rfl, ?_⟩
  have n2 := nd.1 _ (by rw [ar ha]; exact List.getElem_mem ha : t.2.getD a [] ∈ t.2)
  unfold cel at e
  rw [ar hx, ar hy] at e
  rcases Nat.lt_trichotomy x y with hl | hl | hl
  · exact absurd e (List.pairwise_iff_getElem.1 n2 x y hx hy hl)
  · exact hl
  · exact absurd e.symm (List.pairwise_iff_getElem.1 n2 y x hy hx hl)
theorem jB (h : a8 t = true) (hs : dI t = true) {a x : Nat} {v : Int} (ha : a < t.2.length) (hx : x < (t.2.getD a []).length) (e : cel t.2 a x = v) : rowOf t v = a := by
  have hf : t.2.findIdx (fun r => has r v) = a := by
    rw [List.findIdx_eq ha]
    refine ⟨?_, fun j hj => ?_⟩
    · rw [← ar ha [], mJ, ← e]
      unfold cel
      rw [ar hx]
      exact List.getElem_mem hx
    · rw [Bool.eq_false_iff]
      intro hc
      rw [mJ] at hc
      obtain ⟨y, hy, e2⟩ := List.getElem_of_mem hc
      have hjl : j < t.2.length := by omega
      have hy' : y < (t.2.getD j []).length := by rw [ar hjl]; exact hy
      have e3 : cel t.2 j y = v := by
        unfold cel
        rw [ar hy']
        simp only [ar hjl]
        exact e2
      have := rG h hs hjl hy' ha hx (by rw [e, e3])
      omega
  unfold rowOf xP
  rw [hf, if_pos ha]
theorem zd (h : a8 t = true) (hs : dI t = true) (hn : t.2.flatten.length ≠ 0) : ∃ a : Nat, a < t.2.length ∧ 1 ≤ (t.2.getD a []).length ∧ cel t.2 a ((t.2.getD a []).length - 1) = t.2.flatten.length ∧ (t.2.getD (a + 1) []).length < (t.2.getD a []).length ∧ rowOf t t.2.flatten.length = a := by
  have ho : jv t.2.flatten = true := by
    have := hs
    simp only [dI, Bool.and_eq_true] at this
    exact this.2
  obtain ⟨a, x, ha, hx, e⟩ := j6 (iZ.1 ho t.2.flatten.length (fu.2 (by omega)))
  have hb := (lr h hs).2
  obtain ⟨c1, c2⟩ := fQ h
  have hx1 : x + 1 = (t.2.getD a []).length := by
    refine Nat.le_antisymm hx (Nat.le_of_not_lt fun hlt => ?_)
    have k1 := c2 a x ha hlt
    have k2 := (hb _ (g6 ha hlt)).2
    have := rG h hs ha hx ha hlt (by omega)
    omega
  have hbel : (t.2.getD (a + 1) []).length ≤ x := by
    refine Nat.le_of_not_lt fun hlt => ?_
    have ha1 : a + 1 < t.2.length := Nat.lt_of_not_le fun hle => by rw [cd hle] at hlt; simp at hlt
    have k1 := (gG h a ha1).2 x hlt
    have k2 := (hb _ (g6 ha1 hlt)).2
    unfold cel at e k2
    omega
  refine ⟨a, ha, by omega, by rw [show (t.2.getD a []).length - 1 = x by omega]; exact e, by omega, jB h hs ha hx e⟩
theorem nK {rs : List (List Int)} {a : Nat} (ha : a < rs.length) (hc : (rs.getD (a + 1) []).length < (rs.getD a []).length) (hp : ∀ r, r < rs.length → 1 ≤ (rs.getD r []).length) (r : Nat) : (b7 rs a).getD r [] = if r = a then (rs.getD a []).take ((rs.getD a []).length - 1) else rs.getD r [] := by
  have hset : (rs.set a ((rs.getD a []).take ((rs.getD a []).length - 1))).getD r [] = if r = a then (rs.getD a []).take ((rs.getD a []).length - 1) else rs.getD r [] := by
    by_cases e : r = a
    · subst e; rw [if_pos rfl, ar (by rw [List.length_set]; exact ha), List.getElem_set_self]
    · rw [if_neg e, getD_set_ne (Ne.symm e)]
  unfold b7
  split
  · next h1 =>
    by_cases hr : r < a
    · rw [eX hr, hset]
    · rw [cd (by rw [List.length_take]; omega)]
      by_cases e : r = a
      · subst e; rw [if_pos rfl, h1]; rfl
      · rw [if_neg e]
        have hlast : rs.length ≤ a + 1 := Nat.le_of_not_lt fun hlt => by
          have := hp (a + 1) hlt
          omega
        rw [cd (by omega)]
  · exact hset
theorem q8 {rs : List (List Int)} {a : Nat} (ha : a < rs.length) : (b7 rs a).length = if (rs.getD a []).length = 1 then a else rs.length := by
  unfold b7
  split
  · rw [List.length_take, List.length_set]; omega
  · rw [List.length_set]
theorem zW (h : a8 t = true) (hs : dI t = true) {a : Nat} (hn : t.2.flatten.length ≠ 0) (ha : a < t.2.length) (h1 : 1 ≤ (t.2.getD a []).length) (htop : cel t.2 a ((t.2.getD a []).length - 1) = t.2.flatten.length) (hc : (t.2.getD (a + 1) []).length < (t.2.getD a []).length) :
    a8 (([], b7 t.2 a) : Tab) = true ∧ dI (([], b7 t.2 a) : Tab) = true ∧ (b7 t.2 a).flatten.length + 1 = t.2.flatten.length ∧ ∀ v, 1 ≤ v → v < (t.2.flatten.length : Int) → rowOf ([], b7 t.2 a) v = rowOf t v := by
  have hpos := fun r (hr : r < t.2.length) => pW h hr
  have hrow := nK ha hc hpos
  have hlen := q8 ha
  obtain ⟨c1, c2⟩ := fQ h
  have c3 := gG h
  have hcorner : (outer t).getD (a + 1) 0 < (outer t).getD a 0 := by
    rw [dU h ha]
    by_cases e : a + 1 < t.2.length
    · rw [dU h e]; omega
    · rw [cd (by rw [cp]; omega)]; omega
  have hal : a < (outer t).length := by rw [cp]; exact ha
  have hout : outer (([], b7 t.2 a) : Tab) = bZ (outer t) a := by
    have hdl : (bZ (outer t) a).length = (b7 t.2 a).length := by
      rw [hlen]
      unfold bZ
      rw [dU h ha]
      by_cases e : (t.2.getD a []).length = 1
      · rw [if_pos (by omega), if_pos e, List.length_take, cp]; omega
      · rw [if_neg (by omega), if_neg e, List.length_set, cp]
    refine List.ext_getElem (by rw [cp, hdl]) fun r k1 k2 => ?_
    rw [← ar k1 0, ← ar k2 0, rW (fU h) hal hcorner]
    have k3 : r < (b7 t.2 a).length := by rw [cp] at k1; exact k1
    have := eY [] (b7 t.2 a) 0 r k3
    unfold outer at this ⊢
    rw [this, hrow]
    have hrl : r < t.2.length := by
      rw [hlen] at k3
      split at k3 <;> omega
    have po := dU h hrl
    have pa := dU h ha
    unfold outer at po pa
    by_cases e : r = a
    · subst e
      rw [if_pos rfl, if_pos rfl, List.length_take, pa]
      simp only [List.getD_nil]
      omega
    · rw [if_neg e, if_neg e, po]
      simp only [List.getD_nil]
      omega
  have hcel : ∀ {r x : Nat}, x < ((b7 t.2 a).getD r []).length → x < (t.2.getD r []).length ∧ cel (b7 t.2 a) r x = cel t.2 r x := fun {r x} hx => by
    unfold cel
    rw [hrow] at hx ⊢
    by_cases e : r = a
    · subst e
      rw [if_pos rfl, List.length_take] at hx
      rw [if_pos rfl, eX (by omega)]
      exact ⟨by omega, rfl⟩
    · rw [if_neg e] at hx ⊢
      exact ⟨hx, rfl⟩
  have hrl : ∀ {r : Nat}, r < (b7 t.2 a).length → r < t.2.length := fun {r} hr => by
    rw [hlen] at hr
    split at hr <;> omega
  have hin : ∀ {r x : Nat}, x < (t.2.getD r []).length → ¬ (r = a ∧ x + 1 = (t.2.getD a []).length) → x < ((b7 t.2 a).getD r []).length := fun {r x} hx hne => by
    rw [hrow]
    by_cases e : r = a
    · subst e
      rw [if_pos rfl, List.length_take]
      have : ¬ x + 1 = (t.2.getD r []).length := fun e => hne ⟨rfl, e⟩
      omega
    · rw [if_neg e]; exact hx
  have hpl : a8 (([], b7 t.2 a) : Tab) = true := by
    refine lC rfl (by rw [hout]; exact ye (fU h) hal hcorner) (fun r x hr hx => ?_) (fun r x hr hx => ?_) (fun r x hr hx => ?_)
    · obtain ⟨k1, k2⟩ := hcel hx
      rw [k2]; exact c1 r x (hrl hr) k1
    · obtain ⟨k1, k2⟩ := hcel hx
      obtain ⟨_, k4⟩ := hcel (show x < ((b7 t.2 a).getD r []).length from Nat.lt_of_succ_lt hx)
      rw [k2, k4]; exact c2 r x (hrl hr) k1
    · obtain ⟨k1, k2⟩ := hcel hx
      have hr1 := hrl hr
      obtain ⟨d1, d2⟩ := c3 r hr1
      have hxr : x < ((b7 t.2 a).getD r []).length := by
        refine hin (by omega) fun e => ?_
        rw [e.1] at k1
        omega
      obtain ⟨_, k4⟩ := hcel hxr
      rw [k2, k4]
      exact d2 x k1
  have hfl : (b7 t.2 a).flatten.length + 1 = t.2.flatten.length := by
    have e1 := o5 hpl
    rw [hout, zj (fU h) hal hcorner, o5 h] at e1
    simp only at e1
    omega
  have ho : jv t.2.flatten = true := by
    have := hs
    simp only [dI, Bool.and_eq_true] at this
    exact this.2
  have hcells : ∀ v, 1 ≤ v → v < (t.2.flatten.length : Int) → ∃ r x, r < (b7 t.2 a).length ∧ x < ((b7 t.2 a).getD r []).length ∧ cel (b7 t.2 a) r x = v ∧ r < t.2.length ∧ x < (t.2.getD r []).length ∧ cel t.2 r x = v := by
    intro v v1 v2
    obtain ⟨r, x, hr, hx, e⟩ := j6 (iZ.1 ho v (fu.2 (by omega)))
    have hx' : x < ((b7 t.2 a).getD r []).length := by
      refine hin hx fun e2 => ?_
      rw [e2.1, show x = (t.2.getD a []).length - 1 by omega, htop] at e
      omega
    exact ⟨r, x, Nat.lt_of_not_le fun hle => by rw [cd hle] at hx'; simp at hx', hx', by rw [(hcel hx').2]; exact e, hr, hx, e⟩
  have hst : dI (([], b7 t.2 a) : Tab) = true := by
    have hp' := hpl
    simp only [a8, Bool.and_eq_true] at hp'
    simp only [dI, Bool.and_eq_true]
    refine ⟨hp'.1, iZ.2 fun v hv => ?_⟩
    rw [fu] at hv
    obtain ⟨r, x, q1, q2, q3, _⟩ := hcells v hv.1 (by omega)
    rw [← q3]
    exact g6 q1 q2
  refine ⟨hpl, hst, hfl, fun v v1 v2 => ?_⟩
  obtain ⟨r, x, q1, q2, q3, q4, q5, q6⟩ := hcells v v1 v2
  rw [jB h hs q4 q5 q6, jB hpl hst q1 q2 q3]
end
def wop (q : Tab) : Nat → List (List Int) → List Int
  | 0, _ => []
  | k + 1, P => wop q k (bT P (rowOf q ((k + 1 : Nat) : Int)).toNat).1 ++ [(bT P (rowOf q ((k + 1 : Nat) : Int)).toNat).2]
theorem qa (q : Tab) : ∀ (k : Nat) (P : List (List Int)), (wop q k P).length = k
  | 0, _ => rfl
  | k + 1, P => by simp [wop, qa q k]
structure Unr (q : Tab) (k : Nat) (P Q : List (List Int)) : Prop where
  pl : a8 (([], Q) : Tab) = true
  st : dI (([], Q) : Tab) = true
  fl : Q.flatten.length = k
  col : mY P
  same : cL P Q
  p9 : cK 9 9 P
  row : ∀ v, 1 ≤ v → v ≤ (k : Int) → rowOf ([], Q) v = rowOf q v
theorem Unr.step {q : Tab} {k : Nat} {P Q : List (List Int)} (h : Unr q (k + 1) P Q) : ∃ a : Nat, rowOf q ((k + 1 : Nat) : Int) = a ∧ a < Q.length ∧ 1 ≤ (Q.getD a []).length ∧ cel Q a ((Q.getD a []).length - 1) = (k + 1 : Nat) ∧ (Q.getD (a + 1) []).length < (Q.getD a []).length ∧ Unr q k (bT P a).1 (b7 Q a) := by
  have hfl : (([], Q) : Tab).2.flatten.length = k + 1 := h.fl
  obtain ⟨a, a1, a2, a3, a4, a5⟩ := zd h.pl h.st (by omega)
  obtain ⟨b1, b2, b3, b4⟩ := zW h.pl h.st (by omega) a1 a2 a3 a4
  simp only at a1 a2 a3 a4 b3
  have hP1 : a < P.length := by rw [h.same.1]; exact a1
  refine ⟨a, ?_, a1, a2, by rw [a3, h.fl], a4, ⟨b1, b2, by have := h.fl; omega, uo h.col hP1 (by rw [h.same.2]; exact a2) (by rw [h.same.2, h.same.2]; exact a4), (tH P a).trans (vt h.same a), tP h.p9 a, fun v v1 v2 => ?_⟩⟩
  · rw [← h.row _ (by omega) (Int.le_refl _), ← a5, hfl]
  · rw [b4 v v1 (by rw [hfl]; omega)]
    exact h.row v v1 (by omega)
end Go.Am.Pu
namespace Go.Am.Pu
def prs (q : Tab) : Nat → List (List Int) → List (Int × Int)
  | 0, _ => []
  | k + 1, P => (((k + 1 : Nat) : Int), (bT P (rowOf q ((k + 1 : Nat) : Int)).toNat).2) :: prs q k (bT P (rowOf q ((k + 1 : Nat) : Int)).toNat).1
theorem yX {rs : List (List Int)} (h : mY rs) {n : Nat} (hn : n < rs.length) (hl : 1 ≤ (rs.getD n []).length) : xw n (rs.set n ((rs.getD n []).take ((rs.getD n []).length - 1))) ((rs.getD n []).getD ((rs.getD n []).length - 1) 0) := by
  refine xl n _ _ (fun i hi => ?_) (fun i hi => ?_)
  · rw [getD_set_ne (by omega), getD_set_ne (by omega)]
    exact h i (by omega)
  · subst hi
    rw [getD_set_ne (by omega)]
    obtain ⟨k1, k2⟩ := h i hn
    exact ⟨(rs.getD (i + 1) []).length - 1, by omega, k2 _ (by omega)⟩
theorem oT {p q : Tab} (hp : a8 p = true) (hq : a8 q = true) (hs : dI q = true) (ho : outer p = outer q) : Unr q q.2.flatten.length p.2 q.2 := by
  have e : (([], q.2) : Tab) = q := Prod.ext (cw hq).symm rfl
  have hl : p.2.length = q.2.length := by rw [← cp, ← cp, ho]
  refine ⟨by rw [e]; exact hq, by rw [e]; exact hs, rfl, gG hp, ⟨hl, fun i => ?_⟩, dw hp, fun v _ _ => by rw [e]⟩
  by_cases hi : i < p.2.length
  · have a := dU hp hi
    have b := dU hq (show i < q.2.length by omega)
    rw [ho] at a
    omega
  · rw [cd (xs := p.2) (by omega), cd (xs := q.2) (by omega)]
def kV (p q : Tab) : List Int × Bool := if a8 p = true ∧ a8 q = true ∧ dI q = true ∧ outer p = outer q then (wop q q.2.flatten.length p.2, true) else ([], false)
end Go.Am.Pu
end
section
/- Insertion keeps tableaux; where the new cells lie; a tableau from its word. Plain words. -/
namespace Go.Am.Pu
def kr (r : List Int) : Prop := ∀ i, i + 1 < r.length → r.getD i 0 ≤ r.getD (i + 1) 0
theorem kr.le {r : List Int} (h : kr r) : ∀ (d i : Nat), i + d < r.length → r.getD i 0 ≤ r.getD (i + d) 0
  | 0, i, _ => Int.le_refl _
  | d + 1, i, hi => by
    have a := kr.le h d i (by omega)
    have b := h (i + d) (by omega)
    rw [show i + (d + 1) = i + d + 1 by omega]
    omega
theorem kr.mono {r : List Int} (h : kr r) {i j : Nat} (hij : i ≤ j) (hj : j < r.length) : r.getD i 0 ≤ r.getD j 0 := by
  have := h.le (j - i) i (by omega)
  rw [show i + (j - i) = j by omega] at this
  exact this
def fst (r : List Int) (x : Int) : Nat := r.findIdx fun n => decide (x < n)
theorem tC {r : List Int} {x : Int} : fst r x ≤ r.length := List.findIdx_le_length
theorem yT {r : List Int} {x : Int} (h : fst r x < r.length) : x < r.getD (fst r x) 0 := by
  have := wh (p := fun n => decide (x < n)) h
  exact of_decide_eq_true this
theorem tK {r : List Int} {x : Int} {i : Nat} (h : i < fst r x) : r.getD i 0 ≤ x := by
  have h1 : i < r.length := Nat.lt_of_lt_of_le h tC
  have h2 := List.not_of_lt_findIdx h
  rw [ar h1]
  exact Int.not_lt.1 (of_decide_eq_false h2)
theorem gZ (r : List Int) (rs : List (List Int)) (x : Int) : dx (r :: rs) x = if fst r x < r.length then (r.set (fst r x) x :: (dx rs (r.getD (fst r x) 0)).1, (dx rs (r.getD (fst r x) 0)).2 + 1) else ((r ++ [x]) :: rs, 0) := rfl
def Ah (r : List Int) : List (List Int) → Prop
  | [] => True
  | s :: _ => s.length ≤ r.length ∧ ∀ q, q < s.length → r.getD q 0 < s.getD q 0
def SSR : List (List Int) → Prop
  | [] => True
  | r :: rs => 0 < r.length ∧ kr r ∧ Ah r rs ∧ SSR rs
theorem iP {r : List Int} {i : Nat} (x : Int) (h : i < r.length) (q : Nat) : (r.set i x).getD q 0 = if q = i then x else r.getD q 0 := by
  by_cases e : q = i
  · subst e; rw [if_pos rfl, ar (by rw [List.length_set]; exact h), List.getElem_set_self]
  · rw [if_neg e, getD_set_ne (Ne.symm e)]
theorem gA {r : List Int} (x : Int) (q : Nat) : (r ++ [x]).getD q 0 = if q = r.length then x else r.getD q 0 := by
  by_cases h : q < r.length
  · rw [ya h, if_neg (by omega)]
  · rw [xY (by omega)]
    by_cases e : q = r.length
    · rw [if_pos e, e, Nat.sub_self]; rfl
    · rw [if_neg e, cd (by simp; omega), cd (by omega)]
theorem zz {r : List Int} {x : Int} (h : kr r) (hf : fst r x < r.length) : kr (r.set (fst r x) x) := by
  intro i hi
  rw [List.length_set] at hi
  rw [iP x hf, iP x hf]
  have h0 := h i hi
  by_cases e1 : i = fst r x
  · rw [if_pos e1, if_neg (by omega)]
    have := yT hf
    rw [← e1] at this
    omega
  · rw [if_neg e1]
    by_cases e2 : i + 1 = fst r x
    · rw [if_pos e2]; exact tK (by omega)
    · rw [if_neg e2]; exact h0
theorem zu {r : List Int} {x : Int} (h : kr r) (hf : ¬ fst r x < r.length) : kr (r ++ [x]) := by
  intro i hi
  rw [List.length_append, List.length_singleton] at hi
  rw [gA, gA, if_neg (by omega)]
  by_cases e : i + 1 = r.length
  · rw [if_pos e]
    have := @tC r x
    exact tK (by omega)
  · rw [if_neg e]; exact h i (by omega)
theorem yw {r : List Int} {x : Int} {rs : List (List Int)} (h : kr r) (hf : fst r x < r.length) (ho : Ah r rs) : Ah (r.set (fst r x) x) (dx rs (r.getD (fst r x) 0)).1 := by
  have hy := yT hf
  have hle : ∀ q, q < r.length → (r.set (fst r x) x).getD q 0 ≤ r.getD q 0 := fun q hq => by
    rw [iP x hf]
    split
    · next e => rw [e]; omega
    · exact Int.le_refl _
  have hlow : ∀ p, p ≤ fst r x → (r.set (fst r x) x).getD p 0 < r.getD (fst r x) 0 := fun p hp => by
    rw [iP x hf]
    split
    · exact hy
    · have := tK (r := r) (x := x) (i := p) (by omega)
      omega
  cases rs with
  | nil =>
    show ([r.getD (fst r x) 0] : List Int).length ≤ _ ∧ _
    refine ⟨by rw [List.length_set]; simp; omega, fun q hq => ?_⟩
    have e : q = 0 := by simp at hq; exact hq
    subst e
    exact hlow 0 (by omega)
  | cons s rs =>
    obtain ⟨o1, o2⟩ := ho
    have hp : fst s (r.getD (fst r x) 0) ≤ fst r x := by
      refine Nat.le_of_not_lt fun hlt => ?_
      have hs : fst r x < s.length := Nat.lt_of_lt_of_le hlt tC
      have a := tK hlt
      have b := o2 _ hs
      omega
    rw [gZ]
    by_cases c : fst s (r.getD (fst r x) 0) < s.length
    · rw [if_pos c]
      refine ⟨by rw [List.length_set, List.length_set]; exact o1, fun q hq => ?_⟩
      rw [List.length_set] at hq
      rw [iP (r := s) _ c]
      split
      · next e => rw [e]; exact hlow _ hp
      · have a := hle q (by omega)
        have b := o2 q hq
        omega
    · rw [if_neg c]
      have hsl : fst s (r.getD (fst r x) 0) = s.length := Nat.le_antisymm tC (Nat.le_of_not_lt c)
      refine ⟨by rw [List.length_set, List.length_append, List.length_singleton]; omega, fun q hq => ?_⟩
      rw [List.length_append, List.length_singleton] at hq
      rw [gA]
      split
      · next e => rw [e]; exact hlow _ (by omega)
      · have a := hle q (by omega)
        have b := o2 q (by omega)
        omega
theorem wX : ∀ (rs : List (List Int)) (x : Int), SSR rs → SSR (dx rs x).1
  | [], x, _ => ⟨by simp, fun i hi => by simp at hi, trivial, trivial⟩
  | r :: rs, x, h => by
    obtain ⟨h1, h2, h3, h4⟩ := h
    rw [gZ]
    split
    · next c => exact ⟨by rw [List.length_set]; exact h1, zz h2 c, yw h2 c h3, wX rs _ h4⟩
    · next c =>
      refine ⟨by simp, zu h2 c, ?_, h4⟩
      cases rs with
      | nil => trivial
      | cons s rs =>
        obtain ⟨o1, o2⟩ := h3
        refine ⟨by rw [List.length_append]; omega, fun q hq => ?_⟩
        rw [gA, if_neg (by omega)]
        exact o2 q hq
end Go.Am.Pu
end
section
/- Plain tableaux, row by row; a tableau from its word; words inserted. Plain words. -/
namespace Go.Am.Pu
theorem tf : ∀ {rs : List (List Int)}, SSR rs → ∀ r, r < rs.length → 0 < (rs.getD r []).length ∧ kr (rs.getD r [])
  | r :: rs, h, 0, _ => ⟨h.1, h.2.1⟩
  | r :: rs, h, q + 1, hq => tf h.2.2.2 q (by simpa using hq)
theorem tI : ∀ {rs : List (List Int)}, SSR rs → mY rs
  | [], _, i, hi => by simp at hi
  | [r], _, i, hi => by simp at hi
  | r :: s :: rs, h, 0, _ => h.2.2.1
  | r :: s :: rs, h, i + 1, hi => tI h.2.2.2 i (by simpa using hi)
theorem sB : ∀ {rs : List (List Int)}, (∀ r, r < rs.length → 0 < (rs.getD r []).length ∧ kr (rs.getD r [])) → mY rs → SSR rs
  | [], _, _ => trivial
  | r :: rs, h1, h2 => by
    refine ⟨(h1 0 (by simp)).1, (h1 0 (by simp)).2, ?_, sB (fun q hq => h1 (q + 1) (by simpa using hq)) (fun i hi => h2 (i + 1) (by simpa using hi))⟩
    cases rs with
    | nil => trivial
    | cons s rs => exact h2 0 (by simp)
theorem mA (rs : List (List Int)) {i : Nat} (h : i < rs.length) : (outer (([], rs) : Tab)).getD i 0 = (rs.getD i []).length := by
  have := eY [] rs 0 i h
  unfold outer
  rw [this]
  simp
theorem tR {rs : List (List Int)} (h : SSR rs) (hn : ∀ x ∈ rs.flatten, 1 ≤ x ∧ x ≤ 9) (h9 : rs.flatten.length ≤ 9) : a8 (([], rs) : Tab) = true := by
  have hr := fun r hr => tf h r hr
  have hc := tI h
  have hrl : ∀ r, r < rs.length → (rs.getD r []).length ≤ 9 := fun r h1 => by
    have := ql (rs := rs) (r := rs.getD r []) (by rw [ar h1]; exact List.getElem_mem h1)
    omega
  refine lC rfl ?_ (fun r x h1 h2 => hn _ (g6 h1 h2)) (fun r x h1 h2 => (hr r h1).2 x h2) (fun r x h1 h2 => (hc r h1).2 x h2)
  have hs : fw (outer (([], rs) : Tab)) = rs.flatten.length := mC [] rs 0 fun q _ => by simp
  refine kR _ 9 0 (fun x hx => ?_) (fun h0 => ?_) (fun i hi => ?_) (by omega)
  · obtain ⟨i, hi, rfl⟩ := List.getElem_of_mem hx
    have hi' : i < rs.length := by rw [cp] at hi; exact hi
    rw [← ar hi 0, mA rs hi']
    have := (hr i hi').1
    omega
  · have h0' : 0 < rs.length := by rw [cp] at h0; exact h0
    rw [mA rs h0']
    have := hrl 0 h0'
    omega
  · have hi' : i + 1 < rs.length := by rw [cp] at hi; exact hi
    rw [mA rs hi', mA rs (by omega)]
    have := (hc i hi').1
    omega
theorem xj : ∀ (rs : List (List Int)) (x z : Int), z ∈ (dx rs x).1.flatten → z = x ∨ z ∈ rs.flatten
  | [], x, z, h => by simp [dx] at h; exact .inl h
  | r :: rs, x, z, h => by
    rw [gZ] at h
    split at h
    · next c =>
      simp only [List.flatten_cons, List.mem_append] at h ⊢
      rcases h with h | h
      · rcases List.mem_or_eq_of_mem_set h with h | h
        · exact .inr (.inl h)
        · exact .inl h
      · rcases xj rs _ z h with h | h
        · right; left
          rw [h, ar c]
          exact List.getElem_mem c
        · exact .inr (.inr h)
    · simp only [List.flatten_cons, List.mem_append, List.mem_singleton] at h ⊢
      rcases h with (h | h) | h
      · exact .inr (.inl h)
      · exact .inl h
      · exact .inr (.inr h)
theorem ve : ∀ (rs : List (List Int)) (x : Int), (dx rs x).1.flatten.length = rs.flatten.length + 1
  | [], x => by simp [dx]
  | r :: rs, x => by
    rw [gZ]
    split
    · have := ve rs (r.getD (fst r x) 0)
      simp only [List.flatten_cons, List.length_append, List.length_set]
      omega
    · simp only [List.flatten_cons, List.length_append, List.length_singleton]
      omega
theorem w6 : ∀ (rs : List (List Int)) (x : Int), (dx rs x).2 ≤ rs.length ∧ ((dx rs x).1.length = if (dx rs x).2 = rs.length then rs.length + 1 else rs.length) ∧ ∀ i, ((dx rs x).1.getD i []).length = if i = (dx rs x).2 then (rs.getD i []).length + 1 else (rs.getD i []).length
  | [], x => by
    refine ⟨Nat.le_refl _, rfl, fun i => ?_⟩
    cases i with
    | zero => rfl
    | succ i => simp [dx]
  | r :: rs, x => by
    rw [gZ]
    split
    · next c =>
      obtain ⟨a, b, d⟩ := w6 rs (r.getD (fst r x) 0)
      refine ⟨by simp only [List.length_cons]; omega, ?_, fun i => ?_⟩
      · simp only [List.length_cons, b, Nat.add_right_cancel_iff]
        split <;> rfl
      · cases i with
        | zero => simp
        | succ i =>
          have := d i
          simp only [Nat.add_right_cancel_iff]
          exact this
    · refine ⟨Nat.zero_le _, by simp, fun i => ?_⟩
      cases i with
      | zero => simp
      | succ i => simp
end Go.Am.Pu
end
section
/- The recording tableau is standard, and its descents are the word's. Plain words. -/
namespace Go.Am.Pu
def jj (Q : List (List Int)) (a : Nat) (v : Int) : List (List Int) := if a = Q.length then Q ++ [[v]] else Q.set a (Q.getD a [] ++ [v])
theorem xB {Q : List (List Int)} {a : Nat} (v : Int) (ha : a ≤ Q.length) (i : Nat) : (jj Q a v).getD i [] = if i = a then Q.getD a [] ++ [v] else Q.getD i [] := by
  unfold jj
  by_cases e : a = Q.length
  · rw [if_pos e]
    by_cases h : i < Q.length
    · rw [if_neg (by omega)]
      simp only [List.getD_eq_getElem?_getD, List.getElem?_append_left h]
    · by_cases e2 : i = a
      · rw [if_pos e2, e2, e, cd (xs := Q) (Nat.le_refl _)]
        simp
      · rw [if_neg e2, cd (xs := Q) (by omega), cd (by rw [List.length_append, List.length_singleton]; omega)]
  · rw [if_neg e]
    by_cases e2 : i = a
    · subst e2; rw [if_pos rfl, ar (by rw [List.length_set]; omega), List.getElem_set_self]
    · rw [if_neg e2, getD_set_ne (Ne.symm e2)]
theorem xQ {Q : List (List Int)} {a : Nat} (v : Int) : (jj Q a v).length = if a = Q.length then Q.length + 1 else Q.length := by
  unfold jj
  split
  · rw [List.length_append, List.length_singleton]
  · rw [List.length_set]
theorem wI {Q : List (List Int)} {a : Nat} (v : Int) (ha : a ≤ Q.length) : (jj Q a v).flatten.length = Q.flatten.length + 1 := by
  unfold jj
  split
  · simp
  · next e =>
    have : ∀ (Q : List (List Int)) (a : Nat), a < Q.length → (Q.set a (Q.getD a [] ++ [v])).flatten.length = Q.flatten.length + 1 := by
      intro Q
      induction Q with
      | nil => intro a h; simp at h
      | cons r rs ih =>
        intro a h
        cases a with
        | zero => simp; omega
        | succ a =>
          have := ih a (by simpa using h)
          simp only [List.set_cons_succ, List.getD_cons_succ, List.flatten_cons, List.length_append, this]
          omega
    exact this Q a (by omega)
theorem zS {Q P : List (List Int)} {a k : Nat} (hp : a8 (([], Q) : Tab) = true) (hs : dI (([], Q) : Tab) = true) (hk : Q.flatten.length = k) (h9 : k + 1 ≤ 9) (hP : SSR P) (ha : a ≤ Q.length) (hPl : P.length = if a = Q.length then Q.length + 1 else Q.length)
    (hl : ∀ i, (P.getD i []).length = if i = a then (Q.getD i []).length + 1 else (Q.getD i []).length) :
    a8 (([], jj Q a ((k + 1 : Nat) : Int)) : Tab) = true ∧ dI (([], jj Q a ((k + 1 : Nat) : Int)) : Tab) = true ∧ (jj Q a ((k + 1 : Nat) : Int)).flatten.length = k + 1 ∧ cL P (jj Q a ((k + 1 : Nat) : Int)) ∧
      rowOf ([], jj Q a ((k + 1 : Nat) : Int)) ((k + 1 : Nat) : Int) = a ∧ ∀ v, 1 ≤ v → v ≤ (k : Int) → rowOf ([], jj Q a ((k + 1 : Nat) : Int)) v = rowOf ([], Q) v := by
  have hget := xB ((k + 1 : Nat) : Int) ha
  have hlen := @xQ Q a ((k + 1 : Nat) : Int)
  have hfl := wI ((k + 1 : Nat) : Int) ha
  generalize hN : jj Q a ((k + 1 : Nat) : Int) = N at *
  have hNl : ∀ i, (N.getD i []).length = if i = a then (Q.getD i []).length + 1 else (Q.getD i []).length := fun i => by
    rw [hget]
    split
    · next e => rw [e, List.length_append, List.length_singleton]
    · rfl
  have hsame : cL P N := ⟨by rw [hPl, hlen], fun i => by rw [hl, hNl]⟩
  have hcel : ∀ r x, cel N r x = if r = a ∧ x = (Q.getD a []).length then ((k + 1 : Nat) : Int) else cel Q r x := fun r x => by
    unfold cel
    rw [hget]
    by_cases e : r = a
    · subst e
      rw [if_pos rfl, gA]
      by_cases e2 : x = (Q.getD r []).length
      · rw [if_pos e2, if_pos ⟨rfl, e2⟩]
      · rw [if_neg e2, if_neg (fun h => e2 h.2)]
    · rw [if_neg e, if_neg (fun h => e h.1)]
  have hb := (lr hp hs).2
  simp only at hb
  rw [hk] at hb
  have hQ : ∀ {r x : Nat}, x < (Q.getD r []).length → 1 ≤ cel Q r x ∧ cel Q r x ≤ (k : Int) := fun {r x} hx => by
    have hr : r < Q.length := Nat.lt_of_not_le fun hle => by rw [cd hle] at hx; simp at hx
    exact hb _ (g6 hr hx)
  obtain ⟨q1, q2⟩ := fQ hp
  have q3 := gG hp
  simp only at q2 q3
  have pc := tI hP
  have pr := fun r hr => tf hP r hr
  have hqlen : ∀ i, (Q.getD (i + 1) []).length ≤ (Q.getD i []).length := fun i => by
    by_cases h : i + 1 < Q.length
    · exact (q3 i h).1
    · rw [cd (by omega)]; exact Nat.zero_le _
  have hssr : SSR N := by
    refine sB (fun r hr => ⟨?_, fun x hx => ?_⟩) (fun i hi => ?_)
    · rw [← hsame.2]; exact (pr r (by rw [hsame.1]; exact hr)).1
    · have e1 := hcel r x
      have e2 := hcel r (x + 1)
      unfold cel at e1 e2
      rw [e1, e2]
      rw [hNl] at hx
      have hxQ : x < (Q.getD r []).length := by
        split at hx <;> omega
      rw [if_neg (fun h => by rw [h.1] at hxQ; omega)]
      have hv := hQ hxQ
      unfold cel at hv
      by_cases e : r = a ∧ x + 1 = (Q.getD a []).length
      · rw [if_pos e]; omega
      · rw [if_neg e]
        have hx1 : x + 1 < (Q.getD r []).length := by
          split at hx
          · next e3 =>
            have : ¬ x + 1 = (Q.getD a []).length := fun h => e ⟨e3, h⟩
            rw [← e3] at this
            omega
          · exact hx
        have hr : r < Q.length := Nat.lt_of_not_le fun hle => by rw [cd hle] at hx1; simp at hx1
        exact q2 r x hr hx1
    · obtain ⟨c1, c2⟩ := pc i (by rw [hsame.1]; exact hi)
      rw [hsame.2, hsame.2] at c1
      refine ⟨c1, fun x hx => ?_⟩
      have e1 := hcel i x
      have e2 := hcel (i + 1) x
      unfold cel at e1 e2
      rw [e1, e2]
      rw [hNl] at hx
      have hxi : x < (N.getD i []).length := by
        have := hNl (i + 1)
        omega
      rw [hNl] at hxi
      by_cases e : i + 1 = a ∧ x = (Q.getD a []).length
      · rw [if_pos e, if_neg (fun h => by omega)]
        have hxQ : x < (Q.getD i []).length := by rw [if_neg (by omega)] at hxi; exact hxi
        have hv := hQ hxQ
        unfold cel at hv
        omega
      · rw [if_neg e]
        have hx1 : x < (Q.getD (i + 1) []).length := by
          split at hx
          · next e3 =>
            have : ¬ x = (Q.getD a []).length := fun h => e ⟨e3, h⟩
            rw [← e3] at this
            omega
          · exact hx
        have hxQ : x < (Q.getD i []).length := Nat.lt_of_lt_of_le hx1 (hqlen i)
        rw [if_neg (fun h => by rw [h.1] at hxQ; omega)]
        have hr : i + 1 < Q.length := Nat.lt_of_not_le fun hle => by rw [cd hle] at hx1; simp at hx1
        exact (q3 i hr).2 x hx1
  have hflk : N.flatten.length = k + 1 := by omega
  have hmem : ∀ z ∈ N.flatten, 1 ≤ z ∧ z ≤ 9 := fun z hz => by
    obtain ⟨r, x, hr, hx, e⟩ := j6 hz
    rw [← e, hcel]
    split
    · omega
    · next hc =>
      rw [hNl] at hx
      have hxQ : x < (Q.getD r []).length := by
        split at hx
        · next e3 =>
          have : ¬ x = (Q.getD a []).length := fun h => hc ⟨e3, h⟩
          rw [← e3] at this
          omega
        · exact hx
      have := hQ hxQ
      omega
  have hpl := tR hssr hmem (by omega)
  have haN : a < N.length := by
    rw [hlen]
    split <;> omega
  have hxN : (Q.getD a []).length < (N.getD a []).length := by rw [hNl, if_pos rfl]; omega
  have hnew : cel N a (Q.getD a []).length = ((k + 1 : Nat) : Int) := by rw [hcel, if_pos ⟨rfl, rfl⟩]
  have hold : ∀ {r x : Nat}, x < (Q.getD r []).length → r < N.length ∧ x < (N.getD r []).length ∧ cel N r x = cel Q r x := fun {r x} hx => by
    have hx' : x < (N.getD r []).length := by
      rw [hNl]
      split <;> omega
    refine ⟨Nat.lt_of_not_le fun hle => by rw [cd hle] at hx'; simp at hx', hx', ?_⟩
    rw [hcel, if_neg (fun h => by rw [h.1] at hx; omega)]
  have ho : jv Q.flatten = true := by
    have := hs
    simp only [dI, Bool.and_eq_true] at this
    exact this.2
  have hst : dI (([], N) : Tab) = true := by
    have hp' := hpl
    simp only [a8, Bool.and_eq_true] at hp'
    simp only [dI, Bool.and_eq_true]
    refine ⟨hp'.1, iZ.2 fun v hv => ?_⟩
    rw [hflk, fu] at hv
    by_cases e : v = ((k + 1 : Nat) : Int)
    · rw [e, ← hnew]; exact g6 haN hxN
    · obtain ⟨r, x, hr, hx, e2⟩ := j6 (iZ.1 ho v (fu.2 (by omega)))
      obtain ⟨d1, d2, d3⟩ := hold hx
      rw [← e2, ← d3]
      exact g6 d1 d2
  refine ⟨hpl, hst, hflk, hsame, jB hpl hst haN hxN hnew, fun v v1 v2 => ?_⟩
  obtain ⟨r, x, hr, hx, e2⟩ := j6 (iZ.1 ho v (fu.2 (by omega)))
  obtain ⟨d1, d2, d3⟩ := hold hx
  rw [jB hpl hst d1 d2 (by rw [d3]; exact e2), jB hp hs hr hx e2]
structure Ins (P Q : List (List Int)) (k : Nat) : Prop where
  ssr : SSR P
  num : ∀ x ∈ P.flatten, 1 ≤ x ∧ x ≤ 9
  fl : P.flatten.length = k
  pl : a8 (([], Q) : Tab) = true
  st : dI (([], Q) : Tab) = true
  qf : Q.flatten.length = k
  same : cL P Q
theorem Ins.step {P Q : List (List Int)} {k : Nat} {x : Int} (h : Ins P Q k) (hx : 1 ≤ x ∧ x ≤ 9) (h9 : k + 1 ≤ 9) :
    Ins (dx P x).1 (jj Q (dx P x).2 ((k + 1 : Nat) : Int)) (k + 1) ∧ rowOf ([], jj Q (dx P x).2 ((k + 1 : Nat) : Int)) ((k + 1 : Nat) : Int) = ((dx P x).2 : Nat) ∧ ∀ v, 1 ≤ v → v ≤ (k : Int) → rowOf ([], jj Q (dx P x).2 ((k + 1 : Nat) : Int)) v = rowOf ([], Q) v := by
  obtain ⟨a, b, c⟩ := w6 P x
  have hs := wX P x h.ssr
  obtain ⟨d1, d2, d3, d4, d5, d6⟩ := zS (a := (dx P x).2) h.pl h.st h.qf h9 hs (by rw [← h.same.1]; exact a) (by rw [← h.same.1]; exact b) (fun i => by rw [← h.same.2]; exact c i)
  refine ⟨⟨hs, fun z hz => ?_, by rw [ve, h.fl], d1, d2, d3, d4⟩, d5, d6⟩
  rcases xj P x z hz with e | e
  · rw [e]; exact hx
  · exact h.num z e
theorem Ins.nil : Ins [] [] 0 := ⟨trivial, fun x hx => by simp at hx, rfl, rfl, rfl, rfl, ⟨rfl, fun _ => rfl⟩⟩
end Go.Am.Pu
end
section
/- Words, and what inserting makes of them. Plain words. -/
namespace Go.Am.Pu
end Go.Am.Pu
end
section
/- Standardizing a tableau: the cells numbered by number and column. Plain words. -/
namespace Go.Am.Pu
def dK (Q : List (List Int)) (v : Int) (c r : Nat) (s : Nat × List (List Int)) : Nat × List (List Int) :=
  if c < (Q.getD r []).length ∧ cel Q r c = v then (s.1 + 1, jV s.2 r c ((s.1 + 1 : Nat) : Int)) else s
def jh (Q : List (List Int)) (v : Int) (c : Nat) : Nat → Nat → Nat × List (List Int) → Nat × List (List Int)
  | 0, _, s => s
  | m + 1, r, s => jh Q v c m (r + 1) (dK Q v c r s)
def ly (Q : List (List Int)) (v : Int) : Nat → Nat → Nat × List (List Int) → Nat × List (List Int)
  | 0, _, s => s
  | m + 1, c, s => ly Q v m (c + 1) (jh Q v c Q.length 0 s)
def mT (Q : List (List Int)) : Nat → Int → Nat × List (List Int) → Nat × List (List Int)
  | 0, _, s => s
  | m + 1, v, s => mT Q m (v + 1) (ly Q v 9 0 s)
def jf (Q : List (List Int)) : List (List Int) := (mT Q 9 1 (0, Q)).2
structure Num (Q : List (List Int)) (D : Nat → Nat → Prop) (s : Nat × List (List Int)) (F : List Int) : Prop where
  same : cL s.2 Q
  len : F.length = s.1
  val : ∀ r x, r < Q.length → x < (Q.getD r []).length → D r x → ∃ k, k < s.1 ∧ cel s.2 r x = ((k + 1 : Nat) : Int) ∧ F.getD k 0 = cel Q r x
  inj : ∀ r x r' x', r < Q.length → x < (Q.getD r []).length → D r x → r' < Q.length → x' < (Q.getD r' []).length → D r' x' → cel s.2 r x = cel s.2 r' x' → r = r' ∧ x = x'
  all : ∀ k, k < s.1 → ∃ r x, r < Q.length ∧ x < (Q.getD r []).length ∧ D r x ∧ cel s.2 r x = ((k + 1 : Nat) : Int)
  lex : ∀ r x r' x', r < Q.length → x < (Q.getD r []).length → D r x → r' < Q.length → x' < (Q.getD r' []).length → D r' x' → cel s.2 r x < cel s.2 r' x' → cel Q r x < cel Q r' x' ∨ (cel Q r x = cel Q r' x' ∧ x ≤ x')
theorem Num.congr {Q : List (List Int)} {D D' : Nat → Nat → Prop} {s : Nat × List (List Int)} {F : List Int} (h : Num Q D s F) (e : ∀ r x, r < Q.length → x < (Q.getD r []).length → (D r x ↔ D' r x)) : Num Q D' s F :=
  ⟨h.same, h.len, fun r x a b d => h.val r x a b ((e r x a b).2 d), fun r x r' x' a b d a' b' d' => h.inj r x r' x' a b ((e r x a b).2 d) a' b' ((e r' x' a' b').2 d'),
    fun k hk => by obtain ⟨r, x, a, b, d, q⟩ := h.all k hk; exact ⟨r, x, a, b, (e r x a b).1 d, q⟩, fun r x r' x' a b d a' b' d' => h.lex r x r' x' a b ((e r x a b).2 d) a' b' ((e r' x' a' b').2 d')⟩
def Dn (Q : List (List Int)) (v : Int) (c r : Nat) (a i : Nat) : Prop := cel Q a i < v ∨ (cel Q a i = v ∧ (i < c ∨ (i = c ∧ a < r)))
theorem Num.step {Q : List (List Int)} {v : Int} {c r : Nat} {s : Nat × List (List Int)} {F : List Int} (h : Num Q (Dn Q v c r) s F) (hr : r < Q.length) : ∃ F', Num Q (Dn Q v c (r + 1)) (dK Q v c r s) F' := by
  unfold dK
  split
  · next hc =>
    obtain ⟨hc, hv⟩ := hc
    have hnd : ¬ Dn Q v c r r c := by unfold Dn; omega
    have hsr : r < s.2.length := by rw [h.same.1]; exact hr
    have hsc : c < (s.2.getD r []).length := by rw [h.same.2]; exact hc
    have new : ∀ a i, Dn Q v c (r + 1) a i → (a = r ∧ i = c) ∨ (¬ (a = r ∧ i = c) ∧ Dn Q v c r a i) := fun a i d => by
      by_cases e : a = r ∧ i = c
      · exact .inl e
      · refine .inr ⟨e, ?_⟩
        unfold Dn at d ⊢
        omega
    have at1 := j5 (g := s.2) (r := r) (c := c) ((s.1 + 1 : Nat) : Int) hsr hsc
    have ne1 : ∀ a i, ¬ (a = r ∧ i = c) → cel (jV s.2 r c ((s.1 + 1 : Nat) : Int)) a i = cel s.2 a i := fun a i e => iK _ e
    refine ⟨F ++ [v], ⟨⟨by rw [hU]; exact h.same.1, fun i => by rw [dE]; exact h.same.2 i⟩, by rw [List.length_append, List.length_singleton, h.len], ?_, ?_, ?_, ?_⟩⟩
    · intro a i ha hi d
      rcases new a i d with ⟨rfl, rfl⟩ | ⟨e, d'⟩
      · refine ⟨s.1, by simp only; omega, at1, ?_⟩
        rw [hv, ← h.len, List.getD_eq_getElem?_getD]
        simp
      · obtain ⟨k, k1, k2, k3⟩ := h.val a i ha hi d'
        refine ⟨k, by simp only; omega, by rw [ne1 a i e]; exact k2, ?_⟩
        rw [← k3, List.getD_eq_getElem?_getD, List.getD_eq_getElem?_getD, List.getElem?_append_left (by rw [h.len]; exact k1)]
    · intro a i b j ha hi d hb hj d' e
      rcases new a i d with ⟨rfl, rfl⟩ | ⟨ea, da⟩
      · rcases new b j d' with ⟨rfl, rfl⟩ | ⟨eb, db⟩
        · exact ⟨rfl, rfl⟩
        · obtain ⟨k, k1, k2, _⟩ := h.val b j hb hj db
          simp only at e
          rw [at1, ne1 b j eb, k2] at e
          omega
      · rcases new b j d' with ⟨rfl, rfl⟩ | ⟨eb, db⟩
        · obtain ⟨k, k1, k2, _⟩ := h.val a i ha hi da
          simp only at e
          rw [at1, ne1 a i ea, k2] at e
          omega
        · simp only at e
          rw [ne1 a i ea, ne1 b j eb] at e
          exact h.inj a i b j ha hi da hb hj db e
    · intro k hk
      simp only at hk
      by_cases ek : k = s.1
      · subst ek
        exact ⟨r, c, hr, hc, by unfold Dn; omega, at1⟩
      · obtain ⟨a, i, ha, hi, d, e⟩ := h.all k (by omega)
        have hne : ¬ (a = r ∧ i = c) := fun q => by rw [q.1, q.2] at d; exact hnd d
        exact ⟨a, i, ha, hi, by unfold Dn at d ⊢; omega, by simp only; rw [ne1 a i hne]; exact e⟩
    · intro a i b j ha hi d hb hj d' e
      simp only at e
      rcases new a i d with ⟨rfl, rfl⟩ | ⟨ea, da⟩
      · rcases new b j d' with ⟨rfl, rfl⟩ | ⟨eb, db⟩
        · omega
        · obtain ⟨k, k1, k2, _⟩ := h.val b j hb hj db
          rw [at1, ne1 b j eb, k2] at e
          omega
      · rcases new b j d' with ⟨rfl, rfl⟩ | ⟨eb, db⟩
        · unfold Dn at da
          omega
        · rw [ne1 a i ea, ne1 b j eb] at e
          exact h.lex a i b j ha hi da hb hj db e
  · next hc =>
    refine ⟨F, h.congr fun a i ha hi => ?_⟩
    unfold Dn
    constructor
    · intro d; omega
    · intro d
      by_cases e : a = r ∧ i = c
      · obtain ⟨rfl, rfl⟩ := e
        have : cel Q a i ≠ v := fun q => hc ⟨hi, q⟩
        omega
      · omega
theorem Num.jh {Q : List (List Int)} {v : Int} {c : Nat} : ∀ (m r : Nat) {s : Nat × List (List Int)} {F : List Int}, r + m = Q.length → Num Q (Dn Q v c r) s F → ∃ F', Num Q (Dn Q v (c + 1) 0) (Pu.jh Q v c m r s) F'
  | 0, r, s, F, e, h => ⟨F, h.congr fun a i ha hi => by unfold Dn; omega⟩
  | m + 1, r, s, F, e, h => by
    obtain ⟨F', h'⟩ := h.step (by omega)
    exact Num.jh m (r + 1) (by omega) h'
theorem Num.ly {Q : List (List Int)} {v : Int} (h9 : cK 9 9 Q) : ∀ (m c : Nat) {s : Nat × List (List Int)} {F : List Int}, c + m = 9 → Num Q (Dn Q v c 0) s F → ∃ F', Num Q (Dn Q (v + 1) 0 0) (Pu.ly Q v m c s) F'
  | 0, c, s, F, e, h => ⟨F, h.congr fun a i ha hi => by have := h9.at a; unfold Dn; omega⟩
  | m + 1, c, s, F, e, h => by
    obtain ⟨F', h'⟩ := Num.jh Q.length 0 (by omega) h
    exact Num.ly h9 m (c + 1) (by omega) h'
theorem Num.mT {Q : List (List Int)} (h9 : cK 9 9 Q) : ∀ (m : Nat) (v : Int) {s : Nat × List (List Int)} {F : List Int}, Num Q (Dn Q v 0 0) s F → ∃ F', Num Q (Dn Q (v + m) 0 0) (Pu.mT Q m v s) F'
  | 0, v, s, F, h => ⟨F, by rw [show v + ((0 : Nat) : Int) = v by omega]; exact h⟩
  | m + 1, v, s, F, h => by
    obtain ⟨F', h'⟩ := Num.ly h9 9 0 (by omega) h
    obtain ⟨F2, h2⟩ := Num.mT h9 m (v + 1) h'
    refine ⟨F2, ?_⟩
    rw [show v + ((m + 1 : Nat) : Int) = v + 1 + m by omega]
    exact h2
structure my (Q X : List (List Int)) (f : Int → Int) : Prop where
  same : cL X Q
  val : ∀ r x, r < X.length → x < (X.getD r []).length → cel Q r x = f (cel X r x)
  lex : ∀ r x r' x', r < X.length → x < (X.getD r []).length → r' < X.length → x' < (X.getD r' []).length → cel X r x < cel X r' x' → cel Q r x < cel Q r' x' ∨ (cel Q r x = cel Q r' x' ∧ x < x')
theorem vp {X : List (List Int)} (h : ∀ r x r' x', r < X.length → x < (X.getD r []).length → r' < X.length → x' < (X.getD r' []).length → cel X r x = cel X r' x' → r = r' ∧ x = x') : X.flatten.Nodup := by
  rw [List.Nodup, List.pairwise_flatten]
  constructor
  · intro l hl
    obtain ⟨r, hr, rfl⟩ := List.getElem_of_mem hl
    rw [List.pairwise_iff_getElem]
    intro i j hi hj hij e
    have e1 := ar hr ([] : List Int)
    have := (h r i r j hr (by rw [e1]; exact hi) hr (by rw [e1]; exact hj) (by unfold cel; rw [e1, ar hi, ar hj]; exact e)).2
    omega
  · rw [List.pairwise_iff_getElem]
    intro r r' hr hr' hrr x hx y hy e
    obtain ⟨i, hi, rfl⟩ := List.getElem_of_mem hx
    obtain ⟨j, hj, rfl⟩ := List.getElem_of_mem hy
    have e1 := ar hr ([] : List Int)
    have e2 := ar hr' ([] : List Int)
    have := (h r i r' j hr (by rw [e1]; exact hi) hr' (by rw [e2]; exact hj) (by unfold cel; rw [e1, e2, ar hi, ar hj]; exact e)).1
    omega
theorem vK {t : Tab} (h : a8 t = true) {x : Nat} : ∀ (d r : Nat), r + d + 1 < t.2.length → x < (t.2.getD (r + d + 1) []).length → cel t.2 r x < cel t.2 (r + d + 1) x
  | 0, r, hr, hx => (gG h r hr).2 x hx
  | d + 1, r, hr, hx => by
    have h1 := (gG h (r + d + 1) hr)
    have h2 := vK h d r (by omega) (Nat.lt_of_lt_of_le hx h1.1)
    exact Int.lt_trans h2 (h1.2 x hx)
theorem zx {t : Tab} (h : a8 t = true) {a b x : Nat} (ha : a < t.2.length) (hxa : x < (t.2.getD a []).length) (hb : b < t.2.length) (hxb : x < (t.2.getD b []).length) (e : cel t.2 a x = cel t.2 b x) : a = b := by
  rcases Nat.lt_trichotomy a b with hl | hl | hl
  · obtain ⟨d, rfl⟩ : ∃ d, b = a + d + 1 := ⟨b - a - 1, by omega⟩
    have := vK h (x := x) d a hb hxb
    omega
  · exact hl
  · obtain ⟨d, rfl⟩ : ∃ d, a = b + d + 1 := ⟨a - b - 1, by omega⟩
    have := vK h (x := x) d b ha hxa
    omega
theorem zk {Q : List (List Int)} (h : a8 ([], Q) = true) : ∃ F, Num Q (fun _ _ => True) (mT Q 9 1 (0, Q)) F := by
  obtain ⟨c1, _⟩ := fQ h
  have h0 : Num Q (Dn Q 1 0 0) (0, Q) [] := by
    have no : ∀ r x, r < Q.length → x < (Q.getD r []).length → ¬ Dn Q 1 0 0 r x := fun r x a b d => by
      have := (c1 r x a b).1
      simp only at this
      unfold Dn at d
      omega
    refine ⟨⟨rfl, fun _ => rfl⟩, rfl, fun r x a b d => absurd d (no r x a b), fun r x _ _ a b d => absurd d (no r x a b), fun k hk => absurd hk (Nat.not_lt_zero k), fun r x _ _ a b d => absurd d (no r x a b)⟩
  obtain ⟨F, hF⟩ := Num.mT (show cK 9 9 Q from dw h) 9 1 h0
  refine ⟨F, hF.congr fun r x a b => ⟨fun _ => trivial, fun _ => ?_⟩⟩
  have : cel Q r x ≤ 9 := (c1 r x a b).2
  have e : (1 : Int) + ((9 : Nat) : Int) = 10 := by omega
  rw [e]
  exact .inl (by omega)
theorem wJ {Q : List (List Int)} {s : Nat × List (List Int)} {F : List Int} (h : Num Q (fun _ _ => True) s F) : s.2.flatten.Nodup ∧ s.2.flatten.length = s.1 ∧ (∀ v, v ∈ s.2.flatten ↔ v ∈ lR s.1) := by
  have cell : ∀ {r x}, r < s.2.length → x < (s.2.getD r []).length → r < Q.length ∧ x < (Q.getD r []).length := fun {r x} a b => ⟨by rw [← h.same.1]; exact a, by rw [← h.same.2]; exact b⟩
  have nd : s.2.flatten.Nodup := vp fun r x r' x' a b c d e => by
    obtain ⟨a1, b1⟩ := cell a b
    obtain ⟨c1, d1⟩ := cell c d
    exact h.inj r x r' x' a1 b1 trivial c1 d1 trivial e
  have mem : ∀ v, v ∈ s.2.flatten ↔ v ∈ lR s.1 := fun v => by
    constructor
    · intro hv
      obtain ⟨r, x, a, b, rfl⟩ := j6 hv
      obtain ⟨a1, b1⟩ := cell a b
      obtain ⟨k, k1, k2, _⟩ := h.val r x a1 b1 trivial
      rw [k2, fu]
      omega
    · intro hv
      rw [fu] at hv
      obtain ⟨r, x, a, b, _, e⟩ := h.all (v - 1).toNat (by omega)
      have e' : v = cel s.2 r x := by rw [e]; omega
      rw [e']
      exact g6 (by rw [h.same.1]; exact a) (by rw [h.same.2]; exact b)
  refine ⟨nd, ?_, mem⟩
  have := ((List.perm_ext_iff_of_nodup nd (lh s.1)).2 mem).length_eq
  rw [this]
  simp [lR]
theorem mE : ∀ {A B : List (List Int)}, cL A B → A.flatten.length = B.flatten.length
  | [], [], _ => rfl
  | [], b :: B, h => by have := h.1; simp at this
  | a :: A, [], h => by have := h.1; simp at this
  | a :: A, b :: B, h => by
    have h0 := h.2 0
    have hs : cL A B := ⟨by have := h.1; simpa using this, fun i => by have := h.2 (i + 1); simpa using this⟩
    have := mE hs
    simp at h0
    simp [h0, this]
theorem yW {Q : List (List Int)} (h : a8 ([], Q) = true) : ∃ F : List Int, a8 ([], jf Q) = true ∧ dI ([], jf Q) = true ∧ my Q (jf Q) (fun v => F.getD (v - 1).toNat 0) ∧ F.Perm Q.flatten ∧ F.Pairwise (· ≤ ·) ∧ F.length = Q.flatten.length := by
  obtain ⟨F, hF⟩ := zk h
  refine ⟨F, ?_⟩
  unfold jf
  generalize mT Q 9 1 (0, Q) = s at hF
  obtain ⟨n1, n2, n3⟩ := wJ hF
  have hfl := mE hF.same
  have h9 : Q.flatten.length ≤ 9 := fN h
  obtain ⟨c1, c2⟩ := fQ h
  have c3 := gG h
  simp only at c1 c2 c3
  have cell : ∀ {r x}, r < s.2.length → x < (s.2.getD r []).length → r < Q.length ∧ x < (Q.getD r []).length := fun {r x} a b => ⟨by rw [← hF.same.1]; exact a, by rw [← hF.same.2]; exact b⟩
  have val : ∀ {r x}, r < s.2.length → x < (s.2.getD r []).length → ∃ k, k < s.1 ∧ cel s.2 r x = ((k + 1 : Nat) : Int) ∧ F.getD k 0 = cel Q r x := fun {r x} a b => hF.val r x (cell a b).1 (cell a b).2 trivial
  have inj : ∀ {r x r' x'}, r < s.2.length → x < (s.2.getD r []).length → r' < s.2.length → x' < (s.2.getD r' []).length → cel s.2 r x = cel s.2 r' x' → r = r' ∧ x = x' := fun {r x r' x'} a b c d e => hF.inj r x r' x' (cell a b).1 (cell a b).2 trivial (cell c d).1 (cell c d).2 trivial e
  have lex : ∀ {r x r' x'}, r < s.2.length → x < (s.2.getD r []).length → r' < s.2.length → x' < (s.2.getD r' []).length → cel s.2 r x < cel s.2 r' x' → cel Q r x < cel Q r' x' ∨ (cel Q r x = cel Q r' x' ∧ x ≤ x') := fun {r x r' x'} a b c d e => hF.lex r x r' x' (cell a b).1 (cell a b).2 trivial (cell c d).1 (cell c d).2 trivial e
  have hout : outer (([], s.2) : Tab) = outer (([], Q) : Tab) := oQ rfl rfl hF.same.1 hF.same.2
  have hpl : a8 (([], s.2) : Tab) = true := by
    refine lC rfl (by rw [hout]; exact fU h) (fun r x a b => ?_) (fun r x a b => ?_) (fun r x a b => ?_)
    · obtain ⟨k, k1, k2, _⟩ := val a b
      simp only
      rw [k2]
      omega
    · simp only at a b ⊢
      refine Int.not_lt.1 fun hlt => ?_
      have hx : x < (s.2.getD r []).length := by omega
      have h1 := c2 r x (cell a b).1 (by have := (cell a b).2; omega)
      rcases lex a b a hx hlt with q | q
      · omega
      · omega
    · simp only at a b ⊢
      have hra : r < s.2.length := by omega
      have h1 := c3 r (by rw [← hF.same.1]; exact a)
      have hbr : x < (s.2.getD r []).length := by
        have := (cell a b).2
        rw [hF.same.2]
        omega
      have h2 := h1.2 x (cell a b).2
      refine Int.not_le.1 fun hle => ?_
      by_cases e : cel s.2 (r + 1) x = cel s.2 r x
      · have := (inj a b hra hbr e).1
        omega
      · have hl := lex a b hra hbr (by omega)
        unfold cel at hl
        omega
  have hst : dI (([], s.2) : Tab) = true := by
    have h' := hpl
    simp only [a8, Bool.and_eq_true] at h'
    simp only [dI, Bool.and_eq_true]
    refine ⟨h'.1, ?_⟩
    rw [iZ]
    intro v hv
    rw [n2] at hv
    exact (n3 v).2 hv
  have hperm : s.2.flatten.Perm (lR s.1) := (List.perm_ext_iff_of_nodup n1 (lh s.1)).2 n3
  have hmap : ∀ (A B : List (List Int)) (f : Int → Int), cL A B → (∀ r x, r < A.length → x < (A.getD r []).length → cel B r x = f (cel A r x)) → B.flatten = A.flatten.map f := by
    intro A
    induction A with
    | nil => intro B f hs _; cases B with
      | nil => rfl
      | cons b B => have := hs.1; simp at this
    | cons a A ih =>
      intro B f hs hv
      cases B with
      | nil => have := hs.1; simp at this
      | cons b B =>
        have h0 := hs.2 0
        simp only [List.getD_cons_zero] at h0
        have hs' : cL A B := ⟨by have := hs.1; simpa using this, fun i => by have := hs.2 (i + 1); simpa using this⟩
        have := ih B f hs' fun r x hr hx => by
          have := hv (r + 1) x (by simpa using hr) (by simpa using hx)
          unfold cel at this ⊢
          simpa using this
        have eb : b = a.map f := by
          refine List.ext_getElem (by simp [h0]) fun x h1 h2 => ?_
          have hxa : x < a.length := by omega
          have := hv 0 x (by simp) (by simpa using hxa)
          unfold cel at this
          simp only [List.getD_cons_zero] at this
          rw [ar h1, ar hxa] at this
          rw [this, List.getElem_map]
        rw [List.flatten_cons, List.flatten_cons, List.map_append, this, eb]
  have hvf : ∀ r x, r < s.2.length → x < (s.2.getD r []).length → cel Q r x = F.getD (cel s.2 r x - 1).toNat 0 := fun r x a b => by
    obtain ⟨k, k1, k2, k3⟩ := val a b
    rw [k2, ← k3]
    congr 1
    omega
  have hQf := hmap s.2 Q (fun v => F.getD (v - 1).toNat 0) hF.same hvf
  have hF2 : (lR s.1).map (fun v => F.getD (v - 1).toNat 0) = F := by
    refine List.ext_getElem (by simp [lR, hF.len]) fun i h1 h2 => ?_
    simp only [lR, List.getElem_map, List.getElem_range]
    rw [← ar h2 0]
    congr 1
    omega
  have hP : F.Perm Q.flatten := by
    have := (hperm.map (fun v => F.getD (v - 1).toNat 0)).symm
    rw [hF2, ← hQf] at this
    exact this
  refine ⟨hpl, hst, ⟨hF.same, hvf, fun r x r' x' a b c d e => ?_⟩, hP, ?_, by rw [hF.len]; omega⟩
  · rcases lex a b c d e with q | q
    · exact .inl q
    · refine .inr ⟨q.1, Nat.lt_of_le_of_ne q.2 fun hx => ?_⟩
      subst hx
      have := zx h (cell a b).1 (cell a b).2 (cell c d).1 (cell c d).2 q.1
      subst this
      omega
  · rw [List.pairwise_iff_getElem]
    intro i j hi hj hij
    obtain ⟨r, x, a, b, _, e⟩ := hF.all i (by rw [← hF.len]; exact hi)
    obtain ⟨r', x', a', b', _, e'⟩ := hF.all j (by rw [← hF.len]; exact hj)
    have q1 := hvf r x (by rw [hF.same.1]; exact a) (by rw [hF.same.2]; exact b)
    have q2 := hvf r' x' (by rw [hF.same.1]; exact a') (by rw [hF.same.2]; exact b')
    rw [e, show (((i + 1 : Nat) : Int) - 1).toNat = i by omega, ar hi] at q1
    rw [e', show (((j + 1 : Nat) : Int) - 1).toNat = j by omega, ar hj] at q2
    rw [← q1, ← q2]
    have := hF.lex r x r' x' a b trivial a' b' trivial (by rw [e, e']; omega)
    omega
end Go.Am.Pu
end
section
/- A pair of tableaux unrolled, the second one semistandard; sorting; the matrix of a pair. Plain words. -/
namespace Go.Am.Pu
def pN (R : Int → Prop) (rs : List (List Int)) : Prop := ∀ r ∈ rs, ∀ v ∈ r, R v
theorem pN.at {R : Int → Prop} {rs : List (List Int)} (h : pN R rs) {r x : Nat} (hr : r < rs.length) (hx : x < (rs.getD r []).length) : R ((rs.getD r []).getD x 0) := by
  rw [ar hx]
  exact h (rs.getD r []) (by rw [ar hr]; exact List.getElem_mem hr) _ (List.getElem_mem hx)
theorem pN.set {R : Int → Prop} {rs : List (List Int)} (h : pN R rs) (i : Nat) {r : List Int} (hr : ∀ v ∈ r, R v) : pN R (rs.set i r) := fun y hy => by
  rcases List.mem_or_eq_of_mem_set hy with h' | rfl
  · exact h y h'
  · exact hr
theorem pN.row {R : Int → Prop} {rs : List (List Int)} (h : pN R rs) (i : Nat) : ∀ v ∈ rs.getD i [], R v := by
  by_cases hi : i < rs.length
  · exact h _ (by rw [ar hi]; exact List.getElem_mem hi)
  · rw [cd (by omega)]; simp
theorem oL {R : Int → Prop} : ∀ (r : Nat) (rs : List (List Int)) (y : Int), pN R rs → R y → pN R (dV r rs y).1 ∧ R (dV r rs y).2
  | 0, rs, y, h, hy => ⟨h, hy⟩
  | r + 1, rs, y, h, hy => by
    unfold dV
    split
    · next q hq =>
      have q1 := (j4 hq).1
      refine oL r _ _ (h.set r fun v hv => ?_) (h.row r _ (by rw [ar q1]; exact List.getElem_mem q1))
      rcases List.mem_or_eq_of_mem_set hv with h' | rfl
      · exact h.row r v h'
      · exact hy
    · exact oL r rs y h hy
theorem uU {R : Int → Prop} {rs : List (List Int)} (h : pN R rs) {a : Nat} (h1 : 1 ≤ (rs.getD a []).length) : pN R (bT rs a).1 ∧ R (bT rs a).2 := by
  have hlt : (rs.getD a []).length - 1 < (rs.getD a []).length := by omega
  have hg := oL a (rs.set a ((rs.getD a []).take ((rs.getD a []).length - 1))) ((rs.getD a []).getD ((rs.getD a []).length - 1) 0) (h.set a fun v hv => h.row a v (List.mem_of_mem_take hv)) (h.row a _ (by rw [ar hlt]; exact List.getElem_mem hlt))
  unfold bT
  refine ⟨?_, hg.2⟩
  simp only
  split
  · exact fun r hr => hg.1 r (List.mem_of_mem_take hr)
  · exact hg.1
theorem Unr.top {q : Tab} {m : Nat} {P X : List (List Int)} (h : Unr q (m + 1) P X) {a : Nat} (ha : a < X.length) (htop : cel X a ((X.getD a []).length - 1) = ((m + 1 : Nat) : Int)) :
    (∀ r, r < X.length → 1 ≤ (X.getD r []).length) ∧ (∀ r, r < X.length → r ≠ a → cel X r ((X.getD r []).length - 1) < ((m + 1 : Nat) : Int)) := by
  have hp := fun r hr => pW h.pl (r := r) hr
  refine ⟨hp, fun r hr hne => ?_⟩
  have h1 := hp r hr
  have h2 := hp a ha
  simp only at h1 h2
  have hb := ((lr h.pl h.st).2 _ (g6 (rs := X) hr (show (X.getD r []).length - 1 < (X.getD r []).length by omega))).2
  have hf := h.fl
  simp only at hb
  rw [hf] at hb
  have hx : cel X r ((X.getD r []).length - 1) ≠ ((m + 1 : Nat) : Int) := fun e => hne (rG h.pl h.st (a := r) (b := a) (x := (X.getD r []).length - 1) (y := (X.getD a []).length - 1) hr (show _ < (X.getD r []).length by omega) ha (show _ < (X.getD a []).length by omega) (by rw [htop]; exact e)).1
  omega
theorem xC {n m : Nat} {A B : List (List Int)} (h : cK n m A) (s : cL A B) : cK n m B := by
  refine ⟨by rw [← s.1]; exact h.1, fun x hx => ?_⟩
  obtain ⟨i, hi, rfl⟩ := List.getElem_of_mem hx
  have := h.at i
  rw [s.2 i, ar hi] at this
  exact this
theorem my.cut {Q X : List (List Int)} {f : Int → Int} (s : my Q X f) {a : Nat} (ha : a < X.length) (hc : (X.getD (a + 1) []).length < (X.getD a []).length) (hp : ∀ r, r < X.length → 1 ≤ (X.getD r []).length) : my (b7 Q a) (b7 X a) f := by
  have hq : ∀ r, r < Q.length → 1 ≤ (Q.getD r []).length := fun r hr => by rw [← s.same.2]; exact hp r (by rw [s.same.1]; exact hr)
  have rX := nK ha hc hp
  have rQ := nK (rs := Q) (a := a) (by rw [← s.same.1]; exact ha) (by rw [← s.same.2, ← s.same.2]; exact hc) hq
  have old : ∀ {r x}, r < (b7 X a).length → x < ((b7 X a).getD r []).length → r < X.length ∧ x < (X.getD r []).length ∧ cel (b7 X a) r x = cel X r x ∧ cel (b7 Q a) r x = cel Q r x := fun {r x} hr hx => by
    have hl := q8 (rs := X) ha
    have hr' : r < X.length := by rw [hl] at hr; split at hr <;> omega
    have e1 := rX r
    have e2 := rQ r
    unfold cel
    by_cases e : r = a
    · rw [if_pos e] at e1 e2
      rw [e1] at hx
      rw [List.length_take] at hx
      subst e
      refine ⟨hr', by omega, by rw [e1, eX (by omega)], ?_⟩
      rw [e2, eX (by have := s.same.2 r; omega)]
    · rw [if_neg e] at e1 e2
      rw [e1] at hx
      exact ⟨hr', hx, by rw [e1], by rw [e2]⟩
  refine ⟨vt s.same a, fun r x hr hx => ?_, fun r x r' x' hr hx hr' hx' hlt => ?_⟩
  · obtain ⟨o1, o2, o3, o4⟩ := old hr hx
    rw [o3, o4]
    exact s.val r x o1 o2
  · obtain ⟨o1, o2, o3, o4⟩ := old hr hx
    obtain ⟨p1, p2, p3, p4⟩ := old hr' hx'
    rw [o3, p3] at hlt
    rw [o4, p4]
    exact s.lex r x r' x' o1 o2 p1 p2 hlt
theorem my.step {q : Tab} {m : Nat} {P X Q : List (List Int)} {f : Int → Int} (s : my Q X f) (h : Unr q (m + 1) P X) :
    ∃ a : Nat, rowOf q ((m + 1 : Nat) : Int) = a ∧ a < Q.length ∧ 1 ≤ (Q.getD a []).length ∧ (Q.getD a []).getD ((Q.getD a []).length - 1) 0 = f ((m + 1 : Nat) : Int) ∧ (∀ r, r < Q.length → 1 ≤ (Q.getD r []).length) ∧
      (∀ r, r < Q.length → r ≠ a → (Q.getD r []).getD ((Q.getD r []).length - 1) 0 < f ((m + 1 : Nat) : Int) ∨ ((Q.getD r []).getD ((Q.getD r []).length - 1) 0 = f ((m + 1 : Nat) : Int) ∧ (Q.getD r []).length < (Q.getD a []).length)) ∧
      cK 9 9 Q ∧ a < P.length ∧ 1 ≤ (P.getD a []).length ∧ Unr q m (bT P a).1 (b7 X a) ∧ my (b7 Q a) (b7 X a) f := by
  obtain ⟨a, a1, a2, a3, a4, a5, a6⟩ := h.step
  obtain ⟨t1, t2⟩ := h.top a2 a4
  have v0 := s.val a ((X.getD a []).length - 1) a2 (by omega)
  rw [a4] at v0
  unfold cel at v0
  rw [s.same.2] at v0
  refine ⟨a, a1, by rw [← s.same.1]; exact a2, by rw [← s.same.2]; exact a3, v0, fun r hr => by rw [← s.same.2]; exact t1 r (by rw [s.same.1]; exact hr), fun r hr hne => ?_, xC (dw h.pl) s.same,
    by rw [h.same.1]; exact a2, by rw [h.same.2]; exact a3, a6, s.cut a2 a5 t1⟩
  have hr' : r < X.length := by rw [s.same.1]; exact hr
  have u1 := t1 r hr'
  have hl := s.lex r ((X.getD r []).length - 1) a ((X.getD a []).length - 1) hr' (by omega) a2 (by omega) (by rw [a4]; exact t2 r hr' hne)
  have v := s.val a ((X.getD a []).length - 1) a2 (by omega)
  rw [v, a4] at hl
  unfold cel at hl
  rw [s.same.2 r, s.same.2 a] at hl
  have e1 := s.same.2 r
  rcases hl with hl | hl
  · exact .inl hl
  · exact .inr ⟨hl.1, by omega⟩
def prf (q : Tab) (f : Int → Int) (k : Nat) (P : List (List Int)) : List (Int × Int) := (prs q k P).map fun p => (f p.1, p.2)
theorem xc (q : Tab) (F : List Int) : ∀ (k : Nat) (P : List (List Int)), k ≤ F.length → (prf q (fun v => F.getD (v - 1).toNat 0) k P).reverse = (F.take k).zip (wop q k P)
  | 0, P, _ => by simp [prf, prs, wop]
  | k + 1, P, hk => by
    have ih := xc q F k (bT P (rowOf q ((k + 1 : Nat) : Int)).toNat).1 (by omega)
    have e : prf q (fun v => F.getD (v - 1).toNat 0) (k + 1) P = (F.getD k 0, (bT P (rowOf q ((k + 1 : Nat) : Int)).toNat).2) :: prf q (fun v => F.getD (v - 1).toNat 0) k (bT P (rowOf q ((k + 1 : Nat) : Int)).toNat).1 := by
      unfold prf
      rw [show prs q (k + 1) P = (((k + 1 : Nat) : Int), (bT P (rowOf q ((k + 1 : Nat) : Int)).toNat).2) :: prs q k (bT P (rowOf q ((k + 1 : Nat) : Int)).toNat).1 from rfl, List.map_cons]
      simp only
      rw [show ((((k + 1 : Nat) : Int)) - 1).toNat = k by omega]
    rw [e, List.reverse_cons, ih, take_succ (show k < F.length by omega) 0]
    rw [show wop q (k + 1) P = wop q k (bT P (rowOf q ((k + 1 : Nat) : Int)).toNat).1 ++ [(bT P (rowOf q ((k + 1 : Nat) : Int)).toNat).2] from rfl]
    rw [List.zip_append (by rw [qa, List.length_take]; omega)]
    rfl
theorem xk {q : Tab} {R : Int → Prop} : ∀ (k : Nat) (P X : List (List Int)), Unr q k P X → pN R P → ∀ v ∈ wop q k P, R v
  | 0, P, X, _, _, v, hv => by cases hv
  | k + 1, P, X, h, hR, v, hv => by
    obtain ⟨a, a1, a2, a3, a4, a5, a6⟩ := h.step
    obtain ⟨t1, t2⟩ := uU hR (show 1 ≤ (P.getD a []).length by rw [h.same.2]; exact a3)
    unfold wop at hv
    rw [a1, Int.toNat_natCast] at hv
    rcases List.mem_append.1 hv with h' | h'
    · exact xk k _ _ a6 t1 v h'
    · rw [List.mem_singleton] at h'
      rw [h']
      exact t2
def js (l : List Int) (x : Int) : Nat → Nat
  | 0 => 0
  | i + 1 => if x < l.getD i 0 then js l x i else i + 1
def pR (l : List Int) (x : Int) : List Int := l.take (js l x l.length) ++ [x] ++ l.drop (js l x l.length)
def nf (l : List Int) : List Int := l.foldl pR []
theorem tZ (l : List Int) (x : Int) : ∀ m, js l x m ≤ m
  | 0 => Nat.le_refl _
  | m + 1 => by unfold js; split; · exact Nat.le_succ_of_le (tZ l x m)
                · exact Nat.le_refl _
theorem xg (l : List Int) (x : Int) : ∀ m i, js l x m ≤ i → i < m → x < l.getD i 0
  | 0, i, _, h => absurd h (Nat.not_lt_zero i)
  | m + 1, i, h, hi => by
    unfold js at h
    split at h
    · next c =>
      by_cases e : i = m
      · rw [e]; exact c
      · exact xg l x m i h (by omega)
    · omega
theorem ur (l : List Int) (x : Int) : ∀ m, js l x m ≠ 0 → l.getD (js l x m - 1) 0 ≤ x
  | 0, h => absurd rfl h
  | m + 1, h => by
    unfold js at h ⊢
    split
    · next c => rw [if_pos c] at h; exact ur l x m h
    · next c => exact Int.not_lt.1 c
theorem ss (l : List Int) (x : Int) : (pR l x).Perm (x :: l) := by
  unfold pR
  have := @List.perm_middle _ x (l.take (js l x l.length)) (l.drop (js l x l.length))
  rw [List.take_append_drop] at this
  rw [List.append_assoc]
  exact this
theorem vB {l : List Int} (h : l.Pairwise (· ≤ ·)) (x : Int) : (pR l x).Pairwise (· ≤ ·) := by
  have hp := tZ l x l.length
  have hg := xg l x l.length
  have hl := ur l x l.length
  rw [List.pairwise_iff_getElem] at h
  unfold pR
  generalize js l x l.length = p at *
  have low : ∀ v ∈ l.take p, v ≤ x := fun v hv => by
    obtain ⟨i, hi, rfl⟩ := List.getElem_of_mem hv
    rw [List.length_take] at hi
    rw [List.getElem_take]
    have h0 := hl (by omega)
    have hp1 : p - 1 < l.length := by omega
    rw [ar hp1] at h0
    by_cases e : i = p - 1
    · subst e; exact h0
    · exact Int.le_trans (h i (p - 1) (by omega) hp1 (by omega)) h0
  have high : ∀ v ∈ l.drop p, x ≤ v := fun v hv => by
    obtain ⟨i, hi, rfl⟩ := List.getElem_of_mem hv
    rw [List.length_drop] at hi
    rw [List.getElem_drop]
    have h0 := hg (p + i) (by omega) (by omega)
    rw [ar (show p + i < l.length by omega)] at h0
    omega
  have hs : l.Pairwise (· ≤ ·) := List.pairwise_iff_getElem.2 h
  rw [List.append_assoc, List.pairwise_append]
  refine ⟨hs.sublist (List.take_sublist _ _), ?_, fun v hv w hw => ?_⟩
  · rw [List.singleton_append, List.pairwise_cons]
    exact ⟨high, hs.sublist (List.drop_sublist _ _)⟩
  · rcases List.mem_append.1 hw with h' | h'
    · rw [List.mem_singleton] at h'; rw [h']; exact low v hv
    · exact Int.le_trans (low v hv) (high w h')
theorem pK : ∀ (l acc : List Int), acc.Pairwise (· ≤ ·) → (l.foldl pR acc).Pairwise (· ≤ ·) ∧ (l.foldl pR acc).Perm (acc ++ l)
  | [], acc, h => ⟨h, by simp⟩
  | x :: l, acc, h => by
    obtain ⟨h1, h2⟩ := pK l (pR acc x) (vB h x)
    refine ⟨h1, h2.trans ?_⟩
    have := (ss acc x).append_right l
    exact this.trans (List.perm_middle (a := x) (l₁ := acc) (l₂ := l)).symm
theorem zg {l F : List Int} (hp : F.Perm l) (hs : F.Pairwise (· ≤ ·)) : nf l = F := by
  obtain ⟨h1, h2⟩ := pK l [] List.Pairwise.nil
  rw [List.nil_append] at h2
  exact List.Perm.eq_of_pairwise (fun a b _ _ h h' => Int.le_antisymm h h') h1 hs (h2.trans hp.symm)
def mc : Int → List Int → Int
  | m, [] => m
  | m, x :: l => mc (max m x) l
theorem tO : ∀ (l : List Int) (m b : Int), mc m l ≤ b ↔ m ≤ b ∧ ∀ x ∈ l, x ≤ b
  | [], m, b => by simp [mc]
  | x :: l, m, b => by
    unfold mc
    rw [tO l]
    constructor
    · rintro ⟨h1, h2⟩
      refine ⟨by omega, fun y hy => ?_⟩
      rcases List.mem_cons.1 hy with rfl | hy
      · omega
      · exact h2 y hy
    · rintro ⟨h1, h2⟩
      have := h2 x (List.mem_cons_self ..)
      exact ⟨by omega, fun y hy => h2 y (List.mem_cons_of_mem _ hy)⟩
def xr (M : List (List Int)) (p : Int × Int) : List (List Int) := M.set (p.1 - 1).toNat ((M.getD (p.1 - 1).toNat []).set (p.2 - 1).toNat ((M.getD (p.1 - 1).toNat []).getD (p.2 - 1).toNat 0 + 1))
def yS (M : List (List Int)) (l : List (Int × Int)) : List (List Int) := l.foldl xr M
def mZ (r c : Nat) : List (List Int) := List.replicate r (List.replicate c 0)
structure ph (r c : Nat) (b : Int) (M : List (List Int)) : Prop where
  len : M.length = r
  row : ∀ i, i < r → (M.getD i []).length = c
  sm : ∀ x ∈ M, ∀ v ∈ x, 0 ≤ v ∧ v ≤ b
theorem qC (r c : Nat) : ph r c 0 (mZ r c) := by
  refine ⟨by simp [mZ], fun i hi => ?_, fun x hx v hv => ?_⟩
  · unfold mZ
    rw [ar (by simpa using hi)]
    simp
  · unfold mZ at hx
    rw [List.eq_of_mem_replicate hx] at hv
    rw [List.eq_of_mem_replicate hv]
    omega
theorem tj {r c : Nat} {b : Int} {M : List (List Int)} (h : ph r c b M) {p : Int × Int} (h1 : 1 ≤ p.1) (h2 : p.1 ≤ r) (h3 : 1 ≤ p.2) (h4 : p.2 ≤ c) : ph r c (b + 1) (xr M p) := by
  have hi : (p.1 - 1).toNat < M.length := by rw [h.len]; omega
  have hr := h.row (p.1 - 1).toNat (by omega)
  have hj : (p.2 - 1).toNat < (M.getD (p.1 - 1).toNat []).length := by rw [hr]; omega
  have hv := h.sm (M.getD (p.1 - 1).toNat []) (by rw [ar hi]; exact List.getElem_mem hi) _ (by rw [ar hj]; exact List.getElem_mem hj : (M.getD (p.1 - 1).toNat []).getD (p.2 - 1).toNat 0 ∈ M.getD (p.1 - 1).toNat [])
  unfold xr
  refine ⟨by rw [List.length_set]; exact h.len, fun i hi' => ?_, fun x hx v hv' => ?_⟩
  · by_cases e : i = (p.1 - 1).toNat
    · subst e
      rw [ar (by rw [List.length_set]; exact hi), List.getElem_set_self, List.length_set]
      exact hr
    · rw [getD_set_ne (Ne.symm e)]
      exact h.row i hi'
  · rcases List.mem_or_eq_of_mem_set hx with h' | rfl
    · have := h.sm x h' v hv'
      omega
    · rcases List.mem_or_eq_of_mem_set hv' with h' | rfl
      · have := h.sm _ (by rw [ar hi]; exact List.getElem_mem hi : M.getD (p.1 - 1).toNat [] ∈ M) v h'
        omega
      · omega
theorem wZ {r c : Nat} : ∀ (l : List (Int × Int)) (M : List (List Int)) (b : Int), ph r c b M → (∀ p ∈ l, 1 ≤ p.1 ∧ p.1 ≤ r ∧ 1 ≤ p.2 ∧ p.2 ≤ c) → ph r c (b + l.length) (yS M l)
  | [], M, b, h, _ => by simpa [yS] using h
  | p :: l, M, b, h, hp => by
    have hq := hp p (List.mem_cons_self ..)
    have := wZ l (xr M p) (b + 1) (tj h hq.1 hq.2.1 hq.2.2.1 hq.2.2.2) fun p' h' => hp p' (List.mem_cons_of_mem _ h')
    rw [List.length_cons, show b + ((l.length + 1 : Nat) : Int) = b + 1 + l.length by omega]
    exact this
theorem sM {r c : Nat} {b : Int} {M : List (List Int)} (h : ph r c b M) (hb : b ≤ 1000000) (hr : r ≤ 9) (hc : c ≤ 9) {p : Int × Int} (h1 : 1 ≤ p.1) (h2 : p.1 ≤ r) (h3 : 1 ≤ p.2) (h4 : p.2 ≤ c) :
    0 ≤ p.1 - 1 ∧ (p.1 - 1).toNat < M.length ∧ 0 ≤ p.2 - 1 ∧ (p.2 - 1).toNat < (M.getD (p.1 - 1).toNat []).length ∧ IntKind.i64.wrap (p.1 - 1) = p.1 - 1 ∧ IntKind.i64.wrap (p.2 - 1) = p.2 - 1 ∧
      IntKind.i64.wrap ((M.getD (p.1 - 1).toNat []).getD (p.2 - 1).toNat 0 + 1) = (M.getD (p.1 - 1).toNat []).getD (p.2 - 1).toNat 0 + 1 := by
  have hi : (p.1 - 1).toNat < M.length := by rw [h.len]; omega
  have hrw := h.row (p.1 - 1).toNat (by omega)
  have hj : (p.2 - 1).toNat < (M.getD (p.1 - 1).toNat []).length := by rw [hrw]; omega
  have hv := h.sm (M.getD (p.1 - 1).toNat []) (by rw [ar hi]; exact List.getElem_mem hi) _ (by rw [ar hj]; exact List.getElem_mem hj : (M.getD (p.1 - 1).toNat []).getD (p.2 - 1).toNat 0 ∈ M.getD (p.1 - 1).toNat [])
  exact ⟨by omega, hi, by omega, hj, w64 (by omega) (by omega), w64 (by omega) (by omega), w64 (by omega) (by omega)⟩
theorem yB {a b : List Int} {i : Nat} (ha : i < a.length) (hb : i < b.length) : (a.zip b).drop i = (a.getD i 0, b.getD i 0) :: (a.zip b).drop (i + 1) := by
  have hl : i < (a.zip b).length := by rw [List.length_zip]; omega
  rw [drop_cons hl (0, 0), ar hl, List.getElem_zip, ar ha, ar hb]
def eI (p q : Tab) (r c : Int) : List (List Int) × Bool :=
  if a8 p = true ∧ a8 q = true ∧ outer p = outer q ∧ (1 ≤ r ∧ r ≤ 9) ∧ (1 ≤ c ∧ c ≤ 9) ∧ mc 0 q.2.flatten ≤ r ∧ mc 0 p.2.flatten ≤ c then
    (yS (mZ r.toNat c.toNat) ((nf q.2.flatten).zip (wop ([], jf q.2) q.2.flatten.length p.2)), true)
  else ([], false)
theorem rJ {p q : Tab} (hp : a8 p = true) (hq : a8 q = true) (ho : outer p = outer q) {R C : Int} (hr : mc 0 q.2.flatten ≤ R) (hc : mc 0 p.2.flatten ≤ C) :
    a8 ([], jf q.2) = true ∧ dI ([], jf q.2) = true ∧ outer p = outer (([], jf q.2) : Tab) ∧ (jf q.2).flatten.length = q.2.flatten.length ∧ (nf q.2.flatten).length = q.2.flatten.length ∧
      my q.2 (jf q.2) (fun v => (nf q.2.flatten).getD (v - 1).toNat 0) ∧ ∀ x ∈ (nf q.2.flatten).zip (wop ([], jf q.2) q.2.flatten.length p.2), 1 ≤ x.1 ∧ x.1 ≤ R ∧ 1 ≤ x.2 ∧ x.2 ≤ C := by
  have e : (([], q.2) : Tab) = q := Prod.ext (cw hq).symm rfl
  obtain ⟨F, f1, f2, f3, f4, f5, f6⟩ := yW (Q := q.2) (by rw [e]; exact hq)
  have hs := zg f4 f5
  rw [hs]
  have hout : outer p = outer (([], jf q.2) : Tab) := ho.trans (oQ (cw hq) rfl f3.same.1.symm fun r => (f3.same.2 r).symm)
  have hfl := mE f3.same
  have ent : ∀ {t : Tab}, a8 t = true → ∀ v ∈ t.2.flatten, 1 ≤ v := fun {t} h v hv => by
    obtain ⟨r, x, a, b, rfl⟩ := j6 hv
    exact ((fQ h).1 r x a b).1
  have hu := oT hp f1 f2 hout
  simp only at hu
  rw [hfl] at hu
  refine ⟨f1, f2, hout, hfl, f6, f3, fun x hx => ?_⟩
  obtain ⟨a, b⟩ := x
  have m1 := (List.of_mem_zip hx).1
  have m2 := (List.of_mem_zip hx).2
  have q1 := f4.mem_iff.1 m1
  have hw := xk (R := fun v => 1 ≤ v ∧ v ≤ C) _ _ _ hu (fun r hr v hv => by
    have hm : v ∈ p.2.flatten := List.mem_flatten.2 ⟨r, hr, hv⟩
    exact ⟨ent hp v hm, ((tO _ _ _).1 hc).2 v hm⟩) b m2
  exact ⟨ent hq a q1, ((tO _ _ _).1 hr).2 a q1, hw.1, hw.2⟩
theorem pP {p q : Tab} {r c : Int} : (eI p q r c).1.length ≤ 9 ∧ ∀ x ∈ (eI p q r c).1, x.length ≤ 9 := by
  unfold eI
  split
  · next h =>
    obtain ⟨hp, hq, ho, hr, hc, h1, h2⟩ := h
    obtain ⟨_, _, _, _, _, _, hx⟩ := rJ hp hq ho h1 h2
    have := wZ (r := r.toNat) (c := c.toNat) _ (mZ r.toNat c.toNat) 0 (qC _ _) fun x m => by
      have := hx x m
      omega
    refine ⟨by simp only; rw [this.len]; omega, fun x hx => ?_⟩
    obtain ⟨i, hi, rfl⟩ := List.getElem_of_mem hx
    have h3 := this.row i (by rw [← this.len]; exact hi)
    rw [ar hi] at h3
    simp only at h3 ⊢
    omega
  · simp
end Go.Am.Pu
end
