/- Plain laws of lists, partitions, shapes and tableaux; no program in sight. -/
import Derived.Test.YtjembjngimmfmaaAmP
set_option linter.unusedSimpArgs false
set_option linter.unusedVariables false
set_option linter.unnecessarySimpa false
set_option linter.unusedSectionVars false
section
/- Rules for loops over data: a loop that looks at all, a loop that folds. -/
namespace Go.Am.Pu
open Go.Am
theorem w64 {n : Int} (h1 : -9223372036854775808 ≤ n) (h2 : n ≤ 9223372036854775807) : IntKind.i64.wrap n = n := Go.Am.w64 h1 h2
theorem jF {R : Type} (L : Nat → Nat → Option R) (n : Nat) (p : Nat → Bool) (bad zL : Option R)
    (hs : ∀ j i, i < n → L (j + 1) i = if p i = true then L j (i + 1) else bad) (he : ∀ j, L (j + 1) n = zL) :
    ∀ (m j i : Nat), i + m = n → m < j → L j i = if (List.range' i m).all p = true then zL else bad
  | m, 0, i, _, h => by omega
  | 0, j + 1, i, h, _ => by
    have : i = n := by omega
    subst this
    rw [he]; rfl
  | m + 1, j + 1, i, h, hj => by
    rw [hs j i (by omega), jF L n p bad zL hs he m j (i + 1) (by omega) (by omega), List.range'_succ, List.all_cons]
    cases p i
    · rw [if_neg (by simp), Bool.false_and, if_neg (by simp)]
    · rw [if_pos rfl, Bool.true_and]
theorem dD {p : Nat → Bool} {n : Nat} : (List.range' 0 n).all p = true ↔ ∀ i, i < n → p i = true := by
  simp [List.all_eq_true, List.mem_range'_1]
theorem ay {α : Type} {xs : List α} {i : Nat} (h : i < xs.length) (d : α) : xs.getD i d = xs[i] := by
  simp only [List.getD_eq_getElem?_getD, List.getElem?_eq_getElem h, Option.getD_some]
theorem bU {α : Type} {xs : List α} {i : Nat} (h : xs.length ≤ i) (d : α) : xs.getD i d = d := by
  simp only [List.getD_eq_getElem?_getD, List.getElem?_eq_none h, Option.getD_none]
theorem drop_cons {α : Type} {xs : List α} {i : Nat} (h : i < xs.length) (d : α) : xs.drop i = xs.getD i d :: xs.drop (i + 1) := by
  rw [ay h, List.drop_eq_getElem_cons h]
theorem take_succ {α : Type} {xs : List α} {i : Nat} (h : i < xs.length) (d : α) : xs.take (i + 1) = xs.take i ++ [xs.getD i d] := by
  rw [ay h, List.take_succ_eq_append_getElem h]
theorem pO {α : Type} {xs : List α} {i : Nat} (h : i < xs.length) (d z : α) : (xs.take i ++ List.replicate (xs.length - i) z).set i (xs.getD i d) = xs.take (i + 1) ++ List.replicate (xs.length - (i + 1)) z := by
  have e : xs.length - i = xs.length - (i + 1) + 1 := by omega
  rw [take_succ h d, e, List.replicate_succ, List.set_append_right _ _ (by simp; omega)]
  simp [Nat.min_eq_left (Nat.le_of_lt h)]
end Go.Am.Pu
end
section
/- Marking memory and looking whether the marks are held. -/
namespace Go.Am.Pu
def held : List Int → Int → Int
  | [], q => q
  | x :: xs, q => if x = q then held xs (q + 1) else -1
def mark : List Int → Int → List Int
  | [], _ => []
  | _ :: xs, q => q :: mark xs (q + 1)
theorem j9 : ∀ (xs : List Int) (q : Int), (mark xs q).length = xs.length
  | [], _ => rfl
  | _ :: xs, q => by simp [mark, j9 xs]
theorem pI : ∀ (xs : List Int) (q : Int), held (mark xs q) q = q + xs.length
  | [], q => by simp [mark, held]
  | _ :: xs, q => by
    simp only [mark, held, if_true, List.length_cons]
    rw [pI xs]
    omega
theorem xJ : ∀ (xs : List Int) (q : Int), 0 ≤ q → held xs q ≤ q + xs.length
  | [], q, _ => by simp [held]
  | x :: xs, q, h => by
    simp only [held, List.length_cons]
    split
    · have := xJ xs (q + 1) (by omega)
      omega
    · omega
def qp : List (List Int) → Int → Int
  | [], q => q
  | x :: xs, q => if held x q < 0 then -1 else qp xs (held x q)
def gJ : List (List Int) → Int → List (List Int)
  | [], _ => []
  | x :: xs, q => mark x q :: gJ xs (q + x.length)
def dk : List (List Int) → Nat
  | [] => 0
  | x :: xs => x.length + dk xs
theorem sh : ∀ (xs : List (List Int)) (n : Nat), (∀ x ∈ xs, x.length ≤ n) → dk xs ≤ xs.length * n
  | [], n, _ => by simp [dk]
  | x :: xs, n, h => by
    have h1 := h x (by simp)
    have h2 := sh xs n fun y hy => h y (by simp [hy])
    simp only [dk, List.length_cons, Nat.succ_mul]
    omega
theorem tK {xs : List (List Int)} (h : xs.length ≤ 1048576) (hr : ∀ x ∈ xs, x.length ≤ 1048576) : dk xs ≤ 1099511627776 := by
  have h1 := sh xs 1048576 hr
  have h2 : xs.length * 1048576 ≤ 1048576 * 1048576 := Nat.mul_le_mul_right _ h
  omega
theorem yp {xs : List (List Int)} {q : Int} {n : Nat} (h : ∀ x ∈ xs, x.length ≤ n) : ∀ y ∈ gJ xs q, y.length ≤ n := by
  induction xs generalizing q with
  | nil => intro y hy; cases hy
  | cons x xs ih =>
    intro y hy
    simp only [gJ, List.mem_cons] at hy
    rcases hy with rfl | hy
    · rw [j9]; exact h x (by simp)
    · exact ih (fun z hz => h z (by simp [hz])) y hy
theorem rz : ∀ (xs : List (List Int)) (q : Int), dk (gJ xs q) = dk xs
  | [], _ => rfl
  | x :: xs, q => by simp [gJ, dk, j9, rz xs]
theorem tB : ∀ (xs : List (List Int)) (q : Int), (gJ xs q).length = xs.length
  | [], _ => rfl
  | _ :: xs, q => by simp [gJ, tB xs]
theorem rR : ∀ (xs : List (List Int)) (q : Int), 0 ≤ q → qp (gJ xs q) q = q + dk xs
  | [], q, _ => by simp [gJ, qp, dk]
  | x :: xs, q, h => by
    simp only [gJ, qp, dk]
    rw [pI, if_neg (by omega), rR xs _ (by omega)]
    omega
end Go.Am.Pu
end
section
/- Partitions, shapes and tableaux as plain words. -/
namespace Go.Am.Pu
def within (x lo hi : Int) : Bool := decide (lo ≤ x) && decide (x ≤ hi)
def atI (p : List Int) (i : Int) : Int := if i < 0 then 0 else p.getD i.toNat 0
theorem ch (p : List Int) (i : Nat) : atI p (i : Int) = p.getD i 0 := by simp [atI]; omega
theorem lP {p : List Int} {i : Int} (h : i < 0) : atI p i = 0 := by simp [atI, h]
theorem xf {p : List Int} {i : Int} (h : (p.length : Int) ≤ i) : atI p i = 0 := by
  unfold atI
  split
  · rfl
  · exact bU (by omega) 0
def fF : List Int → Int → Int → Bool
  | [], _, _ => true
  | x :: xs, prev, s => decide (1 ≤ x) && (decide (x ≤ prev) && (decide (s + x ≤ 9) && fF xs x (s + x)))
def cj (p : List Int) : Bool := fF p 9 0
def im : List Int → Int
  | [] => 0
  | x :: xs => x + im xs
theorem qP : ∀ (p : List Int) (prev s : Int), fF p prev s = true → (∀ x ∈ p, 1 ≤ x ∧ x ≤ prev) ∧ (p ≠ [] → s + im p ≤ 9) ∧ (p.length : Int) ≤ im p
  | [], prev, s, _ => ⟨fun x h => (by cases h), fun h => absurd rfl h, (by simp [im])⟩
  | x :: xs, prev, s, h => by
    simp only [fF, Bool.and_eq_true, decide_eq_true_eq] at h
    obtain ⟨h1, h2, h3, h4⟩ := h
    obtain ⟨k1, k2, k3⟩ := qP xs x (s + x) h4
    refine ⟨fun y hy => ?_, fun _ => ?_, ?_⟩
    · rcases List.mem_cons.1 hy with rfl | hy
      · exact ⟨h1, h2⟩
      · have := k1 y hy; omega
    · simp only [im]
      by_cases e : xs = []
      · subst e; simp [im]; omega
      · have := k2 e; omega
    · simp only [im, List.length_cons]; omega
theorem b6 {p : List Int} (h : cj p = true) : (∀ x ∈ p, 1 ≤ x ∧ x ≤ 9) ∧ im p ≤ 9 ∧ p.length ≤ 9 ∧ (p.length : Int) ≤ im p := by
  obtain ⟨h1, h2, h3⟩ := qP p 9 0 h
  have : im p ≤ 9 := by
    by_cases e : p = []
    · subst e; simp [im]
    · have := h2 e; omega
  exact ⟨h1, this, by omega, h3⟩
theorem cS {p : List Int} (h : cj p = true) (i : Int) : 0 ≤ atI p i ∧ atI p i ≤ 9 := by
  unfold atI
  split
  · omega
  · by_cases hl : i.toNat < p.length
    · rw [ay hl]
      have := (b6 h).1 _ (List.getElem_mem hl)
      omega
    · rw [bU (by omega)]; omega
def dp (q p : List Int) : Bool := cj q && (cj p && (decide (q.length ≤ p.length) && (List.range' 0 q.length).all fun i => decide (q.getD i 0 ≤ p.getD i 0)))
theorem xg {q p : List Int} (hq : cj q = true) (h : (List.range' 0 q.length).all (fun i => decide (q.getD i 0 ≤ p.getD i 0)) = true) : q.length ≤ p.length := by
  rw [dD] at h
  refine Nat.le_of_not_lt fun hlt => ?_
  have h1 := h p.length hlt
  rw [decide_eq_true_eq, bU (Nat.le_refl _), ay hlt] at h1
  have := (b6 hq).1 _ (List.getElem_mem hlt)
  omega
theorem vH {q p : List Int} : dp q p = (cj q && (cj p && (List.range' 0 q.length).all fun i => decide (q.getD i 0 ≤ p.getD i 0))) := by
  unfold dp
  cases hq : cj q with
  | false => rfl
  | true =>
    cases hp : cj p with
    | false => rfl
    | true =>
      simp only [Bool.true_and]
      cases ha : (List.range' 0 q.length).all fun i => decide (q.getD i 0 ≤ p.getD i 0) with
      | false => simp
      | true => simp [xg hq ha]
def dZ (inner : List Int) : Nat → List (List Int) → List Int
  | _, [] => []
  | i, r :: rs => (inner.getD i 0 + r.length) :: dZ inner (i + 1) rs
theorem jy (inner : List Int) : ∀ (rs : List (List Int)) (i : Nat), (dZ inner i rs).length = rs.length
  | [], _ => rfl
  | _ :: rs, i => by simp [dZ, jy inner rs]
theorem fb (inner : List Int) : ∀ (rs : List (List Int)) (i q : Nat), q < rs.length → (dZ inner i rs).getD q 0 = inner.getD (i + q) 0 + (rs.getD q []).length
  | [], i, q, h => by simp at h
  | r :: rs, i, 0, _ => by simp [dZ]
  | r :: rs, i, q + 1, h => by
    have := fb inner rs (i + 1) q (by simpa using h)
    simp only [dZ, List.getD_cons_succ]
    rw [this]
    have e : i + 1 + q = i + (q + 1) := by omega
    rw [e]
abbrev Tab := List Int × List (List Int)
def outer (t : Tab) : List Int := dZ t.1 0 t.2
def cU (t : Tab) : Bool := cj t.1 && (decide (t.1.length ≤ t.2.length) && dp t.1 (outer t))
def shapeOf (t : Tab) : (List Int × List Int) × Bool := if cU t = true then ((outer t, t.1), true) else (([], []), false)
theorem vh {t : Tab} (h : cU t = true) : t.2.length ≤ 9 := by
  simp only [cU, dp, Bool.and_eq_true] at h
  have := (b6 h.2.2.2.1).2.2.1
  rw [outer, jy] at this
  exact this
def entry (t : Tab) (r c : Int) : Int := if r < 0 then 0 else if (t.2.length : Int) ≤ r then 0 else atI (t.2.getD r.toNat []) (c - atI t.1 r)
theorem il {t : Tab} {r : Nat} (h : r < t.2.length) (c : Int) : entry t r c = atI (t.2.getD r []) (c - t.1.getD r 0) := by
  unfold entry
  rw [if_neg (by omega), if_neg (by omega), ch]
  rfl
theorem yz {t : Tab} {r c : Int} (h : r < 0) : entry t r c = 0 := by unfold entry; rw [if_pos h]
theorem vk {t : Tab} {r q : Nat} (h : r < t.2.length) : entry t r (t.1.getD r 0 + q) = (t.2.getD r []).getD q 0 := by
  rw [il h]
  have e : t.1.getD r 0 + (q : Int) - t.1.getD r 0 = q := by omega
  rw [e, ch]
theorem xd {t : Tab} {r q : Nat} (h : r < t.2.length) : entry t r (t.1.getD r 0 + q - 1) = if q = 0 then 0 else (t.2.getD r []).getD (q - 1) 0 := by
  rw [il h]
  by_cases e : q = 0
  · subst e
    rw [if_pos rfl, lP (by omega)]
  · rw [if_neg e]
    have e : t.1.getD r 0 + (q : Int) - 1 - t.1.getD r 0 = ((q - 1 : Nat) : Int) := by omega
    rw [e, ch]
def eA (t : Tab) (i k : Nat) : Bool := within ((t.2.getD i []).getD k 0) 1 9 && ((decide (k = 0) || decide ((t.2.getD i []).getD (k - 1) 0 ≤ (t.2.getD i []).getD k 0)) &&
  (decide (i = 0) || decide (entry t ((i : Int) - 1) (t.1.getD i 0 + k) < (t.2.getD i []).getD k 0)))
def dU (t : Tab) : Bool := cU t && (List.range' 0 t.2.length).all fun i => (List.range' 0 (t.2.getD i []).length).all fun k => eA t i k
def bc (t : Tab) : Bool := dU t && decide (t.1.length = 0)
theorem nq {t : Tab} (h : dU t = true) : cU t = true := by
  simp only [dU, Bool.and_eq_true] at h; exact h.1
theorem qa (inner : List Int) : ∀ (rs : List (List Int)) (i : Nat), (∀ q, i ≤ q → inner.getD q 0 = 0) → im (dZ inner i rs) = rs.flatten.length
  | [], i, _ => rfl
  | r :: rs, i, h => by
    simp only [dZ, im, List.flatten_cons, List.length_append]
    rw [qa inner rs (i + 1) (fun q hq => h q (by omega)), h i (Nat.le_refl _)]
    omega
theorem j6 {t : Tab} (h : bc t = true) : t.2.flatten.length ≤ 9 := by
  simp only [bc, Bool.and_eq_true, decide_eq_true_eq] at h
  have hs := nq h.1
  simp only [cU, dp, Bool.and_eq_true] at hs
  have h9 := (b6 hs.2.2.2.1).2.1
  have : t.1 = [] := List.eq_nil_of_length_eq_zero h.2
  rw [outer, qa t.1 t.2 0 (fun q _ => by rw [this]; rfl)] at h9
  omega
def ig (t : Tab) : Prop := t.1.length ≤ 1048576 ∧ t.2.length ≤ 1048576 ∧ ∀ x ∈ t.2, x.length ≤ 1048576
theorem ig.nil : ig ([], []) := ⟨by simp, by simp, fun x h => by cases h⟩
theorem wy : ∀ {rs : List (List Int)} {r : List Int}, r ∈ rs → r.length ≤ rs.flatten.length
  | q :: rs, r, h => by
    simp only [List.flatten_cons, List.length_append]
    rcases List.mem_cons.1 h with rfl | h
    · omega
    · have := wy h; omega
theorem gT {α : Type} {xs : List α} {i : Nat} (h : i < xs.length) (x : α) : (xs.set i x).take (i + 1) = xs.take i ++ [x] := by
  have h' : i < (xs.set i x).length := by rw [List.length_set]; exact h
  rw [take_succ h' x, List.take_set_of_le (Nat.le_refl _), ay h', List.getElem_set_self]
theorem nE {α : Type} {xs : List α} {i : Nat} (x : α) : (xs.set i x).drop (i + 1) = xs.drop (i + 1) := by
  rw [List.drop_set_of_lt (by omega)]
end Go.Am.Pu
end
section
/- Standard tableaux, weights, descents: plain words. -/
namespace Go.Am.Pu
theorem wk {α R : Type} (r : List α) (d : α) (p : α → Bool) (L : Nat → Nat → Option R) (hit : Nat → Option R) (miss : Option R)
    (hs : ∀ j i, i < r.length → L (j + 1) i = if p (r.getD i d) = true then hit i else L j (i + 1)) (he : ∀ j, L (j + 1) r.length = miss) :
    ∀ (m j i : Nat), i + m = r.length → m < j → i ≤ r.findIdx p → L j i = if r.findIdx p < r.length then hit (r.findIdx p) else miss
  | m, 0, i, _, hj, _ => by omega
  | 0, j + 1, i, hm, _, hi => by
    have e : i = r.length := by omega
    rw [if_neg (by omega), e, he]
  | m + 1, j + 1, i, hm, hj, hi => by
    have hlt : i < r.length := by omega
    rw [hs j i hlt]
    by_cases c : p (r.getD i d) = true
    · have e : r.findIdx p = i := Nat.le_antisymm (Nat.le_of_not_lt fun h' => by
        have := List.not_of_lt_findIdx h'
        rw [ay hlt] at c
        rw [c] at this; cases this) hi
      rw [if_pos c, e, if_pos hlt]
    · rw [if_neg c]
      refine wk r d p L hit miss hs he m j (i + 1) (by omega) (by omega) ?_
      refine Nat.succ_le_of_lt (Nat.lt_of_le_of_ne hi fun e => c ?_)
      have hlt' : r.findIdx p < r.length := by omega
      have := List.findIdx_getElem (p := p) (xs := r) (w := hlt')
      rw [← ay hlt' d, ← e] at this
      exact this
def zR {α : Type} (p : α → Bool) (r : List α) : Int := if r.findIdx p < r.length then (r.findIdx p : Int) else -1
theorem zy {α : Type} (p : α → Bool) (r : List α) : decide (0 ≤ zR p r) = r.any p := by
  unfold zR
  by_cases h : r.findIdx p < r.length
  · rw [if_pos h, List.any_eq_true.2 ⟨_, List.getElem_mem h, List.findIdx_getElem⟩]
    simp
  · rw [if_neg h]
    have : r.any p = false := by
      rw [List.any_eq_false]
      intro x hx hp
      exact h (List.findIdx_lt_length_of_exists ⟨x, hx, hp⟩)
    rw [this]; rfl
def has (l : List Int) (x : Int) : Bool := l.any fun y => decide (x = y)
theorem oI {l : List Int} {x : Int} : has l x = true ↔ x ∈ l := by
  simp [has, List.any_eq_true]
def jm (l : List Int) : Bool := (List.range' 0 l.length).all fun i => has l ((i : Int) + 1)
theorem oG : ∀ (R l : List Int), R.Nodup → (∀ x ∈ R, x ∈ l) → R.length ≤ l.length
  | [], l, _, _ => by simp
  | x :: R, l, hn, h => by
    rw [List.nodup_cons] at hn
    have hx := h x (by simp)
    have := oG R (l.erase x) hn.2 fun y hy => (List.mem_erase_of_ne fun (e : y = x) => hn.1 (e ▸ hy)).2 (h y (by simp [hy]))
    rw [List.length_erase_of_mem hx] at this
    have : 0 < l.length := List.length_pos_of_mem hx
    simp only [List.length_cons]
    omega
def sy (n : Nat) : List Int := (List.range n).map fun (i : Nat) => (i : Int) + 1
theorem jz {n : Nat} {x : Int} : x ∈ sy n ↔ 1 ≤ x ∧ x ≤ n := by
  simp only [sy, List.mem_map, List.mem_range]
  constructor
  · rintro ⟨i, h, rfl⟩; omega
  · rintro ⟨h1, h2⟩; exact ⟨(x - 1).toNat, by omega, by omega⟩
theorem s8 (n : Nat) : (sy n).Nodup := by
  unfold sy
  refine List.Pairwise.map _ (fun (a b : Nat) (h : a ≠ b) => ?_) List.nodup_range
  intro e
  exact h (by omega)
theorem pf (n : Nat) : (sy n).length = n := by simp [sy]
theorem oP {l : List Int} : jm l = true ↔ ∀ x ∈ sy l.length, x ∈ l := by
  unfold jm
  rw [dD]
  constructor
  · intro h x hx
    rw [jz] at hx
    have := h (x - 1).toNat (by omega)
    rw [oI] at this
    have e : (((x - 1).toNat : Nat) : Int) + 1 = x := by omega
    rw [e] at this; exact this
  · intro h i hi
    rw [oI]
    exact h _ (jz.2 (by omega))
theorem sk {l : List Int} (h1 : ∀ x ∈ l, 1 ≤ x) : jm l = true ↔ l.Nodup ∧ ∀ x ∈ l, x ≤ l.length := by
  rw [oP]
  constructor
  · intro h
    refine ⟨?_, fun x hx => ?_⟩
    ·
      refine Classical.byContradiction fun hn => ?_
      have : ∃ x, x ∈ l ∧ x ∈ l.erase x := by
        have key : ∀ l : List Int, ¬ l.Nodup → ∃ x, x ∈ l ∧ x ∈ l.erase x := by
          intro l
          induction l with
          | nil => intro h; exact absurd List.nodup_nil h
          | cons a l ih =>
            intro h
            by_cases ha : a ∈ l
            · exact ⟨a, by simp, by simpa using ha⟩
            · have : ¬ l.Nodup := fun hl => h (List.nodup_cons.2 ⟨ha, hl⟩)
              obtain ⟨x, h1, h2⟩ := ih this
              refine ⟨x, by simp [h1], ?_⟩
              have hne : a ≠ x := fun e => ha (e ▸ h1)
              rw [List.erase_cons_tail (by simpa using hne)]
              exact List.mem_cons_of_mem _ h2
        exact key l hn
      obtain ⟨x, hx, hx2⟩ := this
      have := oG (sy l.length) (l.erase x) (s8 _) fun y hy => by
        by_cases e : y = x
        · rw [e]; exact hx2
        · exact (List.mem_erase_of_ne e).2 (h y hy)
      rw [pf, List.length_erase_of_mem hx] at this
      have : 0 < l.length := List.length_pos_of_mem hx
      omega
    · refine Int.not_lt.1 fun hlt => ?_
      have := oG (sy l.length) (l.erase x) (s8 _) fun y hy => by
        have hy' := jz.1 hy
        exact (List.mem_erase_of_ne (by omega)).2 (h y hy)
      rw [pf, List.length_erase_of_mem hx] at this
      have : 0 < l.length := List.length_pos_of_mem hx
      omega
  · rintro ⟨hn, hb⟩ x hx
    refine Classical.byContradiction fun hxl => ?_
    have := oG (x :: l) (sy l.length) (List.nodup_cons.2 ⟨hxl, hn⟩) fun y hy => by
      rcases List.mem_cons.1 hy with rfl | hy
      · exact hx
      · exact jz.2 ⟨h1 y hy, hb y hy⟩
    rw [pf, List.length_cons] at this
    omega
def jK (n : Int) : List Int → List Int → Bool
  | _, [] => true
  | seen, x :: xs => decide (x ≤ n) && (!has seen x && jK n (seen ++ [x]) xs)
theorem qI (n : Int) : ∀ (xs seen : List Int), jK n seen xs = true ↔ (∀ x ∈ xs, x ≤ n) ∧ xs.Nodup ∧ ∀ x ∈ xs, x ∉ seen
  | [], seen => by simp [jK]
  | x :: xs, seen => by
    simp only [jK, Bool.and_eq_true, decide_eq_true_eq, qI n xs, Bool.not_eq_true', List.nodup_cons]
    have hh : has seen x = false ↔ x ∉ seen := by rw [← oI]; simp
    rw [hh]
    constructor
    · rintro ⟨h1, h2, h3, h4, h5⟩
      refine ⟨fun y hy => ?_, ⟨fun hx => h5 x hx (by simp), h4⟩, fun y hy => ?_⟩
      · rcases List.mem_cons.1 hy with rfl | hy
        · exact h1
        · exact h3 y hy
      · rcases List.mem_cons.1 hy with rfl | hy
        · exact h2
        · exact fun h => h5 y hy (by simp [h])
    · rintro ⟨h1, ⟨h2, h3⟩, h4⟩
      refine ⟨h1 x (by simp), h4 x (by simp), fun y hy => h1 y (by simp [hy]), h3, fun y hy h => ?_⟩
      rcases List.mem_append.1 h with h | h
      · exact h4 y (by simp [hy]) h
      · simp only [List.mem_singleton] at h; exact h2 (h ▸ hy)
theorem wP {l : List Int} (h1 : ∀ x ∈ l, 1 ≤ x) : jK l.length [] l = jm l := by
  have a := qI l.length l []
  have b := sk h1
  cases h : jK l.length [] l with
  | true =>
    have := a.1 h
    exact (b.2 ⟨this.2.1, this.1⟩).symm
  | false =>
    cases h' : jm l with
    | false => rfl
    | true =>
      have := b.1 h'
      rw [a.2 ⟨this.2, this.1, fun _ _ h => by cases h⟩] at h
      cases h
theorem kA {t : Tab} (h : dU t = true) : ∀ x ∈ t.2.flatten, 1 ≤ x ∧ x ≤ 9 := by
  intro x hx
  simp only [dU, Bool.and_eq_true] at h
  obtain ⟨r, hr, hxr⟩ := List.mem_flatten.1 hx
  obtain ⟨i, hi, e⟩ := List.mem_iff_getElem.1 hr
  obtain ⟨q, hq, e2⟩ := List.mem_iff_getElem.1 hxr
  have h1 := dD.1 h.2 i hi
  rw [ay hi, e] at h1
  have h2 := dD.1 h1 q hq
  simp only [eA, within, Bool.and_eq_true, decide_eq_true_eq] at h2
  rw [ay hi, e, ay hq, e2] at h2
  exact h2.1
theorem oK (inner : List Int) (h : ∀ q, 0 ≤ inner.getD q 0) : ∀ (rs : List (List Int)) (i : Nat), (rs.flatten.length : Int) ≤ im (dZ inner i rs)
  | [], i => by simp [dZ, im]
  | r :: rs, i => by
    have := oK inner h rs (i + 1)
    have := h i
    simp only [dZ, im, List.flatten_cons, List.length_append]
    omega
theorem vp {t : Tab} (h : dU t = true) : t.2.flatten.length ≤ 9 := by
  have hs := nq h
  simp only [cU, dp, Bool.and_eq_true] at hs
  have h9 := (b6 hs.2.2.2.1).2.1
  have := oK t.1 (fun q => by
    have := (cS hs.1 q).1
    rw [ch] at this; exact this) t.2 0
  unfold outer at h9
  omega
def dv (t : Tab) : Bool := dU t && jm t.2.flatten
end Go.Am.Pu
end
section
/- Plain laws of draws, and of boxes. -/
namespace Go.Am.Pu
open Go Go.Am
attribute [local instance] D.real
end Go.Am.Pu
end
section
/- Steps over equations: what a word comes to, told by what must hold of it. -/
namespace Go.Am.Pu
open Go Go.Am
attribute [local instance] D.real
section
variable {α β : Type}
def Ok (x : Option α) (Q : α → Prop) : Prop := ∃ y, x = some y ∧ Q y
theorem Ok.ret {y : α} {Q : α → Prop} (h : Q y) : Ok (some y) Q := ⟨y, rfl, h⟩
theorem Ok.mono {x : Option α} {P Q : α → Prop} (h : Ok x P) (g : ∀ y, P y → Q y) : Ok x Q :=
  let ⟨y, e, hp⟩ := h
  ⟨y, e, g y hp⟩
theorem Ok.bnd {x : Option α} {f : α → Option β} {P : α → Prop} {Q : β → Prop} (h : Ok x P) (g : ∀ y, P y → Ok (f y) Q) : Ok (D.bnd x f) Q := by
  obtain ⟨y, e, hp⟩ := h
  rw [e]
  exact g y hp
theorem Ok.t {p : Prop} [Decidable p] {x y : Option α} {Q : α → Prop} (h1 : p → Ok x Q) (h2 : ¬ p → Ok y Q) : Ok (D.test (decide p) x y) Q := by
  show Ok (if decide p = true then x else y) Q
  by_cases h : p
  · rw [if_pos (decide_eq_true h)]; exact h1 h
  · rw [if_neg (by rw [decide_eq_false h]; simp)]; exact h2 h
theorem Ok.tb {b : Bool} {x y : Option α} {Q : α → Prop} (h1 : b = true → Ok x Q) (h2 : b = false → Ok y Q) : Ok (D.test b x y) Q := by
  cases b
  · exact h2 rfl
  · exact h1 rfl
theorem Ok.g {p : Prop} [Decidable p] {x y : Option α} {Q : α → Prop} (h : p) (g : Ok x Q) : Ok (D.test (decide p) x y) Q := Ok.t (fun _ => g) (fun h' => absurd h h')
theorem Ok.no {p : Prop} [Decidable p] {x y : Option α} {Q : α → Prop} (h : ¬ p) (g : Ok y Q) : Ok (D.test (decide p) x y) Q := Ok.t (fun h' => absurd h' h) (fun _ => g)
theorem Ok.some {x : Option α} {Q : α → Prop} (h : Ok x Q) : ∃ y, x = Option.some y := let ⟨y, e, _⟩ := h; ⟨y, e⟩
end
def dy (n m : Nat) (rs : List (List Int)) : Prop := rs.length ≤ n ∧ ∀ r ∈ rs, r.length ≤ m
theorem dy.at {n m : Nat} {rs : List (List Int)} (h : dy n m rs) (i : Nat) : (rs.getD i []).length ≤ m := by
  by_cases hi : i < rs.length
  · rw [ay hi]; exact h.2 _ (List.getElem_mem hi)
  · rw [bU (by omega)]; simp
theorem dy.set {n m : Nat} {rs : List (List Int)} (h : dy n m rs) (i : Nat) {r : List Int} (hr : r.length ≤ m) : dy n m (rs.set i r) := by
  refine ⟨by rw [List.length_set]; exact h.1, fun x hx => ?_⟩
  rcases List.mem_or_eq_of_mem_set hx with h' | rfl
  · exact h.2 x h'
  · exact hr
theorem dy.mono {n m n' m' : Nat} {rs : List (List Int)} (h : dy n m rs) (hn : n ≤ n') (hm : m ≤ m') : dy n' m' rs :=
  ⟨Nat.le_trans h.1 hn, fun x hx => Nat.le_trans (h.2 x hx) hm⟩
theorem dy.app {n m : Nat} {rs : List (List Int)} (h : dy n m rs) {r : List Int} (hr : r.length ≤ m) : dy (n + 1) m (rs ++ [r]) := by
  refine ⟨by rw [List.length_append]; simp; exact h.1, fun x hx => ?_⟩
  rcases List.mem_append.1 hx with h' | h'
  · exact h.2 x h'
  · simp only [List.mem_singleton] at h'; subst h'; exact hr
end Go.Am.Pu
end
section
/- Corners; a number taken out of rows. Plain words. -/
namespace Go.Am.Pu
def j5 (p : List Int) : Nat → Nat → List Int
  | 0, _ => []
  | m + 1, i => if p.getD (i + 1) 0 < p.getD i 0 then (i : Int) :: j5 p m (i + 1) else j5 p m (i + 1)
def kH (p : List Int) : List Int := if cj p = true then j5 p p.length 0 else []
theorem sK (p : List Int) : ∀ (m i : Nat), (j5 p m i).length ≤ m
  | 0, _ => by simp [j5]
  | m + 1, i => by
    have := sK p m (i + 1)
    unfold j5
    split <;> simp <;> omega
theorem qN (p : List Int) : (kH p).length ≤ p.length := by
  unfold kH
  split
  · exact sK _ _ _
  · simp
theorem pQ : ∀ {p : List Int} {prev s : Int}, fF p prev s = true → ∀ i, i + 1 < p.length → p.getD (i + 1) 0 ≤ p.getD i 0
  | [], _, _, _, i, h => by simp at h
  | [x], _, _, _, i, h => by simp at h
  | x :: y :: xs, prev, s, hp, i, h => by
    simp only [fF, Bool.and_eq_true, decide_eq_true_eq] at hp
    cases i with
    | zero => simpa using hp.2.2.2.2.1
    | succ i =>
      have h2 : fF (y :: xs) x (s + x) = true := by
        simp only [fF, Bool.and_eq_true, decide_eq_true_eq]
        exact hp.2.2.2
      have := pQ h2 i (by simpa using h)
      simpa using this
theorem getD_set_ne {α : Type} {xs : List α} {i j : Nat} (h : j ≠ i) (x d : α) : (xs.set j x).getD i d = xs.getD i d := by
  simp only [List.getD_eq_getElem?_getD, List.getElem?_set]
  rw [if_neg h]
theorem cN {t : Tab} (h : bc t = true) : t.1 = [] := by
  simp only [bc, Bool.and_eq_true, decide_eq_true_eq] at h
  exact List.eq_nil_of_length_eq_zero h.2
theorem dQ {t : Tab} (h : bc t = true) {i : Nat} (hi : i < t.2.length) : (outer t).getD i 0 = (t.2.getD i []).length := by
  have e := fb t.1 t.2 0 i hi
  rw [cN h] at e
  unfold outer
  rw [cN h, e]
  simp
theorem gZ {t : Tab} (h : bc t = true) : cj (outer t) = true := by
  simp only [bc, Bool.and_eq_true] at h
  have hs := nq h.1
  simp only [cU, dp, Bool.and_eq_true] at hs
  exact hs.2.2.2.1
theorem cb (t : Tab) : (outer t).length = t.2.length := by unfold outer; rw [jy]
theorem jg {t : Tab} (h : bc t = true) : dy 9 9 t.2 := by
  have h9 := j6 h
  have hl := (b6 (gZ h)).2.2.1
  rw [cb] at hl
  exact ⟨hl, fun r hr => by have := wy hr; omega⟩
theorem od {t : Tab} (h : bc t = true) : ∀ i, i + 1 < t.2.length → (t.2.getD (i + 1) []).length ≤ (t.2.getD i []).length ∧ ∀ q, q < (t.2.getD (i + 1) []).length → (t.2.getD i []).getD q 0 < (t.2.getD (i + 1) []).getD q 0 := by
  intro i hi
  have hm := pQ (show fF (outer t) 9 0 = true from gZ h) i (by rw [cb]; exact hi)
  rw [dQ h hi, dQ h (by omega)] at hm
  have hl : (t.2.getD (i + 1) []).length ≤ (t.2.getD i []).length := by omega
  refine ⟨hl, fun q hq => ?_⟩
  have ht := h
  simp only [bc, Bool.and_eq_true] at ht
  have ht := ht.1
  simp only [dU, Bool.and_eq_true] at ht
  have h1 := dD.1 (dD.1 ht.2 (i + 1) hi) q hq
  simp only [eA, Bool.and_eq_true, Bool.or_eq_true, decide_eq_true_eq] at h1
  have h2 := h1.2.2.resolve_left (by omega)
  rw [cN h] at h2
  have e : ((i + 1 : Nat) : Int) - 1 = (i : Int) := by omega
  have e2 : ([] : List Int).getD (i + 1) 0 + (q : Int) = ([] : List Int).getD i 0 + (q : Int) := by simp
  rw [e, e2] at h2
  have ee : entry t (i : Int) (([] : List Int).getD i 0 + (q : Int)) = (t.2.getD i []).getD q 0 := by
    have := vk (t := t) (r := i) (q := q) (by omega)
    rw [cN h] at this
    exact this
  rw [ee] at h2
  exact h2
end Go.Am.Pu
end
section
/- Rows with noughts in front; a box taken from a partition. Plain words. -/
namespace Go.Am.Pu
def qo (a : List (List Int)) (i c : Int) : Int := if i < 0 then 0 else atI (a.getD i.toNat []) c
theorem nr (a : List (List Int)) (i j : Nat) : qo a i j = (a.getD i []).getD j 0 := by
  unfold qo
  rw [if_neg (by omega), ch, Int.toNat_natCast]
theorem xV {a : List (List Int)} {i c : Int} (h : i < 0) : qo a i c = 0 := by unfold qo; rw [if_pos h]
theorem zr {a : List (List Int)} {i c : Int} (h : (a.length : Int) ≤ i) : qo a i c = 0 := by
  unfold qo
  rw [if_neg (by omega), bU (by omega)]
  unfold atI
  split <;> simp
def cf (t : Tab) : List (List Int) := (List.range' 0 t.2.length).map fun i => List.replicate (t.1.getD i 0).toNat 0 ++ t.2.getD i []
theorem gu (t : Tab) : (cf t).length = t.2.length := by simp [cf]
theorem oE {t : Tab} {i : Nat} (h : i < t.2.length) : (cf t).getD i [] = List.replicate (t.1.getD i 0).toNat 0 ++ t.2.getD i [] := by
  rw [ay (by rw [gu]; exact h)]
  simp [cf]
theorem ss (p : List Int) : ∀ (m i n : Nat), i ≤ n → n < i + m → p.getD (n + 1) 0 < p.getD n 0 → (n : Int) ∈ j5 p m i
  | 0, i, n, h1, h2, _ => by omega
  | m + 1, i, n, h1, h2, h3 => by
    unfold j5
    by_cases e : n = i
    · subst e
      rw [if_pos h3]
      exact List.mem_cons_self
    · have ih := ss p m (i + 1) n (by omega) (by omega) h3
      split
      · exact List.mem_cons_of_mem _ ih
      · exact ih
theorem qz {p : List Int} {n : Nat} (hp : cj p = true) (hn : n < p.length) (h : p.getD (n + 1) 0 < p.getD n 0) : has (kH p) n = true := by
  rw [oI]
  unfold kH
  rw [if_pos hp]
  exact ss p p.length 0 n (by omega) (by omega) h
def aT (p : List Int) (n : Nat) : List Int := if p.getD n 0 - 1 = 0 then p.take n else p.set n (p.getD n 0 - 1)
theorem jB (p : List Int) (n : Nat) : (aT p n).length ≤ p.length := by
  unfold aT
  split
  · rw [List.length_take]; omega
  · rw [List.length_set]; exact Nat.le_refl _
end Go.Am.Pu
end
section
/- A slide: the hole goes right or down until nothing is there. Plain words. -/
namespace Go.Am.Pu
def cel (g : List (List Int)) (r c : Nat) : Int := (g.getD r []).getD c 0
def eI (g : List (List Int)) (r c : Nat) (v : Int) : List (List Int) := g.set r ((g.getD r []).set c v)
def bL : Nat → List (List Int) → Nat → Nat → List (List Int) × (Nat × Nat)
  | 0, g, i, c => (g, (i, c))
  | m + 1, g, i, c => if cel g i (c + 1) = 0 ∧ cel g (i + 1) c = 0 then (g, (i, c))
    else if cel g i (c + 1) = 0 ∨ (0 < cel g (i + 1) c ∧ cel g (i + 1) c ≤ cel g i (c + 1)) then bL m (eI g i c (cel g (i + 1) c)) (i + 1) c
    else bL m (eI g i c (cel g i (c + 1))) i (c + 1)
theorem pG {g : List (List Int)} {r c : Nat} (h : cel g r c ≠ 0) : r < g.length ∧ c < (g.getD r []).length := by
  unfold cel at h
  by_cases h1 : r < g.length
  · refine ⟨h1, ?_⟩
    by_cases h2 : c < (g.getD r []).length
    · exact h2
    · exact absurd (bU (by omega) 0) h
  · rw [bU (xs := g) (by omega)] at h
    simp at h
theorem dw (g : List (List Int)) (r c : Nat) (v : Int) : (eI g r c v).length = g.length := by unfold eI; rw [List.length_set]
theorem b9 (g : List (List Int)) (r c : Nat) (v : Int) (q : Nat) : ((eI g r c v).getD q []).length = (g.getD q []).length := by
  unfold eI
  by_cases e : q = r
  · subst e
    by_cases h : q < g.length
    · rw [ay (by rw [List.length_set]; exact h), List.getElem_set_self, List.length_set]
    · rw [bU (by rw [List.length_set]; omega), bU (by omega)]
  · rw [getD_set_ne (Ne.symm e)]
theorem iy {g : List (List Int)} {r c : Nat} (v : Int) (h1 : r < g.length) (h2 : c < (g.getD r []).length) : cel (eI g r c v) r c = v := by
  unfold cel eI
  rw [ay (xs := g.set r _) (by rw [List.length_set]; exact h1), List.getElem_set_self, ay (by rw [List.length_set]; exact h2), List.getElem_set_self]
theorem fV {g : List (List Int)} {r c q x : Nat} (v : Int) (h : ¬ (q = r ∧ x = c)) : cel (eI g r c v) q x = cel g q x := by
  unfold cel eI
  by_cases e : q = r
  · subst e
    have hx : x ≠ c := fun e => h ⟨rfl, e⟩
    by_cases hl : q < g.length
    · rw [ay (xs := g.set q _) (by rw [List.length_set]; exact hl), List.getElem_set_self, getD_set_ne (Ne.symm hx)]
    · rw [bU (xs := g.set q _) (by rw [List.length_set]; omega), bU (xs := g) (by omega)]
  · rw [getD_set_ne (Ne.symm e)]
structure Sl (q : List Int) (g : List (List Int)) (i c : Nat) : Prop where
  q0 : ∀ r, 0 ≤ q.getD r 0
  qm : ∀ r, q.getD (r + 1) 0 ≤ q.getD r 0
  lm : ∀ r, (g.getD (r + 1) []).length ≤ (g.getD r []).length
  hi : i < g.length
  hc : c < (g.getD i []).length
  hq : q.getD i 0 ≤ c
  pos : ∀ r x, 0 ≤ cel g r x
  num : ∀ r x : Nat, q.getD r 0 ≤ x → x < (g.getD r []).length → ¬ (r = i ∧ x = c) → 1 ≤ cel g r x ∧ cel g r x ≤ 9
  row : ∀ r x : Nat, q.getD r 0 ≤ x → x + 1 < (g.getD r []).length → ¬ (r = i ∧ x = c) → ¬ (r = i ∧ x + 1 = c) → cel g r x ≤ cel g r (x + 1)
  col : ∀ r x : Nat, q.getD r 0 ≤ x → x < (g.getD (r + 1) []).length → ¬ (r = i ∧ x = c) → ¬ (r + 1 = i ∧ x = c) → cel g r x < cel g (r + 1) x
  rowH : ∀ x : Nat, x + 1 = c → q.getD i 0 ≤ x → c + 1 < (g.getD i []).length → cel g i x ≤ cel g i (c + 1)
  colH : ∀ r : Nat, r + 1 = i → q.getD r 0 ≤ c → c < (g.getD (i + 1) []).length → cel g r c < cel g (i + 1) c
theorem Sl.down {q : List Int} {g : List (List Int)} {i c : Nat} (h : Sl q g i c) (hb : cel g (i + 1) c ≠ 0) (hr : cel g i (c + 1) = 0 ∨ (0 < cel g (i + 1) c ∧ cel g (i + 1) c ≤ cel g i (c + 1))) :
    Sl q (eI g i c (cel g (i + 1) c)) (i + 1) c := by
  obtain ⟨b1, b2⟩ := pG hb
  have hqm := h.qm i
  have hq := h.hq
  have hbn := h.num (i + 1) c (by omega) b2 (by omega)
  have e0 := iy (cel g (i + 1) c) h.hi h.hc
  have en : ∀ r x, ¬ (r = i ∧ x = c) → cel (eI g i c (cel g (i + 1) c)) r x = cel g r x := fun r x hh => fV _ hh
  refine ⟨h.q0, h.qm, fun r => ?_, ?_, ?_, by omega, fun r x => ?_, fun r x h1 h2 h3 => ?_, fun r x h1 h2 h3 h4 => ?_, fun r x h1 h2 h3 h4 => ?_, fun x h1 h2 h3 => ?_, fun r h1 h2 h3 => ?_⟩
  · rw [b9, b9]; exact h.lm r
  · rw [dw]; exact b1
  · rw [b9]; exact b2
  · by_cases e : r = i ∧ x = c
    · rw [e.1, e.2, e0]; exact h.pos _ _
    · rw [en r x e]; exact h.pos _ _
  · rw [b9] at h2
    by_cases e : r = i ∧ x = c
    · rw [e.1, e.2, e0]; exact hbn
    · rw [en r x e]; exact h.num r x h1 h2 e
  · rw [b9] at h2
    by_cases e : r = i ∧ x = c
    · obtain ⟨rfl, rfl⟩ := e
      rw [e0, en _ _ (by omega)]
      rcases hr with hr | hr
      · have := (h.num r (x + 1) (by omega) h2 (by omega)).1
        omega
      · exact hr.2
    · rw [en r x e]
      by_cases e' : r = i ∧ x + 1 = c
      · obtain ⟨rfl, rfl⟩ := e'
        rw [e0]
        have hl := h.lm r
        have h5 := h.col r x h1 (by omega) (by omega) (by omega)
        have h6 := h.row (r + 1) x (by omega) (by omega) (by omega) (by omega)
        omega
      · rw [en r (x + 1) e']; exact h.row r x h1 h2 e e'
  · rw [b9] at h2
    by_cases e : r = i ∧ x = c
    · exact (h4 ⟨by omega, e.2⟩).elim
    · rw [en r x e]
      by_cases e' : r + 1 = i ∧ x = c
      · obtain ⟨rfl, rfl⟩ := e'
        rw [e0]
        exact h.colH r rfl h1 b2
      · rw [en (r + 1) x e']
        exact h.col r x h1 h2 e e'
  · rw [b9] at h3
    rw [en _ _ (by omega), en _ _ (by omega)]
    have h5 := h.row (i + 1) x h2 (by omega) (by omega) (by omega)
    have h6 := h.row (i + 1) c (by omega) h3 (by omega) (by omega)
    subst h1
    omega
  · rw [b9] at h3
    have : r = i := by omega
    subst this
    rw [e0, en _ _ (by omega)]
    exact h.col (r + 1) c (by omega) h3 (by omega) (by omega)
theorem Sl.right {q : List Int} {g : List (List Int)} {i c : Nat} (h : Sl q g i c) (hr : cel g i (c + 1) ≠ 0) (hb : ¬ (0 < cel g (i + 1) c ∧ cel g (i + 1) c ≤ cel g i (c + 1))) :
    Sl q (eI g i c (cel g i (c + 1))) i (c + 1) := by
  obtain ⟨b1, b2⟩ := pG hr
  have hq := h.hq
  have hrn := h.num i (c + 1) (by omega) b2 (by omega)
  have e0 := iy (cel g i (c + 1)) h.hi h.hc
  have en : ∀ r x, ¬ (r = i ∧ x = c) → cel (eI g i c (cel g i (c + 1))) r x = cel g r x := fun r x hh => fV _ hh
  refine ⟨h.q0, h.qm, fun r => ?_, ?_, ?_, by omega, fun r x => ?_, fun r x h1 h2 h3 => ?_, fun r x h1 h2 h3 h4 => ?_, fun r x h1 h2 h3 h4 => ?_, fun x h1 h2 h3 => ?_, fun r h1 h2 h3 => ?_⟩
  · rw [b9, b9]; exact h.lm r
  · rw [dw]; exact b1
  · rw [b9]; exact b2
  · by_cases e : r = i ∧ x = c
    · rw [e.1, e.2, e0]; exact h.pos _ _
    · rw [en r x e]; exact h.pos _ _
  · rw [b9] at h2
    by_cases e : r = i ∧ x = c
    · rw [e.1, e.2, e0]; exact hrn
    · rw [en r x e]; exact h.num r x h1 h2 e
  · rw [b9] at h2
    by_cases e : r = i ∧ x = c
    · exact (h4 ⟨e.1, by omega⟩).elim
    · rw [en r x e]
      by_cases e' : r = i ∧ x + 1 = c
      · obtain ⟨rfl, rfl⟩ := e'
        rw [e0]
        exact h.rowH x rfl h1 b2
      · rw [en r (x + 1) e']; exact h.row r x h1 h2 e e'
  · rw [b9] at h2
    by_cases e : r = i ∧ x = c
    · obtain ⟨rfl, rfl⟩ := e
      rw [e0, en _ _ (by omega)]
      have hqm := h.qm r
      have h5 := (h.num (r + 1) x (by omega) h2 (by omega)).1
      omega
    · rw [en r x e]
      by_cases e' : r + 1 = i ∧ x = c
      · obtain ⟨rfl, rfl⟩ := e'
        rw [e0]
        have hl := h.lm r
        have h5 := h.row r x h1 (by omega) (by omega) (by omega)
        have h6 := h.col r (x + 1) (by omega) b2 (by omega) (by omega)
        omega
      · rw [en (r + 1) x e']
        exact h.col r x h1 h2 e e'
  · rw [b9] at h3
    have : x = c := by omega
    subst this
    rw [e0, en _ _ (by omega)]
    exact h.row i (x + 1) (by omega) h3 (by omega) (by omega)
  · rw [b9] at h3
    rw [en _ _ (by omega), en _ _ (by omega)]
    subst h1
    have h5 := h.col r (c + 1) h2 (by omega) (by omega) (by omega)
    have h6 := h.col (r + 1) (c + 1) (by omega) h3 (by omega) (by omega)
    omega
end Go.Am.Pu
end
section
/- A slide's end and its start. Plain words. -/
namespace Go.Am.Pu
theorem oc {q : List Int} {w : Nat} : ∀ (m : Nat) (g : List (List Int)) (i c : Nat), Sl q g i c → (∀ r, (g.getD r []).length ≤ w) → g.length + w ≤ i + c + m →
    Sl q (bL m g i c).1 (bL m g i c).2.1 (bL m g i c).2.2 ∧ (bL m g i c).1.length = g.length ∧ (∀ r, ((bL m g i c).1.getD r []).length = (g.getD r []).length) ∧
      cel (bL m g i c).1 (bL m g i c).2.1 ((bL m g i c).2.2 + 1) = 0 ∧ cel (bL m g i c).1 ((bL m g i c).2.1 + 1) (bL m g i c).2.2 = 0
  | 0, g, i, c, h, hw, hm => by
    have h1 := h.hi
    have h2 := h.hc
    have h3 := hw i
    omega
  | m + 1, g, i, c, h, hw, hm => by
    unfold bL
    by_cases c1 : cel g i (c + 1) = 0 ∧ cel g (i + 1) c = 0
    · rw [if_pos c1]
      exact ⟨h, rfl, fun _ => rfl, c1.1, c1.2⟩
    · rw [if_neg c1]
      by_cases c2 : cel g i (c + 1) = 0 ∨ (0 < cel g (i + 1) c ∧ cel g (i + 1) c ≤ cel g i (c + 1))
      · rw [if_pos c2]
        have hd := h.down (by
          intro e
          rcases c2 with c2 | c2
          · exact c1 ⟨c2, e⟩
          · omega) c2
        obtain ⟨a1, a2, a3, a4, a5⟩ := oc (q := q) (w := w) m _ _ _ hd (fun r => by rw [b9]; exact hw r) (by rw [dw]; omega)
        exact ⟨a1, by rw [a2, dw], fun r => by rw [a3, b9], a4, a5⟩
      · rw [if_neg c2]
        have hd := h.right (fun e => c2 (.inl e)) (fun e => c2 (.inr e))
        obtain ⟨a1, a2, a3, a4, a5⟩ := oc (q := q) (w := w) m _ _ _ hd (fun r => by rw [b9]; exact hw r) (by rw [dw]; omega)
        exact ⟨a1, by rw [a2, dw], fun r => by rw [a3, b9], a4, a5⟩
theorem Sl.AE {q : List Int} {g : List (List Int)} {i c : Nat} (h : Sl q g i c) (hr : cel g i (c + 1) = 0) : (g.getD i []).length = c + 1 := by
  have h1 := h.hc
  have h2 := h.hq
  refine Nat.le_antisymm (Nat.le_of_not_lt fun hlt => ?_) h1
  have := (h.num i (c + 1) (by omega) hlt (by omega)).1
  omega
theorem Sl.AF {q : List Int} {g : List (List Int)} {i c : Nat} (h : Sl q g i c) (hb : cel g (i + 1) c = 0) : (g.getD (i + 1) []).length ≤ c := by
  have h2 := h.hq
  have h3 := h.qm i
  refine Nat.le_of_not_lt fun hlt => ?_
  have := (h.num (i + 1) c (by omega) hlt (by omega)).1
  omega
theorem jf {p : List Int} (hp : cj p = true) (r : Nat) : p.getD (r + 1) 0 ≤ p.getD r 0 := by
  by_cases h : r + 1 < p.length
  · exact pQ hp r h
  · rw [bU (by omega)]
    have := (cS hp r).1
    rw [ch] at this
    exact this
theorem lA {p : List Int} {n : Nat} (hp : cj p = true) (hn : n < p.length) (hc : p.getD (n + 1) 0 < p.getD n 0) (r : Nat) : (aT p n).getD r 0 = if r = n then p.getD n 0 - 1 else p.getD r 0 := by
  unfold aT
  by_cases h : p.getD n 0 - 1 = 0
  · rw [if_pos h]
    have h0 := (cS hp (n + 1 : Nat)).1
    rw [ch] at h0
    have hl : p.length ≤ n + 1 := by
      refine Nat.le_of_not_lt fun hlt => ?_
      have := (b6 hp).1 _ (List.getElem_mem hlt)
      rw [← ay hlt 0] at this
      omega
    by_cases e : r = n
    · subst e
      rw [if_pos rfl, h, bU (by rw [List.length_take]; omega)]
    · rw [if_neg e]
      by_cases e2 : r < n
      · rw [ay (by rw [List.length_take]; omega), List.getElem_take, ay (by omega)]
      · rw [bU (by rw [List.length_take]; omega), bU (by omega)]
  · rw [if_neg h]
    by_cases e : r = n
    · subst e
      rw [if_pos rfl, ay (by rw [List.length_set]; exact hn), List.getElem_set_self]
    · rw [if_neg e, getD_set_ne (Ne.symm e)]
theorem lz {t : Tab} {r : Nat} (h : r < t.2.length) : ((cf t).getD r []).length = (t.1.getD r 0).toNat + (t.2.getD r []).length := by
  rw [oE h]; simp
theorem mo {t : Tab} {r : Nat} (h : r < t.2.length) (x : Nat) : cel (cf t) r x = if x < (t.1.getD r 0).toNat then 0 else (t.2.getD r []).getD (x - (t.1.getD r 0).toNat) 0 := by
  unfold cel
  rw [oE h]
  generalize (t.1.getD r 0).toNat = n
  generalize t.2.getD r [] = y
  by_cases c : x < n
  · rw [if_pos c]
    simp only [List.getD_eq_getElem?_getD]
    rw [List.getElem?_append_left (by rw [List.length_replicate]; exact c), List.getElem?_replicate, if_pos c]
    rfl
  · rw [if_neg c]
    simp only [List.getD_eq_getElem?_getD]
    rw [List.getElem?_append_right (by rw [List.length_replicate]; omega), List.length_replicate]
theorem oO {t : Tab} {r : Nat} (h : t.2.length ≤ r) : (cf t).getD r [] = [] := bU (by rw [gu]; exact h) []
structure Bz (t : Tab) : Prop where
  q0 : ∀ r, 0 ≤ t.1.getD r 0
  qm : ∀ r, t.1.getD (r + 1) 0 ≤ t.1.getD r 0
  lm : ∀ r, ((cf t).getD (r + 1) []).length ≤ ((cf t).getD r []).length
  num : ∀ r x : Nat, t.1.getD r 0 ≤ x → x < ((cf t).getD r []).length → 1 ≤ cel (cf t) r x ∧ cel (cf t) r x ≤ 9
  row : ∀ r x : Nat, t.1.getD r 0 ≤ x → x + 1 < ((cf t).getD r []).length → cel (cf t) r x ≤ cel (cf t) r (x + 1)
  col : ∀ r x : Nat, t.1.getD r 0 ≤ x → x < ((cf t).getD (r + 1) []).length → cel (cf t) r x < cel (cf t) (r + 1) x
end Go.Am.Pu
end
section
/- A tableau cell by cell; a slide's start. Plain words. -/
namespace Go.Am.Pu
theorem fQ {t : Tab} (h : dU t = true) : cj t.1 = true ∧ cj (outer t) = true ∧ t.1.length ≤ t.2.length ∧ (∀ i k, i < t.2.length → k < (t.2.getD i []).length → eA t i k = true) := by
  simp only [dU, cU, dp, Bool.and_eq_true, decide_eq_true_eq] at h
  obtain ⟨⟨h1, h2, h3, h4, h5⟩, h6⟩ := h
  refine ⟨h1, h4, h2, fun i k hi hk => ?_⟩
  rw [dD] at h6
  have := h6 i hi
  rw [dD] at this
  exact this k hk
theorem ju {t : Tab} (h : cj t.1 = true) (r : Nat) : (((cf t).getD r []).length : Int) = (outer t).getD r 0 := by
  have h0 := (cS h r).1
  rw [ch] at h0
  by_cases hr : r < t.2.length
  · rw [lz hr]
    have := fb t.1 t.2 0 r hr
    rw [Nat.zero_add] at this
    unfold outer
    rw [this]
    omega
  · rw [oO (by omega), bU (by rw [cb]; omega)]
    rfl
theorem nh {t : Tab} {r x : Nat} (h : x < ((cf t).getD r []).length) : r < t.2.length := by
  refine Nat.lt_of_not_le fun hle => ?_
  rw [oO hle] at h
  simp at h
theorem Bw {t : Tab} (h : dU t = true) : Bz t := by
  obtain ⟨hp, ho, hl, hc⟩ := fQ h
  have q0 : ∀ r, 0 ≤ t.1.getD r 0 := fun r => by
    have := (cS hp r).1
    rw [ch] at this
    exact this
  have at_ : ∀ r x : Nat, t.1.getD r 0 ≤ x → x < ((cf t).getD r []).length → ∃ k : Nat, (x : Int) = t.1.getD r 0 + k ∧ k < (t.2.getD r []).length ∧ cel (cf t) r x = (t.2.getD r []).getD k 0 := by
    intro r x h1 h2
    have hr := nh h2
    rw [lz hr] at h2
    have := q0 r
    refine ⟨x - (t.1.getD r 0).toNat, by omega, by omega, ?_⟩
    rw [mo hr, if_neg (by omega)]
  refine ⟨q0, jf hp, fun r => ?_, fun r x h1 h2 => ?_, fun r x h1 h2 => ?_, fun r x h1 h2 => ?_⟩
  · have a := ju hp r
    have b := ju hp (r + 1)
    have c := jf ho r
    omega
  · obtain ⟨k, e1, e2, e3⟩ := at_ r x h1 h2
    have := hc r k (nh h2) e2
    simp only [eA, within, Bool.and_eq_true, decide_eq_true_eq] at this
    rw [e3]
    exact this.1
  · obtain ⟨k, e1, e2, e3⟩ := at_ r x h1 (by omega)
    obtain ⟨k', e1', e2', e3'⟩ := at_ r (x + 1) (by omega) h2
    have : k' = k + 1 := by omega
    subst this
    have := hc r (k + 1) (nh h2) e2'
    simp only [eA, Bool.and_eq_true, Bool.or_eq_true, decide_eq_true_eq] at this
    rw [e3, e3']
    rcases this.2.1 with h | h
    · omega
    · simpa using h
  · have hm := jf hp r
    have a := ju hp r
    have b := ju hp (r + 1)
    have c := jf ho r
    obtain ⟨k, e1, e2, e3⟩ := at_ r x h1 (by omega)
    obtain ⟨k', e1', e2', e3'⟩ := at_ (r + 1) x (by omega) h2
    have := hc (r + 1) k' (nh h2) e2'
    simp only [eA, Bool.and_eq_true, Bool.or_eq_true, decide_eq_true_eq] at this
    rw [e3, e3']
    rcases this.2.2 with h | h
    · omega
    · have hr : r < t.2.length := by have := nh h2; omega
      have er : ((r + 1 : Nat) : Int) - 1 = (r : Int) := by omega
      rw [er, il hr, show t.1.getD (r + 1) 0 + (k' : Int) - t.1.getD r 0 = (k : Int) by omega, ch] at h
      exact h
theorem mS {t : Tab} (h : dU t = true) {n : Nat} (hn : n < t.1.length) (hc : t.1.getD (n + 1) 0 < t.1.getD n 0) :
    Sl (aT t.1 n) (cf t) n (t.1.getD n 0 - 1).toNat := by
  have hP := Bw h
  obtain ⟨hp, ho, hl, _⟩ := fQ h
  have h1 := hP.q0 (n + 1)
  have hd := lA hp hn hc
  have hne : t.2.length > n := by omega
  have hrow := lz hne
  have hlen : (t.1.getD n 0).toNat ≤ ((cf t).getD n []).length := by rw [hrow]; omega
  have old : ∀ r x : Nat, (aT t.1 n).getD r 0 ≤ x → ¬ (r = n ∧ x = (t.1.getD n 0 - 1).toNat) → t.1.getD r 0 ≤ x := by
    intro r x h2 h3
    rw [hd] at h2
    by_cases e : r = n
    · subst e
      rw [if_pos rfl] at h2
      have : x ≠ (t.1.getD r 0 - 1).toNat := fun e => h3 ⟨rfl, e⟩
      omega
    · rw [if_neg e] at h2
      exact h2
  refine ⟨fun r => ?_, fun r => ?_, hP.lm, by rw [gu]; exact hne, by omega, by rw [hd, if_pos rfl]; omega, fun r x => ?_, fun r x h2 h3 h4 => hP.num r x (old r x h2 h4) h3,
    fun r x h2 h3 h4 h5 => hP.row r x (old r x h2 h4) h3, fun r x h2 h3 h4 h5 => hP.col r x (old r x h2 h4) h3, fun x h2 h3 h4 => ?_, fun r h2 h3 h4 => ?_⟩
  · rw [hd]
    have := hP.q0 r
    split <;> omega
  · rw [hd, hd]
    have := hP.qm r
    by_cases e : r = n
    · subst e
      rw [if_neg (by omega), if_pos rfl]; omega
    · rw [if_neg e]
      by_cases e2 : r + 1 = n
      · subst e2; rw [if_pos rfl]; omega
      · rw [if_neg e2]; exact this
  · by_cases hx : x < ((cf t).getD r []).length
    · have hr := nh hx
      by_cases hq : t.1.getD r 0 ≤ x
      · have := (hP.num r x hq hx).1; omega
      · rw [mo hr, if_pos (by omega)]; exact Int.le_refl _
    · unfold cel
      rw [bU (by omega)]; exact Int.le_refl _
  ·
    rw [hd, if_pos rfl] at h3
    omega
  ·
    rw [hd, if_neg (by omega)] at h3
    subst h2
    have := hP.qm r
    omega
end Go.Am.Pu
end
section
/- A partition less a box; the tableau that a slide leaves. Plain words. -/
namespace Go.Am.Pu
theorem oU : ∀ (p : List Int) (prev s : Int), (∀ x ∈ p, 1 ≤ x) → (0 < p.length → p.getD 0 0 ≤ prev) → (∀ i, i + 1 < p.length → p.getD (i + 1) 0 ≤ p.getD i 0) → s + im p ≤ 9 → fF p prev s = true
  | [], _, _, _, _, _, _ => rfl
  | x :: xs, prev, s, h1, h2, h3, h4 => by
    have hs : ∀ (l : List Int), (∀ y ∈ l, 1 ≤ y) → 0 ≤ im l := by
      intro l
      induction l with
      | nil => intro _; simp [im]
      | cons y l ih =>
        intro h
        have a := h y List.mem_cons_self
        have b := ih (fun z hz => h z (List.mem_cons_of_mem _ hz))
        simp only [im]; omega
    have hx := h1 x List.mem_cons_self
    have hxs := hs xs (fun z hz => h1 z (List.mem_cons_of_mem _ hz))
    have h2' := h2 (by simp)
    simp only [List.getD_cons_zero] at h2'
    simp only [im] at h4
    have ih := oU xs x (s + x) (fun z hz => h1 z (List.mem_cons_of_mem _ hz)) (fun hl => by have := h3 0 (by simpa using hl); simpa using this) (fun i hi => by have := h3 (i + 1) (by simpa using hi); simpa using this) (by omega)
    simp only [fF, Bool.and_eq_true, decide_eq_true_eq]
    exact ⟨hx, h2', by omega, ih⟩
theorem uW : ∀ (p : List Int) (n : Nat) (v : Int), n < p.length → im (p.set n v) = im p - p.getD n 0 + v
  | [], n, v, h => by simp at h
  | x :: xs, 0, v, _ => by simp [im]; omega
  | x :: xs, n + 1, v, h => by
    have := uW xs n v (by simpa using h)
    simp only [List.set_cons_succ, im, List.getD_cons_succ, this]
    omega
theorem xA : ∀ (p : List Int) (n : Nat), p.length = n + 1 → im (p.take n) = im p - p.getD n 0
  | [], n, h => by simp at h
  | [x], 0, _ => by simp [im]
  | x :: xs, n + 1, h => by
    have := xA xs n (by simpa using h)
    simp only [List.take_succ_cons, im, List.getD_cons_succ, this]
    omega
  | x :: y :: xs, 0, h => by simp at h
theorem pH {p : List Int} {n : Nat} (hp : cj p = true) (hc : p.getD (n + 1) 0 < p.getD n 0) (h : p.getD n 0 - 1 = 0) : p.length ≤ n + 1 := by
  have h0 := (cS hp (n + 1 : Nat)).1
  rw [ch] at h0
  refine Nat.le_of_not_lt fun hlt => ?_
  have := (b6 hp).1 _ (List.getElem_mem hlt)
  rw [← ay hlt 0] at this
  omega
theorem sg {p : List Int} {n : Nat} (hp : cj p = true) (hn : n < p.length) (hc : p.getD (n + 1) 0 < p.getD n 0) {i : Nat} (hi : i < (aT p n).length) : 1 ≤ (aT p n).getD i 0 := by
  rw [lA hp hn hc]
  have hl := jB p n
  have h1 : ∀ i, i < p.length → 1 ≤ p.getD i 0 := fun i hi => by
    rw [ay hi]
    exact ((b6 hp).1 _ (List.getElem_mem hi)).1
  by_cases h : p.getD n 0 - 1 = 0
  · unfold aT at hi
    rw [if_pos h, List.length_take] at hi
    rw [if_neg (by omega)]
    exact h1 i (by omega)
  · have a := h1 n hn
    have b := h1 i (by omega)
    split <;> omega
theorem tw {p : List Int} {n : Nat} (hp : cj p = true) (hn : n < p.length) (hc : p.getD (n + 1) 0 < p.getD n 0) : cj (aT p n) = true := by
  have hs := b6 hp
  have hg := lA hp hn hc
  have hpn : 1 ≤ p.getD n 0 := by
    rw [ay hn]
    exact (hs.1 _ (List.getElem_mem hn)).1
  refine oU _ _ _ (fun x hx => ?_) (fun _ => ?_) (fun i _ => ?_) ?_
  · obtain ⟨i, hi, rfl⟩ := List.getElem_of_mem hx
    rw [← ay hi 0]
    exact sg hp hn hc hi
  · rw [hg]
    have : ∀ i, p.getD i 0 ≤ 9 := fun i => by
      have := (cS hp i).2
      rw [ch] at this
      exact this
    have a := this 0
    have b := this n
    split <;> omega
  · rw [hg, hg]
    have := jf hp i
    by_cases e : i = n
    · subst e
      rw [if_neg (by omega), if_pos rfl]; omega
    · rw [if_neg e]
      by_cases e2 : i + 1 = n
      · subst e2; rw [if_pos rfl]; omega
      · rw [if_neg e2]; exact this
  · have h9 := hs.2.1
    unfold aT
    split
    · next h =>
      have hl := pH hp hc h
      rw [xA p n (by omega)]
      omega
    · rw [uW p n _ hn]
      omega
def cZ (q : List Int) (g : List (List Int)) (n : Nat) : List (List Int) := (List.range' 0 n).map fun r => (g.getD r []).drop (q.getD r 0).toNat
theorem dJ (q : List Int) (g : List (List Int)) (n : Nat) : (cZ q g n).length = n := by simp [cZ]
theorem jj {q : List Int} {g : List (List Int)} {n r : Nat} (h : r < n) : (cZ q g n).getD r [] = (g.getD r []).drop (q.getD r 0).toNat := by
  rw [ay (by rw [dJ]; exact h)]
  simp [cZ]
def jx (g : List (List Int)) (i c : Nat) : List (List Int) := g.set i ((g.getD i []).take c)
def eM (t : Tab) (n : Nat) : List (List Int) × (Nat × Nat) := bL 18 (cf t) n (t.1.getD n 0 - 1).toNat
def fw (t : Tab) (n : Nat) : Tab × Nat :=
  let s := eM t n
  ((aT t.1 n, cZ (aT t.1 n) (jx s.1 s.2.1 s.2.2) (aT (outer t) s.2.1).length), s.2.1)
end Go.Am.Pu
namespace Go.Am.Pu
def iU (t : Tab) (r : Nat) : List Int := (List.range' 0 11).map fun c => entry t (r : Int) ((c : Nat) : Int)
def ly (t : Tab) : List (List Int) := (List.range' 0 11).map fun r => iU t r
theorem je (t : Tab) (r : Nat) : (iU t r).length = 11 := by simp [iU]
theorem rB {t : Tab} {r c : Nat} (h : c < 11) : (iU t r).getD c 0 = entry t r c := by
  rw [ay (by rw [je]; exact h)]
  simp [iU]
theorem oy (t : Tab) : (ly t).length = 11 := by simp [ly]
theorem ur {t : Tab} {r : Nat} (h : r < 11) : (ly t).getD r [] = iU t r := by
  rw [ay (by rw [oy]; exact h)]
  simp [ly]
theorem xL {t : Tab} (hp : cj t.1 = true) {r c : Nat} (h1 : r < 11) (h2 : c < 11) : cel (ly t) r c = cel (cf t) r c := by
  have h0 := (cS hp r).1
  rw [ch] at h0
  unfold cel
  rw [ur h1, rB h2]
  by_cases hr : r < t.2.length
  · rw [il hr]
    have := mo hr c
    unfold cel at this
    rw [this]
    by_cases hc : c < (t.1.getD r 0).toNat
    · rw [if_pos hc, lP (by omega)]
    · rw [if_neg hc, show (c : Int) - t.1.getD r 0 = ((c - (t.1.getD r 0).toNat : Nat) : Int) by omega, ch]
  · rw [oO (by omega)]
    unfold entry
    rw [if_neg (by omega), if_pos (by omega)]
    simp
end Go.Am.Pu
end
section
/- What a slide leaves. Plain words. -/
namespace Go.Am.Pu
theorem uK {g : List (List Int)} {i c r : Nat} (hi : i < g.length) : (jx g i c).getD r [] = if r = i then (g.getD i []).take c else g.getD r [] := by
  unfold jx
  by_cases e : r = i
  · subst e
    rw [if_pos rfl, ay (by rw [List.length_set]; exact hi), List.getElem_set_self]
  · rw [if_neg e, getD_set_ne (Ne.symm e)]
theorem lN (g : List (List Int)) (i c : Nat) : (jx g i c).length = g.length := by unfold jx; rw [List.length_set]
theorem xx {g : List (List Int)} {i c r x : Nat} (hi : i < g.length) (hx : x < ((jx g i c).getD r []).length) : cel (jx g i c) r x = cel g r x := by
  unfold cel
  rw [uK hi] at hx ⊢
  by_cases e : r = i
  · subst e
    rw [if_pos rfl] at hx ⊢
    rw [List.length_take] at hx
    rw [ay (by rw [List.length_take]; exact hx), List.getElem_take]
    exact (ay (by omega) 0).symm
  · rw [if_neg e]
structure tj (t : Tab) (n : Nat) (g : List (List Int)) (i c : Nat) : Prop where
  sl : Sl (aT t.1 n) g i c
  len : g.length = t.2.length
  row : ∀ r, (g.getD r []).length = ((cf t).getD r []).length
  hi : i < (outer t).length
  end_ : (outer t).getD i 0 = c + 1
  cor : (outer t).getD (i + 1) 0 < (outer t).getD i 0
  cutl : ∀ r, (((jx g i c).getD r []).length : Int) = (aT (outer t) i).getD r 0
  ins : ∀ r, (aT t.1 n).getD r 0 ≤ (aT (outer t) i).getD r 0
  rows : dy 9 9 (jx g i c)
theorem yU {t : Tab} (h : dU t = true) {n : Nat} (hn : n < t.1.length) (hc : t.1.getD (n + 1) 0 < t.1.getD n 0) :
    tj t n (eM t n).1 (eM t n).2.1 (eM t n).2.2 ∧ cel (eM t n).1 (eM t n).2.1 ((eM t n).2.2 + 1) = 0 ∧ cel (eM t n).1 ((eM t n).2.1 + 1) (eM t n).2.2 = 0 := by
  obtain ⟨hp, ho, hl, _⟩ := fQ h
  have hout := ju hp
  have h9 : ∀ r, (outer t).getD r 0 ≤ 9 := fun r => by
    have := (cS ho r).2
    rw [ch] at this
    exact this
  have hol := cb t
  have ho9 := (b6 ho).2.2.1
  have hst := mS h hn hc
  have hok := oc (w := 9) 18 (cf t) n (t.1.getD n 0 - 1).toNat hst (fun r => by have := hout r; have := h9 r; omega) (by rw [gu]; omega)
  unfold eM
  generalize hS : bL 18 (cf t) n (t.1.getD n 0 - 1).toNat = S at hok
  obtain ⟨g, i, c⟩ := S
  obtain ⟨a1, a2, a3, a4, a5⟩ := hok
  simp only at a1 a2 a3 a4 a5 ⊢
  have er := a1.AE a4
  have ec := a1.AF a5
  have o1 := hout i
  have o2 := hout (i + 1)
  rw [← a3] at o1 o2
  rw [gu] at a2
  have hi := a1.hi
  have cor : (outer t).getD (i + 1) 0 < (outer t).getD i 0 := by omega
  have hdg := lA ho (by omega) cor
  have hcl : ∀ r, (((jx g i c).getD r []).length : Int) = (aT (outer t) i).getD r 0 := fun r => by
    rw [uK hi, hdg]
    by_cases e : r = i
    · rw [if_pos e, if_pos e, List.length_take]; omega
    · rw [if_neg e, if_neg e, a3, hout]
  refine ⟨⟨a1, a2, a3, by omega, by omega, cor, hcl, fun r => ?_, ?_⟩, a4, a5⟩
  · rw [hdg]
    by_cases e : r = i
    · subst e
      rw [if_pos rfl]
      have := a1.hq
      omega
    · rw [if_neg e, lA hp hn hc]
      have hin : t.1.getD r 0 ≤ (outer t).getD r 0 := by
        rw [← hout r]
        by_cases hr : r < t.2.length
        · rw [lz hr]
          have := (cS hp r).1
          rw [ch] at this
          omega
        · rw [bU (xs := t.1) (by omega)]
          omega
      split
      · next e2 => subst e2; omega
      · exact hin
  · refine ⟨by rw [lN]; omega, fun r hr => ?_⟩
    obtain ⟨k, hk, rfl⟩ := List.getElem_of_mem hr
    have a := hcl k
    have b := h9 k
    have c' := h9 i
    rw [ay hk, hdg] at a
    split at a <;> omega
end Go.Am.Pu
end
section
/- The square that the reference slides in. Plain words. -/
namespace Go.Am.Pu
structure Sq (s g : List (List Int)) (i c : Nat) : Prop where
  len : s.length = 11
  row : ∀ r, r < 11 → (s.getD r []).length = 11
  at_ : ∀ r x, r < 11 → x < 11 → ¬ (r = i ∧ x = c) → cel s r x = cel g r x
  hole : cel s i c = 0
theorem Sq.step {s g : List (List Int)} {i c i' c' : Nat} (h : Sq s g i c) (hi : i < g.length) (hc : c < (g.getD i []).length) (h1 : i < 11) (h2 : c < 11) (h3 : i' < 11) (h4 : c' < 11) (hne : ¬ (i' = i ∧ c' = c)) (v : Int) :
    Sq (eI (eI s i c v) i' c' 0) (eI g i c v) i' c' := by
  refine ⟨by rw [dw, dw]; exact h.len, fun r hr => by rw [b9, b9]; exact h.row r hr, fun r x hr hx hn => ?_, ?_⟩
  · rw [fV _ hn]
    by_cases e : r = i ∧ x = c
    · obtain ⟨rfl, rfl⟩ := e
      rw [iy _ (by rw [h.len]; exact h1) (by rw [h.row _ h1]; exact h2), iy _ hi hc]
    · rw [fV _ e, fV _ e]; exact h.at_ r x hr hx e
  · rw [iy _ (by rw [dw, h.len]; exact h3) (by rw [b9, h.row _ h3]; exact h4)]
theorem zo {t : Tab} (h : dU t = true) {n : Nat} (hn : n < t.1.length) : Sq (ly t) (cf t) n (t.1.getD n 0 - 1).toNat := by
  obtain ⟨hp, ho, hl, _⟩ := fQ h
  have h9 := (b6 hp).2.2.1
  have hb := cS hp n
  rw [ch] at hb
  have hpos : 1 ≤ t.1.getD n 0 := by
    rw [ay hn]
    exact ((b6 hp).1 _ (List.getElem_mem hn)).1
  refine ⟨oy t, fun r hr => by rw [ur hr, je], fun r x hr hx _ => xL hp hr hx, ?_⟩
  rw [xL hp (by omega) (by omega), mo (by omega), if_pos (by omega)]
end Go.Am.Pu
end
section
/- What a slide leaves is a tableau. Plain words. -/
namespace Go.Am.Pu
theorem gD {α : Type} (l : List α) (a x : Nat) (d : α) : (l.drop a).getD x d = l.getD (a + x) d := by
  simp [List.getD_eq_getElem?_getD, List.getElem?_drop]
section
variable {t : Tab} {n : Nat} {g : List (List Int)} {i c : Nat}
theorem tj.cell (E : tj t n g i c) {r k : Nat} (hr : r < (aT (outer t) i).length)
    (hk : k < ((cZ (aT t.1 n) (jx g i c) (aT (outer t) i).length).getD r []).length) :
    ((aT t.1 n).getD r 0).toNat + k < (g.getD r []).length ∧ ((((aT t.1 n).getD r 0).toNat + k : Nat) : Int) < (aT (outer t) i).getD r 0 ∧ ¬ (r = i ∧ ((aT t.1 n).getD r 0).toNat + k = c) ∧
      ((cZ (aT t.1 n) (jx g i c) (aT (outer t) i).length).getD r []).getD k 0 = cel g r (((aT t.1 n).getD r 0).toNat + k) := by
  have hq := E.sl.q0 r
  rw [jj hr] at hk ⊢
  rw [List.length_drop] at hk
  have hx : ((aT t.1 n).getD r 0).toNat + k < ((jx g i c).getD r []).length := by omega
  have hl := E.cutl r
  have hcut := uK (c := c) (r := r) E.sl.hi
  refine ⟨?_, by omega, fun e => ?_, ?_⟩
  · rw [hcut] at hx
    by_cases e : r = i
    · subst e; rw [if_pos rfl, List.length_take] at hx; omega
    · rw [if_neg e] at hx; exact hx
  · rw [hcut, if_pos e.1, List.length_take] at hx
    omega
  · rw [gD]
    exact xx E.sl.hi hx
theorem tj.xS (E : tj t n g i c) {r : Nat} (hr : r < (aT (outer t) i).length) :
    (aT (outer t) i).getD r 0 = (aT t.1 n).getD r 0 + (((cZ (aT t.1 n) (jx g i c) (aT (outer t) i).length).getD r []).length : Int) := by
  have hq := E.sl.q0 r
  have hi := E.ins r
  have hl := E.cutl r
  rw [jj hr, List.length_drop]
  omega
theorem tj.tab (E : tj t n g i c) (h : dU t = true) (hn : n < t.1.length) (hc : t.1.getD (n + 1) 0 < t.1.getD n 0) :
    dU (aT t.1 n, cZ (aT t.1 n) (jx g i c) (aT (outer t) i).length) = true := by
  obtain ⟨hp, ho, hl, _⟩ := fQ h
  have hqp := tw hp hn hc
  have hop := tw ho E.hi E.cor
  generalize hR : cZ (aT t.1 n) (jx g i c) (aT (outer t) i).length = R
  have hRl : R.length = (aT (outer t) i).length := by rw [← hR, dJ]
  have cell : ∀ {r k : Nat}, r < R.length → k < (R.getD r []).length → ((aT t.1 n).getD r 0).toNat + k < (g.getD r []).length ∧ ((((aT t.1 n).getD r 0).toNat + k : Nat) : Int) < (aT (outer t) i).getD r 0 ∧ ¬ (r = i ∧ ((aT t.1 n).getD r 0).toNat + k = c) ∧ (R.getD r []).getD k 0 = cel g r (((aT t.1 n).getD r 0).toNat + k) := by
    intro r k hr hk
    subst hR
    exact E.cell (by omega) hk
  have xS : ∀ {r : Nat}, r < R.length → (aT (outer t) i).getD r 0 = (aT t.1 n).getD r 0 + ((R.getD r []).length : Int) := by
    intro r hr
    subst hR
    exact E.xS (by omega)
  have q0 := E.sl.q0
  have hout : outer (aT t.1 n, R) = aT (outer t) i := by
    refine List.ext_getElem (by rw [cb]; exact hRl) fun r h1 h2 => ?_
    rw [← ay h1 0, ← ay h2 0]
    have h3 : r < R.length := by omega
    have := fb (aT t.1 n) R 0 r h3
    rw [Nat.zero_add] at this
    unfold outer
    rw [this]
    exact (xS h3).symm
  have hlen : (aT t.1 n).length ≤ R.length := by
    refine Nat.le_of_not_lt fun hlt => ?_
    have a := sg hp hn hc hlt
    have b := E.ins R.length
    rw [bU (xs := aT (outer t) i) (by omega)] at b
    omega
  have om := jf hop
  simp only [dU, cU, dp, Bool.and_eq_true, decide_eq_true_eq]
  rw [hout]
  refine ⟨⟨hqp, hlen, hqp, hop, by omega, ?_⟩, ?_⟩
  · rw [dD]
    intro r _
    exact decide_eq_true (E.ins r)
  · rw [dD]
    intro r hr
    rw [dD]
    intro k hk
    have hq := q0 r
    obtain ⟨c1, c2, c3, c4⟩ := cell hr hk
    have hx : (aT t.1 n).getD r 0 ≤ ((((aT t.1 n).getD r 0).toNat + k : Nat) : Int) := by omega
    have hnum := E.sl.num r _ hx c1 c3
    simp only [eA, within, Bool.and_eq_true, Bool.or_eq_true, decide_eq_true_eq]
    rw [c4]
    refine ⟨hnum, ?_, ?_⟩
    · cases k with
      | zero => exact .inl rfl
      | succ k =>
        obtain ⟨d1, d2, d3, d4⟩ := cell hr (show k < (R.getD r []).length by omega)
        right
        rw [show k + 1 - 1 = k from rfl, d4]
        exact E.sl.row r (((aT t.1 n).getD r 0).toNat + k) (by omega) (by omega) d3 (by omega)
    · cases r with
      | zero => exact .inl rfl
      | succ r =>
        right
        have hr' : r < R.length := by omega
        have em : ((r + 1 : Nat) : Int) - 1 = (r : Int) := by omega
        rw [em, il hr']
        have hqr := q0 r
        have hrl := xS hr'
        have hom := om r
        simp only
        by_cases e : (aT t.1 n).getD (r + 1) 0 + (k : Int) < (aT t.1 n).getD r 0
        · rw [lP (by omega)]; omega
        · obtain ⟨y, hy⟩ : ∃ y : Nat, (aT t.1 n).getD (r + 1) 0 + (k : Int) - (aT t.1 n).getD r 0 = y := ⟨((aT t.1 n).getD (r + 1) 0 + (k : Int) - (aT t.1 n).getD r 0).toNat, by omega⟩
          rw [hy, ch]
          obtain ⟨d1, d2, d3, d4⟩ := cell hr' (show y < (R.getD r []).length by omega)
          have ey : ((aT t.1 n).getD r 0).toNat + y = ((aT t.1 n).getD (r + 1) 0).toNat + k := by omega
          rw [d4, ey]
          rw [ey] at d3
          exact E.sl.col r _ (by omega) c1 d3 c3
end
theorem yR {t : Tab} (h : dU t = true) {n : Nat} (hn : n < t.1.length) (hc : t.1.getD (n + 1) 0 < t.1.getD n 0) : dU (fw t n).1 = true := (yU h hn hc).1.tab h hn hc
theorem tA {t : Tab} (h : dU t = true) : t.1.length ≤ 9 ∧ dy 9 9 t.2 := by
  obtain ⟨hp, ho, hl, _⟩ := fQ h
  have h9 := (b6 ho).2.2.1
  rw [cb] at h9
  refine ⟨by omega, h9, fun r hr => ?_⟩
  obtain ⟨k, hk, rfl⟩ := List.getElem_of_mem hr
  have a := ju hp k
  have b := (cS ho k).2
  rw [ch] at b
  rw [lz hk] at a
  rw [← ay hk []]
  omega
end Go.Am.Pu
namespace Go.Am.Pu
end Go.Am.Pu
end
section
/- Taking the least number out of a plain tableau; evacuation. Plain words. -/
namespace Go.Am.Pu
theorem tj.out {t : Tab} {n : Nat} {g : List (List Int)} {i c : Nat} (E : tj t n g i c) :
    outer (aT t.1 n, cZ (aT t.1 n) (jx g i c) (aT (outer t) i).length) = aT (outer t) i := by
  refine List.ext_getElem (by rw [cb]; exact dJ _ _ _) fun r h1 h2 => ?_
  rw [← ay h1 0, ← ay h2 0]
  have h3 : r < (cZ (aT t.1 n) (jx g i c) (aT (outer t) i).length).length := by rw [dJ]; exact h2
  have := fb (aT t.1 n) (cZ (aT t.1 n) (jx g i c) (aT (outer t) i).length) 0 r h3
  rw [Nat.zero_add] at this
  exact this.trans (E.xS h2).symm
theorem yj {t : Tab} (h : dU t = true) {n : Nat} (hn : n < t.1.length) (hc : t.1.getD (n + 1) 0 < t.1.getD n 0) :
    outer (fw t n).1 = aT (outer t) (fw t n).2 ∧ (fw t n).2 < (outer t).length ∧ (outer t).getD ((fw t n).2 + 1) 0 < (outer t).getD (fw t n).2 0 :=
  have E := (yU h hn hc).1
  ⟨E.out, E.hi, E.cor⟩
def dC (t : Tab) : Tab := ([1], t.2.set 0 ((t.2.getD 0 []).drop 1))
theorem kj (t : Tab) (r : Nat) : (dC t).2.getD r [] = if r = 0 then (t.2.getD 0 []).drop 1 else t.2.getD r [] := by
  unfold dC
  by_cases e : r = 0
  · subst e
    rw [if_pos rfl]
    by_cases h : 0 < t.2.length
    · rw [ay (by rw [List.length_set]; exact h), List.getElem_set_self]
    · rw [bU (by rw [List.length_set]; omega), bU (xs := t.2) (by omega)]; rfl
  · rw [if_neg e, getD_set_ne (Ne.symm e)]
theorem gV {t : Tab} (h : bc t = true) {r : Nat} (hr : r < t.2.length) : 1 ≤ (t.2.getD r []).length := by
  have hl := dQ h hr
  have hp := (b6 (gZ h)).1 ((outer t)[r]'(by rw [cb]; exact hr)) (List.getElem_mem _)
  rw [ay (by rw [cb]; exact hr)] at hl
  omega
theorem iE (t : Tab) : (dC t).2.length = t.2.length := by simp [dC]
theorem oQ (r : Nat) : ([1] : List Int).getD r 0 = if r = 0 then 1 else 0 := by
  cases r with
  | zero => rfl
  | succ r => simp
theorem lJ {t : Tab} (h : bc t = true) (h0 : 0 < t.2.length) : outer (dC t) = outer t := by
  refine List.ext_getElem (by rw [cb, cb, iE]) fun r h1 h2 => ?_
  rw [← ay h1 0, ← ay h2 0]
  have h3 : r < t.2.length := by rw [cb] at h2; exact h2
  have h4 := gV h h3
  rw [dQ h h3]
  have := fb (dC t).1 (dC t).2 0 r (by rw [iE]; exact h3)
  rw [Nat.zero_add] at this
  unfold outer
  rw [this, kj, show (dC t).1 = [1] from rfl, oQ]
  by_cases e : r = 0
  · subst e
    rw [if_pos rfl, if_pos rfl, List.length_drop]
    omega
  · rw [if_neg e, if_neg e]; omega
theorem lD {t : Tab} (h : bc t = true) (h0 : 0 < t.2.length) : dU (dC t) = true := by
  have hin := cN h
  have hp := gZ h
  have h' := h
  simp only [bc, Bool.and_eq_true] at h'
  obtain ⟨_, _, _, hc⟩ := fQ h'.1
  have hout := lJ h h0
  have hr0 := gV h h0
  simp only [dU, cU, dp, Bool.and_eq_true, decide_eq_true_eq]
  rw [hout, iE]
  refine ⟨⟨rfl, (show 1 ≤ t.2.length from h0), rfl, hp, (by rw [cb]; exact (show 1 ≤ t.2.length from h0)), ?_⟩, ?_⟩
  · rw [dD]
    intro r hr
    have e : r = 0 := by simp [dC] at hr; exact hr
    subst e
    rw [dQ h h0]
    exact decide_eq_true (show (1 : Int) ≤ _ by omega)
  · rw [dD]
    intro r hr
    rw [dD]
    intro k hk
    rw [kj] at hk
    have hl : (dC t).1 = [1] := rfl
    by_cases e : r = 0
    · subst e
      rw [if_pos rfl, List.length_drop] at hk
      have hck := hc 0 (k + 1) h0 (by omega)
      simp only [eA, within, Bool.and_eq_true, Bool.or_eq_true, decide_eq_true_eq] at hck ⊢
      rw [kj, if_pos rfl, gD, gD, show 1 + k = k + 1 by omega]
      refine ⟨hck.1, ?_, .inl (by simp)⟩
      by_cases e : k = 0
      · exact .inl e
      · right
        have := hck.2.1
        rw [show 1 + (k - 1) = k + 1 - 1 by omega]
        exact this.resolve_left (by omega)
    · rw [if_neg e] at hk
      have hck := hc r k hr hk
      simp only [eA, within, Bool.and_eq_true, Bool.or_eq_true, decide_eq_true_eq] at hck ⊢
      rw [kj, if_neg e]
      refine ⟨hck.1, hck.2.1, .inr ?_⟩
      have hent := hck.2.2.resolve_left e
      rw [hin] at hent
      obtain ⟨q, rfl⟩ : ∃ q, r = q + 1 := ⟨r - 1, by omega⟩
      have em : ((q + 1 : Nat) : Int) - 1 = (q : Int) := by omega
      rw [em] at hent ⊢
      rw [il (by omega)] at hent
      simp only [hin, List.getD_nil] at hent
      have g1 := oQ (q + 1)
      have g2 := oQ q
      have o2 := kj t q
      rw [if_neg (by omega)] at g1
      rw [il (by rw [iE]; omega), hl, g1, g2, o2]
      by_cases e0 : q = 0
      · subst e0
        rw [if_pos rfl, if_pos rfl]
        by_cases ek : k = 0
        · subst ek
          rw [lP (by omega)]
          omega
        · rw [show (0 : Int) + (k : Int) - 1 = ((k - 1 : Nat) : Int) by omega, ch, gD, show 1 + (k - 1) = k by omega]
          rw [show (0 : Int) + (k : Int) - 0 = (k : Int) by omega, ch] at hent
          exact hent
      · rw [if_neg e0, if_neg e0]
        exact hent
def ba (t : Tab) : Tab × Nat := fw (dC t) 0
theorem dB {t : Tab} (h : bc t = true) (h0 : 0 < t.2.length) :
    bc (ba t).1 = true ∧ outer (ba t).1 = aT (outer t) (ba t).2 ∧ (ba t).2 < t.2.length ∧ (outer t).getD ((ba t).2 + 1) 0 < (outer t).getD (ba t).2 0 := by
  have hi : (dC t).1 = [1] := rfl
  have ht := lD h h0
  have h1 : 0 < (dC t).1.length := by rw [hi]; simp
  have hc : (dC t).1.getD (0 + 1) 0 < (dC t).1.getD 0 0 := by rw [hi]; simp
  obtain ⟨a, b, c⟩ := yj ht h1 hc
  rw [lJ h h0] at a b c
  rw [cb] at b
  refine ⟨?_, a, b, c⟩
  simp only [bc, Bool.and_eq_true, decide_eq_true_eq]
  refine ⟨yR ht h1 hc, ?_⟩
  show (aT (dC t).1 0).length = 0
  rw [hi]; rfl
theorem m7 {t : Tab} (h : bc t = true) : im (outer t) = t.2.flatten.length := by
  unfold outer
  exact qa t.1 t.2 0 fun q _ => by rw [cN h]; rfl
theorem gr {t : Tab} (h : 0 < t.2.flatten.length) : 0 < t.2.length := by
  refine Nat.pos_of_ne_zero fun e => ?_
  rw [List.eq_nil_of_length_eq_zero e] at h
  simp at h
theorem lp {t : Tab} (h : bc t = true) (h0 : 0 < t.2.length) (r : Nat) :
    ((ba t).1.2.getD r []).length = if r = (ba t).2 then (t.2.getD r []).length - 1 else (t.2.getD r []).length := by
  obtain ⟨a, b, c, d⟩ := dB h h0
  have hg := lA (gZ h) (show (ba t).2 < (outer t).length by rw [cb]; exact c) d r
  have lenI : ∀ {u : Tab}, bc u = true → ∀ r, (outer u).getD r 0 = (u.2.getD r []).length := by
    intro u hu r
    by_cases hr : r < u.2.length
    · exact dQ hu hr
    · rw [bU (by rw [cb]; omega), bU (xs := u.2) (by omega)]; rfl
  rw [← b, lenI a, lenI h, lenI h] at hg
  have := gV h c
  by_cases e : r = (ba t).2
  · subst e; rw [if_pos rfl] at hg ⊢; omega
  · rw [if_neg e] at hg ⊢; omega
end Go.Am.Pu
end
section
/- Promotion. Plain words. -/
namespace Go.Am.Pu
def fU (d : Int) (q : Nat) (r : List Int) : List Int := r.take q ++ (r.drop q).map (· + d)
theorem qs (d : Int) (q : Nat) (r : List Int) : (fU d q r).length = r.length := by
  unfold fU
  rw [List.length_append, List.length_map, ← List.length_append, List.take_append_drop]
theorem qj (d : Int) (r : List Int) : fU d r.length r = r := by
  unfold fU
  rw [List.take_length, List.drop_length]
  simp
theorem oN {d : Int} {q : Nat} {r : List Int} (h : q < r.length) : fU d (q + 1) (r.set q (r.getD q 0 + d)) = fU d q r := by
  unfold fU
  rw [gT h, nE, drop_cons h 0]
  simp
def cn (d : Int) (rs : List (List Int)) : List (List Int) := rs.map fun r => r.map (· + d)
def gC (d : Int) (i : Nat) (rs : List (List Int)) : List (List Int) := rs.take i ++ cn d (rs.drop i)
theorem nB (d : Int) (rs : List (List Int)) : gC d rs.length rs = rs := by
  unfold gC cn
  rw [List.take_length, List.drop_length]
  simp
theorem mD {d : Int} {i : Nat} {rs : List (List Int)} (h : i < rs.length) : gC d (i + 1) (rs.set i (fU d 0 (rs.getD i []))) = gC d i rs := by
  unfold gC cn
  rw [gT h, nE, drop_cons h []]
  simp [fU]
theorem jU (d : Int) (rs : List (List Int)) : (cn d rs).length = rs.length := by simp [cn]
theorem nt (d : Int) (rs : List (List Int)) (i : Nat) : (cn d rs).getD i [] = (rs.getD i []).map (· + d) := by
  unfold cn
  by_cases h : i < rs.length
  · rw [ay (by rw [List.length_map]; exact h), ay h, List.getElem_map]
  · rw [bU (by rw [List.length_map]; omega), bU (by omega)]; rfl
theorem xW (d : Int) (rs : List (List Int)) (i : Nat) (r : List Int) : cn d (rs.set i r) = (cn d rs).set i (r.map (· + d)) := by
  unfold cn
  rw [List.map_set]
def Small (rs : List (List Int)) : Prop := ∀ i q, -100 ≤ (rs.getD i []).getD q 0 ∧ (rs.getD i []).getD q 0 ≤ 100
theorem qL {t : Tab} (h : dU t = true) : Small t.2 := by
  intro i q
  by_cases hi : i < t.2.length
  · by_cases hq : q < (t.2.getD i []).length
    · have := kA h ((t.2.getD i []).getD q 0) (List.mem_flatten.2 ⟨t.2.getD i [], by rw [ay hi]; exact List.getElem_mem hi, by rw [ay hq]; exact List.getElem_mem hq⟩)
      omega
    · rw [bU (by omega)]; omega
  · rw [bU (xs := t.2) (by omega)]; simp
def dT (s : Tab × Nat) : List (List Int) := if s.2 = s.1.2.length then s.1.2 ++ [[]] else s.1.2
def cJ (t : Tab) : Tab × Bool :=
  if bc t = true ∧ dv t = true then
    if t.2.flatten.length = 0 then (([], []), true)
    else ((([] : List Int), (cn (-1) (dT (ba t))).set (ba t).2 ((cn (-1) (dT (ba t))).getD (ba t).2 [] ++ [(t.2.flatten.length : Int)])), true)
  else (([], []), false)
theorem uw {t : Tab} (h : bc t = true) (h0 : 0 < t.2.length) : (ba t).2 ≤ (ba t).1.2.length ∧ (ba t).1.2.length ≤ t.2.length := by
  obtain ⟨s1, s2, s3, s4⟩ := dB h h0
  have a := congrArg List.length s2
  rw [cb] at a
  unfold aT at a
  split at a
  · rw [List.length_take, cb] at a; omega
  · rw [List.length_set, cb] at a; omega
theorem lZ {t : Tab} (h : bc t = true) (h0 : 0 < t.2.length) : (ba t).2 < (dT (ba t)).length ∧ dy 10 9 (dT (ba t)) := by
  have a := (uw h h0).1
  have b := jg (dB h h0).1
  unfold dT
  split
  · next e => rw [List.length_append]; exact ⟨by simp; omega, b.app (by simp)⟩
  · exact ⟨by omega, b.mono (by omega) (by omega)⟩
theorem th {t : Tab} (h : bc t = true) (h0 : 0 < t.2.length) : Small (dT (ba t)) := by
  have b := (dB h h0).1
  simp only [bc, Bool.and_eq_true] at b
  have c := qL b.1
  unfold dT
  split
  · intro i q
    have := c i q
    have hg : ((ba t).1.2 ++ [[]]).getD i [] = (ba t).1.2.getD i [] := by
      by_cases hi : i < (ba t).1.2.length
      · rw [ay (xs := (ba t).1.2 ++ [[]]) (by rw [List.length_append]; omega), List.getElem_append_left hi, ← ay hi []]
      · rw [bU (xs := (ba t).1.2) (by omega)]
        simp only [List.getD_eq_getElem?_getD, List.getElem?_append_right (Nat.le_of_not_lt hi)]
        cases i - (ba t).1.2.length <;> rfl
    rw [hg]; exact this
  · exact c
theorem sF {n m : Nat} {rs : List (List Int)} (h : dy n m rs) (d : Int) : dy n m (cn d rs) := by
  refine ⟨by rw [jU]; exact h.1, fun r hr => ?_⟩
  unfold cn at hr
  obtain ⟨x, hx, rfl⟩ := List.mem_map.1 hr
  rw [List.length_map]
  exact h.2 x hx
theorem ox {t : Tab} : dy 10 10 (cJ t).1.2 := by
  unfold cJ
  split
  · next h =>
    split
    · exact ⟨by simp, fun r hr => by simp at hr⟩
    · next hn =>
      have b := (lZ h.1 (gr (by omega))).2
      have c := sF b (-1)
      refine dy.set (c.mono (Nat.le_refl _) (by omega)) _ ?_
      rw [List.length_append]
      have := c.at (ba t).2
      simp only [List.length_cons, List.length_nil]
      omega
  · exact ⟨by simp, fun r hr => by simp at hr⟩
theorem lU {t : Tab} : (cJ t).1.1 = [] := by
  unfold cJ
  split
  · split <;> rfl
  · rfl
theorem sj {t : Tab} : ig (cJ t).1 := by
  have a := ox (t := t)
  refine ⟨by rw [lU]; simp, by have := a.1; omega, fun r hr => by have := a.2 r hr; omega⟩
theorem wx {t : Tab} (n : Int) (h : (ba t).2 < (dT (ba t)).length) : cn (-1) ((dT (ba t)).set (ba t).2 ((dT (ba t)).getD (ba t).2 [] ++ [n + 1])) =
    (cn (-1) (dT (ba t))).set (ba t).2 ((cn (-1) (dT (ba t))).getD (ba t).2 [] ++ [n]) := by
  rw [xW, nt, List.map_append, List.map_cons, List.map_nil, show n + 1 + -1 = n by omega]
end Go.Am.Pu
end
section
/- Slides undone. Plain words. -/
namespace Go.Am.Pu
def leftOf (g : List (List Int)) (i c : Nat) : Int := if c = 0 then 0 else cel g i (c - 1)
def uz (g : List (List Int)) (i c : Nat) : Int := if i = 0 then 0 else cel g (i - 1) c
def gX : Nat → List (List Int) → Nat → Nat → List (List Int) × (Nat × Nat)
  | 0, g, i, c => (g, (i, c))
  | m + 1, g, i, c => if leftOf g i c = 0 ∧ uz g i c = 0 then (g, (i, c))
    else if leftOf g i c ≤ uz g i c then gX m (eI g i c (uz g i c)) (i - 1) c
    else gX m (eI g i c (leftOf g i c)) i (c - 1)
theorem yq {g : List (List Int)} {i c : Nat} (h1 : leftOf g i c = 0) (h2 : uz g i c = 0) : ∀ m, gX m g i c = (g, (i, c))
  | 0 => rfl
  | m + 1 => by unfold gX; rw [if_pos ⟨h1, h2⟩]
structure Ag (f : Int → Int) (g h : List (List Int)) (i c : Nat) : Prop where
  len : h.length = g.length
  row : ∀ r, (h.getD r []).length = (g.getD r []).length
  at_ : ∀ r x, ¬ (r = i ∧ x = c) → cel h r x = f (cel g r x)
def Inn (q : List Int) (g : List (List Int)) : Prop := ∀ r x : Nat, (x : Int) < q.getD r 0 → cel g r x = 0
theorem Inn.step {q : List Int} {g : List (List Int)} {i c : Nat} (h : Inn q g) (hq : q.getD i 0 ≤ c) (v : Int) : Inn q (eI g i c v) := by
  intro r x hx
  by_cases e : r = i ∧ x = c
  · obtain ⟨rfl, rfl⟩ := e; omega
  · rw [fV _ e]; exact h r x hx
theorem pw {V : Int → Prop} {g : List (List Int)} (h : ∀ r x, V (cel g r x)) (i c a b : Nat) : ∀ r x, V (cel (eI g i c (cel g a b)) r x) := by
  intro r x
  by_cases e : r = i ∧ x = c
  · obtain ⟨rfl, rfl⟩ := e
    by_cases h1 : r < g.length
    · by_cases h2 : x < (g.getD r []).length
      · rw [iy _ h1 h2]; exact h a b
      · have hl := b9 g r x (cel g a b) r
        have e0 : cel (eI g r x (cel g a b)) r x = cel g r x := by
          show ((eI g r x (cel g a b)).getD r []).getD x 0 = (g.getD r []).getD x 0
          rw [bU (xs := (eI g r x (cel g a b)).getD r []) (by omega), bU (xs := g.getD r []) (by omega)]
        rw [e0]; exact h r x
    · have e0 : cel (eI g r x (cel g a b)) r x = cel g r x := by
        show ((eI g r x (cel g a b)).getD r []).getD x 0 = (g.getD r []).getD x 0
        rw [bU (xs := eI g r x (cel g a b)) (by rw [dw]; omega), bU (xs := g) (by omega)]
      rw [e0]; exact h r x
  · rw [fV _ e]; exact h r x
theorem Ag.down {f : Int → Int} {q : List Int} {g h : List (List Int)} {i c : Nat} (hs : Sl q g i c) (hi : Inn q g) (hf : ∀ a b x y, cel g a b < cel g x y → f (cel g a b) < f (cel g x y)) (f0 : f 0 = 0)
    (hb : cel g (i + 1) c ≠ 0) (ha : Ag f (eI g i c (cel g (i + 1) c)) h (i + 1) c) :
    ∃ h', Ag f g h' i c ∧ ∀ m, gX (m + 1) h (i + 1) c = gX m h' i c := by
  obtain ⟨b1, b2⟩ := pG hb
  have mono : ∀ a b x y, cel g a b ≤ cel g x y → f (cel g a b) ≤ f (cel g x y) := fun a b x y hh => by
    rcases Int.lt_or_eq_of_le hh with h1 | h1
    · exact Int.le_of_lt (hf _ _ _ _ h1)
    · rw [h1]; exact Int.le_refl _
  have f0' : ∀ a b, cel g a b = 0 → f (cel g a b) = 0 := fun a b e => by rw [e]; exact f0
  have hu : uz h (i + 1) c = f (cel g (i + 1) c) := by
    unfold uz
    rw [if_neg (by omega), show i + 1 - 1 = i by omega, ha.at_ i c (by omega), iy _ hs.hi hs.hc]
  have hpos : 0 < f (cel g (i + 1) c) := by
    have hp := hs.pos (i + 1) c
    have := hf g.length 0 (i + 1) c (by
      have : cel g g.length 0 = 0 := by unfold cel; rw [bU (Nat.le_refl _)]; rfl
      omega)
    have e : cel g g.length 0 = 0 := by unfold cel; rw [bU (Nat.le_refl _)]; rfl
    rw [e, f0] at this
    exact this
  have hl : leftOf h (i + 1) c ≤ f (cel g (i + 1) c) := by
    unfold leftOf
    by_cases e : c = 0
    · rw [if_pos e]; omega
    · rw [if_neg e, ha.at_ _ _ (by omega), fV _ (by omega)]
      by_cases hq : q.getD (i + 1) 0 ≤ ((c - 1 : Nat) : Int)
      · have hr := hs.row (i + 1) (c - 1) hq (by omega) (by omega) (by omega)
        rw [show c - 1 + 1 = c by omega] at hr
        exact mono _ _ _ _ hr
      · rw [f0' _ _ (hi (i + 1) (c - 1) (by omega))]; omega
  have hhi : i + 1 < h.length := by rw [ha.len, dw]; exact b1
  have hhc : c < (h.getD (i + 1) []).length := by rw [ha.row, b9]; exact b2
  refine ⟨eI h (i + 1) c (uz h (i + 1) c), ⟨by rw [dw, ha.len, dw], fun r => by rw [b9, ha.row, b9], fun r x hn => ?_⟩, fun m => ?_⟩
  · by_cases e : r = i + 1 ∧ x = c
    · obtain ⟨rfl, rfl⟩ := e
      rw [iy _ hhi hhc, hu]
    · rw [fV _ e, ha.at_ r x e, fV _ hn]
  · conv => lhs; unfold gX
    rw [if_neg (by omega), if_pos (by omega)]
    rfl
theorem Ag.right {f : Int → Int} {q : List Int} {g h : List (List Int)} {i c : Nat} (hs : Sl q g i c) (hi : Inn q g) (hf : ∀ a b x y, cel g a b < cel g x y → f (cel g a b) < f (cel g x y)) (f0 : f 0 = 0)
    (hr : cel g i (c + 1) ≠ 0) (ha : Ag f (eI g i c (cel g i (c + 1))) h i (c + 1)) :
    ∃ h', Ag f g h' i c ∧ ∀ m, gX (m + 1) h i (c + 1) = gX m h' i c := by
  obtain ⟨b1, b2⟩ := pG hr
  have f0' : ∀ a b, cel g a b = 0 → f (cel g a b) = 0 := fun a b e => by rw [e]; exact f0
  have hl : leftOf h i (c + 1) = f (cel g i (c + 1)) := by
    unfold leftOf
    rw [if_neg (by omega), show c + 1 - 1 = c by omega, ha.at_ i c (by omega), iy _ hs.hi hs.hc]
  have hpos : 0 < f (cel g i (c + 1)) := by
    have hp := hs.pos i (c + 1)
    have e : cel g g.length 0 = 0 := by unfold cel; rw [bU (Nat.le_refl _)]; rfl
    have := hf g.length 0 i (c + 1) (by omega)
    rw [e, f0] at this
    exact this
  have hu : uz h i (c + 1) < f (cel g i (c + 1)) := by
    unfold uz
    by_cases e : i = 0
    · rw [if_pos e]; exact hpos
    · rw [if_neg e, ha.at_ _ _ (by omega), fV _ (by omega)]
      by_cases hq : q.getD (i - 1) 0 ≤ ((c + 1 : Nat) : Int)
      · have hc := hs.col (i - 1) (c + 1) hq (by rw [show i - 1 + 1 = i by omega]; exact b2) (by omega) (by omega)
        rw [show i - 1 + 1 = i by omega] at hc
        exact hf _ _ _ _ hc
      · rw [f0' _ _ (hi (i - 1) (c + 1) (by omega))]; exact hpos
  have hhi : i < h.length := by rw [ha.len, dw]; exact b1
  have hhc : c + 1 < (h.getD i []).length := by rw [ha.row, b9]; exact b2
  refine ⟨eI h i (c + 1) (leftOf h i (c + 1)), ⟨by rw [dw, ha.len, dw], fun r => by rw [b9, ha.row, b9], fun r x hn => ?_⟩, fun m => ?_⟩
  · by_cases e : r = i ∧ x = c + 1
    · obtain ⟨rfl, rfl⟩ := e
      rw [iy _ hhi hhc, hl]
    · rw [fV _ e, ha.at_ r x e, fV _ hn]
  · conv => lhs; unfold gX
    rw [if_neg (by omega), if_neg (by omega)]
    rfl
theorem nS {f : Int → Int} {V : Int → Prop} (hf : ∀ u v, V u → V v → u < v → f u < f v) (f0 : f 0 = 0) {q : List Int} : ∀ (m : Nat) (g : List (List Int)) (i c : Nat), Sl q g i c → Inn q g → (∀ r x, V (cel g r x)) →
    ∀ h, Ag f (bL m g i c).1 h (bL m g i c).2.1 (bL m g i c).2.2 → ∃ n h', Ag f g h' i c ∧ i + c + n = (bL m g i c).2.1 + (bL m g i c).2.2 ∧ ∀ m0, gX (m0 + n) h (bL m g i c).2.1 (bL m g i c).2.2 = gX m0 h' i c
  | 0, g, i, c, _, _, _, h, ha => ⟨0, h, ha, rfl, fun _ => rfl⟩
  | m + 1, g, i, c, hs, hi, hv, h, ha => by
    unfold bL at ha ⊢
    by_cases c1 : cel g i (c + 1) = 0 ∧ cel g (i + 1) c = 0
    · rw [if_pos c1] at ha ⊢
      exact ⟨0, h, ha, rfl, fun _ => rfl⟩
    · rw [if_neg c1] at ha ⊢
      have hf' : ∀ a b x y, cel g a b < cel g x y → f (cel g a b) < f (cel g x y) := fun a b x y hh => hf _ _ (hv a b) (hv x y) hh
      by_cases c2 : cel g i (c + 1) = 0 ∨ (0 < cel g (i + 1) c ∧ cel g (i + 1) c ≤ cel g i (c + 1))
      · rw [if_pos c2] at ha ⊢
        have hb : cel g (i + 1) c ≠ 0 := fun e => c2.elim (fun e1 => c1 ⟨e1, e⟩) (fun e1 => by omega)
        obtain ⟨n, h1, a1, a2, a3⟩ := nS hf f0 m _ _ _ (hs.down hb c2) (hi.step hs.hq _) (pw hv _ _ _ _) h ha
        obtain ⟨h2, d1, d2⟩ := Ag.down hs hi hf' f0 hb a1
        exact ⟨n + 1, h2, d1, by omega, fun m0 => by rw [show m0 + (n + 1) = (m0 + 1) + n by omega, a3, d2]⟩
      · rw [if_neg c2] at ha ⊢
        have hr : cel g i (c + 1) ≠ 0 := fun e => c2 (.inl e)
        obtain ⟨n, h1, a1, a2, a3⟩ := nS hf f0 m _ _ _ (hs.right hr (fun e => c2 (.inr e))) (hi.step hs.hq _) (pw hv _ _ _ _) h ha
        obtain ⟨h2, d1, d2⟩ := Ag.right hs hi hf' f0 hr a1
        exact ⟨n + 1, h2, d1, by omega, fun m0 => by rw [show m0 + (n + 1) = (m0 + 1) + n by omega, a3, d2]⟩
def Occ (q : List Int) (v : Int) (g : List (List Int)) (i c : Nat) : Prop := ∃ r x : Nat, ¬ (r = i ∧ x = c) ∧ x < (g.getD r []).length ∧ q.getD r 0 ≤ x ∧ cel g r x = v
theorem Occ.step {q : List Int} {v : Int} {g : List (List Int)} {i c a b : Nat} (h : Occ q v g i c) (hi : i < g.length) (hc : c < (g.getD i []).length) (hq : q.getD i 0 ≤ c) (hne : ¬ (a = i ∧ b = c)) : Occ q v (eI g i c (cel g a b)) a b := by
  obtain ⟨r, x, h1, h2, h3, h4⟩ := h
  by_cases e : r = a ∧ x = b
  · obtain ⟨rfl, rfl⟩ := e
    exact ⟨i, c, fun e => hne ⟨e.1.symm, e.2.symm⟩, by rw [b9]; exact hc, hq, by rw [iy _ hi hc]; exact h4⟩
  · exact ⟨r, x, e, by rw [b9]; exact h2, h3, by rw [fV _ h1]; exact h4⟩
theorem pY {q : List Int} {v : Int} : ∀ (m : Nat) (g : List (List Int)) (i c : Nat), Sl q g i c → Occ q v g i c → Occ q v (bL m g i c).1 (bL m g i c).2.1 (bL m g i c).2.2
  | 0, g, i, c, _, h => h
  | m + 1, g, i, c, hs, h => by
    unfold bL
    by_cases c1 : cel g i (c + 1) = 0 ∧ cel g (i + 1) c = 0
    · rw [if_pos c1]; exact h
    · rw [if_neg c1]
      by_cases c2 : cel g i (c + 1) = 0 ∨ (0 < cel g (i + 1) c ∧ cel g (i + 1) c ≤ cel g i (c + 1))
      · rw [if_pos c2]
        have hb : cel g (i + 1) c ≠ 0 := fun e => c2.elim (fun e1 => c1 ⟨e1, e⟩) (fun e1 => by omega)
        exact pY m _ _ _ (hs.down hb c2) (h.step hs.hi hs.hc hs.hq (by omega))
      · rw [if_neg c2]
        have hr : cel g i (c + 1) ≠ 0 := fun e => c2 (.inl e)
        exact pY m _ _ _ (hs.right hr (fun e => c2 (.inr e))) (h.step hs.hi hs.hc hs.hq (by omega))
end Go.Am.Pu
end
section
/- Promotion of a standard tableau is standard, of the same shape, and can be undone. Plain words. -/
namespace Go.Am.Pu
theorem pC {V : Int → Prop} : ∀ (m : Nat) (g : List (List Int)) (i c : Nat), (∀ r x, V (cel g r x)) → ∀ r x, V (cel (bL m g i c).1 r x)
  | 0, _, _, _, h => h
  | m + 1, g, i, c, h => by
    unfold bL
    split
    · exact h
    · split
      · exact pC m _ _ _ (pw h _ _ _ _)
      · exact pC m _ _ _ (pw h _ _ _ _)
theorem we {t : Tab} (h0 : t.1 = []) (hp : cj (outer t) = true) (hn : ∀ r x, r < t.2.length → x < (t.2.getD r []).length → 1 ≤ cel t.2 r x ∧ cel t.2 r x ≤ 9)
    (hr : ∀ r x, r < t.2.length → x + 1 < (t.2.getD r []).length → cel t.2 r x ≤ cel t.2 r (x + 1)) (hc : ∀ r x, r + 1 < t.2.length → x < (t.2.getD (r + 1) []).length → cel t.2 r x < cel t.2 (r + 1) x) : bc t = true := by
  simp only [bc, dU, cU, dp, Bool.and_eq_true, decide_eq_true_eq, h0]
  refine ⟨⟨⟨rfl, by simp, rfl, hp, by simp, ?_⟩, ?_⟩, rfl⟩
  · rw [dD]
    intro i hi
    simp at hi
  · rw [dD]
    intro r hr'
    rw [dD]
    intro k hk
    simp only [eA, within, Bool.and_eq_true, Bool.or_eq_true, decide_eq_true_eq]
    refine ⟨hn r k hr' hk, ?_, ?_⟩
    · by_cases e : k = 0
      · exact .inl e
      · right
        have := hr r (k - 1) hr' (by omega)
        rw [show k - 1 + 1 = k by omega] at this
        exact this
    · by_cases e : r = 0
      · exact .inl e
      · right
        have := hc (r - 1) k (by omega) (by rw [show r - 1 + 1 = r by omega]; exact hk)
        rw [show r - 1 + 1 = r by omega] at this
        rw [show (r : Int) - 1 = ((r - 1 : Nat) : Int) by omega, il (by omega), h0]
        simp only [List.getD_nil]
        rw [show (0 : Int) + (k : Int) - 0 = (k : Int) by omega, ch]
        exact this
theorem mV {t : Tab} (h : bc t = true) : (∀ r x, r < t.2.length → x < (t.2.getD r []).length → 1 ≤ cel t.2 r x ∧ cel t.2 r x ≤ 9) ∧ (∀ r x, r < t.2.length → x + 1 < (t.2.getD r []).length → cel t.2 r x ≤ cel t.2 r (x + 1)) := by
  have h' := h
  simp only [bc, Bool.and_eq_true] at h'
  obtain ⟨_, _, _, hc⟩ := fQ h'.1
  refine ⟨fun r x hr hx => ?_, fun r x hr hx => ?_⟩
  · have := hc r x hr hx
    simp only [eA, within, Bool.and_eq_true, decide_eq_true_eq] at this
    exact this.1
  · have := hc r (x + 1) hr hx
    simp only [eA, within, Bool.and_eq_true, Bool.or_eq_true, decide_eq_true_eq] at this
    exact this.2.1.resolve_left (by omega)
theorem q9 {rs : List (List Int)} {r x : Nat} (hr : r < rs.length) (hx : x < (rs.getD r []).length) : cel rs r x ∈ rs.flatten := by
  refine List.mem_flatten.2 ⟨rs.getD r [], by rw [ay hr]; exact List.getElem_mem hr, ?_⟩
  unfold cel
  rw [ay hx]
  exact List.getElem_mem hx
theorem xI {rs : List (List Int)} {v : Int} (h : v ∈ rs.flatten) : ∃ r x, r < rs.length ∧ x < (rs.getD r []).length ∧ cel rs r x = v := by
  obtain ⟨l, hl, hv⟩ := List.mem_flatten.1 h
  obtain ⟨r, hr, rfl⟩ := List.getElem_of_mem hl
  obtain ⟨x, hx, rfl⟩ := List.getElem_of_mem hv
  have e := ay hr ([] : List Int)
  refine ⟨r, x, hr, by rw [e]; exact hx, ?_⟩
  unfold cel
  rw [e, ay hx]
theorem rV {t : Tab} (h : bc t = true) (hs : dv t = true) : t.2.flatten.Nodup ∧ (∀ x ∈ t.2.flatten, 1 ≤ x ∧ x ≤ t.2.flatten.length) := by
  simp only [dv, Bool.and_eq_true] at hs
  have h1 := kA hs.1
  obtain ⟨a, b⟩ := (sk fun x hx => (h1 x hx).1).1 hs.2
  exact ⟨a, fun x hx => ⟨(h1 x hx).1, b x hx⟩⟩
theorem xG {t : Tab} (h : bc t = true) (hs : dv t = true) {r x : Nat} (hr : r < t.2.length) (hx : x < (t.2.getD r []).length) (e : cel t.2 r x = 1) : r = 0 ∧ x = 0 := by
  obtain ⟨hn, hrow⟩ := mV h
  have hcol := od h
  have r0 : r = 0 := by
    by_cases e0 : r = 0
    · exact e0
    · have hc := hcol (r - 1) (by omega)
      rw [show r - 1 + 1 = r by omega] at hc
      have h2 := hc.2 x hx
      have h3 := hn (r - 1) x (by omega) (by omega)
      unfold cel at e h3
      omega
  subst r0
  refine ⟨rfl, Nat.eq_zero_of_not_pos fun hp => ?_⟩
  have h2 := hrow 0 (x - 1) hr (by omega)
  rw [show x - 1 + 1 = x by omega] at h2
  have h3 := hn 0 (x - 1) hr (by omega)
  have nd : (t.2.getD 0 []).Nodup := by
    have := (rV h hs).1
    exact (List.pairwise_flatten.1 this).1 _ (by rw [ay hr]; exact List.getElem_mem hr)
  have e2 : (t.2.getD 0 [])[x - 1]'(by omega) = (t.2.getD 0 [])[x] := by
    have a := ay (xs := t.2.getD 0 []) (i := x - 1) (by omega) 0
    have b := ay (xs := t.2.getD 0 []) (i := x) hx 0
    unfold cel at e h2 h3
    rw [← a, ← b]
    omega
  exact List.pairwise_iff_getElem.1 nd (x - 1) x (by omega) hx (by omega) e2
theorem qg {t : Tab} (h : bc t = true) (hs : dv t = true) (h0 : 0 < t.2.flatten.length) : cel t.2 0 0 = 1 := by
  have ho : jm t.2.flatten = true := by
    simp only [dv, Bool.and_eq_true] at hs
    exact hs.2
  have hm := oP.1 ho 1 (jz.2 (by omega))
  obtain ⟨r, x, a, b, c⟩ := xI hm
  obtain ⟨rfl, rfl⟩ := xG h hs a b c
  exact c
end Go.Am.Pu
end
section
/- Promotion keeps shapes and standardness. Plain words. -/
namespace Go.Am.Pu
section
variable {t : Tab}
theorem ph (h0 : 0 < t.2.length) (r x : Nat) : cel (cf (dC t)) r x = if r = 0 ∧ x = 0 then 0 else cel t.2 r x := by
  have hl : (dC t).1 = [1] := rfl
  by_cases hr : r < t.2.length
  · rw [mo (by rw [iE]; exact hr), hl, oQ, kj]
    by_cases e : r = 0
    · subst e
      rw [if_pos rfl, if_pos rfl, show (1 : Int).toNat = 1 from rfl]
      by_cases ex : x = 0
      · subst ex; simp
      · rw [if_neg (by omega), if_neg (by omega), gD, show 1 + (x - 1) = x by omega]; rfl
    · rw [if_neg e, if_neg e, if_neg (by simp), if_neg (by omega), show x - (0 : Int).toNat = x from rfl]; rfl
  · rw [if_neg (by omega)]
    unfold cel
    rw [oO (by rw [iE]; omega), bU (xs := t.2) (by omega)]
theorem nc (h : bc t = true) (h0 : 0 < t.2.length) (r : Nat) : ((cf (dC t)).getD r []).length = (t.2.getD r []).length := by
  have hl : (dC t).1 = [1] := rfl
  by_cases hr : r < t.2.length
  · rw [lz (by rw [iE]; exact hr), hl, oQ, kj]
    by_cases e : r = 0
    · subst e
      have := gV h h0
      rw [if_pos rfl, if_pos rfl, List.length_drop, show (1 : Int).toNat = 1 from rfl]
      omega
    · rw [if_neg e, if_neg e]; simp
  · rw [oO (by rw [iE]; omega), bU (xs := t.2) (by omega)]
def takeEnd (t : Tab) : List (List Int) × (Nat × Nat) := bL 18 (cf (dC t)) 0 0
theorem mG (t : Tab) : (ba t).2 = (takeEnd t).2.1 := rfl
theorem o9 (h : bc t = true) (h0 : 0 < t.2.length) : tj (dC t) 0 (takeEnd t).1 (takeEnd t).2.1 (takeEnd t).2.2 :=
  (yU (lD h h0) (n := 0) (show 0 < 1 by omega) (show (0 : Int) < 1 by omega)).1
theorem yb (h : bc t = true) (h0 : 0 < t.2.length) (r : Nat) : (ba t).1.2.getD r [] = (jx (takeEnd t).1 (takeEnd t).2.1 (takeEnd t).2.2).getD r [] := by
  have E := o9 h h0
  show (cZ [] (jx (takeEnd t).1 (takeEnd t).2.1 (takeEnd t).2.2) (aT (outer (dC t)) (takeEnd t).2.1).length).getD r [] = _
  by_cases hr : r < (aT (outer (dC t)) (takeEnd t).2.1).length
  · rw [jj hr]; rfl
  · rw [bU (by rw [dJ]; omega)]
    have := E.cutl r
    rw [bU (xs := aT _ _) (by omega)] at this
    exact (List.eq_nil_of_length_eq_zero (by omega)).symm
theorem ri (h : bc t = true) (h0 : 0 < t.2.length) {r x : Nat} (hx : x < ((ba t).1.2.getD r []).length) : cel (ba t).1.2 r x = cel (takeEnd t).1 r x := by
  have E := o9 h h0
  have e := yb h h0 r
  rw [e] at hx
  have := xx E.sl.hi hx
  unfold cel at this ⊢
  rw [e]
  exact this
def Vn (n : Nat) (v : Int) : Prop := v = 0 ∨ (2 ≤ v ∧ v ≤ n)
theorem oS (h : bc t = true) (hs : dv t = true) (h0 : 0 < t.2.length) : ∀ r x, Vn t.2.flatten.length (cel (cf (dC t)) r x) := by
  intro r x
  rw [ph h0]
  by_cases e : r = 0 ∧ x = 0
  · rw [if_pos e]; exact .inl rfl
  · rw [if_neg e]
    by_cases hr : r < t.2.length
    · by_cases hx : x < (t.2.getD r []).length
      · have a := (rV h hs).2 _ (q9 hr hx)
        have b : cel t.2 r x ≠ 1 := fun e1 => e (xG h hs hr hx e1)
        exact .inr ⟨by omega, a.2⟩
      · unfold cel; rw [bU (by omega)]; exact .inl rfl
    · unfold cel; rw [bU (xs := t.2) (by omega)]; exact .inl rfl
theorem zw (h : bc t = true) (hs : dv t = true) (h0 : 0 < t.2.length) : ∀ r x, Vn t.2.flatten.length (cel (takeEnd t).1 r x) := pC 18 _ _ _ (oS h hs h0)
theorem pq (h : bc t = true) (hs : dv t = true) (h0 : 0 < t.2.length) {r x : Nat} (hx : x < ((ba t).1.2.getD r []).length) : 2 ≤ cel (ba t).1.2 r x ∧ cel (ba t).1.2 r x ≤ t.2.flatten.length := by
  have hr : r < (ba t).1.2.length := Nat.lt_of_not_le fun hle => by rw [bU hle] at hx; simp at hx
  have a := (mV (dB h h0).1).1 r x hr hx
  have b := zw h hs h0 r x
  rw [← ri h h0 hx] at b
  rcases b with b | b
  · omega
  · exact b
theorem qA (t : Tab) (r : Nat) : (dT (ba t)).getD r [] = (ba t).1.2.getD r [] := by
  unfold dT
  split
  · by_cases hi : r < (ba t).1.2.length
    · rw [ay (xs := (ba t).1.2 ++ [[]]) (by rw [List.length_append]; omega), List.getElem_append_left hi, ← ay hi []]
    · rw [bU (xs := (ba t).1.2) (by omega)]
      simp only [List.getD_eq_getElem?_getD, List.getElem?_append_right (Nat.le_of_not_lt hi)]
      cases r - (ba t).1.2.length <;> rfl
  · rfl
theorem qC (h : bc t = true) (h0 : 0 < t.2.length) : (dT (ba t)).length = t.2.length := by
  obtain ⟨s1, s2, s3, s4⟩ := dB h h0
  have a := congrArg List.length s2
  rw [cb] at a
  have hd := pH (gZ h) s4
  rw [cb] at hd
  unfold aT at a
  unfold dT
  split at a
  · next e =>
    rw [List.length_take, cb] at a
    have := hd e
    rw [if_pos (by omega), List.length_append, List.length_singleton]
    omega
  · rw [List.length_set, cb] at a
    rw [if_neg (by omega)]
    exact a
theorem rm (h : bc t = true) (hs : dv t = true) (hn : t.2.flatten.length ≠ 0) :
    cJ t = ((([] : List Int), (cn (-1) (dT (ba t))).set (ba t).2 ((cn (-1) (dT (ba t))).getD (ba t).2 [] ++ [(t.2.flatten.length : Int)])), true) := by
  unfold cJ
  rw [if_pos ⟨h, hs⟩, if_neg hn]
theorem kD (h : bc t = true) (hs : dv t = true) (hn : t.2.flatten.length ≠ 0) (r : Nat) :
    (cJ t).1.2.getD r [] = if r = (ba t).2 then ((ba t).1.2.getD r []).map (· + -1) ++ [(t.2.flatten.length : Int)] else ((ba t).1.2.getD r []).map (· + -1) := by
  rw [rm h hs hn]
  have hl := (lZ h (gr (by omega))).1
  simp only
  by_cases e : r = (ba t).2
  · rw [if_pos e, e, ay (by rw [List.length_set, jU]; exact hl), List.getElem_set_self, nt, qA]
  · rw [if_neg e, getD_set_ne (Ne.symm e), nt, qA]
theorem jC (h : bc t = true) (hs : dv t = true) (hn : t.2.flatten.length ≠ 0) : (cJ t).1.2.length = t.2.length := by
  rw [rm h hs hn]
  simp only [List.length_set, jU]
  exact qC h (gr (by omega))
theorem iF (h : bc t = true) (hs : dv t = true) (hn : t.2.flatten.length ≠ 0) (r : Nat) : ((cJ t).1.2.getD r []).length = (t.2.getD r []).length := by
  have h0 := gr (t := t) (by omega)
  have a := lp h h0 r
  have b := gV h (dB h h0).2.2.1
  rw [kD h hs hn]
  by_cases e : r = (ba t).2
  · subst e
    rw [if_pos rfl] at a ⊢
    simp only [List.length_append, List.length_map, List.length_singleton]
    omega
  · rw [if_neg e] at a ⊢
    rw [List.length_map]; exact a
theorem yC {a b : Tab} (ha : a.1 = []) (hb : b.1 = []) (hl : a.2.length = b.2.length) (hr : ∀ r, (a.2.getD r []).length = (b.2.getD r []).length) : outer a = outer b := by
  refine List.ext_getElem (by rw [cb, cb]; exact hl) fun r h1 h2 => ?_
  rw [cb] at h1 h2
  have e1 := fb a.1 a.2 0 r h1
  have e2 := fb b.1 b.2 0 r h2
  rw [← ay (by rw [cb]; exact h1) 0, ← ay (by rw [cb]; exact h2) 0]
  unfold outer
  rw [e1, e2, ha, hb, hr]
theorem gP (h : bc t = true) (hs : dv t = true) (hn : t.2.flatten.length ≠ 0) : outer (cJ t).1 = outer t :=
  yC lU (cN h) (jC h hs hn) (iF h hs hn)
theorem tZ {xs ys : List Int} {x : Nat} (h : x < xs.length) : (xs ++ ys).getD x 0 = xs.getD x 0 := by
  simp only [List.getD_eq_getElem?_getD, List.getElem?_append_left h]
theorem yA {xs ys : List Int} {x : Nat} (h : xs.length ≤ x) : (xs ++ ys).getD x 0 = ys.getD (x - xs.length) 0 := by
  simp only [List.getD_eq_getElem?_getD, List.getElem?_append_right h]
theorem eH (h : bc t = true) (hs : dv t = true) (hn : t.2.flatten.length ≠ 0) {r x : Nat} (hx : x < (t.2.getD r []).length) :
    (r = (ba t).2 ∧ x + 1 = (t.2.getD r []).length ∧ cel (cJ t).1.2 r x = t.2.flatten.length) ∨
    (¬ (r = (ba t).2 ∧ x + 1 = (t.2.getD r []).length) ∧ x < ((ba t).1.2.getD r []).length ∧ cel (cJ t).1.2 r x = cel (ba t).1.2 r x - 1) := by
  have h0 := gr (t := t) (by omega)
  have a := lp h h0 r
  have b := gV h (dB h h0).2.2.1
  have mapc : ∀ (l : List Int) (y : Nat), y < l.length → (l.map (· + -1)).getD y 0 = l.getD y 0 - 1 := fun l y hy => by
    rw [ay (by rw [List.length_map]; exact hy), List.getElem_map, ay hy]; rfl
  unfold cel
  rw [kD h hs hn]
  by_cases e : r = (ba t).2
  · subst e
    rw [if_pos rfl] at a ⊢
    by_cases e2 : x + 1 = (t.2.getD (ba t).2 []).length
    · left
      refine ⟨rfl, e2, ?_⟩
      rw [yA (by rw [List.length_map]; omega), List.length_map, show x - ((ba t).1.2.getD (ba t).2 []).length = 0 by omega]
      rfl
    · right
      refine ⟨fun hh => e2 hh.2, by omega, ?_⟩
      rw [← mapc _ x (by omega), tZ (by rw [List.length_map]; omega)]
  · rw [if_neg e] at a ⊢
    right
    exact ⟨fun hh => e hh.1, by omega, mapc _ x (by omega)⟩
theorem kL (h : bc t = true) (hs : dv t = true) (hn : t.2.flatten.length ≠ 0) : bc (cJ t).1 = true := by
  have h0 := gr (t := t) (by omega)
  have hS := (dB h h0).1
  obtain ⟨c1, c2⟩ := mV hS
  have c3 := od hS
  have h9 := j6 h
  have hlen := jC h hs hn
  have hrl := iF h hs hn
  have num : ∀ {r x : Nat}, x < (t.2.getD r []).length → 1 ≤ cel (cJ t).1.2 r x ∧ cel (cJ t).1.2 r x ≤ t.2.flatten.length := fun {r x} hx => by
    rcases eH h hs hn hx with ⟨_, _, e⟩ | ⟨_, e1, e⟩
    · rw [e]; omega
    · have := pq h hs h0 e1
      rw [e]; omega
  refine we lU (by rw [gP h hs hn]; exact gZ h) (fun r x hr hx => ?_) (fun r x hr hx => ?_) (fun r x hr hx => ?_)
  · rw [hrl] at hx
    have := num hx
    omega
  · rw [hrl] at hx
    rcases eH h hs hn hx with ⟨e1, e2, e⟩ | ⟨n1, e1, e⟩
    · rw [e]; exact (num (by omega)).2
    · rcases eH h hs hn (show x < (t.2.getD r []).length by omega) with ⟨e3, e4, _⟩ | ⟨_, _, e4⟩
      · omega
      · have := c2 r x (Nat.lt_of_not_le fun hle => by rw [bU hle] at e1; simp at e1) e1
        rw [e, e4]; omega
  · rw [hrl] at hx
    rw [hlen] at hr
    have hm := (od h r hr).1
    rcases eH h hs hn hx with ⟨e1, e2, e⟩ | ⟨n1, e1, e⟩
    · rcases eH h hs hn (show x < (t.2.getD r []).length by omega) with ⟨e3, _, _⟩ | ⟨_, e5, e4⟩
      · omega
      · have := pq h hs h0 e5
        rw [e, e4]; omega
    · rcases eH h hs hn (show x < (t.2.getD r []).length by omega) with ⟨e3, e4, _⟩ | ⟨_, _, e4⟩
      ·
        exfalso
        obtain ⟨_, _, s3, s4⟩ := dB h h0
        rw [← e3, dQ h hr, dQ h (show r < t.2.length by omega)] at s4
        omega
      · have := (c3 r (Nat.lt_of_not_le fun hle => by rw [bU hle] at e1; simp at e1)).2 x e1
        unfold cel at e e4 ⊢
        rw [e, e4]; omega
theorem jM (h : bc t = true) (hs : dv t = true) (hn : t.2.flatten.length ≠ 0) : (cJ t).1.2.flatten.length = t.2.flatten.length := by
  have a := m7 (kL h hs hn)
  rw [gP h hs hn, m7 h] at a
  omega
theorem v5 (h : bc t = true) (hs : dv t = true) (hn : t.2.flatten.length ≠ 0) : dv (cJ t).1 = true := by
  have h0 := gr (t := t) (by omega)
  have hp := kL h hs hn
  have hp' := hp
  simp only [bc, Bool.and_eq_true] at hp'
  simp only [dv, Bool.and_eq_true]
  refine ⟨hp'.1, oP.2 fun v hv => ?_⟩
  rw [jM h hs hn, jz] at hv
  have hrl := iF h hs hn
  have hlen := jC h hs hn
  have E := o9 h h0
  obtain ⟨s1, s2, s3, s4⟩ := dB h h0
  by_cases e : v = t.2.flatten.length
  · have hb := gV h s3
    have hx : (t.2.getD (ba t).2 []).length - 1 < (t.2.getD (ba t).2 []).length := by omega
    rcases eH h hs hn hx with ⟨_, _, e1⟩ | ⟨n1, _, _⟩
    · rw [e, ← e1]
      exact q9 (by rw [hlen]; exact s3) (by rw [hrl]; exact hx)
    · exact absurd ⟨rfl, by omega⟩ n1
  · have ho : jm t.2.flatten = true := by
      have := hs
      simp only [dv, Bool.and_eq_true] at this
      exact this.2
    obtain ⟨a, b, ha, hb, hab⟩ := xI (oP.1 ho (v + 1) (jz.2 (by omega)))
    have hne : ¬ (a = 0 ∧ b = 0) := fun hh => by
      have := qg h hs (by omega)
      rw [hh.1, hh.2] at hab
      omega
    have hocc : Occ (aT (dC t).1 0) (v + 1) (cf (dC t)) 0 0 := ⟨a, b, hne, by rw [nc h h0]; exact hb, by rw [show aT (dC t).1 0 = [] from rfl]; simp, by rw [ph h0, if_neg hne]; exact hab⟩
    have hst := mS (lD h h0) (n := 0) (show 0 < 1 by omega) (show (0 : Int) < 1 by omega)
    obtain ⟨a', b', h1, h2, h3, h4⟩ := pY 18 _ _ _ hst hocc
    have h1 : ¬ (a' = (takeEnd t).2.1 ∧ b' = (takeEnd t).2.2) := h1
    have h2 : b' < ((takeEnd t).1.getD a' []).length := h2
    have h4 : cel (takeEnd t).1 a' b' = v + 1 := h4
    have hl2 := E.row a'
    rw [nc h h0] at hl2
    have hcut : b' < ((ba t).1.2.getD a' []).length := by
      rw [lp h h0]
      by_cases e2 : a' = (ba t).2
      · rw [if_pos e2]
        have e3 := E.end_
        rw [lJ h h0, ← mG, dQ h s3] at e3
        rw [e2] at h2 hl2 ⊢
        rw [e2] at h1
        have : ¬ b' = (takeEnd t).2.2 := fun hh => h1 ⟨rfl, hh⟩
        omega
      · rw [if_neg e2]; omega
    have hv2 := ri h h0 hcut
    rw [h4] at hv2
    rcases eH h hs hn (show b' < (t.2.getD a' []).length by omega) with ⟨e1, e2, _⟩ | ⟨_, _, e1⟩
    · have := lp h h0 a'
      rw [if_pos e1] at this
      omega
    · rw [hv2] at e1
      rw [show v = cel (cJ t).1.2 a' b' by omega]
      refine q9 ?_ (by rw [hrl]; omega)
      rw [hlen]
      exact Nat.lt_of_not_le fun hle => by rw [hl2, bU (xs := t.2) hle] at h2; simp at h2
end
end Go.Am.Pu
end
section
/- Promotion undone: it is one to one. Plain words. -/
namespace Go.Am.Pu
def kC (t : Tab) (n : Nat) : List (List Int) :=
  (if n = t.2.length then cf t ++ [[]] else cf t).set n ((if n = t.2.length then cf t ++ [[]] else cf t).getD n [] ++ [0])
def nA (v : Int) : Int := if v = 0 then 0 else v - 1
theorem sL {t : Tab} (h : t.1 = []) : cf t = t.2 := by
  refine List.ext_getElem (gu t) fun r h1 h2 => ?_
  rw [← ay h1 [], ← ay h2 [], oE h2, h]
  simp
section
variable {t : Tab}
def fP (t : Tab) : Tab := ([], cn (-1) (ba t).1.2)
theorem lh (t : Tab) (r : Nat) : (fP t).2.getD r [] = ((ba t).1.2.getD r []).map (· + -1) := nt _ _ _
theorem yL {r x : Nat} (hx : x < ((ba t).1.2.getD r []).length) : cel (fP t).2 r x = cel (ba t).1.2 r x - 1 := by
  unfold cel
  rw [lh, ay (by rw [List.length_map]; exact hx), List.getElem_map, ay hx]; rfl
theorem zG {n : Nat} : ∀ u v, Vn n u → Vn n v → u < v → nA u < nA v := by
  intro u v hu hv h
  unfold nA Vn at *
  split <;> split <;> omega
theorem yS {n : Nat} {u v : Int} (hu : Vn n u) (hv : Vn n v) (h : nA u = nA v) : u = v := by
  unfold nA Vn at *
  split at h <;> split at h <;> omega
theorem tM (h : bc t = true) (hs : dv t = true) (h0 : 0 < t.2.length) :
    ∃ g, gX 18 (kC (fP t) (ba t).2) (ba t).2 ((outer t).getD (ba t).2 0 - 1).toNat = (g, (0, 0)) ∧ Ag nA (cf (dC t)) g 0 0 := by
  have E := o9 h h0
  obtain ⟨s1, s2, s3, s4⟩ := dB h h0
  have hrows := lp h h0
  have hp := gV h s3
  have hle := uw h h0
  have hc : ((outer t).getD (ba t).2 0 - 1).toNat = (takeEnd t).2.2 := by
    have := E.end_
    rw [lJ h h0, ← mG] at this
    omega
  have hcl : (takeEnd t).2.2 + 1 = (t.2.getD (ba t).2 []).length := by
    rw [dQ h s3] at hc
    omega
  have hst := mS (lD h h0) (n := 0) (show 0 < 1 by omega) (show (0 : Int) < 1 by omega)
  have hinn : Inn (aT (dC t).1 0) (cf (dC t)) := fun r x hx => by
    rw [show aT (dC t).1 0 = [] from rfl] at hx
    simp at hx; omega
  have hlS : (fP t).2.length = (ba t).1.2.length := jU _ _
  have hW := qC h h0
  have hbase : ∀ r, (if (ba t).2 = (fP t).2.length then cf (fP t) ++ [[]] else cf (fP t)).getD r [] = (fP t).2.getD r [] := by
    intro r
    rw [sL rfl]
    split
    · by_cases hr : r < (fP t).2.length
      · simp only [List.getD_eq_getElem?_getD, List.getElem?_append_left hr]
      · rw [bU (xs := (fP t).2) (by omega)]
        simp only [List.getD_eq_getElem?_getD, List.getElem?_append_right (Nat.le_of_not_lt hr)]
        cases r - (fP t).2.length <;> rfl
    · rfl
  have hblen : (if (ba t).2 = (fP t).2.length then cf (fP t) ++ [[]] else cf (fP t)).length = t.2.length := by
    rw [sL rfl, ← hW]
    unfold dT
    rw [hlS]
    split
    · rw [List.length_append, List.length_append, hlS]
    · exact hlS
  have hog : ∀ r, (kC (fP t) (ba t).2).getD r [] = if r = (ba t).2 then (fP t).2.getD r [] ++ [0] else (fP t).2.getD r [] := by
    intro r
    unfold kC
    by_cases e : r = (ba t).2
    · subst e
      rw [if_pos rfl, ay (by rw [List.length_set, hblen]; exact s3), List.getElem_set_self, hbase]
    · rw [if_neg e, getD_set_ne (Ne.symm e), hbase]
  have hag : Ag nA (takeEnd t).1 (kC (fP t) (ba t).2) (takeEnd t).2.1 (takeEnd t).2.2 := by
    refine ⟨?_, fun r => ?_, fun r x hn => ?_⟩
    · unfold kC
      rw [List.length_set, hblen, E.len, iE]
    · have a := E.row r
      rw [nc h h0] at a
      have b := hrows r
      rw [a, hog]
      by_cases e : r = (ba t).2
      · subst e
        rw [if_pos rfl] at b ⊢
        rw [List.length_append, lh, List.length_map, List.length_singleton]
        omega
      · rw [if_neg e] at b ⊢
        rw [lh, List.length_map]; exact b
    · have hin : x < ((ba t).1.2.getD r []).length → cel (kC (fP t) (ba t).2) r x = cel (fP t).2 r x := fun hx => by
        unfold cel
        rw [hog]
        by_cases e : r = (ba t).2
        · rw [if_pos e, tZ (by rw [lh, List.length_map]; exact hx)]
        · rw [if_neg e]
      by_cases hx : x < ((ba t).1.2.getD r []).length
      · have hv := pq h hs h0 hx
        rw [hin hx, yL hx, ← ri h h0 hx]
        unfold nA
        rw [if_neg (by omega)]
      · have a := E.row r
        rw [nc h h0] at a
        have b := hrows r
        have hout : ((takeEnd t).1.getD r []).length ≤ x := by
          by_cases e : r = (ba t).2
          · subst e
            rw [if_pos rfl] at b
            have : ¬ x = (takeEnd t).2.2 := fun hh => hn ⟨rfl, hh⟩
            omega
          · rw [if_neg e] at b; omega
        have e1 : cel (takeEnd t).1 r x = 0 := by unfold cel; rw [bU hout]
        have e2 : cel (kC (fP t) (ba t).2) r x = 0 := by
          unfold cel
          rw [hog]
          by_cases e : r = (ba t).2
          · subst e
            rw [if_pos rfl] at b ⊢
            rw [bU]
            rw [List.length_append, lh, List.length_map, List.length_singleton]
            omega
          · rw [if_neg e] at b ⊢
            rw [bU]
            rw [lh, List.length_map]; omega
        rw [e1, e2]; rfl
  obtain ⟨n, g, a1, a2, a3⟩ := nS (f := nA) (V := Vn t.2.flatten.length) zG rfl 18 _ _ _ hst hinn (oS h hs h0) _ hag
  have a2 : 0 + (1 - 1 : Int).toNat + n = (takeEnd t).2.1 + (takeEnd t).2.2 := a2
  have a3 : ∀ m0, gX (m0 + n) (kC (fP t) (ba t).2) (takeEnd t).2.1 (takeEnd t).2.2 = gX m0 g 0 0 := a3
  have hn : n ≤ 18 := by
    have h9 := jg h
    have := h9.at (ba t).2
    have h10 := h9.1
    have : (takeEnd t).2.1 = (ba t).2 := rfl
    simp at a2
    omega
  refine ⟨g, ?_, a1⟩
  have a4 := a3 (18 - n)
  rw [show (18 - n) + n = 18 by omega, ← mG] at a4
  rw [hc, a4]
  exact yq rfl rfl _
theorem vU {u : Tab} (h : bc t = true) (hs : dv t = true) (hn : t.2.flatten.length ≠ 0) (h' : bc u = true) (hs' : dv u = true) (hn' : u.2.flatten.length ≠ 0) (e : (cJ t).1 = (cJ u).1) : t = u := by
  have h0 := gr (t := t) (by omega)
  have h0' := gr (t := u) (by omega)
  have e2 : (cJ t).1.2 = (cJ u).1.2 := by rw [e]
  have el : t.2.length = u.2.length := by rw [← jC h hs hn, ← jC h' hs' hn', e2]
  have er : ∀ r, (t.2.getD r []).length = (u.2.getD r []).length := fun r => by rw [← iF h hs hn, ← iF h' hs' hn', e2]
  have eo : outer t = outer u := by rw [← gP h hs hn, ← gP h' hs' hn', e]
  have ef : t.2.flatten.length = u.2.flatten.length := by rw [← jM h hs hn, ← jM h' hs' hn', e2]
  have erow : (ba t).2 = (ba u).2 := by
    obtain ⟨_, _, s3, _⟩ := dB h h0
    have hb := gV h s3
    rcases eH h hs hn (show (t.2.getD (ba t).2 []).length - 1 < (t.2.getD (ba t).2 []).length by omega) with ⟨_, _, e1⟩ | ⟨n1, _, _⟩
    · have hx : (t.2.getD (ba t).2 []).length - 1 < (u.2.getD (ba t).2 []).length := by rw [← er]; omega
      rcases eH h' hs' hn' hx with ⟨e3, _, _⟩ | ⟨_, e4, e5⟩
      · exact e3
      · have := pq h' hs' h0' e4
        rw [e2, e5] at e1
        omega
    · exact absurd ⟨rfl, by omega⟩ n1
  have es : ∀ r, (ba t).1.2.getD r [] = (ba u).1.2.getD r [] := by
    intro r
    have a := kD h hs hn r
    rw [e2, kD h' hs' hn', ← erow] at a
    have inj : ∀ {l m : List Int}, l.map (· + -1) = m.map (· + -1) → l = m := fun {l m} hlm => by
      have := congrArg (List.map (· + (1 : Int))) hlm
      simpa [List.map_map, Function.comp_def, Int.add_assoc] using this
    by_cases er : r = (ba t).2
    · rw [if_pos er, if_pos er] at a
      exact (inj (List.append_inj' a rfl).1).symm
    · rw [if_neg er, if_neg er] at a
      exact (inj a).symm
  have eW : (ba t).1.2.length = (ba u).1.2.length := by
    have a := congrArg List.length (dB h h0).2.1
    have b := congrArg List.length (dB h' h0').2.1
    rw [cb] at a b
    rw [a, b, eo, erow]
  have eS : (ba t).1.2 = (ba u).1.2 := List.ext_getElem eW fun r h1 h2 => by
    rw [← ay h1 [], ← ay h2 []]; exact es r
  have eD : fP t = fP u := by unfold fP; rw [eS]
  obtain ⟨g, a1, a2⟩ := tM h hs h0
  obtain ⟨g', b1, b2⟩ := tM h' hs' h0'
  rw [eD, erow, eo, b1] at a1
  have eg : g' = g := by injection a1
  subst eg
  have cells : ∀ r x, cel t.2 r x = cel u.2 r x := by
    intro r x
    by_cases c : r = 0 ∧ x = 0
    · rw [c.1, c.2, qg h hs (by omega), qg h' hs' (by omega)]
    · have v1 := oS h hs h0 r x
      have v2 := oS h' hs' h0' r x
      rw [← ef] at v2
      have c1 := a2.at_ r x c
      have c2 := b2.at_ r x c
      have := yS v1 v2 (by rw [← c1, ← c2])
      rw [ph h0, ph h0', if_neg c, if_neg c] at this
      exact this
  refine Prod.ext (by rw [cN h, cN h']) ?_
  refine List.ext_getElem el fun r h1 h2 => ?_
  rw [← ay h1 [], ← ay h2 []]
  refine List.ext_getElem (er r) fun x h3 h4 => ?_
  rw [← ay h3 0, ← ay h4 0]
  exact cells r x
end
end Go.Am.Pu
end
section
/- Orbits of promotion come back. Plain words. -/
namespace Go.Am.Pu
def prom (t : Tab) : Tab := (cJ t).1
def iter : Nat → Tab → Tab
  | 0, t => t
  | n + 1, t => iter n (prom t)
structure Good (t : Tab) : Prop where
  pl : bc t = true
  st : dv t = true
  ne : t.2.flatten.length ≠ 0
theorem Good.prom {t : Tab} (h : Good t) : Good (prom t) := ⟨kL h.pl h.st h.ne, v5 h.pl h.st h.ne, by unfold Pu.prom; rw [jM h.pl h.st h.ne]; exact h.ne⟩
theorem k9 : ∀ (n : Nat) {t : Tab}, Good t → Good (iter n t)
  | 0, _, h => h
  | n + 1, _, h => k9 n h.prom
theorem uZ : ∀ (a b : Nat) (t : Tab), iter (a + b) t = iter b (iter a t)
  | 0, b, t => by rw [Nat.zero_add]; rfl
  | a + 1, b, t => by
    rw [show a + 1 + b = (a + b) + 1 by omega]
    exact uZ a b (prom t)
theorem u7 : ∀ (n : Nat) {t u : Tab}, Good t → Good u → iter n t = iter n u → t = u
  | 0, _, _, _, _, e => e
  | n + 1, t, u, h, h', e => vU h.pl h.st h.ne h'.pl h'.st h'.ne (u7 n h.prom h'.prom e)
theorem nZ : ∀ (n : Nat) {t : Tab}, Good t → outer (iter n t) = outer t
  | 0, _, _ => rfl
  | n + 1, t, h => by
    have a := nZ n h.prom
    have b := gP h.pl h.st h.ne
    exact a.trans b
def code : List Int → Int
  | [] => 0
  | x :: xs => x + 10 * code xs
theorem xu : ∀ (n : Nat) (l : List Int), l.length ≤ n → (∀ x ∈ l, 1 ≤ x ∧ x ≤ 9) → 0 ≤ code l ∧ code l < (10 ^ n : Nat)
  | n, [], _, _ => ⟨by simp [code], by
    have : 0 < 10 ^ n := Nat.pow_pos (by omega)
    simp only [code]; omega⟩
  | 0, x :: xs, h, _ => by simp at h
  | n + 1, x :: xs, h, hx => by
    have ih := xu n xs (by simp at h; exact h) fun y hy => hx y (List.mem_cons_of_mem _ hy)
    have := hx x (List.mem_cons_self ..)
    rw [Nat.pow_succ]
    simp only [code]
    omega
theorem wm : ∀ (l m : List Int), l.length = m.length → (∀ x ∈ l, 1 ≤ x ∧ x ≤ 9) → (∀ x ∈ m, 1 ≤ x ∧ x ≤ 9) → code l = code m → l = m
  | [], [], _, _, _, _ => rfl
  | [], _ :: _, h, _, _, _ => by simp at h
  | _ :: _, [], h, _, _, _ => by simp at h
  | x :: xs, y :: ys, h, hx, hy, e => by
    have a := hx x (List.mem_cons_self ..)
    have b := hy y (List.mem_cons_self ..)
    simp only [code] at e
    have e1 : x = y := by omega
    have e2 : code xs = code ys := by omega
    rw [e1, wm xs ys (by simpa using h) (fun z hz => hx z (List.mem_cons_of_mem _ hz)) (fun z hz => hy z (List.mem_cons_of_mem _ hz)) e2]
theorem u4 : ∀ (a b : List (List Int)), a.map List.length = b.map List.length → a.flatten = b.flatten → a = b
  | [], [], _, _ => rfl
  | [], _ :: _, h, _ => by simp at h
  | _ :: _, [], h, _ => by simp at h
  | x :: xs, y :: ys, h, e => by
    simp only [List.map_cons, List.cons.injEq] at h
    simp only [List.flatten_cons] at e
    obtain ⟨e1, e2⟩ := List.append_inj e h.1
    rw [e1, u4 xs ys h.2 e2]
theorem yH {t u : Tab} (h : bc t = true) (h' : bc u = true) (eo : outer t = outer u) (ef : t.2.flatten = u.2.flatten) : t = u := by
  have el : t.2.length = u.2.length := by rw [← cb, ← cb, eo]
  refine Prod.ext (by rw [cN h, cN h']) (u4 _ _ ?_ ef)
  refine List.ext_getElem (by simpa using el) fun r h1 h2 => ?_
  simp only [List.length_map] at h1 h2
  rw [List.getElem_map, List.getElem_map]
  have a := dQ h h1
  have b := dQ h' h2
  rw [eo] at a
  rw [ay h1] at a
  rw [ay h2] at b
  omega
theorem pF {t : Tab} (h : Good t) : 0 ≤ code t.2.flatten ∧ code t.2.flatten < 1000000000 ∧ (∀ x ∈ t.2.flatten, 1 ≤ x ∧ x ≤ 9) := by
  have hp := h.pl
  simp only [bc, Bool.and_eq_true] at hp
  have := kA hp.1
  have := xu 9 _ (j6 h.pl) this
  refine ⟨this.1, this.2, ?_⟩
  assumption
theorem wR {t : Tab} (h : Good t) : ∃ d, 1 ≤ d ∧ d ≤ 1000000000 ∧ iter d t = t := by
  refine Classical.byContradiction fun hno => ?_
  have hne : ∀ i j, i < j → j ≤ 1000000000 → iter i t ≠ iter j t := by
    intro i j hij hj e
    refine hno ⟨j - i, by omega, by omega, ?_⟩
    rw [show j = (j - i) + i by omega, uZ] at e
    exact (u7 i h (k9 (j - i) h) e).symm
  have hcode : ∀ i j, code (iter i t).2.flatten = code (iter j t).2.flatten → iter i t = iter j t := by
    intro i j e
    have a := k9 i h
    have b := k9 j h
    have eo : outer (iter i t) = outer (iter j t) := by rw [nZ i h, nZ j h]
    have el : (iter i t).2.flatten.length = (iter j t).2.flatten.length := by
      have x := m7 a.pl
      have y := m7 b.pl
      rw [eo] at x
      omega
    exact yH a.pl b.pl eo (wm _ _ el (pF a).2.2 (pF b).2.2 e)
  have hR : ((List.range 1000000001).map fun i => code (iter i t).2.flatten + 1).Nodup := by
    rw [List.Nodup, List.pairwise_map]
    refine List.Pairwise.imp_of_mem (R := fun a b => a < b) (fun {a b} ha hb hab e => ?_) List.pairwise_lt_range
    rw [List.mem_range] at hb
    exact hne a b hab (by omega) (hcode a b (by omega))
  have hsub : ∀ x ∈ (List.range 1000000001).map (fun i => code (iter i t).2.flatten + 1), x ∈ sy 1000000000 := by
    intro x hx
    obtain ⟨i, _, rfl⟩ := List.mem_map.1 hx
    have := pF (k9 i h)
    rw [jz]
    omega
  have := oG _ _ hR hsub
  rw [List.length_map, List.length_range, pf] at this
  omega
def ku : Nat → Tab → Tab → List Tab → List Tab
  | 0, _, _, acc => acc
  | m + 1, t, cur, acc => if prom cur = t then acc else ku m t (prom cur) (acc ++ [prom cur])
theorem uc : ∀ (m : Nat) (t cur : Tab) (acc : List Tab), (ku m t cur acc).length ≤ acc.length + m
  | 0, _, _, _ => Nat.le_refl _
  | m + 1, t, cur, acc => by
    unfold ku
    split
    · omega
    · have := uc m t (prom cur) (acc ++ [prom cur])
      rw [List.length_append, List.length_singleton] at this
      omega
theorem zz {t : Tab} (h : bc t = true) (hs : dv t = true) : ∃ d, 1 ≤ d ∧ d ≤ 1000000000 ∧ iter d t = t := by
  by_cases hn : t.2.flatten.length = 0
  · refine ⟨1, by omega, by omega, ?_⟩
    show (cJ t).1 = t
    unfold cJ
    rw [if_pos ⟨h, hs⟩, if_pos hn]
    refine Prod.ext (cN h).symm ?_
    refine (List.eq_nil_of_length_eq_zero (Nat.eq_zero_of_not_pos fun hp => ?_)).symm
    have := gV h hp
    have hl := q9 hp (show 0 < (t.2.getD 0 []).length by omega)
    rw [List.eq_nil_of_length_eq_zero hn] at hl
    simp at hl
  · exact wR ⟨h, hs, hn⟩
end Go.Am.Pu
end
section
/- A slide outwards, as the program has it; demotion. Plain words. -/
namespace Go.Am.Pu
section
variable {u : Tab}
end
end Go.Am.Pu
end
section
/- The last promotion of an orbit; orbits' sizes. Plain words. -/
namespace Go.Am.Pu
def qE (t : Tab) : Prop := t.1 = [] ∧ dy 10 10 t.2
theorem qE.ok {t : Tab} (h : qE t) : ig t := ⟨by rw [h.1]; simp, by have := h.2.1; omega, fun r hr => by have := h.2.2 r hr; omega⟩
theorem qE.size {t : Tab} (h : qE t) : dk t.2 ≤ 100 := by
  have a := sh t.2 10 h.2.2
  have b := h.2.1
  omega
theorem zu {t : Tab} : ∀ (m : Nat) (cur : Tab) (acc : List Tab), (∀ x ∈ acc, qE x) → ∀ x ∈ ku m t cur acc, qE x
  | 0, _, _, h => h
  | m + 1, cur, acc, h => by
    unfold ku
    split
    · exact h
    · refine zu m _ _ fun x hx => ?_
      rcases List.mem_append.1 hx with hx | hx
      · exact h x hx
      · rw [List.mem_singleton.1 hx]
        exact ⟨lU, ox⟩
def iK (l : List Tab) : Nat := (l.map fun t => t.1.length + dk t.2).foldr (· + ·) 0
def kq : List Tab → Int → List Tab
  | [], _ => []
  | t :: l, q => (mark t.1 q, gJ t.2 (q + t.1.length)) :: kq l (q + t.1.length + dk t.2)
theorem rO : ∀ (l : List Tab) (q : Int), (kq l q).length = l.length
  | [], _ => rfl
  | _ :: l, q => by simp [kq, rO l]
theorem nW (t : Tab) (l : List Tab) : iK (t :: l) = t.1.length + dk t.2 + iK l := by simp [iK]
theorem vY : ∀ (l : List Tab), (∀ t ∈ l, qE t) → iK l ≤ l.length * 100
  | [], _ => by simp [iK]
  | t :: l, h => by
    have a := (h t (List.mem_cons_self ..)).size
    have b := vY l fun x hx => h x (List.mem_cons_of_mem _ hx)
    have c := (h t (List.mem_cons_self ..)).1
    rw [nW, c, List.length_cons]
    simp only [List.length_nil]
    omega
section
attribute [local instance] D.real
variable {α β : Type} {x y v : Option α}
theorem bE {x : Option β} {z : β} {f : β → Option α} (h : x = some z) (g : f z = v) : D.bnd x f = v := by rw [h]; exact g
theorem tN (g : x = v) : D.test (D.no true) y x = v := g
theorem tG {p : Prop} [Decidable p] (h : p) (g : x = v) : D.test (decide p) x y = v := by
  show (if decide p = true then x else y) = v
  rw [if_pos (decide_eq_true h)]; exact g
theorem tX {p : Prop} [Decidable p] (h : ¬ p) (g : y = v) : D.test (decide p) x y = v := by
  show (if decide p = true then x else y) = v
  rw [decide_eq_false h]; exact g
theorem tE {a b : Int} (h : a = b) (g : x = v) : D.test (D.no (D.eq a b)) y x = v := by
  show (if (!decide (a = b)) = true then y else x) = v
  rw [decide_eq_true h]; exact g
end
end Go.Am.Pu
end
