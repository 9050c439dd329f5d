/- Plain laws of lists, partitions, shapes and tableaux; no program in sight. -/
import Derived.Test.YtilkippgilnhcaaAmP
set_option linter.unusedSimpArgs false
set_option linter.unusedVariables false
set_option linter.unnecessarySimpa false
set_option linter.unusedSectionVars false
section
/- Rules for loops over data: a loop that looks at all, a loop that folds. -/
namespace Go.Am.Pu
open Go.Am
theorem w64 {n : Int} (h1 : -9223372036854775808 ≤ n) (h2 : n ≤ 9223372036854775807) : IntKind.i64.wrap n = n := Go.Am.w64 h1 h2
theorem jl {R : Type} (L : Nat → Nat → Option R) (n : Nat) (p : Nat → Bool) (bad yP : Option R)
    (hs : ∀ j i, i < n → L (j + 1) i = if p i = true then L j (i + 1) else bad) (he : ∀ j, L (j + 1) n = yP) :
    ∀ (m j i : Nat), i + m = n → m < j → L j i = if (List.range' i m).all p = true then yP else bad
  | m, 0, i, _, h => by omega
  | 0, j + 1, i, h, _ => by
    have : i = n := by omega
    subst this
    rw [he]; rfl
  | m + 1, j + 1, i, h, hj => by
    rw [hs j i (by omega), jl L n p bad yP hs he m j (i + 1) (by omega) (by omega), List.range'_succ, List.all_cons]
    cases p i
    · rw [if_neg (by simp), Bool.false_and, if_neg (by simp)]
    · rw [if_pos rfl, Bool.true_and]
theorem dT {p : Nat → Bool} {n : Nat} : (List.range' 0 n).all p = true ↔ ∀ i, i < n → p i = true := by
  simp [List.all_eq_true, List.mem_range'_1]
theorem bc {α : Type} {xs : List α} {i : Nat} (h : i < xs.length) (d : α) : xs.getD i d = xs[i] := by
  simp only [List.getD_eq_getElem?_getD, List.getElem?_eq_getElem h, Option.getD_some]
theorem cr {α : Type} {xs : List α} {i : Nat} (h : xs.length ≤ i) (d : α) : xs.getD i d = d := by
  simp only [List.getD_eq_getElem?_getD, List.getElem?_eq_none h, Option.getD_none]
theorem drop_cons {α : Type} {xs : List α} {i : Nat} (h : i < xs.length) (d : α) : xs.drop i = xs.getD i d :: xs.drop (i + 1) := by
  rw [bc h, List.drop_eq_getElem_cons h]
theorem take_succ {α : Type} {xs : List α} {i : Nat} (h : i < xs.length) (d : α) : xs.take (i + 1) = xs.take i ++ [xs.getD i d] := by
  rw [bc h, List.take_succ_eq_append_getElem h]
end Go.Am.Pu
end
section
/- Marking memory and looking whether the marks are held. -/
namespace Go.Am.Pu
def held : List Int → Int → Int
  | [], q => q
  | x :: xs, q => if x = q then held xs (q + 1) else -1
def kW : List (List Int) → Nat
  | [] => 0
  | x :: xs => x.length + kW xs
theorem qW : ∀ (xs : List (List Int)) (n : Nat), (∀ x ∈ xs, x.length ≤ n) → kW xs ≤ xs.length * n
  | [], n, _ => by simp [kW]
  | x :: xs, n, h => by
    have h1 := h x (by simp)
    have h2 := qW xs n fun y hy => h y (by simp [hy])
    simp only [kW, List.length_cons, Nat.succ_mul]
    omega
theorem xL {xs : List (List Int)} (h : xs.length ≤ 1048576) (hr : ∀ x ∈ xs, x.length ≤ 1048576) : kW xs ≤ 1099511627776 := by
  have h1 := qW xs 1048576 hr
  have h2 : xs.length * 1048576 ≤ 1048576 * 1048576 := Nat.mul_le_mul_right _ h
  omega
end Go.Am.Pu
end
section
/- Partitions, shapes and tableaux as plain words. -/
namespace Go.Am.Pu
def within (x lo hi : Int) : Bool := decide (lo ≤ x) && decide (x ≤ hi)
def atI (p : List Int) (i : Int) : Int := if i < 0 then 0 else p.getD i.toNat 0
theorem dU (p : List Int) (i : Nat) : atI p (i : Int) = p.getD i 0 := by simp [atI]; omega
theorem oY {p : List Int} {i : Int} (h : i < 0) : atI p i = 0 := by simp [atI, h]
theorem we {p : List Int} {i : Int} (h : (p.length : Int) ≤ i) : atI p i = 0 := by
  unfold atI
  split
  · rfl
  · exact cr (by omega) 0
def fH : List Int → Int → Int → Bool
  | [], _, _ => true
  | x :: xs, prev, s => decide (1 ≤ x) && (decide (x ≤ prev) && (decide (s + x ≤ 9) && fH xs x (s + x)))
def cD (p : List Int) : Bool := fH p 9 0
def gM : List Int → Int
  | [] => 0
  | x :: xs => x + gM xs
theorem qy : ∀ (p : List Int) (prev s : Int), fH p prev s = true → (∀ x ∈ p, 1 ≤ x ∧ x ≤ prev) ∧ (p ≠ [] → s + gM p ≤ 9) ∧ (p.length : Int) ≤ gM p
  | [], prev, s, _ => ⟨fun x h => (by cases h), fun h => absurd rfl h, (by simp [gM])⟩
  | x :: xs, prev, s, h => by
    simp only [fH, Bool.and_eq_true, decide_eq_true_eq] at h
    obtain ⟨h1, h2, h3, h4⟩ := h
    obtain ⟨k1, k2, k3⟩ := qy xs x (s + x) h4
    refine ⟨fun y hy => ?_, fun _ => ?_, ?_⟩
    · rcases List.mem_cons.1 hy with rfl | hy
      · exact ⟨h1, h2⟩
      · have := k1 y hy; omega
    · simp only [gM]
      by_cases e : xs = []
      · subst e; simp [gM]; omega
      · have := k2 e; omega
    · simp only [gM, List.length_cons]; omega
theorem cU {p : List Int} (h : cD p = true) : (∀ x ∈ p, 1 ≤ x ∧ x ≤ 9) ∧ gM p ≤ 9 ∧ p.length ≤ 9 ∧ (p.length : Int) ≤ gM p := by
  obtain ⟨h1, h2, h3⟩ := qy p 9 0 h
  have : gM p ≤ 9 := by
    by_cases e : p = []
    · subst e; simp [gM]
    · have := h2 e; omega
  exact ⟨h1, this, by omega, h3⟩
theorem gm {p : List Int} (h : cD p = true) (i : Int) : 0 ≤ atI p i ∧ atI p i ≤ 9 := by
  unfold atI
  split
  · omega
  · by_cases hl : i.toNat < p.length
    · rw [bc hl]
      have := (cU h).1 _ (List.getElem_mem hl)
      omega
    · rw [cr (by omega)]; omega
def dp (q p : List Int) : Bool := cD q && (cD p && (decide (q.length ≤ p.length) && (List.range' 0 q.length).all fun i => decide (q.getD i 0 ≤ p.getD i 0)))
theorem wy {q p : List Int} (hq : cD q = true) (h : (List.range' 0 q.length).all (fun i => decide (q.getD i 0 ≤ p.getD i 0)) = true) : q.length ≤ p.length := by
  rw [dT] at h
  refine Nat.le_of_not_lt fun hlt => ?_
  have h1 := h p.length hlt
  rw [decide_eq_true_eq, cr (Nat.le_refl _), bc hlt] at h1
  have := (cU hq).1 _ (List.getElem_mem hlt)
  omega
theorem u9 {q p : List Int} : dp q p = (cD q && (cD p && (List.range' 0 q.length).all fun i => decide (q.getD i 0 ≤ p.getD i 0))) := by
  unfold dp
  cases hq : cD q with
  | false => rfl
  | true =>
    cases hp : cD p with
    | false => rfl
    | true =>
      simp only [Bool.true_and]
      cases ha : (List.range' 0 q.length).all fun i => decide (q.getD i 0 ≤ p.getD i 0) with
      | false => simp
      | true => simp [wy hq ha]
def dR (inner : List Int) : Nat → List (List Int) → List Int
  | _, [] => []
  | i, r :: rs => (inner.getD i 0 + r.length) :: dR inner (i + 1) rs
theorem jf (inner : List Int) : ∀ (rs : List (List Int)) (i : Nat), (dR inner i rs).length = rs.length
  | [], _ => rfl
  | _ :: rs, i => by simp [dR, jf inner rs]
theorem fX (inner : List Int) : ∀ (rs : List (List Int)) (i q : Nat), q < rs.length → (dR inner i rs).getD q 0 = inner.getD (i + q) 0 + (rs.getD q []).length
  | [], i, q, h => by simp at h
  | r :: rs, i, 0, _ => by simp [dR]
  | r :: rs, i, q + 1, h => by
    have := fX inner rs (i + 1) q (by simpa using h)
    simp only [dR, List.getD_cons_succ]
    rw [this]
    have e : i + 1 + q = i + (q + 1) := by omega
    rw [e]
abbrev Tab := List Int × List (List Int)
def outer (t : Tab) : List Int := dR t.1 0 t.2
def cY (t : Tab) : Bool := cD t.1 && (decide (t.1.length ≤ t.2.length) && dp t.1 (outer t))
def shapeOf (t : Tab) : (List Int × List Int) × Bool := if cY t = true then ((outer t, t.1), true) else (([], []), false)
theorem ql {t : Tab} (h : cY t = true) : t.2.length ≤ 9 := by
  simp only [cY, dp, Bool.and_eq_true] at h
  have := (cU h.2.2.2.1).2.2.1
  rw [outer, jf] at this
  exact this
def entry (t : Tab) (r c : Int) : Int := if r < 0 then 0 else if (t.2.length : Int) ≤ r then 0 else atI (t.2.getD r.toNat []) (c - atI t.1 r)
theorem m6 {t : Tab} {r : Nat} (h : r < t.2.length) (c : Int) : entry t r c = atI (t.2.getD r []) (c - t.1.getD r 0) := by
  unfold entry
  rw [if_neg (by omega), if_neg (by omega), dU]
  rfl
theorem yh {t : Tab} {r c : Int} (h : r < 0) : entry t r c = 0 := by unfold entry; rw [if_pos h]
theorem uZ {t : Tab} {r q : Nat} (h : r < t.2.length) : entry t r (t.1.getD r 0 + q) = (t.2.getD r []).getD q 0 := by
  rw [m6 h]
  have e : t.1.getD r 0 + (q : Int) - t.1.getD r 0 = q := by omega
  rw [e, dU]
theorem wo {t : Tab} {r q : Nat} (h : r < t.2.length) : entry t r (t.1.getD r 0 + q - 1) = if q = 0 then 0 else (t.2.getD r []).getD (q - 1) 0 := by
  rw [m6 h]
  by_cases e : q = 0
  · subst e
    rw [if_pos rfl, oY (by omega)]
  · rw [if_neg e]
    have e : t.1.getD r 0 + (q : Int) - 1 - t.1.getD r 0 = ((q - 1 : Nat) : Int) := by omega
    rw [e, dU]
def fC (t : Tab) (i k : Nat) : Bool := within ((t.2.getD i []).getD k 0) 1 9 && ((decide (k = 0) || decide ((t.2.getD i []).getD (k - 1) 0 ≤ (t.2.getD i []).getD k 0)) &&
  (decide (i = 0) || decide (entry t ((i : Int) - 1) (t.1.getD i 0 + k) < (t.2.getD i []).getD k 0)))
def fV (t : Tab) : Bool := cY t && (List.range' 0 t.2.length).all fun i => (List.range' 0 (t.2.getD i []).length).all fun k => fC t i k
def bZ (t : Tab) : Bool := fV t && decide (t.1.length = 0)
theorem jI {t : Tab} (h : fV t = true) : cY t = true := by
  simp only [fV, Bool.and_eq_true] at h; exact h.1
theorem na (inner : List Int) : ∀ (rs : List (List Int)) (i : Nat), (∀ q, i ≤ q → inner.getD q 0 = 0) → gM (dR inner i rs) = rs.flatten.length
  | [], i, _ => rfl
  | r :: rs, i, h => by
    simp only [dR, gM, List.flatten_cons, List.length_append]
    rw [na inner rs (i + 1) (fun q hq => h q (by omega)), h i (Nat.le_refl _)]
    omega
theorem jM {t : Tab} (h : bZ t = true) : t.2.flatten.length ≤ 9 := by
  simp only [bZ, Bool.and_eq_true, decide_eq_true_eq] at h
  have hs := jI h.1
  simp only [cY, dp, Bool.and_eq_true] at hs
  have h9 := (cU hs.2.2.2.1).2.1
  have : t.1 = [] := List.eq_nil_of_length_eq_zero h.2
  rw [outer, na t.1 t.2 0 (fun q _ => by rw [this]; rfl)] at h9
  omega
def bm : List (List Int) → Int → List (List Int) × Nat
  | [], x => ([[x]], 0)
  | r :: rs, x => if r.findIdx (fun n => decide (x < n)) < r.length
      then (r.set (r.findIdx fun n => decide (x < n)) x :: (bm rs (r.getD (r.findIdx fun n => decide (x < n)) 0)).1, (bm rs (r.getD (r.findIdx fun n => decide (x < n)) 0)).2 + 1)
      else ((r ++ [x]) :: rs, 0)
theorem p0 : ∀ (rs : List (List Int)) (x : Int), (bm rs x).1.length ≤ rs.length + 1
  | [], x => by simp [bm]
  | r :: rs, x => by
    unfold bm
    split
    · have := p0 rs (r.getD (r.findIdx fun n => decide (x < n)) 0)
      simp only [List.length_cons]; omega
    · simp
theorem pV : ∀ (rs : List (List Int)) (x : Int) (n : Nat), 1 ≤ n → (∀ r ∈ rs, r.length < n) → ∀ y ∈ (bm rs x).1, y.length ≤ n
  | [], x, n, h1, _, y, hy => by
    simp [bm] at hy
    subst hy; simpa using h1
  | r :: rs, x, n, h1, h, y, hy => by
    have hr := h r (by simp)
    unfold bm at hy
    split at hy
    · simp only [List.mem_cons] at hy
      rcases hy with rfl | hy
      · simp; omega
      · exact pV rs _ n h1 (fun r' h' => h r' (by simp [h'])) y hy
    · simp only [List.mem_cons] at hy
      rcases hy with rfl | hy
      · simp; omega
      · have := h y (by simp [hy]); omega
def cG (t : Tab) (x : Int) : Tab × (Int × Bool) :=
  if bZ t = true ∧ within x 1 9 = true ∧ t.2.flatten.length < 9 then ((t.1, (bm t.2 x).1), (((bm t.2 x).2 : Nat), true)) else (([], []), (0, false))
def mS (t : Tab) : Prop := t.1.length ≤ 1048576 ∧ t.2.length ≤ 1048576 ∧ ∀ x ∈ t.2, x.length ≤ 1048576
theorem mS.nil : mS ([], []) := ⟨by simp, by simp, fun x h => by cases h⟩
theorem od : ∀ {rs : List (List Int)} {r : List Int}, r ∈ rs → r.length ≤ rs.flatten.length
  | q :: rs, r, h => by
    simp only [List.flatten_cons, List.length_append]
    rcases List.mem_cons.1 h with rfl | h
    · omega
    · have := od h; omega
theorem qE {t : Tab} (h : mS t) (x : Int) : mS (cG t x).1 := by
  unfold cG
  split
  · next hc =>
    have h9 := jM hc.1
    have hp := hc.1
    simp only [bZ, Bool.and_eq_true] at hp
    have hl := ql (jI hp.1)
    refine ⟨h.1, ?_, fun y hy => ?_⟩
    · have := p0 t.2 x
      show (bm t.2 x).1.length ≤ 1048576
      omega
    · have := pV t.2 x 10 (by omega) (fun r hr => by have := od hr; omega) y hy
      omega
  · exact mS.nil
theorem findIdx_le {p : Int → Bool} {r : List Int} {i : Nat} (hlt : i < r.length) (h : p (r.getD i 0) = true) : r.findIdx p ≤ i :=
  Nat.le_of_not_lt fun h' => by
    have := List.not_of_lt_findIdx h'
    rw [bc hlt] at h
    rw [h] at this; cases this
theorem nN {p : Int → Bool} {r : List Int} (h : r.findIdx p < r.length) : p (r.getD (r.findIdx p) 0) = true := by
  rw [bc h]; exact List.findIdx_getElem
theorem pd {α : Type} {xs : List α} {i : Nat} (h : i < xs.length) (x : α) : xs.set i x = xs.take i ++ x :: xs.drop (i + 1) := by
  rw [List.set_eq_take_append_cons_drop, if_pos h]
theorem kK {α : Type} {xs : List α} {i : Nat} (h : i < xs.length) (x : α) : (xs.set i x).take (i + 1) = xs.take i ++ [x] := by
  have h' : i < (xs.set i x).length := by rw [List.length_set]; exact h
  rw [take_succ h' x, List.take_set_of_le (Nat.le_refl _), bc h', List.getElem_set_self]
theorem kA {α : Type} {xs : List α} {i : Nat} (x : α) : (xs.set i x).drop (i + 1) = xs.drop (i + 1) := by
  rw [List.drop_set_of_lt (by omega)]
end Go.Am.Pu
end
section
/- Standard tableaux, weights, descents: plain words. -/
namespace Go.Am.Pu
theorem oj {α R : Type} (r : List α) (d : α) (p : α → Bool) (L : Nat → Nat → Option R) (hit : Nat → Option R) (miss : Option R)
    (hs : ∀ j i, i < r.length → L (j + 1) i = if p (r.getD i d) = true then hit i else L j (i + 1)) (he : ∀ j, L (j + 1) r.length = miss) :
    ∀ (m j i : Nat), i + m = r.length → m < j → i ≤ r.findIdx p → L j i = if r.findIdx p < r.length then hit (r.findIdx p) else miss
  | m, 0, i, _, hj, _ => by omega
  | 0, j + 1, i, hm, _, hi => by
    have e : i = r.length := by omega
    rw [if_neg (by omega), e, he]
  | m + 1, j + 1, i, hm, hj, hi => by
    have hlt : i < r.length := by omega
    rw [hs j i hlt]
    by_cases c : p (r.getD i d) = true
    · have e : r.findIdx p = i := Nat.le_antisymm (Nat.le_of_not_lt fun h' => by
        have := List.not_of_lt_findIdx h'
        rw [bc hlt] at c
        rw [c] at this; cases this) hi
      rw [if_pos c, e, if_pos hlt]
    · rw [if_neg c]
      refine oj r d p L hit miss hs he m j (i + 1) (by omega) (by omega) ?_
      refine Nat.succ_le_of_lt (Nat.lt_of_le_of_ne hi fun e => c ?_)
      have hlt' : r.findIdx p < r.length := by omega
      have := List.findIdx_getElem (p := p) (xs := r) (w := hlt')
      rw [← bc hlt' d, ← e] at this
      exact this
def sN {α : Type} (p : α → Bool) (r : List α) : Int := if r.findIdx p < r.length then (r.findIdx p : Int) else -1
theorem uW {α : Type} (p : α → Bool) (r : List α) : decide (0 ≤ sN p r) = r.any p := by
  unfold sN
  by_cases h : r.findIdx p < r.length
  · rw [if_pos h, List.any_eq_true.2 ⟨_, List.getElem_mem h, List.findIdx_getElem⟩]
    simp
  · rw [if_neg h]
    have : r.any p = false := by
      rw [List.any_eq_false]
      intro x hx hp
      exact h (List.findIdx_lt_length_of_exists ⟨x, hx, hp⟩)
    rw [this]; rfl
def has (l : List Int) (x : Int) : Bool := l.any fun y => decide (x = y)
theorem qM {l : List Int} {x : Int} : has l x = true ↔ x ∈ l := by
  simp [has, List.any_eq_true]
def jF (l : List Int) : Bool := (List.range' 0 l.length).all fun i => has l ((i : Int) + 1)
theorem qL : ∀ (R l : List Int), R.Nodup → (∀ x ∈ R, x ∈ l) → R.length ≤ l.length
  | [], l, _, _ => by simp
  | x :: R, l, hn, h => by
    rw [List.nodup_cons] at hn
    have hx := h x (by simp)
    have := qL R (l.erase x) hn.2 fun y hy => (List.mem_erase_of_ne fun (e : y = x) => hn.1 (e ▸ hy)).2 (h y (by simp [hy]))
    rw [List.length_erase_of_mem hx] at this
    have : 0 < l.length := List.length_pos_of_mem hx
    simp only [List.length_cons]
    omega
def kf (n : Nat) : List Int := (List.range n).map fun (i : Nat) => (i : Int) + 1
theorem gN {n : Nat} {x : Int} : x ∈ kf n ↔ 1 ≤ x ∧ x ≤ n := by
  simp only [kf, List.mem_map, List.mem_range]
  constructor
  · rintro ⟨i, h, rfl⟩; omega
  · rintro ⟨h1, h2⟩; exact ⟨(x - 1).toNat, by omega, by omega⟩
theorem rN (n : Nat) : (kf n).Nodup := by
  unfold kf
  refine List.Pairwise.map _ (fun (a b : Nat) (h : a ≠ b) => ?_) List.nodup_range
  intro e
  exact h (by omega)
theorem kZ (n : Nat) : (kf n).length = n := by simp [kf]
theorem jU {l : List Int} : jF l = true ↔ ∀ x ∈ kf l.length, x ∈ l := by
  unfold jF
  rw [dT]
  constructor
  · intro h x hx
    rw [gN] at hx
    have := h (x - 1).toNat (by omega)
    rw [qM] at this
    have e : (((x - 1).toNat : Nat) : Int) + 1 = x := by omega
    rw [e] at this; exact this
  · intro h i hi
    rw [qM]
    exact h _ (gN.2 (by omega))
theorem wO {l : List Int} (h1 : ∀ x ∈ l, 1 ≤ x) : jF l = true ↔ l.Nodup ∧ ∀ x ∈ l, x ≤ l.length := by
  rw [jU]
  constructor
  · intro h
    refine ⟨?_, fun x hx => ?_⟩
    ·
      refine Classical.byContradiction fun hn => ?_
      have : ∃ x, x ∈ l ∧ x ∈ l.erase x := by
        have key : ∀ l : List Int, ¬ l.Nodup → ∃ x, x ∈ l ∧ x ∈ l.erase x := by
          intro l
          induction l with
          | nil => intro h; exact absurd List.nodup_nil h
          | cons a l ih =>
            intro h
            by_cases ha : a ∈ l
            · exact ⟨a, by simp, by simpa using ha⟩
            · have : ¬ l.Nodup := fun hl => h (List.nodup_cons.2 ⟨ha, hl⟩)
              obtain ⟨x, h1, h2⟩ := ih this
              refine ⟨x, by simp [h1], ?_⟩
              have hne : a ≠ x := fun e => ha (e ▸ h1)
              rw [List.erase_cons_tail (by simpa using hne)]
              exact List.mem_cons_of_mem _ h2
        exact key l hn
      obtain ⟨x, hx, hx2⟩ := this
      have := qL (kf l.length) (l.erase x) (rN _) fun y hy => by
        by_cases e : y = x
        · rw [e]; exact hx2
        · exact (List.mem_erase_of_ne e).2 (h y hy)
      rw [kZ, List.length_erase_of_mem hx] at this
      have : 0 < l.length := List.length_pos_of_mem hx
      omega
    · refine Int.not_lt.1 fun hlt => ?_
      have := qL (kf l.length) (l.erase x) (rN _) fun y hy => by
        have hy' := gN.1 hy
        exact (List.mem_erase_of_ne (by omega)).2 (h y hy)
      rw [kZ, List.length_erase_of_mem hx] at this
      have : 0 < l.length := List.length_pos_of_mem hx
      omega
  · rintro ⟨hn, hb⟩ x hx
    refine Classical.byContradiction fun hxl => ?_
    have := qL (x :: l) (kf l.length) (List.nodup_cons.2 ⟨hxl, hn⟩) fun y hy => by
      rcases List.mem_cons.1 hy with rfl | hy
      · exact hx
      · exact gN.2 ⟨h1 y hy, hb y hy⟩
    rw [kZ, List.length_cons] at this
    omega
theorem qw {t : Tab} (h : fV t = true) : ∀ x ∈ t.2.flatten, 1 ≤ x ∧ x ≤ 9 := by
  intro x hx
  simp only [fV, Bool.and_eq_true] at h
  obtain ⟨r, hr, hxr⟩ := List.mem_flatten.1 hx
  obtain ⟨i, hi, e⟩ := List.mem_iff_getElem.1 hr
  obtain ⟨q, hq, e2⟩ := List.mem_iff_getElem.1 hxr
  have h1 := dT.1 h.2 i hi
  rw [bc hi, e] at h1
  have h2 := dT.1 h1 q hq
  simp only [fC, within, Bool.and_eq_true, decide_eq_true_eq] at h2
  rw [bc hi, e, bc hq, e2] at h2
  exact h2.1
theorem oK (inner : List Int) (h : ∀ q, 0 ≤ inner.getD q 0) : ∀ (rs : List (List Int)) (i : Nat), (rs.flatten.length : Int) ≤ gM (dR inner i rs)
  | [], i => by simp [dR, gM]
  | r :: rs, i => by
    have := oK inner h rs (i + 1)
    have := h i
    simp only [dR, gM, List.flatten_cons, List.length_append]
    omega
theorem uH {t : Tab} (h : fV t = true) : t.2.flatten.length ≤ 9 := by
  have hs := jI h
  simp only [cY, dp, Bool.and_eq_true] at hs
  have h9 := (cU hs.2.2.2.1).2.1
  have := oK t.1 (fun q => by
    have := (gm hs.1 q).1
    rw [dU] at this; exact this) t.2 0
  unfold outer at h9
  omega
def fg (t : Tab) : Bool := fV t && jF t.2.flatten
def rowOf (t : Tab) (n : Int) : Int := sN (fun r => has r n) t.2
def lO (t : Tab) : Nat → Int → List Int
  | 0, _ => []
  | m + 1, i => if rowOf t i < rowOf t (i + 1) then i :: lO t m (i + 1) else lO t m (i + 1)
def oR (t : Tab) : List Int := if fg t = true then lO t (t.2.flatten.length - 1) 1 else []
end Go.Am.Pu
end
section
/- Plain laws of draws, and of boxes. -/
namespace Go.Am.Pu
open Go Go.Am
attribute [local instance] D.real
theorem tO (a : Int) : 0 ≤ D.andI .i64 a 255 ∧ D.andI .i64 a 255 ≤ 255 := by
  have h : (BitVec.ofInt 64 a &&& BitVec.ofInt 64 255).toNat ≤ 255 := by
    rw [BitVec.toNat_and]
    exact Nat.le_trans Nat.and_le_right (by decide)
  have e : D.andI .i64 a 255 = (((BitVec.ofInt 64 a &&& BitVec.ofInt 64 255).toNat : Nat) : Int) := by
    show IntKind.i64.wrap (((BitVec.ofInt 64 a &&& BitVec.ofInt 64 255).toNat : Nat) : Int) = _
    rw [w64 (by omega) (by omega)]
  rw [e]
  omega
theorem ky {α : Type} (a b : Int) (x y : Option α) : D.test (D.lt a b) x y = if a < b then x else y := by
  show (if decide (a < b) = true then x else y) = _
  simp only [decide_eq_true_eq]
def tQ : Nat → Nat
  | 0 => 1
  | n + 1 => 2 ^ n
def xb (n : Nat) : Nat → Nat
  | 0 => 0
  | p + 1 => tQ (n - (p + 1)) + xb n p
theorem zI {n p : Nat} (hn : n ≤ 9) (h1 : 1 ≤ n) (hp : p ≤ n) : xb n p ≤ tQ n := by
  have key : ∀ n < 10, ∀ p < 10, 1 ≤ n → p ≤ n → xb n p ≤ tQ n := by decide
  exact key n (by omega) p (by omega) h1 hp
theorem xz {n : Nat} (hn : n ≤ 9) : tQ n ≤ 256 := by
  have key : ∀ n < 10, tQ n ≤ 256 := by decide
  exact key n (by omega)
def l8 (n : Nat) (x : List Int) : Prop := x.length ≤ n ∧ ∀ y ∈ x, 1 ≤ y ∧ y ≤ 9
end Go.Am.Pu
end
section
/- Steps over equations: what a word comes to, told by what must hold of it. -/
namespace Go.Am.Pu
open Go Go.Am
attribute [local instance] D.real
section
variable {α β : Type}
def Ok (x : Option α) (Q : α → Prop) : Prop := ∃ y, x = some y ∧ Q y
theorem Ok.ret {y : α} {Q : α → Prop} (h : Q y) : Ok (some y) Q := ⟨y, rfl, h⟩
theorem Ok.mono {x : Option α} {P Q : α → Prop} (h : Ok x P) (g : ∀ y, P y → Q y) : Ok x Q :=
  let ⟨y, e, hp⟩ := h
  ⟨y, e, g y hp⟩
theorem Ok.bnd {x : Option α} {f : α → Option β} {P : α → Prop} {Q : β → Prop} (h : Ok x P) (g : ∀ y, P y → Ok (f y) Q) : Ok (D.bnd x f) Q := by
  obtain ⟨y, e, hp⟩ := h
  rw [e]
  exact g y hp
theorem Ok.jW {x : Option α} {y : α} {f : α → Option β} {Q : β → Prop} (h : x = some y) (g : Ok (f y) Q) : Ok (D.bnd x f) Q := by
  rw [h]
  exact g
theorem Ok.t {p : Prop} [Decidable p] {x y : Option α} {Q : α → Prop} (h1 : p → Ok x Q) (h2 : ¬ p → Ok y Q) : Ok (D.test (decide p) x y) Q := by
  show Ok (if decide p = true then x else y) Q
  by_cases h : p
  · rw [if_pos (decide_eq_true h)]; exact h1 h
  · rw [if_neg (by rw [decide_eq_false h]; simp)]; exact h2 h
theorem Ok.tb {b : Bool} {x y : Option α} {Q : α → Prop} (h1 : b = true → Ok x Q) (h2 : b = false → Ok y Q) : Ok (D.test b x y) Q := by
  cases b
  · exact h2 rfl
  · exact h1 rfl
theorem Ok.tn {b : Bool} {x y : Option α} {Q : α → Prop} (h1 : b = false → Ok x Q) (h2 : b = true → Ok y Q) : Ok (D.test (!b) x y) Q := by
  cases b
  · exact h1 rfl
  · exact h2 rfl
theorem Ok.g {p : Prop} [Decidable p] {x y : Option α} {Q : α → Prop} (h : p) (g : Ok x Q) : Ok (D.test (decide p) x y) Q := Ok.t (fun _ => g) (fun h' => absurd h h')
theorem Ok.no {p : Prop} [Decidable p] {x y : Option α} {Q : α → Prop} (h : ¬ p) (g : Ok y Q) : Ok (D.test (decide p) x y) Q := Ok.t (fun h' => absurd h' h) (fun _ => g)
theorem Ok.some {x : Option α} {Q : α → Prop} (h : Ok x Q) : ∃ y, x = Option.some y := let ⟨y, e, _⟩ := h; ⟨y, e⟩
end
def dK (n m : Nat) (rs : List (List Int)) : Prop := rs.length ≤ n ∧ ∀ r ∈ rs, r.length ≤ m
theorem dK.at {n m : Nat} {rs : List (List Int)} (h : dK n m rs) (i : Nat) : (rs.getD i []).length ≤ m := by
  by_cases hi : i < rs.length
  · rw [bc hi]; exact h.2 _ (List.getElem_mem hi)
  · rw [cr (by omega)]; simp
theorem dK.set {n m : Nat} {rs : List (List Int)} (h : dK n m rs) (i : Nat) {r : List Int} (hr : r.length ≤ m) : dK n m (rs.set i r) := by
  refine ⟨by rw [List.length_set]; exact h.1, fun x hx => ?_⟩
  rcases List.mem_or_eq_of_mem_set hx with h' | rfl
  · exact h.2 x h'
  · exact hr
theorem dK.mono {n m n' m' : Nat} {rs : List (List Int)} (h : dK n m rs) (hn : n ≤ n') (hm : m ≤ m') : dK n' m' rs :=
  ⟨Nat.le_trans h.1 hn, fun x hx => Nat.le_trans (h.2 x hx) hm⟩
theorem dK.app {n m : Nat} {rs : List (List Int)} (h : dK n m rs) {r : List Int} (hr : r.length ≤ m) : dK (n + 1) m (rs ++ [r]) := by
  refine ⟨by rw [List.length_append]; simp; exact h.1, fun x hx => ?_⟩
  rcases List.mem_append.1 hx with h' | h'
  · exact h.2 x h'
  · simp only [List.mem_singleton] at h'; subst h'; exact hr
end Go.Am.Pu
end
section
/- Corners; a number taken out of rows. Plain words. -/
namespace Go.Am.Pu
theorem pN : ∀ {p : List Int} {prev s : Int}, fH p prev s = true → ∀ i, i + 1 < p.length → p.getD (i + 1) 0 ≤ p.getD i 0
  | [], _, _, _, i, h => by simp at h
  | [x], _, _, _, i, h => by simp at h
  | x :: y :: xs, prev, s, hp, i, h => by
    simp only [fH, Bool.and_eq_true, decide_eq_true_eq] at hp
    cases i with
    | zero => simpa using hp.2.2.2.2.1
    | succ i =>
      have h2 : fH (y :: xs) x (s + x) = true := by
        simp only [fH, Bool.and_eq_true, decide_eq_true_eq]
        exact hp.2.2.2
      have := pN h2 i (by simpa using h)
      simpa using this
def kC (r : List Int) (y : Int) : Nat → Option Nat
  | 0 => none
  | i + 1 => if r.getD i 0 < y then some i else kC r y i
theorem qg {r : List Int} {y : Int} : ∀ {m q : Nat}, kC r y m = some q → q < m ∧ r.getD q 0 < y
  | 0, q, h => by simp [kC] at h
  | m + 1, q, h => by
    unfold kC at h
    split at h
    · next hc => injection h with h; subst h; exact ⟨by omega, hc⟩
    · have := qg h; exact ⟨by omega, this.2⟩
theorem tA {r : List Int} {y : Int} : ∀ {m i : Nat}, i < m → r.getD i 0 < y → ∃ q, kC r y m = some q
  | 0, i, h, _ => by omega
  | m + 1, i, h, hi => by
    unfold kC
    split
    · exact ⟨_, rfl⟩
    · next hc =>
      have : i ≠ m := fun e => hc (e ▸ hi)
      exact tA (by omega) hi
def kX : Nat → List (List Int) → Int → List (List Int) × Int
  | 0, rs, y => (rs, y)
  | r + 1, rs, y => match kC (rs.getD r []) y (rs.getD r []).length with
    | some q => kX r (rs.set r ((rs.getD r []).set q y)) ((rs.getD r []).getD q 0)
    | none => kX r rs y
theorem getD_set_ne {α : Type} {xs : List α} {i j : Nat} (h : j ≠ i) (x d : α) : (xs.set j x).getD i d = xs.getD i d := by
  simp only [List.getD_eq_getElem?_getD, List.getElem?_set]
  rw [if_neg h]
theorem nP {n m : Nat} : ∀ (r : Nat) (rs : List (List Int)) (y : Int), dK n m rs → dK n m (kX r rs y).1
  | 0, _, _, h => h
  | r + 1, rs, y, h => by
    unfold kX
    split
    · exact nP r _ _ (h.set r (by rw [List.length_set]; exact h.at r))
    · exact nP r rs y h
def lL (rs : List (List Int)) (row : Nat) : List (List Int) × Int :=
  ((if (rs.getD row []).length = 1 then (kX row (rs.set row ((rs.getD row []).take ((rs.getD row []).length - 1))) ((rs.getD row []).getD ((rs.getD row []).length - 1) 0)).1.take row
    else (kX row (rs.set row ((rs.getD row []).take ((rs.getD row []).length - 1))) ((rs.getD row []).getD ((rs.getD row []).length - 1) 0)).1),
   (kX row (rs.set row ((rs.getD row []).take ((rs.getD row []).length - 1))) ((rs.getD row []).getD ((rs.getD row []).length - 1) 0)).2)
theorem uy {n m : Nat} {rs : List (List Int)} (h : dK n m rs) (row : Nat) : dK n m (lL rs row).1 := by
  have h1 := nP row (rs.set row ((rs.getD row []).take ((rs.getD row []).length - 1))) ((rs.getD row []).getD ((rs.getD row []).length - 1) 0) (h.set row (by rw [List.length_take]; have := h.at row; omega))
  unfold lL
  simp only
  split
  · exact ⟨by rw [List.length_take]; have := h1.1; omega, fun x hx => h1.2 x (List.mem_of_mem_take hx)⟩
  · exact h1
theorem gz {t : Tab} (h : bZ t = true) : t.1 = [] := by
  simp only [bZ, Bool.and_eq_true, decide_eq_true_eq] at h
  exact List.eq_nil_of_length_eq_zero h.2
theorem fw {t : Tab} (h : bZ t = true) {i : Nat} (hi : i < t.2.length) : (outer t).getD i 0 = (t.2.getD i []).length := by
  have e := fX t.1 t.2 0 i hi
  rw [gz h] at e
  unfold outer
  rw [gz h, e]
  simp
theorem iM {t : Tab} (h : bZ t = true) : cD (outer t) = true := by
  simp only [bZ, Bool.and_eq_true] at h
  have hs := jI h.1
  simp only [cY, dp, Bool.and_eq_true] at hs
  exact hs.2.2.2.1
theorem dH (t : Tab) : (outer t).length = t.2.length := by unfold outer; rw [jf]
theorem iL {t : Tab} (h : bZ t = true) : dK 9 9 t.2 := by
  have h9 := jM h
  have hl := (cU (iM h)).2.2.1
  rw [dH] at hl
  exact ⟨hl, fun r hr => by have := od hr; omega⟩
theorem lQ {t : Tab} (h : bZ t = true) : ∀ i, i + 1 < t.2.length → (t.2.getD (i + 1) []).length ≤ (t.2.getD i []).length ∧ ∀ q, q < (t.2.getD (i + 1) []).length → (t.2.getD i []).getD q 0 < (t.2.getD (i + 1) []).getD q 0 := by
  intro i hi
  have hm := pN (show fH (outer t) 9 0 = true from iM h) i (by rw [dH]; exact hi)
  rw [fw h hi, fw h (by omega)] at hm
  have hl : (t.2.getD (i + 1) []).length ≤ (t.2.getD i []).length := by omega
  refine ⟨hl, fun q hq => ?_⟩
  have ht := h
  simp only [bZ, Bool.and_eq_true] at ht
  have ht := ht.1
  simp only [fV, Bool.and_eq_true] at ht
  have h1 := dT.1 (dT.1 ht.2 (i + 1) hi) q hq
  simp only [fC, Bool.and_eq_true, Bool.or_eq_true, decide_eq_true_eq] at h1
  have h2 := h1.2.2.resolve_left (by omega)
  rw [gz h] at h2
  have e : ((i + 1 : Nat) : Int) - 1 = (i : Int) := by omega
  have e2 : ([] : List Int).getD (i + 1) 0 + (q : Int) = ([] : List Int).getD i 0 + (q : Int) := by simp
  rw [e, e2] at h2
  have ee : entry t (i : Int) (([] : List Int).getD i 0 + (q : Int)) = (t.2.getD i []).getD q 0 := by
    have := uZ (t := t) (r := i) (q := q) (by omega)
    rw [gz h] at this
    exact this
  rw [ee] at h2
  exact h2
end Go.Am.Pu
end
section
/- Rows with noughts in front; a box taken from a partition. Plain words. -/
namespace Go.Am.Pu
def jq (t : Tab) : List (List Int) := (List.range' 0 t.2.length).map fun i => List.replicate (t.1.getD i 0).toNat 0 ++ t.2.getD i []
def bo (p : List Int) (n : Nat) : List Int := if p.getD n 0 - 1 = 0 then p.take n else p.set n (p.getD n 0 - 1)
theorem vJ (p : List Int) (n : Nat) : (bo p n).length ≤ p.length := by
  unfold bo
  split
  · rw [List.length_take]; omega
  · rw [List.length_set]; exact Nat.le_refl _
end Go.Am.Pu
end
section
/- A slide: the hole goes right or down until nothing is there. Plain words. -/
namespace Go.Am.Pu
def cel (g : List (List Int)) (r c : Nat) : Int := (g.getD r []).getD c 0
def lE (g : List (List Int)) (r c : Nat) (v : Int) : List (List Int) := g.set r ((g.getD r []).set c v)
theorem y8 {g : List (List Int)} {r c : Nat} (h : cel g r c ≠ 0) : r < g.length ∧ c < (g.getD r []).length := by
  unfold cel at h
  by_cases h1 : r < g.length
  · refine ⟨h1, ?_⟩
    by_cases h2 : c < (g.getD r []).length
    · exact h2
    · exact absurd (cr (by omega) 0) h
  · rw [cr (xs := g) (by omega)] at h
    simp at h
theorem j3 (g : List (List Int)) (r c : Nat) (v : Int) : (lE g r c v).length = g.length := by unfold lE; rw [List.length_set]
theorem ef (g : List (List Int)) (r c : Nat) (v : Int) (q : Nat) : ((lE g r c v).getD q []).length = (g.getD q []).length := by
  unfold lE
  by_cases e : q = r
  · subst e
    by_cases h : q < g.length
    · rw [bc (by rw [List.length_set]; exact h), List.getElem_set_self, List.length_set]
    · rw [cr (by rw [List.length_set]; omega), cr (by omega)]
  · rw [getD_set_ne (Ne.symm e)]
theorem lK {g : List (List Int)} {r c : Nat} (v : Int) (h1 : r < g.length) (h2 : c < (g.getD r []).length) : cel (lE g r c v) r c = v := by
  unfold cel lE
  rw [bc (xs := g.set r _) (by rw [List.length_set]; exact h1), List.getElem_set_self, bc (by rw [List.length_set]; exact h2), List.getElem_set_self]
theorem jB {g : List (List Int)} {r c q x : Nat} (v : Int) (h : ¬ (q = r ∧ x = c)) : cel (lE g r c v) q x = cel g q x := by
  unfold cel lE
  by_cases e : q = r
  · subst e
    have hx : x ≠ c := fun e => h ⟨rfl, e⟩
    by_cases hl : q < g.length
    · rw [bc (xs := g.set q _) (by rw [List.length_set]; exact hl), List.getElem_set_self, getD_set_ne (Ne.symm hx)]
    · rw [cr (xs := g.set q _) (by rw [List.length_set]; omega), cr (xs := g) (by omega)]
  · rw [getD_set_ne (Ne.symm e)]
structure Sl (q : List Int) (g : List (List Int)) (i c : Nat) : Prop where
  q0 : ∀ r, 0 ≤ q.getD r 0
  qm : ∀ r, q.getD (r + 1) 0 ≤ q.getD r 0
  lm : ∀ r, (g.getD (r + 1) []).length ≤ (g.getD r []).length
  hi : i < g.length
  hc : c < (g.getD i []).length
  hq : q.getD i 0 ≤ c
  pos : ∀ r x, 0 ≤ cel g r x
  num : ∀ r x : Nat, q.getD r 0 ≤ x → x < (g.getD r []).length → ¬ (r = i ∧ x = c) → 1 ≤ cel g r x ∧ cel g r x ≤ 9
  row : ∀ r x : Nat, q.getD r 0 ≤ x → x + 1 < (g.getD r []).length → ¬ (r = i ∧ x = c) → ¬ (r = i ∧ x + 1 = c) → cel g r x ≤ cel g r (x + 1)
  col : ∀ r x : Nat, q.getD r 0 ≤ x → x < (g.getD (r + 1) []).length → ¬ (r = i ∧ x = c) → ¬ (r + 1 = i ∧ x = c) → cel g r x < cel g (r + 1) x
  rowH : ∀ x : Nat, x + 1 = c → q.getD i 0 ≤ x → c + 1 < (g.getD i []).length → cel g i x ≤ cel g i (c + 1)
  colH : ∀ r : Nat, r + 1 = i → q.getD r 0 ≤ c → c < (g.getD (i + 1) []).length → cel g r c < cel g (i + 1) c
theorem Sl.right {q : List Int} {g : List (List Int)} {i c : Nat} (h : Sl q g i c) (hr : cel g i (c + 1) ≠ 0) (hb : ¬ (0 < cel g (i + 1) c ∧ cel g (i + 1) c ≤ cel g i (c + 1))) :
    Sl q (lE g i c (cel g i (c + 1))) i (c + 1) := by
  obtain ⟨b1, b2⟩ := y8 hr
  have hq := h.hq
  have hrn := h.num i (c + 1) (by omega) b2 (by omega)
  have e0 := lK (cel g i (c + 1)) h.hi h.hc
  have en : ∀ r x, ¬ (r = i ∧ x = c) → cel (lE g i c (cel g i (c + 1))) r x = cel g r x := fun r x hh => jB _ hh
  refine ⟨h.q0, h.qm, fun r => ?_, ?_, ?_, by omega, fun r x => ?_, fun r x h1 h2 h3 => ?_, fun r x h1 h2 h3 h4 => ?_, fun r x h1 h2 h3 h4 => ?_, fun x h1 h2 h3 => ?_, fun r h1 h2 h3 => ?_⟩
  · rw [ef, ef]; exact h.lm r
  · rw [j3]; exact b1
  · rw [ef]; exact b2
  · by_cases e : r = i ∧ x = c
    · rw [e.1, e.2, e0]; exact h.pos _ _
    · rw [en r x e]; exact h.pos _ _
  · rw [ef] at h2
    by_cases e : r = i ∧ x = c
    · rw [e.1, e.2, e0]; exact hrn
    · rw [en r x e]; exact h.num r x h1 h2 e
  · rw [ef] at h2
    by_cases e : r = i ∧ x = c
    · exact (h4 ⟨e.1, by omega⟩).elim
    · rw [en r x e]
      by_cases e' : r = i ∧ x + 1 = c
      · obtain ⟨rfl, rfl⟩ := e'
        rw [e0]
        exact h.rowH x rfl h1 b2
      · rw [en r (x + 1) e']; exact h.row r x h1 h2 e e'
  · rw [ef] at h2
    by_cases e : r = i ∧ x = c
    · obtain ⟨rfl, rfl⟩ := e
      rw [e0, en _ _ (by omega)]
      have hqm := h.qm r
      have h5 := (h.num (r + 1) x (by omega) h2 (by omega)).1
      omega
    · rw [en r x e]
      by_cases e' : r + 1 = i ∧ x = c
      · obtain ⟨rfl, rfl⟩ := e'
        rw [e0]
        have hl := h.lm r
        have h5 := h.row r x h1 (by omega) (by omega) (by omega)
        have h6 := h.col r (x + 1) (by omega) b2 (by omega) (by omega)
        omega
      · rw [en (r + 1) x e']
        exact h.col r x h1 h2 e e'
  · rw [ef] at h3
    have : x = c := by omega
    subst this
    rw [e0, en _ _ (by omega)]
    exact h.row i (x + 1) (by omega) h3 (by omega) (by omega)
  · rw [ef] at h3
    rw [en _ _ (by omega), en _ _ (by omega)]
    subst h1
    have h5 := h.col r (c + 1) h2 (by omega) (by omega) (by omega)
    have h6 := h.col (r + 1) (c + 1) (by omega) h3 (by omega) (by omega)
    omega
end Go.Am.Pu
end
section
/- A slide's end and its start. Plain words. -/
namespace Go.Am.Pu
theorem qS {p : List Int} (hp : cD p = true) (r : Nat) : p.getD (r + 1) 0 ≤ p.getD r 0 := by
  by_cases h : r + 1 < p.length
  · exact pN hp r h
  · rw [cr (by omega)]
    have := (gm hp r).1
    rw [dU] at this
    exact this
theorem qZ {p : List Int} {n : Nat} (hp : cD p = true) (hn : n < p.length) (hc : p.getD (n + 1) 0 < p.getD n 0) (r : Nat) : (bo p n).getD r 0 = if r = n then p.getD n 0 - 1 else p.getD r 0 := by
  unfold bo
  by_cases h : p.getD n 0 - 1 = 0
  · rw [if_pos h]
    have h0 := (gm hp (n + 1 : Nat)).1
    rw [dU] at h0
    have hl : p.length ≤ n + 1 := by
      refine Nat.le_of_not_lt fun hlt => ?_
      have := (cU hp).1 _ (List.getElem_mem hlt)
      rw [← bc hlt 0] at this
      omega
    by_cases e : r = n
    · subst e
      rw [if_pos rfl, h, cr (by rw [List.length_take]; omega)]
    · rw [if_neg e]
      by_cases e2 : r < n
      · rw [bc (by rw [List.length_take]; omega), List.getElem_take, bc (by omega)]
      · rw [cr (by rw [List.length_take]; omega), cr (by omega)]
  · rw [if_neg h]
    by_cases e : r = n
    · subst e
      rw [if_pos rfl, bc (by rw [List.length_set]; exact hn), List.getElem_set_self]
    · rw [if_neg e, getD_set_ne (Ne.symm e)]
structure Ba (t : Tab) : Prop where
  q0 : ∀ r, 0 ≤ t.1.getD r 0
  qm : ∀ r, t.1.getD (r + 1) 0 ≤ t.1.getD r 0
  lm : ∀ r, ((jq t).getD (r + 1) []).length ≤ ((jq t).getD r []).length
  num : ∀ r x : Nat, t.1.getD r 0 ≤ x → x < ((jq t).getD r []).length → 1 ≤ cel (jq t) r x ∧ cel (jq t) r x ≤ 9
  row : ∀ r x : Nat, t.1.getD r 0 ≤ x → x + 1 < ((jq t).getD r []).length → cel (jq t) r x ≤ cel (jq t) r (x + 1)
  col : ∀ r x : Nat, t.1.getD r 0 ≤ x → x < ((jq t).getD (r + 1) []).length → cel (jq t) r x < cel (jq t) (r + 1) x
end Go.Am.Pu
end
section
/- A tableau cell by cell; a slide's start. Plain words. -/
namespace Go.Am.Pu
theorem s9 {t : Tab} (h : fV t = true) : cD t.1 = true ∧ cD (outer t) = true ∧ t.1.length ≤ t.2.length ∧ (∀ i k, i < t.2.length → k < (t.2.getD i []).length → fC t i k = true) := by
  simp only [fV, cY, dp, Bool.and_eq_true, decide_eq_true_eq] at h
  obtain ⟨⟨h1, h2, h3, h4, h5⟩, h6⟩ := h
  refine ⟨h1, h4, h2, fun i k hi hk => ?_⟩
  rw [dT] at h6
  have := h6 i hi
  rw [dT] at this
  exact this k hk
end Go.Am.Pu
end
section
/- A partition less a box; the tableau that a slide leaves. Plain words. -/
namespace Go.Am.Pu
theorem lD : ∀ (p : List Int) (prev s : Int), (∀ x ∈ p, 1 ≤ x) → (0 < p.length → p.getD 0 0 ≤ prev) → (∀ i, i + 1 < p.length → p.getD (i + 1) 0 ≤ p.getD i 0) → s + gM p ≤ 9 → fH p prev s = true
  | [], _, _, _, _, _, _ => rfl
  | x :: xs, prev, s, h1, h2, h3, h4 => by
    have hs : ∀ (l : List Int), (∀ y ∈ l, 1 ≤ y) → 0 ≤ gM l := by
      intro l
      induction l with
      | nil => intro _; simp [gM]
      | cons y l ih =>
        intro h
        have a := h y List.mem_cons_self
        have b := ih (fun z hz => h z (List.mem_cons_of_mem _ hz))
        simp only [gM]; omega
    have hx := h1 x List.mem_cons_self
    have hxs := hs xs (fun z hz => h1 z (List.mem_cons_of_mem _ hz))
    have h2' := h2 (by simp)
    simp only [List.getD_cons_zero] at h2'
    simp only [gM] at h4
    have ih := lD xs x (s + x) (fun z hz => h1 z (List.mem_cons_of_mem _ hz)) (fun hl => by have := h3 0 (by simpa using hl); simpa using this) (fun i hi => by have := h3 (i + 1) (by simpa using hi); simpa using this) (by omega)
    simp only [fH, Bool.and_eq_true, decide_eq_true_eq]
    exact ⟨hx, h2', by omega, ih⟩
theorem ss : ∀ (p : List Int) (n : Nat) (v : Int), n < p.length → gM (p.set n v) = gM p - p.getD n 0 + v
  | [], n, v, h => by simp at h
  | x :: xs, 0, v, _ => by simp [gM]; omega
  | x :: xs, n + 1, v, h => by
    have := ss xs n v (by simpa using h)
    simp only [List.set_cons_succ, gM, List.getD_cons_succ, this]
    omega
theorem uz : ∀ (p : List Int) (n : Nat), p.length = n + 1 → gM (p.take n) = gM p - p.getD n 0
  | [], n, h => by simp at h
  | [x], 0, _ => by simp [gM]
  | x :: xs, n + 1, h => by
    have := uz xs n (by simpa using h)
    simp only [List.take_succ_cons, gM, List.getD_cons_succ, this]
    omega
  | x :: y :: xs, 0, h => by simp at h
theorem tv {p : List Int} {n : Nat} (hp : cD p = true) (hc : p.getD (n + 1) 0 < p.getD n 0) (h : p.getD n 0 - 1 = 0) : p.length ≤ n + 1 := by
  have h0 := (gm hp (n + 1 : Nat)).1
  rw [dU] at h0
  refine Nat.le_of_not_lt fun hlt => ?_
  have := (cU hp).1 _ (List.getElem_mem hlt)
  rw [← bc hlt 0] at this
  omega
theorem vR {p : List Int} {n : Nat} (hp : cD p = true) (hn : n < p.length) (hc : p.getD (n + 1) 0 < p.getD n 0) {i : Nat} (hi : i < (bo p n).length) : 1 ≤ (bo p n).getD i 0 := by
  rw [qZ hp hn hc]
  have hl := vJ p n
  have h1 : ∀ i, i < p.length → 1 ≤ p.getD i 0 := fun i hi => by
    rw [bc hi]
    exact ((cU hp).1 _ (List.getElem_mem hi)).1
  by_cases h : p.getD n 0 - 1 = 0
  · unfold bo at hi
    rw [if_pos h, List.length_take] at hi
    rw [if_neg (by omega)]
    exact h1 i (by omega)
  · have a := h1 n hn
    have b := h1 i (by omega)
    split <;> omega
theorem pA {p : List Int} {n : Nat} (hp : cD p = true) (hn : n < p.length) (hc : p.getD (n + 1) 0 < p.getD n 0) : cD (bo p n) = true := by
  have hs := cU hp
  have hg := qZ hp hn hc
  have hpn : 1 ≤ p.getD n 0 := by
    rw [bc hn]
    exact (hs.1 _ (List.getElem_mem hn)).1
  refine lD _ _ _ (fun x hx => ?_) (fun _ => ?_) (fun i _ => ?_) ?_
  · obtain ⟨i, hi, rfl⟩ := List.getElem_of_mem hx
    rw [← bc hi 0]
    exact vR hp hn hc hi
  · rw [hg]
    have : ∀ i, p.getD i 0 ≤ 9 := fun i => by
      have := (gm hp i).2
      rw [dU] at this
      exact this
    have a := this 0
    have b := this n
    split <;> omega
  · rw [hg, hg]
    have := qS hp i
    by_cases e : i = n
    · subst e
      rw [if_neg (by omega), if_pos rfl]; omega
    · rw [if_neg e]
      by_cases e2 : i + 1 = n
      · subst e2; rw [if_pos rfl]; omega
      · rw [if_neg e2]; exact this
  · have h9 := hs.2.1
    unfold bo
    split
    · next h =>
      have hl := tv hp hc h
      rw [uz p n (by omega)]
      omega
    · rw [ss p n _ hn]
      omega
def eQ (q : List Int) (g : List (List Int)) (n : Nat) : List (List Int) := (List.range' 0 n).map fun r => (g.getD r []).drop (q.getD r 0).toNat
theorem ja (q : List Int) (g : List (List Int)) (n : Nat) : (eQ q g n).length = n := by simp [eQ]
theorem nv {q : List Int} {g : List (List Int)} {n r : Nat} (h : r < n) : (eQ q g n).getD r [] = (g.getD r []).drop (q.getD r 0).toNat := by
  rw [bc (by rw [ja]; exact h)]
  simp [eQ]
def mg (g : List (List Int)) (i c : Nat) : List (List Int) := g.set i ((g.getD i []).take c)
end Go.Am.Pu
namespace Go.Am.Pu
end Go.Am.Pu
end
section
/- What a slide leaves. Plain words. -/
namespace Go.Am.Pu
theorem xq {g : List (List Int)} {i c r : Nat} (hi : i < g.length) : (mg g i c).getD r [] = if r = i then (g.getD i []).take c else g.getD r [] := by
  unfold mg
  by_cases e : r = i
  · subst e
    rw [if_pos rfl, bc (by rw [List.length_set]; exact hi), List.getElem_set_self]
  · rw [if_neg e, getD_set_ne (Ne.symm e)]
theorem ou (g : List (List Int)) (i c : Nat) : (mg g i c).length = g.length := by unfold mg; rw [List.length_set]
theorem zG {g : List (List Int)} {i c r x : Nat} (hi : i < g.length) (hx : x < ((mg g i c).getD r []).length) : cel (mg g i c) r x = cel g r x := by
  unfold cel
  rw [xq hi] at hx ⊢
  by_cases e : r = i
  · subst e
    rw [if_pos rfl] at hx ⊢
    rw [List.length_take] at hx
    rw [bc (by rw [List.length_take]; exact hx), List.getElem_take]
    exact (bc (by omega) 0).symm
  · rw [if_neg e]
structure vk (t : Tab) (n : Nat) (g : List (List Int)) (i c : Nat) : Prop where
  sl : Sl (bo t.1 n) g i c
  len : g.length = t.2.length
  row : ∀ r, (g.getD r []).length = ((jq t).getD r []).length
  hi : i < (outer t).length
  end_ : (outer t).getD i 0 = c + 1
  cor : (outer t).getD (i + 1) 0 < (outer t).getD i 0
  cutl : ∀ r, (((mg g i c).getD r []).length : Int) = (bo (outer t) i).getD r 0
  ins : ∀ r, (bo t.1 n).getD r 0 ≤ (bo (outer t) i).getD r 0
  rows : dK 9 9 (mg g i c)
end Go.Am.Pu
end
section
/- The square that the reference slides in. Plain words. -/
namespace Go.Am.Pu
structure Sq (s g : List (List Int)) (i c : Nat) : Prop where
  len : s.length = 11
  row : ∀ r, r < 11 → (s.getD r []).length = 11
  at_ : ∀ r x, r < 11 → x < 11 → ¬ (r = i ∧ x = c) → cel s r x = cel g r x
  hole : cel s i c = 0
theorem Sq.step {s g : List (List Int)} {i c i' c' : Nat} (h : Sq s g i c) (hi : i < g.length) (hc : c < (g.getD i []).length) (h1 : i < 11) (h2 : c < 11) (h3 : i' < 11) (h4 : c' < 11) (hne : ¬ (i' = i ∧ c' = c)) (v : Int) :
    Sq (lE (lE s i c v) i' c' 0) (lE g i c v) i' c' := by
  refine ⟨by rw [j3, j3]; exact h.len, fun r hr => by rw [ef, ef]; exact h.row r hr, fun r x hr hx hn => ?_, ?_⟩
  · rw [jB _ hn]
    by_cases e : r = i ∧ x = c
    · obtain ⟨rfl, rfl⟩ := e
      rw [lK _ (by rw [h.len]; exact h1) (by rw [h.row _ h1]; exact h2), lK _ hi hc]
    · rw [jB _ e, jB _ e]; exact h.at_ r x hr hx e
  · rw [lK _ (by rw [j3, h.len]; exact h3) (by rw [ef, h.row _ h3]; exact h4)]
end Go.Am.Pu
end
section
/- What a slide leaves is a tableau. Plain words. -/
namespace Go.Am.Pu
theorem pL {α : Type} (l : List α) (a x : Nat) (d : α) : (l.drop a).getD x d = l.getD (a + x) d := by
  simp [List.getD_eq_getElem?_getD, List.getElem?_drop]
section
variable {t : Tab} {n : Nat} {g : List (List Int)} {i c : Nat}
theorem vk.cell (E : vk t n g i c) {r k : Nat} (hr : r < (bo (outer t) i).length)
    (hk : k < ((eQ (bo t.1 n) (mg g i c) (bo (outer t) i).length).getD r []).length) :
    ((bo t.1 n).getD r 0).toNat + k < (g.getD r []).length ∧ ((((bo t.1 n).getD r 0).toNat + k : Nat) : Int) < (bo (outer t) i).getD r 0 ∧ ¬ (r = i ∧ ((bo t.1 n).getD r 0).toNat + k = c) ∧
      ((eQ (bo t.1 n) (mg g i c) (bo (outer t) i).length).getD r []).getD k 0 = cel g r (((bo t.1 n).getD r 0).toNat + k) := by
  have hq := E.sl.q0 r
  rw [nv hr] at hk ⊢
  rw [List.length_drop] at hk
  have hx : ((bo t.1 n).getD r 0).toNat + k < ((mg g i c).getD r []).length := by omega
  have hl := E.cutl r
  have hcut := xq (c := c) (r := r) E.sl.hi
  refine ⟨?_, by omega, fun e => ?_, ?_⟩
  · rw [hcut] at hx
    by_cases e : r = i
    · subst e; rw [if_pos rfl, List.length_take] at hx; omega
    · rw [if_neg e] at hx; exact hx
  · rw [hcut, if_pos e.1, List.length_take] at hx
    omega
  · rw [pL]
    exact zG E.sl.hi hx
theorem vk.zh (E : vk t n g i c) {r : Nat} (hr : r < (bo (outer t) i).length) :
    (bo (outer t) i).getD r 0 = (bo t.1 n).getD r 0 + (((eQ (bo t.1 n) (mg g i c) (bo (outer t) i).length).getD r []).length : Int) := by
  have hq := E.sl.q0 r
  have hi := E.ins r
  have hl := E.cutl r
  rw [nv hr, List.length_drop]
  omega
theorem vk.tab (E : vk t n g i c) (h : fV t = true) (hn : n < t.1.length) (hc : t.1.getD (n + 1) 0 < t.1.getD n 0) :
    fV (bo t.1 n, eQ (bo t.1 n) (mg g i c) (bo (outer t) i).length) = true := by
  obtain ⟨hp, ho, hl, _⟩ := s9 h
  have hqp := pA hp hn hc
  have hop := pA ho E.hi E.cor
  generalize hR : eQ (bo t.1 n) (mg g i c) (bo (outer t) i).length = R
  have hRl : R.length = (bo (outer t) i).length := by rw [← hR, ja]
  have cell : ∀ {r k : Nat}, r < R.length → k < (R.getD r []).length → ((bo t.1 n).getD r 0).toNat + k < (g.getD r []).length ∧ ((((bo t.1 n).getD r 0).toNat + k : Nat) : Int) < (bo (outer t) i).getD r 0 ∧ ¬ (r = i ∧ ((bo t.1 n).getD r 0).toNat + k = c) ∧ (R.getD r []).getD k 0 = cel g r (((bo t.1 n).getD r 0).toNat + k) := by
    intro r k hr hk
    subst hR
    exact E.cell (by omega) hk
  have zh : ∀ {r : Nat}, r < R.length → (bo (outer t) i).getD r 0 = (bo t.1 n).getD r 0 + ((R.getD r []).length : Int) := by
    intro r hr
    subst hR
    exact E.zh (by omega)
  have q0 := E.sl.q0
  have hout : outer (bo t.1 n, R) = bo (outer t) i := by
    refine List.ext_getElem (by rw [dH]; exact hRl) fun r h1 h2 => ?_
    rw [← bc h1 0, ← bc h2 0]
    have h3 : r < R.length := by omega
    have := fX (bo t.1 n) R 0 r h3
    rw [Nat.zero_add] at this
    unfold outer
    rw [this]
    exact (zh h3).symm
  have hlen : (bo t.1 n).length ≤ R.length := by
    refine Nat.le_of_not_lt fun hlt => ?_
    have a := vR hp hn hc hlt
    have b := E.ins R.length
    rw [cr (xs := bo (outer t) i) (by omega)] at b
    omega
  have om := qS hop
  simp only [fV, cY, dp, Bool.and_eq_true, decide_eq_true_eq]
  rw [hout]
  refine ⟨⟨hqp, hlen, hqp, hop, by omega, ?_⟩, ?_⟩
  · rw [dT]
    intro r _
    exact decide_eq_true (E.ins r)
  · rw [dT]
    intro r hr
    rw [dT]
    intro k hk
    have hq := q0 r
    obtain ⟨c1, c2, c3, c4⟩ := cell hr hk
    have hx : (bo t.1 n).getD r 0 ≤ ((((bo t.1 n).getD r 0).toNat + k : Nat) : Int) := by omega
    have hnum := E.sl.num r _ hx c1 c3
    simp only [fC, within, Bool.and_eq_true, Bool.or_eq_true, decide_eq_true_eq]
    rw [c4]
    refine ⟨hnum, ?_, ?_⟩
    · cases k with
      | zero => exact .inl rfl
      | succ k =>
        obtain ⟨d1, d2, d3, d4⟩ := cell hr (show k < (R.getD r []).length by omega)
        right
        rw [show k + 1 - 1 = k from rfl, d4]
        exact E.sl.row r (((bo t.1 n).getD r 0).toNat + k) (by omega) (by omega) d3 (by omega)
    · cases r with
      | zero => exact .inl rfl
      | succ r =>
        right
        have hr' : r < R.length := by omega
        have em : ((r + 1 : Nat) : Int) - 1 = (r : Int) := by omega
        rw [em, m6 hr']
        have hqr := q0 r
        have hrl := zh hr'
        have hom := om r
        simp only
        by_cases e : (bo t.1 n).getD (r + 1) 0 + (k : Int) < (bo t.1 n).getD r 0
        · rw [oY (by omega)]; omega
        · obtain ⟨y, hy⟩ : ∃ y : Nat, (bo t.1 n).getD (r + 1) 0 + (k : Int) - (bo t.1 n).getD r 0 = y := ⟨((bo t.1 n).getD (r + 1) 0 + (k : Int) - (bo t.1 n).getD r 0).toNat, by omega⟩
          rw [hy, dU]
          obtain ⟨d1, d2, d3, d4⟩ := cell hr' (show y < (R.getD r []).length by omega)
          have ey : ((bo t.1 n).getD r 0).toNat + y = ((bo t.1 n).getD (r + 1) 0).toNat + k := by omega
          rw [d4, ey]
          rw [ey] at d3
          exact E.sl.col r _ (by omega) c1 d3 c3
end
theorem yA {p : List Int} {n : Nat} (hp : cD p = true) (hn : n < p.length) (hc : p.getD (n + 1) 0 < p.getD n 0) : gM (bo p n) = gM p - 1 := by
  unfold bo
  split
  · next h =>
    have hl := tv hp hc h
    rw [uz p n (by omega)]
    omega
  · rw [ss p n _ hn]
    omega
end Go.Am.Pu
namespace Go.Am.Pu
end Go.Am.Pu
end
section
/- Taking the least number out of a plain tableau; evacuation. Plain words. -/
namespace Go.Am.Pu
theorem vk.out {t : Tab} {n : Nat} {g : List (List Int)} {i c : Nat} (E : vk t n g i c) :
    outer (bo t.1 n, eQ (bo t.1 n) (mg g i c) (bo (outer t) i).length) = bo (outer t) i := by
  refine List.ext_getElem (by rw [dH]; exact ja _ _ _) fun r h1 h2 => ?_
  rw [← bc h1 0, ← bc h2 0]
  have h3 : r < (eQ (bo t.1 n) (mg g i c) (bo (outer t) i).length).length := by rw [ja]; exact h2
  have := fX (bo t.1 n) (eQ (bo t.1 n) (mg g i c) (bo (outer t) i).length) 0 r h3
  rw [Nat.zero_add] at this
  exact this.trans (E.zh h2).symm
theorem xC {t : Tab} (h : bZ t = true) {r : Nat} (hr : r < t.2.length) : 1 ≤ (t.2.getD r []).length := by
  have hl := fw h hr
  have hp := (cU (iM h)).1 ((outer t)[r]'(by rw [dH]; exact hr)) (List.getElem_mem _)
  rw [bc (by rw [dH]; exact hr)] at hl
  omega
theorem sX {t : Tab} (h : bZ t = true) : gM (outer t) = t.2.flatten.length := by
  unfold outer
  exact na t.1 t.2 0 fun q _ => by rw [gz h]; rfl
end Go.Am.Pu
end
section
/- Promotion. Plain words. -/
namespace Go.Am.Pu
def Small (rs : List (List Int)) : Prop := ∀ i q, -100 ≤ (rs.getD i []).getD q 0 ∧ (rs.getD i []).getD q 0 ≤ 100
end Go.Am.Pu
end
section
/- Slides undone. Plain words. -/
namespace Go.Am.Pu
def leftOf (g : List (List Int)) (i c : Nat) : Int := if c = 0 then 0 else cel g i (c - 1)
def yN (g : List (List Int)) (i c : Nat) : Int := if i = 0 then 0 else cel g (i - 1) c
def sm : Nat → List (List Int) → Nat → Nat → List (List Int) × (Nat × Nat)
  | 0, g, i, c => (g, (i, c))
  | m + 1, g, i, c => if leftOf g i c = 0 ∧ yN g i c = 0 then (g, (i, c))
    else if leftOf g i c ≤ yN g i c then sm m (lE g i c (yN g i c)) (i - 1) c
    else sm m (lE g i c (leftOf g i c)) i (c - 1)
structure Ag (f : Int → Int) (g h : List (List Int)) (i c : Nat) : Prop where
  len : h.length = g.length
  row : ∀ r, (h.getD r []).length = (g.getD r []).length
  at_ : ∀ r x, ¬ (r = i ∧ x = c) → cel h r x = f (cel g r x)
def Inn (q : List Int) (g : List (List Int)) : Prop := ∀ r x : Nat, (x : Int) < q.getD r 0 → cel g r x = 0
theorem Inn.step {q : List Int} {g : List (List Int)} {i c : Nat} (h : Inn q g) (hq : q.getD i 0 ≤ c) (v : Int) : Inn q (lE g i c v) := by
  intro r x hx
  by_cases e : r = i ∧ x = c
  · obtain ⟨rfl, rfl⟩ := e; omega
  · rw [jB _ e]; exact h r x hx
theorem Ag.right {f : Int → Int} {q : List Int} {g h : List (List Int)} {i c : Nat} (hs : Sl q g i c) (hi : Inn q g) (hf : ∀ a b x y, cel g a b < cel g x y → f (cel g a b) < f (cel g x y)) (f0 : f 0 = 0)
    (hr : cel g i (c + 1) ≠ 0) (ha : Ag f (lE g i c (cel g i (c + 1))) h i (c + 1)) :
    ∃ h', Ag f g h' i c ∧ ∀ m, sm (m + 1) h i (c + 1) = sm m h' i c := by
  obtain ⟨b1, b2⟩ := y8 hr
  have f0' : ∀ a b, cel g a b = 0 → f (cel g a b) = 0 := fun a b e => by rw [e]; exact f0
  have hl : leftOf h i (c + 1) = f (cel g i (c + 1)) := by
    unfold leftOf
    rw [if_neg (by omega), show c + 1 - 1 = c by omega, ha.at_ i c (by omega), lK _ hs.hi hs.hc]
  have hpos : 0 < f (cel g i (c + 1)) := by
    have hp := hs.pos i (c + 1)
    have e : cel g g.length 0 = 0 := by unfold cel; rw [cr (Nat.le_refl _)]; rfl
    have := hf g.length 0 i (c + 1) (by omega)
    rw [e, f0] at this
    exact this
  have hu : yN h i (c + 1) < f (cel g i (c + 1)) := by
    unfold yN
    by_cases e : i = 0
    · rw [if_pos e]; exact hpos
    · rw [if_neg e, ha.at_ _ _ (by omega), jB _ (by omega)]
      by_cases hq : q.getD (i - 1) 0 ≤ ((c + 1 : Nat) : Int)
      · have hc := hs.col (i - 1) (c + 1) hq (by rw [show i - 1 + 1 = i by omega]; exact b2) (by omega) (by omega)
        rw [show i - 1 + 1 = i by omega] at hc
        exact hf _ _ _ _ hc
      · rw [f0' _ _ (hi (i - 1) (c + 1) (by omega))]; exact hpos
  have hhi : i < h.length := by rw [ha.len, j3]; exact b1
  have hhc : c + 1 < (h.getD i []).length := by rw [ha.row, ef]; exact b2
  refine ⟨lE h i (c + 1) (leftOf h i (c + 1)), ⟨by rw [j3, ha.len, j3], fun r => by rw [ef, ha.row, ef], fun r x hn => ?_⟩, fun m => ?_⟩
  · by_cases e : r = i ∧ x = c + 1
    · obtain ⟨rfl, rfl⟩ := e
      rw [lK _ hhi hhc, hl]
    · rw [jB _ e, ha.at_ r x e, jB _ hn]
  · conv => lhs; unfold sm
    rw [if_neg (by omega), if_neg (by omega)]
    rfl
def Occ (q : List Int) (v : Int) (g : List (List Int)) (i c : Nat) : Prop := ∃ r x : Nat, ¬ (r = i ∧ x = c) ∧ x < (g.getD r []).length ∧ q.getD r 0 ≤ x ∧ cel g r x = v
theorem Occ.step {q : List Int} {v : Int} {g : List (List Int)} {i c a b : Nat} (h : Occ q v g i c) (hi : i < g.length) (hc : c < (g.getD i []).length) (hq : q.getD i 0 ≤ c) (hne : ¬ (a = i ∧ b = c)) : Occ q v (lE g i c (cel g a b)) a b := by
  obtain ⟨r, x, h1, h2, h3, h4⟩ := h
  by_cases e : r = a ∧ x = b
  · obtain ⟨rfl, rfl⟩ := e
    exact ⟨i, c, fun e => hne ⟨e.1.symm, e.2.symm⟩, by rw [ef]; exact hc, hq, by rw [lK _ hi hc]; exact h4⟩
  · exact ⟨r, x, e, by rw [ef]; exact h2, h3, by rw [jB _ h1]; exact h4⟩
end Go.Am.Pu
end
section
/- Promotion of a standard tableau is standard, of the same shape, and can be undone. Plain words. -/
namespace Go.Am.Pu
theorem pU {t : Tab} (h0 : t.1 = []) (hp : cD (outer t) = true) (hn : ∀ r x, r < t.2.length → x < (t.2.getD r []).length → 1 ≤ cel t.2 r x ∧ cel t.2 r x ≤ 9)
    (hr : ∀ r x, r < t.2.length → x + 1 < (t.2.getD r []).length → cel t.2 r x ≤ cel t.2 r (x + 1)) (hc : ∀ r x, r + 1 < t.2.length → x < (t.2.getD (r + 1) []).length → cel t.2 r x < cel t.2 (r + 1) x) : bZ t = true := by
  simp only [bZ, fV, cY, dp, Bool.and_eq_true, decide_eq_true_eq, h0]
  refine ⟨⟨⟨rfl, by simp, rfl, hp, by simp, ?_⟩, ?_⟩, rfl⟩
  · rw [dT]
    intro i hi
    simp at hi
  · rw [dT]
    intro r hr'
    rw [dT]
    intro k hk
    simp only [fC, within, Bool.and_eq_true, Bool.or_eq_true, decide_eq_true_eq]
    refine ⟨hn r k hr' hk, ?_, ?_⟩
    · by_cases e : k = 0
      · exact .inl e
      · right
        have := hr r (k - 1) hr' (by omega)
        rw [show k - 1 + 1 = k by omega] at this
        exact this
    · by_cases e : r = 0
      · exact .inl e
      · right
        have := hc (r - 1) k (by omega) (by rw [show r - 1 + 1 = r by omega]; exact hk)
        rw [show r - 1 + 1 = r by omega] at this
        rw [show (r : Int) - 1 = ((r - 1 : Nat) : Int) by omega, m6 (by omega), h0]
        simp only [List.getD_nil]
        rw [show (0 : Int) + (k : Int) - 0 = (k : Int) by omega, dU]
        exact this
theorem ko {t : Tab} (h : bZ t = true) : (∀ r x, r < t.2.length → x < (t.2.getD r []).length → 1 ≤ cel t.2 r x ∧ cel t.2 r x ≤ 9) ∧ (∀ r x, r < t.2.length → x + 1 < (t.2.getD r []).length → cel t.2 r x ≤ cel t.2 r (x + 1)) := by
  have h' := h
  simp only [bZ, Bool.and_eq_true] at h'
  obtain ⟨_, _, _, hc⟩ := s9 h'.1
  refine ⟨fun r x hr hx => ?_, fun r x hr hx => ?_⟩
  · have := hc r x hr hx
    simp only [fC, within, Bool.and_eq_true, decide_eq_true_eq] at this
    exact this.1
  · have := hc r (x + 1) hr hx
    simp only [fC, within, Bool.and_eq_true, Bool.or_eq_true, decide_eq_true_eq] at this
    exact this.2.1.resolve_left (by omega)
theorem lP {rs : List (List Int)} {r x : Nat} (hr : r < rs.length) (hx : x < (rs.getD r []).length) : cel rs r x ∈ rs.flatten := by
  refine List.mem_flatten.2 ⟨rs.getD r [], by rw [bc hr]; exact List.getElem_mem hr, ?_⟩
  unfold cel
  rw [bc hx]
  exact List.getElem_mem hx
theorem oc {rs : List (List Int)} {v : Int} (h : v ∈ rs.flatten) : ∃ r x, r < rs.length ∧ x < (rs.getD r []).length ∧ cel rs r x = v := by
  obtain ⟨l, hl, hv⟩ := List.mem_flatten.1 h
  obtain ⟨r, hr, rfl⟩ := List.getElem_of_mem hl
  obtain ⟨x, hx, rfl⟩ := List.getElem_of_mem hv
  have e := bc hr ([] : List Int)
  refine ⟨r, x, hr, by rw [e]; exact hx, ?_⟩
  unfold cel
  rw [e, bc hx]
theorem nR {t : Tab} (h : bZ t = true) (hs : fg t = true) : t.2.flatten.Nodup ∧ (∀ x ∈ t.2.flatten, 1 ≤ x ∧ x ≤ t.2.flatten.length) := by
  simp only [fg, Bool.and_eq_true] at hs
  have h1 := qw hs.1
  obtain ⟨a, b⟩ := (wO fun x hx => (h1 x hx).1).1 hs.2
  exact ⟨a, fun x hx => ⟨(h1 x hx).1, b x hx⟩⟩
end Go.Am.Pu
end
section
/- Promotion keeps shapes and standardness. Plain words. -/
namespace Go.Am.Pu
section
variable {t : Tab}
theorem k9 {xs ys : List Int} {x : Nat} (h : x < xs.length) : (xs ++ ys).getD x 0 = xs.getD x 0 := by
  simp only [List.getD_eq_getElem?_getD, List.getElem?_append_left h]
theorem pO {xs ys : List Int} {x : Nat} (h : xs.length ≤ x) : (xs ++ ys).getD x 0 = ys.getD (x - xs.length) 0 := by
  simp only [List.getD_eq_getElem?_getD, List.getElem?_append_right h]
end
end Go.Am.Pu
end
section
/- Promotion undone: it is one to one. Plain words. -/
namespace Go.Am.Pu
section
variable {t : Tab}
end
end Go.Am.Pu
end
section
/- Orbits of promotion come back. Plain words. -/
namespace Go.Am.Pu
structure Good (t : Tab) : Prop where
  pl : bZ t = true
  st : fg t = true
  ne : t.2.flatten.length ≠ 0
end Go.Am.Pu
end
section
/- A slide outwards, as the program has it; demotion. Plain words. -/
namespace Go.Am.Pu
theorem yB {l m : List Int} (hl : l.length = m.length) (h : ∀ x, x < m.length → l.getD x 0 = m.getD x 0) : l = m :=
  List.ext_getElem hl fun x h1 h2 => by rw [← bc h1 0, ← bc h2 0]; exact h x h2
section
variable {u : Tab}
end
end Go.Am.Pu
end
section
/- The last promotion of an orbit; orbits' sizes. Plain words. -/
namespace Go.Am.Pu
def xw (t : Tab) : Prop := t.1 = [] ∧ dK 10 10 t.2
theorem xw.ok {t : Tab} (h : xw t) : mS t := ⟨by rw [h.1]; simp, by have := h.2.1; omega, fun r hr => by have := h.2.2 r hr; omega⟩
theorem xw.size {t : Tab} (h : xw t) : kW t.2 ≤ 100 := by
  have a := qW t.2 10 h.2.2
  have b := h.2.1
  omega
section
attribute [local instance] D.real
variable {α β : Type} {x y v : Option α}
theorem bE {x : Option β} {z : β} {f : β → Option α} (h : x = some z) (g : f z = v) : D.bnd x f = v := by rw [h]; exact g
theorem tN (g : x = v) : D.test (D.no true) y x = v := g
theorem tY (g : x = v) : D.test true x y = v := g
theorem tF (g : y = v) : D.test false x y = v := g
theorem tM (g : y = v) : D.test (D.no false) y x = v := g
theorem tG {p : Prop} [Decidable p] (h : p) (g : x = v) : D.test (decide p) x y = v := by
  show (if decide p = true then x else y) = v
  rw [if_pos (decide_eq_true h)]; exact g
theorem tX {p : Prop} [Decidable p] (h : ¬ p) (g : y = v) : D.test (decide p) x y = v := by
  show (if decide p = true then x else y) = v
  rw [decide_eq_false h]; exact g
theorem tE {a b : Int} (h : a = b) (g : x = v) : D.test (D.no (D.eq a b)) y x = v := by
  show (if (!decide (a = b)) = true then y else x) = v
  rw [decide_eq_true h]; exact g
theorem tB {b : Bool} (g : x = v) : D.test (D.no (D.eqB b b)) y x = v := by
  show (if (!(b == b)) = true then y else x) = v
  rw [beq_self_eq_true]; exact g
end
end Go.Am.Pu
end
section
/- Cells taken out of plain tableaux, one behind another. Plain words. -/
namespace Go.Am.Pu
def o6 (rs : List (List Int)) : Prop := ∀ i, i + 1 < rs.length → (rs.getD (i + 1) []).length ≤ (rs.getD i []).length ∧ ∀ q, q < (rs.getD (i + 1) []).length → (rs.getD i []).getD q 0 < (rs.getD (i + 1) []).getD q 0
theorem rO {r : List Int} {y : Int} : ∀ {m q : Nat}, kC r y m = some q → ∀ c, q < c → c < m → y ≤ r.getD c 0
  | 0, q, h, _, _, _ => by simp [kC] at h
  | m + 1, q, h, c, h1, h2 => by
    unfold kC at h
    split at h
    · next hc => injection h with h; omega
    · next hc =>
      by_cases e : c = m
      · subst e; omega
      · exact rO h c h1 (by omega)
theorem ph : ∀ (r : Nat) (rs : List (List Int)) (y : Int), (kX r rs y).1.length = rs.length ∧ ∀ i, ((kX r rs y).1.getD i []).length = (rs.getD i []).length
  | 0, _, _ => ⟨rfl, fun _ => rfl⟩
  | r + 1, rs, y => by
    unfold kX
    split
    · next q hq =>
      obtain ⟨a, b⟩ := ph r (rs.set r ((rs.getD r []).set q y)) ((rs.getD r []).getD q 0)
      refine ⟨by rw [a, List.length_set], fun i => ?_⟩
      rw [b]
      by_cases e : i = r
      · subst e
        by_cases h : i < rs.length
        · rw [bc (by rw [List.length_set]; exact h), List.getElem_set_self, List.length_set]
        · rw [cr (by rw [List.length_set]; omega), cr (xs := rs) (by omega)]
      · rw [getD_set_ne (Ne.symm e)]
    · exact ph r rs y
theorem sT : ∀ (r : Nat) (rs : List (List Int)) (y : Int) (q : Nat), r < rs.length → (∀ i, i + 1 < r → (rs.getD (i + 1) []).length ≤ (rs.getD i []).length ∧ ∀ q, q < (rs.getD (i + 1) []).length → (rs.getD i []).getD q 0 < (rs.getD (i + 1) []).getD q 0) →
    (∀ i, r ≤ i → i + 1 < rs.length → (rs.getD (i + 1) []).length ≤ (rs.getD i []).length ∧ ∀ q, q < (rs.getD (i + 1) []).length → (rs.getD i []).getD q 0 < (rs.getD (i + 1) []).getD q 0) →
    (∀ i, i + 1 = r → (rs.getD r []).length ≤ (rs.getD i []).length ∧ q < (rs.getD i []).length ∧ (rs.getD i []).getD q 0 < y ∧ (∀ c, c < (rs.getD r []).length → c ≠ q → (rs.getD i []).getD c 0 < (rs.getD r []).getD c 0) ∧ (∀ c, q ≤ c → c < (rs.getD r []).length → y < (rs.getD r []).getD c 0)) →
    o6 (kX r rs y).1
  | 0, rs, y, q, hr, _, hB, _ => fun i hi => hB i (Nat.zero_le _) hi
  | r + 1, rs, y, q, hr, hA, hB, hI => by
    obtain ⟨i1, i2, i3, i4, i5⟩ := hI r rfl
    obtain ⟨q0, hq0⟩ := tA i2 i3
    have hmax := rO hq0
    obtain ⟨k1, k2⟩ := qg hq0
    have hqq : q ≤ q0 := Nat.le_of_not_lt fun hlt => by
      have := hmax q hlt i2
      omega
    unfold kX
    rw [hq0]
    have hrow : (rs.set r ((rs.getD r []).set q0 y)).getD r [] = (rs.getD r []).set q0 y := by
      rw [bc (by rw [List.length_set]; omega), List.getElem_set_self]
    have hne : ∀ i, i ≠ r → (rs.set r ((rs.getD r []).set q0 y)).getD i [] = rs.getD i [] := fun i h => getD_set_ne (Ne.symm h) _ _
    have hset : ∀ c, c ≠ q0 → ((rs.getD r []).set q0 y).getD c 0 = (rs.getD r []).getD c 0 := fun c h => getD_set_ne (Ne.symm h) _ _
    have hself : ((rs.getD r []).set q0 y).getD q0 0 = y := by rw [bc (by rw [List.length_set]; exact k1), List.getElem_set_self]
    refine sT r _ _ q0 (by rw [List.length_set]; omega) (fun i hi => ?_) (fun i hi hl => ?_) (fun i hi => ?_)
    · rw [hne _ (by omega), hne _ (by omega)]
      exact hA i (by omega)
    · rw [List.length_set] at hl
      by_cases e : i = r
      · subst e
        rw [hne (i + 1) (by omega), hrow, List.length_set]
        refine ⟨i1, fun c hc => ?_⟩
        by_cases e2 : c = q0
        · subst e2; rw [hself]; exact i5 c hqq hc
        · rw [hset c e2]
          by_cases e3 : c = q
          · subst e3
            have := i5 c (Nat.le_refl _) hc
            omega
          · exact i4 c hc e3
      · rw [hne (i + 1) (by omega), hne i e]
        exact hB i (by omega) hl
    · subst hi
      obtain ⟨a1, a2⟩ := hA i (by omega)
      rw [hrow, hne i (by omega), List.length_set]
      refine ⟨a1, by omega, a2 q0 k1, fun c hc e => ?_, fun c h1 h2 => ?_⟩
      · rw [hset c e]; exact a2 c hc
      · by_cases e : c = q0
        · subst e; rw [hself]; exact k2
        · rw [hset c e]
          have := hmax c (by omega) h2
          omega
def dz (rs : List (List Int)) (r : Nat) : List (List Int) :=
  if (rs.getD r []).length = 1 then (rs.set r ((rs.getD r []).take ((rs.getD r []).length - 1))).take r else rs.set r ((rs.getD r []).take ((rs.getD r []).length - 1))
def fU (a b : List (List Int)) : Prop := a.length = b.length ∧ ∀ i, (a.getD i []).length = (b.getD i []).length
theorem eB {α : Type} {l : List α} {n i : Nat} (h : i < n) (d : α) : (l.take n).getD i d = l.getD i d := by
  simp only [List.getD_eq_getElem?_getD, List.getElem?_take, if_pos h]
theorem tu {a b : List (List Int)} (h : fU a b) (n : Nat) : fU (a.take n) (b.take n) := by
  refine ⟨by rw [List.length_take, List.length_take, h.1], fun i => ?_⟩
  by_cases hi : i < n
  · rw [eB hi, eB hi]; exact h.2 i
  · rw [cr (xs := a.take n) (by rw [List.length_take]; omega), cr (xs := b.take n) (by rw [List.length_take]; omega)]
theorem uo (rs : List (List Int)) (r : Nat) : fU (lL rs r).1 (dz rs r) := by
  have a := ph r (rs.set r ((rs.getD r []).take ((rs.getD r []).length - 1))) ((rs.getD r []).getD ((rs.getD r []).length - 1) 0)
  unfold lL dz
  simp only
  split
  · exact tu a r
  · exact a
theorem zj {a b : List (List Int)} (h : fU a b) (r : Nat) : fU (dz a r) (dz b r) := by
  have hs : fU (a.set r ((a.getD r []).take ((a.getD r []).length - 1))) (b.set r ((b.getD r []).take ((b.getD r []).length - 1))) := by
    refine ⟨by rw [List.length_set, List.length_set, h.1], fun i => ?_⟩
    by_cases e : i = r
    · subst e
      by_cases hi : i < a.length
      · rw [bc (xs := a.set _ _) (by rw [List.length_set]; exact hi), List.getElem_set_self, bc (xs := b.set _ _) (by rw [List.length_set, ← h.1]; exact hi), List.getElem_set_self, List.length_take, List.length_take, h.2 i]
      · rw [cr (xs := a.set _ _) (by rw [List.length_set]; omega), cr (xs := b.set _ _) (by rw [List.length_set, ← h.1]; omega)]
    · rw [getD_set_ne (Ne.symm e), getD_set_ne (Ne.symm e)]; exact h.2 i
  unfold dz
  rw [h.2 r]
  split
  · rw [← h.2 r] ; rw [h.2 r] at *; exact tu hs r
  · rw [h.2 r] at hs; exact hs
theorem fU.trans {a b c : List (List Int)} (h : fU a b) (h' : fU b c) : fU a c := ⟨h.1.trans h'.1, fun i => (h.2 i).trans (h'.2 i)⟩
theorem yW {rs : List (List Int)} (h : o6 rs) (n : Nat) : o6 (rs.take n) := by
  intro i hi
  rw [List.length_take] at hi
  rw [eB (by omega), eB (by omega)]
  exact h i (by omega)
theorem vZ {rs : List (List Int)} {r : Nat} (h : o6 rs) (hr : r < rs.length) (hl : 1 ≤ (rs.getD r []).length) (hc : (rs.getD (r + 1) []).length < (rs.getD r []).length) : o6 (lL rs r).1 := by
  have hrow : (rs.set r ((rs.getD r []).take ((rs.getD r []).length - 1))).getD r [] = (rs.getD r []).take ((rs.getD r []).length - 1) := by
    rw [bc (by rw [List.length_set]; exact hr), List.getElem_set_self]
  have hne : ∀ i, i ≠ r → (rs.set r ((rs.getD r []).take ((rs.getD r []).length - 1))).getD i [] = rs.getD i [] := fun i h => getD_set_ne (Ne.symm h) _ _
  have key : o6 (kX r (rs.set r ((rs.getD r []).take ((rs.getD r []).length - 1))) ((rs.getD r []).getD ((rs.getD r []).length - 1) 0)).1 := by
    refine sT r _ _ ((rs.getD r []).length - 1) (by rw [List.length_set]; exact hr) (fun i hi => ?_) (fun i hi hil => ?_) (fun i hi => ?_)
    · rw [hne _ (by omega), hne _ (by omega)]; exact h i (by omega)
    · rw [List.length_set] at hil
      by_cases e : i = r
      · subst e
        rw [hne (i + 1) (by omega), hrow, List.length_take]
        refine ⟨by omega, fun c hc' => ?_⟩
        rw [eB (by omega)]
        exact (h i hil).2 c hc'
      · rw [hne (i + 1) (by omega), hne i e]; exact h i hil
    · subst hi
      obtain ⟨a1, a2⟩ := h i hr
      rw [hrow, hne i (by omega), List.length_take]
      refine ⟨by omega, by omega, a2 _ (by omega), fun c h1 h2 => ?_, fun c h1 h2 => by omega⟩
      rw [eB (by omega)]
      exact a2 c (by omega)
  unfold lL
  simp only
  split
  · exact yW key r
  · exact key
end Go.Am.Pu
end
section
/- The greatest number of a standard tableau, and the tableau without it; a pair of tableaux unrolled. Plain words. -/
namespace Go.Am.Pu
section
variable {t : Tab}
theorem wa (h : bZ t = true) (hs : fg t = true) {a b x y : Nat} (ha : a < t.2.length) (hx : x < (t.2.getD a []).length) (hb : b < t.2.length) (hy : y < (t.2.getD b []).length) (e : cel t.2 a x = cel t.2 b y) : a = b ∧ x = y := by
  have nd := (nR h hs).1
  rw [List.Nodup, List.pairwise_flatten] at nd
  have mem : ∀ {r z : Nat}, r < t.2.length → (hz : z < (t.2.getD r []).length) → cel t.2 r z ∈ t.2.getD r [] := fun {r z} _ hz => by
    unfold cel
    rw [bc hz]
    exact List.getElem_mem hz
  have ab : ∀ {a b x y : Nat}, a < b → a < t.2.length → x < (t.2.getD a []).length → b < t.2.length → y < (t.2.getD b []).length → cel t.2 a x ≠ cel t.2 b y := fun {a b x y} hab ha hx hb hy => by
    have := List.pairwise_iff_getElem.1 nd.2 a b ha hb hab
    exact this _ (by rw [← bc ha []]; exact mem ha hx) _ (by rw [← bc hb []]; exact mem hb hy)
  have e1 : a = b := by
    rcases Nat.lt_trichotomy a b with hl | hl | hl
    · exact absurd e (ab hl ha hx hb hy)
    · exact hl
    · exact absurd e.symm (ab hl hb hy ha hx)
  subst e1
  refine ⟨rfl, ?_⟩
  have n2 := nd.1 _ (by rw [bc ha]; exact List.getElem_mem ha : t.2.getD a [] ∈ t.2)
  unfold cel at e
  rw [bc hx, bc hy] at e
  rcases Nat.lt_trichotomy x y with hl | hl | hl
  · exact absurd e (List.pairwise_iff_getElem.1 n2 x y hx hy hl)
  · exact hl
  · exact absurd e.symm (List.pairwise_iff_getElem.1 n2 y x hy hx hl)
theorem jH (h : bZ t = true) (hs : fg t = true) {a x : Nat} {v : Int} (ha : a < t.2.length) (hx : x < (t.2.getD a []).length) (e : cel t.2 a x = v) : rowOf t v = a := by
  have hf : t.2.findIdx (fun r => has r v) = a := by
    rw [List.findIdx_eq ha]
    refine ⟨?_, fun j hj => ?_⟩
    · rw [← bc ha [], qM, ← e]
      unfold cel
      rw [bc hx]
      exact List.getElem_mem hx
    · rw [Bool.eq_false_iff]
      intro hc
      rw [qM] at hc
      obtain ⟨y, hy, e2⟩ := List.getElem_of_mem hc
      have hjl : j < t.2.length := by omega
      have hy' : y < (t.2.getD j []).length := by rw [bc hjl]; exact hy
      have e3 : cel t.2 j y = v := by
        unfold cel
        rw [bc hy']
        simp only [bc hjl]
        exact e2
      have := wa h hs hjl hy' ha hx (by rw [e, e3])
      omega
  unfold rowOf sN
  rw [hf, if_pos ha]
theorem yK (h : bZ t = true) (hs : fg t = true) (hn : t.2.flatten.length ≠ 0) : ∃ a : Nat, a < t.2.length ∧ 1 ≤ (t.2.getD a []).length ∧ cel t.2 a ((t.2.getD a []).length - 1) = t.2.flatten.length ∧ (t.2.getD (a + 1) []).length < (t.2.getD a []).length ∧ rowOf t t.2.flatten.length = a := by
  have ho : jF t.2.flatten = true := by
    have := hs
    simp only [fg, Bool.and_eq_true] at this
    exact this.2
  obtain ⟨a, x, ha, hx, e⟩ := oc (jU.1 ho t.2.flatten.length (gN.2 (by omega)))
  have hb := (nR h hs).2
  obtain ⟨c1, c2⟩ := ko h
  have hx1 : x + 1 = (t.2.getD a []).length := by
    refine Nat.le_antisymm hx (Nat.le_of_not_lt fun hlt => ?_)
    have k1 := c2 a x ha hlt
    have k2 := (hb _ (lP ha hlt)).2
    have := wa h hs ha hx ha hlt (by omega)
    omega
  have hbel : (t.2.getD (a + 1) []).length ≤ x := by
    refine Nat.le_of_not_lt fun hlt => ?_
    have ha1 : a + 1 < t.2.length := Nat.lt_of_not_le fun hle => by rw [cr hle] at hlt; simp at hlt
    have k1 := (lQ h a ha1).2 x hlt
    have k2 := (hb _ (lP ha1 hlt)).2
    unfold cel at e k2
    omega
  refine ⟨a, ha, by omega, by rw [show (t.2.getD a []).length - 1 = x by omega]; exact e, by omega, jH h hs ha hx e⟩
theorem wh {rs : List (List Int)} {a : Nat} (ha : a < rs.length) (hc : (rs.getD (a + 1) []).length < (rs.getD a []).length) (hp : ∀ r, r < rs.length → 1 ≤ (rs.getD r []).length) (r : Nat) : (dz rs a).getD r [] = if r = a then (rs.getD a []).take ((rs.getD a []).length - 1) else rs.getD r [] := by
  have hset : (rs.set a ((rs.getD a []).take ((rs.getD a []).length - 1))).getD r [] = if r = a then (rs.getD a []).take ((rs.getD a []).length - 1) else rs.getD r [] := by
    by_cases e : r = a
    · subst e; rw [if_pos rfl, bc (by rw [List.length_set]; exact ha), List.getElem_set_self]
    · rw [if_neg e, getD_set_ne (Ne.symm e)]
  unfold dz
  split
  · next h1 =>
    by_cases hr : r < a
    · rw [eB hr, hset]
    · rw [cr (by rw [List.length_take]; omega)]
      by_cases e : r = a
      · subst e; rw [if_pos rfl, h1]; rfl
      · rw [if_neg e]
        have hlast : rs.length ≤ a + 1 := Nat.le_of_not_lt fun hlt => by
          have := hp (a + 1) hlt
          omega
        rw [cr (by omega)]
  · exact hset
theorem wZ {rs : List (List Int)} {a : Nat} (ha : a < rs.length) : (dz rs a).length = if (rs.getD a []).length = 1 then a else rs.length := by
  unfold dz
  split
  · rw [List.length_take, List.length_set]; omega
  · rw [List.length_set]
theorem zx (h : bZ t = true) (hs : fg t = true) {a : Nat} (hn : t.2.flatten.length ≠ 0) (ha : a < t.2.length) (h1 : 1 ≤ (t.2.getD a []).length) (htop : cel t.2 a ((t.2.getD a []).length - 1) = t.2.flatten.length) (hc : (t.2.getD (a + 1) []).length < (t.2.getD a []).length) :
    bZ (([], dz t.2 a) : Tab) = true ∧ fg (([], dz t.2 a) : Tab) = true ∧ (dz t.2 a).flatten.length + 1 = t.2.flatten.length ∧ ∀ v, 1 ≤ v → v < (t.2.flatten.length : Int) → rowOf ([], dz t.2 a) v = rowOf t v := by
  have hpos := fun r (hr : r < t.2.length) => xC h hr
  have hrow := wh ha hc hpos
  have hlen := wZ ha
  obtain ⟨c1, c2⟩ := ko h
  have c3 := lQ h
  have hcorner : (outer t).getD (a + 1) 0 < (outer t).getD a 0 := by
    rw [fw h ha]
    by_cases e : a + 1 < t.2.length
    · rw [fw h e]; omega
    · rw [cr (by rw [dH]; omega)]; omega
  have hal : a < (outer t).length := by rw [dH]; exact ha
  have hout : outer (([], dz t.2 a) : Tab) = bo (outer t) a := by
    have hdl : (bo (outer t) a).length = (dz t.2 a).length := by
      rw [hlen]
      unfold bo
      rw [fw h ha]
      by_cases e : (t.2.getD a []).length = 1
      · rw [if_pos (by omega), if_pos e, List.length_take, dH]; omega
      · rw [if_neg (by omega), if_neg e, List.length_set, dH]
    refine List.ext_getElem (by rw [dH, hdl]) fun r k1 k2 => ?_
    rw [← bc k1 0, ← bc k2 0, qZ (iM h) hal hcorner]
    have k3 : r < (dz t.2 a).length := by rw [dH] at k1; exact k1
    have := fX [] (dz t.2 a) 0 r k3
    unfold outer at this ⊢
    rw [this, hrow]
    have hrl : r < t.2.length := by
      rw [hlen] at k3
      split at k3 <;> omega
    have po := fw h hrl
    have pa := fw h ha
    unfold outer at po pa
    by_cases e : r = a
    · subst e
      rw [if_pos rfl, if_pos rfl, List.length_take, pa]
      simp only [List.getD_nil]
      omega
    · rw [if_neg e, if_neg e, po]
      simp only [List.getD_nil]
      omega
  have hcel : ∀ {r x : Nat}, x < ((dz t.2 a).getD r []).length → x < (t.2.getD r []).length ∧ cel (dz t.2 a) r x = cel t.2 r x := fun {r x} hx => by
    unfold cel
    rw [hrow] at hx ⊢
    by_cases e : r = a
    · subst e
      rw [if_pos rfl, List.length_take] at hx
      rw [if_pos rfl, eB (by omega)]
      exact ⟨by omega, rfl⟩
    · rw [if_neg e] at hx ⊢
      exact ⟨hx, rfl⟩
  have hrl : ∀ {r : Nat}, r < (dz t.2 a).length → r < t.2.length := fun {r} hr => by
    rw [hlen] at hr
    split at hr <;> omega
  have hin : ∀ {r x : Nat}, x < (t.2.getD r []).length → ¬ (r = a ∧ x + 1 = (t.2.getD a []).length) → x < ((dz t.2 a).getD r []).length := fun {r x} hx hne => by
    rw [hrow]
    by_cases e : r = a
    · subst e
      rw [if_pos rfl, List.length_take]
      have : ¬ x + 1 = (t.2.getD r []).length := fun e => hne ⟨rfl, e⟩
      omega
    · rw [if_neg e]; exact hx
  have hpl : bZ (([], dz t.2 a) : Tab) = true := by
    refine pU rfl (by rw [hout]; exact pA (iM h) hal hcorner) (fun r x hr hx => ?_) (fun r x hr hx => ?_) (fun r x hr hx => ?_)
    · obtain ⟨k1, k2⟩ := hcel hx
      rw [k2]; exact c1 r x (hrl hr) k1
    · obtain ⟨k1, k2⟩ := hcel hx
      obtain ⟨_, k4⟩ := hcel (show x < ((dz t.2 a).getD r []).length from Nat.lt_of_succ_lt hx)
      rw [k2, k4]; exact c2 r x (hrl hr) k1
    · obtain ⟨k1, k2⟩ := hcel hx
      have hr1 := hrl hr
      obtain ⟨d1, d2⟩ := c3 r hr1
      have hxr : x < ((dz t.2 a).getD r []).length := by
        refine hin (by omega) fun e => ?_
        rw [e.1] at k1
        omega
      obtain ⟨_, k4⟩ := hcel hxr
      rw [k2, k4]
      exact d2 x k1
  have hfl : (dz t.2 a).flatten.length + 1 = t.2.flatten.length := by
    have e1 := sX hpl
    rw [hout, yA (iM h) hal hcorner, sX h] at e1
    simp only at e1
    omega
  have ho : jF t.2.flatten = true := by
    have := hs
    simp only [fg, Bool.and_eq_true] at this
    exact this.2
  have hcells : ∀ v, 1 ≤ v → v < (t.2.flatten.length : Int) → ∃ r x, r < (dz t.2 a).length ∧ x < ((dz t.2 a).getD r []).length ∧ cel (dz t.2 a) r x = v ∧ r < t.2.length ∧ x < (t.2.getD r []).length ∧ cel t.2 r x = v := by
    intro v v1 v2
    obtain ⟨r, x, hr, hx, e⟩ := oc (jU.1 ho v (gN.2 (by omega)))
    have hx' : x < ((dz t.2 a).getD r []).length := by
      refine hin hx fun e2 => ?_
      rw [e2.1, show x = (t.2.getD a []).length - 1 by omega, htop] at e
      omega
    exact ⟨r, x, Nat.lt_of_not_le fun hle => by rw [cr hle] at hx'; simp at hx', hx', by rw [(hcel hx').2]; exact e, hr, hx, e⟩
  have hst : fg (([], dz t.2 a) : Tab) = true := by
    have hp' := hpl
    simp only [bZ, Bool.and_eq_true] at hp'
    simp only [fg, Bool.and_eq_true]
    refine ⟨hp'.1, jU.2 fun v hv => ?_⟩
    rw [gN] at hv
    obtain ⟨r, x, q1, q2, q3, _⟩ := hcells v hv.1 (by omega)
    rw [← q3]
    exact lP q1 q2
  refine ⟨hpl, hst, hfl, fun v v1 v2 => ?_⟩
  obtain ⟨r, x, q1, q2, q3, q4, q5, q6⟩ := hcells v v1 v2
  rw [jH h hs q4 q5 q6, jH hpl hst q1 q2 q3]
end
structure Unr (q : Tab) (k : Nat) (P Q : List (List Int)) : Prop where
  pl : bZ (([], Q) : Tab) = true
  st : fg (([], Q) : Tab) = true
  fl : Q.flatten.length = k
  col : o6 P
  same : fU P Q
  p9 : dK 9 9 P
  row : ∀ v, 1 ≤ v → v ≤ (k : Int) → rowOf ([], Q) v = rowOf q v
theorem Unr.step {q : Tab} {k : Nat} {P Q : List (List Int)} (h : Unr q (k + 1) P Q) : ∃ a : Nat, rowOf q ((k + 1 : Nat) : Int) = a ∧ a < Q.length ∧ 1 ≤ (Q.getD a []).length ∧ cel Q a ((Q.getD a []).length - 1) = (k + 1 : Nat) ∧ (Q.getD (a + 1) []).length < (Q.getD a []).length ∧ Unr q k (lL P a).1 (dz Q a) := by
  have hfl : (([], Q) : Tab).2.flatten.length = k + 1 := h.fl
  obtain ⟨a, a1, a2, a3, a4, a5⟩ := yK h.pl h.st (by omega)
  obtain ⟨b1, b2, b3, b4⟩ := zx h.pl h.st (by omega) a1 a2 a3 a4
  simp only at a1 a2 a3 a4 b3
  have hP1 : a < P.length := by rw [h.same.1]; exact a1
  refine ⟨a, ?_, a1, a2, by rw [a3, h.fl], a4, ⟨b1, b2, by have := h.fl; omega, vZ h.col hP1 (by rw [h.same.2]; exact a2) (by rw [h.same.2, h.same.2]; exact a4), (uo P a).trans (zj h.same a), uy h.p9 a, fun v v1 v2 => ?_⟩⟩
  · rw [← h.row _ (by omega) (Int.le_refl _), ← a5, hfl]
  · rw [b4 v v1 (by rw [hfl]; omega)]
    exact h.row v v1 (by omega)
end Go.Am.Pu
namespace Go.Am.Pu
end Go.Am.Pu
end
section
/- Insertion keeps tableaux; where the new cells lie; a tableau from its word. Plain words. -/
namespace Go.Am.Pu
def lr (r : List Int) : Prop := ∀ i, i + 1 < r.length → r.getD i 0 ≤ r.getD (i + 1) 0
theorem lr.le {r : List Int} (h : lr r) : ∀ (d i : Nat), i + d < r.length → r.getD i 0 ≤ r.getD (i + d) 0
  | 0, i, _ => Int.le_refl _
  | d + 1, i, hi => by
    have a := lr.le h d i (by omega)
    have b := h (i + d) (by omega)
    rw [show i + (d + 1) = i + d + 1 by omega]
    omega
theorem lr.mono {r : List Int} (h : lr r) {i j : Nat} (hij : i ≤ j) (hj : j < r.length) : r.getD i 0 ≤ r.getD j 0 := by
  have := h.le (j - i) i (by omega)
  rw [show i + (j - i) = j by omega] at this
  exact this
def fst (r : List Int) (x : Int) : Nat := r.findIdx fun n => decide (x < n)
theorem pq {r : List Int} {x : Int} : fst r x ≤ r.length := List.findIdx_le_length
theorem n8 {r : List Int} {x : Int} (h : fst r x < r.length) : x < r.getD (fst r x) 0 := by
  have := nN (p := fun n => decide (x < n)) h
  exact of_decide_eq_true this
theorem kI {r : List Int} {x : Int} {i : Nat} (h : i < fst r x) : r.getD i 0 ≤ x := by
  have h1 : i < r.length := Nat.lt_of_lt_of_le h pq
  have h2 := List.not_of_lt_findIdx h
  rw [bc h1]
  exact Int.not_lt.1 (of_decide_eq_false h2)
theorem fst_eq {r : List Int} {x : Int} {i : Nat} (h1 : i < r.length) (h2 : x < r.getD i 0) (h3 : ∀ j, j < i → r.getD j 0 ≤ x) : fst r x = i := by
  rcases Nat.lt_trichotomy (fst r x) i with h | h | h
  · have a := n8 (Nat.lt_trans h h1)
    have b := h3 _ h
    omega
  · exact h
  · have := kI h
    omega
theorem rR {r : List Int} {x : Int} (h : ∀ j, j < r.length → r.getD j 0 ≤ x) : fst r x = r.length := by
  refine Nat.le_antisymm pq (Nat.le_of_not_lt fun hlt => ?_)
  have a := n8 hlt
  have b := h _ hlt
  omega
theorem cM (r : List Int) (rs : List (List Int)) (x : Int) : bm (r :: rs) x = if fst r x < r.length then (r.set (fst r x) x :: (bm rs (r.getD (fst r x) 0)).1, (bm rs (r.getD (fst r x) 0)).2 + 1) else ((r ++ [x]) :: rs, 0) := rfl
def Af (r : List Int) : List (List Int) → Prop
  | [] => True
  | s :: _ => s.length ≤ r.length ∧ ∀ q, q < s.length → r.getD q 0 < s.getD q 0
def SSR : List (List Int) → Prop
  | [] => True
  | r :: rs => 0 < r.length ∧ lr r ∧ Af r rs ∧ SSR rs
theorem fK {r : List Int} {i : Nat} (x : Int) (h : i < r.length) (q : Nat) : (r.set i x).getD q 0 = if q = i then x else r.getD q 0 := by
  by_cases e : q = i
  · subst e; rw [if_pos rfl, bc (by rw [List.length_set]; exact h), List.getElem_set_self]
  · rw [if_neg e, getD_set_ne (Ne.symm e)]
theorem fT {r : List Int} (x : Int) (q : Nat) : (r ++ [x]).getD q 0 = if q = r.length then x else r.getD q 0 := by
  by_cases h : q < r.length
  · rw [k9 h, if_neg (by omega)]
  · rw [pO (by omega)]
    by_cases e : q = r.length
    · rw [if_pos e, e, Nat.sub_self]; rfl
    · rw [if_neg e, cr (by simp; omega), cr (by omega)]
theorem zD {r : List Int} {x : Int} (h : lr r) (hf : fst r x < r.length) : lr (r.set (fst r x) x) := by
  intro i hi
  rw [List.length_set] at hi
  rw [fK x hf, fK x hf]
  have h0 := h i hi
  by_cases e1 : i = fst r x
  · rw [if_pos e1, if_neg (by omega)]
    have := n8 hf
    rw [← e1] at this
    omega
  · rw [if_neg e1]
    by_cases e2 : i + 1 = fst r x
    · rw [if_pos e2]; exact kI (by omega)
    · rw [if_neg e2]; exact h0
theorem zO {r : List Int} {x : Int} (h : lr r) (hf : ¬ fst r x < r.length) : lr (r ++ [x]) := by
  intro i hi
  rw [List.length_append, List.length_singleton] at hi
  rw [fT, fT, if_neg (by omega)]
  by_cases e : i + 1 = r.length
  · rw [if_pos e]
    have := @pq r x
    exact kI (by omega)
  · rw [if_neg e]; exact h i (by omega)
theorem yV {r : List Int} {x : Int} {rs : List (List Int)} (h : lr r) (hf : fst r x < r.length) (ho : Af r rs) : Af (r.set (fst r x) x) (bm rs (r.getD (fst r x) 0)).1 := by
  have hy := n8 hf
  have hle : ∀ q, q < r.length → (r.set (fst r x) x).getD q 0 ≤ r.getD q 0 := fun q hq => by
    rw [fK x hf]
    split
    · next e => rw [e]; omega
    · exact Int.le_refl _
  have hlow : ∀ p, p ≤ fst r x → (r.set (fst r x) x).getD p 0 < r.getD (fst r x) 0 := fun p hp => by
    rw [fK x hf]
    split
    · exact hy
    · have := kI (r := r) (x := x) (i := p) (by omega)
      omega
  cases rs with
  | nil =>
    show ([r.getD (fst r x) 0] : List Int).length ≤ _ ∧ _
    refine ⟨by rw [List.length_set]; simp; omega, fun q hq => ?_⟩
    have e : q = 0 := by simp at hq; exact hq
    subst e
    exact hlow 0 (by omega)
  | cons s rs =>
    obtain ⟨o1, o2⟩ := ho
    have hp : fst s (r.getD (fst r x) 0) ≤ fst r x := by
      refine Nat.le_of_not_lt fun hlt => ?_
      have hs : fst r x < s.length := Nat.lt_of_lt_of_le hlt pq
      have a := kI hlt
      have b := o2 _ hs
      omega
    rw [cM]
    by_cases c : fst s (r.getD (fst r x) 0) < s.length
    · rw [if_pos c]
      refine ⟨by rw [List.length_set, List.length_set]; exact o1, fun q hq => ?_⟩
      rw [List.length_set] at hq
      rw [fK (r := s) _ c]
      split
      · next e => rw [e]; exact hlow _ hp
      · have a := hle q (by omega)
        have b := o2 q hq
        omega
    · rw [if_neg c]
      have hsl : fst s (r.getD (fst r x) 0) = s.length := Nat.le_antisymm pq (Nat.le_of_not_lt c)
      refine ⟨by rw [List.length_set, List.length_append, List.length_singleton]; omega, fun q hq => ?_⟩
      rw [List.length_append, List.length_singleton] at hq
      rw [fT]
      split
      · next e => rw [e]; exact hlow _ (by omega)
      · have a := hle q (by omega)
        have b := o2 q (by omega)
        omega
theorem qH : ∀ (rs : List (List Int)) (x : Int), SSR rs → SSR (bm rs x).1
  | [], x, _ => ⟨by simp, fun i hi => by simp at hi, trivial, trivial⟩
  | r :: rs, x, h => by
    obtain ⟨h1, h2, h3, h4⟩ := h
    rw [cM]
    split
    · next c => exact ⟨by rw [List.length_set]; exact h1, zD h2 c, yV h2 c h3, qH rs _ h4⟩
    · next c =>
      refine ⟨by simp, zO h2 c, ?_, h4⟩
      cases rs with
      | nil => trivial
      | cons s rs =>
        obtain ⟨o1, o2⟩ := h3
        refine ⟨by rw [List.length_append]; omega, fun q hq => ?_⟩
        rw [fT, if_neg (by omega)]
        exact o2 q hq
theorem xx : ∀ (rs : List (List Int)) (x y : Int), SSR rs → x ≤ y → (bm (bm rs x).1 y).2 ≤ (bm rs x).2
  | [], x, y, _, hxy => by
    show (bm ([x] :: []) y).2 ≤ 0
    rw [cM, if_neg]
    · exact Nat.le_refl _
    · intro hlt
      have := n8 hlt
      have e : fst [x] y = 0 := by simp at hlt; exact hlt
      rw [e] at this
      have : y < x := this
      omega
  | r :: rs, x, y, h, hxy => by
    obtain ⟨h1, h2, h3, h4⟩ := h
    rw [cM]
    by_cases c : fst r x < r.length
    · rw [if_pos c]
      simp only
      rw [cM]
      by_cases c2 : fst (r.set (fst r x) x) y < (r.set (fst r x) x).length
      · rw [if_pos c2]
        simp only
        have hgt : fst r x < fst (r.set (fst r x) x) y := by
          refine Nat.lt_of_not_le fun hle => ?_
          have a := n8 c2
          rw [fK x c] at a
          split at a
          · omega
          · next e =>
            have := kI (r := r) (x := x) (i := fst (r.set (fst r x) x) y) (by omega)
            omega
        have hl := c2
        rw [List.length_set] at hl
        have hv : (r.set (fst r x) x).getD (fst (r.set (fst r x) x) y) 0 = r.getD (fst (r.set (fst r x) x) y) 0 := by rw [fK x c, if_neg (by omega)]
        rw [hv]
        have := xx rs (r.getD (fst r x) 0) (r.getD (fst (r.set (fst r x) x) y) 0) h4 (h2.mono (by omega) hl)
        omega
      · rw [if_neg c2]; exact Nat.zero_le _
    · rw [if_neg c]
      simp only
      rw [cM, if_neg]
      · exact Nat.le_refl _
      · rw [rR (fun j hj => ?_)]
        · exact Nat.lt_irrefl _
        · rw [fT]
          split
          · exact hxy
          · rw [List.length_append, List.length_singleton] at hj
            have := @pq r x
            have := kI (r := r) (x := x) (i := j) (by omega)
            omega
theorem xh : ∀ (rs : List (List Int)) (x y : Int), SSR rs → y < x → (bm rs x).2 < (bm (bm rs x).1 y).2
  | [], x, y, _, hxy => by
    show 0 < (bm ([x] :: []) y).2
    rw [cM, if_pos]
    · exact Nat.succ_pos _
    · rw [fst_eq (i := 0) (by simp) hxy (fun j hj => by omega)]; simp
  | r :: rs, x, y, h, hxy => by
    obtain ⟨h1, h2, h3, h4⟩ := h
    rw [cM]
    by_cases c : fst r x < r.length
    · rw [if_pos c]
      simp only
      rw [cM]
      have hle : fst (r.set (fst r x) x) y ≤ fst r x := by
        refine Nat.le_of_not_lt fun hlt => ?_
        have := kI hlt
        rw [fK x c, if_pos rfl] at this
        omega
      have c2 : fst (r.set (fst r x) x) y < (r.set (fst r x) x).length := by rw [List.length_set]; omega
      rw [if_pos c2]
      simp only
      have hv : (r.set (fst r x) x).getD (fst (r.set (fst r x) x) y) 0 < r.getD (fst r x) 0 := by
        have hb := n8 c
        rw [fK x c]
        split
        · exact hb
        · have := kI (r := r) (x := x) (i := fst (r.set (fst r x) x) y) (by omega)
          omega
      have := xh rs (r.getD (fst r x) 0) _ h4 hv
      omega
    · rw [if_neg c]
      simp only
      rw [cM, if_pos]
      · exact Nat.succ_pos _
      · have hle : fst (r ++ [x]) y ≤ r.length := by
          refine Nat.le_of_not_lt fun hlt => ?_
          have := kI hlt
          rw [fT, if_pos rfl] at this
          omega
        rw [List.length_append, List.length_singleton]; omega
end Go.Am.Pu
end
section
/- Plain tableaux, row by row; a tableau from its word; words inserted. Plain words. -/
namespace Go.Am.Pu
theorem tW : ∀ {rs : List (List Int)}, SSR rs → ∀ r, r < rs.length → 0 < (rs.getD r []).length ∧ lr (rs.getD r [])
  | r :: rs, h, 0, _ => ⟨h.1, h.2.1⟩
  | r :: rs, h, q + 1, hq => tW h.2.2.2 q (by simpa using hq)
theorem tS : ∀ {rs : List (List Int)}, SSR rs → o6 rs
  | [], _, i, hi => by simp at hi
  | [r], _, i, hi => by simp at hi
  | r :: s :: rs, h, 0, _ => h.2.2.1
  | r :: s :: rs, h, i + 1, hi => tS h.2.2.2 i (by simpa using hi)
theorem pj : ∀ {rs : List (List Int)}, (∀ r, r < rs.length → 0 < (rs.getD r []).length ∧ lr (rs.getD r [])) → o6 rs → SSR rs
  | [], _, _ => trivial
  | r :: rs, h1, h2 => by
    refine ⟨(h1 0 (by simp)).1, (h1 0 (by simp)).2, ?_, pj (fun q hq => h1 (q + 1) (by simpa using hq)) (fun i hi => h2 (i + 1) (by simpa using hi))⟩
    cases rs with
    | nil => trivial
    | cons s rs => exact h2 0 (by simp)
theorem tT {t : Tab} (h : bZ t = true) : SSR t.2 := by
  refine pj (fun r hr => ⟨xC h hr, fun i hi => ?_⟩) (lQ h)
  exact (ko h).2 r i hr hi
theorem mZ (rs : List (List Int)) {i : Nat} (h : i < rs.length) : (outer (([], rs) : Tab)).getD i 0 = (rs.getD i []).length := by
  have := fX [] rs 0 i h
  unfold outer
  rw [this]
  simp
theorem lZ {rs : List (List Int)} (h : SSR rs) (hn : ∀ x ∈ rs.flatten, 1 ≤ x ∧ x ≤ 9) (h9 : rs.flatten.length ≤ 9) : bZ (([], rs) : Tab) = true := by
  have hr := fun r hr => tW h r hr
  have hc := tS h
  have hrl : ∀ r, r < rs.length → (rs.getD r []).length ≤ 9 := fun r h1 => by
    have := od (rs := rs) (r := rs.getD r []) (by rw [bc h1]; exact List.getElem_mem h1)
    omega
  refine pU rfl ?_ (fun r x h1 h2 => hn _ (lP h1 h2)) (fun r x h1 h2 => (hr r h1).2 x h2) (fun r x h1 h2 => (hc r h1).2 x h2)
  have hs : gM (outer (([], rs) : Tab)) = rs.flatten.length := na [] rs 0 fun q _ => by simp
  refine lD _ 9 0 (fun x hx => ?_) (fun h0 => ?_) (fun i hi => ?_) (by omega)
  · obtain ⟨i, hi, rfl⟩ := List.getElem_of_mem hx
    have hi' : i < rs.length := by rw [dH] at hi; exact hi
    rw [← bc hi 0, mZ rs hi']
    have := (hr i hi').1
    omega
  · have h0' : 0 < rs.length := by rw [dH] at h0; exact h0
    rw [mZ rs h0']
    have := hrl 0 h0'
    omega
  · have hi' : i + 1 < rs.length := by rw [dH] at hi; exact hi
    rw [mZ rs hi', mZ rs (by omega)]
    have := (hc i hi').1
    omega
theorem ue : ∀ (rs : List (List Int)) (x z : Int), z ∈ (bm rs x).1.flatten → z = x ∨ z ∈ rs.flatten
  | [], x, z, h => by simp [bm] at h; exact .inl h
  | r :: rs, x, z, h => by
    rw [cM] at h
    split at h
    · next c =>
      simp only [List.flatten_cons, List.mem_append] at h ⊢
      rcases h with h | h
      · rcases List.mem_or_eq_of_mem_set h with h | h
        · exact .inr (.inl h)
        · exact .inl h
      · rcases ue rs _ z h with h | h
        · right; left
          rw [h, bc c]
          exact List.getElem_mem c
        · exact .inr (.inr h)
    · simp only [List.flatten_cons, List.mem_append, List.mem_singleton] at h ⊢
      rcases h with (h | h) | h
      · exact .inr (.inl h)
      · exact .inl h
      · exact .inr (.inr h)
theorem sf : ∀ (rs : List (List Int)) (x : Int), (bm rs x).1.flatten.length = rs.flatten.length + 1
  | [], x => by simp [bm]
  | r :: rs, x => by
    rw [cM]
    split
    · have := sf rs (r.getD (fst r x) 0)
      simp only [List.flatten_cons, List.length_append, List.length_set]
      omega
    · simp only [List.flatten_cons, List.length_append, List.length_singleton]
      omega
theorem qP : ∀ (rs : List (List Int)) (x : Int), (bm rs x).2 ≤ rs.length ∧ ((bm rs x).1.length = if (bm rs x).2 = rs.length then rs.length + 1 else rs.length) ∧ ∀ i, ((bm rs x).1.getD i []).length = if i = (bm rs x).2 then (rs.getD i []).length + 1 else (rs.getD i []).length
  | [], x => by
    refine ⟨Nat.le_refl _, rfl, fun i => ?_⟩
    cases i with
    | zero => rfl
    | succ i => simp [bm]
  | r :: rs, x => by
    rw [cM]
    split
    · next c =>
      obtain ⟨a, b, d⟩ := qP rs (r.getD (fst r x) 0)
      refine ⟨by simp only [List.length_cons]; omega, ?_, fun i => ?_⟩
      · simp only [List.length_cons, b, Nat.add_right_cancel_iff]
        split <;> rfl
      · cases i with
        | zero => simp
        | succ i =>
          have := d i
          simp only [Nat.add_right_cancel_iff]
          exact this
    · refine ⟨Nat.zero_le _, by simp, fun i => ?_⟩
      cases i with
      | zero => simp
      | succ i => simp
def lC : List Int → List (List Int) → List (List Int)
  | [], P => P
  | x :: w, P => lC w (bm P x).1
theorem vW : ∀ (v w : List Int) (P : List (List Int)), lC (v ++ w) P = lC w (lC v P)
  | [], _, _ => rfl
  | x :: v, w, P => vW v w _
def sh (i : Nat) : List Int → List (List Int) → List (List Int)
  | r, [] => if i = 0 then [] else [r.take i]
  | r, s :: rs => (r.take i ++ s.drop i) :: sh i s rs
theorem u4 : ∀ (r : List Int) (rs : List (List Int)), sh 0 r rs = rs
  | r, [] => rfl
  | r, s :: rs => by simp [sh, u4 s rs]
theorem oF {i : Nat} (hi : 0 < i) : ∀ (r : List Int) (rs : List (List Int)), SSR (r :: rs) → r.length ≤ i → sh i r rs = r :: rs
  | r, [], _, h => by unfold sh; rw [if_neg (by omega), List.take_of_length_le h]
  | r, s :: rs, h, hl => by
    have := h.2.2.1.1
    unfold sh
    rw [oF hi s rs h.2.2.2 (by omega), List.take_of_length_le hl, List.drop_of_length_le (by omega), List.append_nil]
theorem uS : ∀ (r : List Int) (rs : List (List Int)) (i : Nat), SSR (r :: rs) → i < r.length → (bm (sh i r rs) (r.getD i 0)).1 = sh (i + 1) r rs
  | r, [], i, h, hi => by
    show (bm (if i = 0 then [] else [r.take i]) (r.getD i 0)).1 = if i + 1 = 0 then [] else [r.take (i + 1)]
    rw [if_neg (show ¬ i + 1 = 0 by omega), take_succ hi 0]
    by_cases e : i = 0
    · subst e; rw [if_pos rfl]; rfl
    · rw [if_neg e, cM, if_neg]
      rw [rR (fun j hj => ?_)]
      · exact Nat.lt_irrefl _
      · rw [List.length_take] at hj
        rw [eB (by omega)]
        exact h.2.1.mono (by omega) hi
  | r, s :: rs, i, h, hi => by
    obtain ⟨h1, h2, ⟨o1, o2⟩, h4⟩ := h
    have hlow : ∀ j, j < i → (r.take i ++ s.drop i).getD j 0 ≤ r.getD i 0 := fun j hj => by
      rw [k9 (by rw [List.length_take]; omega), eB hj]
      exact h2.mono (by omega) hi
    have hget : ∀ j, i ≤ j → (r.take i ++ s.drop i).getD j 0 = s.getD j 0 := fun j hj => by
      rw [pO (by rw [List.length_take]; omega), List.length_take, pL, show i + (j - min i r.length) = j by omega]
    have hlen : (r.take i ++ s.drop i).length = i + (s.length - i) := by
      rw [List.length_append, List.length_take, List.length_drop]; omega
    unfold sh
    rw [cM]
    by_cases c : i < s.length
    · have hf : fst (r.take i ++ s.drop i) (r.getD i 0) = i := fst_eq (by omega) (by rw [hget i (Nat.le_refl _)]; exact o2 i c) hlow
      rw [hf, if_pos (by omega), hget i (Nat.le_refl _)]
      simp only
      rw [uS s rs i h4 c]
      congr 1
      refine yB (by rw [List.length_set, hlen, List.length_append, List.length_take, List.length_drop]; omega) fun q hq => ?_
      rw [fK (r := r.take i ++ s.drop i) _ (by omega)]
      by_cases e : q = i
      · subst e
        rw [if_pos rfl, k9 (by rw [List.length_take]; omega), eB (by omega)]
      · rw [if_neg e]
        by_cases e2 : q < i
        · rw [k9 (by rw [List.length_take]; omega), eB e2, k9 (by rw [List.length_take]; omega), eB (by omega)]
        · rw [hget q (by omega), pO (by rw [List.length_take]; omega), List.length_take, pL, show i + 1 + (q - min (i + 1) r.length) = q by omega]
    · have hd : s.drop i = [] := List.drop_of_length_le (by omega)
      have hd1 : s.drop (i + 1) = [] := List.drop_of_length_le (by omega)
      have hn : fst (r.take i ++ s.drop i) (r.getD i 0) = (r.take i ++ s.drop i).length := rR fun j hj => hlow j (by omega)
      rw [if_neg (by omega)]
      simp only
      have hs1 := h4.1
      rw [hd, hd1, List.append_nil, List.append_nil, take_succ hi 0, oF (by omega) s rs h4 (by omega), oF (by omega) s rs h4 (by omega)]
theorem vG {r : List Int} {rs : List (List Int)} (h : SSR (r :: rs)) : ∀ (m i : Nat), i + m = r.length → lC (r.drop i) (sh i r rs) = r :: rs
  | 0, i, hm => by
    rw [List.drop_of_length_le (by omega)]
    exact oF (by have := h.1; omega) r rs h (by omega)
  | m + 1, i, hm => by
    have hi : i < r.length := by omega
    rw [drop_cons hi 0]
    show lC (r.drop (i + 1)) (bm (sh i r rs) (r.getD i 0)).1 = _
    rw [uS r rs i h hi]
    exact vG h m (i + 1) (by omega)
theorem sY : ∀ (rs : List (List Int)), SSR rs → lC rs.reverse.flatten [] = rs
  | [], _ => rfl
  | r :: rs, h => by
    have ih := sY rs h.2.2.2
    rw [List.reverse_cons, List.flatten_append, vW, ih]
    have := vG h r.length 0 (by omega)
    rw [List.drop_zero, u4] at this
    simpa using this
end Go.Am.Pu
end
section
/- The recording tableau is standard, and its descents are the word's. Plain words. -/
namespace Go.Am.Pu
def fY (Q : List (List Int)) (a : Nat) (v : Int) : List (List Int) := if a = Q.length then Q ++ [[v]] else Q.set a (Q.getD a [] ++ [v])
theorem yo {Q : List (List Int)} {a : Nat} (v : Int) (ha : a ≤ Q.length) (i : Nat) : (fY Q a v).getD i [] = if i = a then Q.getD a [] ++ [v] else Q.getD i [] := by
  unfold fY
  by_cases e : a = Q.length
  · rw [if_pos e]
    by_cases h : i < Q.length
    · rw [if_neg (by omega)]
      simp only [List.getD_eq_getElem?_getD, List.getElem?_append_left h]
    · by_cases e2 : i = a
      · rw [if_pos e2, e2, e, cr (xs := Q) (Nat.le_refl _)]
        simp
      · rw [if_neg e2, cr (xs := Q) (by omega), cr (by rw [List.length_append, List.length_singleton]; omega)]
  · rw [if_neg e]
    by_cases e2 : i = a
    · subst e2; rw [if_pos rfl, bc (by rw [List.length_set]; omega), List.getElem_set_self]
    · rw [if_neg e2, getD_set_ne (Ne.symm e2)]
theorem xZ {Q : List (List Int)} {a : Nat} (v : Int) : (fY Q a v).length = if a = Q.length then Q.length + 1 else Q.length := by
  unfold fY
  split
  · rw [List.length_append, List.length_singleton]
  · rw [List.length_set]
theorem wg {Q : List (List Int)} {a : Nat} (v : Int) (ha : a ≤ Q.length) : (fY Q a v).flatten.length = Q.flatten.length + 1 := by
  unfold fY
  split
  · simp
  · next e =>
    have : ∀ (Q : List (List Int)) (a : Nat), a < Q.length → (Q.set a (Q.getD a [] ++ [v])).flatten.length = Q.flatten.length + 1 := by
      intro Q
      induction Q with
      | nil => intro a h; simp at h
      | cons r rs ih =>
        intro a h
        cases a with
        | zero => simp; omega
        | succ a =>
          have := ih a (by simpa using h)
          simp only [List.set_cons_succ, List.getD_cons_succ, List.flatten_cons, List.length_append, this]
          omega
    exact this Q a (by omega)
theorem zE {Q P : List (List Int)} {a k : Nat} (hp : bZ (([], Q) : Tab) = true) (hs : fg (([], Q) : Tab) = true) (hk : Q.flatten.length = k) (h9 : k + 1 ≤ 9) (hP : SSR P) (ha : a ≤ Q.length) (hPl : P.length = if a = Q.length then Q.length + 1 else Q.length)
    (hl : ∀ i, (P.getD i []).length = if i = a then (Q.getD i []).length + 1 else (Q.getD i []).length) :
    bZ (([], fY Q a ((k + 1 : Nat) : Int)) : Tab) = true ∧ fg (([], fY Q a ((k + 1 : Nat) : Int)) : Tab) = true ∧ (fY Q a ((k + 1 : Nat) : Int)).flatten.length = k + 1 ∧ fU P (fY Q a ((k + 1 : Nat) : Int)) ∧
      rowOf ([], fY Q a ((k + 1 : Nat) : Int)) ((k + 1 : Nat) : Int) = a ∧ ∀ v, 1 ≤ v → v ≤ (k : Int) → rowOf ([], fY Q a ((k + 1 : Nat) : Int)) v = rowOf ([], Q) v := by
  have hget := yo ((k + 1 : Nat) : Int) ha
  have hlen := @xZ Q a ((k + 1 : Nat) : Int)
  have hfl := wg ((k + 1 : Nat) : Int) ha
  generalize hN : fY Q a ((k + 1 : Nat) : Int) = N at *
  have hNl : ∀ i, (N.getD i []).length = if i = a then (Q.getD i []).length + 1 else (Q.getD i []).length := fun i => by
    rw [hget]
    split
    · next e => rw [e, List.length_append, List.length_singleton]
    · rfl
  have hsame : fU P N := ⟨by rw [hPl, hlen], fun i => by rw [hl, hNl]⟩
  have hcel : ∀ r x, cel N r x = if r = a ∧ x = (Q.getD a []).length then ((k + 1 : Nat) : Int) else cel Q r x := fun r x => by
    unfold cel
    rw [hget]
    by_cases e : r = a
    · subst e
      rw [if_pos rfl, fT]
      by_cases e2 : x = (Q.getD r []).length
      · rw [if_pos e2, if_pos ⟨rfl, e2⟩]
      · rw [if_neg e2, if_neg (fun h => e2 h.2)]
    · rw [if_neg e, if_neg (fun h => e h.1)]
  have hb := (nR hp hs).2
  simp only at hb
  rw [hk] at hb
  have hQ : ∀ {r x : Nat}, x < (Q.getD r []).length → 1 ≤ cel Q r x ∧ cel Q r x ≤ (k : Int) := fun {r x} hx => by
    have hr : r < Q.length := Nat.lt_of_not_le fun hle => by rw [cr hle] at hx; simp at hx
    exact hb _ (lP hr hx)
  obtain ⟨q1, q2⟩ := ko hp
  have q3 := lQ hp
  simp only at q2 q3
  have pc := tS hP
  have pr := fun r hr => tW hP r hr
  have hqlen : ∀ i, (Q.getD (i + 1) []).length ≤ (Q.getD i []).length := fun i => by
    by_cases h : i + 1 < Q.length
    · exact (q3 i h).1
    · rw [cr (by omega)]; exact Nat.zero_le _
  have hssr : SSR N := by
    refine pj (fun r hr => ⟨?_, fun x hx => ?_⟩) (fun i hi => ?_)
    · rw [← hsame.2]; exact (pr r (by rw [hsame.1]; exact hr)).1
    · have e1 := hcel r x
      have e2 := hcel r (x + 1)
      unfold cel at e1 e2
      rw [e1, e2]
      rw [hNl] at hx
      have hxQ : x < (Q.getD r []).length := by
        split at hx <;> omega
      rw [if_neg (fun h => by rw [h.1] at hxQ; omega)]
      have hv := hQ hxQ
      unfold cel at hv
      by_cases e : r = a ∧ x + 1 = (Q.getD a []).length
      · rw [if_pos e]; omega
      · rw [if_neg e]
        have hx1 : x + 1 < (Q.getD r []).length := by
          split at hx
          · next e3 =>
            have : ¬ x + 1 = (Q.getD a []).length := fun h => e ⟨e3, h⟩
            rw [← e3] at this
            omega
          · exact hx
        have hr : r < Q.length := Nat.lt_of_not_le fun hle => by rw [cr hle] at hx1; simp at hx1
        exact q2 r x hr hx1
    · obtain ⟨c1, c2⟩ := pc i (by rw [hsame.1]; exact hi)
      rw [hsame.2, hsame.2] at c1
      refine ⟨c1, fun x hx => ?_⟩
      have e1 := hcel i x
      have e2 := hcel (i + 1) x
      unfold cel at e1 e2
      rw [e1, e2]
      rw [hNl] at hx
      have hxi : x < (N.getD i []).length := by
        have := hNl (i + 1)
        omega
      rw [hNl] at hxi
      by_cases e : i + 1 = a ∧ x = (Q.getD a []).length
      · rw [if_pos e, if_neg (fun h => by omega)]
        have hxQ : x < (Q.getD i []).length := by rw [if_neg (by omega)] at hxi; exact hxi
        have hv := hQ hxQ
        unfold cel at hv
        omega
      · rw [if_neg e]
        have hx1 : x < (Q.getD (i + 1) []).length := by
          split at hx
          · next e3 =>
            have : ¬ x = (Q.getD a []).length := fun h => e ⟨e3, h⟩
            rw [← e3] at this
            omega
          · exact hx
        have hxQ : x < (Q.getD i []).length := Nat.lt_of_lt_of_le hx1 (hqlen i)
        rw [if_neg (fun h => by rw [h.1] at hxQ; omega)]
        have hr : i + 1 < Q.length := Nat.lt_of_not_le fun hle => by rw [cr hle] at hx1; simp at hx1
        exact (q3 i hr).2 x hx1
  have hflk : N.flatten.length = k + 1 := by omega
  have hmem : ∀ z ∈ N.flatten, 1 ≤ z ∧ z ≤ 9 := fun z hz => by
    obtain ⟨r, x, hr, hx, e⟩ := oc hz
    rw [← e, hcel]
    split
    · omega
    · next hc =>
      rw [hNl] at hx
      have hxQ : x < (Q.getD r []).length := by
        split at hx
        · next e3 =>
          have : ¬ x = (Q.getD a []).length := fun h => hc ⟨e3, h⟩
          rw [← e3] at this
          omega
        · exact hx
      have := hQ hxQ
      omega
  have hpl := lZ hssr hmem (by omega)
  have haN : a < N.length := by
    rw [hlen]
    split <;> omega
  have hxN : (Q.getD a []).length < (N.getD a []).length := by rw [hNl, if_pos rfl]; omega
  have hnew : cel N a (Q.getD a []).length = ((k + 1 : Nat) : Int) := by rw [hcel, if_pos ⟨rfl, rfl⟩]
  have hold : ∀ {r x : Nat}, x < (Q.getD r []).length → r < N.length ∧ x < (N.getD r []).length ∧ cel N r x = cel Q r x := fun {r x} hx => by
    have hx' : x < (N.getD r []).length := by
      rw [hNl]
      split <;> omega
    refine ⟨Nat.lt_of_not_le fun hle => by rw [cr hle] at hx'; simp at hx', hx', ?_⟩
    rw [hcel, if_neg (fun h => by rw [h.1] at hx; omega)]
  have ho : jF Q.flatten = true := by
    have := hs
    simp only [fg, Bool.and_eq_true] at this
    exact this.2
  have hst : fg (([], N) : Tab) = true := by
    have hp' := hpl
    simp only [bZ, Bool.and_eq_true] at hp'
    simp only [fg, Bool.and_eq_true]
    refine ⟨hp'.1, jU.2 fun v hv => ?_⟩
    rw [hflk, gN] at hv
    by_cases e : v = ((k + 1 : Nat) : Int)
    · rw [e, ← hnew]; exact lP haN hxN
    · obtain ⟨r, x, hr, hx, e2⟩ := oc (jU.1 ho v (gN.2 (by omega)))
      obtain ⟨d1, d2, d3⟩ := hold hx
      rw [← e2, ← d3]
      exact lP d1 d2
  refine ⟨hpl, hst, hflk, hsame, jH hpl hst haN hxN hnew, fun v v1 v2 => ?_⟩
  obtain ⟨r, x, hr, hx, e2⟩ := oc (jU.1 ho v (gN.2 (by omega)))
  obtain ⟨d1, d2, d3⟩ := hold hx
  rw [jH hpl hst d1 d2 (by rw [d3]; exact e2), jH hp hs hr hx e2]
def nk : List Int → List (List Int) → List (List Int) → Nat → List (List Int)
  | [], _, Q, _ => Q
  | x :: w, P, Q, k => nk w (bm P x).1 (fY Q (bm P x).2 ((k + 1 : Nat) : Int)) (k + 1)
def vP : List Int → List (List Int) → List Nat
  | [], _ => []
  | x :: w, P => (bm P x).2 :: vP w (bm P x).1
structure Ins (P Q : List (List Int)) (k : Nat) : Prop where
  ssr : SSR P
  num : ∀ x ∈ P.flatten, 1 ≤ x ∧ x ≤ 9
  fl : P.flatten.length = k
  pl : bZ (([], Q) : Tab) = true
  st : fg (([], Q) : Tab) = true
  qf : Q.flatten.length = k
  same : fU P Q
theorem Ins.step {P Q : List (List Int)} {k : Nat} {x : Int} (h : Ins P Q k) (hx : 1 ≤ x ∧ x ≤ 9) (h9 : k + 1 ≤ 9) :
    Ins (bm P x).1 (fY Q (bm P x).2 ((k + 1 : Nat) : Int)) (k + 1) ∧ rowOf ([], fY Q (bm P x).2 ((k + 1 : Nat) : Int)) ((k + 1 : Nat) : Int) = ((bm P x).2 : Nat) ∧ ∀ v, 1 ≤ v → v ≤ (k : Int) → rowOf ([], fY Q (bm P x).2 ((k + 1 : Nat) : Int)) v = rowOf ([], Q) v := by
  obtain ⟨a, b, c⟩ := qP P x
  have hs := qH P x h.ssr
  obtain ⟨d1, d2, d3, d4, d5, d6⟩ := zE (a := (bm P x).2) h.pl h.st h.qf h9 hs (by rw [← h.same.1]; exact a) (by rw [← h.same.1]; exact b) (fun i => by rw [← h.same.2]; exact c i)
  refine ⟨⟨hs, fun z hz => ?_, by rw [sf, h.fl], d1, d2, d3, d4⟩, d5, d6⟩
  rcases ue P x z hz with e | e
  · rw [e]; exact hx
  · exact h.num z e
theorem Ins.nil : Ins [] [] 0 := ⟨trivial, fun x hx => by simp at hx, rfl, rfl, rfl, rfl, ⟨rfl, fun _ => rfl⟩⟩
theorem Ins.word : ∀ (w : List Int) {P Q : List (List Int)} {k : Nat}, Ins P Q k → (∀ x ∈ w, 1 ≤ x ∧ x ≤ 9) → k + w.length ≤ 9 →
    Ins (lC w P) (nk w P Q k) (k + w.length) ∧ (∀ v, 1 ≤ v → v ≤ (k : Int) → rowOf ([], nk w P Q k) v = rowOf ([], Q) v) ∧ ∀ i, i < w.length → rowOf ([], nk w P Q k) ((k + i + 1 : Nat) : Int) = ((vP w P).getD i 0 : Nat)
  | [], P, Q, k, h, _, _ => ⟨h, fun _ _ _ => rfl, fun i hi => by simp at hi⟩
  | x :: w, P, Q, k, h, hx, hl => by
    simp only [List.length_cons] at hl
    obtain ⟨a, b, c⟩ := h.step (hx x (List.mem_cons_self ..)) (by omega)
    obtain ⟨d, e, f⟩ := Ins.word w a (fun z hz => hx z (List.mem_cons_of_mem _ hz)) (by omega)
    refine ⟨by rw [List.length_cons, show k + (w.length + 1) = k + 1 + w.length by omega]; exact d, fun v v1 v2 => ?_, fun i hi => ?_⟩
    · show rowOf ([], nk w _ _ (k + 1)) v = _
      rw [e v v1 (by omega)]
      exact c v v1 v2
    · show rowOf ([], nk w _ _ (k + 1)) _ = _
      cases i with
      | zero =>
        have := e ((k + 1 : Nat) : Int) (by omega) (Int.le_refl _)
        rw [Nat.add_zero, this, b]
        rfl
      | succ i =>
        have := f i (by simpa using hi)
        rw [show k + 1 + i + 1 = k + (i + 1) + 1 by omega] at this
        exact this
theorem rq : ∀ (w : List Int) (P : List (List Int)), SSR P → ∀ i, i + 1 < w.length → ((vP w P).getD i 0 < (vP w P).getD (i + 1) 0 ↔ w.getD (i + 1) 0 < w.getD i 0)
  | [], P, _, i, hi => by simp at hi
  | [x], P, _, i, hi => by simp at hi
  | x :: y :: w, P, h, 0, _ => by
    show (bm P x).2 < (bm (bm P x).1 y).2 ↔ y < x
    constructor
    · intro hlt
      refine Int.not_le.1 fun hle => ?_
      have := xx P x y h hle
      omega
    · exact xh P x y h
  | x :: y :: w, P, h, i + 1, hi => rq (y :: w) (bm P x).1 (qH P x h) i (by simpa using hi)
end Go.Am.Pu
end
section
/- Words, and what inserting makes of them. Plain words. -/
namespace Go.Am.Pu
def isWord (w : List Int) : Bool := decide (w.length ≤ 9) && w.all fun n => within n 1 9
theorem eW {w : List Int} (h : isWord w = true) : w.length ≤ 9 ∧ ∀ x ∈ w, 1 ≤ x ∧ x ≤ 9 := by
  simp only [isWord, Bool.and_eq_true, decide_eq_true_eq, List.all_eq_true, within] at h
  exact ⟨h.1, fun x hx => h.2 x hx⟩
def a8 (w : List Int) : Tab × Bool := if isWord w = true then (([], lC w []), true) else (([], []), false)
def b7 (w : List Int) : Tab × Bool := if isWord w = true then (([], nk w [] [] 0), true) else (([], []), false)
theorem oM {w : List Int} (h : isWord w = true) : Ins (lC w []) (nk w [] [] 0) w.length ∧ ∀ i, i < w.length → rowOf ([], nk w [] [] 0) ((i + 1 : Nat) : Int) = ((vP w []).getD i 0 : Nat) := by
  obtain ⟨h1, h2⟩ := eW h
  obtain ⟨a, _, c⟩ := Ins.word w Ins.nil h2 (by omega)
  rw [Nat.zero_add] at a
  refine ⟨a, fun i hi => ?_⟩
  have := c i hi
  rw [Nat.zero_add] at this
  exact this
theorem pw {P Q : List (List Int)} {k : Nat} (h : Ins P Q k) (h9 : k ≤ 9) : bZ (([], P) : Tab) = true := lZ h.ssr h.num (by rw [h.fl]; exact h9)
theorem fp {w : List Int} (h : isWord w = true) : bZ (a8 w).1 = true := by
  unfold a8
  rw [if_pos h]
  exact pw (oM h).1 (eW h).1
theorem j5 {w : List Int} (h : isWord w = true) : bZ (b7 w).1 = true ∧ fg (b7 w).1 = true ∧ (b7 w).1.2.flatten.length = w.length := by
  unfold b7
  rw [if_pos h]
  have a := (oM h).1
  exact ⟨a.pl, a.st, a.qf⟩
theorem xD {t : Tab} (h : bZ t = true) : mS t := by
  have hr := iL h
  exact ⟨by rw [gz h]; simp, by have := hr.1; omega, fun r hm => by have := hr.2 r hm; omega⟩
theorem iX {w : List Int} : mS (a8 w).1 := by
  cases h : isWord w with
  | true => exact xD (fp h)
  | false => unfold a8; rw [h]; exact mS.nil
theorem nz {w : List Int} : mS (b7 w).1 := by
  cases h : isWord w with
  | true => exact xD (j5 h).1
  | false => unfold b7; rw [h]; exact mS.nil
def fx (w : List Int) : List Int := if isWord w = true then outer (a8 w).1 else []
theorem jt {w : List Int} : (fx w).length ≤ 9 := by
  unfold fx
  split
  · next h => rw [dH]; exact (iL (fp h)).1
  · simp
theorem px {t : Tab} {x : Int} (h : (cG t x).2.2 = true) : fV (cG t x).1 = true := by
  unfold cG at h ⊢
  split at h
  · next hc =>
    rw [if_pos hc]
    obtain ⟨h1, h2, h3⟩ := hc
    have hs := qH t.2 x (tT h1)
    have hw : 1 ≤ x ∧ x ≤ 9 := by simp only [within, Bool.and_eq_true, decide_eq_true_eq] at h2; exact h2
    have h1' := h1
    simp only [bZ, Bool.and_eq_true] at h1'
    have he := qw h1'.1
    have hp := lZ hs (fun z hz => by
      rcases ue t.2 x z hz with e | e
      · rw [e]; exact hw
      · exact he z e) (by rw [sf]; omega)
    rw [← gz h1] at hp
    simp only [bZ, Bool.and_eq_true] at hp
    exact hp.1
  · cases h
theorem xT {w : List Int} (h : isWord w = true) : a8 (a8 w).1.2.reverse.flatten = a8 w := by
  have a := (oM h).1
  have hw : isWord (lC w []).reverse.flatten = true := by
    simp only [isWord, Bool.and_eq_true, decide_eq_true_eq, List.all_eq_true, within]
    refine ⟨?_, fun x hx => ?_⟩
    · have : (lC w []).reverse.flatten.length = (lC w []).flatten.length := by simp [List.length_flatten, List.map_reverse, List.sum_reverse]
      rw [this, a.fl]; exact (eW h).1
    · refine a.num x ?_
      simp only [List.mem_flatten, List.mem_reverse] at hx ⊢
      exact hx
  unfold a8
  simp only [h, if_true, hw]
  rw [sY _ a.ssr]
def qx (w : List Int) : Nat → Nat → List Int
  | 0, _ => []
  | m + 1, i => if w.getD i 0 < w.getD (i - 1) 0 then (i : Int) :: qx w m (i + 1) else qx w m (i + 1)
theorem sy {w : List Int} (h : isWord w = true) : ∀ (m i : Nat), i + m = w.length → 1 ≤ i → lO (b7 w).1 m i = qx w m i
  | 0, i, _, _ => rfl
  | m + 1, i, hi, h1 => by
    obtain ⟨_, hr⟩ := oM h
    have e : (b7 w).1 = ([], nk w [] [] 0) := by unfold b7; rw [if_pos h]
    have ih := sy h m (i + 1) (by omega) (by omega)
    rw [Int.natCast_succ] at ih
    unfold lO qx
    have r1 := hr (i - 1) (by omega)
    have r2 := hr i (by omega)
    rw [show i - 1 + 1 = i by omega] at r1
    rw [Int.natCast_succ] at r2
    have hd := rq w [] trivial (i - 1) (by omega)
    rw [show i - 1 + 1 = i by omega] at hd
    have hc : rowOf (b7 w).1 (i : Int) < rowOf (b7 w).1 ((i : Int) + 1) ↔ w.getD i 0 < w.getD (i - 1) 0 := by
      rw [e, r1, r2, ← hd]
      omega
    by_cases c : w.getD i 0 < w.getD (i - 1) 0
    · rw [if_pos (hc.2 c), if_pos c, ih]
    · rw [if_neg (fun h => c (hc.1 h)), if_neg c, ih]
theorem rK {w : List Int} (h : isWord w = true) : oR (b7 w).1 = qx w (w.length - 1) 1 := by
  obtain ⟨_, a2, a3⟩ := j5 h
  unfold oR
  rw [if_pos a2, a3]
  by_cases e : w.length = 0
  · rw [e]; rfl
  · exact sy h (w.length - 1) 1 (by omega) (Nat.le_refl _)
end Go.Am.Pu
end
