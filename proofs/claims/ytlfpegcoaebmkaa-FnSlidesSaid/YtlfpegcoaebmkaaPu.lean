/- Plain laws of lists, partitions, shapes and tableaux; no program in sight. -/
import Derived.Test.YtlfpegcoaebmkaaAmP
set_option linter.unusedSimpArgs false
set_option linter.unusedVariables false
set_option linter.unnecessarySimpa false
set_option linter.unusedSectionVars false
section
/- Rules for loops over data: a loop that looks at all, a loop that folds. -/
namespace Go.Am.Pu
open Go.Am
theorem w64 {n : Int} (h1 : -9223372036854775808 ≤ n) (h2 : n ≤ 9223372036854775807) : IntKind.i64.wrap n = n := Go.Am.w64 h1 h2
theorem k9 {R : Type} (L : Nat → Nat → Option R) (n : Nat) (p : Nat → Bool) (bad A8 : Option R)
    (hs : ∀ j i, i < n → L (j + 1) i = if p i = true then L j (i + 1) else bad) (he : ∀ j, L (j + 1) n = A8) :
    ∀ (m j i : Nat), i + m = n → m < j → L j i = if (List.range' i m).all p = true then A8 else bad
  | m, 0, i, _, h => by omega
  | 0, j + 1, i, h, _ => by
    have : i = n := by omega
    subst this
    rw [he]; rfl
  | m + 1, j + 1, i, h, hj => by
    rw [hs j i (by omega), k9 L n p bad A8 hs he m j (i + 1) (by omega) (by omega), List.range'_succ, List.all_cons]
    cases p i
    · rw [if_neg (by simp), Bool.false_and, if_neg (by simp)]
    · rw [if_pos rfl, Bool.true_and]
theorem dZ {p : Nat → Bool} {n : Nat} : (List.range' 0 n).all p = true ↔ ∀ i, i < n → p i = true := by
  simp [List.all_eq_true, List.mem_range'_1]
theorem aB {α : Type} {xs : List α} {i : Nat} (h : i < xs.length) (d : α) : xs.getD i d = xs[i] := by
  simp only [List.getD_eq_getElem?_getD, List.getElem?_eq_getElem h, Option.getD_some]
theorem bw {α : Type} {xs : List α} {i : Nat} (h : xs.length ≤ i) (d : α) : xs.getD i d = d := by
  simp only [List.getD_eq_getElem?_getD, List.getElem?_eq_none h, Option.getD_none]
theorem drop_cons {α : Type} {xs : List α} {i : Nat} (h : i < xs.length) (d : α) : xs.drop i = xs.getD i d :: xs.drop (i + 1) := by
  rw [aB h, List.drop_eq_getElem_cons h]
theorem take_succ {α : Type} {xs : List α} {i : Nat} (h : i < xs.length) (d : α) : xs.take (i + 1) = xs.take i ++ [xs.getD i d] := by
  rw [aB h, List.take_succ_eq_append_getElem h]
theorem AF {α : Type} {xs : List α} {i : Nat} (h : i < xs.length) (d z : α) : (xs.take i ++ List.replicate (xs.length - i) z).set i (xs.getD i d) = xs.take (i + 1) ++ List.replicate (xs.length - (i + 1)) z := by
  have e : xs.length - i = xs.length - (i + 1) + 1 := by omega
  rw [take_succ h d, e, List.replicate_succ, List.set_append_right _ _ (by simp; omega)]
  simp [Nat.min_eq_left (Nat.le_of_lt h)]
end Go.Am.Pu
end
section
/- Marking memory and looking whether the marks are held. -/
namespace Go.Am.Pu
def held : List Int → Int → Int
  | [], q => q
  | x :: xs, q => if x = q then held xs (q + 1) else -1
def mh : List (List Int) → Nat
  | [] => 0
  | x :: xs => x.length + mh xs
theorem td : ∀ (xs : List (List Int)) (n : Nat), (∀ x ∈ xs, x.length ≤ n) → mh xs ≤ xs.length * n
  | [], n, _ => by simp [mh]
  | x :: xs, n, h => by
    have h1 := h x (by simp)
    have h2 := td xs n fun y hy => h y (by simp [hy])
    simp only [mh, List.length_cons, Nat.succ_mul]
    omega
theorem Ak {xs : List (List Int)} (h : xs.length ≤ 1048576) (hr : ∀ x ∈ xs, x.length ≤ 1048576) : mh xs ≤ 1099511627776 := by
  have h1 := td xs 1048576 hr
  have h2 : xs.length * 1048576 ≤ 1048576 * 1048576 := Nat.mul_le_mul_right _ h
  omega
end Go.Am.Pu
end
section
/- Partitions, shapes and tableaux as plain words. -/
namespace Go.Am.Pu
def within (x lo hi : Int) : Bool := decide (lo ≤ x) && decide (x ≤ hi)
def atI (p : List Int) (i : Int) : Int := if i < 0 then 0 else p.getD i.toNat 0
theorem cm (p : List Int) (i : Nat) : atI p (i : Int) = p.getD i 0 := by simp [atI]; omega
theorem lG {p : List Int} {i : Int} (h : i < 0) : atI p i = 0 := by simp [atI, h]
theorem yq {p : List Int} {i : Int} (h : (p.length : Int) ≤ i) : atI p i = 0 := by
  unfold atI
  split
  · rfl
  · exact bw (by omega) 0
def gC : List Int → Int → Int → Bool
  | [], _, _ => true
  | x :: xs, prev, s => decide (1 ≤ x) && (decide (x ≤ prev) && (decide (s + x ≤ 9) && gC xs x (s + x)))
def bN (p : List Int) : Bool := gC p 9 0
def dC : List Int → Int
  | [] => 0
  | x :: xs => x + dC xs
theorem rM : ∀ (p : List Int) (prev s : Int), gC p prev s = true → (∀ x ∈ p, 1 ≤ x ∧ x ≤ prev) ∧ (p ≠ [] → s + dC p ≤ 9) ∧ (p.length : Int) ≤ dC p
  | [], prev, s, _ => ⟨fun x h => (by cases h), fun h => absurd rfl h, (by simp [dC])⟩
  | x :: xs, prev, s, h => by
    simp only [gC, Bool.and_eq_true, decide_eq_true_eq] at h
    obtain ⟨h1, h2, h3, h4⟩ := h
    obtain ⟨k1, k2, k3⟩ := rM xs x (s + x) h4
    refine ⟨fun y hy => ?_, fun _ => ?_, ?_⟩
    · rcases List.mem_cons.1 hy with rfl | hy
      · exact ⟨h1, h2⟩
      · have := k1 y hy; omega
    · simp only [dC]
      by_cases e : xs = []
      · subst e; simp [dC]; omega
      · have := k2 e; omega
    · simp only [dC, List.length_cons]; omega
theorem bn {p : List Int} (h : bN p = true) : (∀ x ∈ p, 1 ≤ x ∧ x ≤ 9) ∧ dC p ≤ 9 ∧ p.length ≤ 9 ∧ (p.length : Int) ≤ dC p := by
  obtain ⟨h1, h2, h3⟩ := rM p 9 0 h
  have : dC p ≤ 9 := by
    by_cases e : p = []
    · subst e; simp [dC]
    · have := h2 e; omega
  exact ⟨h1, this, by omega, h3⟩
theorem cY {p : List Int} (h : bN p = true) (i : Int) : 0 ≤ atI p i ∧ atI p i ≤ 9 := by
  unfold atI
  split
  · omega
  · by_cases hl : i.toNat < p.length
    · rw [aB hl]
      have := (bn h).1 _ (List.getElem_mem hl)
      omega
    · rw [bw (by omega)]; omega
def dQ (q p : List Int) : Bool := bN q && (bN p && (decide (q.length ≤ p.length) && (List.range' 0 q.length).all fun i => decide (q.getD i 0 ≤ p.getD i 0)))
theorem yp {q p : List Int} (hq : bN q = true) (h : (List.range' 0 q.length).all (fun i => decide (q.getD i 0 ≤ p.getD i 0)) = true) : q.length ≤ p.length := by
  rw [dZ] at h
  refine Nat.le_of_not_lt fun hlt => ?_
  have h1 := h p.length hlt
  rw [decide_eq_true_eq, bw (Nat.le_refl _), aB hlt] at h1
  have := (bn hq).1 _ (List.getElem_mem hlt)
  omega
theorem xJ {q p : List Int} : dQ q p = (bN q && (bN p && (List.range' 0 q.length).all fun i => decide (q.getD i 0 ≤ p.getD i 0))) := by
  unfold dQ
  cases hq : bN q with
  | false => rfl
  | true =>
    cases hp : bN p with
    | false => rfl
    | true =>
      simp only [Bool.true_and]
      cases ha : (List.range' 0 q.length).all fun i => decide (q.getD i 0 ≤ p.getD i 0) with
      | false => simp
      | true => simp [yp hq ha]
def fN (inner : List Int) : Nat → List (List Int) → List Int
  | _, [] => []
  | i, r :: rs => (inner.getD i 0 + r.length) :: fN inner (i + 1) rs
theorem kg (inner : List Int) : ∀ (rs : List (List Int)) (i : Nat), (fN inner i rs).length = rs.length
  | [], _ => rfl
  | _ :: rs, i => by simp [fN, kg inner rs]
theorem e9 (inner : List Int) : ∀ (rs : List (List Int)) (i q : Nat), q < rs.length → (fN inner i rs).getD q 0 = inner.getD (i + q) 0 + (rs.getD q []).length
  | [], i, q, h => by simp at h
  | r :: rs, i, 0, _ => by simp [fN]
  | r :: rs, i, q + 1, h => by
    have := e9 inner rs (i + 1) q (by simpa using h)
    simp only [fN, List.getD_cons_succ]
    rw [this]
    have e : i + 1 + q = i + (q + 1) := by omega
    rw [e]
abbrev Tab := List Int × List (List Int)
def outer (t : Tab) : List Int := fN t.1 0 t.2
def dB (t : Tab) : Bool := bN t.1 && (decide (t.1.length ≤ t.2.length) && dQ t.1 (outer t))
def shapeOf (t : Tab) : (List Int × List Int) × Bool := if dB t = true then ((outer t, t.1), true) else (([], []), false)
theorem xU {t : Tab} (h : dB t = true) : t.2.length ≤ 9 := by
  simp only [dB, dQ, Bool.and_eq_true] at h
  have := (bn h.2.2.2.1).2.2.1
  rw [outer, kg] at this
  exact this
def entry (t : Tab) (r c : Int) : Int := if r < 0 then 0 else if (t.2.length : Int) ≤ r then 0 else atI (t.2.getD r.toNat []) (c - atI t.1 r)
theorem jB {t : Tab} {r : Nat} (h : r < t.2.length) (c : Int) : entry t r c = atI (t.2.getD r []) (c - t.1.getD r 0) := by
  unfold entry
  rw [if_neg (by omega), if_neg (by omega), cm]
  rfl
theorem Ao {t : Tab} {r c : Int} (h : r < 0) : entry t r c = 0 := by unfold entry; rw [if_pos h]
theorem wS {t : Tab} {r q : Nat} (h : r < t.2.length) : entry t r (t.1.getD r 0 + q) = (t.2.getD r []).getD q 0 := by
  rw [jB h]
  have e : t.1.getD r 0 + (q : Int) - t.1.getD r 0 = q := by omega
  rw [e, cm]
theorem yF {t : Tab} {r q : Nat} (h : r < t.2.length) : entry t r (t.1.getD r 0 + q - 1) = if q = 0 then 0 else (t.2.getD r []).getD (q - 1) 0 := by
  rw [jB h]
  by_cases e : q = 0
  · subst e
    rw [if_pos rfl, lG (by omega)]
  · rw [if_neg e]
    have e : t.1.getD r 0 + (q : Int) - 1 - t.1.getD r 0 = ((q - 1 : Nat) : Int) := by omega
    rw [e, cm]
def fm (t : Tab) (i k : Nat) : Bool := within ((t.2.getD i []).getD k 0) 1 9 && ((decide (k = 0) || decide ((t.2.getD i []).getD (k - 1) 0 ≤ (t.2.getD i []).getD k 0)) &&
  (decide (i = 0) || decide (entry t ((i : Int) - 1) (t.1.getD i 0 + k) < (t.2.getD i []).getD k 0)))
def cz (t : Tab) : Bool := dB t && (List.range' 0 t.2.length).all fun i => (List.range' 0 (t.2.getD i []).length).all fun k => fm t i k
def cV (t : Tab) : Bool := cz t && decide (t.1.length = 0)
theorem kF {t : Tab} (h : cz t = true) : dB t = true := by
  simp only [cz, Bool.and_eq_true] at h; exact h.1
theorem oE (inner : List Int) : ∀ (rs : List (List Int)) (i : Nat), (∀ q, i ≤ q → inner.getD q 0 = 0) → dC (fN inner i rs) = rs.flatten.length
  | [], i, _ => rfl
  | r :: rs, i, h => by
    simp only [fN, dC, List.flatten_cons, List.length_append]
    rw [oE inner rs (i + 1) (fun q hq => h q (by omega)), h i (Nat.le_refl _)]
    omega
theorem yS {t : Tab} (h : cV t = true) : t.2.flatten.length ≤ 9 := by
  simp only [cV, Bool.and_eq_true, decide_eq_true_eq] at h
  have hs := kF h.1
  simp only [dB, dQ, Bool.and_eq_true] at hs
  have h9 := (bn hs.2.2.2.1).2.1
  have : t.1 = [] := List.eq_nil_of_length_eq_zero h.2
  rw [outer, oE t.1 t.2 0 (fun q _ => by rw [this]; rfl)] at h9
  omega
def cn : List (List Int) → Int → List (List Int) × Nat
  | [], x => ([[x]], 0)
  | r :: rs, x => if r.findIdx (fun n => decide (x < n)) < r.length
      then (r.set (r.findIdx fun n => decide (x < n)) x :: (cn rs (r.getD (r.findIdx fun n => decide (x < n)) 0)).1, (cn rs (r.getD (r.findIdx fun n => decide (x < n)) 0)).2 + 1)
      else ((r ++ [x]) :: rs, 0)
def lN (t : Tab) : Prop := t.1.length ≤ 1048576 ∧ t.2.length ≤ 1048576 ∧ ∀ x ∈ t.2, x.length ≤ 1048576
theorem lN.nil : lN ([], []) := ⟨by simp, by simp, fun x h => by cases h⟩
theorem tv : ∀ {rs : List (List Int)} {r : List Int}, r ∈ rs → r.length ≤ rs.flatten.length
  | q :: rs, r, h => by
    simp only [List.flatten_cons, List.length_append]
    rcases List.mem_cons.1 h with rfl | h
    · omega
    · have := tv h; omega
theorem findIdx_le {p : Int → Bool} {r : List Int} {i : Nat} (hlt : i < r.length) (h : p (r.getD i 0) = true) : r.findIdx p ≤ i :=
  Nat.le_of_not_lt fun h' => by
    have := List.not_of_lt_findIdx h'
    rw [aB hlt] at h
    rw [h] at this; cases this
theorem sN {p : Int → Bool} {r : List Int} (h : r.findIdx p < r.length) : p (r.getD (r.findIdx p) 0) = true := by
  rw [aB h]; exact List.findIdx_getElem
theorem AL {α : Type} {xs : List α} {i : Nat} (h : i < xs.length) (x : α) : xs.set i x = xs.take i ++ x :: xs.drop (i + 1) := by
  rw [List.set_eq_take_append_cons_drop, if_pos h]
theorem uK {α : Type} {xs : List α} {i : Nat} (h : i < xs.length) (x : α) : (xs.set i x).take (i + 1) = xs.take i ++ [x] := by
  have h' : i < (xs.set i x).length := by rw [List.length_set]; exact h
  rw [take_succ h' x, List.take_set_of_le (Nat.le_refl _), aB h', List.getElem_set_self]
theorem uJ {α : Type} {xs : List α} {i : Nat} (x : α) : (xs.set i x).drop (i + 1) = xs.drop (i + 1) := by
  rw [List.drop_set_of_lt (by omega)]
end Go.Am.Pu
end
section
/- Standard tableaux, weights, descents: plain words. -/
namespace Go.Am.Pu
theorem sG {α R : Type} (r : List α) (d : α) (p : α → Bool) (L : Nat → Nat → Option R) (hit : Nat → Option R) (miss : Option R)
    (hs : ∀ j i, i < r.length → L (j + 1) i = if p (r.getD i d) = true then hit i else L j (i + 1)) (he : ∀ j, L (j + 1) r.length = miss) :
    ∀ (m j i : Nat), i + m = r.length → m < j → i ≤ r.findIdx p → L j i = if r.findIdx p < r.length then hit (r.findIdx p) else miss
  | m, 0, i, _, hj, _ => by omega
  | 0, j + 1, i, hm, _, hi => by
    have e : i = r.length := by omega
    rw [if_neg (by omega), e, he]
  | m + 1, j + 1, i, hm, hj, hi => by
    have hlt : i < r.length := by omega
    rw [hs j i hlt]
    by_cases c : p (r.getD i d) = true
    · have e : r.findIdx p = i := Nat.le_antisymm (Nat.le_of_not_lt fun h' => by
        have := List.not_of_lt_findIdx h'
        rw [aB hlt] at c
        rw [c] at this; cases this) hi
      rw [if_pos c, e, if_pos hlt]
    · rw [if_neg c]
      refine sG r d p L hit miss hs he m j (i + 1) (by omega) (by omega) ?_
      refine Nat.succ_le_of_lt (Nat.lt_of_le_of_ne hi fun e => c ?_)
      have hlt' : r.findIdx p < r.length := by omega
      have := List.findIdx_getElem (p := p) (xs := r) (w := hlt')
      rw [← aB hlt' d, ← e] at this
      exact this
def xi {α : Type} (p : α → Bool) (r : List α) : Int := if r.findIdx p < r.length then (r.findIdx p : Int) else -1
theorem wU {α : Type} (p : α → Bool) (r : List α) : decide (0 ≤ xi p r) = r.any p := by
  unfold xi
  by_cases h : r.findIdx p < r.length
  · rw [if_pos h, List.any_eq_true.2 ⟨_, List.getElem_mem h, List.findIdx_getElem⟩]
    simp
  · rw [if_neg h]
    have : r.any p = false := by
      rw [List.any_eq_false]
      intro x hx hp
      exact h (List.findIdx_lt_length_of_exists ⟨x, hx, hp⟩)
    rw [this]; rfl
def has (l : List Int) (x : Int) : Bool := l.any fun y => decide (x = y)
theorem kz {l : List Int} {x : Int} : has l x = true ↔ x ∈ l := by
  simp [has, List.any_eq_true]
def mH (l : List Int) : Bool := (List.range' 0 l.length).all fun i => has l ((i : Int) + 1)
theorem se : ∀ (R l : List Int), R.Nodup → (∀ x ∈ R, x ∈ l) → R.length ≤ l.length
  | [], l, _, _ => by simp
  | x :: R, l, hn, h => by
    rw [List.nodup_cons] at hn
    have hx := h x (by simp)
    have := se R (l.erase x) hn.2 fun y hy => (List.mem_erase_of_ne fun (e : y = x) => hn.1 (e ▸ hy)).2 (h y (by simp [hy]))
    rw [List.length_erase_of_mem hx] at this
    have : 0 < l.length := List.length_pos_of_mem hx
    simp only [List.length_cons]
    omega
def lk (n : Nat) : List Int := (List.range n).map fun (i : Nat) => (i : Int) + 1
theorem iv {n : Nat} {x : Int} : x ∈ lk n ↔ 1 ≤ x ∧ x ≤ n := by
  simp only [lk, List.mem_map, List.mem_range]
  constructor
  · rintro ⟨i, h, rfl⟩; omega
  · rintro ⟨h1, h2⟩; exact ⟨(x - 1).toNat, by omega, by omega⟩
theorem sy (n : Nat) : (lk n).Nodup := by
  unfold lk
  refine List.Pairwise.map _ (fun (a b : Nat) (h : a ≠ b) => ?_) List.nodup_range
  intro e
  exact h (by omega)
theorem mj (n : Nat) : (lk n).length = n := by simp [lk]
theorem kZ {l : List Int} : mH l = true ↔ ∀ x ∈ lk l.length, x ∈ l := by
  unfold mH
  rw [dZ]
  constructor
  · intro h x hx
    rw [iv] at hx
    have := h (x - 1).toNat (by omega)
    rw [kz] at this
    have e : (((x - 1).toNat : Nat) : Int) + 1 = x := by omega
    rw [e] at this; exact this
  · intro h i hi
    rw [kz]
    exact h _ (iv.2 (by omega))
theorem yw {l : List Int} (h1 : ∀ x ∈ l, 1 ≤ x) : mH l = true ↔ l.Nodup ∧ ∀ x ∈ l, x ≤ l.length := by
  rw [kZ]
  constructor
  · intro h
    refine ⟨?_, fun x hx => ?_⟩
    ·
      refine Classical.byContradiction fun hn => ?_
      have : ∃ x, x ∈ l ∧ x ∈ l.erase x := by
        have key : ∀ l : List Int, ¬ l.Nodup → ∃ x, x ∈ l ∧ x ∈ l.erase x := by
          intro l
          induction l with
          | nil => intro h; exact absurd List.nodup_nil h
          | cons a l ih =>
            intro h
            by_cases ha : a ∈ l
            · exact ⟨a, by simp, by simpa using ha⟩
            · have : ¬ l.Nodup := fun hl => h (List.nodup_cons.2 ⟨ha, hl⟩)
              obtain ⟨x, h1, h2⟩ := ih this
              refine ⟨x, by simp [h1], ?_⟩
              have hne : a ≠ x := fun e => ha (e ▸ h1)
              rw [List.erase_cons_tail (by simpa using hne)]
              exact List.mem_cons_of_mem _ h2
        exact key l hn
      obtain ⟨x, hx, hx2⟩ := this
      have := se (lk l.length) (l.erase x) (sy _) fun y hy => by
        by_cases e : y = x
        · rw [e]; exact hx2
        · exact (List.mem_erase_of_ne e).2 (h y hy)
      rw [mj, List.length_erase_of_mem hx] at this
      have : 0 < l.length := List.length_pos_of_mem hx
      omega
    · refine Int.not_lt.1 fun hlt => ?_
      have := se (lk l.length) (l.erase x) (sy _) fun y hy => by
        have hy' := iv.1 hy
        exact (List.mem_erase_of_ne (by omega)).2 (h y hy)
      rw [mj, List.length_erase_of_mem hx] at this
      have : 0 < l.length := List.length_pos_of_mem hx
      omega
  · rintro ⟨hn, hb⟩ x hx
    refine Classical.byContradiction fun hxl => ?_
    have := se (x :: l) (lk l.length) (List.nodup_cons.2 ⟨hxl, hn⟩) fun y hy => by
      rcases List.mem_cons.1 hy with rfl | hy
      · exact hx
      · exact iv.2 ⟨h1 y hy, hb y hy⟩
    rw [mj, List.length_cons] at this
    omega
theorem wH {t : Tab} (h : cz t = true) : ∀ x ∈ t.2.flatten, 1 ≤ x ∧ x ≤ 9 := by
  intro x hx
  simp only [cz, Bool.and_eq_true] at h
  obtain ⟨r, hr, hxr⟩ := List.mem_flatten.1 hx
  obtain ⟨i, hi, e⟩ := List.mem_iff_getElem.1 hr
  obtain ⟨q, hq, e2⟩ := List.mem_iff_getElem.1 hxr
  have h1 := dZ.1 h.2 i hi
  rw [aB hi, e] at h1
  have h2 := dZ.1 h1 q hq
  simp only [fm, within, Bool.and_eq_true, decide_eq_true_eq] at h2
  rw [aB hi, e, aB hq, e2] at h2
  exact h2.1
def iY (t : Tab) : Bool := cz t && mH t.2.flatten
def rowOf (t : Tab) (n : Int) : Int := xi (fun r => has r n) t.2
theorem rk : ∀ (w : List Int), (∀ x ∈ w, 0 ≤ x) → 0 ≤ dC w
  | [], _ => by simp [dC]
  | x :: xs, h => by
    have := rk xs fun y hy => h y (by simp [hy])
    have := h x (by simp)
    simp only [dC]; omega
theorem A6 (a b : List Int) : dC (a ++ b) = dC a + dC b := by
  induction a with
  | nil => simp [dC]
  | cons x a ih => simp only [List.cons_append, dC, ih]; omega
end Go.Am.Pu
end
section
/- Plain laws of draws, and of boxes. -/
namespace Go.Am.Pu
open Go Go.Am
attribute [local instance] D.real
theorem vI (a : Int) : 0 ≤ D.andI .i64 a 255 ∧ D.andI .i64 a 255 ≤ 255 := by
  have h : (BitVec.ofInt 64 a &&& BitVec.ofInt 64 255).toNat ≤ 255 := by
    rw [BitVec.toNat_and]
    exact Nat.le_trans Nat.and_le_right (by decide)
  have e : D.andI .i64 a 255 = (((BitVec.ofInt 64 a &&& BitVec.ofInt 64 255).toNat : Nat) : Int) := by
    show IntKind.i64.wrap (((BitVec.ofInt 64 a &&& BitVec.ofInt 64 255).toNat : Nat) : Int) = _
    rw [w64 (by omega) (by omega)]
  rw [e]
  omega
theorem lM {α : Type} (a b : Int) (x y : Option α) : D.test (D.lt a b) x y = if a < b then x else y := by
  show (if decide (a < b) = true then x else y) = _
  simp only [decide_eq_true_eq]
def vQ : Nat → Nat
  | 0 => 1
  | n + 1 => 2 ^ n
def yA (n : Nat) : Nat → Nat
  | 0 => 0
  | p + 1 => vQ (n - (p + 1)) + yA n p
theorem Cc {n p : Nat} (hn : n ≤ 9) (h1 : 1 ≤ n) (hp : p ≤ n) : yA n p ≤ vQ n := by
  have key : ∀ n < 10, ∀ p < 10, 1 ≤ n → p ≤ n → yA n p ≤ vQ n := by decide
  exact key n (by omega) p (by omega) h1 hp
theorem zq {n : Nat} (hn : n ≤ 9) : vQ n ≤ 256 := by
  have key : ∀ n < 10, vQ n ≤ 256 := by decide
  exact key n (by omega)
def ni (n : Nat) (x : List Int) : Prop := x.length ≤ n ∧ ∀ y ∈ x, 1 ≤ y ∧ y ≤ 9
def dy (p : List Int) (r : Int) : List Int × Bool :=
  if bN p = true ∧ 0 ≤ r ∧ r ≤ p.length then
    (let q := if r = p.length then p ++ [0] else p
     let o := q.set r.toNat (q.getD r.toNat 0 + 1)
     if bN o = true then (o, true) else ([], false))
  else ([], false)
end Go.Am.Pu
end
section
/- Steps over equations: what a word comes to, told by what must hold of it. -/
namespace Go.Am.Pu
open Go Go.Am
attribute [local instance] D.real
section
variable {α β : Type}
def Ok (x : Option α) (Q : α → Prop) : Prop := ∃ y, x = some y ∧ Q y
theorem Ok.ret {y : α} {Q : α → Prop} (h : Q y) : Ok (some y) Q := ⟨y, rfl, h⟩
theorem Ok.mono {x : Option α} {P Q : α → Prop} (h : Ok x P) (g : ∀ y, P y → Q y) : Ok x Q :=
  let ⟨y, e, hp⟩ := h
  ⟨y, e, g y hp⟩
theorem Ok.bnd {x : Option α} {f : α → Option β} {P : α → Prop} {Q : β → Prop} (h : Ok x P) (g : ∀ y, P y → Ok (f y) Q) : Ok (D.bnd x f) Q := by
  obtain ⟨y, e, hp⟩ := h
  rw [e]
  exact g y hp
theorem Ok.nf {x : Option α} {y : α} {f : α → Option β} {Q : β → Prop} (h : x = some y) (g : Ok (f y) Q) : Ok (D.bnd x f) Q := by
  rw [h]
  exact g
theorem Ok.t {p : Prop} [Decidable p] {x y : Option α} {Q : α → Prop} (h1 : p → Ok x Q) (h2 : ¬ p → Ok y Q) : Ok (D.test (decide p) x y) Q := by
  show Ok (if decide p = true then x else y) Q
  by_cases h : p
  · rw [if_pos (decide_eq_true h)]; exact h1 h
  · rw [if_neg (by rw [decide_eq_false h]; simp)]; exact h2 h
theorem Ok.tb {b : Bool} {x y : Option α} {Q : α → Prop} (h1 : b = true → Ok x Q) (h2 : b = false → Ok y Q) : Ok (D.test b x y) Q := by
  cases b
  · exact h2 rfl
  · exact h1 rfl
theorem Ok.tn {b : Bool} {x y : Option α} {Q : α → Prop} (h1 : b = false → Ok x Q) (h2 : b = true → Ok y Q) : Ok (D.test (!b) x y) Q := by
  cases b
  · exact h1 rfl
  · exact h2 rfl
theorem Ok.g {p : Prop} [Decidable p] {x y : Option α} {Q : α → Prop} (h : p) (g : Ok x Q) : Ok (D.test (decide p) x y) Q := Ok.t (fun _ => g) (fun h' => absurd h h')
theorem Ok.no {p : Prop} [Decidable p] {x y : Option α} {Q : α → Prop} (h : ¬ p) (g : Ok y Q) : Ok (D.test (decide p) x y) Q := Ok.t (fun h' => absurd h' h) (fun _ => g)
theorem Ok.some {x : Option α} {Q : α → Prop} (h : Ok x Q) : ∃ y, x = Option.some y := let ⟨y, e, _⟩ := h; ⟨y, e⟩
end
def dk (n m : Nat) (rs : List (List Int)) : Prop := rs.length ≤ n ∧ ∀ r ∈ rs, r.length ≤ m
theorem dk.at {n m : Nat} {rs : List (List Int)} (h : dk n m rs) (i : Nat) : (rs.getD i []).length ≤ m := by
  by_cases hi : i < rs.length
  · rw [aB hi]; exact h.2 _ (List.getElem_mem hi)
  · rw [bw (by omega)]; simp
theorem dk.set {n m : Nat} {rs : List (List Int)} (h : dk n m rs) (i : Nat) {r : List Int} (hr : r.length ≤ m) : dk n m (rs.set i r) := by
  refine ⟨by rw [List.length_set]; exact h.1, fun x hx => ?_⟩
  rcases List.mem_or_eq_of_mem_set hx with h' | rfl
  · exact h.2 x h'
  · exact hr
theorem dk.mono {n m n' m' : Nat} {rs : List (List Int)} (h : dk n m rs) (hn : n ≤ n') (hm : m ≤ m') : dk n' m' rs :=
  ⟨Nat.le_trans h.1 hn, fun x hx => Nat.le_trans (h.2 x hx) hm⟩
theorem dk.app {n m : Nat} {rs : List (List Int)} (h : dk n m rs) {r : List Int} (hr : r.length ≤ m) : dk (n + 1) m (rs ++ [r]) := by
  refine ⟨by rw [List.length_append]; simp; exact h.1, fun x hx => ?_⟩
  rcases List.mem_append.1 hx with h' | h'
  · exact h.2 x h'
  · simp only [List.mem_singleton] at h'; subst h'; exact hr
theorem yf (p : List Int) (r : Int) : (dy p r).1.length ≤ p.length + 1 := by
  unfold dy
  split
  · simp only
    generalize hq : (if r = (p.length : Int) then p ++ [0] else p) = q
    have hl : q.length ≤ p.length + 1 := by
      rw [← hq]
      split
      · simp
      · omega
    split
    · rw [List.length_set]; exact hl
    · simp
  · simp
end Go.Am.Pu
end
section
/- Corners; a number taken out of rows. Plain words. -/
namespace Go.Am.Pu
def gW (p : List Int) : Nat → Nat → List Int
  | 0, _ => []
  | m + 1, i => if p.getD (i + 1) 0 < p.getD i 0 then (i : Int) :: gW p m (i + 1) else gW p m (i + 1)
def fU (p : List Int) : List Int := if bN p = true then gW p p.length 0 else []
theorem uA (p : List Int) : ∀ (m i : Nat), (gW p m i).length ≤ m
  | 0, _ => by simp [gW]
  | m + 1, i => by
    have := uA p m (i + 1)
    unfold gW
    split <;> simp <;> omega
theorem ph (p : List Int) : ∀ (m i : Nat) (x : Int), x ∈ gW p m i → ∃ n : Nat, x = n ∧ i ≤ n ∧ n < i + m ∧ p.getD (n + 1) 0 < p.getD n 0
  | 0, _, _, h => by simp [gW] at h
  | m + 1, i, x, h => by
    unfold gW at h
    split at h
    · next hc =>
      rcases List.mem_cons.1 h with rfl | h
      · exact ⟨i, rfl, Nat.le_refl _, by omega, hc⟩
      · obtain ⟨n, h1, h2, h3, h4⟩ := ph p m (i + 1) x h
        exact ⟨n, h1, by omega, by omega, h4⟩
    · obtain ⟨n, h1, h2, h3, h4⟩ := ph p m (i + 1) x h
      exact ⟨n, h1, by omega, by omega, h4⟩
theorem lL (p : List Int) : (fU p).length ≤ p.length := by
  unfold fU
  split
  · exact uA _ _ _
  · simp
theorem lE {p : List Int} {x : Int} (h : x ∈ fU p) : bN p = true ∧ ∃ n : Nat, x = n ∧ n < p.length ∧ p.getD (n + 1) 0 < p.getD n 0 := by
  unfold fU at h
  split at h
  · next hp =>
    obtain ⟨n, h1, _, h3, h4⟩ := ph _ _ _ _ h
    exact ⟨hp, n, h1, by omega, h4⟩
  · cases h
theorem qA : ∀ {p : List Int} {prev s : Int}, gC p prev s = true → ∀ i, i + 1 < p.length → p.getD (i + 1) 0 ≤ p.getD i 0
  | [], _, _, _, i, h => by simp at h
  | [x], _, _, _, i, h => by simp at h
  | x :: y :: xs, prev, s, hp, i, h => by
    simp only [gC, Bool.and_eq_true, decide_eq_true_eq] at hp
    cases i with
    | zero => simpa using hp.2.2.2.2.1
    | succ i =>
      have h2 : gC (y :: xs) x (s + x) = true := by
        simp only [gC, Bool.and_eq_true, decide_eq_true_eq]
        exact hp.2.2.2
      have := qA h2 i (by simpa using h)
      simpa using this
def lU (r : List Int) (y : Int) : Nat → Option Nat
  | 0 => none
  | i + 1 => if r.getD i 0 < y then some i else lU r y i
theorem rB {r : List Int} {y : Int} : ∀ {m q : Nat}, lU r y m = some q → q < m ∧ r.getD q 0 < y
  | 0, q, h => by simp [lU] at h
  | m + 1, q, h => by
    unfold lU at h
    split at h
    · next hc => injection h with h; subst h; exact ⟨by omega, hc⟩
    · have := rB h; exact ⟨by omega, this.2⟩
theorem u7 {r : List Int} {y : Int} : ∀ {m i : Nat}, i < m → r.getD i 0 < y → ∃ q, lU r y m = some q
  | 0, i, h, _ => by omega
  | m + 1, i, h, hi => by
    unfold lU
    split
    · exact ⟨_, rfl⟩
    · next hc =>
      have : i ≠ m := fun e => hc (e ▸ hi)
      exact u7 (by omega) hi
def mw : Nat → List (List Int) → Int → List (List Int) × Int
  | 0, rs, y => (rs, y)
  | r + 1, rs, y => match lU (rs.getD r []) y (rs.getD r []).length with
    | some q => mw r (rs.set r ((rs.getD r []).set q y)) ((rs.getD r []).getD q 0)
    | none => mw r rs y
theorem getD_set_ne {α : Type} {xs : List α} {i j : Nat} (h : j ≠ i) (x d : α) : (xs.set j x).getD i d = xs.getD i d := by
  simp only [List.getD_eq_getElem?_getD, List.getElem?_set]
  rw [if_neg h]
theorem pF {n m : Nat} : ∀ (r : Nat) (rs : List (List Int)) (y : Int), dk n m rs → dk n m (mw r rs y).1
  | 0, _, _, h => h
  | r + 1, rs, y, h => by
    unfold mw
    split
    · exact pF r _ _ (h.set r (by rw [List.length_set]; exact h.at r))
    · exact pF r rs y h
def lI (rs : List (List Int)) (row : Nat) : List (List Int) × Int :=
  ((if (rs.getD row []).length = 1 then (mw row (rs.set row ((rs.getD row []).take ((rs.getD row []).length - 1))) ((rs.getD row []).getD ((rs.getD row []).length - 1) 0)).1.take row
    else (mw row (rs.set row ((rs.getD row []).take ((rs.getD row []).length - 1))) ((rs.getD row []).getD ((rs.getD row []).length - 1) 0)).1),
   (mw row (rs.set row ((rs.getD row []).take ((rs.getD row []).length - 1))) ((rs.getD row []).getD ((rs.getD row []).length - 1) 0)).2)
theorem vY {n m : Nat} {rs : List (List Int)} (h : dk n m rs) (row : Nat) : dk n m (lI rs row).1 := by
  have h1 := pF row (rs.set row ((rs.getD row []).take ((rs.getD row []).length - 1))) ((rs.getD row []).getD ((rs.getD row []).length - 1) 0) (h.set row (by rw [List.length_take]; have := h.at row; omega))
  unfold lI
  simp only
  split
  · exact ⟨by rw [List.length_take]; have := h1.1; omega, fun x hx => h1.2 x (List.mem_of_mem_take hx)⟩
  · exact h1
theorem j2 {t : Tab} (h : cV t = true) : t.1 = [] := by
  simp only [cV, Bool.and_eq_true, decide_eq_true_eq] at h
  exact List.eq_nil_of_length_eq_zero h.2
theorem gp {t : Tab} (h : cV t = true) {i : Nat} (hi : i < t.2.length) : (outer t).getD i 0 = (t.2.getD i []).length := by
  have e := e9 t.1 t.2 0 i hi
  rw [j2 h] at e
  unfold outer
  rw [j2 h, e]
  simp
theorem jJ {t : Tab} (h : cV t = true) : bN (outer t) = true := by
  simp only [cV, Bool.and_eq_true] at h
  have hs := kF h.1
  simp only [dB, dQ, Bool.and_eq_true] at hs
  exact hs.2.2.2.1
theorem ck (t : Tab) : (outer t).length = t.2.length := by unfold outer; rw [kg]
theorem pk {t : Tab} (h : cV t = true) : dk 9 9 t.2 := by
  have h9 := yS h
  have hl := (bn (jJ h)).2.2.1
  rw [ck] at hl
  exact ⟨hl, fun r hr => by have := tv hr; omega⟩
theorem mU {t : Tab} (h : cV t = true) : ∀ i, i + 1 < t.2.length → (t.2.getD (i + 1) []).length ≤ (t.2.getD i []).length ∧ ∀ q, q < (t.2.getD (i + 1) []).length → (t.2.getD i []).getD q 0 < (t.2.getD (i + 1) []).getD q 0 := by
  intro i hi
  have hm := qA (show gC (outer t) 9 0 = true from jJ h) i (by rw [ck]; exact hi)
  rw [gp h hi, gp h (by omega)] at hm
  have hl : (t.2.getD (i + 1) []).length ≤ (t.2.getD i []).length := by omega
  refine ⟨hl, fun q hq => ?_⟩
  have ht := h
  simp only [cV, Bool.and_eq_true] at ht
  have ht := ht.1
  simp only [cz, Bool.and_eq_true] at ht
  have h1 := dZ.1 (dZ.1 ht.2 (i + 1) hi) q hq
  simp only [fm, Bool.and_eq_true, Bool.or_eq_true, decide_eq_true_eq] at h1
  have h2 := h1.2.2.resolve_left (by omega)
  rw [j2 h] at h2
  have e : ((i + 1 : Nat) : Int) - 1 = (i : Int) := by omega
  have e2 : ([] : List Int).getD (i + 1) 0 + (q : Int) = ([] : List Int).getD i 0 + (q : Int) := by simp
  rw [e, e2] at h2
  have ee : entry t (i : Int) (([] : List Int).getD i 0 + (q : Int)) = (t.2.getD i []).getD q 0 := by
    have := wS (t := t) (r := i) (q := q) (by omega)
    rw [j2 h] at this
    exact this
  rw [ee] at h2
  exact h2
end Go.Am.Pu
end
section
/- Rows with noughts in front; a box taken from a partition. Plain words. -/
namespace Go.Am.Pu
def nJ (a : List (List Int)) (i c : Int) : Int := if i < 0 then 0 else atI (a.getD i.toNat []) c
theorem kG (a : List (List Int)) (i j : Nat) : nJ a i j = (a.getD i []).getD j 0 := by
  unfold nJ
  rw [if_neg (by omega), cm, Int.toNat_natCast]
theorem u4 {a : List (List Int)} {i c : Int} (h : i < 0) : nJ a i c = 0 := by unfold nJ; rw [if_pos h]
theorem BE {a : List (List Int)} {i c : Int} (h : (a.length : Int) ≤ i) : nJ a i c = 0 := by
  unfold nJ
  rw [if_neg (by omega), bw (by omega)]
  unfold atI
  split <;> simp
def bT (t : Tab) : List (List Int) := (List.range' 0 t.2.length).map fun i => List.replicate (t.1.getD i 0).toNat 0 ++ t.2.getD i []
theorem eY (t : Tab) : (bT t).length = t.2.length := by simp [bT]
theorem pX {t : Tab} {i : Nat} (h : i < t.2.length) : (bT t).getD i [] = List.replicate (t.1.getD i 0).toNat 0 ++ t.2.getD i [] := by
  rw [aB (by rw [eY]; exact h)]
  simp [bT]
theorem tk (p : List Int) : ∀ (m i n : Nat), i ≤ n → n < i + m → p.getD (n + 1) 0 < p.getD n 0 → (n : Int) ∈ gW p m i
  | 0, i, n, h1, h2, _ => by omega
  | m + 1, i, n, h1, h2, h3 => by
    unfold gW
    by_cases e : n = i
    · subst e
      rw [if_pos h3]
      exact List.mem_cons_self
    · have ih := tk p m (i + 1) n (by omega) (by omega) h3
      split
      · exact List.mem_cons_of_mem _ ih
      · exact ih
theorem rE {p : List Int} {n : Nat} (hp : bN p = true) (hn : n < p.length) (h : p.getD (n + 1) 0 < p.getD n 0) : has (fU p) n = true := by
  rw [kz]
  unfold fU
  rw [if_pos hp]
  exact tk p p.length 0 n (by omega) (by omega) h
def az (p : List Int) (n : Nat) : List Int := if p.getD n 0 - 1 = 0 then p.take n else p.set n (p.getD n 0 - 1)
theorem iK (p : List Int) (n : Nat) : (az p n).length ≤ p.length := by
  unfold az
  split
  · rw [List.length_take]; omega
  · rw [List.length_set]; exact Nat.le_refl _
end Go.Am.Pu
end
section
/- A slide: the hole goes right or down until nothing is there. Plain words. -/
namespace Go.Am.Pu
def cel (g : List (List Int)) (r c : Nat) : Int := (g.getD r []).getD c 0
def dq (g : List (List Int)) (r c : Nat) (v : Int) : List (List Int) := g.set r ((g.getD r []).set c v)
def bI : Nat → List (List Int) → Nat → Nat → List (List Int) × (Nat × Nat)
  | 0, g, i, c => (g, (i, c))
  | m + 1, g, i, c => if cel g i (c + 1) = 0 ∧ cel g (i + 1) c = 0 then (g, (i, c))
    else if cel g i (c + 1) = 0 ∨ (0 < cel g (i + 1) c ∧ cel g (i + 1) c ≤ cel g i (c + 1)) then bI m (dq g i c (cel g (i + 1) c)) (i + 1) c
    else bI m (dq g i c (cel g i (c + 1))) i (c + 1)
theorem iq {g : List (List Int)} {r c : Nat} (h : cel g r c ≠ 0) : r < g.length ∧ c < (g.getD r []).length := by
  unfold cel at h
  by_cases h1 : r < g.length
  · refine ⟨h1, ?_⟩
    by_cases h2 : c < (g.getD r []).length
    · exact h2
    · exact absurd (bw (by omega) 0) h
  · rw [bw (xs := g) (by omega)] at h
    simp at h
theorem cj (g : List (List Int)) (r c : Nat) (v : Int) : (dq g r c v).length = g.length := by unfold dq; rw [List.length_set]
theorem bm (g : List (List Int)) (r c : Nat) (v : Int) (q : Nat) : ((dq g r c v).getD q []).length = (g.getD q []).length := by
  unfold dq
  by_cases e : q = r
  · subst e
    by_cases h : q < g.length
    · rw [aB (by rw [List.length_set]; exact h), List.getElem_set_self, List.length_set]
    · rw [bw (by rw [List.length_set]; omega), bw (by omega)]
  · rw [getD_set_ne (Ne.symm e)]
theorem fp {g : List (List Int)} {r c : Nat} (v : Int) (h1 : r < g.length) (h2 : c < (g.getD r []).length) : cel (dq g r c v) r c = v := by
  unfold cel dq
  rw [aB (xs := g.set r _) (by rw [List.length_set]; exact h1), List.getElem_set_self, aB (by rw [List.length_set]; exact h2), List.getElem_set_self]
theorem eu {g : List (List Int)} {r c q x : Nat} (v : Int) (h : ¬ (q = r ∧ x = c)) : cel (dq g r c v) q x = cel g q x := by
  unfold cel dq
  by_cases e : q = r
  · subst e
    have hx : x ≠ c := fun e => h ⟨rfl, e⟩
    by_cases hl : q < g.length
    · rw [aB (xs := g.set q _) (by rw [List.length_set]; exact hl), List.getElem_set_self, getD_set_ne (Ne.symm hx)]
    · rw [bw (xs := g.set q _) (by rw [List.length_set]; omega), bw (xs := g) (by omega)]
  · rw [getD_set_ne (Ne.symm e)]
structure Sl (q : List Int) (g : List (List Int)) (i c : Nat) : Prop where
  q0 : ∀ r, 0 ≤ q.getD r 0
  qm : ∀ r, q.getD (r + 1) 0 ≤ q.getD r 0
  lm : ∀ r, (g.getD (r + 1) []).length ≤ (g.getD r []).length
  hi : i < g.length
  hc : c < (g.getD i []).length
  hq : q.getD i 0 ≤ c
  pos : ∀ r x, 0 ≤ cel g r x
  num : ∀ r x : Nat, q.getD r 0 ≤ x → x < (g.getD r []).length → ¬ (r = i ∧ x = c) → 1 ≤ cel g r x ∧ cel g r x ≤ 9
  row : ∀ r x : Nat, q.getD r 0 ≤ x → x + 1 < (g.getD r []).length → ¬ (r = i ∧ x = c) → ¬ (r = i ∧ x + 1 = c) → cel g r x ≤ cel g r (x + 1)
  col : ∀ r x : Nat, q.getD r 0 ≤ x → x < (g.getD (r + 1) []).length → ¬ (r = i ∧ x = c) → ¬ (r + 1 = i ∧ x = c) → cel g r x < cel g (r + 1) x
  uF : ∀ x : Nat, x + 1 = c → q.getD i 0 ≤ x → c + 1 < (g.getD i []).length → cel g i x ≤ cel g i (c + 1)
  colH : ∀ r : Nat, r + 1 = i → q.getD r 0 ≤ c → c < (g.getD (i + 1) []).length → cel g r c < cel g (i + 1) c
theorem Sl.down {q : List Int} {g : List (List Int)} {i c : Nat} (h : Sl q g i c) (hb : cel g (i + 1) c ≠ 0) (hr : cel g i (c + 1) = 0 ∨ (0 < cel g (i + 1) c ∧ cel g (i + 1) c ≤ cel g i (c + 1))) :
    Sl q (dq g i c (cel g (i + 1) c)) (i + 1) c := by
  obtain ⟨b1, b2⟩ := iq hb
  have hqm := h.qm i
  have hq := h.hq
  have hbn := h.num (i + 1) c (by omega) b2 (by omega)
  have e0 := fp (cel g (i + 1) c) h.hi h.hc
  have en : ∀ r x, ¬ (r = i ∧ x = c) → cel (dq g i c (cel g (i + 1) c)) r x = cel g r x := fun r x hh => eu _ hh
  refine ⟨h.q0, h.qm, fun r => ?_, ?_, ?_, by omega, fun r x => ?_, fun r x h1 h2 h3 => ?_, fun r x h1 h2 h3 h4 => ?_, fun r x h1 h2 h3 h4 => ?_, fun x h1 h2 h3 => ?_, fun r h1 h2 h3 => ?_⟩
  · rw [bm, bm]; exact h.lm r
  · rw [cj]; exact b1
  · rw [bm]; exact b2
  · by_cases e : r = i ∧ x = c
    · rw [e.1, e.2, e0]; exact h.pos _ _
    · rw [en r x e]; exact h.pos _ _
  · rw [bm] at h2
    by_cases e : r = i ∧ x = c
    · rw [e.1, e.2, e0]; exact hbn
    · rw [en r x e]; exact h.num r x h1 h2 e
  · rw [bm] at h2
    by_cases e : r = i ∧ x = c
    · obtain ⟨rfl, rfl⟩ := e
      rw [e0, en _ _ (by omega)]
      rcases hr with hr | hr
      · have := (h.num r (x + 1) (by omega) h2 (by omega)).1
        omega
      · exact hr.2
    · rw [en r x e]
      by_cases e' : r = i ∧ x + 1 = c
      · obtain ⟨rfl, rfl⟩ := e'
        rw [e0]
        have hl := h.lm r
        have h5 := h.col r x h1 (by omega) (by omega) (by omega)
        have h6 := h.row (r + 1) x (by omega) (by omega) (by omega) (by omega)
        omega
      · rw [en r (x + 1) e']; exact h.row r x h1 h2 e e'
  · rw [bm] at h2
    by_cases e : r = i ∧ x = c
    · exact (h4 ⟨by omega, e.2⟩).elim
    · rw [en r x e]
      by_cases e' : r + 1 = i ∧ x = c
      · obtain ⟨rfl, rfl⟩ := e'
        rw [e0]
        exact h.colH r rfl h1 b2
      · rw [en (r + 1) x e']
        exact h.col r x h1 h2 e e'
  · rw [bm] at h3
    rw [en _ _ (by omega), en _ _ (by omega)]
    have h5 := h.row (i + 1) x h2 (by omega) (by omega) (by omega)
    have h6 := h.row (i + 1) c (by omega) h3 (by omega) (by omega)
    subst h1
    omega
  · rw [bm] at h3
    have : r = i := by omega
    subst this
    rw [e0, en _ _ (by omega)]
    exact h.col (r + 1) c (by omega) h3 (by omega) (by omega)
theorem Sl.right {q : List Int} {g : List (List Int)} {i c : Nat} (h : Sl q g i c) (hr : cel g i (c + 1) ≠ 0) (hb : ¬ (0 < cel g (i + 1) c ∧ cel g (i + 1) c ≤ cel g i (c + 1))) :
    Sl q (dq g i c (cel g i (c + 1))) i (c + 1) := by
  obtain ⟨b1, b2⟩ := iq hr
  have hq := h.hq
  have hrn := h.num i (c + 1) (by omega) b2 (by omega)
  have e0 := fp (cel g i (c + 1)) h.hi h.hc
  have en : ∀ r x, ¬ (r = i ∧ x = c) → cel (dq g i c (cel g i (c + 1))) r x = cel g r x := fun r x hh => eu _ hh
  refine ⟨h.q0, h.qm, fun r => ?_, ?_, ?_, by omega, fun r x => ?_, fun r x h1 h2 h3 => ?_, fun r x h1 h2 h3 h4 => ?_, fun r x h1 h2 h3 h4 => ?_, fun x h1 h2 h3 => ?_, fun r h1 h2 h3 => ?_⟩
  · rw [bm, bm]; exact h.lm r
  · rw [cj]; exact b1
  · rw [bm]; exact b2
  · by_cases e : r = i ∧ x = c
    · rw [e.1, e.2, e0]; exact h.pos _ _
    · rw [en r x e]; exact h.pos _ _
  · rw [bm] at h2
    by_cases e : r = i ∧ x = c
    · rw [e.1, e.2, e0]; exact hrn
    · rw [en r x e]; exact h.num r x h1 h2 e
  · rw [bm] at h2
    by_cases e : r = i ∧ x = c
    · exact (h4 ⟨e.1, by omega⟩).elim
    · rw [en r x e]
      by_cases e' : r = i ∧ x + 1 = c
      · obtain ⟨rfl, rfl⟩ := e'
        rw [e0]
        exact h.uF x rfl h1 b2
      · rw [en r (x + 1) e']; exact h.row r x h1 h2 e e'
  · rw [bm] at h2
    by_cases e : r = i ∧ x = c
    · obtain ⟨rfl, rfl⟩ := e
      rw [e0, en _ _ (by omega)]
      have hqm := h.qm r
      have h5 := (h.num (r + 1) x (by omega) h2 (by omega)).1
      omega
    · rw [en r x e]
      by_cases e' : r + 1 = i ∧ x = c
      · obtain ⟨rfl, rfl⟩ := e'
        rw [e0]
        have hl := h.lm r
        have h5 := h.row r x h1 (by omega) (by omega) (by omega)
        have h6 := h.col r (x + 1) (by omega) b2 (by omega) (by omega)
        omega
      · rw [en (r + 1) x e']
        exact h.col r x h1 h2 e e'
  · rw [bm] at h3
    have : x = c := by omega
    subst this
    rw [e0, en _ _ (by omega)]
    exact h.row i (x + 1) (by omega) h3 (by omega) (by omega)
  · rw [bm] at h3
    rw [en _ _ (by omega), en _ _ (by omega)]
    subst h1
    have h5 := h.col r (c + 1) h2 (by omega) (by omega) (by omega)
    have h6 := h.col (r + 1) (c + 1) (by omega) h3 (by omega) (by omega)
    omega
end Go.Am.Pu
end
section
/- A slide's end and its start. Plain words. -/
namespace Go.Am.Pu
theorem o6 {q : List Int} {w : Nat} : ∀ (m : Nat) (g : List (List Int)) (i c : Nat), Sl q g i c → (∀ r, (g.getD r []).length ≤ w) → g.length + w ≤ i + c + m →
    Sl q (bI m g i c).1 (bI m g i c).2.1 (bI m g i c).2.2 ∧ (bI m g i c).1.length = g.length ∧ (∀ r, ((bI m g i c).1.getD r []).length = (g.getD r []).length) ∧
      cel (bI m g i c).1 (bI m g i c).2.1 ((bI m g i c).2.2 + 1) = 0 ∧ cel (bI m g i c).1 ((bI m g i c).2.1 + 1) (bI m g i c).2.2 = 0
  | 0, g, i, c, h, hw, hm => by
    have h1 := h.hi
    have h2 := h.hc
    have h3 := hw i
    omega
  | m + 1, g, i, c, h, hw, hm => by
    unfold bI
    by_cases c1 : cel g i (c + 1) = 0 ∧ cel g (i + 1) c = 0
    · rw [if_pos c1]
      exact ⟨h, rfl, fun _ => rfl, c1.1, c1.2⟩
    · rw [if_neg c1]
      by_cases c2 : cel g i (c + 1) = 0 ∨ (0 < cel g (i + 1) c ∧ cel g (i + 1) c ≤ cel g i (c + 1))
      · rw [if_pos c2]
        have hd := h.down (by
          intro e
          rcases c2 with c2 | c2
          · exact c1 ⟨c2, e⟩
          · omega) c2
        obtain ⟨a1, a2, a3, a4, a5⟩ := o6 (q := q) (w := w) m _ _ _ hd (fun r => by rw [bm]; exact hw r) (by rw [cj]; omega)
        exact ⟨a1, by rw [a2, cj], fun r => by rw [a3, bm], a4, a5⟩
      · rw [if_neg c2]
        have hd := h.right (fun e => c2 (.inl e)) (fun e => c2 (.inr e))
        obtain ⟨a1, a2, a3, a4, a5⟩ := o6 (q := q) (w := w) m _ _ _ hd (fun r => by rw [bm]; exact hw r) (by rw [cj]; omega)
        exact ⟨a1, by rw [a2, cj], fun r => by rw [a3, bm], a4, a5⟩
theorem Sl.CT {q : List Int} {g : List (List Int)} {i c : Nat} (h : Sl q g i c) (hr : cel g i (c + 1) = 0) : (g.getD i []).length = c + 1 := by
  have h1 := h.hc
  have h2 := h.hq
  refine Nat.le_antisymm (Nat.le_of_not_lt fun hlt => ?_) h1
  have := (h.num i (c + 1) (by omega) hlt (by omega)).1
  omega
theorem Sl.C0 {q : List Int} {g : List (List Int)} {i c : Nat} (h : Sl q g i c) (hb : cel g (i + 1) c = 0) : (g.getD (i + 1) []).length ≤ c := by
  have h2 := h.hq
  have h3 := h.qm i
  refine Nat.le_of_not_lt fun hlt => ?_
  have := (h.num (i + 1) c (by omega) hlt (by omega)).1
  omega
theorem dV {p : List Int} (hp : bN p = true) (r : Nat) : p.getD (r + 1) 0 ≤ p.getD r 0 := by
  by_cases h : r + 1 < p.length
  · exact qA hp r h
  · rw [bw (by omega)]
    have := (cY hp r).1
    rw [cm] at this
    exact this
theorem iy {p : List Int} {n : Nat} (hp : bN p = true) (hn : n < p.length) (hc : p.getD (n + 1) 0 < p.getD n 0) (r : Nat) : (az p n).getD r 0 = if r = n then p.getD n 0 - 1 else p.getD r 0 := by
  unfold az
  by_cases h : p.getD n 0 - 1 = 0
  · rw [if_pos h]
    have h0 := (cY hp (n + 1 : Nat)).1
    rw [cm] at h0
    have hl : p.length ≤ n + 1 := by
      refine Nat.le_of_not_lt fun hlt => ?_
      have := (bn hp).1 _ (List.getElem_mem hlt)
      rw [← aB hlt 0] at this
      omega
    by_cases e : r = n
    · subst e
      rw [if_pos rfl, h, bw (by rw [List.length_take]; omega)]
    · rw [if_neg e]
      by_cases e2 : r < n
      · rw [aB (by rw [List.length_take]; omega), List.getElem_take, aB (by omega)]
      · rw [bw (by rw [List.length_take]; omega), bw (by omega)]
  · rw [if_neg h]
    by_cases e : r = n
    · subst e
      rw [if_pos rfl, aB (by rw [List.length_set]; exact hn), List.getElem_set_self]
    · rw [if_neg e, getD_set_ne (Ne.symm e)]
theorem kM {t : Tab} {r : Nat} (h : r < t.2.length) : ((bT t).getD r []).length = (t.1.getD r 0).toNat + (t.2.getD r []).length := by
  rw [pX h]; simp
theorem mB {t : Tab} {r : Nat} (h : r < t.2.length) (x : Nat) : cel (bT t) r x = if x < (t.1.getD r 0).toNat then 0 else (t.2.getD r []).getD (x - (t.1.getD r 0).toNat) 0 := by
  unfold cel
  rw [pX h]
  generalize (t.1.getD r 0).toNat = n
  generalize t.2.getD r [] = y
  by_cases c : x < n
  · rw [if_pos c]
    simp only [List.getD_eq_getElem?_getD]
    rw [List.getElem?_append_left (by rw [List.length_replicate]; exact c), List.getElem?_replicate, if_pos c]
    rfl
  · rw [if_neg c]
    simp only [List.getD_eq_getElem?_getD]
    rw [List.getElem?_append_right (by rw [List.length_replicate]; omega), List.length_replicate]
theorem mS {t : Tab} {r : Nat} (h : t.2.length ≤ r) : (bT t).getD r [] = [] := bw (by rw [eY]; exact h) []
structure D4 (t : Tab) : Prop where
  q0 : ∀ r, 0 ≤ t.1.getD r 0
  qm : ∀ r, t.1.getD (r + 1) 0 ≤ t.1.getD r 0
  lm : ∀ r, ((bT t).getD (r + 1) []).length ≤ ((bT t).getD r []).length
  num : ∀ r x : Nat, t.1.getD r 0 ≤ x → x < ((bT t).getD r []).length → 1 ≤ cel (bT t) r x ∧ cel (bT t) r x ≤ 9
  row : ∀ r x : Nat, t.1.getD r 0 ≤ x → x + 1 < ((bT t).getD r []).length → cel (bT t) r x ≤ cel (bT t) r (x + 1)
  col : ∀ r x : Nat, t.1.getD r 0 ≤ x → x < ((bT t).getD (r + 1) []).length → cel (bT t) r x < cel (bT t) (r + 1) x
end Go.Am.Pu
end
section
/- A tableau cell by cell; a slide's start. Plain words. -/
namespace Go.Am.Pu
theorem ct {t : Tab} (h : cz t = true) : bN t.1 = true ∧ bN (outer t) = true ∧ t.1.length ≤ t.2.length ∧ (∀ i k, i < t.2.length → k < (t.2.getD i []).length → fm t i k = true) := by
  simp only [cz, dB, dQ, Bool.and_eq_true, decide_eq_true_eq] at h
  obtain ⟨⟨h1, h2, h3, h4, h5⟩, h6⟩ := h
  refine ⟨h1, h4, h2, fun i k hi hk => ?_⟩
  rw [dZ] at h6
  have := h6 i hi
  rw [dZ] at this
  exact this k hk
theorem eF {t : Tab} (h : bN t.1 = true) (r : Nat) : (((bT t).getD r []).length : Int) = (outer t).getD r 0 := by
  have h0 := (cY h r).1
  rw [cm] at h0
  by_cases hr : r < t.2.length
  · rw [kM hr]
    have := e9 t.1 t.2 0 r hr
    rw [Nat.zero_add] at this
    unfold outer
    rw [this]
    omega
  · rw [mS (by omega), bw (by rw [ck]; omega)]
    rfl
theorem oi {t : Tab} {r x : Nat} (h : x < ((bT t).getD r []).length) : r < t.2.length := by
  refine Nat.lt_of_not_le fun hle => ?_
  rw [mS hle] at h
  simp at h
theorem Dq {t : Tab} (h : cz t = true) : D4 t := by
  obtain ⟨hp, ho, hl, hc⟩ := ct h
  have q0 : ∀ r, 0 ≤ t.1.getD r 0 := fun r => by
    have := (cY hp r).1
    rw [cm] at this
    exact this
  have at_ : ∀ r x : Nat, t.1.getD r 0 ≤ x → x < ((bT t).getD r []).length → ∃ k : Nat, (x : Int) = t.1.getD r 0 + k ∧ k < (t.2.getD r []).length ∧ cel (bT t) r x = (t.2.getD r []).getD k 0 := by
    intro r x h1 h2
    have hr := oi h2
    rw [kM hr] at h2
    have := q0 r
    refine ⟨x - (t.1.getD r 0).toNat, by omega, by omega, ?_⟩
    rw [mB hr, if_neg (by omega)]
  refine ⟨q0, dV hp, fun r => ?_, fun r x h1 h2 => ?_, fun r x h1 h2 => ?_, fun r x h1 h2 => ?_⟩
  · have a := eF hp r
    have b := eF hp (r + 1)
    have c := dV ho r
    omega
  · obtain ⟨k, e1, e2, e3⟩ := at_ r x h1 h2
    have := hc r k (oi h2) e2
    simp only [fm, within, Bool.and_eq_true, decide_eq_true_eq] at this
    rw [e3]
    exact this.1
  · obtain ⟨k, e1, e2, e3⟩ := at_ r x h1 (by omega)
    obtain ⟨k', e1', e2', e3'⟩ := at_ r (x + 1) (by omega) h2
    have : k' = k + 1 := by omega
    subst this
    have := hc r (k + 1) (oi h2) e2'
    simp only [fm, Bool.and_eq_true, Bool.or_eq_true, decide_eq_true_eq] at this
    rw [e3, e3']
    rcases this.2.1 with h | h
    · omega
    · simpa using h
  · have hm := dV hp r
    have a := eF hp r
    have b := eF hp (r + 1)
    have c := dV ho r
    obtain ⟨k, e1, e2, e3⟩ := at_ r x h1 (by omega)
    obtain ⟨k', e1', e2', e3'⟩ := at_ (r + 1) x (by omega) h2
    have := hc (r + 1) k' (oi h2) e2'
    simp only [fm, Bool.and_eq_true, Bool.or_eq_true, decide_eq_true_eq] at this
    rw [e3, e3']
    rcases this.2.2 with h | h
    · omega
    · have hr : r < t.2.length := by have := oi h2; omega
      have er : ((r + 1 : Nat) : Int) - 1 = (r : Int) := by omega
      rw [er, jB hr, show t.1.getD (r + 1) 0 + (k' : Int) - t.1.getD r 0 = (k : Int) by omega, cm] at h
      exact h
theorem nA {t : Tab} (h : cz t = true) {n : Nat} (hn : n < t.1.length) (hc : t.1.getD (n + 1) 0 < t.1.getD n 0) :
    Sl (az t.1 n) (bT t) n (t.1.getD n 0 - 1).toNat := by
  have hP := Dq h
  obtain ⟨hp, ho, hl, _⟩ := ct h
  have h1 := hP.q0 (n + 1)
  have hd := iy hp hn hc
  have hne : t.2.length > n := by omega
  have hrow := kM hne
  have hlen : (t.1.getD n 0).toNat ≤ ((bT t).getD n []).length := by rw [hrow]; omega
  have old : ∀ r x : Nat, (az t.1 n).getD r 0 ≤ x → ¬ (r = n ∧ x = (t.1.getD n 0 - 1).toNat) → t.1.getD r 0 ≤ x := by
    intro r x h2 h3
    rw [hd] at h2
    by_cases e : r = n
    · subst e
      rw [if_pos rfl] at h2
      have : x ≠ (t.1.getD r 0 - 1).toNat := fun e => h3 ⟨rfl, e⟩
      omega
    · rw [if_neg e] at h2
      exact h2
  refine ⟨fun r => ?_, fun r => ?_, hP.lm, by rw [eY]; exact hne, by omega, by rw [hd, if_pos rfl]; omega, fun r x => ?_, fun r x h2 h3 h4 => hP.num r x (old r x h2 h4) h3,
    fun r x h2 h3 h4 h5 => hP.row r x (old r x h2 h4) h3, fun r x h2 h3 h4 h5 => hP.col r x (old r x h2 h4) h3, fun x h2 h3 h4 => ?_, fun r h2 h3 h4 => ?_⟩
  · rw [hd]
    have := hP.q0 r
    split <;> omega
  · rw [hd, hd]
    have := hP.qm r
    by_cases e : r = n
    · subst e
      rw [if_neg (by omega), if_pos rfl]; omega
    · rw [if_neg e]
      by_cases e2 : r + 1 = n
      · subst e2; rw [if_pos rfl]; omega
      · rw [if_neg e2]; exact this
  · by_cases hx : x < ((bT t).getD r []).length
    · have hr := oi hx
      by_cases hq : t.1.getD r 0 ≤ x
      · have := (hP.num r x hq hx).1; omega
      · rw [mB hr, if_pos (by omega)]; exact Int.le_refl _
    · unfold cel
      rw [bw (by omega)]; exact Int.le_refl _
  ·
    rw [hd, if_pos rfl] at h3
    omega
  ·
    rw [hd, if_neg (by omega)] at h3
    subst h2
    have := hP.qm r
    omega
end Go.Am.Pu
end
section
/- A partition less a box; the tableau that a slide leaves. Plain words. -/
namespace Go.Am.Pu
theorem kt : ∀ (p : List Int) (prev s : Int), (∀ x ∈ p, 1 ≤ x) → (0 < p.length → p.getD 0 0 ≤ prev) → (∀ i, i + 1 < p.length → p.getD (i + 1) 0 ≤ p.getD i 0) → s + dC p ≤ 9 → gC p prev s = true
  | [], _, _, _, _, _, _ => rfl
  | x :: xs, prev, s, h1, h2, h3, h4 => by
    have hs : ∀ (l : List Int), (∀ y ∈ l, 1 ≤ y) → 0 ≤ dC l := by
      intro l
      induction l with
      | nil => intro _; simp [dC]
      | cons y l ih =>
        intro h
        have a := h y List.mem_cons_self
        have b := ih (fun z hz => h z (List.mem_cons_of_mem _ hz))
        simp only [dC]; omega
    have hx := h1 x List.mem_cons_self
    have hxs := hs xs (fun z hz => h1 z (List.mem_cons_of_mem _ hz))
    have h2' := h2 (by simp)
    simp only [List.getD_cons_zero] at h2'
    simp only [dC] at h4
    have ih := kt xs x (s + x) (fun z hz => h1 z (List.mem_cons_of_mem _ hz)) (fun hl => by have := h3 0 (by simpa using hl); simpa using this) (fun i hi => by have := h3 (i + 1) (by simpa using hi); simpa using this) (by omega)
    simp only [gC, Bool.and_eq_true, decide_eq_true_eq]
    exact ⟨hx, h2', by omega, ih⟩
theorem n5 : ∀ (p : List Int) (n : Nat) (v : Int), n < p.length → dC (p.set n v) = dC p - p.getD n 0 + v
  | [], n, v, h => by simp at h
  | x :: xs, 0, v, _ => by simp [dC]; omega
  | x :: xs, n + 1, v, h => by
    have := n5 xs n v (by simpa using h)
    simp only [List.set_cons_succ, dC, List.getD_cons_succ, this]
    omega
theorem vX : ∀ (p : List Int) (n : Nat), p.length = n + 1 → dC (p.take n) = dC p - p.getD n 0
  | [], n, h => by simp at h
  | [x], 0, _ => by simp [dC]
  | x :: xs, n + 1, h => by
    have := vX xs n (by simpa using h)
    simp only [List.take_succ_cons, dC, List.getD_cons_succ, this]
    omega
  | x :: y :: xs, 0, h => by simp at h
theorem oz {p : List Int} {n : Nat} (hp : bN p = true) (hc : p.getD (n + 1) 0 < p.getD n 0) (h : p.getD n 0 - 1 = 0) : p.length ≤ n + 1 := by
  have h0 := (cY hp (n + 1 : Nat)).1
  rw [cm] at h0
  refine Nat.le_of_not_lt fun hlt => ?_
  have := (bn hp).1 _ (List.getElem_mem hlt)
  rw [← aB hlt 0] at this
  omega
theorem sJ {p : List Int} {n : Nat} (hp : bN p = true) (hn : n < p.length) (hc : p.getD (n + 1) 0 < p.getD n 0) {i : Nat} (hi : i < (az p n).length) : 1 ≤ (az p n).getD i 0 := by
  rw [iy hp hn hc]
  have hl := iK p n
  have h1 : ∀ i, i < p.length → 1 ≤ p.getD i 0 := fun i hi => by
    rw [aB hi]
    exact ((bn hp).1 _ (List.getElem_mem hi)).1
  by_cases h : p.getD n 0 - 1 = 0
  · unfold az at hi
    rw [if_pos h, List.length_take] at hi
    rw [if_neg (by omega)]
    exact h1 i (by omega)
  · have a := h1 n hn
    have b := h1 i (by omega)
    split <;> omega
theorem ic {p : List Int} {n : Nat} (hp : bN p = true) (hn : n < p.length) (hc : p.getD (n + 1) 0 < p.getD n 0) : bN (az p n) = true := by
  have hs := bn hp
  have hg := iy hp hn hc
  have hpn : 1 ≤ p.getD n 0 := by
    rw [aB hn]
    exact (hs.1 _ (List.getElem_mem hn)).1
  refine kt _ _ _ (fun x hx => ?_) (fun _ => ?_) (fun i _ => ?_) ?_
  · obtain ⟨i, hi, rfl⟩ := List.getElem_of_mem hx
    rw [← aB hi 0]
    exact sJ hp hn hc hi
  · rw [hg]
    have : ∀ i, p.getD i 0 ≤ 9 := fun i => by
      have := (cY hp i).2
      rw [cm] at this
      exact this
    have a := this 0
    have b := this n
    split <;> omega
  · rw [hg, hg]
    have := dV hp i
    by_cases e : i = n
    · subst e
      rw [if_neg (by omega), if_pos rfl]; omega
    · rw [if_neg e]
      by_cases e2 : i + 1 = n
      · subst e2; rw [if_pos rfl]; omega
      · rw [if_neg e2]; exact this
  · have h9 := hs.2.1
    unfold az
    split
    · next h =>
      have hl := oz hp hc h
      rw [vX p n (by omega)]
      omega
    · rw [n5 p n _ hn]
      omega
def cl (q : List Int) (g : List (List Int)) (n : Nat) : List (List Int) := (List.range' 0 n).map fun r => (g.getD r []).drop (q.getD r 0).toNat
theorem b8 (q : List Int) (g : List (List Int)) (n : Nat) : (cl q g n).length = n := by simp [cl]
theorem dm {q : List Int} {g : List (List Int)} {n r : Nat} (h : r < n) : (cl q g n).getD r [] = (g.getD r []).drop (q.getD r 0).toNat := by
  rw [aB (by rw [b8]; exact h)]
  simp [cl]
def jg (g : List (List Int)) (i c : Nat) : List (List Int) := g.set i ((g.getD i []).take c)
def bB (t : Tab) (n : Nat) : List (List Int) × (Nat × Nat) := bI 18 (bT t) n (t.1.getD n 0 - 1).toNat
def cf (t : Tab) (n : Nat) : Tab × Nat :=
  let s := bB t n
  ((az t.1 n, cl (az t.1 n) (jg s.1 s.2.1 s.2.2) (az (outer t) s.2.1).length), s.2.1)
end Go.Am.Pu
namespace Go.Am.Pu
def jx (t : Tab) (r : Nat) : List Int := (List.range' 0 11).map fun c => entry t (r : Int) ((c : Nat) : Int)
def kU (t : Tab) : List (List Int) := (List.range' 0 11).map fun r => jx t r
theorem iJ (t : Tab) (r : Nat) : (jx t r).length = 11 := by simp [jx]
theorem tS {t : Tab} {r c : Nat} (h : c < 11) : (jx t r).getD c 0 = entry t r c := by
  rw [aB (by rw [iJ]; exact h)]
  simp [jx]
theorem ou (t : Tab) : (kU t).length = 11 := by simp [kU]
theorem sh {t : Tab} {r : Nat} (h : r < 11) : (kU t).getD r [] = jx t r := by
  rw [aB (by rw [ou]; exact h)]
  simp [kU]
theorem si {t : Tab} (hp : bN t.1 = true) {r c : Nat} (h1 : r < 11) (h2 : c < 11) : cel (kU t) r c = cel (bT t) r c := by
  have h0 := (cY hp r).1
  rw [cm] at h0
  unfold cel
  rw [sh h1, tS h2]
  by_cases hr : r < t.2.length
  · rw [jB hr]
    have := mB hr c
    unfold cel at this
    rw [this]
    by_cases hc : c < (t.1.getD r 0).toNat
    · rw [if_pos hc, lG (by omega)]
    · rw [if_neg hc, show (c : Int) - t.1.getD r 0 = ((c - (t.1.getD r 0).toNat : Nat) : Int) by omega, cm]
  · rw [mS (by omega)]
    unfold entry
    rw [if_neg (by omega), if_pos (by omega)]
    simp
end Go.Am.Pu
end
section
/- What a slide leaves. Plain words. -/
namespace Go.Am.Pu
theorem nc {g : List (List Int)} {i c r : Nat} (hi : i < g.length) : (jg g i c).getD r [] = if r = i then (g.getD i []).take c else g.getD r [] := by
  unfold jg
  by_cases e : r = i
  · subst e
    rw [if_pos rfl, aB (by rw [List.length_set]; exact hi), List.getElem_set_self]
  · rw [if_neg e, getD_set_ne (Ne.symm e)]
theorem mT (g : List (List Int)) (i c : Nat) : (jg g i c).length = g.length := by unfold jg; rw [List.length_set]
theorem zI {g : List (List Int)} {i c r x : Nat} (hi : i < g.length) (hx : x < ((jg g i c).getD r []).length) : cel (jg g i c) r x = cel g r x := by
  unfold cel
  rw [nc hi] at hx ⊢
  by_cases e : r = i
  · subst e
    rw [if_pos rfl] at hx ⊢
    rw [List.length_take] at hx
    rw [aB (by rw [List.length_take]; exact hx), List.getElem_take]
    exact (aB (by omega) 0).symm
  · rw [if_neg e]
structure v9 (t : Tab) (n : Nat) (g : List (List Int)) (i c : Nat) : Prop where
  sl : Sl (az t.1 n) g i c
  len : g.length = t.2.length
  row : ∀ r, (g.getD r []).length = ((bT t).getD r []).length
  hi : i < (outer t).length
  end_ : (outer t).getD i 0 = c + 1
  cor : (outer t).getD (i + 1) 0 < (outer t).getD i 0
  cutl : ∀ r, (((jg g i c).getD r []).length : Int) = (az (outer t) i).getD r 0
  ins : ∀ r, (az t.1 n).getD r 0 ≤ (az (outer t) i).getD r 0
  rows : dk 9 9 (jg g i c)
theorem AR {t : Tab} (h : cz t = true) {n : Nat} (hn : n < t.1.length) (hc : t.1.getD (n + 1) 0 < t.1.getD n 0) :
    v9 t n (bB t n).1 (bB t n).2.1 (bB t n).2.2 ∧ cel (bB t n).1 (bB t n).2.1 ((bB t n).2.2 + 1) = 0 ∧ cel (bB t n).1 ((bB t n).2.1 + 1) (bB t n).2.2 = 0 := by
  obtain ⟨hp, ho, hl, _⟩ := ct h
  have hout := eF hp
  have h9 : ∀ r, (outer t).getD r 0 ≤ 9 := fun r => by
    have := (cY ho r).2
    rw [cm] at this
    exact this
  have hol := ck t
  have ho9 := (bn ho).2.2.1
  have hst := nA h hn hc
  have hok := o6 (w := 9) 18 (bT t) n (t.1.getD n 0 - 1).toNat hst (fun r => by have := hout r; have := h9 r; omega) (by rw [eY]; omega)
  unfold bB
  generalize hS : bI 18 (bT t) n (t.1.getD n 0 - 1).toNat = S at hok
  obtain ⟨g, i, c⟩ := S
  obtain ⟨a1, a2, a3, a4, a5⟩ := hok
  simp only at a1 a2 a3 a4 a5 ⊢
  have er := a1.CT a4
  have ec := a1.C0 a5
  have o1 := hout i
  have o2 := hout (i + 1)
  rw [← a3] at o1 o2
  rw [eY] at a2
  have hi := a1.hi
  have cor : (outer t).getD (i + 1) 0 < (outer t).getD i 0 := by omega
  have hdg := iy ho (by omega) cor
  have hcl : ∀ r, (((jg g i c).getD r []).length : Int) = (az (outer t) i).getD r 0 := fun r => by
    rw [nc hi, hdg]
    by_cases e : r = i
    · rw [if_pos e, if_pos e, List.length_take]; omega
    · rw [if_neg e, if_neg e, a3, hout]
  refine ⟨⟨a1, a2, a3, by omega, by omega, cor, hcl, fun r => ?_, ?_⟩, a4, a5⟩
  · rw [hdg]
    by_cases e : r = i
    · subst e
      rw [if_pos rfl]
      have := a1.hq
      omega
    · rw [if_neg e, iy hp hn hc]
      have hin : t.1.getD r 0 ≤ (outer t).getD r 0 := by
        rw [← hout r]
        by_cases hr : r < t.2.length
        · rw [kM hr]
          have := (cY hp r).1
          rw [cm] at this
          omega
        · rw [bw (xs := t.1) (by omega)]
          omega
      split
      · next e2 => subst e2; omega
      · exact hin
  · refine ⟨by rw [mT]; omega, fun r hr => ?_⟩
    obtain ⟨k, hk, rfl⟩ := List.getElem_of_mem hr
    have a := hcl k
    have b := h9 k
    have c' := h9 i
    rw [aB hk, hdg] at a
    split at a <;> omega
end Go.Am.Pu
end
section
/- The square that the reference slides in. Plain words. -/
namespace Go.Am.Pu
structure Sq (s g : List (List Int)) (i c : Nat) : Prop where
  len : s.length = 11
  row : ∀ r, r < 11 → (s.getD r []).length = 11
  at_ : ∀ r x, r < 11 → x < 11 → ¬ (r = i ∧ x = c) → cel s r x = cel g r x
  hole : cel s i c = 0
theorem Sq.step {s g : List (List Int)} {i c i' c' : Nat} (h : Sq s g i c) (hi : i < g.length) (hc : c < (g.getD i []).length) (h1 : i < 11) (h2 : c < 11) (h3 : i' < 11) (h4 : c' < 11) (hne : ¬ (i' = i ∧ c' = c)) (v : Int) :
    Sq (dq (dq s i c v) i' c' 0) (dq g i c v) i' c' := by
  refine ⟨by rw [cj, cj]; exact h.len, fun r hr => by rw [bm, bm]; exact h.row r hr, fun r x hr hx hn => ?_, ?_⟩
  · rw [eu _ hn]
    by_cases e : r = i ∧ x = c
    · obtain ⟨rfl, rfl⟩ := e
      rw [fp _ (by rw [h.len]; exact h1) (by rw [h.row _ h1]; exact h2), fp _ hi hc]
    · rw [eu _ e, eu _ e]; exact h.at_ r x hr hx e
  · rw [fp _ (by rw [cj, h.len]; exact h3) (by rw [bm, h.row _ h3]; exact h4)]
theorem Bq {t : Tab} (h : cz t = true) {n : Nat} (hn : n < t.1.length) : Sq (kU t) (bT t) n (t.1.getD n 0 - 1).toNat := by
  obtain ⟨hp, ho, hl, _⟩ := ct h
  have h9 := (bn hp).2.2.1
  have hb := cY hp n
  rw [cm] at hb
  have hpos : 1 ≤ t.1.getD n 0 := by
    rw [aB hn]
    exact ((bn hp).1 _ (List.getElem_mem hn)).1
  refine ⟨ou t, fun r hr => by rw [sh hr, iJ], fun r x hr hx _ => si hp hr hx, ?_⟩
  rw [si hp (by omega) (by omega), mB (by omega), if_pos (by omega)]
end Go.Am.Pu
end
section
/- What a slide leaves is a tableau. Plain words. -/
namespace Go.Am.Pu
theorem fc {α : Type} (l : List α) (a x : Nat) (d : α) : (l.drop a).getD x d = l.getD (a + x) d := by
  simp [List.getD_eq_getElem?_getD, List.getElem?_drop]
section
variable {t : Tab} {n : Nat} {g : List (List Int)} {i c : Nat}
theorem v9.cell (E : v9 t n g i c) {r k : Nat} (hr : r < (az (outer t) i).length)
    (hk : k < ((cl (az t.1 n) (jg g i c) (az (outer t) i).length).getD r []).length) :
    ((az t.1 n).getD r 0).toNat + k < (g.getD r []).length ∧ ((((az t.1 n).getD r 0).toNat + k : Nat) : Int) < (az (outer t) i).getD r 0 ∧ ¬ (r = i ∧ ((az t.1 n).getD r 0).toNat + k = c) ∧
      ((cl (az t.1 n) (jg g i c) (az (outer t) i).length).getD r []).getD k 0 = cel g r (((az t.1 n).getD r 0).toNat + k) := by
  have hq := E.sl.q0 r
  rw [dm hr] at hk ⊢
  rw [List.length_drop] at hk
  have hx : ((az t.1 n).getD r 0).toNat + k < ((jg g i c).getD r []).length := by omega
  have hl := E.cutl r
  have hcut := nc (c := c) (r := r) E.sl.hi
  refine ⟨?_, by omega, fun e => ?_, ?_⟩
  · rw [hcut] at hx
    by_cases e : r = i
    · subst e; rw [if_pos rfl, List.length_take] at hx; omega
    · rw [if_neg e] at hx; exact hx
  · rw [hcut, if_pos e.1, List.length_take] at hx
    omega
  · rw [fc]
    exact zI E.sl.hi hx
theorem v9.uC (E : v9 t n g i c) {r : Nat} (hr : r < (az (outer t) i).length) :
    (az (outer t) i).getD r 0 = (az t.1 n).getD r 0 + (((cl (az t.1 n) (jg g i c) (az (outer t) i).length).getD r []).length : Int) := by
  have hq := E.sl.q0 r
  have hi := E.ins r
  have hl := E.cutl r
  rw [dm hr, List.length_drop]
  omega
theorem v9.tab (E : v9 t n g i c) (h : cz t = true) (hn : n < t.1.length) (hc : t.1.getD (n + 1) 0 < t.1.getD n 0) :
    cz (az t.1 n, cl (az t.1 n) (jg g i c) (az (outer t) i).length) = true := by
  obtain ⟨hp, ho, hl, _⟩ := ct h
  have hqp := ic hp hn hc
  have hop := ic ho E.hi E.cor
  generalize hR : cl (az t.1 n) (jg g i c) (az (outer t) i).length = R
  have hRl : R.length = (az (outer t) i).length := by rw [← hR, b8]
  have cell : ∀ {r k : Nat}, r < R.length → k < (R.getD r []).length → ((az t.1 n).getD r 0).toNat + k < (g.getD r []).length ∧ ((((az t.1 n).getD r 0).toNat + k : Nat) : Int) < (az (outer t) i).getD r 0 ∧ ¬ (r = i ∧ ((az t.1 n).getD r 0).toNat + k = c) ∧ (R.getD r []).getD k 0 = cel g r (((az t.1 n).getD r 0).toNat + k) := by
    intro r k hr hk
    subst hR
    exact E.cell (by omega) hk
  have uC : ∀ {r : Nat}, r < R.length → (az (outer t) i).getD r 0 = (az t.1 n).getD r 0 + ((R.getD r []).length : Int) := by
    intro r hr
    subst hR
    exact E.uC (by omega)
  have q0 := E.sl.q0
  have hout : outer (az t.1 n, R) = az (outer t) i := by
    refine List.ext_getElem (by rw [ck]; exact hRl) fun r h1 h2 => ?_
    rw [← aB h1 0, ← aB h2 0]
    have h3 : r < R.length := by omega
    have := e9 (az t.1 n) R 0 r h3
    rw [Nat.zero_add] at this
    unfold outer
    rw [this]
    exact (uC h3).symm
  have hlen : (az t.1 n).length ≤ R.length := by
    refine Nat.le_of_not_lt fun hlt => ?_
    have a := sJ hp hn hc hlt
    have b := E.ins R.length
    rw [bw (xs := az (outer t) i) (by omega)] at b
    omega
  have om := dV hop
  simp only [cz, dB, dQ, Bool.and_eq_true, decide_eq_true_eq]
  rw [hout]
  refine ⟨⟨hqp, hlen, hqp, hop, by omega, ?_⟩, ?_⟩
  · rw [dZ]
    intro r _
    exact decide_eq_true (E.ins r)
  · rw [dZ]
    intro r hr
    rw [dZ]
    intro k hk
    have hq := q0 r
    obtain ⟨c1, c2, c3, c4⟩ := cell hr hk
    have hx : (az t.1 n).getD r 0 ≤ ((((az t.1 n).getD r 0).toNat + k : Nat) : Int) := by omega
    have hnum := E.sl.num r _ hx c1 c3
    simp only [fm, within, Bool.and_eq_true, Bool.or_eq_true, decide_eq_true_eq]
    rw [c4]
    refine ⟨hnum, ?_, ?_⟩
    · cases k with
      | zero => exact .inl rfl
      | succ k =>
        obtain ⟨d1, d2, d3, d4⟩ := cell hr (show k < (R.getD r []).length by omega)
        right
        rw [show k + 1 - 1 = k from rfl, d4]
        exact E.sl.row r (((az t.1 n).getD r 0).toNat + k) (by omega) (by omega) d3 (by omega)
    · cases r with
      | zero => exact .inl rfl
      | succ r =>
        right
        have hr' : r < R.length := by omega
        have em : ((r + 1 : Nat) : Int) - 1 = (r : Int) := by omega
        rw [em, jB hr']
        have hqr := q0 r
        have hrl := uC hr'
        have hom := om r
        simp only
        by_cases e : (az t.1 n).getD (r + 1) 0 + (k : Int) < (az t.1 n).getD r 0
        · rw [lG (by omega)]; omega
        · obtain ⟨y, hy⟩ : ∃ y : Nat, (az t.1 n).getD (r + 1) 0 + (k : Int) - (az t.1 n).getD r 0 = y := ⟨((az t.1 n).getD (r + 1) 0 + (k : Int) - (az t.1 n).getD r 0).toNat, by omega⟩
          rw [hy, cm]
          obtain ⟨d1, d2, d3, d4⟩ := cell hr' (show y < (R.getD r []).length by omega)
          have ey : ((az t.1 n).getD r 0).toNat + y = ((az t.1 n).getD (r + 1) 0).toNat + k := by omega
          rw [d4, ey]
          rw [ey] at d3
          exact E.sl.col r _ (by omega) c1 d3 c3
end
theorem gI {t : Tab} (h : cz t = true) {n : Nat} (hn : n < t.1.length) (hc : t.1.getD (n + 1) 0 < t.1.getD n 0) : cz (cf t n).1 = true := (AR h hn hc).1.tab h hn hc
theorem gH {t : Tab} (h : cz t = true) : t.1.length ≤ 9 ∧ dk 9 9 t.2 := by
  obtain ⟨hp, ho, hl, _⟩ := ct h
  have h9 := (bn ho).2.2.1
  rw [ck] at h9
  refine ⟨by omega, h9, fun r hr => ?_⟩
  obtain ⟨k, hk, rfl⟩ := List.getElem_of_mem hr
  have a := eF hp k
  have b := (cY ho k).2
  rw [cm] at b
  rw [kM hk] at a
  rw [← aB hk []]
  omega
theorem pJ {p : List Int} {n : Nat} (hp : bN p = true) (hn : n < p.length) (hc : p.getD (n + 1) 0 < p.getD n 0) : dC (az p n) = dC p - 1 := by
  unfold az
  split
  · next h =>
    have hl := oz hp hc h
    rw [vX p n (by omega)]
    omega
  · rw [n5 p n _ hn]
    omega
def jj : Nat → Tab → Tab
  | 0, t => t
  | m + 1, t => if t.1.length = 0 then t else jj m (cf t (t.1.length - 1)).1
def cN (t : Tab) : Tab × Bool := if cz t = true then (jj 9 t, true) else (([], []), false)
theorem j7 {p : List Int} (hp : bN p = true) (h : 0 < p.length) : p.getD (p.length - 1 + 1) 0 < p.getD (p.length - 1) 0 := by
  rw [bw (by omega), aB (show p.length - 1 < p.length by omega)]
  have := (bn hp).1 _ (List.getElem_mem (show p.length - 1 < p.length by omega))
  omega
theorem uv : ∀ (m : Nat) (t : Tab), cz t = true → cz (jj m t) = true
  | 0, t, h => h
  | m + 1, t, h => by
    unfold jj
    split
    · exact h
    · exact uv m _ (gI h (by omega) (j7 (ct h).1 (by omega)))
end Go.Am.Pu
namespace Go.Am.Pu
theorem wg {t : Tab} : lN (cN t).1 := by
  unfold cN
  cases h : cz t with
  | false => exact ⟨by simp, by simp, fun r hr => by simp at hr⟩
  | true =>
    rw [if_pos rfl]
    obtain ⟨a, b⟩ := gH (uv 9 t h)
    exact ⟨by simp only; omega, by have := b.1; simp only; omega, fun r hr => by have := b.2 r hr; omega⟩
end Go.Am.Pu
end
section
/- Taking the least number out of a plain tableau; evacuation. Plain words. -/
namespace Go.Am.Pu
theorem v9.out {t : Tab} {n : Nat} {g : List (List Int)} {i c : Nat} (E : v9 t n g i c) :
    outer (az t.1 n, cl (az t.1 n) (jg g i c) (az (outer t) i).length) = az (outer t) i := by
  refine List.ext_getElem (by rw [ck]; exact b8 _ _ _) fun r h1 h2 => ?_
  rw [← aB h1 0, ← aB h2 0]
  have h3 : r < (cl (az t.1 n) (jg g i c) (az (outer t) i).length).length := by rw [b8]; exact h2
  have := e9 (az t.1 n) (cl (az t.1 n) (jg g i c) (az (outer t) i).length) 0 r h3
  rw [Nat.zero_add] at this
  exact this.trans (E.uC h2).symm
theorem vZ {t : Tab} (h : cV t = true) {r : Nat} (hr : r < t.2.length) : 1 ≤ (t.2.getD r []).length := by
  have hl := gp h hr
  have hp := (bn (jJ h)).1 ((outer t)[r]'(by rw [ck]; exact hr)) (List.getElem_mem _)
  rw [aB (by rw [ck]; exact hr)] at hl
  omega
theorem uR {t : Tab} (h : cV t = true) : dC (outer t) = t.2.flatten.length := by
  unfold outer
  exact oE t.1 t.2 0 fun q _ => by rw [j2 h]; rfl
end Go.Am.Pu
end
section
/- Promotion. Plain words. -/
namespace Go.Am.Pu
def Small (rs : List (List Int)) : Prop := ∀ i q, -100 ≤ (rs.getD i []).getD q 0 ∧ (rs.getD i []).getD q 0 ≤ 100
end Go.Am.Pu
end
section
/- Slides undone. Plain words. -/
namespace Go.Am.Pu
def leftOf (g : List (List Int)) (i c : Nat) : Int := if c = 0 then 0 else cel g i (c - 1)
def fz (g : List (List Int)) (i c : Nat) : Int := if i = 0 then 0 else cel g (i - 1) c
def cp : Nat → List (List Int) → Nat → Nat → List (List Int) × (Nat × Nat)
  | 0, g, i, c => (g, (i, c))
  | m + 1, g, i, c => if leftOf g i c = 0 ∧ fz g i c = 0 then (g, (i, c))
    else if leftOf g i c ≤ fz g i c then cp m (dq g i c (fz g i c)) (i - 1) c
    else cp m (dq g i c (leftOf g i c)) i (c - 1)
theorem Ab {g : List (List Int)} {i c : Nat} (h1 : leftOf g i c = 0) (h2 : fz g i c = 0) : ∀ m, cp m g i c = (g, (i, c))
  | 0 => rfl
  | m + 1 => by unfold cp; rw [if_pos ⟨h1, h2⟩]
structure Ag (f : Int → Int) (g h : List (List Int)) (i c : Nat) : Prop where
  len : h.length = g.length
  row : ∀ r, (h.getD r []).length = (g.getD r []).length
  at_ : ∀ r x, ¬ (r = i ∧ x = c) → cel h r x = f (cel g r x)
def Inn (q : List Int) (g : List (List Int)) : Prop := ∀ r x : Nat, (x : Int) < q.getD r 0 → cel g r x = 0
theorem Inn.step {q : List Int} {g : List (List Int)} {i c : Nat} (h : Inn q g) (hq : q.getD i 0 ≤ c) (v : Int) : Inn q (dq g i c v) := by
  intro r x hx
  by_cases e : r = i ∧ x = c
  · obtain ⟨rfl, rfl⟩ := e; omega
  · rw [eu _ e]; exact h r x hx
theorem wO {V : Int → Prop} {g : List (List Int)} (h : ∀ r x, V (cel g r x)) (i c a b : Nat) : ∀ r x, V (cel (dq g i c (cel g a b)) r x) := by
  intro r x
  by_cases e : r = i ∧ x = c
  · obtain ⟨rfl, rfl⟩ := e
    by_cases h1 : r < g.length
    · by_cases h2 : x < (g.getD r []).length
      · rw [fp _ h1 h2]; exact h a b
      · have hl := bm g r x (cel g a b) r
        have e0 : cel (dq g r x (cel g a b)) r x = cel g r x := by
          show ((dq g r x (cel g a b)).getD r []).getD x 0 = (g.getD r []).getD x 0
          rw [bw (xs := (dq g r x (cel g a b)).getD r []) (by omega), bw (xs := g.getD r []) (by omega)]
        rw [e0]; exact h r x
    · have e0 : cel (dq g r x (cel g a b)) r x = cel g r x := by
        show ((dq g r x (cel g a b)).getD r []).getD x 0 = (g.getD r []).getD x 0
        rw [bw (xs := dq g r x (cel g a b)) (by rw [cj]; omega), bw (xs := g) (by omega)]
      rw [e0]; exact h r x
  · rw [eu _ e]; exact h r x
theorem Ag.down {f : Int → Int} {q : List Int} {g h : List (List Int)} {i c : Nat} (hs : Sl q g i c) (hi : Inn q g) (hf : ∀ a b x y, cel g a b < cel g x y → f (cel g a b) < f (cel g x y)) (f0 : f 0 = 0)
    (hb : cel g (i + 1) c ≠ 0) (ha : Ag f (dq g i c (cel g (i + 1) c)) h (i + 1) c) :
    ∃ h', Ag f g h' i c ∧ ∀ m, cp (m + 1) h (i + 1) c = cp m h' i c := by
  obtain ⟨b1, b2⟩ := iq hb
  have mono : ∀ a b x y, cel g a b ≤ cel g x y → f (cel g a b) ≤ f (cel g x y) := fun a b x y hh => by
    rcases Int.lt_or_eq_of_le hh with h1 | h1
    · exact Int.le_of_lt (hf _ _ _ _ h1)
    · rw [h1]; exact Int.le_refl _
  have f0' : ∀ a b, cel g a b = 0 → f (cel g a b) = 0 := fun a b e => by rw [e]; exact f0
  have hu : fz h (i + 1) c = f (cel g (i + 1) c) := by
    unfold fz
    rw [if_neg (by omega), show i + 1 - 1 = i by omega, ha.at_ i c (by omega), fp _ hs.hi hs.hc]
  have hpos : 0 < f (cel g (i + 1) c) := by
    have hp := hs.pos (i + 1) c
    have := hf g.length 0 (i + 1) c (by
      have : cel g g.length 0 = 0 := by unfold cel; rw [bw (Nat.le_refl _)]; rfl
      omega)
    have e : cel g g.length 0 = 0 := by unfold cel; rw [bw (Nat.le_refl _)]; rfl
    rw [e, f0] at this
    exact this
  have hl : leftOf h (i + 1) c ≤ f (cel g (i + 1) c) := by
    unfold leftOf
    by_cases e : c = 0
    · rw [if_pos e]; omega
    · rw [if_neg e, ha.at_ _ _ (by omega), eu _ (by omega)]
      by_cases hq : q.getD (i + 1) 0 ≤ ((c - 1 : Nat) : Int)
      · have hr := hs.row (i + 1) (c - 1) hq (by omega) (by omega) (by omega)
        rw [show c - 1 + 1 = c by omega] at hr
        exact mono _ _ _ _ hr
      · rw [f0' _ _ (hi (i + 1) (c - 1) (by omega))]; omega
  have hhi : i + 1 < h.length := by rw [ha.len, cj]; exact b1
  have hhc : c < (h.getD (i + 1) []).length := by rw [ha.row, bm]; exact b2
  refine ⟨dq h (i + 1) c (fz h (i + 1) c), ⟨by rw [cj, ha.len, cj], fun r => by rw [bm, ha.row, bm], fun r x hn => ?_⟩, fun m => ?_⟩
  · by_cases e : r = i + 1 ∧ x = c
    · obtain ⟨rfl, rfl⟩ := e
      rw [fp _ hhi hhc, hu]
    · rw [eu _ e, ha.at_ r x e, eu _ hn]
  · conv => lhs; unfold cp
    rw [if_neg (by omega), if_pos (by omega)]
    rfl
theorem Ag.right {f : Int → Int} {q : List Int} {g h : List (List Int)} {i c : Nat} (hs : Sl q g i c) (hi : Inn q g) (hf : ∀ a b x y, cel g a b < cel g x y → f (cel g a b) < f (cel g x y)) (f0 : f 0 = 0)
    (hr : cel g i (c + 1) ≠ 0) (ha : Ag f (dq g i c (cel g i (c + 1))) h i (c + 1)) :
    ∃ h', Ag f g h' i c ∧ ∀ m, cp (m + 1) h i (c + 1) = cp m h' i c := by
  obtain ⟨b1, b2⟩ := iq hr
  have f0' : ∀ a b, cel g a b = 0 → f (cel g a b) = 0 := fun a b e => by rw [e]; exact f0
  have hl : leftOf h i (c + 1) = f (cel g i (c + 1)) := by
    unfold leftOf
    rw [if_neg (by omega), show c + 1 - 1 = c by omega, ha.at_ i c (by omega), fp _ hs.hi hs.hc]
  have hpos : 0 < f (cel g i (c + 1)) := by
    have hp := hs.pos i (c + 1)
    have e : cel g g.length 0 = 0 := by unfold cel; rw [bw (Nat.le_refl _)]; rfl
    have := hf g.length 0 i (c + 1) (by omega)
    rw [e, f0] at this
    exact this
  have hu : fz h i (c + 1) < f (cel g i (c + 1)) := by
    unfold fz
    by_cases e : i = 0
    · rw [if_pos e]; exact hpos
    · rw [if_neg e, ha.at_ _ _ (by omega), eu _ (by omega)]
      by_cases hq : q.getD (i - 1) 0 ≤ ((c + 1 : Nat) : Int)
      · have hc := hs.col (i - 1) (c + 1) hq (by rw [show i - 1 + 1 = i by omega]; exact b2) (by omega) (by omega)
        rw [show i - 1 + 1 = i by omega] at hc
        exact hf _ _ _ _ hc
      · rw [f0' _ _ (hi (i - 1) (c + 1) (by omega))]; exact hpos
  have hhi : i < h.length := by rw [ha.len, cj]; exact b1
  have hhc : c + 1 < (h.getD i []).length := by rw [ha.row, bm]; exact b2
  refine ⟨dq h i (c + 1) (leftOf h i (c + 1)), ⟨by rw [cj, ha.len, cj], fun r => by rw [bm, ha.row, bm], fun r x hn => ?_⟩, fun m => ?_⟩
  · by_cases e : r = i ∧ x = c + 1
    · obtain ⟨rfl, rfl⟩ := e
      rw [fp _ hhi hhc, hl]
    · rw [eu _ e, ha.at_ r x e, eu _ hn]
  · conv => lhs; unfold cp
    rw [if_neg (by omega), if_neg (by omega)]
    rfl
theorem pj {f : Int → Int} {V : Int → Prop} (hf : ∀ u v, V u → V v → u < v → f u < f v) (f0 : f 0 = 0) {q : List Int} : ∀ (m : Nat) (g : List (List Int)) (i c : Nat), Sl q g i c → Inn q g → (∀ r x, V (cel g r x)) →
    ∀ h, Ag f (bI m g i c).1 h (bI m g i c).2.1 (bI m g i c).2.2 → ∃ n h', Ag f g h' i c ∧ i + c + n = (bI m g i c).2.1 + (bI m g i c).2.2 ∧ ∀ m0, cp (m0 + n) h (bI m g i c).2.1 (bI m g i c).2.2 = cp m0 h' i c
  | 0, g, i, c, _, _, _, h, ha => ⟨0, h, ha, rfl, fun _ => rfl⟩
  | m + 1, g, i, c, hs, hi, hv, h, ha => by
    unfold bI at ha ⊢
    by_cases c1 : cel g i (c + 1) = 0 ∧ cel g (i + 1) c = 0
    · rw [if_pos c1] at ha ⊢
      exact ⟨0, h, ha, rfl, fun _ => rfl⟩
    · rw [if_neg c1] at ha ⊢
      have hf' : ∀ a b x y, cel g a b < cel g x y → f (cel g a b) < f (cel g x y) := fun a b x y hh => hf _ _ (hv a b) (hv x y) hh
      by_cases c2 : cel g i (c + 1) = 0 ∨ (0 < cel g (i + 1) c ∧ cel g (i + 1) c ≤ cel g i (c + 1))
      · rw [if_pos c2] at ha ⊢
        have hb : cel g (i + 1) c ≠ 0 := fun e => c2.elim (fun e1 => c1 ⟨e1, e⟩) (fun e1 => by omega)
        obtain ⟨n, h1, a1, a2, a3⟩ := pj hf f0 m _ _ _ (hs.down hb c2) (hi.step hs.hq _) (wO hv _ _ _ _) h ha
        obtain ⟨h2, d1, d2⟩ := Ag.down hs hi hf' f0 hb a1
        exact ⟨n + 1, h2, d1, by omega, fun m0 => by rw [show m0 + (n + 1) = (m0 + 1) + n by omega, a3, d2]⟩
      · rw [if_neg c2] at ha ⊢
        have hr : cel g i (c + 1) ≠ 0 := fun e => c2 (.inl e)
        obtain ⟨n, h1, a1, a2, a3⟩ := pj hf f0 m _ _ _ (hs.right hr (fun e => c2 (.inr e))) (hi.step hs.hq _) (wO hv _ _ _ _) h ha
        obtain ⟨h2, d1, d2⟩ := Ag.right hs hi hf' f0 hr a1
        exact ⟨n + 1, h2, d1, by omega, fun m0 => by rw [show m0 + (n + 1) = (m0 + 1) + n by omega, a3, d2]⟩
def Occ (q : List Int) (v : Int) (g : List (List Int)) (i c : Nat) : Prop := ∃ r x : Nat, ¬ (r = i ∧ x = c) ∧ x < (g.getD r []).length ∧ q.getD r 0 ≤ x ∧ cel g r x = v
theorem Occ.step {q : List Int} {v : Int} {g : List (List Int)} {i c a b : Nat} (h : Occ q v g i c) (hi : i < g.length) (hc : c < (g.getD i []).length) (hq : q.getD i 0 ≤ c) (hne : ¬ (a = i ∧ b = c)) : Occ q v (dq g i c (cel g a b)) a b := by
  obtain ⟨r, x, h1, h2, h3, h4⟩ := h
  by_cases e : r = a ∧ x = b
  · obtain ⟨rfl, rfl⟩ := e
    exact ⟨i, c, fun e => hne ⟨e.1.symm, e.2.symm⟩, by rw [bm]; exact hc, hq, by rw [fp _ hi hc]; exact h4⟩
  · exact ⟨r, x, e, by rw [bm]; exact h2, h3, by rw [eu _ h1]; exact h4⟩
end Go.Am.Pu
end
section
/- Promotion of a standard tableau is standard, of the same shape, and can be undone. Plain words. -/
namespace Go.Am.Pu
theorem ri {t : Tab} (h0 : t.1 = []) (hp : bN (outer t) = true) (hn : ∀ r x, r < t.2.length → x < (t.2.getD r []).length → 1 ≤ cel t.2 r x ∧ cel t.2 r x ≤ 9)
    (hr : ∀ r x, r < t.2.length → x + 1 < (t.2.getD r []).length → cel t.2 r x ≤ cel t.2 r (x + 1)) (hc : ∀ r x, r + 1 < t.2.length → x < (t.2.getD (r + 1) []).length → cel t.2 r x < cel t.2 (r + 1) x) : cV t = true := by
  simp only [cV, cz, dB, dQ, Bool.and_eq_true, decide_eq_true_eq, h0]
  refine ⟨⟨⟨rfl, by simp, rfl, hp, by simp, ?_⟩, ?_⟩, rfl⟩
  · rw [dZ]
    intro i hi
    simp at hi
  · rw [dZ]
    intro r hr'
    rw [dZ]
    intro k hk
    simp only [fm, within, Bool.and_eq_true, Bool.or_eq_true, decide_eq_true_eq]
    refine ⟨hn r k hr' hk, ?_, ?_⟩
    · by_cases e : k = 0
      · exact .inl e
      · right
        have := hr r (k - 1) hr' (by omega)
        rw [show k - 1 + 1 = k by omega] at this
        exact this
    · by_cases e : r = 0
      · exact .inl e
      · right
        have := hc (r - 1) k (by omega) (by rw [show r - 1 + 1 = r by omega]; exact hk)
        rw [show r - 1 + 1 = r by omega] at this
        rw [show (r : Int) - 1 = ((r - 1 : Nat) : Int) by omega, jB (by omega), h0]
        simp only [List.getD_nil]
        rw [show (0 : Int) + (k : Int) - 0 = (k : Int) by omega, cm]
        exact this
theorem lC {t : Tab} (h : cV t = true) : (∀ r x, r < t.2.length → x < (t.2.getD r []).length → 1 ≤ cel t.2 r x ∧ cel t.2 r x ≤ 9) ∧ (∀ r x, r < t.2.length → x + 1 < (t.2.getD r []).length → cel t.2 r x ≤ cel t.2 r (x + 1)) := by
  have h' := h
  simp only [cV, Bool.and_eq_true] at h'
  obtain ⟨_, _, _, hc⟩ := ct h'.1
  refine ⟨fun r x hr hx => ?_, fun r x hr hx => ?_⟩
  · have := hc r x hr hx
    simp only [fm, within, Bool.and_eq_true, decide_eq_true_eq] at this
    exact this.1
  · have := hc r (x + 1) hr hx
    simp only [fm, within, Bool.and_eq_true, Bool.or_eq_true, decide_eq_true_eq] at this
    exact this.2.1.resolve_left (by omega)
theorem lu {rs : List (List Int)} {r x : Nat} (hr : r < rs.length) (hx : x < (rs.getD r []).length) : cel rs r x ∈ rs.flatten := by
  refine List.mem_flatten.2 ⟨rs.getD r [], by rw [aB hr]; exact List.getElem_mem hr, ?_⟩
  unfold cel
  rw [aB hx]
  exact List.getElem_mem hx
theorem qe {rs : List (List Int)} {v : Int} (h : v ∈ rs.flatten) : ∃ r x, r < rs.length ∧ x < (rs.getD r []).length ∧ cel rs r x = v := by
  obtain ⟨l, hl, hv⟩ := List.mem_flatten.1 h
  obtain ⟨r, hr, rfl⟩ := List.getElem_of_mem hl
  obtain ⟨x, hx, rfl⟩ := List.getElem_of_mem hv
  have e := aB hr ([] : List Int)
  refine ⟨r, x, hr, by rw [e]; exact hx, ?_⟩
  unfold cel
  rw [e, aB hx]
theorem m9 {t : Tab} (h : cV t = true) (hs : iY t = true) : t.2.flatten.Nodup ∧ (∀ x ∈ t.2.flatten, 1 ≤ x ∧ x ≤ t.2.flatten.length) := by
  simp only [iY, Bool.and_eq_true] at hs
  have h1 := wH hs.1
  obtain ⟨a, b⟩ := (yw fun x hx => (h1 x hx).1).1 hs.2
  exact ⟨a, fun x hx => ⟨(h1 x hx).1, b x hx⟩⟩
end Go.Am.Pu
end
section
/- Promotion keeps shapes and standardness. Plain words. -/
namespace Go.Am.Pu
section
variable {t : Tab}
theorem g8 {xs ys : List Int} {x : Nat} (h : x < xs.length) : (xs ++ ys).getD x 0 = xs.getD x 0 := by
  simp only [List.getD_eq_getElem?_getD, List.getElem?_append_left h]
theorem jy {xs ys : List Int} {x : Nat} (h : xs.length ≤ x) : (xs ++ ys).getD x 0 = ys.getD (x - xs.length) 0 := by
  simp only [List.getD_eq_getElem?_getD, List.getElem?_append_right h]
end
end Go.Am.Pu
end
section
/- Promotion undone: it is one to one. Plain words. -/
namespace Go.Am.Pu
def du (t : Tab) (n : Nat) : List (List Int) :=
  (if n = t.2.length then bT t ++ [[]] else bT t).set n ((if n = t.2.length then bT t ++ [[]] else bT t).getD n [] ++ [0])
section
variable {t : Tab}
theorem xh {p : List Int} {n : Nat} (hp : bN p = true) (hn : n < p.length) (hc : p.getD (n + 1) 0 < p.getD n 0) : dy (az p n) n = (p, true) := by
  have hd := ic hp hn hc
  have hg := iy hp hn hc
  have hl : n ≤ (az p n).length ∧ (if n = (az p n).length then (az p n) ++ [0] else az p n).length = p.length := by
    have hlast := oz hp hc
    unfold az
    split
    · next e =>
      have := hlast e
      rw [List.length_take, if_pos (by omega), List.length_append, List.length_take]
      simp; omega
    · rw [List.length_set, if_neg (by omega), List.length_set]
      exact ⟨by omega, rfl⟩
  have hget : ∀ r, (if n = (az p n).length then (az p n) ++ [0] else az p n).getD r 0 = (az p n).getD r 0 := by
    intro r
    split
    · by_cases hr : r < (az p n).length
      · rw [g8 hr]
      · rw [jy (by omega), bw (xs := az p n) (by omega)]
        cases r - (az p n).length <;> rfl
    · rfl
  have ei : ((n : Int) = ((az p n).length : Int)) = (n = (az p n).length) := by rw [Int.ofNat_inj]
  have key : (if (n : Int) = (az p n).length then az p n ++ [0] else az p n).set (n : Int).toNat ((if (n : Int) = (az p n).length then az p n ++ [0] else az p n).getD (n : Int).toNat 0 + 1) = p := by
    simp only [ei, Int.toNat_natCast]
    refine List.ext_getElem (by rw [List.length_set]; exact hl.2) fun r h1 h2 => ?_
    rw [← aB h1 0, ← aB h2 0]
    by_cases e : r = n
    · subst e
      rw [aB (by rw [List.length_set, hl.2]; exact hn), List.getElem_set_self, hget, hg, if_pos rfl]; omega
    · rw [getD_set_ne (Ne.symm e), hget, hg, if_neg e]
  unfold dy
  rw [if_pos ⟨hd, by omega, by omega⟩]
  simp only [key, hp, if_true]
end
end Go.Am.Pu
end
section
/- Orbits of promotion come back. Plain words. -/
namespace Go.Am.Pu
structure Good (t : Tab) : Prop where
  pl : cV t = true
  st : iY t = true
  ne : t.2.flatten.length ≠ 0
end Go.Am.Pu
end
section
/- A slide outwards, as the program has it; demotion. Plain words. -/
namespace Go.Am.Pu
theorem uP (g : List (List Int)) (i c : Nat) : nJ g i ((c : Int) - 1) = leftOf g i c := by
  unfold leftOf
  by_cases e : c = 0
  · subst e
    unfold nJ
    rw [if_neg (by omega), lG (by omega)]; rfl
  · rw [if_neg e, show (c : Int) - 1 = ((c - 1 : Nat) : Int) by omega, kG]; rfl
theorem zw (g : List (List Int)) (i c : Nat) : nJ g ((i : Int) - 1) c = fz g i c := by
  unfold fz
  by_cases e : i = 0
  · subst e; rw [u4 (by omega)]; rfl
  · rw [if_neg e, show (i : Int) - 1 = ((i - 1 : Nat) : Int) by omega, kG]; rfl
theorem zA {g : List (List Int)} {i c : Nat} (h : leftOf g i c ≠ 0) : 1 ≤ c ∧ i < g.length ∧ c - 1 < (g.getD i []).length := by
  unfold leftOf at h
  by_cases e : c = 0
  · rw [if_pos e] at h; exact absurd rfl h
  · rw [if_neg e] at h
    have := iq h
    exact ⟨by omega, this.1, this.2⟩
theorem Cy {g : List (List Int)} {i c : Nat} (h : fz g i c ≠ 0) : 1 ≤ i ∧ i - 1 < g.length ∧ c < (g.getD (i - 1) []).length := by
  unfold fz at h
  by_cases e : i = 0
  · rw [if_pos e] at h; exact absurd rfl h
  · rw [if_neg e] at h
    have := iq h
    exact ⟨by omega, this.1, this.2⟩
theorem wZ {V : Int → Prop} {g : List (List Int)} (v0 : V 0) (h : ∀ r x, V (cel g r x)) (i c : Nat) : V (leftOf g i c) := by
  unfold leftOf; split
  · exact v0
  · exact h _ _
theorem BQ {V : Int → Prop} {g : List (List Int)} (v0 : V 0) (h : ∀ r x, V (cel g r x)) (i c : Nat) : V (fz g i c) := by
  unfold fz; split
  · exact v0
  · exact h _ _
theorem rZ {g : List (List Int)} (h : ∀ r x, 0 ≤ cel g r x) (i c : Nat) {v : Int} (hv : 0 ≤ v) : ∀ r x, 0 ≤ cel (dq g i c v) r x := by
  intro r x
  by_cases e : r = i ∧ x = c
  · obtain ⟨rfl, rfl⟩ := e
    by_cases h1 : r < g.length
    · by_cases h2 : x < (g.getD r []).length
      · rw [fp _ h1 h2]; exact hv
      · have hl := bm g r x v r
        show 0 ≤ ((dq g r x v).getD r []).getD x 0
        rw [bw (xs := (dq g r x v).getD r []) (by omega)]; omega
    · show 0 ≤ ((dq g r x v).getD r []).getD x 0
      rw [bw (xs := dq g r x v) (by rw [cj]; omega)]; simp
  · rw [eu _ e]; exact h r x
def rS (q : List Int) : Nat → List (List Int) → List (List Int)
  | _, [] => []
  | i, r :: rs => if 0 < r.length then r.drop (q.getD i 0).toNat :: rS q (i + 1) rs else rS q (i + 1) rs
theorem fx {p q : List Int} {n : Nat} (h : dy p n = (q, true)) : n ≤ p.length ∧ n < q.length ∧ q.length ≤ p.length + 1 ∧ (∀ r, q.getD r 0 = if r = n then p.getD n 0 + 1 else p.getD r 0) ∧ bN q = true := by
  have hl := yf p n
  rw [h] at hl
  unfold dy at h
  by_cases hc : bN p = true ∧ (0 : Int) ≤ n ∧ (n : Int) ≤ p.length
  · rw [if_pos hc] at h
    have hn : n ≤ p.length := by omega
    generalize hw : (if (n : Int) = p.length then p ++ [0] else p) = w at h
    have hb : ∀ r, w.getD r 0 = p.getD r 0 := fun r => by
      rw [← hw]
      split
      · by_cases hr : r < p.length
        · rw [g8 hr]
        · rw [jy (by omega), bw (xs := p) (by omega)]
          cases r - p.length <;> rfl
      · rfl
    have hwl : n < w.length := by
      rw [← hw]
      split
      · rw [List.length_append, List.length_singleton]; omega
      · omega
    simp only [Int.toNat_natCast] at h
    by_cases hp : bN (w.set n (w.getD n 0 + 1)) = true
    · rw [if_pos hp] at h
      have h1 := congrArg Prod.fst h
      simp only at h1
      subst h1
      refine ⟨hn, by rw [List.length_set]; exact hwl, hl, fun r => ?_, hp⟩
      by_cases e : r = n
      · subst e
        rw [if_pos rfl, aB (by rw [List.length_set]; exact hwl), List.getElem_set_self, hb]
      · rw [if_neg e, getD_set_ne (Ne.symm e), hb]
    · rw [if_neg hp] at h
      have h2 := congrArg Prod.snd h
      simp at h2
  · rw [if_neg hc] at h
    have h2 := congrArg Prod.snd h
    simp at h2
theorem nY {l m : List Int} (hl : l.length = m.length) (h : ∀ x, x < m.length → l.getD x 0 = m.getD x 0) : l = m :=
  List.ext_getElem hl fun x h1 h2 => by rw [← aB h1 0, ← aB h2 0]; exact h x h2
theorem ox {t : Tab} {n : Nat} (hn : n ≤ t.2.length) (r : Nat) : (du t n).getD r [] = if r = n then (bT t).getD n [] ++ [0] else (bT t).getD r [] := by
  have hb : ∀ r, (if n = t.2.length then bT t ++ [[]] else bT t).getD r [] = (bT t).getD r [] := fun r => by
    split
    · by_cases hr : r < (bT t).length
      · simp only [List.getD_eq_getElem?_getD, List.getElem?_append_left hr]
      · rw [bw (xs := bT t) (by omega)]
        simp only [List.getD_eq_getElem?_getD, List.getElem?_append_right (Nat.le_of_not_lt hr)]
        cases r - (bT t).length <;> rfl
    · rfl
  unfold du
  by_cases e : r = n
  · subst e
    rw [if_pos rfl, aB (by
      rw [List.length_set]
      split
      · rw [List.length_append, List.length_singleton, eY]; omega
      · rw [eY]; omega), List.getElem_set_self, hb]
  · rw [if_neg e, getD_set_ne (Ne.symm e), hb]
theorem zC {t : Tab} {n : Nat} : (du t n).length = if n = t.2.length then t.2.length + 1 else t.2.length := by
  unfold du
  rw [List.length_set]
  split
  · rw [List.length_append, List.length_singleton, eY]
  · rw [eY]
section
variable {u : Tab}
end
end Go.Am.Pu
end
section
/- The last promotion of an orbit; orbits' sizes. Plain words. -/
namespace Go.Am.Pu
def zE (t : Tab) : Prop := t.1 = [] ∧ dk 10 10 t.2
theorem zE.ok {t : Tab} (h : zE t) : lN t := ⟨by rw [h.1]; simp, by have := h.2.1; omega, fun r hr => by have := h.2.2 r hr; omega⟩
theorem zE.size {t : Tab} (h : zE t) : mh t.2 ≤ 100 := by
  have a := td t.2 10 h.2.2
  have b := h.2.1
  omega
section
attribute [local instance] D.real
variable {α β : Type} {x y v : Option α}
theorem bE {x : Option β} {z : β} {f : β → Option α} (h : x = some z) (g : f z = v) : D.bnd x f = v := by rw [h]; exact g
theorem tN (g : x = v) : D.test (D.no true) y x = v := g
theorem tY (g : x = v) : D.test true x y = v := g
theorem tF (g : y = v) : D.test false x y = v := g
theorem tM (g : y = v) : D.test (D.no false) y x = v := g
theorem tG {p : Prop} [Decidable p] (h : p) (g : x = v) : D.test (decide p) x y = v := by
  show (if decide p = true then x else y) = v
  rw [if_pos (decide_eq_true h)]; exact g
theorem tX {p : Prop} [Decidable p] (h : ¬ p) (g : y = v) : D.test (decide p) x y = v := by
  show (if decide p = true then x else y) = v
  rw [decide_eq_false h]; exact g
theorem tE {a b : Int} (h : a = b) (g : x = v) : D.test (D.no (D.eq a b)) y x = v := by
  show (if (!decide (a = b)) = true then y else x) = v
  rw [decide_eq_true h]; exact g
theorem tB {b : Bool} (g : x = v) : D.test (D.no (D.eqB b b)) y x = v := by
  show (if (!(b == b)) = true then y else x) = v
  rw [beq_self_eq_true]; exact g
end
end Go.Am.Pu
end
section
/- Cells taken out of plain tableaux, one behind another. Plain words. -/
namespace Go.Am.Pu
def pR (rs : List (List Int)) : Prop := ∀ i, i + 1 < rs.length → (rs.getD (i + 1) []).length ≤ (rs.getD i []).length ∧ ∀ q, q < (rs.getD (i + 1) []).length → (rs.getD i []).getD q 0 < (rs.getD (i + 1) []).getD q 0
theorem tx {r : List Int} {y : Int} : ∀ {m q : Nat}, lU r y m = some q → ∀ c, q < c → c < m → y ≤ r.getD c 0
  | 0, q, h, _, _, _ => by simp [lU] at h
  | m + 1, q, h, c, h1, h2 => by
    unfold lU at h
    split at h
    · next hc => injection h with h; omega
    · next hc =>
      by_cases e : c = m
      · subst e; omega
      · exact tx h c h1 (by omega)
theorem re : ∀ (r : Nat) (rs : List (List Int)) (y : Int), (mw r rs y).1.length = rs.length ∧ ∀ i, ((mw r rs y).1.getD i []).length = (rs.getD i []).length
  | 0, _, _ => ⟨rfl, fun _ => rfl⟩
  | r + 1, rs, y => by
    unfold mw
    split
    · next q hq =>
      obtain ⟨a, b⟩ := re r (rs.set r ((rs.getD r []).set q y)) ((rs.getD r []).getD q 0)
      refine ⟨by rw [a, List.length_set], fun i => ?_⟩
      rw [b]
      by_cases e : i = r
      · subst e
        by_cases h : i < rs.length
        · rw [aB (by rw [List.length_set]; exact h), List.getElem_set_self, List.length_set]
        · rw [bw (by rw [List.length_set]; omega), bw (xs := rs) (by omega)]
      · rw [getD_set_ne (Ne.symm e)]
    · exact re r rs y
theorem uZ : ∀ (r : Nat) (rs : List (List Int)) (y : Int) (q : Nat), r < rs.length → (∀ i, i + 1 < r → (rs.getD (i + 1) []).length ≤ (rs.getD i []).length ∧ ∀ q, q < (rs.getD (i + 1) []).length → (rs.getD i []).getD q 0 < (rs.getD (i + 1) []).getD q 0) →
    (∀ i, r ≤ i → i + 1 < rs.length → (rs.getD (i + 1) []).length ≤ (rs.getD i []).length ∧ ∀ q, q < (rs.getD (i + 1) []).length → (rs.getD i []).getD q 0 < (rs.getD (i + 1) []).getD q 0) →
    (∀ i, i + 1 = r → (rs.getD r []).length ≤ (rs.getD i []).length ∧ q < (rs.getD i []).length ∧ (rs.getD i []).getD q 0 < y ∧ (∀ c, c < (rs.getD r []).length → c ≠ q → (rs.getD i []).getD c 0 < (rs.getD r []).getD c 0) ∧ (∀ c, q ≤ c → c < (rs.getD r []).length → y < (rs.getD r []).getD c 0)) →
    pR (mw r rs y).1
  | 0, rs, y, q, hr, _, hB, _ => fun i hi => hB i (Nat.zero_le _) hi
  | r + 1, rs, y, q, hr, hA, hB, hI => by
    obtain ⟨i1, i2, i3, i4, i5⟩ := hI r rfl
    obtain ⟨q0, hq0⟩ := u7 i2 i3
    have hmax := tx hq0
    obtain ⟨k1, k2⟩ := rB hq0
    have hqq : q ≤ q0 := Nat.le_of_not_lt fun hlt => by
      have := hmax q hlt i2
      omega
    unfold mw
    rw [hq0]
    have hrow : (rs.set r ((rs.getD r []).set q0 y)).getD r [] = (rs.getD r []).set q0 y := by
      rw [aB (by rw [List.length_set]; omega), List.getElem_set_self]
    have hne : ∀ i, i ≠ r → (rs.set r ((rs.getD r []).set q0 y)).getD i [] = rs.getD i [] := fun i h => getD_set_ne (Ne.symm h) _ _
    have hset : ∀ c, c ≠ q0 → ((rs.getD r []).set q0 y).getD c 0 = (rs.getD r []).getD c 0 := fun c h => getD_set_ne (Ne.symm h) _ _
    have hself : ((rs.getD r []).set q0 y).getD q0 0 = y := by rw [aB (by rw [List.length_set]; exact k1), List.getElem_set_self]
    refine uZ r _ _ q0 (by rw [List.length_set]; omega) (fun i hi => ?_) (fun i hi hl => ?_) (fun i hi => ?_)
    · rw [hne _ (by omega), hne _ (by omega)]
      exact hA i (by omega)
    · rw [List.length_set] at hl
      by_cases e : i = r
      · subst e
        rw [hne (i + 1) (by omega), hrow, List.length_set]
        refine ⟨i1, fun c hc => ?_⟩
        by_cases e2 : c = q0
        · subst e2; rw [hself]; exact i5 c hqq hc
        · rw [hset c e2]
          by_cases e3 : c = q
          · subst e3
            have := i5 c (Nat.le_refl _) hc
            omega
          · exact i4 c hc e3
      · rw [hne (i + 1) (by omega), hne i e]
        exact hB i (by omega) hl
    · subst hi
      obtain ⟨a1, a2⟩ := hA i (by omega)
      rw [hrow, hne i (by omega), List.length_set]
      refine ⟨a1, by omega, a2 q0 k1, fun c hc e => ?_, fun c h1 h2 => ?_⟩
      · rw [hset c e]; exact a2 c hc
      · by_cases e : c = q0
        · subst e; rw [hself]; exact k2
        · rw [hset c e]
          have := hmax c (by omega) h2
          omega
def dn (rs : List (List Int)) (r : Nat) : List (List Int) :=
  if (rs.getD r []).length = 1 then (rs.set r ((rs.getD r []).take ((rs.getD r []).length - 1))).take r else rs.set r ((rs.getD r []).take ((rs.getD r []).length - 1))
def fO (a b : List (List Int)) : Prop := a.length = b.length ∧ ∀ i, (a.getD i []).length = (b.getD i []).length
theorem dH {α : Type} {l : List α} {n i : Nat} (h : i < n) (d : α) : (l.take n).getD i d = l.getD i d := by
  simp only [List.getD_eq_getElem?_getD, List.getElem?_take, if_pos h]
theorem uS {a b : List (List Int)} (h : fO a b) (n : Nat) : fO (a.take n) (b.take n) := by
  refine ⟨by rw [List.length_take, List.length_take, h.1], fun i => ?_⟩
  by_cases hi : i < n
  · rw [dH hi, dH hi]; exact h.2 i
  · rw [bw (xs := a.take n) (by rw [List.length_take]; omega), bw (xs := b.take n) (by rw [List.length_take]; omega)]
theorem vN (rs : List (List Int)) (r : Nat) : fO (lI rs r).1 (dn rs r) := by
  have a := re r (rs.set r ((rs.getD r []).take ((rs.getD r []).length - 1))) ((rs.getD r []).getD ((rs.getD r []).length - 1) 0)
  unfold lI dn
  simp only
  split
  · exact uS a r
  · exact a
theorem xH {a b : List (List Int)} (h : fO a b) (r : Nat) : fO (dn a r) (dn b r) := by
  have hs : fO (a.set r ((a.getD r []).take ((a.getD r []).length - 1))) (b.set r ((b.getD r []).take ((b.getD r []).length - 1))) := by
    refine ⟨by rw [List.length_set, List.length_set, h.1], fun i => ?_⟩
    by_cases e : i = r
    · subst e
      by_cases hi : i < a.length
      · rw [aB (xs := a.set _ _) (by rw [List.length_set]; exact hi), List.getElem_set_self, aB (xs := b.set _ _) (by rw [List.length_set, ← h.1]; exact hi), List.getElem_set_self, List.length_take, List.length_take, h.2 i]
      · rw [bw (xs := a.set _ _) (by rw [List.length_set]; omega), bw (xs := b.set _ _) (by rw [List.length_set, ← h.1]; omega)]
    · rw [getD_set_ne (Ne.symm e), getD_set_ne (Ne.symm e)]; exact h.2 i
  unfold dn
  rw [h.2 r]
  split
  · rw [← h.2 r] ; rw [h.2 r] at *; exact uS hs r
  · rw [h.2 r] at hs; exact hs
theorem fO.trans {a b c : List (List Int)} (h : fO a b) (h' : fO b c) : fO a c := ⟨h.1.trans h'.1, fun i => (h.2 i).trans (h'.2 i)⟩
theorem BA {rs : List (List Int)} (h : pR rs) (n : Nat) : pR (rs.take n) := by
  intro i hi
  rw [List.length_take] at hi
  rw [dH (by omega), dH (by omega)]
  exact h i (by omega)
theorem ya {rs : List (List Int)} {r : Nat} (h : pR rs) (hr : r < rs.length) (hl : 1 ≤ (rs.getD r []).length) (hc : (rs.getD (r + 1) []).length < (rs.getD r []).length) : pR (lI rs r).1 := by
  have hrow : (rs.set r ((rs.getD r []).take ((rs.getD r []).length - 1))).getD r [] = (rs.getD r []).take ((rs.getD r []).length - 1) := by
    rw [aB (by rw [List.length_set]; exact hr), List.getElem_set_self]
  have hne : ∀ i, i ≠ r → (rs.set r ((rs.getD r []).take ((rs.getD r []).length - 1))).getD i [] = rs.getD i [] := fun i h => getD_set_ne (Ne.symm h) _ _
  have key : pR (mw r (rs.set r ((rs.getD r []).take ((rs.getD r []).length - 1))) ((rs.getD r []).getD ((rs.getD r []).length - 1) 0)).1 := by
    refine uZ r _ _ ((rs.getD r []).length - 1) (by rw [List.length_set]; exact hr) (fun i hi => ?_) (fun i hi hil => ?_) (fun i hi => ?_)
    · rw [hne _ (by omega), hne _ (by omega)]; exact h i (by omega)
    · rw [List.length_set] at hil
      by_cases e : i = r
      · subst e
        rw [hne (i + 1) (by omega), hrow, List.length_take]
        refine ⟨by omega, fun c hc' => ?_⟩
        rw [dH (by omega)]
        exact (h i hil).2 c hc'
      · rw [hne (i + 1) (by omega), hne i e]; exact h i hil
    · subst hi
      obtain ⟨a1, a2⟩ := h i hr
      rw [hrow, hne i (by omega), List.length_take]
      refine ⟨by omega, by omega, a2 _ (by omega), fun c h1 h2 => ?_, fun c h1 h2 => by omega⟩
      rw [dH (by omega)]
      exact a2 c (by omega)
  unfold lI
  simp only
  split
  · exact BA key r
  · exact key
end Go.Am.Pu
end
section
/- The greatest number of a standard tableau, and the tableau without it; a pair of tableaux unrolled. Plain words. -/
namespace Go.Am.Pu
section
variable {t : Tab}
theorem sq (h : cV t = true) (hs : iY t = true) {a b x y : Nat} (ha : a < t.2.length) (hx : x < (t.2.getD a []).length) (hb : b < t.2.length) (hy : y < (t.2.getD b []).length) (e : cel t.2 a x = cel t.2 b y) : a = b ∧ x = y := by
  have nd := (m9 h hs).1
  rw [List.Nodup, List.pairwise_flatten] at nd
  have mem : ∀ {r z : Nat}, r < t.2.length → (hz : z < (t.2.getD r []).length) → cel t.2 r z ∈ t.2.getD r [] := fun {r z} _ hz => by
    unfold cel
    rw [aB hz]
    exact List.getElem_mem hz
  have ab : ∀ {a b x y : Nat}, a < b → a < t.2.length → x < (t.2.getD a []).length → b < t.2.length → y < (t.2.getD b []).length → cel t.2 a x ≠ cel t.2 b y := fun {a b x y} hab ha hx hb hy => by
    have := List.pairwise_iff_getElem.1 nd.2 a b ha hb hab
    exact this _ (by rw [← aB ha []]; exact mem ha hx) _ (by rw [← aB hb []]; exact mem hb hy)
  have e1 : a = b := by
    rcases Nat.lt_trichotomy a b with hl | hl | hl
    · exact absurd e (ab hl ha hx hb hy)
    · exact hl
    · exact absurd e.symm (ab hl hb hy ha hx)
  subst e1
  refine ⟨rfl, ?_⟩
  have n2 := nd.1 _ (by rw [aB ha]; exact List.getElem_mem ha : t.2.getD a [] ∈ t.2)
  unfold cel at e
  rw [aB hx, aB hy] at e
  rcases Nat.lt_trichotomy x y with hl | hl | hl
  · exact absurd e (List.pairwise_iff_getElem.1 n2 x y hx hy hl)
  · exact hl
  · exact absurd e.symm (List.pairwise_iff_getElem.1 n2 y x hy hx hl)
theorem kD (h : cV t = true) (hs : iY t = true) {a x : Nat} {v : Int} (ha : a < t.2.length) (hx : x < (t.2.getD a []).length) (e : cel t.2 a x = v) : rowOf t v = a := by
  have hf : t.2.findIdx (fun r => has r v) = a := by
    rw [List.findIdx_eq ha]
    refine ⟨?_, fun j hj => ?_⟩
    · rw [← aB ha [], kz, ← e]
      unfold cel
      rw [aB hx]
      exact List.getElem_mem hx
    · rw [Bool.eq_false_iff]
      intro hc
      rw [kz] at hc
      obtain ⟨y, hy, e2⟩ := List.getElem_of_mem hc
      have hjl : j < t.2.length := by omega
      have hy' : y < (t.2.getD j []).length := by rw [aB hjl]; exact hy
      have e3 : cel t.2 j y = v := by
        unfold cel
        rw [aB hy']
        simp only [aB hjl]
        exact e2
      have := sq h hs hjl hy' ha hx (by rw [e, e3])
      omega
  unfold rowOf xi
  rw [hf, if_pos ha]
theorem Bw (h : cV t = true) (hs : iY t = true) (hn : t.2.flatten.length ≠ 0) : ∃ a : Nat, a < t.2.length ∧ 1 ≤ (t.2.getD a []).length ∧ cel t.2 a ((t.2.getD a []).length - 1) = t.2.flatten.length ∧ (t.2.getD (a + 1) []).length < (t.2.getD a []).length ∧ rowOf t t.2.flatten.length = a := by
  have ho : mH t.2.flatten = true := by
    have := hs
    simp only [iY, Bool.and_eq_true] at this
    exact this.2
  obtain ⟨a, x, ha, hx, e⟩ := qe (kZ.1 ho t.2.flatten.length (iv.2 (by omega)))
  have hb := (m9 h hs).2
  obtain ⟨c1, c2⟩ := lC h
  have hx1 : x + 1 = (t.2.getD a []).length := by
    refine Nat.le_antisymm hx (Nat.le_of_not_lt fun hlt => ?_)
    have k1 := c2 a x ha hlt
    have k2 := (hb _ (lu ha hlt)).2
    have := sq h hs ha hx ha hlt (by omega)
    omega
  have hbel : (t.2.getD (a + 1) []).length ≤ x := by
    refine Nat.le_of_not_lt fun hlt => ?_
    have ha1 : a + 1 < t.2.length := Nat.lt_of_not_le fun hle => by rw [bw hle] at hlt; simp at hlt
    have k1 := (mU h a ha1).2 x hlt
    have k2 := (hb _ (lu ha1 hlt)).2
    unfold cel at e k2
    omega
  refine ⟨a, ha, by omega, by rw [show (t.2.getD a []).length - 1 = x by omega]; exact e, by omega, kD h hs ha hx e⟩
theorem o9 {rs : List (List Int)} {a : Nat} (ha : a < rs.length) (hc : (rs.getD (a + 1) []).length < (rs.getD a []).length) (hp : ∀ r, r < rs.length → 1 ≤ (rs.getD r []).length) (r : Nat) : (dn rs a).getD r [] = if r = a then (rs.getD a []).take ((rs.getD a []).length - 1) else rs.getD r [] := by
  have hset : (rs.set a ((rs.getD a []).take ((rs.getD a []).length - 1))).getD r [] = if r = a then (rs.getD a []).take ((rs.getD a []).length - 1) else rs.getD r [] := by
    by_cases e : r = a
    · subst e; rw [if_pos rfl, aB (by rw [List.length_set]; exact ha), List.getElem_set_self]
    · rw [if_neg e, getD_set_ne (Ne.symm e)]
  unfold dn
  split
  · next h1 =>
    by_cases hr : r < a
    · rw [dH hr, hset]
    · rw [bw (by rw [List.length_take]; omega)]
      by_cases e : r = a
      · subst e; rw [if_pos rfl, h1]; rfl
      · rw [if_neg e]
        have hlast : rs.length ≤ a + 1 := Nat.le_of_not_lt fun hlt => by
          have := hp (a + 1) hlt
          omega
        rw [bw (by omega)]
  · exact hset
theorem uk {rs : List (List Int)} {a : Nat} (ha : a < rs.length) : (dn rs a).length = if (rs.getD a []).length = 1 then a else rs.length := by
  unfold dn
  split
  · rw [List.length_take, List.length_set]; omega
  · rw [List.length_set]
theorem Cm (h : cV t = true) (hs : iY t = true) {a : Nat} (hn : t.2.flatten.length ≠ 0) (ha : a < t.2.length) (h1 : 1 ≤ (t.2.getD a []).length) (htop : cel t.2 a ((t.2.getD a []).length - 1) = t.2.flatten.length) (hc : (t.2.getD (a + 1) []).length < (t.2.getD a []).length) :
    cV (([], dn t.2 a) : Tab) = true ∧ iY (([], dn t.2 a) : Tab) = true ∧ (dn t.2 a).flatten.length + 1 = t.2.flatten.length ∧ ∀ v, 1 ≤ v → v < (t.2.flatten.length : Int) → rowOf ([], dn t.2 a) v = rowOf t v := by
  have hpos := fun r (hr : r < t.2.length) => vZ h hr
  have hrow := o9 ha hc hpos
  have hlen := uk ha
  obtain ⟨c1, c2⟩ := lC h
  have c3 := mU h
  have hcorner : (outer t).getD (a + 1) 0 < (outer t).getD a 0 := by
    rw [gp h ha]
    by_cases e : a + 1 < t.2.length
    · rw [gp h e]; omega
    · rw [bw (by rw [ck]; omega)]; omega
  have hal : a < (outer t).length := by rw [ck]; exact ha
  have hout : outer (([], dn t.2 a) : Tab) = az (outer t) a := by
    have hdl : (az (outer t) a).length = (dn t.2 a).length := by
      rw [hlen]
      unfold az
      rw [gp h ha]
      by_cases e : (t.2.getD a []).length = 1
      · rw [if_pos (by omega), if_pos e, List.length_take, ck]; omega
      · rw [if_neg (by omega), if_neg e, List.length_set, ck]
    refine List.ext_getElem (by rw [ck, hdl]) fun r k1 k2 => ?_
    rw [← aB k1 0, ← aB k2 0, iy (jJ h) hal hcorner]
    have k3 : r < (dn t.2 a).length := by rw [ck] at k1; exact k1
    have := e9 [] (dn t.2 a) 0 r k3
    unfold outer at this ⊢
    rw [this, hrow]
    have hrl : r < t.2.length := by
      rw [hlen] at k3
      split at k3 <;> omega
    have po := gp h hrl
    have pa := gp h ha
    unfold outer at po pa
    by_cases e : r = a
    · subst e
      rw [if_pos rfl, if_pos rfl, List.length_take, pa]
      simp only [List.getD_nil]
      omega
    · rw [if_neg e, if_neg e, po]
      simp only [List.getD_nil]
      omega
  have hcel : ∀ {r x : Nat}, x < ((dn t.2 a).getD r []).length → x < (t.2.getD r []).length ∧ cel (dn t.2 a) r x = cel t.2 r x := fun {r x} hx => by
    unfold cel
    rw [hrow] at hx ⊢
    by_cases e : r = a
    · subst e
      rw [if_pos rfl, List.length_take] at hx
      rw [if_pos rfl, dH (by omega)]
      exact ⟨by omega, rfl⟩
    · rw [if_neg e] at hx ⊢
      exact ⟨hx, rfl⟩
  have hrl : ∀ {r : Nat}, r < (dn t.2 a).length → r < t.2.length := fun {r} hr => by
    rw [hlen] at hr
    split at hr <;> omega
  have hin : ∀ {r x : Nat}, x < (t.2.getD r []).length → ¬ (r = a ∧ x + 1 = (t.2.getD a []).length) → x < ((dn t.2 a).getD r []).length := fun {r x} hx hne => by
    rw [hrow]
    by_cases e : r = a
    · subst e
      rw [if_pos rfl, List.length_take]
      have : ¬ x + 1 = (t.2.getD r []).length := fun e => hne ⟨rfl, e⟩
      omega
    · rw [if_neg e]; exact hx
  have hpl : cV (([], dn t.2 a) : Tab) = true := by
    refine ri rfl (by rw [hout]; exact ic (jJ h) hal hcorner) (fun r x hr hx => ?_) (fun r x hr hx => ?_) (fun r x hr hx => ?_)
    · obtain ⟨k1, k2⟩ := hcel hx
      rw [k2]; exact c1 r x (hrl hr) k1
    · obtain ⟨k1, k2⟩ := hcel hx
      obtain ⟨_, k4⟩ := hcel (show x < ((dn t.2 a).getD r []).length from Nat.lt_of_succ_lt hx)
      rw [k2, k4]; exact c2 r x (hrl hr) k1
    · obtain ⟨k1, k2⟩ := hcel hx
      have hr1 := hrl hr
      obtain ⟨d1, d2⟩ := c3 r hr1
      have hxr : x < ((dn t.2 a).getD r []).length := by
        refine hin (by omega) fun e => ?_
        rw [e.1] at k1
        omega
      obtain ⟨_, k4⟩ := hcel hxr
      rw [k2, k4]
      exact d2 x k1
  have hfl : (dn t.2 a).flatten.length + 1 = t.2.flatten.length := by
    have e1 := uR hpl
    rw [hout, pJ (jJ h) hal hcorner, uR h] at e1
    simp only at e1
    omega
  have ho : mH t.2.flatten = true := by
    have := hs
    simp only [iY, Bool.and_eq_true] at this
    exact this.2
  have hcells : ∀ v, 1 ≤ v → v < (t.2.flatten.length : Int) → ∃ r x, r < (dn t.2 a).length ∧ x < ((dn t.2 a).getD r []).length ∧ cel (dn t.2 a) r x = v ∧ r < t.2.length ∧ x < (t.2.getD r []).length ∧ cel t.2 r x = v := by
    intro v v1 v2
    obtain ⟨r, x, hr, hx, e⟩ := qe (kZ.1 ho v (iv.2 (by omega)))
    have hx' : x < ((dn t.2 a).getD r []).length := by
      refine hin hx fun e2 => ?_
      rw [e2.1, show x = (t.2.getD a []).length - 1 by omega, htop] at e
      omega
    exact ⟨r, x, Nat.lt_of_not_le fun hle => by rw [bw hle] at hx'; simp at hx', hx', by rw [(hcel hx').2]; exact e, hr, hx, e⟩
  have hst : iY (([], dn t.2 a) : Tab) = true := by
    have hp' := hpl
    simp only [cV, Bool.and_eq_true] at hp'
    simp only [iY, Bool.and_eq_true]
    refine ⟨hp'.1, kZ.2 fun v hv => ?_⟩
    rw [iv] at hv
    obtain ⟨r, x, q1, q2, q3, _⟩ := hcells v hv.1 (by omega)
    rw [← q3]
    exact lu q1 q2
  refine ⟨hpl, hst, hfl, fun v v1 v2 => ?_⟩
  obtain ⟨r, x, q1, q2, q3, q4, q5, q6⟩ := hcells v v1 v2
  rw [kD h hs q4 q5 q6, kD hpl hst q1 q2 q3]
end
structure Unr (q : Tab) (k : Nat) (P Q : List (List Int)) : Prop where
  pl : cV (([], Q) : Tab) = true
  st : iY (([], Q) : Tab) = true
  fl : Q.flatten.length = k
  col : pR P
  same : fO P Q
  p9 : dk 9 9 P
  row : ∀ v, 1 ≤ v → v ≤ (k : Int) → rowOf ([], Q) v = rowOf q v
theorem Unr.step {q : Tab} {k : Nat} {P Q : List (List Int)} (h : Unr q (k + 1) P Q) : ∃ a : Nat, rowOf q ((k + 1 : Nat) : Int) = a ∧ a < Q.length ∧ 1 ≤ (Q.getD a []).length ∧ cel Q a ((Q.getD a []).length - 1) = (k + 1 : Nat) ∧ (Q.getD (a + 1) []).length < (Q.getD a []).length ∧ Unr q k (lI P a).1 (dn Q a) := by
  have hfl : (([], Q) : Tab).2.flatten.length = k + 1 := h.fl
  obtain ⟨a, a1, a2, a3, a4, a5⟩ := Bw h.pl h.st (by omega)
  obtain ⟨b1, b2, b3, b4⟩ := Cm h.pl h.st (by omega) a1 a2 a3 a4
  simp only at a1 a2 a3 a4 b3
  have hP1 : a < P.length := by rw [h.same.1]; exact a1
  refine ⟨a, ?_, a1, a2, by rw [a3, h.fl], a4, ⟨b1, b2, by have := h.fl; omega, ya h.col hP1 (by rw [h.same.2]; exact a2) (by rw [h.same.2, h.same.2]; exact a4), (vN P a).trans (xH h.same a), vY h.p9 a, fun v v1 v2 => ?_⟩⟩
  · rw [← h.row _ (by omega) (Int.le_refl _), ← a5, hfl]
  · rw [b4 v v1 (by rw [hfl]; omega)]
    exact h.row v v1 (by omega)
end Go.Am.Pu
namespace Go.Am.Pu
end Go.Am.Pu
end
section
/- Insertion keeps tableaux; where the new cells lie; a tableau from its word. Plain words. -/
namespace Go.Am.Pu
def ly (r : List Int) : Prop := ∀ i, i + 1 < r.length → r.getD i 0 ≤ r.getD (i + 1) 0
theorem ly.le {r : List Int} (h : ly r) : ∀ (d i : Nat), i + d < r.length → r.getD i 0 ≤ r.getD (i + d) 0
  | 0, i, _ => Int.le_refl _
  | d + 1, i, hi => by
    have a := ly.le h d i (by omega)
    have b := h (i + d) (by omega)
    rw [show i + (d + 1) = i + d + 1 by omega]
    omega
theorem ly.mono {r : List Int} (h : ly r) {i j : Nat} (hij : i ≤ j) (hj : j < r.length) : r.getD i 0 ≤ r.getD j 0 := by
  have := h.le (j - i) i (by omega)
  rw [show i + (j - i) = j by omega] at this
  exact this
def fst (r : List Int) (x : Int) : Nat := r.findIdx fun n => decide (x < n)
theorem sO {r : List Int} {x : Int} : fst r x ≤ r.length := List.findIdx_le_length
theorem vT {r : List Int} {x : Int} (h : fst r x < r.length) : x < r.getD (fst r x) 0 := by
  have := sN (p := fun n => decide (x < n)) h
  exact of_decide_eq_true this
theorem sH {r : List Int} {x : Int} {i : Nat} (h : i < fst r x) : r.getD i 0 ≤ x := by
  have h1 : i < r.length := Nat.lt_of_lt_of_le h sO
  have h2 := List.not_of_lt_findIdx h
  rw [aB h1]
  exact Int.not_lt.1 (of_decide_eq_false h2)
theorem fst_eq {r : List Int} {x : Int} {i : Nat} (h1 : i < r.length) (h2 : x < r.getD i 0) (h3 : ∀ j, j < i → r.getD j 0 ≤ x) : fst r x = i := by
  rcases Nat.lt_trichotomy (fst r x) i with h | h | h
  · have a := vT (Nat.lt_trans h h1)
    have b := h3 _ h
    omega
  · exact h
  · have := sH h
    omega
theorem wx {r : List Int} {x : Int} (h : ∀ j, j < r.length → r.getD j 0 ≤ x) : fst r x = r.length := by
  refine Nat.le_antisymm sO (Nat.le_of_not_lt fun hlt => ?_)
  have a := vT hlt
  have b := h _ hlt
  omega
theorem fP (r : List Int) (rs : List (List Int)) (x : Int) : cn (r :: rs) x = if fst r x < r.length then (r.set (fst r x) x :: (cn rs (r.getD (fst r x) 0)).1, (cn rs (r.getD (fst r x) 0)).2 + 1) else ((r ++ [x]) :: rs, 0) := rfl
def CR (r : List Int) : List (List Int) → Prop
  | [] => True
  | s :: _ => s.length ≤ r.length ∧ ∀ q, q < s.length → r.getD q 0 < s.getD q 0
def SSR : List (List Int) → Prop
  | [] => True
  | r :: rs => 0 < r.length ∧ ly r ∧ CR r rs ∧ SSR rs
theorem gD {r : List Int} {i : Nat} (x : Int) (h : i < r.length) (q : Nat) : (r.set i x).getD q 0 = if q = i then x else r.getD q 0 := by
  by_cases e : q = i
  · subst e; rw [if_pos rfl, aB (by rw [List.length_set]; exact h), List.getElem_set_self]
  · rw [if_neg e, getD_set_ne (Ne.symm e)]
theorem iD {r : List Int} (x : Int) (q : Nat) : (r ++ [x]).getD q 0 = if q = r.length then x else r.getD q 0 := by
  by_cases h : q < r.length
  · rw [g8 h, if_neg (by omega)]
  · rw [jy (by omega)]
    by_cases e : q = r.length
    · rw [if_pos e, e, Nat.sub_self]; rfl
    · rw [if_neg e, bw (by simp; omega), bw (by omega)]
theorem B7 {r : List Int} {x : Int} (h : ly r) (hf : fst r x < r.length) : ly (r.set (fst r x) x) := by
  intro i hi
  rw [List.length_set] at hi
  rw [gD x hf, gD x hf]
  have h0 := h i hi
  by_cases e1 : i = fst r x
  · rw [if_pos e1, if_neg (by omega)]
    have := vT hf
    rw [← e1] at this
    omega
  · rw [if_neg e1]
    by_cases e2 : i + 1 = fst r x
    · rw [if_pos e2]; exact sH (by omega)
    · rw [if_neg e2]; exact h0
theorem Cu {r : List Int} {x : Int} (h : ly r) (hf : ¬ fst r x < r.length) : ly (r ++ [x]) := by
  intro i hi
  rw [List.length_append, List.length_singleton] at hi
  rw [iD, iD, if_neg (by omega)]
  by_cases e : i + 1 = r.length
  · rw [if_pos e]
    have := @sO r x
    exact sH (by omega)
  · rw [if_neg e]; exact h i (by omega)
theorem Bg {r : List Int} {x : Int} {rs : List (List Int)} (h : ly r) (hf : fst r x < r.length) (ho : CR r rs) : CR (r.set (fst r x) x) (cn rs (r.getD (fst r x) 0)).1 := by
  have hy := vT hf
  have hle : ∀ q, q < r.length → (r.set (fst r x) x).getD q 0 ≤ r.getD q 0 := fun q hq => by
    rw [gD x hf]
    split
    · next e => rw [e]; omega
    · exact Int.le_refl _
  have hlow : ∀ p, p ≤ fst r x → (r.set (fst r x) x).getD p 0 < r.getD (fst r x) 0 := fun p hp => by
    rw [gD x hf]
    split
    · exact hy
    · have := sH (r := r) (x := x) (i := p) (by omega)
      omega
  cases rs with
  | nil =>
    show ([r.getD (fst r x) 0] : List Int).length ≤ _ ∧ _
    refine ⟨by rw [List.length_set]; simp; omega, fun q hq => ?_⟩
    have e : q = 0 := by simp at hq; exact hq
    subst e
    exact hlow 0 (by omega)
  | cons s rs =>
    obtain ⟨o1, o2⟩ := ho
    have hp : fst s (r.getD (fst r x) 0) ≤ fst r x := by
      refine Nat.le_of_not_lt fun hlt => ?_
      have hs : fst r x < s.length := Nat.lt_of_lt_of_le hlt sO
      have a := sH hlt
      have b := o2 _ hs
      omega
    rw [fP]
    by_cases c : fst s (r.getD (fst r x) 0) < s.length
    · rw [if_pos c]
      refine ⟨by rw [List.length_set, List.length_set]; exact o1, fun q hq => ?_⟩
      rw [List.length_set] at hq
      rw [gD (r := s) _ c]
      split
      · next e => rw [e]; exact hlow _ hp
      · have a := hle q (by omega)
        have b := o2 q hq
        omega
    · rw [if_neg c]
      have hsl : fst s (r.getD (fst r x) 0) = s.length := Nat.le_antisymm sO (Nat.le_of_not_lt c)
      refine ⟨by rw [List.length_set, List.length_append, List.length_singleton]; omega, fun q hq => ?_⟩
      rw [List.length_append, List.length_singleton] at hq
      rw [iD]
      split
      · next e => rw [e]; exact hlow _ (by omega)
      · have a := hle q (by omega)
        have b := o2 q (by omega)
        omega
theorem zt : ∀ (rs : List (List Int)) (x : Int), SSR rs → SSR (cn rs x).1
  | [], x, _ => ⟨by simp, fun i hi => by simp at hi, trivial, trivial⟩
  | r :: rs, x, h => by
    obtain ⟨h1, h2, h3, h4⟩ := h
    rw [fP]
    split
    · next c => exact ⟨by rw [List.length_set]; exact h1, B7 h2 c, Bg h2 c h3, zt rs _ h4⟩
    · next c =>
      refine ⟨by simp, Cu h2 c, ?_, h4⟩
      cases rs with
      | nil => trivial
      | cons s rs =>
        obtain ⟨o1, o2⟩ := h3
        refine ⟨by rw [List.length_append]; omega, fun q hq => ?_⟩
        rw [iD, if_neg (by omega)]
        exact o2 q hq
end Go.Am.Pu
end
section
/- Plain tableaux, row by row; a tableau from its word; words inserted. Plain words. -/
namespace Go.Am.Pu
theorem wc : ∀ {rs : List (List Int)}, SSR rs → ∀ r, r < rs.length → 0 < (rs.getD r []).length ∧ ly (rs.getD r [])
  | r :: rs, h, 0, _ => ⟨h.1, h.2.1⟩
  | r :: rs, h, q + 1, hq => wc h.2.2.2 q (by simpa using hq)
theorem wo : ∀ {rs : List (List Int)}, SSR rs → pR rs
  | [], _, i, hi => by simp at hi
  | [r], _, i, hi => by simp at hi
  | r :: s :: rs, h, 0, _ => h.2.2.1
  | r :: s :: rs, h, i + 1, hi => wo h.2.2.2 i (by simpa using hi)
theorem qV : ∀ {rs : List (List Int)}, (∀ r, r < rs.length → 0 < (rs.getD r []).length ∧ ly (rs.getD r [])) → pR rs → SSR rs
  | [], _, _ => trivial
  | r :: rs, h1, h2 => by
    refine ⟨(h1 0 (by simp)).1, (h1 0 (by simp)).2, ?_, qV (fun q hq => h1 (q + 1) (by simpa using hq)) (fun i hi => h2 (i + 1) (by simpa using hi))⟩
    cases rs with
    | nil => trivial
    | cons s rs => exact h2 0 (by simp)
theorem v7 {t : Tab} (h : cV t = true) : SSR t.2 := by
  refine qV (fun r hr => ⟨vZ h hr, fun i hi => ?_⟩) (mU h)
  exact (lC h).2 r i hr hi
theorem oF (rs : List (List Int)) {i : Nat} (h : i < rs.length) : (outer (([], rs) : Tab)).getD i 0 = (rs.getD i []).length := by
  have := e9 [] rs 0 i h
  unfold outer
  rw [this]
  simp
theorem pZ {rs : List (List Int)} (h : SSR rs) (hn : ∀ x ∈ rs.flatten, 1 ≤ x ∧ x ≤ 9) (h9 : rs.flatten.length ≤ 9) : cV (([], rs) : Tab) = true := by
  have hr := fun r hr => wc h r hr
  have hc := wo h
  have hrl : ∀ r, r < rs.length → (rs.getD r []).length ≤ 9 := fun r h1 => by
    have := tv (rs := rs) (r := rs.getD r []) (by rw [aB h1]; exact List.getElem_mem h1)
    omega
  refine ri rfl ?_ (fun r x h1 h2 => hn _ (lu h1 h2)) (fun r x h1 h2 => (hr r h1).2 x h2) (fun r x h1 h2 => (hc r h1).2 x h2)
  have hs : dC (outer (([], rs) : Tab)) = rs.flatten.length := oE [] rs 0 fun q _ => by simp
  refine kt _ 9 0 (fun x hx => ?_) (fun h0 => ?_) (fun i hi => ?_) (by omega)
  · obtain ⟨i, hi, rfl⟩ := List.getElem_of_mem hx
    have hi' : i < rs.length := by rw [ck] at hi; exact hi
    rw [← aB hi 0, oF rs hi']
    have := (hr i hi').1
    omega
  · have h0' : 0 < rs.length := by rw [ck] at h0; exact h0
    rw [oF rs h0']
    have := hrl 0 h0'
    omega
  · have hi' : i + 1 < rs.length := by rw [ck] at hi; exact hi
    rw [oF rs hi', oF rs (by omega)]
    have := (hc i hi').1
    omega
theorem zN : ∀ (rs : List (List Int)) (x z : Int), z ∈ (cn rs x).1.flatten → z = x ∨ z ∈ rs.flatten
  | [], x, z, h => by simp [cn] at h; exact .inl h
  | r :: rs, x, z, h => by
    rw [fP] at h
    split at h
    · next c =>
      simp only [List.flatten_cons, List.mem_append] at h ⊢
      rcases h with h | h
      · rcases List.mem_or_eq_of_mem_set h with h | h
        · exact .inr (.inl h)
        · exact .inl h
      · rcases zN rs _ z h with h | h
        · right; left
          rw [h, aB c]
          exact List.getElem_mem c
        · exact .inr (.inr h)
    · simp only [List.flatten_cons, List.mem_append, List.mem_singleton] at h ⊢
      rcases h with (h | h) | h
      · exact .inr (.inl h)
      · exact .inl h
      · exact .inr (.inr h)
theorem w8 : ∀ (rs : List (List Int)) (x : Int), (cn rs x).1.flatten.length = rs.flatten.length + 1
  | [], x => by simp [cn]
  | r :: rs, x => by
    rw [fP]
    split
    · have := w8 rs (r.getD (fst r x) 0)
      simp only [List.flatten_cons, List.length_append, List.length_set]
      omega
    · simp only [List.flatten_cons, List.length_append, List.length_singleton]
      omega
theorem vD : ∀ (rs : List (List Int)) (x : Int), (cn rs x).2 ≤ rs.length ∧ ((cn rs x).1.length = if (cn rs x).2 = rs.length then rs.length + 1 else rs.length) ∧ ∀ i, ((cn rs x).1.getD i []).length = if i = (cn rs x).2 then (rs.getD i []).length + 1 else (rs.getD i []).length
  | [], x => by
    refine ⟨Nat.le_refl _, rfl, fun i => ?_⟩
    cases i with
    | zero => rfl
    | succ i => simp [cn]
  | r :: rs, x => by
    rw [fP]
    split
    · next c =>
      obtain ⟨a, b, d⟩ := vD rs (r.getD (fst r x) 0)
      refine ⟨by simp only [List.length_cons]; omega, ?_, fun i => ?_⟩
      · simp only [List.length_cons, b, Nat.add_right_cancel_iff]
        split <;> rfl
      · cases i with
        | zero => simp
        | succ i =>
          have := d i
          simp only [Nat.add_right_cancel_iff]
          exact this
    · refine ⟨Nat.zero_le _, by simp, fun i => ?_⟩
      cases i with
      | zero => simp
      | succ i => simp
def j9 : List Int → List (List Int) → List (List Int)
  | [], P => P
  | x :: w, P => j9 w (cn P x).1
theorem kS : ∀ (v w : List Int) (P : List (List Int)), j9 (v ++ w) P = j9 w (j9 v P)
  | [], _, _ => rfl
  | x :: v, w, P => kS v w _
def uc (i : Nat) : List Int → List (List Int) → List (List Int)
  | r, [] => if i = 0 then [] else [r.take i]
  | r, s :: rs => (r.take i ++ s.drop i) :: uc i s rs
theorem wE : ∀ (r : List Int) (rs : List (List Int)), uc 0 r rs = rs
  | r, [] => rfl
  | r, s :: rs => by simp [uc, wE s rs]
theorem qv {i : Nat} (hi : 0 < i) : ∀ (r : List Int) (rs : List (List Int)), SSR (r :: rs) → r.length ≤ i → uc i r rs = r :: rs
  | r, [], _, h => by unfold uc; rw [if_neg (by omega), List.take_of_length_le h]
  | r, s :: rs, h, hl => by
    have := h.2.2.1.1
    unfold uc
    rw [qv hi s rs h.2.2.2 (by omega), List.take_of_length_le hl, List.drop_of_length_le (by omega), List.append_nil]
theorem xL : ∀ (r : List Int) (rs : List (List Int)) (i : Nat), SSR (r :: rs) → i < r.length → (cn (uc i r rs) (r.getD i 0)).1 = uc (i + 1) r rs
  | r, [], i, h, hi => by
    show (cn (if i = 0 then [] else [r.take i]) (r.getD i 0)).1 = if i + 1 = 0 then [] else [r.take (i + 1)]
    rw [if_neg (show ¬ i + 1 = 0 by omega), take_succ hi 0]
    by_cases e : i = 0
    · subst e; rw [if_pos rfl]; rfl
    · rw [if_neg e, fP, if_neg]
      rw [wx (fun j hj => ?_)]
      · exact Nat.lt_irrefl _
      · rw [List.length_take] at hj
        rw [dH (by omega)]
        exact h.2.1.mono (by omega) hi
  | r, s :: rs, i, h, hi => by
    obtain ⟨h1, h2, ⟨o1, o2⟩, h4⟩ := h
    have hlow : ∀ j, j < i → (r.take i ++ s.drop i).getD j 0 ≤ r.getD i 0 := fun j hj => by
      rw [g8 (by rw [List.length_take]; omega), dH hj]
      exact h2.mono (by omega) hi
    have hget : ∀ j, i ≤ j → (r.take i ++ s.drop i).getD j 0 = s.getD j 0 := fun j hj => by
      rw [jy (by rw [List.length_take]; omega), List.length_take, fc, show i + (j - min i r.length) = j by omega]
    have hlen : (r.take i ++ s.drop i).length = i + (s.length - i) := by
      rw [List.length_append, List.length_take, List.length_drop]; omega
    unfold uc
    rw [fP]
    by_cases c : i < s.length
    · have hf : fst (r.take i ++ s.drop i) (r.getD i 0) = i := fst_eq (by omega) (by rw [hget i (Nat.le_refl _)]; exact o2 i c) hlow
      rw [hf, if_pos (by omega), hget i (Nat.le_refl _)]
      simp only
      rw [xL s rs i h4 c]
      congr 1
      refine nY (by rw [List.length_set, hlen, List.length_append, List.length_take, List.length_drop]; omega) fun q hq => ?_
      rw [gD (r := r.take i ++ s.drop i) _ (by omega)]
      by_cases e : q = i
      · subst e
        rw [if_pos rfl, g8 (by rw [List.length_take]; omega), dH (by omega)]
      · rw [if_neg e]
        by_cases e2 : q < i
        · rw [g8 (by rw [List.length_take]; omega), dH e2, g8 (by rw [List.length_take]; omega), dH (by omega)]
        · rw [hget q (by omega), jy (by rw [List.length_take]; omega), List.length_take, fc, show i + 1 + (q - min (i + 1) r.length) = q by omega]
    · have hd : s.drop i = [] := List.drop_of_length_le (by omega)
      have hd1 : s.drop (i + 1) = [] := List.drop_of_length_le (by omega)
      have hn : fst (r.take i ++ s.drop i) (r.getD i 0) = (r.take i ++ s.drop i).length := wx fun j hj => hlow j (by omega)
      rw [if_neg (by omega)]
      simp only
      have hs1 := h4.1
      rw [hd, hd1, List.append_nil, List.append_nil, take_succ hi 0, qv (by omega) s rs h4 (by omega), qv (by omega) s rs h4 (by omega)]
theorem xV {r : List Int} {rs : List (List Int)} (h : SSR (r :: rs)) : ∀ (m i : Nat), i + m = r.length → j9 (r.drop i) (uc i r rs) = r :: rs
  | 0, i, hm => by
    rw [List.drop_of_length_le (by omega)]
    exact qv (by have := h.1; omega) r rs h (by omega)
  | m + 1, i, hm => by
    have hi : i < r.length := by omega
    rw [drop_cons hi 0]
    show j9 (r.drop (i + 1)) (cn (uc i r rs) (r.getD i 0)).1 = _
    rw [xL r rs i h hi]
    exact xV h m (i + 1) (by omega)
theorem uV : ∀ (rs : List (List Int)), SSR rs → j9 rs.reverse.flatten [] = rs
  | [], _ => rfl
  | r :: rs, h => by
    have ih := uV rs h.2.2.2
    rw [List.reverse_cons, List.flatten_append, kS, ih]
    have := xV h r.length 0 (by omega)
    rw [List.drop_zero, wE] at this
    simpa using this
end Go.Am.Pu
end
section
/- The recording tableau is standard, and its descents are the word's. Plain words. -/
namespace Go.Am.Pu
def iW (Q : List (List Int)) (a : Nat) (v : Int) : List (List Int) := if a = Q.length then Q ++ [[v]] else Q.set a (Q.getD a [] ++ [v])
theorem AQ {Q : List (List Int)} {a : Nat} (v : Int) (ha : a ≤ Q.length) (i : Nat) : (iW Q a v).getD i [] = if i = a then Q.getD a [] ++ [v] else Q.getD i [] := by
  unfold iW
  by_cases e : a = Q.length
  · rw [if_pos e]
    by_cases h : i < Q.length
    · rw [if_neg (by omega)]
      simp only [List.getD_eq_getElem?_getD, List.getElem?_append_left h]
    · by_cases e2 : i = a
      · rw [if_pos e2, e2, e, bw (xs := Q) (Nat.le_refl _)]
        simp
      · rw [if_neg e2, bw (xs := Q) (by omega), bw (by rw [List.length_append, List.length_singleton]; omega)]
  · rw [if_neg e]
    by_cases e2 : i = a
    · subst e2; rw [if_pos rfl, aB (by rw [List.length_set]; omega), List.getElem_set_self]
    · rw [if_neg e2, getD_set_ne (Ne.symm e2)]
theorem AZ {Q : List (List Int)} {a : Nat} (v : Int) : (iW Q a v).length = if a = Q.length then Q.length + 1 else Q.length := by
  unfold iW
  split
  · rw [List.length_append, List.length_singleton]
  · rw [List.length_set]
theorem yX {Q : List (List Int)} {a : Nat} (v : Int) (ha : a ≤ Q.length) : (iW Q a v).flatten.length = Q.flatten.length + 1 := by
  unfold iW
  split
  · simp
  · next e =>
    have : ∀ (Q : List (List Int)) (a : Nat), a < Q.length → (Q.set a (Q.getD a [] ++ [v])).flatten.length = Q.flatten.length + 1 := by
      intro Q
      induction Q with
      | nil => intro a h; simp at h
      | cons r rs ih =>
        intro a h
        cases a with
        | zero => simp; omega
        | succ a =>
          have := ih a (by simpa using h)
          simp only [List.set_cons_succ, List.getD_cons_succ, List.flatten_cons, List.length_append, this]
          omega
    exact this Q a (by omega)
theorem Cr {Q P : List (List Int)} {a k : Nat} (hp : cV (([], Q) : Tab) = true) (hs : iY (([], Q) : Tab) = true) (hk : Q.flatten.length = k) (h9 : k + 1 ≤ 9) (hP : SSR P) (ha : a ≤ Q.length) (hPl : P.length = if a = Q.length then Q.length + 1 else Q.length)
    (hl : ∀ i, (P.getD i []).length = if i = a then (Q.getD i []).length + 1 else (Q.getD i []).length) :
    cV (([], iW Q a ((k + 1 : Nat) : Int)) : Tab) = true ∧ iY (([], iW Q a ((k + 1 : Nat) : Int)) : Tab) = true ∧ (iW Q a ((k + 1 : Nat) : Int)).flatten.length = k + 1 ∧ fO P (iW Q a ((k + 1 : Nat) : Int)) ∧
      rowOf ([], iW Q a ((k + 1 : Nat) : Int)) ((k + 1 : Nat) : Int) = a ∧ ∀ v, 1 ≤ v → v ≤ (k : Int) → rowOf ([], iW Q a ((k + 1 : Nat) : Int)) v = rowOf ([], Q) v := by
  have hget := AQ ((k + 1 : Nat) : Int) ha
  have hlen := @AZ Q a ((k + 1 : Nat) : Int)
  have hfl := yX ((k + 1 : Nat) : Int) ha
  generalize hN : iW Q a ((k + 1 : Nat) : Int) = N at *
  have hNl : ∀ i, (N.getD i []).length = if i = a then (Q.getD i []).length + 1 else (Q.getD i []).length := fun i => by
    rw [hget]
    split
    · next e => rw [e, List.length_append, List.length_singleton]
    · rfl
  have hsame : fO P N := ⟨by rw [hPl, hlen], fun i => by rw [hl, hNl]⟩
  have hcel : ∀ r x, cel N r x = if r = a ∧ x = (Q.getD a []).length then ((k + 1 : Nat) : Int) else cel Q r x := fun r x => by
    unfold cel
    rw [hget]
    by_cases e : r = a
    · subst e
      rw [if_pos rfl, iD]
      by_cases e2 : x = (Q.getD r []).length
      · rw [if_pos e2, if_pos ⟨rfl, e2⟩]
      · rw [if_neg e2, if_neg (fun h => e2 h.2)]
    · rw [if_neg e, if_neg (fun h => e h.1)]
  have hb := (m9 hp hs).2
  simp only at hb
  rw [hk] at hb
  have hQ : ∀ {r x : Nat}, x < (Q.getD r []).length → 1 ≤ cel Q r x ∧ cel Q r x ≤ (k : Int) := fun {r x} hx => by
    have hr : r < Q.length := Nat.lt_of_not_le fun hle => by rw [bw hle] at hx; simp at hx
    exact hb _ (lu hr hx)
  obtain ⟨q1, q2⟩ := lC hp
  have q3 := mU hp
  simp only at q2 q3
  have pc := wo hP
  have pr := fun r hr => wc hP r hr
  have hqlen : ∀ i, (Q.getD (i + 1) []).length ≤ (Q.getD i []).length := fun i => by
    by_cases h : i + 1 < Q.length
    · exact (q3 i h).1
    · rw [bw (by omega)]; exact Nat.zero_le _
  have hssr : SSR N := by
    refine qV (fun r hr => ⟨?_, fun x hx => ?_⟩) (fun i hi => ?_)
    · rw [← hsame.2]; exact (pr r (by rw [hsame.1]; exact hr)).1
    · have e1 := hcel r x
      have e2 := hcel r (x + 1)
      unfold cel at e1 e2
      rw [e1, e2]
      rw [hNl] at hx
      have hxQ : x < (Q.getD r []).length := by
        split at hx <;> omega
      rw [if_neg (fun h => by rw [h.1] at hxQ; omega)]
      have hv := hQ hxQ
      unfold cel at hv
      by_cases e : r = a ∧ x + 1 = (Q.getD a []).length
      · rw [if_pos e]; omega
      · rw [if_neg e]
        have hx1 : x + 1 < (Q.getD r []).length := by
          split at hx
          · next e3 =>
            have : ¬ x + 1 = (Q.getD a []).length := fun h => e ⟨e3, h⟩
            rw [← e3] at this
            omega
          · exact hx
        have hr : r < Q.length := Nat.lt_of_not_le fun hle => by rw [bw hle] at hx1; simp at hx1
        exact q2 r x hr hx1
    · obtain ⟨c1, c2⟩ := pc i (by rw [hsame.1]; exact hi)
      rw [hsame.2, hsame.2] at c1
      refine ⟨c1, fun x hx => ?_⟩
      have e1 := hcel i x
      have e2 := hcel (i + 1) x
      unfold cel at e1 e2
      rw [e1, e2]
      rw [hNl] at hx
      have hxi : x < (N.getD i []).length := by
        have := hNl (i + 1)
        omega
      rw [hNl] at hxi
      by_cases e : i + 1 = a ∧ x = (Q.getD a []).length
      · rw [if_pos e, if_neg (fun h => by omega)]
        have hxQ : x < (Q.getD i []).length := by rw [if_neg (by omega)] at hxi; exact hxi
        have hv := hQ hxQ
        unfold cel at hv
        omega
      · rw [if_neg e]
        have hx1 : x < (Q.getD (i + 1) []).length := by
          split at hx
          · next e3 =>
            have : ¬ x = (Q.getD a []).length := fun h => e ⟨e3, h⟩
            rw [← e3] at this
            omega
          · exact hx
        have hxQ : x < (Q.getD i []).length := Nat.lt_of_lt_of_le hx1 (hqlen i)
        rw [if_neg (fun h => by rw [h.1] at hxQ; omega)]
        have hr : i + 1 < Q.length := Nat.lt_of_not_le fun hle => by rw [bw hle] at hx1; simp at hx1
        exact (q3 i hr).2 x hx1
  have hflk : N.flatten.length = k + 1 := by omega
  have hmem : ∀ z ∈ N.flatten, 1 ≤ z ∧ z ≤ 9 := fun z hz => by
    obtain ⟨r, x, hr, hx, e⟩ := qe hz
    rw [← e, hcel]
    split
    · omega
    · next hc =>
      rw [hNl] at hx
      have hxQ : x < (Q.getD r []).length := by
        split at hx
        · next e3 =>
          have : ¬ x = (Q.getD a []).length := fun h => hc ⟨e3, h⟩
          rw [← e3] at this
          omega
        · exact hx
      have := hQ hxQ
      omega
  have hpl := pZ hssr hmem (by omega)
  have haN : a < N.length := by
    rw [hlen]
    split <;> omega
  have hxN : (Q.getD a []).length < (N.getD a []).length := by rw [hNl, if_pos rfl]; omega
  have hnew : cel N a (Q.getD a []).length = ((k + 1 : Nat) : Int) := by rw [hcel, if_pos ⟨rfl, rfl⟩]
  have hold : ∀ {r x : Nat}, x < (Q.getD r []).length → r < N.length ∧ x < (N.getD r []).length ∧ cel N r x = cel Q r x := fun {r x} hx => by
    have hx' : x < (N.getD r []).length := by
      rw [hNl]
      split <;> omega
    refine ⟨Nat.lt_of_not_le fun hle => by rw [bw hle] at hx'; simp at hx', hx', ?_⟩
    rw [hcel, if_neg (fun h => by rw [h.1] at hx; omega)]
  have ho : mH Q.flatten = true := by
    have := hs
    simp only [iY, Bool.and_eq_true] at this
    exact this.2
  have hst : iY (([], N) : Tab) = true := by
    have hp' := hpl
    simp only [cV, Bool.and_eq_true] at hp'
    simp only [iY, Bool.and_eq_true]
    refine ⟨hp'.1, kZ.2 fun v hv => ?_⟩
    rw [hflk, iv] at hv
    by_cases e : v = ((k + 1 : Nat) : Int)
    · rw [e, ← hnew]; exact lu haN hxN
    · obtain ⟨r, x, hr, hx, e2⟩ := qe (kZ.1 ho v (iv.2 (by omega)))
      obtain ⟨d1, d2, d3⟩ := hold hx
      rw [← e2, ← d3]
      exact lu d1 d2
  refine ⟨hpl, hst, hflk, hsame, kD hpl hst haN hxN hnew, fun v v1 v2 => ?_⟩
  obtain ⟨r, x, hr, hx, e2⟩ := qe (kZ.1 ho v (iv.2 (by omega)))
  obtain ⟨d1, d2, d3⟩ := hold hx
  rw [kD hpl hst d1 d2 (by rw [d3]; exact e2), kD hp hs hr hx e2]
def Ci : List Int → List (List Int) → List (List Int) → Nat → List (List Int)
  | [], _, Q, _ => Q
  | x :: w, P, Q, k => Ci w (cn P x).1 (iW Q (cn P x).2 ((k + 1 : Nat) : Int)) (k + 1)
structure Ins (P Q : List (List Int)) (k : Nat) : Prop where
  ssr : SSR P
  num : ∀ x ∈ P.flatten, 1 ≤ x ∧ x ≤ 9
  fl : P.flatten.length = k
  pl : cV (([], Q) : Tab) = true
  st : iY (([], Q) : Tab) = true
  qf : Q.flatten.length = k
  same : fO P Q
theorem Ins.step {P Q : List (List Int)} {k : Nat} {x : Int} (h : Ins P Q k) (hx : 1 ≤ x ∧ x ≤ 9) (h9 : k + 1 ≤ 9) :
    Ins (cn P x).1 (iW Q (cn P x).2 ((k + 1 : Nat) : Int)) (k + 1) ∧ rowOf ([], iW Q (cn P x).2 ((k + 1 : Nat) : Int)) ((k + 1 : Nat) : Int) = ((cn P x).2 : Nat) ∧ ∀ v, 1 ≤ v → v ≤ (k : Int) → rowOf ([], iW Q (cn P x).2 ((k + 1 : Nat) : Int)) v = rowOf ([], Q) v := by
  obtain ⟨a, b, c⟩ := vD P x
  have hs := zt P x h.ssr
  obtain ⟨d1, d2, d3, d4, d5, d6⟩ := Cr (a := (cn P x).2) h.pl h.st h.qf h9 hs (by rw [← h.same.1]; exact a) (by rw [← h.same.1]; exact b) (fun i => by rw [← h.same.2]; exact c i)
  refine ⟨⟨hs, fun z hz => ?_, by rw [w8, h.fl], d1, d2, d3, d4⟩, d5, d6⟩
  rcases zN P x z hz with e | e
  · rw [e]; exact hx
  · exact h.num z e
theorem Ins.nil : Ins [] [] 0 := ⟨trivial, fun x hx => by simp at hx, rfl, rfl, rfl, rfl, ⟨rfl, fun _ => rfl⟩⟩
end Go.Am.Pu
end
section
/- Words, and what inserting makes of them. Plain words. -/
namespace Go.Am.Pu
def isWord (w : List Int) : Bool := decide (w.length ≤ 9) && w.all fun n => within n 1 9
theorem nO {w : List Int} (h : isWord w = true) : w.length ≤ 9 ∧ ∀ x ∈ w, 1 ≤ x ∧ x ≤ 9 := by
  simp only [isWord, Bool.and_eq_true, decide_eq_true_eq, List.all_eq_true, within] at h
  exact ⟨h.1, fun x hx => h.2 x hx⟩
def mG (w : List Int) : Tab × Bool := if isWord w = true then (([], j9 w []), true) else (([], []), false)
theorem Al {P Q : List (List Int)} {k : Nat} (h : Ins P Q k) (h9 : k ≤ 9) : cV (([], P) : Tab) = true := pZ h.ssr h.num (by rw [h.fl]; exact h9)
end Go.Am.Pu
end
section
/- Standardizing a tableau: the cells numbered by number and column. Plain words. -/
namespace Go.Am.Pu
def iz (Q : List (List Int)) (v : Int) (c r : Nat) (s : Nat × List (List Int)) : Nat × List (List Int) :=
  if c < (Q.getD r []).length ∧ cel Q r c = v then (s.1 + 1, dq s.2 r c ((s.1 + 1 : Nat) : Int)) else s
structure Num (Q : List (List Int)) (D : Nat → Nat → Prop) (s : Nat × List (List Int)) (F : List Int) : Prop where
  same : fO s.2 Q
  len : F.length = s.1
  val : ∀ r x, r < Q.length → x < (Q.getD r []).length → D r x → ∃ k, k < s.1 ∧ cel s.2 r x = ((k + 1 : Nat) : Int) ∧ F.getD k 0 = cel Q r x
  inj : ∀ r x r' x', r < Q.length → x < (Q.getD r []).length → D r x → r' < Q.length → x' < (Q.getD r' []).length → D r' x' → cel s.2 r x = cel s.2 r' x' → r = r' ∧ x = x'
  all : ∀ k, k < s.1 → ∃ r x, r < Q.length ∧ x < (Q.getD r []).length ∧ D r x ∧ cel s.2 r x = ((k + 1 : Nat) : Int)
  lex : ∀ r x r' x', r < Q.length → x < (Q.getD r []).length → D r x → r' < Q.length → x' < (Q.getD r' []).length → D r' x' → cel s.2 r x < cel s.2 r' x' → cel Q r x < cel Q r' x' ∨ (cel Q r x = cel Q r' x' ∧ x ≤ x')
theorem Num.congr {Q : List (List Int)} {D D' : Nat → Nat → Prop} {s : Nat × List (List Int)} {F : List Int} (h : Num Q D s F) (e : ∀ r x, r < Q.length → x < (Q.getD r []).length → (D r x ↔ D' r x)) : Num Q D' s F :=
  ⟨h.same, h.len, fun r x a b d => h.val r x a b ((e r x a b).2 d), fun r x r' x' a b d a' b' d' => h.inj r x r' x' a b ((e r x a b).2 d) a' b' ((e r' x' a' b').2 d'),
    fun k hk => by obtain ⟨r, x, a, b, d, q⟩ := h.all k hk; exact ⟨r, x, a, b, (e r x a b).1 d, q⟩, fun r x r' x' a b d a' b' d' => h.lex r x r' x' a b ((e r x a b).2 d) a' b' ((e r' x' a' b').2 d')⟩
def Dn (Q : List (List Int)) (v : Int) (c r : Nat) (a i : Nat) : Prop := cel Q a i < v ∨ (cel Q a i = v ∧ (i < c ∨ (i = c ∧ a < r)))
theorem Num.step {Q : List (List Int)} {v : Int} {c r : Nat} {s : Nat × List (List Int)} {F : List Int} (h : Num Q (Dn Q v c r) s F) (hr : r < Q.length) : ∃ F', Num Q (Dn Q v c (r + 1)) (iz Q v c r s) F' := by
  unfold iz
  split
  · next hc =>
    obtain ⟨hc, hv⟩ := hc
    have hnd : ¬ Dn Q v c r r c := by unfold Dn; omega
    have hsr : r < s.2.length := by rw [h.same.1]; exact hr
    have hsc : c < (s.2.getD r []).length := by rw [h.same.2]; exact hc
    have new : ∀ a i, Dn Q v c (r + 1) a i → (a = r ∧ i = c) ∨ (¬ (a = r ∧ i = c) ∧ Dn Q v c r a i) := fun a i d => by
      by_cases e : a = r ∧ i = c
      · exact .inl e
      · refine .inr ⟨e, ?_⟩
        unfold Dn at d ⊢
        omega
    have at1 := fp (g := s.2) (r := r) (c := c) ((s.1 + 1 : Nat) : Int) hsr hsc
    have ne1 : ∀ a i, ¬ (a = r ∧ i = c) → cel (dq s.2 r c ((s.1 + 1 : Nat) : Int)) a i = cel s.2 a i := fun a i e => eu _ e
    refine ⟨F ++ [v], ⟨⟨by rw [cj]; exact h.same.1, fun i => by rw [bm]; exact h.same.2 i⟩, by rw [List.length_append, List.length_singleton, h.len], ?_, ?_, ?_, ?_⟩⟩
    · intro a i ha hi d
      rcases new a i d with ⟨rfl, rfl⟩ | ⟨e, d'⟩
      · refine ⟨s.1, by simp only; omega, at1, ?_⟩
        rw [hv, ← h.len, List.getD_eq_getElem?_getD]
        simp
      · obtain ⟨k, k1, k2, k3⟩ := h.val a i ha hi d'
        refine ⟨k, by simp only; omega, by rw [ne1 a i e]; exact k2, ?_⟩
        rw [← k3, List.getD_eq_getElem?_getD, List.getD_eq_getElem?_getD, List.getElem?_append_left (by rw [h.len]; exact k1)]
    · intro a i b j ha hi d hb hj d' e
      rcases new a i d with ⟨rfl, rfl⟩ | ⟨ea, da⟩
      · rcases new b j d' with ⟨rfl, rfl⟩ | ⟨eb, db⟩
        · exact ⟨rfl, rfl⟩
        · obtain ⟨k, k1, k2, _⟩ := h.val b j hb hj db
          simp only at e
          rw [at1, ne1 b j eb, k2] at e
          omega
      · rcases new b j d' with ⟨rfl, rfl⟩ | ⟨eb, db⟩
        · obtain ⟨k, k1, k2, _⟩ := h.val a i ha hi da
          simp only at e
          rw [at1, ne1 a i ea, k2] at e
          omega
        · simp only at e
          rw [ne1 a i ea, ne1 b j eb] at e
          exact h.inj a i b j ha hi da hb hj db e
    · intro k hk
      simp only at hk
      by_cases ek : k = s.1
      · subst ek
        exact ⟨r, c, hr, hc, by unfold Dn; omega, at1⟩
      · obtain ⟨a, i, ha, hi, d, e⟩ := h.all k (by omega)
        have hne : ¬ (a = r ∧ i = c) := fun q => by rw [q.1, q.2] at d; exact hnd d
        exact ⟨a, i, ha, hi, by unfold Dn at d ⊢; omega, by simp only; rw [ne1 a i hne]; exact e⟩
    · intro a i b j ha hi d hb hj d' e
      simp only at e
      rcases new a i d with ⟨rfl, rfl⟩ | ⟨ea, da⟩
      · rcases new b j d' with ⟨rfl, rfl⟩ | ⟨eb, db⟩
        · omega
        · obtain ⟨k, k1, k2, _⟩ := h.val b j hb hj db
          rw [at1, ne1 b j eb, k2] at e
          omega
      · rcases new b j d' with ⟨rfl, rfl⟩ | ⟨eb, db⟩
        · unfold Dn at da
          omega
        · rw [ne1 a i ea, ne1 b j eb] at e
          exact h.lex a i b j ha hi da hb hj db e
  · next hc =>
    refine ⟨F, h.congr fun a i ha hi => ?_⟩
    unfold Dn
    constructor
    · intro d; omega
    · intro d
      by_cases e : a = r ∧ i = c
      · obtain ⟨rfl, rfl⟩ := e
        have : cel Q a i ≠ v := fun q => hc ⟨hi, q⟩
        omega
      · omega
structure vg (Q X : List (List Int)) (f : Int → Int) : Prop where
  same : fO X Q
  val : ∀ r x, r < X.length → x < (X.getD r []).length → cel Q r x = f (cel X r x)
  lex : ∀ r x r' x', r < X.length → x < (X.getD r []).length → r' < X.length → x' < (X.getD r' []).length → cel X r x < cel X r' x' → cel Q r x < cel Q r' x' ∨ (cel Q r x = cel Q r' x' ∧ x < x')
end Go.Am.Pu
end
section
/- A pair of tableaux unrolled, the second one semistandard; sorting; the matrix of a pair. Plain words. -/
namespace Go.Am.Pu
def ym (R : Int → Prop) (rs : List (List Int)) : Prop := ∀ r ∈ rs, ∀ v ∈ r, R v
theorem ym.at {R : Int → Prop} {rs : List (List Int)} (h : ym R rs) {r x : Nat} (hr : r < rs.length) (hx : x < (rs.getD r []).length) : R ((rs.getD r []).getD x 0) := by
  rw [aB hx]
  exact h (rs.getD r []) (by rw [aB hr]; exact List.getElem_mem hr) _ (List.getElem_mem hx)
theorem ym.set {R : Int → Prop} {rs : List (List Int)} (h : ym R rs) (i : Nat) {r : List Int} (hr : ∀ v ∈ r, R v) : ym R (rs.set i r) := fun y hy => by
  rcases List.mem_or_eq_of_mem_set hy with h' | rfl
  · exact h y h'
  · exact hr
theorem ym.row {R : Int → Prop} {rs : List (List Int)} (h : ym R rs) (i : Nat) : ∀ v ∈ rs.getD i [], R v := by
  by_cases hi : i < rs.length
  · exact h _ (by rw [aB hi]; exact List.getElem_mem hi)
  · rw [bw (by omega)]; simp
theorem Unr.top {q : Tab} {m : Nat} {P X : List (List Int)} (h : Unr q (m + 1) P X) {a : Nat} (ha : a < X.length) (htop : cel X a ((X.getD a []).length - 1) = ((m + 1 : Nat) : Int)) :
    (∀ r, r < X.length → 1 ≤ (X.getD r []).length) ∧ (∀ r, r < X.length → r ≠ a → cel X r ((X.getD r []).length - 1) < ((m + 1 : Nat) : Int)) := by
  have hp := fun r hr => vZ h.pl (r := r) hr
  refine ⟨hp, fun r hr hne => ?_⟩
  have h1 := hp r hr
  have h2 := hp a ha
  simp only at h1 h2
  have hb := ((m9 h.pl h.st).2 _ (lu (rs := X) hr (show (X.getD r []).length - 1 < (X.getD r []).length by omega))).2
  have hf := h.fl
  simp only at hb
  rw [hf] at hb
  have hx : cel X r ((X.getD r []).length - 1) ≠ ((m + 1 : Nat) : Int) := fun e => hne (sq h.pl h.st (a := r) (b := a) (x := (X.getD r []).length - 1) (y := (X.getD a []).length - 1) hr (show _ < (X.getD r []).length by omega) ha (show _ < (X.getD a []).length by omega) (by rw [htop]; exact e)).1
  omega
theorem AG {n m : Nat} {A B : List (List Int)} (h : dk n m A) (s : fO A B) : dk n m B := by
  refine ⟨by rw [← s.1]; exact h.1, fun x hx => ?_⟩
  obtain ⟨i, hi, rfl⟩ := List.getElem_of_mem hx
  have := h.at i
  rw [s.2 i, aB hi] at this
  exact this
theorem vg.cut {Q X : List (List Int)} {f : Int → Int} (s : vg Q X f) {a : Nat} (ha : a < X.length) (hc : (X.getD (a + 1) []).length < (X.getD a []).length) (hp : ∀ r, r < X.length → 1 ≤ (X.getD r []).length) : vg (dn Q a) (dn X a) f := by
  have hq : ∀ r, r < Q.length → 1 ≤ (Q.getD r []).length := fun r hr => by rw [← s.same.2]; exact hp r (by rw [s.same.1]; exact hr)
  have rX := o9 ha hc hp
  have rQ := o9 (rs := Q) (a := a) (by rw [← s.same.1]; exact ha) (by rw [← s.same.2, ← s.same.2]; exact hc) hq
  have old : ∀ {r x}, r < (dn X a).length → x < ((dn X a).getD r []).length → r < X.length ∧ x < (X.getD r []).length ∧ cel (dn X a) r x = cel X r x ∧ cel (dn Q a) r x = cel Q r x := fun {r x} hr hx => by
    have hl := uk (rs := X) ha
    have hr' : r < X.length := by rw [hl] at hr; split at hr <;> omega
    have e1 := rX r
    have e2 := rQ r
    unfold cel
    by_cases e : r = a
    · rw [if_pos e] at e1 e2
      rw [e1] at hx
      rw [List.length_take] at hx
      subst e
      refine ⟨hr', by omega, by rw [e1, dH (by omega)], ?_⟩
      rw [e2, dH (by have := s.same.2 r; omega)]
    · rw [if_neg e] at e1 e2
      rw [e1] at hx
      exact ⟨hr', hx, by rw [e1], by rw [e2]⟩
  refine ⟨xH s.same a, fun r x hr hx => ?_, fun r x r' x' hr hx hr' hx' hlt => ?_⟩
  · obtain ⟨o1, o2, o3, o4⟩ := old hr hx
    rw [o3, o4]
    exact s.val r x o1 o2
  · obtain ⟨o1, o2, o3, o4⟩ := old hr hx
    obtain ⟨p1, p2, p3, p4⟩ := old hr' hx'
    rw [o3, p3] at hlt
    rw [o4, p4]
    exact s.lex r x r' x' o1 o2 p1 p2 hlt
theorem vg.step {q : Tab} {m : Nat} {P X Q : List (List Int)} {f : Int → Int} (s : vg Q X f) (h : Unr q (m + 1) P X) :
    ∃ a : Nat, rowOf q ((m + 1 : Nat) : Int) = a ∧ a < Q.length ∧ 1 ≤ (Q.getD a []).length ∧ (Q.getD a []).getD ((Q.getD a []).length - 1) 0 = f ((m + 1 : Nat) : Int) ∧ (∀ r, r < Q.length → 1 ≤ (Q.getD r []).length) ∧
      (∀ r, r < Q.length → r ≠ a → (Q.getD r []).getD ((Q.getD r []).length - 1) 0 < f ((m + 1 : Nat) : Int) ∨ ((Q.getD r []).getD ((Q.getD r []).length - 1) 0 = f ((m + 1 : Nat) : Int) ∧ (Q.getD r []).length < (Q.getD a []).length)) ∧
      dk 9 9 Q ∧ a < P.length ∧ 1 ≤ (P.getD a []).length ∧ Unr q m (lI P a).1 (dn X a) ∧ vg (dn Q a) (dn X a) f := by
  obtain ⟨a, a1, a2, a3, a4, a5, a6⟩ := h.step
  obtain ⟨t1, t2⟩ := h.top a2 a4
  have v0 := s.val a ((X.getD a []).length - 1) a2 (by omega)
  rw [a4] at v0
  unfold cel at v0
  rw [s.same.2] at v0
  refine ⟨a, a1, by rw [← s.same.1]; exact a2, by rw [← s.same.2]; exact a3, v0, fun r hr => by rw [← s.same.2]; exact t1 r (by rw [s.same.1]; exact hr), fun r hr hne => ?_, AG (pk h.pl) s.same,
    by rw [h.same.1]; exact a2, by rw [h.same.2]; exact a3, a6, s.cut a2 a5 t1⟩
  have hr' : r < X.length := by rw [s.same.1]; exact hr
  have u1 := t1 r hr'
  have hl := s.lex r ((X.getD r []).length - 1) a ((X.getD a []).length - 1) hr' (by omega) a2 (by omega) (by rw [a4]; exact t2 r hr' hne)
  have v := s.val a ((X.getD a []).length - 1) a2 (by omega)
  rw [v, a4] at hl
  unfold cel at hl
  rw [s.same.2 r, s.same.2 a] at hl
  have e1 := s.same.2 r
  rcases hl with hl | hl
  · exact .inl hl
  · exact .inr ⟨hl.1, by omega⟩
structure Eb (r c : Nat) (b : Int) (M : List (List Int)) : Prop where
  len : M.length = r
  row : ∀ i, i < r → (M.getD i []).length = c
  sm : ∀ x ∈ M, ∀ v ∈ x, 0 ≤ v ∧ v ≤ b
end Go.Am.Pu
end
section
/- Standardizing any tableau: its cells in the order of number and column. Plain words. -/
namespace Go.Am.Pu
def Bv (t : Tab) (r : Nat) : List (Int × Int × Int) := (List.range (t.2.getD r []).length).map fun x => (cel t.2 r x, t.1.getD r 0 + x, (r : Int))
def cellsOf (t : Tab) : List (Int × Int × Int) := ((List.range t.2.length).map (Bv t)).flatten
def KLt (a b : Int × Int × Int) : Prop := a.1 < b.1 ∨ (a.1 = b.1 ∧ a.2.1 < b.2.1)
end Go.Am.Pu
end
section
/- Sorting cells by insertion, as the library does. Plain words. -/
namespace Go.Am.Pu
instance (a b : Int × Int × Int) : Decidable (KLt a b) := by unfold KLt; infer_instance
end Go.Am.Pu
end
section
/- All standard tableaux of given rows, found by taking out the greatest number. Plain words. -/
namespace Go.Am.Pu
def gF (ls : List Nat) (a : Nat) : List Nat := if ls.getD a 0 = 1 then ls.take a else ls.set a (ls.getD a 0 - 1)
end Go.Am.Pu
end
section
/- Promotion of a rectangle comes back after as many steps as there are cells (reckoned over all of them). Plain words. -/
namespace Go.Am.Pu
end Go.Am.Pu
end
section
/- The length of an orbit divides every number of steps that come back. Plain words. -/
namespace Go.Am.Pu
end Go.Am.Pu
end
section
/- Knuth's relations: insertion does not tell related words apart, and a row and a number are related to what an insertion makes of them. Plain words. -/
namespace Go.Am.Pu
abbrev Up (r : List Int) : Prop := r.Pairwise (· ≤ ·)
def eC : List Int → Int → List Int × List Int
  | [], x => ([x], [])
  | a :: r, x => if x < a then (x :: r, [a]) else (a :: (eC r x).1, (eC r x).2)
theorem eN {a x : Int} {r : List Int} (h : x < a) : eC (a :: r) x = (x :: r, [a]) := by unfold eC; rw [if_pos h]
theorem ep {a x : Int} {r : List Int} (h : a ≤ x) : eC (a :: r) x = (a :: (eC r x).1, (eC r x).2) := by
  conv => lhs; unfold eC
  rw [if_neg (by omega)]
theorem pS : ∀ (r : List Int) (x z : Int), z ∈ (eC r x).1 → z = x ∨ z ∈ r
  | [], x, z, h => by simp only [eC, List.mem_singleton] at h; exact .inl h
  | a :: r, x, z, h => by
    by_cases c : x < a
    · rw [eN c] at h
      rcases List.mem_cons.1 h with h | h
      · exact .inl h
      · exact .inr (List.mem_cons_of_mem _ h)
    · rw [ep (by omega)] at h
      rcases List.mem_cons.1 h with h | h
      · exact .inr (by rw [h]; exact List.mem_cons_self ..)
      · rcases pS r x z h with h | h
        · exact .inl h
        · exact .inr (List.mem_cons_of_mem _ h)
theorem sk : ∀ {r : List Int} (x : Int), Up r → Up (eC r x).1
  | [], x, _ => List.pairwise_singleton ..
  | a :: r, x, h => by
    have h' := List.pairwise_cons.1 h
    by_cases c : x < a
    · rw [eN c]
      exact List.pairwise_cons.2 ⟨fun z hz => by have := h'.1 z hz; omega, h'.2⟩
    · rw [ep (by omega)]
      refine List.pairwise_cons.2 ⟨fun z hz => ?_, sk x h'.2⟩
      rcases pS r x z hz with e | e
      · omega
      · exact h'.1 z e
theorem jc : ∀ (r : List Int) (x : Int), (eC r x).2 = [] ∨ ∃ b, (eC r x).2 = [b] ∧ x < b ∧ b ∈ r
  | [], x => .inl rfl
  | a :: r, x => by
    by_cases c : x < a
    · rw [eN c]; exact .inr ⟨a, rfl, c, List.mem_cons_self ..⟩
    · rw [ep (by omega)]
      rcases jc r x with h | ⟨b, h1, h2, h3⟩
      · exact .inl h
      · exact .inr ⟨b, h1, h2, List.mem_cons_of_mem _ h3⟩
theorem zU : ∀ {r : List Int} {y z : Int}, Up r → y ≤ z → ((eC r y).2 = [] → (eC (eC r y).1 z).2 = []) ∧ ∀ p q, (eC r y).2 = [p] → (eC (eC r y).1 z).2 = [q] → p ≤ q
  | [], y, z, _, hz => by
    refine ⟨fun _ => ?_, fun p q h => by simp [eC] at h⟩
    show (eC [y] z).2 = []
    rw [ep hz]; rfl
  | a :: r, y, z, h, hz => by
    have h' := List.pairwise_cons.1 h
    by_cases c : y < a
    · rw [eN c]
      refine ⟨fun e => by simp at e, fun p q e1 e2 => ?_⟩
      rw [ep hz] at e2
      rcases jc r z with o | ⟨b, o1, _, o3⟩
      · simp only at e2; rw [o] at e2; simp at e2
      · simp only at e2
        rw [o1] at e2
        simp only [List.cons.injEq, and_true] at e1 e2
        have := h'.1 b o3
        omega
    · rw [ep (show a ≤ y by omega)]
      show ((eC r y).2 = [] → (eC (a :: (eC r y).1) z).2 = []) ∧ ∀ p q, (eC r y).2 = [p] → (eC (a :: (eC r y).1) z).2 = [q] → p ≤ q
      rw [ep (show a ≤ z by omega)]
      exact zU h'.2 hz
theorem zB : ∀ {r : List Int} {y z : Int}, Up r → y < z → z ∈ r → ∃ c, (eC r y).2 = [c] ∧ y < c ∧ c ≤ z
  | [], _, _, _, _, hm => by simp at hm
  | a :: r, y, z, h, hz, hm => by
    have h' := List.pairwise_cons.1 h
    by_cases c : y < a
    · rw [eN c]
      refine ⟨a, rfl, c, ?_⟩
      rcases List.mem_cons.1 hm with e | e
      · omega
      · exact h'.1 z e
    · rw [ep (by omega)]
      rcases List.mem_cons.1 hm with e | e
      · omega
      · exact zB h'.2 hz e
theorem qx : ∀ (r : List Int) (x : Int), x ∈ (eC r x).1
  | [], x => List.mem_singleton.2 rfl
  | a :: r, x => by
    by_cases c : x < a
    · rw [eN c]; exact List.mem_cons_self ..
    · rw [ep (by omega)]; exact List.mem_cons_of_mem _ (qx r x)
def Tri (u v : List Int) : Prop := ∃ x y z : Int, (x < y ∧ y ≤ z ∧ u = [y, z, x] ∧ v = [y, x, z]) ∨ (x ≤ y ∧ y < z ∧ u = [x, z, y] ∧ v = [z, x, y])
theorem Tri.a {x y z : Int} (h1 : x < y) (h2 : y ≤ z) : Tri [y, z, x] [y, x, z] := ⟨x, y, z, .inl ⟨h1, h2, rfl, rfl⟩⟩
theorem Tri.b {x y z : Int} (h1 : x ≤ y) (h2 : y < z) : Tri [x, z, y] [z, x, y] := ⟨x, y, z, .inr ⟨h1, h2, rfl, rfl⟩⟩
def ig : List Int → List Int → List Int × List Int
  | r, [] => (r, [])
  | r, x :: w => ((ig (eC r x).1 w).1, (eC r x).2 ++ (ig (eC r x).1 w).2)
def zL (p q : List Int × List Int) : Prop := p.1 = q.1 ∧ (p.2 = q.2 ∨ Tri p.2 q.2)
theorem nK {a : Int} : ∀ {w r : List Int}, (∀ x ∈ w, a ≤ x) → ig (a :: r) w = (a :: (ig r w).1, (ig r w).2)
  | [], _, _ => rfl
  | x :: w, r, h => by
    show ((ig (eC (a :: r) x).1 w).1, (eC (a :: r) x).2 ++ (ig (eC (a :: r) x).1 w).2) = _
    rw [ep (h x (List.mem_cons_self ..))]
    simp only
    rw [nK fun y hy => h y (List.mem_cons_of_mem _ hy)]
    rfl
theorem lA (r : List Int) (x y z : Int) : ig r [x, y, z] = ((eC (eC (eC r x).1 y).1 z).1, (eC r x).2 ++ ((eC (eC r x).1 y).2 ++ (eC (eC (eC r x).1 y).1 z).2)) := by
  simp [ig]
theorem CB : ∀ {r : List Int} {x y z : Int}, Up r → x < y → y ≤ z → zL (ig r [y, z, x]) (ig r [y, x, z])
  | [], x, y, z, _, h1, h2 => by
    refine ⟨?_, .inl ?_⟩
    · simp [ig, eC, h1, show ¬ z < y by omega, show ¬ z < x by omega]
    · simp [ig, eC, h1, show ¬ z < y by omega, show ¬ z < x by omega]
  | a :: r, x, y, z, h, h1, h2 => by
    have h' := List.pairwise_cons.1 h
    by_cases c : y < a
    · rw [lA, lA, eN c]
      simp only
      rw [ep (r := r) h2, eN (r := r) h1]
      simp only
      rw [eN h1, ep (show x ≤ z by omega)]
      refine ⟨rfl, ?_⟩
      rcases jc r z with o | ⟨b, o1, o2, o3⟩
      · simp only; rw [o]; exact .inl rfl
      · simp only; rw [o1]
        exact .inr (Tri.a c (h'.1 b o3))
    · by_cases c2 : x < a
      · rw [lA, lA, ep (show a ≤ y by omega)]
        simp only
        rw [ep (show a ≤ z by omega), eN c2]
        simp only
        rw [eN c2, ep (show x ≤ z by omega)]
        refine ⟨rfl, ?_⟩
        simp only
        obtain ⟨e1, e2⟩ := zU h'.2 h2
        rcases jc r y with o | ⟨b, o1, o2, o3⟩
        · rw [o, e1 o]; exact .inl rfl
        · rcases jc (eC r y).1 z with p | ⟨d, p1, p2, p3⟩
          · rw [p, o1]; exact .inl rfl
          · rw [o1, p1]
            exact .inr (Tri.a (by omega) (e2 _ _ o1 p1))
      · have ih := CB h'.2 h1 h2
        rw [nK (by simp; omega), nK (by simp; omega)]
        exact ⟨congrArg (a :: ·) ih.1, ih.2⟩
theorem Cx : ∀ {r : List Int} {x y z : Int}, Up r → x ≤ y → y < z → zL (ig r [x, z, y]) (ig r [z, x, y])
  | [], x, y, z, _, h1, h2 => by
    refine ⟨?_, .inl ?_⟩
    · simp [ig, eC, h2, show x < z by omega, show ¬ z < x by omega, show ¬ y < x by omega]
    · simp [ig, eC, h2, show x < z by omega, show ¬ z < x by omega, show ¬ y < x by omega]
  | a :: r, x, y, z, h, h1, h2 => by
    have h' := List.pairwise_cons.1 h
    by_cases c : z < a
    · rw [lA, lA, eN (show x < a by omega), eN c]
      simp only
      rw [ep (r := r) (show x ≤ z by omega), eN (r := r) (show x < z by omega)]
      simp only
      rw [ep h1, ep h1]
      cases r with
      | nil => simp [eC, h2, zL]
      | cons b r =>
        have hb := h'.1 b (List.mem_cons_self ..)
        rw [eN (show z < b by omega), eN (show y < b by omega)]
        simp only
        rw [eN h2]
        exact ⟨rfl, .inr (Tri.a c hb)⟩
    · by_cases c2 : x < a
      · rw [lA, lA, eN c2, ep (show a ≤ z by omega)]
        simp only
        rw [eN c2, ep (show x ≤ z by omega)]
        simp only
        rw [ep h1]
        refine ⟨rfl, ?_⟩
        simp only
        rcases jc r z with o | ⟨b, o1, o2, o3⟩
        · rw [o]; exact .inl rfl
        · rw [o1]
          obtain ⟨d, d1, d2, d3⟩ := zB (sk z h'.2) h2 (qx r z)
          rw [d1]
          refine .inr (Tri.b ?_ (by omega))
          rcases jc (eC r z).1 y with p | ⟨q, p1, p2, p3⟩
          · rw [p] at d1; simp at d1
          · rw [p1] at d1
            have : q = d := by simpa using d1
            subst this
            rcases pS r z q p3 with e | e
            · omega
            · exact h'.1 q e
      · have ih := Cx h'.2 h1 h2
        rw [nK (by simp; omega), nK (by simp; omega)]
        exact ⟨congrArg (a :: ·) ih.1, ih.2⟩
theorem Ct {r u v : List Int} (h : Up r) (t : Tri u v) : zL (ig r u) (ig r v) := by
  obtain ⟨x, y, z, ⟨h1, h2, rfl, rfl⟩ | ⟨h1, h2, rfl, rfl⟩⟩ := t
  · exact CB h h1 h2
  · exact Cx h h1 h2
theorem BG (a x : Int) (r : List Int) : fst (a :: r) x = if x < a then 0 else fst r x + 1 := by
  unfold fst
  rw [List.findIdx_cons]
  by_cases c : x < a
  · rw [if_pos c, decide_eq_true c]; rfl
  · rw [if_neg c, decide_eq_false c]; rfl
theorem wW : ∀ (r : List Int) (x : Int), eC r x = if fst r x < r.length then (r.set (fst r x) x, [r.getD (fst r x) 0]) else (r ++ [x], [])
  | [], x => rfl
  | a :: r, x => by
    rw [BG]
    by_cases c : x < a
    · rw [eN c, if_pos c, if_pos (by simp)]; rfl
    · rw [ep (by omega), if_neg c, wW r x]
      by_cases d : fst r x < r.length
      · rw [if_pos d, if_pos (by simpa using d)]; rfl
      · rw [if_neg d, if_neg (by simpa using d)]; rfl
theorem xZ (r : List Int) (rs : List (List Int)) (x : Int) : (cn (r :: rs) x).1 = (eC r x).1 :: j9 (eC r x).2 rs := by
  rw [fP, wW]
  by_cases c : fst r x < r.length
  · rw [if_pos c, if_pos c]; rfl
  · rw [if_neg c, if_neg c]; rfl
theorem qI : ∀ (w r : List Int) (rs : List (List Int)), j9 w (r :: rs) = (ig r w).1 :: j9 (ig r w).2 rs
  | [], _, _ => rfl
  | x :: w, r, rs => by
    show j9 w (cn (r :: rs) x).1 = _
    rw [xZ, qI w]
    simp only [ig]
    rw [kS]
theorem Cd {u v : List Int} (t : Tri u v) : j9 u [] = j9 v [] := by
  obtain ⟨x, y, z, ⟨h1, h2, rfl, rfl⟩ | ⟨h1, h2, rfl, rfl⟩⟩ := t
  · simp [j9, cn, List.findIdx_cons, h1, show ¬ z < y by omega, show ¬ z < x by omega]
  · simp [j9, cn, List.findIdx_cons, h2, show x < z by omega, show ¬ z < x by omega, show ¬ y < x by omega]
theorem zm : ∀ {P : List (List Int)} {u v : List Int}, (∀ r ∈ P, Up r) → Tri u v → j9 u P = j9 v P
  | [], _, _, _, t => Cd t
  | r :: rs, u, v, h, t => by
    rw [qI, qI]
    obtain ⟨a, b | b⟩ := Ct (h r (List.mem_cons_self ..)) t
    · rw [a, b]
    · rw [a, zm (fun q hq => h q (List.mem_cons_of_mem _ hq)) b]
inductive Kn : List Int → List Int → Prop
  | refl (w) : Kn w w
  | symm {v w} : Kn v w → Kn w v
  | trans {u v w} : Kn u v → Kn v w → Kn u w
  | tri {u v} (a b) : Tri u v → Kn (a ++ u ++ b) (a ++ v ++ b)
theorem Kn.ctx {u v : List Int} (c d : List Int) (h : Kn u v) : Kn (c ++ u ++ d) (c ++ v ++ d) := by
  induction h with
  | refl w => exact .refl _
  | symm _ ih => exact .symm ih
  | trans _ _ h1 h2 => exact .trans h1 h2
  | tri a b t =>
    have := Kn.tri (c ++ a) (b ++ d) t
    simp only [List.append_assoc] at this ⊢
    exact this
theorem Kn.left {u v : List Int} (c : List Int) (h : Kn u v) : Kn (c ++ u) (c ++ v) := by
  have := h.ctx c []
  simpa using this
theorem Kn.right {u v : List Int} (d : List Int) (h : Kn u v) : Kn (u ++ d) (v ++ d) := by
  have := h.ctx [] d
  simpa using this
theorem Kn.cons {u v : List Int} (c : Int) (h : Kn u v) : Kn (c :: u) (c :: v) := h.left [c]
theorem Kn.of {u v : List Int} (t : Tri u v) : Kn u v := by
  have := Kn.tri [] [] t
  simpa using this
theorem Kn.app {u v u' v' : List Int} (h : Kn u u') (g : Kn v v') : Kn (u ++ v) (u' ++ v') := (h.right v).trans (g.left u')
theorem zo : ∀ {P : List (List Int)} (x : Int), (∀ r ∈ P, Up r) → ∀ r ∈ (cn P x).1, Up r
  | [], x, _ => fun r hr => by
    have : r = [x] := by simpa [cn] using hr
    rw [this]; exact List.pairwise_singleton ..
  | q :: P, x, h => by
    rw [xZ]
    intro r hr
    have hP : ∀ r ∈ P, Up r := fun r hr => h r (List.mem_cons_of_mem _ hr)
    rcases List.mem_cons.1 hr with e | e
    · rw [e]; exact sk x (h q (List.mem_cons_self ..))
    · rcases jc q x with o | ⟨b, o, _, _⟩
      · rw [o] at e; exact hP r e
      · rw [o] at e; exact zo b hP r e
theorem zM : ∀ {w : List Int} {P : List (List Int)}, (∀ r ∈ P, Up r) → ∀ r ∈ j9 w P, Up r
  | [], _, h => h
  | x :: w, P, h => show ∀ r ∈ j9 w (cn P x).1, Up r from zM (zo x h)
theorem Kn.ins {u v : List Int} (h : Kn u v) : ∀ {P : List (List Int)}, (∀ r ∈ P, Up r) → j9 u P = j9 v P := by
  induction h with
  | refl w => intro P _; rfl
  | symm _ ih => intro P hP; exact (ih hP).symm
  | trans _ _ h1 h2 => intro P hP; rw [h1 hP, h2 hP]
  | tri a b t =>
    intro P hP
    rw [kS, kS, kS, kS, zm (zM hP) t]
end Go.Am.Pu
end
section
/- Rows and slides keep words related. Plain words. -/
namespace Go.Am.Pu
theorem mI {a : Int} {r : List Int} (h : Up (a :: r)) : Up r := (List.pairwise_cons.1 h).2
theorem sa {a : Int} {r : List Int} (h : Up (a :: r)) : ∀ z ∈ r, a ≤ z := (List.pairwise_cons.1 h).1
theorem vU : ∀ {r : List Int} {x y : Int}, Up (y :: r) → x < y → Kn (y :: (r ++ [x])) (y :: x :: r)
  | [], x, y, _, _ => .refl _
  | c :: r, x, y, h, hx => by
    have hc := sa h c (List.mem_cons_self ..)
    have ih := (vU (mI h) (show x < c by omega)).cons y
    refine Kn.trans ih ?_
    exact (Kn.of (Tri.a hx hc)).right r
theorem A7 : ∀ {r : List Int} (x : Int), Up r → Kn (r ++ [x]) ((eC r x).2 ++ (eC r x).1)
  | [], x, _ => .refl _
  | a :: r, x, h => by
    by_cases c : x < a
    · rw [eN c]; exact vU h c
    · rw [ep (by omega)]
      have ih := (A7 x (mI h)).cons a
      refine Kn.trans ih ?_
      rcases jc r x with o | ⟨b, o, o2, _⟩
      · simp only; rw [o]; exact .refl _
      · simp only; rw [o]
        have hs := qx r x
        have hu := sk x (mI h)
        have hm := pS r x
        cases hr : (eC r x).1 with
        | nil => rw [hr] at hs; simp at hs
        | cons d q =>
          rw [hr] at hs hu hm
          have hd : d ≤ x := by
            rcases List.mem_cons.1 hs with e | e
            · omega
            · exact sa hu x e
          have ha : a ≤ d := by
            rcases hm d (List.mem_cons_self ..) with e | e
            · omega
            · exact sa h d e
          exact (Kn.of (Tri.b ha (show d < b by omega))).right q
theorem zh : ∀ {s : List Int} {x y : Int} (r : List Int), (∀ c ∈ s, c ≤ x) → x < y → eC (s ++ y :: r) x = (s ++ x :: r, [y])
  | [], x, y, r, _, hx => eN hx
  | a :: s, x, y, r, h, hx => by
    have ha := h a (List.mem_cons_self ..)
    show eC (a :: (s ++ y :: r)) x = _
    rw [ep ha, zh r (fun c hc => h c (List.mem_cons_of_mem _ hc)) hx]
    rfl
def Bel : List Int → List Int → Prop
  | _, [] => True
  | [], _ :: _ => False
  | x :: a, y :: b => x < y ∧ Bel a b
theorem qW : ∀ {a b : List Int}, b.length ≤ a.length → (∀ j, j < b.length → a.getD j 0 < b.getD j 0) → Bel a b
  | a, [], _, _ => by cases a <;> trivial
  | [], y :: b, h, _ => by simp at h
  | x :: a, y :: b, h, g => by
    refine ⟨g 0 (by simp), qW (by simpa using h) fun j hj => ?_⟩
    have := g (j + 1) (by simpa using hj)
    simpa using this
theorem zR : ∀ {b s a : List Int}, Up (s ++ b) → Up (s ++ a) → Bel a b → Kn (s ++ b ++ a) (b ++ s ++ a)
  | [], s, a, _, _, _ => by simpa using Kn.refl _
  | y :: b, s, [], _, _, h => h.elim
  | y :: b, s, x :: a, hb, ha, ⟨h1, h2⟩ => by
    have hsx : ∀ c ∈ s, c ≤ x := fun c hc => (List.pairwise_append.1 ha).2.2 c hc x (List.mem_cons_self ..)
    have hb' := (List.pairwise_append.1 hb)
    have k1 := A7 x hb
    rw [zh b hsx h1] at k1
    have k2 := k1.right a
    have hyb := sa hb'.2.1
    have u1 : Up ((s ++ [x]) ++ b) := by
      rw [List.append_assoc]
      refine List.pairwise_append.2 ⟨hb'.1, List.pairwise_cons.2 ⟨fun z hz => by have := hyb z hz; omega, mI hb'.2.1⟩, fun c hc z hz => ?_⟩
      rcases List.mem_cons.1 hz with e | e
      · rw [e]; exact hsx c hc
      · have := hsx c hc; have := hyb z e; omega
    have u2 : Up ((s ++ [x]) ++ a) := by rw [List.append_assoc]; exact ha
    have ih := (zR u1 u2 h2).cons y
    simp only [List.append_assoc, List.cons_append, List.nil_append, List.singleton_append] at k2 ih ⊢
    exact k2.trans ih
theorem CC : ∀ {A B A' B' : List Int} {b : Int}, A.length = B.length → Bel A B → Up (B ++ b :: B') → Up (A ++ b :: A') → Bel A' B' →
    Kn ((B ++ b :: B') ++ (A ++ A')) ((B ++ B') ++ (A ++ b :: A'))
  | [], [], A', B', b, _, _, hb, ha, h => by
    have := zR (s := [b]) (b := B') (a := A') hb ha h
    simpa using this
  | [], _ :: _, _, _, _, h, _, _, _, _ => by simp at h
  | _ :: _, [], _, _, _, h, _, _, _, _ => by simp at h
  | a :: A, y :: B, A', B', b, hl, ⟨h1, h2⟩, hb, ha, h => by
    have ih := CC (A := A) (B := B) (by simpa using hl) h2 (mI hb) (mI ha) h
    have k1 := (vU hb h1).right (A ++ A')
    have k2 := ih.left [y, a]
    have hb2 : Up (y :: (B ++ B')) := by
      have hb' := List.pairwise_append.1 (show Up ((y :: B) ++ b :: B') from hb)
      exact List.pairwise_append.2 ⟨hb'.1, mI hb'.2.1, fun c hc z hz => hb'.2.2 c hc z (List.mem_cons_of_mem _ hz)⟩
    have k3 := (vU hb2 h1).right (A ++ b :: A')
    simp only [List.append_eq, List.append_assoc, List.cons_append, List.nil_append] at k1 k2 k3 ⊢
    exact (k1.trans k2).trans k3.symm
theorem DA {r : List Int} (h : ly r) : Up r := by
  refine List.pairwise_iff_getElem.2 fun i j hi hj hij => ?_
  have := h.mono (Nat.le_of_lt hij) hj
  rw [aB hi, aB hj] at this
  exact this
def js (f : Nat → List Int) : Nat → List Int
  | 0 => []
  | n + 1 => f n ++ js f n
theorem j5 {f f' : Nat → List Int} : ∀ {n : Nat}, (∀ r, r < n → f r = f' r) → js f n = js f' n
  | 0, _ => rfl
  | n + 1, h => by
    show f n ++ js f n = f' n ++ js f' n
    rw [h n (by omega), j5 fun r hr => h r (by omega)]
theorem vu {f f' : Nat → List Int} {i : Nat} (k : Kn (f (i + 1) ++ f i) (f' (i + 1) ++ f' i)) : ∀ {n : Nat}, i + 1 < n → (∀ r, r < n → r ≠ i → r ≠ i + 1 → f r = f' r) → Kn (js f n) (js f' n)
  | 0, h, _ => by omega
  | n + 1, hn, h => by
    show Kn (f n ++ js f n) (f' n ++ js f' n)
    by_cases e : n = i + 1
    · subst e
      show Kn (f (i + 1) ++ (f i ++ js f i)) (f' (i + 1) ++ (f' i ++ js f' i))
      rw [j5 (f := f) (f' := f') (n := i) fun r hr => h r (by omega) (by omega) (by omega), ← List.append_assoc, ← List.append_assoc]
      exact k.right _
    · rw [h n (by omega) (by omega) (by omega)]
      exact (vu k (by omega) fun r hr => h r (by omega)).left _
theorem sr : ∀ (rs : List (List Int)), rs.reverse.flatten = js (fun r => rs.getD r []) rs.length := by
  intro rs
  have : ∀ (n : Nat), n ≤ rs.length → (rs.take n).reverse.flatten = js (fun r => rs.getD r []) n := by
    intro n
    induction n with
    | zero => intro _; rfl
    | succ n ih =>
      intro hn
      rw [take_succ (by omega) [], List.reverse_append, List.flatten_append, ih (by omega)]
      simp [js]
  have h := this rs.length (Nat.le_refl _)
  rwa [List.take_of_length_le (Nat.le_refl _)] at h
def uF (q : List Int) (g : List (List Int)) (i c r : Nat) : List Int :=
  if r = i then ((g.getD r []).take c).drop (q.getD r 0).toNat ++ (g.getD r []).drop (c + 1) else (g.getD r []).drop (q.getD r 0).toNat
def nj (q : List Int) (g : List (List Int)) (i c : Nat) : List Int := js (uF q g i c) g.length
theorem nq (g : List (List Int)) (r c : Nat) (v : Int) (q : Nat) : (dq g r c v).getD q [] = if q = r then (g.getD r []).set c v else g.getD q [] := by
  unfold dq
  by_cases e : q = r
  · subst e
    rw [if_pos rfl]
    by_cases h : q < g.length
    · rw [aB (by rw [List.length_set]; exact h), List.getElem_set_self]
    · rw [bw (xs := g.set q _) (by rw [List.length_set]; omega), bw (xs := g) (by omega)]; rfl
  · rw [if_neg e, getD_set_ne (Ne.symm e)]
theorem yP {r : List Int} {q c : Nat} (h1 : q ≤ c) (h2 : c < r.length) : r.drop q = (r.take c).drop q ++ r.getD c 0 :: r.drop (c + 1) := by
  conv => lhs; rw [← List.take_append_drop c r]
  rw [List.drop_append, List.length_take, drop_cons h2 0, show q - min c r.length = 0 by omega]
  rfl
theorem ux {r : List Int} {q c : Nat} (v : Int) (h1 : q ≤ c) (h2 : c < r.length) : (r.set c v).drop q = (r.take c).drop q ++ v :: r.drop (c + 1) := by
  rw [yP h1 (by rw [List.length_set]; exact h2), gD v h2, if_pos rfl, List.take_set_of_le (Nat.le_refl _), List.drop_set_of_lt (by omega)]
theorem tI {r : List Int} {q : Nat} (h : ∀ x, q ≤ x → x + 1 < r.length → r.getD x 0 ≤ r.getD (x + 1) 0) : Up (r.drop q) := by
  refine DA fun i hi => ?_
  rw [List.length_drop] at hi
  rw [fc, fc]
  exact h (q + i) (by omega) (by omega)
theorem w5 {q : List Int} {g : List (List Int)} {i c : Nat} (h : Sl q g i c) (hr : cel g i (c + 1) ≠ 0) : nj q (dq g i c (cel g i (c + 1))) i (c + 1) = nj q g i c := by
  obtain ⟨b1, b2⟩ := iq hr
  have hq := h.hq
  have hq0 := h.q0 i
  unfold nj
  rw [cj]
  refine j5 fun r _ => ?_
  unfold uF
  rw [nq]
  by_cases e : r = i
  · subst e
    rw [if_pos rfl, if_pos rfl, if_pos rfl]
    have e1 : ((g.getD r []).set c (cel g r (c + 1))).take (c + 1) = (g.getD r []).take c ++ [cel g r (c + 1)] := by
      rw [take_succ (by rw [List.length_set]; omega) 0, gD _ (by omega), if_pos rfl, List.take_set_of_le (Nat.le_refl _)]
    rw [e1, List.drop_set_of_lt (by omega), List.drop_append, List.length_take, show (q.getD r 0).toNat - min c (g.getD r []).length = 0 by omega, List.append_assoc]
    congr 1
    exact (drop_cons b2 0).symm
  · rw [if_neg e, if_neg e, if_neg e]
theorem yh {q : List Int} {g : List (List Int)} {i c : Nat} (h : Sl q g i c) (hb : cel g (i + 1) c ≠ 0) (hd : Sl q (dq g i c (cel g (i + 1) c)) (i + 1) c) :
    Kn (nj q g i c) (nj q (dq g i c (cel g (i + 1) c)) (i + 1) c) := by
  obtain ⟨b1, b2⟩ := iq hb
  have hq := h.hq
  have hq0 := h.q0 i
  have hq1 := h.q0 (i + 1)
  have hqm := h.qm i
  have hc := h.hc
  have hl := h.lm i
  unfold nj
  rw [cj]
  refine vu ?_ b1 fun r _ h1 h2 => ?_
  · unfold uF
    rw [if_pos rfl, if_neg (show ¬ i + 1 = i by omega), if_pos rfl, if_neg (show ¬ i = i + 1 by omega), nq, nq, if_pos rfl, if_neg (show ¬ i + 1 = i by omega), ux _ (by omega) hc, yP (by omega) b2]
    have hC : ∀ m : List Int, c ≤ m.length → (m.take c).drop (q.getD (i + 1) 0).toNat = ((m.take c).take (q.getD i 0).toNat).drop (q.getD (i + 1) 0).toNat ++ (m.take c).drop (q.getD i 0).toNat := fun m hm => by
      conv => lhs; rw [← List.take_append_drop (q.getD i 0).toNat (m.take c)]
      rw [List.drop_append, List.length_take, List.length_take, show (q.getD (i + 1) 0).toNat - min (q.getD i 0).toNat (min c m.length) = 0 by omega]
      rfl
    rw [hC _ (by omega)]
    have key := CC (A := ((g.getD i []).take c).drop (q.getD i 0).toNat) (B := ((g.getD (i + 1) []).take c).drop (q.getD i 0).toNat) (A' := (g.getD i []).drop (c + 1)) (B' := (g.getD (i + 1) []).drop (c + 1)) (b := cel g (i + 1) c)
      (by simp only [List.length_drop, List.length_take]; omega)
      (qW (by simp only [List.length_drop, List.length_take]; omega) fun j hj => by
        simp only [List.length_drop, List.length_take] at hj
        rw [fc, fc, dH (by omega), dH (by omega)]
        exact h.col i ((q.getD i 0).toNat + j) (by omega) (by omega) (by omega) (by omega))
      (by
        have := tI (r := g.getD (i + 1) []) (q := (q.getD i 0).toNat) fun x h1 h2 => h.row (i + 1) x (by omega) h2 (by omega) (by omega)
        rwa [yP (by omega) b2] at this)
      (by
        have := tI (r := (dq g i c (cel g (i + 1) c)).getD i []) (q := (q.getD i 0).toNat) fun x h1 h2 => hd.row i x (by omega) h2 (by omega) (by omega)
        rwa [nq, if_pos rfl, ux _ (by omega) hc] at this)
      (qW (by simp only [List.length_drop]; omega) fun j hj => by
        simp only [List.length_drop] at hj
        rw [fc, fc]
        exact h.col i (c + 1 + j) (by omega) (by omega) (by omega) (by omega))
    have := key.left (((g.getD (i + 1) []).take c).take (q.getD i 0).toNat |>.drop (q.getD (i + 1) 0).toNat)
    simp only [List.append_assoc] at this ⊢
    exact this
  · unfold uF
    rw [if_neg h1, if_neg h2, nq, if_neg h1]
theorem uu {q : List Int} : ∀ (m : Nat) (g : List (List Int)) (i c : Nat), Sl q g i c → Kn (nj q g i c) (nj q (bI m g i c).1 (bI m g i c).2.1 (bI m g i c).2.2)
  | 0, g, i, c, h => .refl _
  | m + 1, g, i, c, h => by
    unfold bI
    by_cases c1 : cel g i (c + 1) = 0 ∧ cel g (i + 1) c = 0
    · rw [if_pos c1]; exact .refl _
    · rw [if_neg c1]
      by_cases c2 : cel g i (c + 1) = 0 ∨ (0 < cel g (i + 1) c ∧ cel g (i + 1) c ≤ cel g i (c + 1))
      · rw [if_pos c2]
        have hb : cel g (i + 1) c ≠ 0 := by
          intro e
          rcases c2 with c2 | c2
          · exact c1 ⟨c2, e⟩
          · omega
        have hd := h.down hb c2
        exact (yh h hb hd).trans (uu m _ _ _ hd)
      · rw [if_neg c2]
        have hr : cel g i (c + 1) ≠ 0 := fun e => c2 (.inl e)
        have hd := h.right hr (fun e => c2 (.inr e))
        have := uu m _ _ _ hd
        rw [w5 h hr] at this
        exact this
end Go.Am.Pu
end
section
/- The rectification is the tableau of the word. Plain words. -/
namespace Go.Am.Pu
theorem tH {f : Nat → List Int} {m : Nat} : ∀ {n : Nat}, m ≤ n → (∀ r, m ≤ r → r < n → f r = []) → js f n = js f m
  | 0, h, _ => by rw [show m = 0 by omega]
  | n + 1, h, g => by
    by_cases e : m = n + 1
    · rw [e]
    · show f n ++ js f n = _
      rw [g n (by omega) (by omega), tH (n := n) (by omega) fun r h1 h2 => g r h1 (by omega)]
      rfl
theorem mr {t : Tab} {r : Nat} (h : r < t.2.length) : ((bT t).getD r []).drop (t.1.getD r 0).toNat = t.2.getD r [] := by
  rw [pX h, List.drop_append, List.length_replicate, Nat.sub_self, List.drop_zero, List.drop_of_length_le (by simp)]
  rfl
def ju (t : Tab) : List Int := t.2.reverse.flatten
theorem w6 {t : Tab} (h : cz t = true) {n : Nat} (hn : n < t.1.length) (hc : t.1.getD (n + 1) 0 < t.1.getD n 0) : Kn (ju t) (ju (cf t n).1) := by
  obtain ⟨hp, ho, hl, _⟩ := ct h
  have hst := nA h hn hc
  have hgo := uu 18 _ _ _ hst
  obtain ⟨E, _, _⟩ := AR h hn hc
  have hdg := fun r => iy hp hn hc r
  have hpos : 1 ≤ t.1.getD n 0 := by
    have := (bn hp).1 _ (List.getElem_mem hn)
    rw [aB hn]; exact this.1
  have e1 : ju t = nj (az t.1 n) (bT t) n (t.1.getD n 0 - 1).toNat := by
    unfold ju nj
    rw [sr, eY]
    refine j5 fun r hr => ?_
    unfold uF
    rw [hdg]
    by_cases e : r = n
    · subst e
      rw [if_pos rfl, if_pos rfl, show (t.1.getD r 0 - 1).toNat + 1 = (t.1.getD r 0).toNat by omega, mr hr, List.drop_of_length_le (by rw [List.length_take]; omega)]
      rfl
    · rw [if_neg e, if_neg e, mr hr]
  have e2 : ju (cf t n).1 = nj (az t.1 n) (bB t n).1 (bB t n).2.1 (bB t n).2.2 := by
    unfold ju cf
    simp only
    rw [sr, b8]
    unfold nj
    rw [E.len]
    have hol := ck t
    have hdl := iK (outer t) (bB t n).2.1
    have hrow : ∀ r, uF (az t.1 n) (bB t n).1 (bB t n).2.1 (bB t n).2.2 r = ((jg (bB t n).1 (bB t n).2.1 (bB t n).2.2).getD r []).drop ((az t.1 n).getD r 0).toNat := fun r => by
      unfold uF
      rw [nc E.sl.hi]
      by_cases e : r = (bB t n).2.1
      · rw [if_pos e, if_pos e, e, List.drop_of_length_le (i := (bB t n).2.2 + 1), List.append_nil]
        have a := E.row (bB t n).2.1
        have b := eF hp (bB t n).2.1
        have c := E.end_
        omega
      · rw [if_neg e, if_neg e]
    rw [tH (m := (az (outer t) (bB t n).2.1).length) (n := t.2.length) (by omega) fun r h1 h2 => by
      rw [hrow]
      have := E.cutl r
      rw [bw (xs := az (outer t) (bB t n).2.1) h1] at this
      exact List.drop_of_length_le (by omega)]
    refine j5 fun r hr => ?_
    rw [dm hr, hrow]
  rw [e1, e2]
  exact hgo
theorem zj : ∀ (m : Nat) (t : Tab), cz t = true → Kn (ju t) (ju (jj m t))
  | 0, t, _ => .refl _
  | m + 1, t, h => by
    unfold jj
    split
    · exact .refl _
    · have hn : t.1.length - 1 < t.1.length := by omega
      have hc := j7 (ct h).1 (by omega)
      exact (w6 h hn hc).trans (zj m _ (gI h hn hc))
theorem uB : ∀ (m : Nat) (t : Tab), cz t = true → dC t.1 ≤ m → (jj m t).1 = []
  | 0, t, h, hs => by
    show t.1 = []
    refine List.eq_nil_of_length_eq_zero (Nat.eq_zero_of_not_pos fun hl => ?_)
    have hp := (bn (ct h).1).1
    cases ht : t.1 with
    | nil => rw [ht] at hl; simp at hl
    | cons a p =>
      rw [ht] at hs hp
      have h1 := hp a (List.mem_cons_self ..)
      have h2 : 0 ≤ dC p := rk _ fun x hx => by have := hp x (List.mem_cons_of_mem _ hx); omega
      have h3 : dC (a :: p) = a + dC p := rfl
      omega
  | m + 1, t, h, hs => by
    unfold jj
    split
    · next e => exact List.eq_nil_of_length_eq_zero e
    · have hn : t.1.length - 1 < t.1.length := by omega
      have hp := (ct h).1
      have hc := j7 hp (by omega)
      refine uB m _ (gI h hn hc) ?_
      show dC (az t.1 (t.1.length - 1)) ≤ m
      rw [pJ hp hn hc]; omega
theorem yZ {t : Tab} (h : cz t = true) : cV (cN t).1 = true ∧ (cN t).1.1 = [] := by
  unfold cN
  rw [if_pos h]
  have h1 := uv 9 t h
  have h2 := uB 9 t h (bn (ct h).1).2.1
  refine ⟨?_, h2⟩
  unfold cV
  simp only
  rw [h2, h1]; rfl
theorem nS {t : Tab} (h : cz t = true) : (cN t).1 = ([], j9 (ju t) []) := by
  obtain ⟨h1, h2⟩ := yZ h
  refine Prod.ext h2 ?_
  have hs := v7 h1
  have hk : Kn (ju t) (ju (cN t).1) := by
    unfold cN
    rw [if_pos h]
    exact zj 9 t h
  simp only
  rw [hk.ins (P := []) (fun r hr => by simp at hr)]
  exact (uV _ hs).symm
theorem yW {t : Tab} (h : cz t = true) {n : Nat} (hn : n < t.1.length) (hc : t.1.getD (n + 1) 0 < t.1.getD n 0) : cN (cf t n).1 = cN t := by
  refine Prod.ext ?_ ?_
  · rw [nS h, nS (gI h hn hc), (w6 h hn hc).ins (P := []) (fun r hr => by simp at hr)]
  · unfold cN
    rw [if_pos h, if_pos (gI h hn hc)]
end Go.Am.Pu
end
section
/- Slides outwards: what holds on the way, what they leave; slides in and out undo each other. Plain words. -/
namespace Go.Am.Pu
theorem eX {p : List Int} (hp : bN p = true) (r : Nat) : 0 ≤ p.getD r 0 ∧ p.getD r 0 ≤ 9 := by
  have := cY hp r
  rwa [cm] at this
theorem jh {p : List Int} (hp : bN p = true) {r : Nat} (hr : r < p.length) : 1 ≤ p.getD r 0 := by
  rw [aB hr]; exact ((bn hp).1 _ (List.getElem_mem hr)).1
theorem BO {p q : List Int} (hp : bN p = true) (hq : bN q = true) (h : ∀ r, p.getD r 0 = q.getD r 0) : p = q := by
  have hl : p.length = q.length := by
    rcases Nat.lt_trichotomy p.length q.length with c | c | c
    · have := jh hq c
      rw [← h, bw (Nat.le_refl _)] at this; omega
    · exact c
    · have := jh hp c
      rw [h, bw (Nat.le_refl _)] at this; omega
  exact nY hl fun x _ => h x
theorem qP : ∀ {a b : List Int}, (∀ i, a.getD i 0 ≤ b.getD i 0) → dC a ≤ dC b ∧ ∀ j, a.getD j 0 < b.getD j 0 → dC a < dC b
  | [], [], _ => ⟨Int.le_refl _, fun j h => by simp at h⟩
  | [], y :: b, h => by
    have h0 := h 0
    obtain ⟨i1, i2⟩ := qP (a := []) (b := b) fun i => by have := h (i + 1); simpa using this
    simp only [List.getD_nil, List.getD_cons_zero] at h0
    simp only [dC] at *
    refine ⟨by omega, fun j hj => ?_⟩
    cases j with
    | zero => simp at hj; omega
    | succ j => have := i2 j (by simpa using hj); omega
  | x :: a, [], h => by
    have h0 := h 0
    obtain ⟨i1, i2⟩ := qP (a := a) (b := []) fun i => by have := h (i + 1); simpa using this
    simp only [List.getD_nil, List.getD_cons_zero] at h0
    simp only [dC] at *
    refine ⟨by omega, fun j hj => ?_⟩
    cases j with
    | zero => simp at hj; omega
    | succ j => have := i2 j (by simpa using hj); omega
  | x :: a, y :: b, h => by
    have h0 := h 0
    obtain ⟨i1, i2⟩ := qP (a := a) (b := b) fun i => by have := h (i + 1); simpa using this
    simp only [List.getD_cons_zero] at h0
    simp only [dC] at *
    refine ⟨by omega, fun j hj => ?_⟩
    cases j with
    | zero => simp at hj; omega
    | succ j => have := i2 j (by simpa using hj); omega
theorem Bz {q : List Int} {i : Nat} : ∀ r, (if (i : Int) = q.length then q ++ [0] else q).getD r 0 = q.getD r 0 := fun r => by
  split
  · by_cases hr : r < q.length
    · rw [g8 hr]
    · rw [jy (by omega), bw (xs := q) (by omega)]
      cases r - q.length <;> rfl
  · rfl
theorem Ae {q : List Int} {i : Nat} (hq : bN q = true) (hi : i ≤ q.length) (hm : i = 0 ∨ q.getD i 0 + 1 ≤ q.getD (i - 1) 0) (hs : dC q + 1 ≤ 9) : ∃ o, dy q i = (o, true) := by
  have hlen : i < (if (i : Int) = q.length then q ++ [0] else q).length := by
    split
    · rw [List.length_append, List.length_singleton]; omega
    · omega
  have hsum : dC (if (i : Int) = q.length then q ++ [0] else q) = dC q := by
    split
    · rw [A6]; simp [dC]
    · rfl
  have hg := Bz (q := q) (i := i)
  unfold dy
  rw [if_pos ⟨hq, by omega, by omega⟩]
  simp only [Int.toNat_natCast]
  generalize hw : (if (i : Int) = q.length then q ++ [0] else q) = w at *
  have hset : ∀ r, (w.set i (w.getD i 0 + 1)).getD r 0 = if r = i then q.getD i 0 + 1 else q.getD r 0 := fun r => by
    rw [gD _ hlen, hg]
    by_cases e : r = i
    · rw [if_pos e, if_pos e]
    · rw [if_neg e, if_neg e, hg]
  have hpart : bN (w.set i (w.getD i 0 + 1)) = true := by
    have hle : dC q ≤ 8 := by omega
    have h1 : ∀ r, q.getD r 0 ≤ 8 := fun r => by
      have h0 := (eX hq r).1
      by_cases hr : r < q.length
      · have := qP (a := List.replicate (r + 1) 0 |>.set r (q.getD r 0)) (b := q) fun i => by
          rw [gD _ (by simp)]
          by_cases e : i = r
          · rw [if_pos e, e]; exact Int.le_refl _
          · rw [if_neg e]
            have : (List.replicate (r + 1) (0 : Int)).getD i 0 = 0 := by
              by_cases hi : i < r + 1
              · rw [aB (by simpa using hi)]; simp
              · rw [bw (by simp; omega)]
            rw [this]; exact (eX hq i).1
        have h2 := this.1
        rw [n5 _ _ _ (by simp)] at h2
        have h3 : ∀ n, dC (List.replicate n 0) = 0 := fun n => by
          induction n with
          | zero => rfl
          | succ n ih => rw [List.replicate_succ]; simp [dC, ih]
        have h4 : (List.replicate (r + 1) (0 : Int)).getD r 0 = 0 := by rw [aB (by simp)]; simp
        rw [h3, h4] at h2
        omega
      · rw [bw (by omega)]; omega
    refine kt _ _ _ (fun x hx => ?_) (fun _ => ?_) (fun r _ => ?_) ?_
    · obtain ⟨r, hr, rfl⟩ := List.getElem_of_mem hx
      rw [← aB hr 0, hset]
      by_cases e : r = i
      · rw [if_pos e]
        have := (eX hq i).1
        omega
      · rw [if_neg e]
        rw [List.length_set] at hr
        refine jh hq ?_
        rw [← hw] at hr
        split at hr
        · rw [List.length_append, List.length_singleton] at hr; omega
        · exact hr
    · rw [hset]
      have := h1 0
      have := h1 i
      split <;> omega
    · rw [hset, hset]
      have := dV hq r
      by_cases e : r = i
      · subst e
        rw [if_neg (by omega), if_pos rfl]; omega
      · rw [if_neg e]
        by_cases e2 : r + 1 = i
        · subst e2
          rw [if_pos rfl]
          rcases hm with hm | hm
          · omega
          · simpa using hm
        · rw [if_neg e2]; exact this
    · rw [n5 _ _ _ hlen, hg, hsum]; omega
  rw [if_pos hpart]
  exact ⟨_, rfl⟩
theorem wz {p q : List Int} {n : Nat} (hp : bN p = true) (h : dy p n = (q, true)) : az q n = p ∧ q.getD (n + 1) 0 < q.getD n 0 := by
  obtain ⟨b1, b2, b3, b4, b5⟩ := fx h
  have hc : q.getD (n + 1) 0 < q.getD n 0 := by
    rw [b4, b4, if_neg (by omega), if_pos rfl]
    have := dV hp n
    omega
  refine ⟨BO (ic b5 b2 hc) hp fun r => ?_, hc⟩
  rw [iy b5 b2 hc, b4, b4, if_pos rfl]
  by_cases e : r = n
  · rw [if_pos e, e]; omega
  · rw [if_neg e, if_neg e]
theorem Sl.up {q : List Int} {g : List (List Int)} {i c : Nat} (h : Sl q g (i + 1) c) (hi : Inn q g) (hu : cel g i c ≠ 0) (hl : leftOf g (i + 1) c ≤ cel g i c) : Sl q (dq g (i + 1) c (cel g i c)) i c := by
  obtain ⟨b1, b2⟩ := iq hu
  have hq : q.getD i 0 ≤ c := Int.not_lt.1 fun hlt => hu (hi i c hlt)
  have hqm := h.qm i
  have hun := h.num i c hq b2 (by omega)
  have e0 := fp (cel g i c) h.hi h.hc
  have en : ∀ r x, ¬ (r = i + 1 ∧ x = c) → cel (dq g (i + 1) c (cel g i c)) r x = cel g r x := fun r x hh => eu _ hh
  have hll := h.lm i
  refine ⟨h.q0, h.qm, fun r => ?_, ?_, ?_, hq, fun r x => ?_, fun r x h1 h2 h3 => ?_, fun r x h1 h2 h3 h4 => ?_, fun r x h1 h2 h3 h4 => ?_, fun x h1 h2 h3 => ?_, fun r h1 h2 h3 => ?_⟩
  · rw [bm, bm]; exact h.lm r
  · rw [cj]; exact b1
  · rw [bm]; exact b2
  · by_cases e : r = i + 1 ∧ x = c
    · rw [e.1, e.2, e0]; exact h.pos _ _
    · rw [en r x e]; exact h.pos _ _
  · rw [bm] at h2
    by_cases e : r = i + 1 ∧ x = c
    · rw [e.1, e.2, e0]; exact hun
    · rw [en r x e]; exact h.num r x h1 h2 e
  · rw [bm] at h2
    by_cases e : r = i + 1 ∧ x = c
    · obtain ⟨rfl, rfl⟩ := e
      rw [e0, en _ _ (by omega)]
      have h5 := h.row i x hq (by omega) (by omega) (by omega)
      have h6 := h.col i (x + 1) (by omega) h2 (by omega) (by omega)
      omega
    · rw [en r x e]
      by_cases e' : r = i + 1 ∧ x + 1 = c
      · obtain ⟨rfl, rfl⟩ := e'
        rw [e0]
        unfold leftOf at hl
        rw [if_neg (by omega), show x + 1 - 1 = x by omega] at hl
        exact hl
      · rw [en r (x + 1) e']; exact h.row r x h1 h2 e e'
  · rw [bm] at h2
    by_cases e : r = i + 1 ∧ x = c
    · obtain ⟨rfl, rfl⟩ := e
      rw [e0, en _ _ (by omega)]
      exact h.colH i rfl hq h2
    · rw [en r x e]
      by_cases e' : r + 1 = i + 1 ∧ x = c
      · exact (h3 ⟨by omega, e'.2⟩).elim
      · rw [en (r + 1) x e']
        exact h.col r x h1 h2 e e'
  · rw [bm] at h3
    rw [en _ _ (by omega), en _ _ (by omega)]
    subst h1
    have h5 := h.row i x h2 (by omega) (by omega) (by omega)
    have h6 := h.row i (x + 1) (by omega) h3 (by omega) (by omega)
    omega
  · rw [bm] at h3
    subst h1
    rw [en _ _ (by omega), e0]
    exact h.col r c h2 b2 (by omega) (by omega)
theorem Sl.left {q : List Int} {g : List (List Int)} {i c : Nat} (h : Sl q g i (c + 1)) (hi : Inn q g) (hv : cel g i c ≠ 0) (hu : fz g i (c + 1) < cel g i c) : Sl q (dq g i (c + 1) (cel g i c)) i c := by
  obtain ⟨b1, b2⟩ := iq hv
  have hq : q.getD i 0 ≤ c := Int.not_lt.1 fun hlt => hv (hi i c hlt)
  have hqm := h.qm i
  have hvn := h.num i c hq b2 (by omega)
  have e0 := fp (cel g i c) h.hi h.hc
  have en : ∀ r x, ¬ (r = i ∧ x = c + 1) → cel (dq g i (c + 1) (cel g i c)) r x = cel g r x := fun r x hh => eu _ hh
  have hll := h.lm i
  refine ⟨h.q0, h.qm, fun r => ?_, ?_, ?_, hq, fun r x => ?_, fun r x h1 h2 h3 => ?_, fun r x h1 h2 h3 h4 => ?_, fun r x h1 h2 h3 h4 => ?_, fun x h1 h2 h3 => ?_, fun r h1 h2 h3 => ?_⟩
  · rw [bm, bm]; exact h.lm r
  · rw [cj]; exact b1
  · rw [bm]; exact b2
  · by_cases e : r = i ∧ x = c + 1
    · rw [e.1, e.2, e0]; exact h.pos _ _
    · rw [en r x e]; exact h.pos _ _
  · rw [bm] at h2
    by_cases e : r = i ∧ x = c + 1
    · rw [e.1, e.2, e0]; exact hvn
    · rw [en r x e]; exact h.num r x h1 h2 e
  · rw [bm] at h2
    by_cases e : r = i ∧ x = c + 1
    · obtain ⟨rfl, rfl⟩ := e
      rw [e0, en _ _ (by omega)]
      exact h.uF c rfl hq h2
    · rw [en r x e]
      by_cases e' : r = i ∧ x + 1 = c + 1
      · exact (h3 ⟨e'.1, by omega⟩).elim
      · rw [en r (x + 1) e']; exact h.row r x h1 h2 e e'
  · rw [bm] at h2
    by_cases e : r = i ∧ x = c + 1
    · obtain ⟨rfl, rfl⟩ := e
      rw [e0, en _ _ (by omega)]
      have h5 := h.col r c hq (by omega) (by omega) (by omega)
      have h6 := h.row (r + 1) c (by omega) h2 (by omega) (by omega)
      omega
    · rw [en r x e]
      by_cases e' : r + 1 = i ∧ x = c + 1
      · obtain ⟨rfl, rfl⟩ := e'
        rw [e0]
        unfold fz at hu
        rw [if_neg (by omega), show r + 1 - 1 = r by omega] at hu
        exact hu
      · rw [en (r + 1) x e']
        exact h.col r x h1 h2 e e'
  · rw [bm] at h3
    subst h1
    rw [en _ _ (by omega), e0]
    exact h.row i x h2 b2 (by omega) (by omega)
  · rw [bm] at h3
    rw [en _ _ (by omega), en _ _ (by omega)]
    subst h1
    have h5 := h.col r c h2 b2 (by omega) (by omega)
    have h6 := h.col (r + 1) c hq h3 (by omega) (by omega)
    omega
theorem yI {g : List (List Int)} {i c : Nat} (h1 : cel g i (c + 1) = 0) (h2 : cel g (i + 1) c = 0) : ∀ m, bI m g i c = (g, (i, c))
  | 0 => rfl
  | m + 1 => by unfold bI; rw [if_pos ⟨h1, h2⟩]
theorem C3 {q : List Int} {g h : List (List Int)} {i c : Nat} (hs : Sl q g (i + 1) c) (hi : Inn q g) (hu : cel g i c ≠ 0) (ha : Ag id (dq g (i + 1) c (cel g i c)) h i c) :
    ∃ h', Ag id g h' (i + 1) c ∧ ∀ m, bI (m + 1) h i c = bI m h' (i + 1) c := by
  obtain ⟨b1, b2⟩ := iq hu
  have hq : q.getD i 0 ≤ c := Int.not_lt.1 fun hlt => hu (hi i c hlt)
  have hp := hs.pos i c
  have hb : cel h (i + 1) c = cel g i c := by rw [ha.at_ _ _ (by omega), fp _ hs.hi hs.hc]; rfl
  have hr : cel h i (c + 1) = cel g i (c + 1) := by rw [ha.at_ _ _ (by omega), eu _ (by omega)]; rfl
  refine ⟨dq h i c (cel h (i + 1) c), ⟨by rw [cj, ha.len, cj], fun r => by rw [bm, ha.row, bm], fun r x hn => ?_⟩, fun m => ?_⟩
  · by_cases e : r = i ∧ x = c
    · obtain ⟨rfl, rfl⟩ := e
      rw [fp _ (by rw [ha.len, cj]; exact b1) (by rw [ha.row, bm]; exact b2), hb]; rfl
    · rw [eu _ e, ha.at_ r x e, eu _ hn]
  · conv => lhs; unfold bI
    rw [if_neg (by rw [hb]; omega), if_pos ?_]
    rw [hb, hr]
    by_cases c1 : cel g i (c + 1) = 0
    · exact .inl c1
    · obtain ⟨_, d2⟩ := iq c1
      exact .inr ⟨by omega, hs.row i c hq d2 (by omega) (by omega)⟩
theorem A5 {q : List Int} {g h : List (List Int)} {i c : Nat} (hs : Sl q g i (c + 1)) (hi : Inn q g) (hv : cel g i c ≠ 0) (ha : Ag id (dq g i (c + 1) (cel g i c)) h i c) :
    ∃ h', Ag id g h' i (c + 1) ∧ ∀ m, bI (m + 1) h i c = bI m h' i (c + 1) := by
  obtain ⟨b1, b2⟩ := iq hv
  have hq : q.getD i 0 ≤ c := Int.not_lt.1 fun hlt => hv (hi i c hlt)
  have hp := hs.pos i c
  have hr : cel h i (c + 1) = cel g i c := by rw [ha.at_ _ _ (by omega), fp _ hs.hi hs.hc]; rfl
  have hb : cel h (i + 1) c = cel g (i + 1) c := by rw [ha.at_ _ _ (by omega), eu _ (by omega)]; rfl
  refine ⟨dq h i c (cel h i (c + 1)), ⟨by rw [cj, ha.len, cj], fun r => by rw [bm, ha.row, bm], fun r x hn => ?_⟩, fun m => ?_⟩
  · by_cases e : r = i ∧ x = c
    · obtain ⟨rfl, rfl⟩ := e
      rw [fp _ (by rw [ha.len, cj]; exact b1) (by rw [ha.row, bm]; exact b2), hr]; rfl
    · rw [eu _ e, ha.at_ r x e, eu _ hn]
  · conv => lhs; unfold bI
    rw [if_neg (by rw [hr]; omega), if_neg ?_]
    rw [hb, hr]
    rintro (c1 | ⟨c1, c2⟩)
    · exact hv c1
    · obtain ⟨_, d2⟩ := iq (show cel g (i + 1) c ≠ 0 by omega)
      have := hs.col i c hq d2 (by omega) (by omega)
      omega
theorem qy {q : List Int} : ∀ (m : Nat) (g : List (List Int)) (i c : Nat), Sl q g i c → Inn q g → i + c ≤ m →
    Sl q (cp m g i c).1 (cp m g i c).2.1 (cp m g i c).2.2 ∧ Inn q (cp m g i c).1 ∧ (cp m g i c).1.length = g.length ∧ (∀ r, ((cp m g i c).1.getD r []).length = (g.getD r []).length) ∧
      leftOf (cp m g i c).1 (cp m g i c).2.1 (cp m g i c).2.2 = 0 ∧ fz (cp m g i c).1 (cp m g i c).2.1 (cp m g i c).2.2 = 0 ∧
      ∀ h, Ag id (cp m g i c).1 h (cp m g i c).2.1 (cp m g i c).2.2 → ∃ n h', Ag id g h' i c ∧ (cp m g i c).2.1 + (cp m g i c).2.2 + n = i + c ∧ ∀ m0, bI (m0 + n) h (cp m g i c).2.1 (cp m g i c).2.2 = bI m0 h' i c
  | 0, g, i, c, hs, hi, hm => by
    have h1 : i = 0 := by omega
    have h2 : c = 0 := by omega
    subst h1; subst h2
    exact ⟨hs, hi, rfl, fun _ => rfl, rfl, rfl, fun h ha => ⟨0, h, ha, rfl, fun _ => rfl⟩⟩
  | m + 1, g, i, c, hs, hi, hm => by
    unfold cp
    by_cases c1 : leftOf g i c = 0 ∧ fz g i c = 0
    · rw [if_pos c1]
      exact ⟨hs, hi, rfl, fun _ => rfl, c1.1, c1.2, fun h ha => ⟨0, h, ha, rfl, fun _ => rfl⟩⟩
    · rw [if_neg c1]
      have hlp : 0 ≤ leftOf g i c := by unfold leftOf; split; omega; exact hs.pos _ _
      by_cases c2 : leftOf g i c ≤ fz g i c
      · rw [if_pos c2]
        have hu : fz g i c ≠ 0 := fun e => c1 ⟨by omega, e⟩
        cases i with
        | zero => exact (hu rfl).elim
        | succ i =>
          have e1 : fz g (i + 1) c = cel g i c := by unfold fz; rw [if_neg (by omega)]; rfl
          rw [e1] at hu c2 ⊢
          have hq : q.getD i 0 ≤ c := Int.not_lt.1 fun hlt => hu (hi i c hlt)
          obtain ⟨a1, a2, a3, a4, a5, a6, a7⟩ := qy m _ i c (hs.up hi hu c2) (hi.step hs.hq _) (by omega)
          refine ⟨a1, a2, by rw [show i + 1 - 1 = i from rfl, a3, cj], fun r => by rw [show i + 1 - 1 = i from rfl, a4, bm], a5, a6, fun h ha => ?_⟩
          obtain ⟨n, h1, b1, b2, b3⟩ := a7 h ha
          obtain ⟨h2, d1, d2⟩ := C3 hs hi hu b1
          exact ⟨n + 1, h2, d1, by rw [show i + 1 - 1 = i from rfl]; omega, fun m0 => by rw [show m0 + (n + 1) = (m0 + 1) + n by omega, show i + 1 - 1 = i from rfl, b3, d2]⟩
      · rw [if_neg c2]
        have hv : leftOf g i c ≠ 0 := fun e => by
          have : 0 ≤ fz g i c := by unfold fz; split; omega; exact hs.pos _ _
          omega
        cases c with
        | zero => exact (hv rfl).elim
        | succ c =>
          have e1 : leftOf g i (c + 1) = cel g i c := by unfold leftOf; rw [if_neg (by omega)]; rfl
          rw [e1] at hv c2 ⊢
          obtain ⟨a1, a2, a3, a4, a5, a6, a7⟩ := qy m _ i c (hs.left hi hv (by omega)) (hi.step hs.hq _) (by omega)
          refine ⟨a1, a2, by rw [show c + 1 - 1 = c from rfl, a3, cj], fun r => by rw [show c + 1 - 1 = c from rfl, a4, bm], a5, a6, fun h ha => ?_⟩
          obtain ⟨n, h1, b1, b2, b3⟩ := a7 h ha
          obtain ⟨h2, d1, d2⟩ := A5 hs hi hv b1
          exact ⟨n + 1, h2, d1, by rw [show c + 1 - 1 = c from rfl]; omega, fun m0 => by rw [show m0 + (n + 1) = (m0 + 1) + n by omega, show c + 1 - 1 = c from rfl, b3, d2]⟩
end Go.Am.Pu
end
section
/- What a slide outwards leaves is a tableau; slides in and out undo each other. Plain words. -/
namespace Go.Am.Pu
theorem l9 {t : Tab} {r x : Nat} (h : (x : Int) < t.1.getD r 0) : cel (bT t) r x = 0 := by
  by_cases hr : r < t.2.length
  · rw [mB hr, if_pos (by omega)]
  · unfold cel; rw [mS (by omega)]; rfl
theorem zF {t : Tab} (h : cz t = true) (r : Nat) : t.1.getD r 0 ≤ (outer t).getD r 0 := by
  obtain ⟨hp, ho, hl, _⟩ := ct h
  rw [← eF hp r]
  by_cases hr : r < t.2.length
  · rw [kM hr]; omega
  · rw [bw (xs := t.1) (by omega)]; omega
theorem AS {q o : List Int} {g : List (List Int)} (hq : bN q = true) (ho : bN o = true) (hin : ∀ r, q.getD r 0 ≤ o.getD r 0) (hl : ∀ r, r < o.length → ((g.getD r []).length : Int) = o.getD r 0)
    (num : ∀ r x : Nat, r < o.length → q.getD r 0 ≤ x → (x : Int) < o.getD r 0 → 1 ≤ cel g r x ∧ cel g r x ≤ 9)
    (row : ∀ r x : Nat, r < o.length → q.getD r 0 ≤ x → (x : Int) + 1 < o.getD r 0 → cel g r x ≤ cel g r (x + 1))
    (col : ∀ r x : Nat, r + 1 < o.length → q.getD r 0 ≤ x → (x : Int) < o.getD (r + 1) 0 → cel g r x < cel g (r + 1) x) :
    cz (q, cl q g o.length) = true ∧ outer (q, cl q g o.length) = o := by
  have q0 := fun r => (eX hq r).1
  generalize hR : cl q g o.length = R
  have hRl : R.length = o.length := by rw [← hR, b8]
  have cell : ∀ {r k : Nat}, r < R.length → k < (R.getD r []).length → ((q.getD r 0).toNat + k : Int) < o.getD r 0 ∧ (R.getD r []).getD k 0 = cel g r ((q.getD r 0).toNat + k) := by
    intro r k hr hk
    subst hR
    rw [dm (by omega)] at hk ⊢
    rw [List.length_drop] at hk
    have := hl r (by omega)
    refine ⟨by omega, ?_⟩
    rw [fc]; rfl
  have uC : ∀ {r : Nat}, r < R.length → o.getD r 0 = q.getD r 0 + ((R.getD r []).length : Int) := by
    intro r hr
    subst hR
    rw [dm (by omega), List.length_drop]
    have := hl r (by omega)
    have := hin r
    have := q0 r
    omega
  have hout : outer (q, R) = o := by
    refine List.ext_getElem (by rw [ck]; exact hRl) fun r h1 h2 => ?_
    rw [← aB h1 0, ← aB h2 0]
    have h3 : r < R.length := by omega
    have := e9 q R 0 r h3
    rw [Nat.zero_add] at this
    unfold outer
    rw [this]
    exact (uC h3).symm
  refine ⟨?_, hout⟩
  have hlen : q.length ≤ R.length := by
    refine Nat.le_of_not_lt fun hlt => ?_
    have a := jh hq hlt
    have b := hin R.length
    rw [bw (xs := o) (by omega)] at b
    omega
  have om := dV ho
  have qm := dV hq
  simp only [cz, dB, dQ, Bool.and_eq_true, decide_eq_true_eq]
  rw [hout]
  refine ⟨⟨hq, hlen, hq, ho, by omega, ?_⟩, ?_⟩
  · rw [dZ]
    intro r _
    exact decide_eq_true (hin r)
  · rw [dZ]
    intro r hr
    rw [dZ]
    intro k hk
    have hqr := q0 r
    obtain ⟨c1, c4⟩ := cell hr hk
    have hnum := num r ((q.getD r 0).toNat + k) (by omega) (by omega) (by omega)
    simp only [fm, within, Bool.and_eq_true, Bool.or_eq_true, decide_eq_true_eq]
    rw [c4]
    refine ⟨hnum, ?_, ?_⟩
    · cases k with
      | zero => exact .inl rfl
      | succ k =>
        obtain ⟨d1, d4⟩ := cell hr (show k < (R.getD r []).length by omega)
        right
        rw [show k + 1 - 1 = k from rfl, d4]
        exact row r ((q.getD r 0).toNat + k) (by omega) (by omega) (by omega)
    · cases r with
      | zero => exact .inl rfl
      | succ r =>
        right
        have hr' : r < R.length := by omega
        have em : ((r + 1 : Nat) : Int) - 1 = (r : Int) := by omega
        rw [em, jB hr']
        have hqr := q0 r
        have hqm := qm r
        have hrl := uC hr'
        have hom := om r
        simp only
        by_cases e : q.getD (r + 1) 0 + (k : Int) < q.getD r 0
        · rw [lG (by omega)]; omega
        · obtain ⟨y, hy⟩ : ∃ y : Nat, q.getD (r + 1) 0 + (k : Int) - q.getD r 0 = y := ⟨(q.getD (r + 1) 0 + (k : Int) - q.getD r 0).toNat, by omega⟩
          rw [hy, cm]
          obtain ⟨d1, d4⟩ := cell hr' (show y < (R.getD r []).length by omega)
          have ey : (q.getD r 0).toNat + y = (q.getD (r + 1) 0).toNat + k := by omega
          rw [d4, ey]
          exact col r _ (by omega) (by omega) (by omega)
theorem vk {q : List Int} {G : List (List Int)} {N : Nat} (q0 : ∀ r, 0 ≤ q.getD r 0) (hl : ∀ r, r < N → q.getD r 0 ≤ ((G.getD r []).length : Int)) {r : Nat} (hr : r < N) :
    ((bT (q, cl q G N)).getD r []).length = (G.getD r []).length ∧ ∀ x : Nat, cel (bT (q, cl q G N)) r x = if (x : Int) < q.getD r 0 then 0 else cel G r x := by
  have h1 : r < (q, cl q G N).2.length := by simp only [b8]; exact hr
  have h2 := q0 r
  have h3 := hl r hr
  refine ⟨?_, fun x => ?_⟩
  · rw [kM h1]
    simp only [dm hr, List.length_drop]
    omega
  · rw [mB h1]
    simp only [dm hr, fc]
    by_cases c : (x : Int) < q.getD r 0
    · rw [if_pos c, if_pos (by omega)]
    · rw [if_neg c, if_neg (by omega), show (q.getD r 0).toNat + (x - (q.getD r 0).toNat) = x by omega]; rfl
section
variable {t : Tab} {n : Nat} {p : List Int}
theorem nv (h : cz t = true) (hp : dy (outer t) n = (p, true)) : (du t n).length = p.length ∧ (∀ r, (((du t n).getD r []).length : Int) = p.getD r 0) ∧ ∀ r x, cel (du t n) r x = cel (bT t) r x := by
  obtain ⟨hq, ho, hl, _⟩ := ct h
  obtain ⟨b1, b2, b3, b4, b5⟩ := fx hp
  have hol := ck t
  rw [hol] at b1 b3
  have hg := eF hq
  refine ⟨?_, fun r => ?_, fun r x => ?_⟩
  · rw [zC]
    split
    · next e => omega
    · next e =>
      refine Nat.le_antisymm ?_ (Nat.le_of_not_lt fun hlt => ?_)
      · refine Nat.le_of_not_lt fun hlt => ?_
        have := b4 p.length
        rw [bw (Nat.le_refl _), if_neg (by omega)] at this
        have := jh ho (show p.length < (outer t).length by omega)
        omega
      · have := jh b5 hlt
        rw [b4, if_neg (by omega), bw (xs := outer t) (by omega)] at this
        omega
  · rw [ox b1, b4]
    by_cases e : r = n
    · rw [if_pos e, if_pos e, List.length_append, List.length_singleton, ← hg]; omega
    · rw [if_neg e, if_neg e, hg]
  · unfold cel
    rw [ox b1]
    by_cases e : r = n
    · subst e
      rw [if_pos rfl]
      by_cases hx : x < ((bT t).getD r []).length
      · rw [g8 hx]
      · rw [jy (by omega), bw (xs := (bT t).getD r []) (by omega)]
        cases x - ((bT t).getD r []).length <;> rfl
    · rw [if_neg e]
theorem tQ (h : cz t = true) (hp : dy (outer t) n = (p, true)) : Sl t.1 (du t n) n (p.getD n 0 - 1).toNat ∧ Inn t.1 (du t n) := by
  obtain ⟨hq, ho, hl, _⟩ := ct h
  obtain ⟨b1, b2, b3, b4, b5⟩ := fx hp
  obtain ⟨o1, o2, o3⟩ := nv h hp
  have hP := Dq h
  have hg := eF hq
  have hpn := b4 n
  rw [if_pos rfl] at hpn
  have hon := (eX ho n).1
  have hm := dV b5
  have hom := dV ho n
  have hin := zF h
  have hp1 : p.getD (n + 1) 0 ≤ (outer t).getD n 0 := by rw [b4, if_neg (by omega)]; exact hom
  have old : ∀ r x : Nat, x < ((du t n).getD r []).length → ¬ (r = n ∧ x = (p.getD n 0 - 1).toNat) → x < ((bT t).getD r []).length := fun r x h1 h2 => by
    have a := o2 r
    have b := hg r
    rw [b4] at a
    by_cases e : r = n
    · subst e
      rw [if_pos rfl] at a
      have : x ≠ (p.getD r 0 - 1).toNat := fun e => h2 ⟨rfl, e⟩
      omega
    · rw [if_neg e] at a; omega
  refine ⟨⟨hP.q0, hP.qm, fun r => ?_, by omega, ?_, ?_, fun r x => ?_, fun r x h1 h2 h3 => ?_, fun r x h1 h2 h3 h4 => ?_, fun r x h1 h2 h3 h4 => ?_, fun x h1 h2 h3 => ?_, fun r h1 h2 h3 => ?_⟩, fun r x hx => by rw [o3]; exact l9 hx⟩
  · have a := o2 r
    have b := o2 (r + 1)
    have c := hm r
    omega
  · have := o2 n
    omega
  · have := hin n
    omega
  · rw [o3]
    by_cases hx : x < ((bT t).getD r []).length
    · by_cases hq : t.1.getD r 0 ≤ x
      · have := (hP.num r x hq hx).1; omega
      · rw [l9 (by omega)]; exact Int.le_refl _
    · unfold cel
      rw [bw (by omega)]; exact Int.le_refl _
  · rw [o3]; exact hP.num r x h1 (old r x h2 h3)
  · rw [o3, o3]; exact hP.row r x h1 (old r (x + 1) h2 h4)
  · rw [o3, o3]; exact hP.col r x h1 (old (r + 1) x h2 h4)
  · have := o2 n; omega
  · have := o2 (n + 1); omega
def eS (t : Tab) (n : Nat) (p : List Int) : List (List Int) × (Nat × Nat) := cp 18 (du t n) n (p.getD n 0 - 1).toNat
structure Bf (t : Tab) (n : Nat) (p : List Int) (g : List (List Int)) (i c : Nat) (q : List Int) : Prop where
  sl : Sl t.1 g i c
  inn : Inn t.1 g
  len : g.length = p.length
  row : ∀ r, ((g.getD r []).length : Int) = p.getD r 0
  l0 : leftOf g i c = 0
  u0 : fz g i c = 0
  add : dy t.1 i = (q, true)
  qi : q.getD i 0 = c + 1
  qr : ∀ r, q.getD r 0 = if r = i then (c : Int) + 1 else t.1.getD r 0
  qp : bN q = true
  ins : ∀ r, q.getD r 0 ≤ p.getD r 0
theorem BS (h : cz t = true) (hp : dy (outer t) n = (p, true)) : (∃ q, Bf t n p (eS t n p).1 (eS t n p).2.1 (eS t n p).2.2 q) ∧
    ∀ h, Ag id (eS t n p).1 h (eS t n p).2.1 (eS t n p).2.2 → ∃ k h', Ag id (du t n) h' n (p.getD n 0 - 1).toNat ∧ (eS t n p).2.1 + (eS t n p).2.2 + k = n + (p.getD n 0 - 1).toNat ∧ ∀ m0, bI (m0 + k) h (eS t n p).2.1 (eS t n p).2.2 = bI m0 h' n (p.getD n 0 - 1).toNat := by
  obtain ⟨hq, ho, hl, _⟩ := ct h
  obtain ⟨b1, b2, b3, b4, b5⟩ := fx hp
  obtain ⟨o1, o2, o3⟩ := nv h hp
  obtain ⟨s1, s2⟩ := tQ h hp
  have hpn := (eX b5 n).2
  have hpl := (bn b5).2.2.1
  obtain ⟨a1, a2, a3, a4, a5, a6, a7⟩ := qy 18 (du t n) n (p.getD n 0 - 1).toNat s1 s2 (by omega)
  refine ⟨?_, a7⟩
  unfold eS
  generalize cp 18 (du t n) n (p.getD n 0 - 1).toNat = S at *
  obtain ⟨g, i, c⟩ := S
  simp only at *
  have hin := zF h
  have hqi : t.1.getD i 0 = c := by
    have h1 := a1.hq
    cases c with
    | zero => have := a1.q0 i; omega
    | succ c =>
      unfold leftOf at a5
      rw [if_neg (by omega), show c + 1 - 1 = c from rfl] at a5
      by_cases e : t.1.getD i 0 ≤ c
      · have hc := a1.hc
        have := (a1.num i c e (by omega) (by omega)).1
        omega
      · omega
  have hup : i = 0 ∨ t.1.getD i 0 + 1 ≤ t.1.getD (i - 1) 0 := by
    cases i with
    | zero => exact .inl rfl
    | succ i =>
      right
      unfold fz at a6
      rw [if_neg (by omega), show i + 1 - 1 = i from rfl] at a6
      rw [show i + 1 - 1 = i from rfl]
      by_cases e : t.1.getD i 0 ≤ c
      · have hc := a1.hc
        have hm := a1.lm i
        have := (a1.num i c e (by omega) (by omega)).1
        omega
      · omega
  have hrow : ∀ r, ((g.getD r []).length : Int) = p.getD r 0 := fun r => by rw [a4]; exact o2 r
  have hsum : dC t.1 + 1 ≤ 9 := by
    have hs := (qP (a := t.1) (b := p) fun r => by
      rw [b4]
      have := hin r
      by_cases e : r = n
      · rw [if_pos e]; rw [e] at this; rw [e]; omega
      · rw [if_neg e]; exact this).2 n (by
        rw [b4, if_pos rfl]
        have := hin n
        omega)
    have := (bn b5).2.1
    omega
  have hile : i ≤ t.1.length := by
    refine Nat.le_of_not_lt fun hlt => ?_
    rcases hup with e | e
    · omega
    · rw [bw (xs := t.1) (i := i - 1) (by omega), hqi] at e; omega
  obtain ⟨q, hadd⟩ := Ae hq hile hup hsum
  obtain ⟨d1, d2, d3, d4, d5⟩ := fx hadd
  refine ⟨q, a1, a2, by rw [a3]; exact o1, hrow, a5, a6, hadd, by rw [d4, if_pos rfl, hqi], fun r => by rw [d4, hqi], d5, fun r => ?_⟩
  rw [d4]
  by_cases e : r = i
  · subst e
    rw [if_pos rfl, hqi, ← hrow]
    have := a1.hc
    omega
  · rw [if_neg e, b4]
    have := hin r
    by_cases e' : r = n
    · rw [if_pos e', ← e']; omega
    · rw [if_neg e']; exact this
def cU (t : Tab) (n : Nat) : Tab × Nat :=
  let p := (dy (outer t) n).1
  let s := eS t n p
  let q := (dy t.1 s.2.1).1
  ((q, cl q s.1 p.length), s.2.1)
def dL (t : Tab) (n : Int) : Tab × Int × Bool := if cz t = true ∧ (dy (outer t) n).2 = true then ((cU t n.toNat).1, ((cU t n.toNat).2 : Int), true) else (([], []), 0, false)
def dY (t : Tab) (n : Int) : Tab × Int × Bool := if cz t = true ∧ has (fU t.1) n = true then ((cf t n.toNat).1, ((cf t n.toNat).2 : Int), true) else (([], []), 0, false)
theorem Bf.tab {g : List (List Int)} {i c : Nat} {q : List Int} (E : Bf t n p g i c q) (hp : dy (outer t) n = (p, true)) : cz (q, cl q g p.length) = true ∧ outer (q, cl q g p.length) = p := by
  obtain ⟨b1, b2, b3, b4, b5⟩ := fx hp
  have hq := E.sl.hq
  have old : ∀ r x : Nat, q.getD r 0 ≤ x → t.1.getD r 0 ≤ x ∧ ¬ (r = i ∧ x = c) := fun r x hx => by
    rw [E.qr] at hx
    by_cases e : r = i
    · rw [if_pos e] at hx
      rw [e]
      exact ⟨by omega, by omega⟩
    · rw [if_neg e] at hx; exact ⟨hx, fun e' => e e'.1⟩
  refine AS E.qp b5 E.ins (fun r _ => E.row r) (fun r x _ h1 h2 => ?_) (fun r x _ h1 h2 => ?_) (fun r x _ h1 h2 => ?_)
  · have := E.row r
    exact E.sl.num r x (old r x h1).1 (by omega) (old r x h1).2
  · have := E.row r
    exact E.sl.row r x (old r x h1).1 (by omega) (old r x h1).2 (by have := (old r (x + 1) (by omega)).2; exact this)
  · have := E.row (r + 1)
    have hm := dV E.qp r
    exact E.sl.col r x (old r x h1).1 (by omega) (old r x h1).2 (by have := (old (r + 1) x (by omega)).2; exact this)
theorem Bf.eq {q : List Int} (E : Bf t n p (eS t n p).1 (eS t n p).2.1 (eS t n p).2.2 q) (hp : dy (outer t) n = (p, true)) : cU t n = ((q, cl q (eS t n p).1 p.length), (eS t n p).2.1) := by
  unfold cU
  rw [hp]
  simp only [E.add]
theorem zT (h : cz t = true) (hp : dy (outer t) n = (p, true)) : cz (cU t n).1 = true := by
  obtain ⟨⟨q, E⟩, _⟩ := BS h hp
  rw [E.eq hp]
  exact (E.tab hp).1
theorem Cj {g h : List (List Int)} {i c : Nat} (ha : Ag id g h i c) {r d : Nat} (hd : r = i → c < d) : (h.getD r []).drop d = (g.getD r []).drop d := by
  refine nY (by rw [List.length_drop, List.length_drop, ha.row]) fun x hx => ?_
  rw [fc, fc]
  exact ha.at_ r (d + x) fun e => by have := hd e.1; omega
theorem CQ {g h : List (List Int)} {i c : Nat} (ha : Ag id g h i c) {r : Nat} : (if r = i then (h.getD r []).take c else h.getD r []) = if r = i then (g.getD r []).take c else g.getD r [] := by
  by_cases e : r = i
  · rw [if_pos e, if_pos e]
    refine nY (by rw [List.length_take, List.length_take, ha.row]) fun x hx => ?_
    rw [List.length_take] at hx
    rw [dH (by omega), dH (by omega)]
    exact ha.at_ r x (by omega)
  · rw [if_neg e, if_neg e]
    exact nY (ha.row r) fun x hx => ha.at_ r x fun e' => e e'.1
theorem y6 (h : cz t = true) (hp : dy (outer t) n = (p, true)) :
    (cU t n).2 < (cU t n).1.1.length ∧ (cU t n).1.1.getD ((cU t n).2 + 1) 0 < (cU t n).1.1.getD (cU t n).2 0 ∧ cf (cU t n).1 (cU t n).2 = (t, n) := by
  obtain ⟨hq, ho, hl, _⟩ := ct h
  obtain ⟨b1, b2, b3, b4, b5⟩ := fx hp
  obtain ⟨o1, o2, o3⟩ := nv h hp
  obtain ⟨⟨q, E⟩, U⟩ := BS h hp
  rw [E.eq hp]
  generalize eS t n p = S at *
  obtain ⟨g, i, c⟩ := S
  simp only at *
  obtain ⟨d1, d2, d3, d4, d5⟩ := fx E.add
  obtain ⟨e1, e2⟩ := wz hq E.add
  obtain ⟨e3, e4⟩ := wz ho hp
  refine ⟨d2, e2, ?_⟩
  obtain ⟨_, ht2⟩ := E.tab hp
  have hgr := fun r (hr : r < p.length) => vk (q := q) (G := g) (N := p.length) (fun r => (eX d5 r).1) (fun r _ => by have := E.ins r; have := E.row r; omega) hr
  have hcl := E.sl.hq
  have hag : Ag id g (bT (q, cl q g p.length)) i c := by
    refine ⟨by rw [eY]; simp only [b8]; exact E.len.symm, fun r => ?_, fun r x hn => ?_⟩
    · by_cases hr : r < p.length
      · exact (hgr r hr).1
      · have := E.row r
        rw [mS (by simp only [b8]; omega)]
        rw [bw (xs := p) (by omega)] at this
        rw [List.length_nil]; omega
    · by_cases hr : r < p.length
      · rw [(hgr r hr).2]
        split
        · next hx =>
          rw [E.qr] at hx
          have : (x : Int) < t.1.getD r 0 := by
            by_cases e : r = i
            · subst e
              have hqi := d4 r
              rw [if_pos rfl, E.qi] at hqi
              rw [if_pos rfl] at hx
              have : x ≠ c := fun e => hn ⟨rfl, e⟩
              omega
            · rw [if_neg e] at hx; exact hx
          rw [E.inn r x this]; rfl
        · rfl
      · unfold cel
        rw [mS (by simp only [b8]; omega), bw (xs := g) (by rw [E.len]; omega)]; rfl
  obtain ⟨k, h', a1, a2, a3⟩ := U _ hag
  have hpn := b4 n
  rw [if_pos rfl] at hpn
  have hon := (eX ho n).1
  have hp9 := (eX b5 n).2
  have hpl := (bn b5).2.2.1
  have hstop : ∀ m, bI m h' n (p.getD n 0 - 1).toNat = (h', (n, (p.getD n 0 - 1).toNat)) := by
    refine yI ?_ ?_
    · unfold cel
      have := o2 n
      rw [bw (by rw [a1.row]; omega)]
    · unfold cel
      have := o2 (n + 1)
      rw [b4, if_neg (by omega)] at this
      have := dV ho n
      rw [bw (by rw [a1.row]; omega)]
  have hend : bB (q, cl q g p.length) i = (h', (n, (p.getD n 0 - 1).toNat)) := by
    unfold bB
    simp only
    rw [E.qi, show ((c : Int) + 1 - 1).toNat = c by omega]
    have := a3 (18 - k)
    rw [show 18 - k + k = 18 by omega] at this
    rw [this, hstop]
  unfold cf
  rw [hend, ht2]
  simp only [e1, e3]
  refine Prod.ext (Prod.ext rfl ?_) rfl
  simp only
  refine List.ext_getElem (by rw [b8, ck]) fun r h1 h2 => ?_
  rw [← aB h1 [], ← aB h2 [], dm (by rw [ck]; exact h2), nc (by rw [a1.len, o1]; exact b2)]
  have hc := CQ a1 (r := r)
  by_cases e : r = n
  · subst e
    rw [if_pos rfl, if_pos rfl] at hc
    rw [if_pos rfl, hc, ox (by rw [ck] at b1; exact b1), if_pos rfl]
    have hg := eF hq r
    rw [List.take_append_of_le_length (by omega), List.take_of_length_le (by omega)]
    exact mr h2
  · rw [if_neg e, if_neg e] at hc
    rw [if_neg e, hc, ox (by rw [ck] at b1; exact b1), if_neg e]
    exact mr h2
end
section
variable {t : Tab} {n : Nat}
theorem wK (h : cz t = true) (hn : n < t.1.length) (hc : t.1.getD (n + 1) 0 < t.1.getD n 0) : outer (cf t n).1 = az (outer t) (cf t n).2 := by
  obtain ⟨hp, ho, hl, _⟩ := ct h
  obtain ⟨E, _, _⟩ := AR h hn hc
  have hqp := ic hp hn hc
  have hop := ic ho E.hi E.cor
  unfold cf
  simp only
  refine List.ext_getElem (by rw [ck]; simp only [b8]) fun r h1 h2 => ?_
  rw [← aB h1 0, ← aB h2 0]
  have := e9 (az t.1 n) (cl (az t.1 n) (jg (bB t n).1 (bB t n).2.1 (bB t n).2.2) (az (outer t) (bB t n).2.1).length) 0 r (by rw [b8]; exact h2)
  rw [Nat.zero_add] at this
  unfold outer at *
  simp only
  rw [this]
  exact (E.uC h2).symm
theorem vP (h : cz t = true) (hn : n < t.1.length) (hc : t.1.getD (n + 1) 0 < t.1.getD n 0) :
    dy (outer (cf t n).1) (cf t n).2 = (outer t, true) ∧ cU (cf t n).1 (cf t n).2 = (t, n) := by
  obtain ⟨hp, ho, hl, _⟩ := ct h
  obtain ⟨E, _, _⟩ := AR h hn hc
  have hst := nA h hn hc
  have hso := wK h hn hc
  have hta := gI h hn hc
  have hqp := ic hp hn hc
  have hop := ic ho E.hi E.cor
  have ha : dy (outer (cf t n).1) (cf t n).2 = (outer t, true) := by rw [hso]; exact xh ho E.hi E.cor
  refine ⟨ha, ?_⟩
  obtain ⟨o1, o2, o3⟩ := nv hta ha
  have hinn : Inn (az t.1 n) (bT t) := fun r x hx => by
    rw [iy hp hn hc] at hx
    refine l9 ?_
    by_cases e : r = n
    · rw [if_pos e] at hx; rw [e]; omega
    · rw [if_neg e] at hx; exact hx
  have hag : Ag id (bB t n).1 (du (cf t n).1 (cf t n).2) (bB t n).2.1 (bB t n).2.2 := by
    refine ⟨by rw [o1, ck, E.len], fun r => ?_, fun r x hne => ?_⟩
    · have a := E.row r
      have b := eF hp r
      have c := o2 r
      omega
    · rw [o3]
      have hin : Inn (az t.1 n) (bB t n).1 := by
        have go : ∀ (m : Nat) (g : List (List Int)) (i c : Nat), Sl (az t.1 n) g i c → Inn (az t.1 n) g → Inn (az t.1 n) (bI m g i c).1 := by
          intro m
          induction m with
          | zero => intro g i c _ h; exact h
          | succ m ih =>
            intro g i c hs hi
            unfold bI
            split
            · exact hi
            · next c1 =>
              split
              · next c2 => exact ih _ _ _ (hs.down (fun e => c2.elim (fun e1 => c1 ⟨e1, e⟩) (fun e1 => by omega)) c2) (hi.step hs.hq _)
              · next c2 => exact ih _ _ _ (hs.right (fun e => c2 (.inl e)) (fun e => c2 (.inr e))) (hi.step hs.hq _)
        exact go _ _ _ _ hst hinn
      have hq0 := E.sl.q0 r
      unfold cf
      simp only
      by_cases hr : r < (az (outer t) (bB t n).2.1).length
      · rw [(vk (q := az t.1 n) (fun r => (eX hqp r).1) (fun r _ => by have := E.ins r; have := E.cutl r; omega) hr).2]
        by_cases hx : (x : Int) < (az t.1 n).getD r 0
        · rw [if_pos hx, hin r x hx]; rfl
        · rw [if_neg hx]
          by_cases hx2 : x < ((jg (bB t n).1 (bB t n).2.1 (bB t n).2.2).getD r []).length
          · rw [zI E.sl.hi hx2]; rfl
          · have hz : cel (jg (bB t n).1 (bB t n).2.1 (bB t n).2.2) r x = 0 := by unfold cel; rw [bw (by omega)]
            rw [hz]
            have hz2 : cel (bB t n).1 r x = 0 := by
              unfold cel
              rw [bw]
              rw [nc E.sl.hi] at hx2
              by_cases e : r = (bB t n).2.1
              · rw [if_pos e, List.length_take] at hx2
                have a := E.row (bB t n).2.1
                have b := eF hp (bB t n).2.1
                have c := E.end_
                have : x ≠ (bB t n).2.2 := fun e' => hne ⟨e, e'⟩
                rw [e]; omega
              · rw [if_neg e] at hx2; omega
            rw [hz2]; rfl
      · have hz : cel (bT (az t.1 n, cl (az t.1 n) (jg (bB t n).1 (bB t n).2.1 (bB t n).2.2) (az (outer t) (bB t n).2.1).length)) r x = 0 := by
          unfold cel; rw [mS (by simp only [b8]; omega)]; rfl
        have hz2 : cel (bB t n).1 r x = 0 := by
          unfold cel
          rw [bw]
          have a := E.cutl r
          rw [bw (xs := az (outer t) _) (by omega), nc E.sl.hi] at a
          by_cases e : r = (bB t n).2.1
          · rw [if_pos e, List.length_take] at a
            have a := E.row (bB t n).2.1
            have b := eF hp (bB t n).2.1
            have c := E.end_
            have : x ≠ (bB t n).2.2 := fun e' => hne ⟨e, e'⟩
            rw [e]; omega
          · rw [if_neg e] at a; omega
        rw [hz, hz2]; rfl
  obtain ⟨k, h', a1, a2, a3⟩ := pj (f := id) (V := fun _ => True) (fun u v _ _ h => h) rfl 18 (bT t) n (t.1.getD n 0 - 1).toNat hst hinn (fun _ _ => trivial) _ hag
  have hpos := jh hp hn
  have hout9 := (eX ho (bB t n).2.1).2
  have hol := (bn ho).2.2.1
  have hhi := E.hi
  have hend := E.end_
  have a2 : n + (t.1.getD n 0 - 1).toNat + k = (bB t n).2.1 + (bB t n).2.2 := a2
  have hoE : eS (cf t n).1 (cf t n).2 (outer t) = (h', (n, (t.1.getD n 0 - 1).toNat)) := by
    unfold eS
    have e1 : ((outer t).getD (cf t n).2 0 - 1).toNat = (bB t n).2.2 := by
      show ((outer t).getD (bB t n).2.1 0 - 1).toNat = _
      omega
    rw [e1]
    have := a3 (18 - k)
    rw [show 18 - k + k = 18 by omega] at this
    refine this.trans (Ab ?_ ?_ _)
    · unfold leftOf
      split
      · rfl
      · rw [a1.at_ _ _ (by omega), l9 (by omega)]; rfl
    · unfold fz
      split
      · rfl
      · have := dV hp (n - 1)
        rw [show n - 1 + 1 = n by omega] at this
        rw [a1.at_ _ _ (by omega), l9 (by omega)]; rfl
  unfold cU
  rw [ha]
  simp only [hoE]
  have hadd : dy (cf t n).1.1 n = (t.1, true) := xh hp hn hc
  rw [hadd]
  refine Prod.ext (Prod.ext rfl ?_) rfl
  simp only
  refine List.ext_getElem (by rw [b8, ck]) fun r h1 h2 => ?_
  rw [← aB h1 [], ← aB h2 [], dm (by rw [ck]; exact h2), Cj a1 (fun e => by rw [e]; omega)]
  exact mr h2
end
end Go.Am.Pu
end
section
/- Words of tableaux; the rows of a slide outwards. Plain words. -/
namespace Go.Am.Pu
theorem Ca (q : List Int) : ∀ (rs : List (List Int)) (i : Nat), (∀ r ∈ rs, 0 < r.length) → (rS q i rs).length = rs.length ∧ ∀ r, r < rs.length → (rS q i rs).getD r [] = (rs.getD r []).drop (q.getD (i + r) 0).toNat := by
  intro rs
  induction rs with
  | nil => intro i _; exact ⟨rfl, fun r h => by simp at h⟩
  | cons x xs ih =>
    intro i hx
    obtain ⟨a, b⟩ := ih (i + 1) fun r h => hx r (List.mem_cons_of_mem _ h)
    unfold rS
    rw [if_pos (hx x (List.mem_cons_self ..))]
    refine ⟨by simp [a], fun r h => ?_⟩
    cases r with
    | zero => rfl
    | succ r =>
      have := b r (by simpa using h)
      rw [show i + 1 + r = i + (r + 1) by omega] at this
      exact this
theorem Ah {q : List Int} {g : List (List Int)} (h : ∀ r, r < g.length → 0 < (g.getD r []).length) : rS q 0 g = cl q g g.length := by
  obtain ⟨a, b⟩ := Ca q g 0 fun r hr => by
    obtain ⟨i, hi, rfl⟩ := List.getElem_of_mem hr
    rw [← aB hi []]; exact h i hi
  refine List.ext_getElem (by rw [b8, a]) fun r h1 h2 => ?_
  rw [b8] at h2
  rw [← aB h1 [], ← aB (by rw [b8]; exact h2) [], b r h2, dm h2, Nat.zero_add]
theorem xg : ∀ (rs : List (List Int)), (rs.flatten.length : Int) = dC (rs.map fun r => (r.length : Int))
  | [] => rfl
  | r :: rs => by
    simp only [List.flatten_cons, List.length_append, List.map_cons, dC]
    rw [← xg rs]; omega
theorem xn {t : Tab} (h : cz t = true) : isWord (ju t) = true := by
  obtain ⟨hq, ho, hl, hc⟩ := ct h
  have hlen : (ju t).length ≤ 9 := by
    have e : (ju t).length = t.2.flatten.length := by unfold ju; simp [List.length_flatten, List.map_reverse, List.sum_reverse]
    have hs := (qP (a := t.2.map fun r => (r.length : Int)) (b := outer t) fun r => by
      by_cases hr : r < t.2.length
      · have := e9 t.1 t.2 0 r hr
        rw [Nat.zero_add] at this
        unfold outer
        rw [this, aB (by rw [List.length_map]; exact hr), List.getElem_map, aB (xs := t.2) hr]
        have := (eX hq r).1
        omega
      · rw [bw (by rw [List.length_map]; omega), bw (by rw [ck]; omega)]
        exact Int.le_refl _).1
    have h9 := (bn ho).2.1
    have := xg t.2
    omega
  unfold isWord
  rw [Bool.and_eq_true, decide_eq_true_eq, List.all_eq_true]
  refine ⟨hlen, fun x hx => ?_⟩
  unfold ju at hx
  obtain ⟨r, hr, hx⟩ := List.mem_flatten.1 hx
  rw [List.mem_reverse] at hr
  obtain ⟨i, hi, rfl⟩ := List.getElem_of_mem hr
  obtain ⟨k, hk, rfl⟩ := List.getElem_of_mem hx
  have := hc i k hi (by rw [aB hi]; exact hk)
  simp only [fm, Bool.and_eq_true] at this
  have h1 := this.1
  rw [aB hi, aB hk] at h1
  exact h1
theorem AJ {t : Tab} (h : cz t = true) : mG (ju t) = ((cN t).1, true) := by
  unfold mG
  rw [if_pos (xn h), nS h]
theorem vO {t : Tab} {n : Int} : lN (dY t n).1 := by
  unfold dY
  split
  · next c =>
    obtain ⟨_, m, rfl, h1, h2⟩ := lE (kz.1 c.2)
    obtain ⟨a, b⟩ := gH (gI c.1 h1 h2)
    rw [Int.toNat_natCast]
    exact ⟨by simp only; omega, by have := b.1; simp only; omega, fun r hr => by have := b.2 r hr; omega⟩
  · exact lN.nil
theorem mK {p : List Int} {n : Int} (h : (dy p n).2 = true) : ∃ m : Nat, n = m ∧ ∃ q, dy p m = (q, true) := by
  have h0 : 0 ≤ n := by
    refine Int.not_lt.1 fun hlt => ?_
    unfold dy at h
    rw [if_neg (by omega)] at h
    cases h
  refine ⟨n.toNat, by omega, (dy p n).1, ?_⟩
  rw [show ((n.toNat : Nat) : Int) = n by omega]
  exact Prod.ext rfl h
theorem wD {t : Tab} {n : Int} : lN (dL t n).1 := by
  unfold dL
  split
  · next c =>
    obtain ⟨m, rfl, q, hq⟩ := mK c.2
    obtain ⟨a, b⟩ := gH (zT c.1 hq)
    rw [Int.toNat_natCast]
    exact ⟨by simp only; omega, by have := b.1; simp only; omega, fun r hr => by have := b.2 r hr; omega⟩
  · exact lN.nil
def lr (t : Tab) : Int := if cz t = true then dC t.1 else -1
def nL (a n m : Nat) (t : Tab) : Prop := t.1.length ≤ a ∧ dk n m t.2
theorem nL.tab {a n m : Nat} {t : Tab} (h : nL a n m t) (ha : a ≤ 1048576) (hn : n ≤ 1048576) (hm : m ≤ 1048576) : t.1.length ≤ 1048576 ∧ t.2.length ≤ 1048576 ∧ ∀ x ∈ t.2, x.length ≤ 1048576 :=
  ⟨Nat.le_trans h.1 ha, Nat.le_trans h.2.1 hn, fun x hx => Nat.le_trans (h.2.2 x hx) hm⟩
end Go.Am.Pu
end
