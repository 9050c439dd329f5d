/- Plain laws of lists, partitions, shapes and tableaux; no program in sight. -/
import Derived.Test.YtilkippgilnhcaaAmP
set_option linter.unusedSimpArgs false
set_option linter.unusedVariables false
set_option linter.unnecessarySimpa false
set_option linter.unusedSectionVars false
section
/- Rules for loops over data: a loop that looks at all, a loop that folds. -/
namespace Go.Am.Pu
open Go.Am
theorem w64 {n : Int} (h1 : -9223372036854775808 ≤ n) (h2 : n ≤ 9223372036854775807) : IntKind.i64.wrap n = n := Go.Am.w64 h1 h2
theorem iB {R : Type} (L : Nat → Nat → Option R) (n : Nat) (p : Nat → Bool) (bad xD : Option R)
    (hs : ∀ j i, i < n → L (j + 1) i = if p i = true then L j (i + 1) else bad) (he : ∀ j, L (j + 1) n = xD) :
    ∀ (m j i : Nat), i + m = n → m < j → L j i = if (List.range' i m).all p = true then xD else bad
  | m, 0, i, _, h => by omega
  | 0, j + 1, i, h, _ => by
    have : i = n := by omega
    subst this
    rw [he]; rfl
  | m + 1, j + 1, i, h, hj => by
    rw [hs j i (by omega), iB L n p bad xD hs he m j (i + 1) (by omega) (by omega), List.range'_succ, List.all_cons]
    cases p i
    · rw [if_neg (by simp), Bool.false_and, if_neg (by simp)]
    · rw [if_pos rfl, Bool.true_and]
theorem eG {p : Nat → Bool} {n : Nat} : (List.range' 0 n).all p = true ↔ ∀ i, i < n → p i = true := by
  simp [List.all_eq_true, List.mem_range'_1]
theorem aW {α : Type} {xs : List α} {i : Nat} (h : i < xs.length) (d : α) : xs.getD i d = xs[i] := by
  simp only [List.getD_eq_getElem?_getD, List.getElem?_eq_getElem h, Option.getD_some]
theorem cH {α : Type} {xs : List α} {i : Nat} (h : xs.length ≤ i) (d : α) : xs.getD i d = d := by
  simp only [List.getD_eq_getElem?_getD, List.getElem?_eq_none h, Option.getD_none]
theorem drop_cons {α : Type} {xs : List α} {i : Nat} (h : i < xs.length) (d : α) : xs.drop i = xs.getD i d :: xs.drop (i + 1) := by
  rw [aW h, List.drop_eq_getElem_cons h]
theorem take_succ {α : Type} {xs : List α} {i : Nat} (h : i < xs.length) (d : α) : xs.take (i + 1) = xs.take i ++ [xs.getD i d] := by
  rw [aW h, List.take_succ_eq_append_getElem h]
theorem rQ {α : Type} {xs : List α} {i : Nat} (h : i < xs.length) (d z : α) : (xs.take i ++ List.replicate (xs.length - i) z).set i (xs.getD i d) = xs.take (i + 1) ++ List.replicate (xs.length - (i + 1)) z := by
  have e : xs.length - i = xs.length - (i + 1) + 1 := by omega
  rw [take_succ h d, e, List.replicate_succ, List.set_append_right _ _ (by simp; omega)]
  simp [Nat.min_eq_left (Nat.le_of_lt h)]
end Go.Am.Pu
end
section
/- Marking memory and looking whether the marks are held. -/
namespace Go.Am.Pu
def held : List Int → Int → Int
  | [], q => q
  | x :: xs, q => if x = q then held xs (q + 1) else -1
def mark : List Int → Int → List Int
  | [], _ => []
  | _ :: xs, q => q :: mark xs (q + 1)
theorem nh : ∀ (xs : List Int) (q : Int), (mark xs q).length = xs.length
  | [], _ => rfl
  | _ :: xs, q => by simp [mark, nh xs]
theorem rR : ∀ (xs : List Int) (q : Int), held (mark xs q) q = q + xs.length
  | [], q => by simp [mark, held]
  | _ :: xs, q => by
    simp only [mark, held, if_true, List.length_cons]
    rw [rR xs]
    omega
def rU : List (List Int) → Int → List (List Int)
  | [], _ => []
  | x :: xs, q => mark x q :: rU xs (q + x.length)
def gT : List (List Int) → Nat
  | [] => 0
  | x :: xs => x.length + gT xs
theorem pT : ∀ (xs : List (List Int)) (n : Nat), (∀ x ∈ xs, x.length ≤ n) → gT xs ≤ xs.length * n
  | [], n, _ => by simp [gT]
  | x :: xs, n, h => by
    have h1 := h x (by simp)
    have h2 := pT xs n fun y hy => h y (by simp [hy])
    simp only [gT, List.length_cons, Nat.succ_mul]
    omega
theorem rV {xs : List (List Int)} (h : xs.length ≤ 1048576) (hr : ∀ x ∈ xs, x.length ≤ 1048576) : gT xs ≤ 1099511627776 := by
  have h1 := pT xs 1048576 hr
  have h2 : xs.length * 1048576 ≤ 1048576 * 1048576 := Nat.mul_le_mul_right _ h
  omega
end Go.Am.Pu
end
section
/- Partitions, shapes and tableaux as plain words. -/
namespace Go.Am.Pu
def within (x lo hi : Int) : Bool := decide (lo ≤ x) && decide (x ≤ hi)
def atI (p : List Int) (i : Int) : Int := if i < 0 then 0 else p.getD i.toNat 0
theorem dO (p : List Int) (i : Nat) : atI p (i : Int) = p.getD i 0 := by simp [atI]; omega
theorem o8 {p : List Int} {i : Int} (h : i < 0) : atI p i = 0 := by simp [atI, h]
theorem uU {p : List Int} {i : Int} (h : (p.length : Int) ≤ i) : atI p i = 0 := by
  unfold atI
  split
  · rfl
  · exact cH (by omega) 0
def eP : List Int → Int → Int → Bool
  | [], _, _ => true
  | x :: xs, prev, s => decide (1 ≤ x) && (decide (x ≤ prev) && (decide (s + x ≤ 9) && eP xs x (s + x)))
def cm (p : List Int) : Bool := eP p 9 0
def eY : List Int → Int
  | [] => 0
  | x :: xs => x + eY xs
theorem oz : ∀ (p : List Int) (prev s : Int), eP p prev s = true → (∀ x ∈ p, 1 ≤ x ∧ x ≤ prev) ∧ (p ≠ [] → s + eY p ≤ 9) ∧ (p.length : Int) ≤ eY p
  | [], prev, s, _ => ⟨fun x h => (by cases h), fun h => absurd rfl h, (by simp [eY])⟩
  | x :: xs, prev, s, h => by
    simp only [eP, Bool.and_eq_true, decide_eq_true_eq] at h
    obtain ⟨h1, h2, h3, h4⟩ := h
    obtain ⟨k1, k2, k3⟩ := oz xs x (s + x) h4
    refine ⟨fun y hy => ?_, fun _ => ?_, ?_⟩
    · rcases List.mem_cons.1 hy with rfl | hy
      · exact ⟨h1, h2⟩
      · have := k1 y hy; omega
    · simp only [eY]
      by_cases e : xs = []
      · subst e; simp [eY]; omega
      · have := k2 e; omega
    · simp only [eY, List.length_cons]; omega
theorem cw {p : List Int} (h : cm p = true) : (∀ x ∈ p, 1 ≤ x ∧ x ≤ 9) ∧ eY p ≤ 9 ∧ p.length ≤ 9 ∧ (p.length : Int) ≤ eY p := by
  obtain ⟨h1, h2, h3⟩ := oz p 9 0 h
  have : eY p ≤ 9 := by
    by_cases e : p = []
    · subst e; simp [eY]
    · have := h2 e; omega
  exact ⟨h1, this, by omega, h3⟩
theorem fh {p : List Int} (h : cm p = true) (i : Int) : 0 ≤ atI p i ∧ atI p i ≤ 9 := by
  unfold atI
  split
  · omega
  · by_cases hl : i.toNat < p.length
    · rw [aW hl]
      have := (cw h).1 _ (List.getElem_mem hl)
      omega
    · rw [cH (by omega)]; omega
def cY (q p : List Int) : Bool := cm q && (cm p && (decide (q.length ≤ p.length) && (List.range' 0 q.length).all fun i => decide (q.getD i 0 ≤ p.getD i 0)))
theorem uZ {q p : List Int} (hq : cm q = true) (h : (List.range' 0 q.length).all (fun i => decide (q.getD i 0 ≤ p.getD i 0)) = true) : q.length ≤ p.length := by
  rw [eG] at h
  refine Nat.le_of_not_lt fun hlt => ?_
  have h1 := h p.length hlt
  rw [decide_eq_true_eq, cH (Nat.le_refl _), aW hlt] at h1
  have := (cw hq).1 _ (List.getElem_mem hlt)
  omega
theorem sN {q p : List Int} : cY q p = (cm q && (cm p && (List.range' 0 q.length).all fun i => decide (q.getD i 0 ≤ p.getD i 0))) := by
  unfold cY
  cases hq : cm q with
  | false => rfl
  | true =>
    cases hp : cm p with
    | false => rfl
    | true =>
      simp only [Bool.true_and]
      cases ha : (List.range' 0 q.length).all fun i => decide (q.getD i 0 ≤ p.getD i 0) with
      | false => simp
      | true => simp [uZ hq ha]
def dv (inner : List Int) : Nat → List (List Int) → List Int
  | _, [] => []
  | i, r :: rs => (inner.getD i 0 + r.length) :: dv inner (i + 1) rs
theorem iF (inner : List Int) : ∀ (rs : List (List Int)) (i : Nat), (dv inner i rs).length = rs.length
  | [], _ => rfl
  | _ :: rs, i => by simp [dv, iF inner rs]
theorem iz (inner : List Int) : ∀ (rs : List (List Int)) (i q : Nat), q < rs.length → (dv inner i rs).getD q 0 = inner.getD (i + q) 0 + (rs.getD q []).length
  | [], i, q, h => by simp at h
  | r :: rs, i, 0, _ => by simp [dv]
  | r :: rs, i, q + 1, h => by
    have := iz inner rs (i + 1) q (by simpa using h)
    simp only [dv, List.getD_cons_succ]
    rw [this]
    have e : i + 1 + q = i + (q + 1) := by omega
    rw [e]
abbrev Tab := List Int × List (List Int)
def outer (t : Tab) : List Int := dv t.1 0 t.2
def cG (t : Tab) : Bool := cm t.1 && (decide (t.1.length ≤ t.2.length) && cY t.1 (outer t))
def shapeOf (t : Tab) : (List Int × List Int) × Bool := if cG t = true then ((outer t, t.1), true) else (([], []), false)
theorem sR {t : Tab} (h : cG t = true) : t.2.length ≤ 9 := by
  simp only [cG, cY, Bool.and_eq_true] at h
  have := (cw h.2.2.2.1).2.2.1
  rw [outer, iF] at this
  exact this
def entry (t : Tab) (r c : Int) : Int := if r < 0 then 0 else if (t.2.length : Int) ≤ r then 0 else atI (t.2.getD r.toNat []) (c - atI t.1 r)
theorem n0 {t : Tab} {r : Nat} (h : r < t.2.length) (c : Int) : entry t r c = atI (t.2.getD r []) (c - t.1.getD r 0) := by
  unfold entry
  rw [if_neg (by omega), if_neg (by omega), dO]
  rfl
theorem wy {t : Tab} {r c : Int} (h : r < 0) : entry t r c = 0 := by unfold entry; rw [if_pos h]
theorem ux {t : Tab} {r q : Nat} (h : r < t.2.length) : entry t r (t.1.getD r 0 + q) = (t.2.getD r []).getD q 0 := by
  rw [n0 h]
  have e : t.1.getD r 0 + (q : Int) - t.1.getD r 0 = q := by omega
  rw [e, dO]
theorem uA {t : Tab} {r q : Nat} (h : r < t.2.length) : entry t r (t.1.getD r 0 + q - 1) = if q = 0 then 0 else (t.2.getD r []).getD (q - 1) 0 := by
  rw [n0 h]
  by_cases e : q = 0
  · subst e
    rw [if_pos rfl, o8 (by omega)]
  · rw [if_neg e]
    have e : t.1.getD r 0 + (q : Int) - 1 - t.1.getD r 0 = ((q - 1 : Nat) : Int) := by omega
    rw [e, dO]
def e9 (t : Tab) (i k : Nat) : Bool := within ((t.2.getD i []).getD k 0) 1 9 && ((decide (k = 0) || decide ((t.2.getD i []).getD (k - 1) 0 ≤ (t.2.getD i []).getD k 0)) &&
  (decide (i = 0) || decide (entry t ((i : Int) - 1) (t.1.getD i 0 + k) < (t.2.getD i []).getD k 0)))
def gP (t : Tab) : Bool := cG t && (List.range' 0 t.2.length).all fun i => (List.range' 0 (t.2.getD i []).length).all fun k => e9 t i k
def bL (t : Tab) : Bool := gP t && decide (t.1.length = 0)
theorem jU {t : Tab} (h : gP t = true) : cG t = true := by
  simp only [gP, Bool.and_eq_true] at h; exact h.1
theorem oe (inner : List Int) : ∀ (rs : List (List Int)) (i : Nat), (∀ q, i ≤ q → inner.getD q 0 = 0) → eY (dv inner i rs) = rs.flatten.length
  | [], i, _ => rfl
  | r :: rs, i, h => by
    simp only [dv, eY, List.flatten_cons, List.length_append]
    rw [oe inner rs (i + 1) (fun q hq => h q (by omega)), h i (Nat.le_refl _)]
    omega
theorem jv {t : Tab} (h : bL t = true) : t.2.flatten.length ≤ 9 := by
  simp only [bL, Bool.and_eq_true, decide_eq_true_eq] at h
  have hs := jU h.1
  simp only [cG, cY, Bool.and_eq_true] at hs
  have h9 := (cw hs.2.2.2.1).2.1
  have : t.1 = [] := List.eq_nil_of_length_eq_zero h.2
  rw [outer, oe t.1 t.2 0 (fun q _ => by rw [this]; rfl)] at h9
  omega
def kG (t : Tab) : Prop := t.1.length ≤ 1048576 ∧ t.2.length ≤ 1048576 ∧ ∀ x ∈ t.2, x.length ≤ 1048576
theorem kG.nil : kG ([], []) := ⟨by simp, by simp, fun x h => by cases h⟩
theorem tY : ∀ {rs : List (List Int)} {r : List Int}, r ∈ rs → r.length ≤ rs.flatten.length
  | q :: rs, r, h => by
    simp only [List.flatten_cons, List.length_append]
    rcases List.mem_cons.1 h with rfl | h
    · omega
    · have := tY h; omega
end Go.Am.Pu
end
section
/- Standard tableaux, weights, descents: plain words. -/
namespace Go.Am.Pu
theorem mU {α R : Type} (r : List α) (d : α) (p : α → Bool) (L : Nat → Nat → Option R) (hit : Nat → Option R) (miss : Option R)
    (hs : ∀ j i, i < r.length → L (j + 1) i = if p (r.getD i d) = true then hit i else L j (i + 1)) (he : ∀ j, L (j + 1) r.length = miss) :
    ∀ (m j i : Nat), i + m = r.length → m < j → i ≤ r.findIdx p → L j i = if r.findIdx p < r.length then hit (r.findIdx p) else miss
  | m, 0, i, _, hj, _ => by omega
  | 0, j + 1, i, hm, _, hi => by
    have e : i = r.length := by omega
    rw [if_neg (by omega), e, he]
  | m + 1, j + 1, i, hm, hj, hi => by
    have hlt : i < r.length := by omega
    rw [hs j i hlt]
    by_cases c : p (r.getD i d) = true
    · have e : r.findIdx p = i := Nat.le_antisymm (Nat.le_of_not_lt fun h' => by
        have := List.not_of_lt_findIdx h'
        rw [aW hlt] at c
        rw [c] at this; cases this) hi
      rw [if_pos c, e, if_pos hlt]
    · rw [if_neg c]
      refine mU r d p L hit miss hs he m j (i + 1) (by omega) (by omega) ?_
      refine Nat.succ_le_of_lt (Nat.lt_of_le_of_ne hi fun e => c ?_)
      have hlt' : r.findIdx p < r.length := by omega
      have := List.findIdx_getElem (p := p) (xs := r) (w := hlt')
      rw [← aW hlt' d, ← e] at this
      exact this
def uj {α : Type} (p : α → Bool) (r : List α) : Int := if r.findIdx p < r.length then (r.findIdx p : Int) else -1
theorem tv {α : Type} (p : α → Bool) (r : List α) : decide (0 ≤ uj p r) = r.any p := by
  unfold uj
  by_cases h : r.findIdx p < r.length
  · rw [if_pos h, List.any_eq_true.2 ⟨_, List.getElem_mem h, List.findIdx_getElem⟩]
    simp
  · rw [if_neg h]
    have : r.any p = false := by
      rw [List.any_eq_false]
      intro x hx hp
      exact h (List.findIdx_lt_length_of_exists ⟨x, hx, hp⟩)
    rw [this]; rfl
theorem xR {α : Type} (p : α → Bool) (r : List α) : r.any p = decide (r.findIdx p < r.length) := by
  rw [← tv]
  unfold uj
  by_cases h : r.findIdx p < r.length <;> simp [h]
def has (l : List Int) (x : Int) : Bool := l.any fun y => decide (x = y)
theorem lR {l : List Int} {x : Int} : has l x = true ↔ x ∈ l := by
  simp [has, List.any_eq_true]
def im (l : List Int) : Bool := (List.range' 0 l.length).all fun i => has l ((i : Int) + 1)
theorem pd : ∀ (R l : List Int), R.Nodup → (∀ x ∈ R, x ∈ l) → R.length ≤ l.length
  | [], l, _, _ => by simp
  | x :: R, l, hn, h => by
    rw [List.nodup_cons] at hn
    have hx := h x (by simp)
    have := pd R (l.erase x) hn.2 fun y hy => (List.mem_erase_of_ne fun (e : y = x) => hn.1 (e ▸ hy)).2 (h y (by simp [hy]))
    rw [List.length_erase_of_mem hx] at this
    have : 0 < l.length := List.length_pos_of_mem hx
    simp only [List.length_cons]
    omega
def qW (n : Nat) : List Int := (List.range n).map fun (i : Nat) => (i : Int) + 1
theorem jx {n : Nat} {x : Int} : x ∈ qW n ↔ 1 ≤ x ∧ x ≤ n := by
  simp only [qW, List.mem_map, List.mem_range]
  constructor
  · rintro ⟨i, h, rfl⟩; omega
  · rintro ⟨h1, h2⟩; exact ⟨(x - 1).toNat, by omega, by omega⟩
theorem pN (n : Nat) : (qW n).Nodup := by
  unfold qW
  refine List.Pairwise.map _ (fun (a b : Nat) (h : a ≠ b) => ?_) List.nodup_range
  intro e
  exact h (by omega)
theorem pD (n : Nat) : (qW n).length = n := by simp [qW]
theorem nk {l : List Int} : im l = true ↔ ∀ x ∈ qW l.length, x ∈ l := by
  unfold im
  rw [eG]
  constructor
  · intro h x hx
    rw [jx] at hx
    have := h (x - 1).toNat (by omega)
    rw [lR] at this
    have e : (((x - 1).toNat : Nat) : Int) + 1 = x := by omega
    rw [e] at this; exact this
  · intro h i hi
    rw [lR]
    exact h _ (jx.2 (by omega))
theorem pE {l : List Int} (h1 : ∀ x ∈ l, 1 ≤ x) : im l = true ↔ l.Nodup ∧ ∀ x ∈ l, x ≤ l.length := by
  rw [nk]
  constructor
  · intro h
    refine ⟨?_, fun x hx => ?_⟩
    ·
      refine Classical.byContradiction fun hn => ?_
      have : ∃ x, x ∈ l ∧ x ∈ l.erase x := by
        have key : ∀ l : List Int, ¬ l.Nodup → ∃ x, x ∈ l ∧ x ∈ l.erase x := by
          intro l
          induction l with
          | nil => intro h; exact absurd List.nodup_nil h
          | cons a l ih =>
            intro h
            by_cases ha : a ∈ l
            · exact ⟨a, by simp, by simpa using ha⟩
            · have : ¬ l.Nodup := fun hl => h (List.nodup_cons.2 ⟨ha, hl⟩)
              obtain ⟨x, h1, h2⟩ := ih this
              refine ⟨x, by simp [h1], ?_⟩
              have hne : a ≠ x := fun e => ha (e ▸ h1)
              rw [List.erase_cons_tail (by simpa using hne)]
              exact List.mem_cons_of_mem _ h2
        exact key l hn
      obtain ⟨x, hx, hx2⟩ := this
      have := pd (qW l.length) (l.erase x) (pN _) fun y hy => by
        by_cases e : y = x
        · rw [e]; exact hx2
        · exact (List.mem_erase_of_ne e).2 (h y hy)
      rw [pD, List.length_erase_of_mem hx] at this
      have : 0 < l.length := List.length_pos_of_mem hx
      omega
    · refine Int.not_lt.1 fun hlt => ?_
      have := pd (qW l.length) (l.erase x) (pN _) fun y hy => by
        have hy' := jx.1 hy
        exact (List.mem_erase_of_ne (by omega)).2 (h y hy)
      rw [pD, List.length_erase_of_mem hx] at this
      have : 0 < l.length := List.length_pos_of_mem hx
      omega
  · rintro ⟨hn, hb⟩ x hx
    refine Classical.byContradiction fun hxl => ?_
    have := pd (x :: l) (qW l.length) (List.nodup_cons.2 ⟨hxl, hn⟩) fun y hy => by
      rcases List.mem_cons.1 hy with rfl | hy
      · exact hx
      · exact jx.2 ⟨h1 y hy, hb y hy⟩
    rw [pD, List.length_cons] at this
    omega
def iM (n : Int) : List Int → List Int → Bool
  | _, [] => true
  | seen, x :: xs => decide (x ≤ n) && (!has seen x && iM n (seen ++ [x]) xs)
theorem oM (n : Int) : ∀ (xs seen : List Int), iM n seen xs = true ↔ (∀ x ∈ xs, x ≤ n) ∧ xs.Nodup ∧ ∀ x ∈ xs, x ∉ seen
  | [], seen => by simp [iM]
  | x :: xs, seen => by
    simp only [iM, Bool.and_eq_true, decide_eq_true_eq, oM n xs, Bool.not_eq_true', List.nodup_cons]
    have hh : has seen x = false ↔ x ∉ seen := by rw [← lR]; simp
    rw [hh]
    constructor
    · rintro ⟨h1, h2, h3, h4, h5⟩
      refine ⟨fun y hy => ?_, ⟨fun hx => h5 x hx (by simp), h4⟩, fun y hy => ?_⟩
      · rcases List.mem_cons.1 hy with rfl | hy
        · exact h1
        · exact h3 y hy
      · rcases List.mem_cons.1 hy with rfl | hy
        · exact h2
        · exact fun h => h5 y hy (by simp [h])
    · rintro ⟨h1, ⟨h2, h3⟩, h4⟩
      refine ⟨h1 x (by simp), h4 x (by simp), fun y hy => h1 y (by simp [hy]), h3, fun y hy h => ?_⟩
      rcases List.mem_append.1 h with h | h
      · exact h4 y (by simp [hy]) h
      · simp only [List.mem_singleton] at h; exact h2 (h ▸ hy)
theorem vd {l : List Int} (h1 : ∀ x ∈ l, 1 ≤ x) : iM l.length [] l = im l := by
  have a := oM l.length l []
  have b := pE h1
  cases h : iM l.length [] l with
  | true =>
    have := a.1 h
    exact (b.2 ⟨this.2.1, this.1⟩).symm
  | false =>
    cases h' : im l with
    | false => rfl
    | true =>
      have := b.1 h'
      rw [a.2 ⟨this.2, this.1, fun _ _ h => by cases h⟩] at h
      cases h
theorem ot {t : Tab} (h : gP t = true) : ∀ x ∈ t.2.flatten, 1 ≤ x ∧ x ≤ 9 := by
  intro x hx
  simp only [gP, Bool.and_eq_true] at h
  obtain ⟨r, hr, hxr⟩ := List.mem_flatten.1 hx
  obtain ⟨i, hi, e⟩ := List.mem_iff_getElem.1 hr
  obtain ⟨q, hq, e2⟩ := List.mem_iff_getElem.1 hxr
  have h1 := eG.1 h.2 i hi
  rw [aW hi, e] at h1
  have h2 := eG.1 h1 q hq
  simp only [e9, within, Bool.and_eq_true, decide_eq_true_eq] at h2
  rw [aW hi, e, aW hq, e2] at h2
  exact h2.1
theorem nj (inner : List Int) (h : ∀ q, 0 ≤ inner.getD q 0) : ∀ (rs : List (List Int)) (i : Nat), (rs.flatten.length : Int) ≤ eY (dv inner i rs)
  | [], i => by simp [dv, eY]
  | r :: rs, i => by
    have := nj inner h rs (i + 1)
    have := h i
    simp only [dv, eY, List.flatten_cons, List.length_append]
    omega
theorem sJ {t : Tab} (h : gP t = true) : t.2.flatten.length ≤ 9 := by
  have hs := jU h
  simp only [cG, cY, Bool.and_eq_true] at hs
  have h9 := (cw hs.2.2.2.1).2.1
  have := nj t.1 (fun q => by
    have := (fh hs.1 q).1
    rw [dO] at this; exact this) t.2 0
  unfold outer at h9
  omega
def eH (t : Tab) : Bool := gP t && im t.2.flatten
def rowOf (t : Tab) (n : Int) : Int := uj (fun r => has r n) t.2
end Go.Am.Pu
end
section
/- Plain laws of draws, and of boxes. -/
namespace Go.Am.Pu
open Go Go.Am
attribute [local instance] D.real
end Go.Am.Pu
end
section
/- Steps over equations: what a word comes to, told by what must hold of it. -/
namespace Go.Am.Pu
open Go Go.Am
attribute [local instance] D.real
section
variable {α β : Type}
def Ok (x : Option α) (Q : α → Prop) : Prop := ∃ y, x = some y ∧ Q y
theorem Ok.ret {y : α} {Q : α → Prop} (h : Q y) : Ok (some y) Q := ⟨y, rfl, h⟩
theorem Ok.mono {x : Option α} {P Q : α → Prop} (h : Ok x P) (g : ∀ y, P y → Q y) : Ok x Q :=
  let ⟨y, e, hp⟩ := h
  ⟨y, e, g y hp⟩
theorem Ok.bnd {x : Option α} {f : α → Option β} {P : α → Prop} {Q : β → Prop} (h : Ok x P) (g : ∀ y, P y → Ok (f y) Q) : Ok (D.bnd x f) Q := by
  obtain ⟨y, e, hp⟩ := h
  rw [e]
  exact g y hp
theorem Ok.t {p : Prop} [Decidable p] {x y : Option α} {Q : α → Prop} (h1 : p → Ok x Q) (h2 : ¬ p → Ok y Q) : Ok (D.test (decide p) x y) Q := by
  show Ok (if decide p = true then x else y) Q
  by_cases h : p
  · rw [if_pos (decide_eq_true h)]; exact h1 h
  · rw [if_neg (by rw [decide_eq_false h]; simp)]; exact h2 h
theorem Ok.tb {b : Bool} {x y : Option α} {Q : α → Prop} (h1 : b = true → Ok x Q) (h2 : b = false → Ok y Q) : Ok (D.test b x y) Q := by
  cases b
  · exact h2 rfl
  · exact h1 rfl
theorem Ok.g {p : Prop} [Decidable p] {x y : Option α} {Q : α → Prop} (h : p) (g : Ok x Q) : Ok (D.test (decide p) x y) Q := Ok.t (fun _ => g) (fun h' => absurd h h')
theorem Ok.no {p : Prop} [Decidable p] {x y : Option α} {Q : α → Prop} (h : ¬ p) (g : Ok y Q) : Ok (D.test (decide p) x y) Q := Ok.t (fun h' => absurd h' h) (fun _ => g)
theorem Ok.some {x : Option α} {Q : α → Prop} (h : Ok x Q) : ∃ y, x = Option.some y := let ⟨y, e, _⟩ := h; ⟨y, e⟩
end
def cP (n m : Nat) (rs : List (List Int)) : Prop := rs.length ≤ n ∧ ∀ r ∈ rs, r.length ≤ m
theorem cP.at {n m : Nat} {rs : List (List Int)} (h : cP n m rs) (i : Nat) : (rs.getD i []).length ≤ m := by
  by_cases hi : i < rs.length
  · rw [aW hi]; exact h.2 _ (List.getElem_mem hi)
  · rw [cH (by omega)]; simp
theorem cP.set {n m : Nat} {rs : List (List Int)} (h : cP n m rs) (i : Nat) {r : List Int} (hr : r.length ≤ m) : cP n m (rs.set i r) := by
  refine ⟨by rw [List.length_set]; exact h.1, fun x hx => ?_⟩
  rcases List.mem_or_eq_of_mem_set hx with h' | rfl
  · exact h.2 x h'
  · exact hr
theorem cP.mono {n m n' m' : Nat} {rs : List (List Int)} (h : cP n m rs) (hn : n ≤ n') (hm : m ≤ m') : cP n' m' rs :=
  ⟨Nat.le_trans h.1 hn, fun x hx => Nat.le_trans (h.2 x hx) hm⟩
theorem cP.app {n m : Nat} {rs : List (List Int)} (h : cP n m rs) {r : List Int} (hr : r.length ≤ m) : cP (n + 1) m (rs ++ [r]) := by
  refine ⟨by rw [List.length_append]; simp; exact h.1, fun x hx => ?_⟩
  rcases List.mem_append.1 hx with h' | h'
  · exact h.2 x h'
  · simp only [List.mem_singleton] at h'; subst h'; exact hr
end Go.Am.Pu
end
section
/- Corners; a number taken out of rows. Plain words. -/
namespace Go.Am.Pu
theorem nW : ∀ {p : List Int} {prev s : Int}, eP p prev s = true → ∀ i, i + 1 < p.length → p.getD (i + 1) 0 ≤ p.getD i 0
  | [], _, _, _, i, h => by simp at h
  | [x], _, _, _, i, h => by simp at h
  | x :: y :: xs, prev, s, hp, i, h => by
    simp only [eP, Bool.and_eq_true, decide_eq_true_eq] at hp
    cases i with
    | zero => simpa using hp.2.2.2.2.1
    | succ i =>
      have h2 : eP (y :: xs) x (s + x) = true := by
        simp only [eP, Bool.and_eq_true, decide_eq_true_eq]
        exact hp.2.2.2
      have := nW h2 i (by simpa using h)
      simpa using this
def dA (r : List Int) (y : Int) : Nat → Option Nat
  | 0 => none
  | i + 1 => if r.getD i 0 < y then some i else dA r y i
theorem lf {r : List Int} {y : Int} : ∀ {m q : Nat}, dA r y m = some q → q < m ∧ r.getD q 0 < y
  | 0, q, h => by simp [dA] at h
  | m + 1, q, h => by
    unfold dA at h
    split at h
    · next hc => injection h with h; subst h; exact ⟨by omega, hc⟩
    · have := lf h; exact ⟨by omega, this.2⟩
theorem nN {r : List Int} {y : Int} : ∀ {m i : Nat}, i < m → r.getD i 0 < y → ∃ q, dA r y m = some q
  | 0, i, h, _ => by omega
  | m + 1, i, h, hi => by
    unfold dA
    split
    · exact ⟨_, rfl⟩
    · next hc =>
      have : i ≠ m := fun e => hc (e ▸ hi)
      exact nN (by omega) hi
def dZ : Nat → List (List Int) → Int → List (List Int) × Int
  | 0, rs, y => (rs, y)
  | r + 1, rs, y => match dA (rs.getD r []) y (rs.getD r []).length with
    | some q => dZ r (rs.set r ((rs.getD r []).set q y)) ((rs.getD r []).getD q 0)
    | none => dZ r rs y
def wz : Nat → List (List Int) → Int → Prop
  | 0, _, _ => True
  | r + 1, rs, y => ∃ q, dA (rs.getD r []) y (rs.getD r []).length = some q ∧ wz r (rs.set r ((rs.getD r []).set q y)) ((rs.getD r []).getD q 0)
theorem getD_set_ne {α : Type} {xs : List α} {i j : Nat} (h : j ≠ i) (x d : α) : (xs.set j x).getD i d = xs.getD i d := by
  simp only [List.getD_eq_getElem?_getD, List.getElem?_set]
  rw [if_neg h]
theorem vG : ∀ (r : Nat) (rs : List (List Int)) (y : Int), (∀ i, i + 1 < r → (rs.getD (i + 1) []).length ≤ (rs.getD i []).length ∧ ∀ q, q < (rs.getD (i + 1) []).length → (rs.getD i []).getD q 0 < (rs.getD (i + 1) []).getD q 0) →
    (∀ i, i + 1 = r → ∃ q, q < (rs.getD i []).length ∧ (rs.getD i []).getD q 0 < y) → wz r rs y
  | 0, _, _, _, _ => trivial
  | r + 1, rs, y, h, he => by
    obtain ⟨q0, h1, h2⟩ := he r rfl
    obtain ⟨q, hq⟩ := nN h1 h2
    obtain ⟨q1, q2⟩ := lf hq
    refine ⟨q, hq, vG r _ _ (fun i hi => ?_) (fun i hi => ?_)⟩
    · rw [getD_set_ne (by omega), getD_set_ne (by omega)]
      exact h i (by omega)
    · subst hi
      rw [getD_set_ne (by omega)]
      obtain ⟨k1, k2⟩ := h i (by omega)
      exact ⟨q, by omega, k2 q q1⟩
theorem mC {n m : Nat} : ∀ (r : Nat) (rs : List (List Int)) (y : Int), cP n m rs → cP n m (dZ r rs y).1
  | 0, _, _, h => h
  | r + 1, rs, y, h => by
    unfold dZ
    split
    · exact mC r _ _ (h.set r (by rw [List.length_set]; exact h.at r))
    · exact mC r rs y h
def bZ (rs : List (List Int)) (row : Nat) : List (List Int) × Int :=
  ((if (rs.getD row []).length = 1 then (dZ row (rs.set row ((rs.getD row []).take ((rs.getD row []).length - 1))) ((rs.getD row []).getD ((rs.getD row []).length - 1) 0)).1.take row
    else (dZ row (rs.set row ((rs.getD row []).take ((rs.getD row []).length - 1))) ((rs.getD row []).getD ((rs.getD row []).length - 1) 0)).1),
   (dZ row (rs.set row ((rs.getD row []).take ((rs.getD row []).length - 1))) ((rs.getD row []).getD ((rs.getD row []).length - 1) 0)).2)
theorem sb {n m : Nat} {rs : List (List Int)} (h : cP n m rs) (row : Nat) : cP n m (bZ rs row).1 := by
  have h1 := mC row (rs.set row ((rs.getD row []).take ((rs.getD row []).length - 1))) ((rs.getD row []).getD ((rs.getD row []).length - 1) 0) (h.set row (by rw [List.length_take]; have := h.at row; omega))
  unfold bZ
  simp only
  split
  · exact ⟨by rw [List.length_take]; have := h1.1; omega, fun x hx => h1.2 x (List.mem_of_mem_take hx)⟩
  · exact h1
theorem dJ {t : Tab} (h : bL t = true) : t.1 = [] := by
  simp only [bL, Bool.and_eq_true, decide_eq_true_eq] at h
  exact List.eq_nil_of_length_eq_zero h.2
theorem dG {t : Tab} (h : bL t = true) {i : Nat} (hi : i < t.2.length) : (outer t).getD i 0 = (t.2.getD i []).length := by
  have e := iz t.1 t.2 0 i hi
  rw [dJ h] at e
  unfold outer
  rw [dJ h, e]
  simp
theorem fW {t : Tab} (h : bL t = true) : cm (outer t) = true := by
  simp only [bL, Bool.and_eq_true] at h
  have hs := jU h.1
  simp only [cG, cY, Bool.and_eq_true] at hs
  exact hs.2.2.2.1
theorem dk (t : Tab) : (outer t).length = t.2.length := by unfold outer; rw [iF]
theorem gV {t : Tab} (h : bL t = true) : cP 9 9 t.2 := by
  have h9 := jv h
  have hl := (cw (fW h)).2.2.1
  rw [dk] at hl
  exact ⟨hl, fun r hr => by have := tY hr; omega⟩
theorem mE {t : Tab} (h : bL t = true) : ∀ i, i + 1 < t.2.length → (t.2.getD (i + 1) []).length ≤ (t.2.getD i []).length ∧ ∀ q, q < (t.2.getD (i + 1) []).length → (t.2.getD i []).getD q 0 < (t.2.getD (i + 1) []).getD q 0 := by
  intro i hi
  have hm := nW (show eP (outer t) 9 0 = true from fW h) i (by rw [dk]; exact hi)
  rw [dG h hi, dG h (by omega)] at hm
  have hl : (t.2.getD (i + 1) []).length ≤ (t.2.getD i []).length := by omega
  refine ⟨hl, fun q hq => ?_⟩
  have ht := h
  simp only [bL, Bool.and_eq_true] at ht
  have ht := ht.1
  simp only [gP, Bool.and_eq_true] at ht
  have h1 := eG.1 (eG.1 ht.2 (i + 1) hi) q hq
  simp only [e9, Bool.and_eq_true, Bool.or_eq_true, decide_eq_true_eq] at h1
  have h2 := h1.2.2.resolve_left (by omega)
  rw [dJ h] at h2
  have e : ((i + 1 : Nat) : Int) - 1 = (i : Int) := by omega
  have e2 : ([] : List Int).getD (i + 1) 0 + (q : Int) = ([] : List Int).getD i 0 + (q : Int) := by simp
  rw [e, e2] at h2
  have ee : entry t (i : Int) (([] : List Int).getD i 0 + (q : Int)) = (t.2.getD i []).getD q 0 := by
    have := ux (t := t) (r := i) (q := q) (by omega)
    rw [dJ h] at this
    exact this
  rw [ee] at h2
  exact h2
end Go.Am.Pu
end
section
/- Rows with noughts in front; a box taken from a partition. Plain words. -/
namespace Go.Am.Pu
def iI (t : Tab) : List (List Int) := (List.range' 0 t.2.length).map fun i => List.replicate (t.1.getD i 0).toNat 0 ++ t.2.getD i []
def bS (p : List Int) (n : Nat) : List Int := if p.getD n 0 - 1 = 0 then p.take n else p.set n (p.getD n 0 - 1)
theorem uw (p : List Int) (n : Nat) : (bS p n).length ≤ p.length := by
  unfold bS
  split
  · rw [List.length_take]; omega
  · rw [List.length_set]; exact Nat.le_refl _
end Go.Am.Pu
end
section
/- A slide: the hole goes right or down until nothing is there. Plain words. -/
namespace Go.Am.Pu
def cel (g : List (List Int)) (r c : Nat) : Int := (g.getD r []).getD c 0
def kz (g : List (List Int)) (r c : Nat) (v : Int) : List (List Int) := g.set r ((g.getD r []).set c v)
theorem xb {g : List (List Int)} {r c : Nat} (h : cel g r c ≠ 0) : r < g.length ∧ c < (g.getD r []).length := by
  unfold cel at h
  by_cases h1 : r < g.length
  · refine ⟨h1, ?_⟩
    by_cases h2 : c < (g.getD r []).length
    · exact h2
    · exact absurd (cH (by omega) 0) h
  · rw [cH (xs := g) (by omega)] at h
    simp at h
theorem je (g : List (List Int)) (r c : Nat) (v : Int) : (kz g r c v).length = g.length := by unfold kz; rw [List.length_set]
theorem dD (g : List (List Int)) (r c : Nat) (v : Int) (q : Nat) : ((kz g r c v).getD q []).length = (g.getD q []).length := by
  unfold kz
  by_cases e : q = r
  · subst e
    by_cases h : q < g.length
    · rw [aW (by rw [List.length_set]; exact h), List.getElem_set_self, List.length_set]
    · rw [cH (by rw [List.length_set]; omega), cH (by omega)]
  · rw [getD_set_ne (Ne.symm e)]
theorem ky {g : List (List Int)} {r c : Nat} (v : Int) (h1 : r < g.length) (h2 : c < (g.getD r []).length) : cel (kz g r c v) r c = v := by
  unfold cel kz
  rw [aW (xs := g.set r _) (by rw [List.length_set]; exact h1), List.getElem_set_self, aW (by rw [List.length_set]; exact h2), List.getElem_set_self]
theorem iO {g : List (List Int)} {r c q x : Nat} (v : Int) (h : ¬ (q = r ∧ x = c)) : cel (kz g r c v) q x = cel g q x := by
  unfold cel kz
  by_cases e : q = r
  · subst e
    have hx : x ≠ c := fun e => h ⟨rfl, e⟩
    by_cases hl : q < g.length
    · rw [aW (xs := g.set q _) (by rw [List.length_set]; exact hl), List.getElem_set_self, getD_set_ne (Ne.symm hx)]
    · rw [cH (xs := g.set q _) (by rw [List.length_set]; omega), cH (xs := g) (by omega)]
  · rw [getD_set_ne (Ne.symm e)]
structure Sl (q : List Int) (g : List (List Int)) (i c : Nat) : Prop where
  q0 : ∀ r, 0 ≤ q.getD r 0
  qm : ∀ r, q.getD (r + 1) 0 ≤ q.getD r 0
  lm : ∀ r, (g.getD (r + 1) []).length ≤ (g.getD r []).length
  hi : i < g.length
  hc : c < (g.getD i []).length
  hq : q.getD i 0 ≤ c
  pos : ∀ r x, 0 ≤ cel g r x
  num : ∀ r x : Nat, q.getD r 0 ≤ x → x < (g.getD r []).length → ¬ (r = i ∧ x = c) → 1 ≤ cel g r x ∧ cel g r x ≤ 9
  row : ∀ r x : Nat, q.getD r 0 ≤ x → x + 1 < (g.getD r []).length → ¬ (r = i ∧ x = c) → ¬ (r = i ∧ x + 1 = c) → cel g r x ≤ cel g r (x + 1)
  col : ∀ r x : Nat, q.getD r 0 ≤ x → x < (g.getD (r + 1) []).length → ¬ (r = i ∧ x = c) → ¬ (r + 1 = i ∧ x = c) → cel g r x < cel g (r + 1) x
  rowH : ∀ x : Nat, x + 1 = c → q.getD i 0 ≤ x → c + 1 < (g.getD i []).length → cel g i x ≤ cel g i (c + 1)
  colH : ∀ r : Nat, r + 1 = i → q.getD r 0 ≤ c → c < (g.getD (i + 1) []).length → cel g r c < cel g (i + 1) c
theorem Sl.right {q : List Int} {g : List (List Int)} {i c : Nat} (h : Sl q g i c) (hr : cel g i (c + 1) ≠ 0) (hb : ¬ (0 < cel g (i + 1) c ∧ cel g (i + 1) c ≤ cel g i (c + 1))) :
    Sl q (kz g i c (cel g i (c + 1))) i (c + 1) := by
  obtain ⟨b1, b2⟩ := xb hr
  have hq := h.hq
  have hrn := h.num i (c + 1) (by omega) b2 (by omega)
  have e0 := ky (cel g i (c + 1)) h.hi h.hc
  have en : ∀ r x, ¬ (r = i ∧ x = c) → cel (kz g i c (cel g i (c + 1))) r x = cel g r x := fun r x hh => iO _ hh
  refine ⟨h.q0, h.qm, fun r => ?_, ?_, ?_, by omega, fun r x => ?_, fun r x h1 h2 h3 => ?_, fun r x h1 h2 h3 h4 => ?_, fun r x h1 h2 h3 h4 => ?_, fun x h1 h2 h3 => ?_, fun r h1 h2 h3 => ?_⟩
  · rw [dD, dD]; exact h.lm r
  · rw [je]; exact b1
  · rw [dD]; exact b2
  · by_cases e : r = i ∧ x = c
    · rw [e.1, e.2, e0]; exact h.pos _ _
    · rw [en r x e]; exact h.pos _ _
  · rw [dD] at h2
    by_cases e : r = i ∧ x = c
    · rw [e.1, e.2, e0]; exact hrn
    · rw [en r x e]; exact h.num r x h1 h2 e
  · rw [dD] at h2
    by_cases e : r = i ∧ x = c
    · exact (h4 ⟨e.1, by omega⟩).elim
    · rw [en r x e]
      by_cases e' : r = i ∧ x + 1 = c
      · obtain ⟨rfl, rfl⟩ := e'
        rw [e0]
        exact h.rowH x rfl h1 b2
      · rw [en r (x + 1) e']; exact h.row r x h1 h2 e e'
  · rw [dD] at h2
    by_cases e : r = i ∧ x = c
    · obtain ⟨rfl, rfl⟩ := e
      rw [e0, en _ _ (by omega)]
      have hqm := h.qm r
      have h5 := (h.num (r + 1) x (by omega) h2 (by omega)).1
      omega
    · rw [en r x e]
      by_cases e' : r + 1 = i ∧ x = c
      · obtain ⟨rfl, rfl⟩ := e'
        rw [e0]
        have hl := h.lm r
        have h5 := h.row r x h1 (by omega) (by omega) (by omega)
        have h6 := h.col r (x + 1) (by omega) b2 (by omega) (by omega)
        omega
      · rw [en (r + 1) x e']
        exact h.col r x h1 h2 e e'
  · rw [dD] at h3
    have : x = c := by omega
    subst this
    rw [e0, en _ _ (by omega)]
    exact h.row i (x + 1) (by omega) h3 (by omega) (by omega)
  · rw [dD] at h3
    rw [en _ _ (by omega), en _ _ (by omega)]
    subst h1
    have h5 := h.col r (c + 1) h2 (by omega) (by omega) (by omega)
    have h6 := h.col (r + 1) (c + 1) (by omega) h3 (by omega) (by omega)
    omega
end Go.Am.Pu
end
section
/- A slide's end and its start. Plain words. -/
namespace Go.Am.Pu
theorem u4 {p : List Int} (hp : cm p = true) (r : Nat) : p.getD (r + 1) 0 ≤ p.getD r 0 := by
  by_cases h : r + 1 < p.length
  · exact nW hp r h
  · rw [cH (by omega)]
    have := (fh hp r).1
    rw [dO] at this
    exact this
theorem qq {p : List Int} {n : Nat} (hp : cm p = true) (hn : n < p.length) (hc : p.getD (n + 1) 0 < p.getD n 0) (r : Nat) : (bS p n).getD r 0 = if r = n then p.getD n 0 - 1 else p.getD r 0 := by
  unfold bS
  by_cases h : p.getD n 0 - 1 = 0
  · rw [if_pos h]
    have h0 := (fh hp (n + 1 : Nat)).1
    rw [dO] at h0
    have hl : p.length ≤ n + 1 := by
      refine Nat.le_of_not_lt fun hlt => ?_
      have := (cw hp).1 _ (List.getElem_mem hlt)
      rw [← aW hlt 0] at this
      omega
    by_cases e : r = n
    · subst e
      rw [if_pos rfl, h, cH (by rw [List.length_take]; omega)]
    · rw [if_neg e]
      by_cases e2 : r < n
      · rw [aW (by rw [List.length_take]; omega), List.getElem_take, aW (by omega)]
      · rw [cH (by rw [List.length_take]; omega), cH (by omega)]
  · rw [if_neg h]
    by_cases e : r = n
    · subst e
      rw [if_pos rfl, aW (by rw [List.length_set]; exact hn), List.getElem_set_self]
    · rw [if_neg e, getD_set_ne (Ne.symm e)]
structure zi (t : Tab) : Prop where
  q0 : ∀ r, 0 ≤ t.1.getD r 0
  qm : ∀ r, t.1.getD (r + 1) 0 ≤ t.1.getD r 0
  lm : ∀ r, ((iI t).getD (r + 1) []).length ≤ ((iI t).getD r []).length
  num : ∀ r x : Nat, t.1.getD r 0 ≤ x → x < ((iI t).getD r []).length → 1 ≤ cel (iI t) r x ∧ cel (iI t) r x ≤ 9
  row : ∀ r x : Nat, t.1.getD r 0 ≤ x → x + 1 < ((iI t).getD r []).length → cel (iI t) r x ≤ cel (iI t) r (x + 1)
  col : ∀ r x : Nat, t.1.getD r 0 ≤ x → x < ((iI t).getD (r + 1) []).length → cel (iI t) r x < cel (iI t) (r + 1) x
end Go.Am.Pu
end
section
/- A tableau cell by cell; a slide's start. Plain words. -/
namespace Go.Am.Pu
theorem wv {t : Tab} (h : gP t = true) : cm t.1 = true ∧ cm (outer t) = true ∧ t.1.length ≤ t.2.length ∧ (∀ i k, i < t.2.length → k < (t.2.getD i []).length → e9 t i k = true) := by
  simp only [gP, cG, cY, Bool.and_eq_true, decide_eq_true_eq] at h
  obtain ⟨⟨h1, h2, h3, h4, h5⟩, h6⟩ := h
  refine ⟨h1, h4, h2, fun i k hi hk => ?_⟩
  rw [eG] at h6
  have := h6 i hi
  rw [eG] at this
  exact this k hk
end Go.Am.Pu
end
section
/- A partition less a box; the tableau that a slide leaves. Plain words. -/
namespace Go.Am.Pu
theorem nB : ∀ (p : List Int) (prev s : Int), (∀ x ∈ p, 1 ≤ x) → (0 < p.length → p.getD 0 0 ≤ prev) → (∀ i, i + 1 < p.length → p.getD (i + 1) 0 ≤ p.getD i 0) → s + eY p ≤ 9 → eP p prev s = true
  | [], _, _, _, _, _, _ => rfl
  | x :: xs, prev, s, h1, h2, h3, h4 => by
    have hs : ∀ (l : List Int), (∀ y ∈ l, 1 ≤ y) → 0 ≤ eY l := by
      intro l
      induction l with
      | nil => intro _; simp [eY]
      | cons y l ih =>
        intro h
        have a := h y List.mem_cons_self
        have b := ih (fun z hz => h z (List.mem_cons_of_mem _ hz))
        simp only [eY]; omega
    have hx := h1 x List.mem_cons_self
    have hxs := hs xs (fun z hz => h1 z (List.mem_cons_of_mem _ hz))
    have h2' := h2 (by simp)
    simp only [List.getD_cons_zero] at h2'
    simp only [eY] at h4
    have ih := nB xs x (s + x) (fun z hz => h1 z (List.mem_cons_of_mem _ hz)) (fun hl => by have := h3 0 (by simpa using hl); simpa using this) (fun i hi => by have := h3 (i + 1) (by simpa using hi); simpa using this) (by omega)
    simp only [eP, Bool.and_eq_true, decide_eq_true_eq]
    exact ⟨hx, h2', by omega, ih⟩
theorem pn : ∀ (p : List Int) (n : Nat) (v : Int), n < p.length → eY (p.set n v) = eY p - p.getD n 0 + v
  | [], n, v, h => by simp at h
  | x :: xs, 0, v, _ => by simp [eY]; omega
  | x :: xs, n + 1, v, h => by
    have := pn xs n v (by simpa using h)
    simp only [List.set_cons_succ, eY, List.getD_cons_succ, this]
    omega
theorem sj : ∀ (p : List Int) (n : Nat), p.length = n + 1 → eY (p.take n) = eY p - p.getD n 0
  | [], n, h => by simp at h
  | [x], 0, _ => by simp [eY]
  | x :: xs, n + 1, h => by
    have := sj xs n (by simpa using h)
    simp only [List.take_succ_cons, eY, List.getD_cons_succ, this]
    omega
  | x :: y :: xs, 0, h => by simp at h
theorem rL {p : List Int} {n : Nat} (hp : cm p = true) (hc : p.getD (n + 1) 0 < p.getD n 0) (h : p.getD n 0 - 1 = 0) : p.length ≤ n + 1 := by
  have h0 := (fh hp (n + 1 : Nat)).1
  rw [dO] at h0
  refine Nat.le_of_not_lt fun hlt => ?_
  have := (cw hp).1 _ (List.getElem_mem hlt)
  rw [← aW hlt 0] at this
  omega
theorem xe {p : List Int} {n : Nat} (hp : cm p = true) (hn : n < p.length) (hc : p.getD (n + 1) 0 < p.getD n 0) {i : Nat} (hi : i < (bS p n).length) : 1 ≤ (bS p n).getD i 0 := by
  rw [qq hp hn hc]
  have hl := uw p n
  have h1 : ∀ i, i < p.length → 1 ≤ p.getD i 0 := fun i hi => by
    rw [aW hi]
    exact ((cw hp).1 _ (List.getElem_mem hi)).1
  by_cases h : p.getD n 0 - 1 = 0
  · unfold bS at hi
    rw [if_pos h, List.length_take] at hi
    rw [if_neg (by omega)]
    exact h1 i (by omega)
  · have a := h1 n hn
    have b := h1 i (by omega)
    split <;> omega
theorem wq {p : List Int} {n : Nat} (hp : cm p = true) (hn : n < p.length) (hc : p.getD (n + 1) 0 < p.getD n 0) : cm (bS p n) = true := by
  have hs := cw hp
  have hg := qq hp hn hc
  have hpn : 1 ≤ p.getD n 0 := by
    rw [aW hn]
    exact (hs.1 _ (List.getElem_mem hn)).1
  refine nB _ _ _ (fun x hx => ?_) (fun _ => ?_) (fun i _ => ?_) ?_
  · obtain ⟨i, hi, rfl⟩ := List.getElem_of_mem hx
    rw [← aW hi 0]
    exact xe hp hn hc hi
  · rw [hg]
    have : ∀ i, p.getD i 0 ≤ 9 := fun i => by
      have := (fh hp i).2
      rw [dO] at this
      exact this
    have a := this 0
    have b := this n
    split <;> omega
  · rw [hg, hg]
    have := u4 hp i
    by_cases e : i = n
    · subst e
      rw [if_neg (by omega), if_pos rfl]; omega
    · rw [if_neg e]
      by_cases e2 : i + 1 = n
      · subst e2; rw [if_pos rfl]; omega
      · rw [if_neg e2]; exact this
  · have h9 := hs.2.1
    unfold bS
    split
    · next h =>
      have hl := rL hp hc h
      rw [sj p n (by omega)]
      omega
    · rw [pn p n _ hn]
      omega
def eX (q : List Int) (g : List (List Int)) (n : Nat) : List (List Int) := (List.range' 0 n).map fun r => (g.getD r []).drop (q.getD r 0).toNat
theorem jO (q : List Int) (g : List (List Int)) (n : Nat) : (eX q g n).length = n := by simp [eX]
theorem mj {q : List Int} {g : List (List Int)} {n r : Nat} (h : r < n) : (eX q g n).getD r [] = (g.getD r []).drop (q.getD r 0).toNat := by
  rw [aW (by rw [jO]; exact h)]
  simp [eX]
def mN (g : List (List Int)) (i c : Nat) : List (List Int) := g.set i ((g.getD i []).take c)
end Go.Am.Pu
namespace Go.Am.Pu
end Go.Am.Pu
end
section
/- What a slide leaves. Plain words. -/
namespace Go.Am.Pu
theorem vA {g : List (List Int)} {i c r : Nat} (hi : i < g.length) : (mN g i c).getD r [] = if r = i then (g.getD i []).take c else g.getD r [] := by
  unfold mN
  by_cases e : r = i
  · subst e
    rw [if_pos rfl, aW (by rw [List.length_set]; exact hi), List.getElem_set_self]
  · rw [if_neg e, getD_set_ne (Ne.symm e)]
theorem nu (g : List (List Int)) (i c : Nat) : (mN g i c).length = g.length := by unfold mN; rw [List.length_set]
theorem xM {g : List (List Int)} {i c r x : Nat} (hi : i < g.length) (hx : x < ((mN g i c).getD r []).length) : cel (mN g i c) r x = cel g r x := by
  unfold cel
  rw [vA hi] at hx ⊢
  by_cases e : r = i
  · subst e
    rw [if_pos rfl] at hx ⊢
    rw [List.length_take] at hx
    rw [aW (by rw [List.length_take]; exact hx), List.getElem_take]
    exact (aW (by omega) 0).symm
  · rw [if_neg e]
structure wa (t : Tab) (n : Nat) (g : List (List Int)) (i c : Nat) : Prop where
  sl : Sl (bS t.1 n) g i c
  len : g.length = t.2.length
  row : ∀ r, (g.getD r []).length = ((iI t).getD r []).length
  hi : i < (outer t).length
  end_ : (outer t).getD i 0 = c + 1
  cor : (outer t).getD (i + 1) 0 < (outer t).getD i 0
  cutl : ∀ r, (((mN g i c).getD r []).length : Int) = (bS (outer t) i).getD r 0
  ins : ∀ r, (bS t.1 n).getD r 0 ≤ (bS (outer t) i).getD r 0
  rows : cP 9 9 (mN g i c)
end Go.Am.Pu
end
section
/- The square that the reference slides in. Plain words. -/
namespace Go.Am.Pu
structure Sq (s g : List (List Int)) (i c : Nat) : Prop where
  len : s.length = 11
  row : ∀ r, r < 11 → (s.getD r []).length = 11
  at_ : ∀ r x, r < 11 → x < 11 → ¬ (r = i ∧ x = c) → cel s r x = cel g r x
  hole : cel s i c = 0
theorem Sq.step {s g : List (List Int)} {i c i' c' : Nat} (h : Sq s g i c) (hi : i < g.length) (hc : c < (g.getD i []).length) (h1 : i < 11) (h2 : c < 11) (h3 : i' < 11) (h4 : c' < 11) (hne : ¬ (i' = i ∧ c' = c)) (v : Int) :
    Sq (kz (kz s i c v) i' c' 0) (kz g i c v) i' c' := by
  refine ⟨by rw [je, je]; exact h.len, fun r hr => by rw [dD, dD]; exact h.row r hr, fun r x hr hx hn => ?_, ?_⟩
  · rw [iO _ hn]
    by_cases e : r = i ∧ x = c
    · obtain ⟨rfl, rfl⟩ := e
      rw [ky _ (by rw [h.len]; exact h1) (by rw [h.row _ h1]; exact h2), ky _ hi hc]
    · rw [iO _ e, iO _ e]; exact h.at_ r x hr hx e
  · rw [ky _ (by rw [je, h.len]; exact h3) (by rw [dD, h.row _ h3]; exact h4)]
end Go.Am.Pu
end
section
/- What a slide leaves is a tableau. Plain words. -/
namespace Go.Am.Pu
theorem vZ {α : Type} (l : List α) (a x : Nat) (d : α) : (l.drop a).getD x d = l.getD (a + x) d := by
  simp [List.getD_eq_getElem?_getD, List.getElem?_drop]
section
variable {t : Tab} {n : Nat} {g : List (List Int)} {i c : Nat}
theorem wa.cell (E : wa t n g i c) {r k : Nat} (hr : r < (bS (outer t) i).length)
    (hk : k < ((eX (bS t.1 n) (mN g i c) (bS (outer t) i).length).getD r []).length) :
    ((bS t.1 n).getD r 0).toNat + k < (g.getD r []).length ∧ ((((bS t.1 n).getD r 0).toNat + k : Nat) : Int) < (bS (outer t) i).getD r 0 ∧ ¬ (r = i ∧ ((bS t.1 n).getD r 0).toNat + k = c) ∧
      ((eX (bS t.1 n) (mN g i c) (bS (outer t) i).length).getD r []).getD k 0 = cel g r (((bS t.1 n).getD r 0).toNat + k) := by
  have hq := E.sl.q0 r
  rw [mj hr] at hk ⊢
  rw [List.length_drop] at hk
  have hx : ((bS t.1 n).getD r 0).toNat + k < ((mN g i c).getD r []).length := by omega
  have hl := E.cutl r
  have hcut := vA (c := c) (r := r) E.sl.hi
  refine ⟨?_, by omega, fun e => ?_, ?_⟩
  · rw [hcut] at hx
    by_cases e : r = i
    · subst e; rw [if_pos rfl, List.length_take] at hx; omega
    · rw [if_neg e] at hx; exact hx
  · rw [hcut, if_pos e.1, List.length_take] at hx
    omega
  · rw [vZ]
    exact xM E.sl.hi hx
theorem wa.yZ (E : wa t n g i c) {r : Nat} (hr : r < (bS (outer t) i).length) :
    (bS (outer t) i).getD r 0 = (bS t.1 n).getD r 0 + (((eX (bS t.1 n) (mN g i c) (bS (outer t) i).length).getD r []).length : Int) := by
  have hq := E.sl.q0 r
  have hi := E.ins r
  have hl := E.cutl r
  rw [mj hr, List.length_drop]
  omega
end
theorem wV {p : List Int} {n : Nat} (hp : cm p = true) (hn : n < p.length) (hc : p.getD (n + 1) 0 < p.getD n 0) : eY (bS p n) = eY p - 1 := by
  unfold bS
  split
  · next h =>
    have hl := rL hp hc h
    rw [sj p n (by omega)]
    omega
  · rw [pn p n _ hn]
    omega
end Go.Am.Pu
namespace Go.Am.Pu
end Go.Am.Pu
end
section
/- Taking the least number out of a plain tableau; evacuation. Plain words. -/
namespace Go.Am.Pu
theorem wa.out {t : Tab} {n : Nat} {g : List (List Int)} {i c : Nat} (E : wa t n g i c) :
    outer (bS t.1 n, eX (bS t.1 n) (mN g i c) (bS (outer t) i).length) = bS (outer t) i := by
  refine List.ext_getElem (by rw [dk]; exact jO _ _ _) fun r h1 h2 => ?_
  rw [← aW h1 0, ← aW h2 0]
  have h3 : r < (eX (bS t.1 n) (mN g i c) (bS (outer t) i).length).length := by rw [jO]; exact h2
  have := iz (bS t.1 n) (eX (bS t.1 n) (mN g i c) (bS (outer t) i).length) 0 r h3
  rw [Nat.zero_add] at this
  exact this.trans (E.yZ h2).symm
theorem ph {t : Tab} (h : bL t = true) {r : Nat} (hr : r < t.2.length) : 1 ≤ (t.2.getD r []).length := by
  have hl := dG h hr
  have hp := (cw (fW h)).1 ((outer t)[r]'(by rw [dk]; exact hr)) (List.getElem_mem _)
  rw [aW (by rw [dk]; exact hr)] at hl
  omega
theorem nS {t : Tab} (h : bL t = true) : eY (outer t) = t.2.flatten.length := by
  unfold outer
  exact oe t.1 t.2 0 fun q _ => by rw [dJ h]; rfl
end Go.Am.Pu
end
section
/- Promotion. Plain words. -/
namespace Go.Am.Pu
def Small (rs : List (List Int)) : Prop := ∀ i q, -100 ≤ (rs.getD i []).getD q 0 ∧ (rs.getD i []).getD q 0 ≤ 100
end Go.Am.Pu
end
section
/- Slides undone. Plain words. -/
namespace Go.Am.Pu
def leftOf (g : List (List Int)) (i c : Nat) : Int := if c = 0 then 0 else cel g i (c - 1)
def xE (g : List (List Int)) (i c : Nat) : Int := if i = 0 then 0 else cel g (i - 1) c
def pK : Nat → List (List Int) → Nat → Nat → List (List Int) × (Nat × Nat)
  | 0, g, i, c => (g, (i, c))
  | m + 1, g, i, c => if leftOf g i c = 0 ∧ xE g i c = 0 then (g, (i, c))
    else if leftOf g i c ≤ xE g i c then pK m (kz g i c (xE g i c)) (i - 1) c
    else pK m (kz g i c (leftOf g i c)) i (c - 1)
structure Ag (f : Int → Int) (g h : List (List Int)) (i c : Nat) : Prop where
  len : h.length = g.length
  row : ∀ r, (h.getD r []).length = (g.getD r []).length
  at_ : ∀ r x, ¬ (r = i ∧ x = c) → cel h r x = f (cel g r x)
def Inn (q : List Int) (g : List (List Int)) : Prop := ∀ r x : Nat, (x : Int) < q.getD r 0 → cel g r x = 0
theorem Inn.step {q : List Int} {g : List (List Int)} {i c : Nat} (h : Inn q g) (hq : q.getD i 0 ≤ c) (v : Int) : Inn q (kz g i c v) := by
  intro r x hx
  by_cases e : r = i ∧ x = c
  · obtain ⟨rfl, rfl⟩ := e; omega
  · rw [iO _ e]; exact h r x hx
theorem Ag.right {f : Int → Int} {q : List Int} {g h : List (List Int)} {i c : Nat} (hs : Sl q g i c) (hi : Inn q g) (hf : ∀ a b x y, cel g a b < cel g x y → f (cel g a b) < f (cel g x y)) (f0 : f 0 = 0)
    (hr : cel g i (c + 1) ≠ 0) (ha : Ag f (kz g i c (cel g i (c + 1))) h i (c + 1)) :
    ∃ h', Ag f g h' i c ∧ ∀ m, pK (m + 1) h i (c + 1) = pK m h' i c := by
  obtain ⟨b1, b2⟩ := xb hr
  have f0' : ∀ a b, cel g a b = 0 → f (cel g a b) = 0 := fun a b e => by rw [e]; exact f0
  have hl : leftOf h i (c + 1) = f (cel g i (c + 1)) := by
    unfold leftOf
    rw [if_neg (by omega), show c + 1 - 1 = c by omega, ha.at_ i c (by omega), ky _ hs.hi hs.hc]
  have hpos : 0 < f (cel g i (c + 1)) := by
    have hp := hs.pos i (c + 1)
    have e : cel g g.length 0 = 0 := by unfold cel; rw [cH (Nat.le_refl _)]; rfl
    have := hf g.length 0 i (c + 1) (by omega)
    rw [e, f0] at this
    exact this
  have hu : xE h i (c + 1) < f (cel g i (c + 1)) := by
    unfold xE
    by_cases e : i = 0
    · rw [if_pos e]; exact hpos
    · rw [if_neg e, ha.at_ _ _ (by omega), iO _ (by omega)]
      by_cases hq : q.getD (i - 1) 0 ≤ ((c + 1 : Nat) : Int)
      · have hc := hs.col (i - 1) (c + 1) hq (by rw [show i - 1 + 1 = i by omega]; exact b2) (by omega) (by omega)
        rw [show i - 1 + 1 = i by omega] at hc
        exact hf _ _ _ _ hc
      · rw [f0' _ _ (hi (i - 1) (c + 1) (by omega))]; exact hpos
  have hhi : i < h.length := by rw [ha.len, je]; exact b1
  have hhc : c + 1 < (h.getD i []).length := by rw [ha.row, dD]; exact b2
  refine ⟨kz h i (c + 1) (leftOf h i (c + 1)), ⟨by rw [je, ha.len, je], fun r => by rw [dD, ha.row, dD], fun r x hn => ?_⟩, fun m => ?_⟩
  · by_cases e : r = i ∧ x = c + 1
    · obtain ⟨rfl, rfl⟩ := e
      rw [ky _ hhi hhc, hl]
    · rw [iO _ e, ha.at_ r x e, iO _ hn]
  · conv => lhs; unfold pK
    rw [if_neg (by omega), if_neg (by omega)]
    rfl
def Occ (q : List Int) (v : Int) (g : List (List Int)) (i c : Nat) : Prop := ∃ r x : Nat, ¬ (r = i ∧ x = c) ∧ x < (g.getD r []).length ∧ q.getD r 0 ≤ x ∧ cel g r x = v
theorem Occ.step {q : List Int} {v : Int} {g : List (List Int)} {i c a b : Nat} (h : Occ q v g i c) (hi : i < g.length) (hc : c < (g.getD i []).length) (hq : q.getD i 0 ≤ c) (hne : ¬ (a = i ∧ b = c)) : Occ q v (kz g i c (cel g a b)) a b := by
  obtain ⟨r, x, h1, h2, h3, h4⟩ := h
  by_cases e : r = a ∧ x = b
  · obtain ⟨rfl, rfl⟩ := e
    exact ⟨i, c, fun e => hne ⟨e.1.symm, e.2.symm⟩, by rw [dD]; exact hc, hq, by rw [ky _ hi hc]; exact h4⟩
  · exact ⟨r, x, e, by rw [dD]; exact h2, h3, by rw [iO _ h1]; exact h4⟩
end Go.Am.Pu
end
section
/- Promotion of a standard tableau is standard, of the same shape, and can be undone. Plain words. -/
namespace Go.Am.Pu
theorem td {t : Tab} (h0 : t.1 = []) (hp : cm (outer t) = true) (hn : ∀ r x, r < t.2.length → x < (t.2.getD r []).length → 1 ≤ cel t.2 r x ∧ cel t.2 r x ≤ 9)
    (hr : ∀ r x, r < t.2.length → x + 1 < (t.2.getD r []).length → cel t.2 r x ≤ cel t.2 r (x + 1)) (hc : ∀ r x, r + 1 < t.2.length → x < (t.2.getD (r + 1) []).length → cel t.2 r x < cel t.2 (r + 1) x) : bL t = true := by
  simp only [bL, gP, cG, cY, Bool.and_eq_true, decide_eq_true_eq, h0]
  refine ⟨⟨⟨rfl, by simp, rfl, hp, by simp, ?_⟩, ?_⟩, rfl⟩
  · rw [eG]
    intro i hi
    simp at hi
  · rw [eG]
    intro r hr'
    rw [eG]
    intro k hk
    simp only [e9, within, Bool.and_eq_true, Bool.or_eq_true, decide_eq_true_eq]
    refine ⟨hn r k hr' hk, ?_, ?_⟩
    · by_cases e : k = 0
      · exact .inl e
      · right
        have := hr r (k - 1) hr' (by omega)
        rw [show k - 1 + 1 = k by omega] at this
        exact this
    · by_cases e : r = 0
      · exact .inl e
      · right
        have := hc (r - 1) k (by omega) (by rw [show r - 1 + 1 = r by omega]; exact hk)
        rw [show r - 1 + 1 = r by omega] at this
        rw [show (r : Int) - 1 = ((r - 1 : Nat) : Int) by omega, n0 (by omega), h0]
        simp only [List.getD_nil]
        rw [show (0 : Int) + (k : Int) - 0 = (k : Int) by omega, dO]
        exact this
theorem oq {t : Tab} (h : bL t = true) : (∀ r x, r < t.2.length → x < (t.2.getD r []).length → 1 ≤ cel t.2 r x ∧ cel t.2 r x ≤ 9) ∧ (∀ r x, r < t.2.length → x + 1 < (t.2.getD r []).length → cel t.2 r x ≤ cel t.2 r (x + 1)) := by
  have h' := h
  simp only [bL, Bool.and_eq_true] at h'
  obtain ⟨_, _, _, hc⟩ := wv h'.1
  refine ⟨fun r x hr hx => ?_, fun r x hr hx => ?_⟩
  · have := hc r x hr hx
    simp only [e9, within, Bool.and_eq_true, decide_eq_true_eq] at this
    exact this.1
  · have := hc r (x + 1) hr hx
    simp only [e9, within, Bool.and_eq_true, Bool.or_eq_true, decide_eq_true_eq] at this
    exact this.2.1.resolve_left (by omega)
theorem lP {rs : List (List Int)} {r x : Nat} (hr : r < rs.length) (hx : x < (rs.getD r []).length) : cel rs r x ∈ rs.flatten := by
  refine List.mem_flatten.2 ⟨rs.getD r [], by rw [aW hr]; exact List.getElem_mem hr, ?_⟩
  unfold cel
  rw [aW hx]
  exact List.getElem_mem hx
theorem vz {rs : List (List Int)} {v : Int} (h : v ∈ rs.flatten) : ∃ r x, r < rs.length ∧ x < (rs.getD r []).length ∧ cel rs r x = v := by
  obtain ⟨l, hl, hv⟩ := List.mem_flatten.1 h
  obtain ⟨r, hr, rfl⟩ := List.getElem_of_mem hl
  obtain ⟨x, hx, rfl⟩ := List.getElem_of_mem hv
  have e := aW hr ([] : List Int)
  refine ⟨r, x, hr, by rw [e]; exact hx, ?_⟩
  unfold cel
  rw [e, aW hx]
theorem mG {t : Tab} (h : bL t = true) (hs : eH t = true) : t.2.flatten.Nodup ∧ (∀ x ∈ t.2.flatten, 1 ≤ x ∧ x ≤ t.2.flatten.length) := by
  simp only [eH, Bool.and_eq_true] at hs
  have h1 := ot hs.1
  obtain ⟨a, b⟩ := (pE fun x hx => (h1 x hx).1).1 hs.2
  exact ⟨a, fun x hx => ⟨(h1 x hx).1, b x hx⟩⟩
end Go.Am.Pu
end
section
/- Promotion keeps shapes and standardness. Plain words. -/
namespace Go.Am.Pu
section
variable {t : Tab}
end
end Go.Am.Pu
end
section
/- Promotion undone: it is one to one. Plain words. -/
namespace Go.Am.Pu
section
variable {t : Tab}
end
end Go.Am.Pu
end
section
/- Orbits of promotion come back. Plain words. -/
namespace Go.Am.Pu
structure Good (t : Tab) : Prop where
  pl : bL t = true
  st : eH t = true
  ne : t.2.flatten.length ≠ 0
end Go.Am.Pu
end
section
/- A slide outwards, as the program has it; demotion. Plain words. -/
namespace Go.Am.Pu
section
variable {u : Tab}
end
end Go.Am.Pu
end
section
/- The last promotion of an orbit; orbits' sizes. Plain words. -/
namespace Go.Am.Pu
def vU (t : Tab) : Prop := t.1 = [] ∧ cP 10 10 t.2
theorem vU.ok {t : Tab} (h : vU t) : kG t := ⟨by rw [h.1]; simp, by have := h.2.1; omega, fun r hr => by have := h.2.2 r hr; omega⟩
theorem vU.size {t : Tab} (h : vU t) : gT t.2 ≤ 100 := by
  have a := pT t.2 10 h.2.2
  have b := h.2.1
  omega
section
attribute [local instance] D.real
variable {α β : Type} {x y v : Option α}
theorem bE {x : Option β} {z : β} {f : β → Option α} (h : x = some z) (g : f z = v) : D.bnd x f = v := by rw [h]; exact g
theorem tN (g : x = v) : D.test (D.no true) y x = v := g
theorem tM (g : y = v) : D.test (D.no false) y x = v := g
theorem tG {p : Prop} [Decidable p] (h : p) (g : x = v) : D.test (decide p) x y = v := by
  show (if decide p = true then x else y) = v
  rw [if_pos (decide_eq_true h)]; exact g
theorem tX {p : Prop} [Decidable p] (h : ¬ p) (g : y = v) : D.test (decide p) x y = v := by
  show (if decide p = true then x else y) = v
  rw [decide_eq_false h]; exact g
theorem tE {a b : Int} (h : a = b) (g : x = v) : D.test (D.no (D.eq a b)) y x = v := by
  show (if (!decide (a = b)) = true then y else x) = v
  rw [decide_eq_true h]; exact g
theorem tB {b : Bool} (g : x = v) : D.test (D.no (D.eqB b b)) y x = v := by
  show (if (!(b == b)) = true then y else x) = v
  rw [beq_self_eq_true]; exact g
end
end Go.Am.Pu
end
section
/- Cells taken out of plain tableaux, one behind another. Plain words. -/
namespace Go.Am.Pu
def oG (rs : List (List Int)) : Prop := ∀ i, i + 1 < rs.length → (rs.getD (i + 1) []).length ≤ (rs.getD i []).length ∧ ∀ q, q < (rs.getD (i + 1) []).length → (rs.getD i []).getD q 0 < (rs.getD (i + 1) []).getD q 0
theorem qK {r : List Int} {y : Int} : ∀ {m q : Nat}, dA r y m = some q → ∀ c, q < c → c < m → y ≤ r.getD c 0
  | 0, q, h, _, _, _ => by simp [dA] at h
  | m + 1, q, h, c, h1, h2 => by
    unfold dA at h
    split at h
    · next hc => injection h with h; omega
    · next hc =>
      by_cases e : c = m
      · subst e; omega
      · exact qK h c h1 (by omega)
theorem nT : ∀ (r : Nat) (rs : List (List Int)) (y : Int), (dZ r rs y).1.length = rs.length ∧ ∀ i, ((dZ r rs y).1.getD i []).length = (rs.getD i []).length
  | 0, _, _ => ⟨rfl, fun _ => rfl⟩
  | r + 1, rs, y => by
    unfold dZ
    split
    · next q hq =>
      obtain ⟨a, b⟩ := nT r (rs.set r ((rs.getD r []).set q y)) ((rs.getD r []).getD q 0)
      refine ⟨by rw [a, List.length_set], fun i => ?_⟩
      rw [b]
      by_cases e : i = r
      · subst e
        by_cases h : i < rs.length
        · rw [aW (by rw [List.length_set]; exact h), List.getElem_set_self, List.length_set]
        · rw [cH (by rw [List.length_set]; omega), cH (xs := rs) (by omega)]
      · rw [getD_set_ne (Ne.symm e)]
    · exact nT r rs y
theorem rT : ∀ (r : Nat) (rs : List (List Int)) (y : Int) (q : Nat), r < rs.length → (∀ i, i + 1 < r → (rs.getD (i + 1) []).length ≤ (rs.getD i []).length ∧ ∀ q, q < (rs.getD (i + 1) []).length → (rs.getD i []).getD q 0 < (rs.getD (i + 1) []).getD q 0) →
    (∀ i, r ≤ i → i + 1 < rs.length → (rs.getD (i + 1) []).length ≤ (rs.getD i []).length ∧ ∀ q, q < (rs.getD (i + 1) []).length → (rs.getD i []).getD q 0 < (rs.getD (i + 1) []).getD q 0) →
    (∀ i, i + 1 = r → (rs.getD r []).length ≤ (rs.getD i []).length ∧ q < (rs.getD i []).length ∧ (rs.getD i []).getD q 0 < y ∧ (∀ c, c < (rs.getD r []).length → c ≠ q → (rs.getD i []).getD c 0 < (rs.getD r []).getD c 0) ∧ (∀ c, q ≤ c → c < (rs.getD r []).length → y < (rs.getD r []).getD c 0)) →
    oG (dZ r rs y).1
  | 0, rs, y, q, hr, _, hB, _ => fun i hi => hB i (Nat.zero_le _) hi
  | r + 1, rs, y, q, hr, hA, hB, hI => by
    obtain ⟨i1, i2, i3, i4, i5⟩ := hI r rfl
    obtain ⟨q0, hq0⟩ := nN i2 i3
    have hmax := qK hq0
    obtain ⟨k1, k2⟩ := lf hq0
    have hqq : q ≤ q0 := Nat.le_of_not_lt fun hlt => by
      have := hmax q hlt i2
      omega
    unfold dZ
    rw [hq0]
    have hrow : (rs.set r ((rs.getD r []).set q0 y)).getD r [] = (rs.getD r []).set q0 y := by
      rw [aW (by rw [List.length_set]; omega), List.getElem_set_self]
    have hne : ∀ i, i ≠ r → (rs.set r ((rs.getD r []).set q0 y)).getD i [] = rs.getD i [] := fun i h => getD_set_ne (Ne.symm h) _ _
    have hset : ∀ c, c ≠ q0 → ((rs.getD r []).set q0 y).getD c 0 = (rs.getD r []).getD c 0 := fun c h => getD_set_ne (Ne.symm h) _ _
    have hself : ((rs.getD r []).set q0 y).getD q0 0 = y := by rw [aW (by rw [List.length_set]; exact k1), List.getElem_set_self]
    refine rT r _ _ q0 (by rw [List.length_set]; omega) (fun i hi => ?_) (fun i hi hl => ?_) (fun i hi => ?_)
    · rw [hne _ (by omega), hne _ (by omega)]
      exact hA i (by omega)
    · rw [List.length_set] at hl
      by_cases e : i = r
      · subst e
        rw [hne (i + 1) (by omega), hrow, List.length_set]
        refine ⟨i1, fun c hc => ?_⟩
        by_cases e2 : c = q0
        · subst e2; rw [hself]; exact i5 c hqq hc
        · rw [hset c e2]
          by_cases e3 : c = q
          · subst e3
            have := i5 c (Nat.le_refl _) hc
            omega
          · exact i4 c hc e3
      · rw [hne (i + 1) (by omega), hne i e]
        exact hB i (by omega) hl
    · subst hi
      obtain ⟨a1, a2⟩ := hA i (by omega)
      rw [hrow, hne i (by omega), List.length_set]
      refine ⟨a1, by omega, a2 q0 k1, fun c hc e => ?_, fun c h1 h2 => ?_⟩
      · rw [hset c e]; exact a2 c hc
      · by_cases e : c = q0
        · subst e; rw [hself]; exact k2
        · rw [hset c e]
          have := hmax c (by omega) h2
          omega
def cr (rs : List (List Int)) (r : Nat) : List (List Int) :=
  if (rs.getD r []).length = 1 then (rs.set r ((rs.getD r []).take ((rs.getD r []).length - 1))).take r else rs.set r ((rs.getD r []).take ((rs.getD r []).length - 1))
def gJ (a b : List (List Int)) : Prop := a.length = b.length ∧ ∀ i, (a.getD i []).length = (b.getD i []).length
theorem fL {α : Type} {l : List α} {n i : Nat} (h : i < n) (d : α) : (l.take n).getD i d = l.getD i d := by
  simp only [List.getD_eq_getElem?_getD, List.getElem?_take, if_pos h]
theorem rk {a b : List (List Int)} (h : gJ a b) (n : Nat) : gJ (a.take n) (b.take n) := by
  refine ⟨by rw [List.length_take, List.length_take, h.1], fun i => ?_⟩
  by_cases hi : i < n
  · rw [fL hi, fL hi]; exact h.2 i
  · rw [cH (xs := a.take n) (by rw [List.length_take]; omega), cH (xs := b.take n) (by rw [List.length_take]; omega)]
theorem sm (rs : List (List Int)) (r : Nat) : gJ (bZ rs r).1 (cr rs r) := by
  have a := nT r (rs.set r ((rs.getD r []).take ((rs.getD r []).length - 1))) ((rs.getD r []).getD ((rs.getD r []).length - 1) 0)
  unfold bZ cr
  simp only
  split
  · exact rk a r
  · exact a
theorem xy {a b : List (List Int)} (h : gJ a b) (r : Nat) : gJ (cr a r) (cr b r) := by
  have hs : gJ (a.set r ((a.getD r []).take ((a.getD r []).length - 1))) (b.set r ((b.getD r []).take ((b.getD r []).length - 1))) := by
    refine ⟨by rw [List.length_set, List.length_set, h.1], fun i => ?_⟩
    by_cases e : i = r
    · subst e
      by_cases hi : i < a.length
      · rw [aW (xs := a.set _ _) (by rw [List.length_set]; exact hi), List.getElem_set_self, aW (xs := b.set _ _) (by rw [List.length_set, ← h.1]; exact hi), List.getElem_set_self, List.length_take, List.length_take, h.2 i]
      · rw [cH (xs := a.set _ _) (by rw [List.length_set]; omega), cH (xs := b.set _ _) (by rw [List.length_set, ← h.1]; omega)]
    · rw [getD_set_ne (Ne.symm e), getD_set_ne (Ne.symm e)]; exact h.2 i
  unfold cr
  rw [h.2 r]
  split
  · rw [← h.2 r] ; rw [h.2 r] at *; exact rk hs r
  · rw [h.2 r] at hs; exact hs
theorem gJ.trans {a b c : List (List Int)} (h : gJ a b) (h' : gJ b c) : gJ a c := ⟨h.1.trans h'.1, fun i => (h.2 i).trans (h'.2 i)⟩
theorem xJ {rs : List (List Int)} (h : oG rs) (n : Nat) : oG (rs.take n) := by
  intro i hi
  rw [List.length_take] at hi
  rw [fL (by omega), fL (by omega)]
  exact h i (by omega)
theorem ui {rs : List (List Int)} {r : Nat} (h : oG rs) (hr : r < rs.length) (hl : 1 ≤ (rs.getD r []).length) (hc : (rs.getD (r + 1) []).length < (rs.getD r []).length) : oG (bZ rs r).1 := by
  have hrow : (rs.set r ((rs.getD r []).take ((rs.getD r []).length - 1))).getD r [] = (rs.getD r []).take ((rs.getD r []).length - 1) := by
    rw [aW (by rw [List.length_set]; exact hr), List.getElem_set_self]
  have hne : ∀ i, i ≠ r → (rs.set r ((rs.getD r []).take ((rs.getD r []).length - 1))).getD i [] = rs.getD i [] := fun i h => getD_set_ne (Ne.symm h) _ _
  have key : oG (dZ r (rs.set r ((rs.getD r []).take ((rs.getD r []).length - 1))) ((rs.getD r []).getD ((rs.getD r []).length - 1) 0)).1 := by
    refine rT r _ _ ((rs.getD r []).length - 1) (by rw [List.length_set]; exact hr) (fun i hi => ?_) (fun i hi hil => ?_) (fun i hi => ?_)
    · rw [hne _ (by omega), hne _ (by omega)]; exact h i (by omega)
    · rw [List.length_set] at hil
      by_cases e : i = r
      · subst e
        rw [hne (i + 1) (by omega), hrow, List.length_take]
        refine ⟨by omega, fun c hc' => ?_⟩
        rw [fL (by omega)]
        exact (h i hil).2 c hc'
      · rw [hne (i + 1) (by omega), hne i e]; exact h i hil
    · subst hi
      obtain ⟨a1, a2⟩ := h i hr
      rw [hrow, hne i (by omega), List.length_take]
      refine ⟨by omega, by omega, a2 _ (by omega), fun c h1 h2 => ?_, fun c h1 h2 => by omega⟩
      rw [fL (by omega)]
      exact a2 c (by omega)
  unfold bZ
  simp only
  split
  · exact xJ key r
  · exact key
end Go.Am.Pu
end
section
/- The greatest number of a standard tableau, and the tableau without it; a pair of tableaux unrolled. Plain words. -/
namespace Go.Am.Pu
section
variable {t : Tab}
theorem qS (h : bL t = true) (hs : eH t = true) {a b x y : Nat} (ha : a < t.2.length) (hx : x < (t.2.getD a []).length) (hb : b < t.2.length) (hy : y < (t.2.getD b []).length) (e : cel t.2 a x = cel t.2 b y) : a = b ∧ x = y := by
  have nd := (mG h hs).1
  rw [List.Nodup, List.pairwise_flatten] at nd
  have mem : ∀ {r z : Nat}, r < t.2.length → (hz : z < (t.2.getD r []).length) → cel t.2 r z ∈ t.2.getD r [] := fun {r z} _ hz => by
    unfold cel
    rw [aW hz]
    exact List.getElem_mem hz
  have ab : ∀ {a b x y : Nat}, a < b → a < t.2.length → x < (t.2.getD a []).length → b < t.2.length → y < (t.2.getD b []).length → cel t.2 a x ≠ cel t.2 b y := fun {a b x y} hab ha hx hb hy => by
    have := List.pairwise_iff_getElem.1 nd.2 a b ha hb hab
    exact this _ (by rw [← aW ha []]; exact mem ha hx) _ (by rw [← aW hb []]; exact mem hb hy)
  have e1 : a = b := by
    rcases Nat.lt_trichotomy a b with hl | hl | hl
    · exact absurd e (ab hl ha hx hb hy)
    · exact hl
    · exact absurd e.symm (ab hl hb hy ha hx)
  subst e1
  refine ⟨rfl, ?_⟩
  have n2 := nd.1 _ (by rw [aW ha]; exact List.getElem_mem ha : t.2.getD a [] ∈ t.2)
  unfold cel at e
  rw [aW hx, aW hy] at e
  rcases Nat.lt_trichotomy x y with hl | hl | hl
  · exact absurd e (List.pairwise_iff_getElem.1 n2 x y hx hy hl)
  · exact hl
  · exact absurd e.symm (List.pairwise_iff_getElem.1 n2 y x hy hx hl)
theorem n6 (h : bL t = true) (hs : eH t = true) {a x : Nat} {v : Int} (ha : a < t.2.length) (hx : x < (t.2.getD a []).length) (e : cel t.2 a x = v) : rowOf t v = a := by
  have hf : t.2.findIdx (fun r => has r v) = a := by
    rw [List.findIdx_eq ha]
    refine ⟨?_, fun j hj => ?_⟩
    · rw [← aW ha [], lR, ← e]
      unfold cel
      rw [aW hx]
      exact List.getElem_mem hx
    · rw [Bool.eq_false_iff]
      intro hc
      rw [lR] at hc
      obtain ⟨y, hy, e2⟩ := List.getElem_of_mem hc
      have hjl : j < t.2.length := by omega
      have hy' : y < (t.2.getD j []).length := by rw [aW hjl]; exact hy
      have e3 : cel t.2 j y = v := by
        unfold cel
        rw [aW hy']
        simp only [aW hjl]
        exact e2
      have := qS h hs hjl hy' ha hx (by rw [e, e3])
      omega
  unfold rowOf uj
  rw [hf, if_pos ha]
theorem xo (h : bL t = true) (hs : eH t = true) (hn : t.2.flatten.length ≠ 0) : ∃ a : Nat, a < t.2.length ∧ 1 ≤ (t.2.getD a []).length ∧ cel t.2 a ((t.2.getD a []).length - 1) = t.2.flatten.length ∧ (t.2.getD (a + 1) []).length < (t.2.getD a []).length ∧ rowOf t t.2.flatten.length = a := by
  have ho : im t.2.flatten = true := by
    have := hs
    simp only [eH, Bool.and_eq_true] at this
    exact this.2
  obtain ⟨a, x, ha, hx, e⟩ := vz (nk.1 ho t.2.flatten.length (jx.2 (by omega)))
  have hb := (mG h hs).2
  obtain ⟨c1, c2⟩ := oq h
  have hx1 : x + 1 = (t.2.getD a []).length := by
    refine Nat.le_antisymm hx (Nat.le_of_not_lt fun hlt => ?_)
    have k1 := c2 a x ha hlt
    have k2 := (hb _ (lP ha hlt)).2
    have := qS h hs ha hx ha hlt (by omega)
    omega
  have hbel : (t.2.getD (a + 1) []).length ≤ x := by
    refine Nat.le_of_not_lt fun hlt => ?_
    have ha1 : a + 1 < t.2.length := Nat.lt_of_not_le fun hle => by rw [cH hle] at hlt; simp at hlt
    have k1 := (mE h a ha1).2 x hlt
    have k2 := (hb _ (lP ha1 hlt)).2
    unfold cel at e k2
    omega
  refine ⟨a, ha, by omega, by rw [show (t.2.getD a []).length - 1 = x by omega]; exact e, by omega, n6 h hs ha hx e⟩
theorem uG {rs : List (List Int)} {a : Nat} (ha : a < rs.length) (hc : (rs.getD (a + 1) []).length < (rs.getD a []).length) (hp : ∀ r, r < rs.length → 1 ≤ (rs.getD r []).length) (r : Nat) : (cr rs a).getD r [] = if r = a then (rs.getD a []).take ((rs.getD a []).length - 1) else rs.getD r [] := by
  have hset : (rs.set a ((rs.getD a []).take ((rs.getD a []).length - 1))).getD r [] = if r = a then (rs.getD a []).take ((rs.getD a []).length - 1) else rs.getD r [] := by
    by_cases e : r = a
    · subst e; rw [if_pos rfl, aW (by rw [List.length_set]; exact ha), List.getElem_set_self]
    · rw [if_neg e, getD_set_ne (Ne.symm e)]
  unfold cr
  split
  · next h1 =>
    by_cases hr : r < a
    · rw [fL hr, hset]
    · rw [cH (by rw [List.length_take]; omega)]
      by_cases e : r = a
      · subst e; rw [if_pos rfl, h1]; rfl
      · rw [if_neg e]
        have hlast : rs.length ≤ a + 1 := Nat.le_of_not_lt fun hlt => by
          have := hp (a + 1) hlt
          omega
        rw [cH (by omega)]
  · exact hset
theorem uP {rs : List (List Int)} {a : Nat} (ha : a < rs.length) : (cr rs a).length = if (rs.getD a []).length = 1 then a else rs.length := by
  unfold cr
  split
  · rw [List.length_take, List.length_set]; omega
  · rw [List.length_set]
theorem xX (h : bL t = true) (hs : eH t = true) {a : Nat} (hn : t.2.flatten.length ≠ 0) (ha : a < t.2.length) (h1 : 1 ≤ (t.2.getD a []).length) (htop : cel t.2 a ((t.2.getD a []).length - 1) = t.2.flatten.length) (hc : (t.2.getD (a + 1) []).length < (t.2.getD a []).length) :
    bL (([], cr t.2 a) : Tab) = true ∧ eH (([], cr t.2 a) : Tab) = true ∧ (cr t.2 a).flatten.length + 1 = t.2.flatten.length ∧ ∀ v, 1 ≤ v → v < (t.2.flatten.length : Int) → rowOf ([], cr t.2 a) v = rowOf t v := by
  have hpos := fun r (hr : r < t.2.length) => ph h hr
  have hrow := uG ha hc hpos
  have hlen := uP ha
  obtain ⟨c1, c2⟩ := oq h
  have c3 := mE h
  have hcorner : (outer t).getD (a + 1) 0 < (outer t).getD a 0 := by
    rw [dG h ha]
    by_cases e : a + 1 < t.2.length
    · rw [dG h e]; omega
    · rw [cH (by rw [dk]; omega)]; omega
  have hal : a < (outer t).length := by rw [dk]; exact ha
  have hout : outer (([], cr t.2 a) : Tab) = bS (outer t) a := by
    have hdl : (bS (outer t) a).length = (cr t.2 a).length := by
      rw [hlen]
      unfold bS
      rw [dG h ha]
      by_cases e : (t.2.getD a []).length = 1
      · rw [if_pos (by omega), if_pos e, List.length_take, dk]; omega
      · rw [if_neg (by omega), if_neg e, List.length_set, dk]
    refine List.ext_getElem (by rw [dk, hdl]) fun r k1 k2 => ?_
    rw [← aW k1 0, ← aW k2 0, qq (fW h) hal hcorner]
    have k3 : r < (cr t.2 a).length := by rw [dk] at k1; exact k1
    have := iz [] (cr t.2 a) 0 r k3
    unfold outer at this ⊢
    rw [this, hrow]
    have hrl : r < t.2.length := by
      rw [hlen] at k3
      split at k3 <;> omega
    have po := dG h hrl
    have pa := dG h ha
    unfold outer at po pa
    by_cases e : r = a
    · subst e
      rw [if_pos rfl, if_pos rfl, List.length_take, pa]
      simp only [List.getD_nil]
      omega
    · rw [if_neg e, if_neg e, po]
      simp only [List.getD_nil]
      omega
  have hcel : ∀ {r x : Nat}, x < ((cr t.2 a).getD r []).length → x < (t.2.getD r []).length ∧ cel (cr t.2 a) r x = cel t.2 r x := fun {r x} hx => by
    unfold cel
    rw [hrow] at hx ⊢
    by_cases e : r = a
    · subst e
      rw [if_pos rfl, List.length_take] at hx
      rw [if_pos rfl, fL (by omega)]
      exact ⟨by omega, rfl⟩
    · rw [if_neg e] at hx ⊢
      exact ⟨hx, rfl⟩
  have hrl : ∀ {r : Nat}, r < (cr t.2 a).length → r < t.2.length := fun {r} hr => by
    rw [hlen] at hr
    split at hr <;> omega
  have hin : ∀ {r x : Nat}, x < (t.2.getD r []).length → ¬ (r = a ∧ x + 1 = (t.2.getD a []).length) → x < ((cr t.2 a).getD r []).length := fun {r x} hx hne => by
    rw [hrow]
    by_cases e : r = a
    · subst e
      rw [if_pos rfl, List.length_take]
      have : ¬ x + 1 = (t.2.getD r []).length := fun e => hne ⟨rfl, e⟩
      omega
    · rw [if_neg e]; exact hx
  have hpl : bL (([], cr t.2 a) : Tab) = true := by
    refine td rfl (by rw [hout]; exact wq (fW h) hal hcorner) (fun r x hr hx => ?_) (fun r x hr hx => ?_) (fun r x hr hx => ?_)
    · obtain ⟨k1, k2⟩ := hcel hx
      rw [k2]; exact c1 r x (hrl hr) k1
    · obtain ⟨k1, k2⟩ := hcel hx
      obtain ⟨_, k4⟩ := hcel (show x < ((cr t.2 a).getD r []).length from Nat.lt_of_succ_lt hx)
      rw [k2, k4]; exact c2 r x (hrl hr) k1
    · obtain ⟨k1, k2⟩ := hcel hx
      have hr1 := hrl hr
      obtain ⟨d1, d2⟩ := c3 r hr1
      have hxr : x < ((cr t.2 a).getD r []).length := by
        refine hin (by omega) fun e => ?_
        rw [e.1] at k1
        omega
      obtain ⟨_, k4⟩ := hcel hxr
      rw [k2, k4]
      exact d2 x k1
  have hfl : (cr t.2 a).flatten.length + 1 = t.2.flatten.length := by
    have e1 := nS hpl
    rw [hout, wV (fW h) hal hcorner, nS h] at e1
    simp only at e1
    omega
  have ho : im t.2.flatten = true := by
    have := hs
    simp only [eH, Bool.and_eq_true] at this
    exact this.2
  have hcells : ∀ v, 1 ≤ v → v < (t.2.flatten.length : Int) → ∃ r x, r < (cr t.2 a).length ∧ x < ((cr t.2 a).getD r []).length ∧ cel (cr t.2 a) r x = v ∧ r < t.2.length ∧ x < (t.2.getD r []).length ∧ cel t.2 r x = v := by
    intro v v1 v2
    obtain ⟨r, x, hr, hx, e⟩ := vz (nk.1 ho v (jx.2 (by omega)))
    have hx' : x < ((cr t.2 a).getD r []).length := by
      refine hin hx fun e2 => ?_
      rw [e2.1, show x = (t.2.getD a []).length - 1 by omega, htop] at e
      omega
    exact ⟨r, x, Nat.lt_of_not_le fun hle => by rw [cH hle] at hx'; simp at hx', hx', by rw [(hcel hx').2]; exact e, hr, hx, e⟩
  have hst : eH (([], cr t.2 a) : Tab) = true := by
    have hp' := hpl
    simp only [bL, Bool.and_eq_true] at hp'
    simp only [eH, Bool.and_eq_true]
    refine ⟨hp'.1, nk.2 fun v hv => ?_⟩
    rw [jx] at hv
    obtain ⟨r, x, q1, q2, q3, _⟩ := hcells v hv.1 (by omega)
    rw [← q3]
    exact lP q1 q2
  refine ⟨hpl, hst, hfl, fun v v1 v2 => ?_⟩
  obtain ⟨r, x, q1, q2, q3, q4, q5, q6⟩ := hcells v v1 v2
  rw [n6 h hs q4 q5 q6, n6 hpl hst q1 q2 q3]
end
def wop (q : Tab) : Nat → List (List Int) → List Int
  | 0, _ => []
  | k + 1, P => wop q k (bZ P (rowOf q ((k + 1 : Nat) : Int)).toNat).1 ++ [(bZ P (rowOf q ((k + 1 : Nat) : Int)).toNat).2]
theorem vJ (q : Tab) : ∀ (k : Nat) (P : List (List Int)), (wop q k P).length = k
  | 0, _ => rfl
  | k + 1, P => by simp [wop, vJ q k]
structure Unr (q : Tab) (k : Nat) (P Q : List (List Int)) : Prop where
  pl : bL (([], Q) : Tab) = true
  st : eH (([], Q) : Tab) = true
  fl : Q.flatten.length = k
  col : oG P
  same : gJ P Q
  p9 : cP 9 9 P
  row : ∀ v, 1 ≤ v → v ≤ (k : Int) → rowOf ([], Q) v = rowOf q v
theorem Unr.step {q : Tab} {k : Nat} {P Q : List (List Int)} (h : Unr q (k + 1) P Q) : ∃ a : Nat, rowOf q ((k + 1 : Nat) : Int) = a ∧ a < Q.length ∧ 1 ≤ (Q.getD a []).length ∧ cel Q a ((Q.getD a []).length - 1) = (k + 1 : Nat) ∧ (Q.getD (a + 1) []).length < (Q.getD a []).length ∧ Unr q k (bZ P a).1 (cr Q a) := by
  have hfl : (([], Q) : Tab).2.flatten.length = k + 1 := h.fl
  obtain ⟨a, a1, a2, a3, a4, a5⟩ := xo h.pl h.st (by omega)
  obtain ⟨b1, b2, b3, b4⟩ := xX h.pl h.st (by omega) a1 a2 a3 a4
  simp only at a1 a2 a3 a4 b3
  have hP1 : a < P.length := by rw [h.same.1]; exact a1
  refine ⟨a, ?_, a1, a2, by rw [a3, h.fl], a4, ⟨b1, b2, by have := h.fl; omega, ui h.col hP1 (by rw [h.same.2]; exact a2) (by rw [h.same.2, h.same.2]; exact a4), (sm P a).trans (xy h.same a), sb h.p9 a, fun v v1 v2 => ?_⟩⟩
  · rw [← h.row _ (by omega) (Int.le_refl _), ← a5, hfl]
  · rw [b4 v v1 (by rw [hfl]; omega)]
    exact h.row v v1 (by omega)
end Go.Am.Pu
namespace Go.Am.Pu
def prs (q : Tab) : Nat → List (List Int) → List (Int × Int)
  | 0, _ => []
  | k + 1, P => (((k + 1 : Nat) : Int), (bZ P (rowOf q ((k + 1 : Nat) : Int)).toNat).2) :: prs q k (bZ P (rowOf q ((k + 1 : Nat) : Int)).toNat).1
theorem sn (q : Tab) : ∀ (k : Nat) (P : List (List Int)), (prs q k P).length = k
  | 0, _ => rfl
  | k + 1, P => by simp [prs, sn q k]
theorem vE (q : Tab) : ∀ (k : Nat) (P : List (List Int)), (prs q k P).reverse.map Prod.snd = wop q k P
  | 0, _ => rfl
  | k + 1, P => by
    unfold prs wop
    rw [List.reverse_cons, List.map_append, vE q k]
    rfl
theorem xw {rs : List (List Int)} (h : oG rs) {n : Nat} (hn : n < rs.length) (hl : 1 ≤ (rs.getD n []).length) : wz n (rs.set n ((rs.getD n []).take ((rs.getD n []).length - 1))) ((rs.getD n []).getD ((rs.getD n []).length - 1) 0) := by
  refine vG n _ _ (fun i hi => ?_) (fun i hi => ?_)
  · rw [getD_set_ne (by omega), getD_set_ne (by omega)]
    exact h i (by omega)
  · subst hi
    rw [getD_set_ne (by omega)]
    obtain ⟨k1, k2⟩ := h i hn
    exact ⟨(rs.getD (i + 1) []).length - 1, by omega, k2 _ (by omega)⟩
theorem q8 {p q : Tab} (hp : bL p = true) (hq : bL q = true) (hs : eH q = true) (ho : outer p = outer q) : Unr q q.2.flatten.length p.2 q.2 := by
  have e : (([], q.2) : Tab) = q := Prod.ext (dJ hq).symm rfl
  have hl : p.2.length = q.2.length := by rw [← dk, ← dk, ho]
  refine ⟨by rw [e]; exact hq, by rw [e]; exact hs, rfl, mE hp, ⟨hl, fun i => ?_⟩, gV hp, fun v _ _ => by rw [e]⟩
  by_cases hi : i < p.2.length
  · have a := dG hp hi
    have b := dG hq (show i < q.2.length by omega)
    rw [ho] at a
    omega
  · rw [cH (xs := p.2) (by omega), cH (xs := q.2) (by omega)]
def fY (p q : Tab) : List Int × Bool := if bL p = true ∧ bL q = true ∧ eH q = true ∧ outer p = outer q then (wop q q.2.flatten.length p.2, true) else ([], false)
theorem pB {p q : Tab} : (fY p q).1.length ≤ 9 := by
  unfold fY
  split
  · next h => rw [vJ]; exact jv h.2.1
  · simp
end Go.Am.Pu
end
