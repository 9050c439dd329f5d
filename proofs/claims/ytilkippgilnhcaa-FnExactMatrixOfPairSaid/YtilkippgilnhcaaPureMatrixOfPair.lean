/- What the functions make of data, as plain words; each holds for all data within the bounds that it names. -/
import Derived.Test.YtilkippgilnhcaaEqsMatrixOfPair
import Derived.Test.YtilkippgilnhcaaPu
set_option linter.unusedSimpArgs false
set_option linter.unusedVariables false
set_option linter.unnecessarySimpa false
set_option linter.unusedSectionVars false
namespace Go.Am.Seat
open Go Go.Am Go.Am.Pu
attribute [local instance] D.real
set_option linter.unusedSimpArgs false
set_option linter.unusedVariables false
set_option maxRecDepth 4000
theorem eL.is {k : Nat} {a : List Int} {b : Int} (hk : 4194304 + 1 ≤ k) (ha : a.length ≤ maxLen) (h1 : 0 ≤ b) (h2 : b ≤ 1048576) : eL k a b = some (if b - a.length < 0 then -1 else b - a.length) := by
  obtain ⟨k, rfl⟩ : ∃ k', k = k' + 1 := ⟨k - 1, by omega⟩
  have ha : a.length ≤ 9223372036854775807 := ha
  rw [eL.eq]
  simp (disch := omega) only [aB, bI, aq, aW, aP, aN, decide_eq_true_eq, Pu.w64]
  split <;> rfl
theorem ck.loop {k : Nat} {a : List (List Int)} (hk : 4194304 + 1 ≤ k) (ha : a.length ≤ 1048576) (hr : ∀ x ∈ a, x.length ≤ maxLen) : ∀ (m j i : Nat) (b : Int), i + m = a.length → m < j → 0 ≤ b → b ≤ 1048576 →
    ∃ r, ck.L0 k j b i a = some r ∧ (0 ≤ r → r ≤ b ∧ ∀ (q : Nat) x, i ≤ q → a[q]? = some x → (x.length : Int) ≤ b)
  | m, 0, i, b, _, hj, _, _ => by omega
  | 0, j + 1, i, b, hi, _, _, _ => by
    rw [ck.bS]
    have e : i = a.length := by omega
    subst e
    exact ⟨b, by simp, fun _ => ⟨Int.le_refl _, fun q x h1 h2 => by have := (List.getElem?_eq_some_iff.1 h2).1; omega⟩⟩
  | m + 1, j + 1, i, b, hi, hj, hb, hb2 => by
    rw [ck.bS]
    have hlt : i < a.length := by omega
    have hx := hr a[i] (List.getElem_mem hlt)
    have hx' : a[i].length ≤ 9223372036854775807 := hx
    have h1 := eL.is (k := k) (a := a[i]) (b := b) (by omega) hx hb hb2
    by_cases hc : b - a[i].length < 0
    · rw [if_pos hc] at h1
      exact ⟨-1, by simp [hlt, h1], fun h => by omega⟩
    · rw [if_neg hc] at h1
      obtain ⟨r, h2, h3⟩ := ck.loop hk ha hr m j (i + 1) (b - a[i].length) (by omega) (by omega) (by omega) (by omega)
      rw [Int.natCast_succ] at h2
      refine ⟨r, by simp (disch := omega) [hlt, h1, hc, Pu.w64, h2], fun h0 => ?_⟩
      obtain ⟨h4, h5⟩ := h3 h0
      refine ⟨by omega, fun q x h6 h7 => ?_⟩
      by_cases e : q = i
      · subst e
        rw [List.getElem?_eq_getElem hlt] at h7
        injection h7 with h7
        subst h7
        omega
      · have := h5 q x (by omega) h7
        omega
theorem ck.is {k : Nat} {a : List (List Int)} {b : Int} (hk : 4194304 + 2 ≤ k) (ha : a.length ≤ maxLen) (hr : ∀ x ∈ a, x.length ≤ maxLen) (h1 : 0 ≤ b) (h2 : b ≤ 1048576) :
    ∃ r, ck k a b = some r ∧ (0 ≤ r → r ≤ b ∧ (a.length : Int) ≤ b ∧ ∀ x ∈ a, (x.length : Int) ≤ b) := by
  obtain ⟨k, rfl⟩ : ∃ k', k = k' + 1 := ⟨k - 1, by omega⟩
  have ha : a.length ≤ 9223372036854775807 := ha
  rw [ck.eq]
  by_cases hc : b - a.length < 0
  · exact ⟨-1, by simp (disch := omega) [Pu.w64, hc], fun h => by omega⟩
  · obtain ⟨r, h3, h4⟩ := ck.loop (k := k) (a := a) (by omega) (by omega) hr a.length k 0 (b - a.length) (by omega) (by omega) (by omega) (by omega)
    rw [Int.natCast_zero] at h3
    refine ⟨r, by simp (disch := omega) [Pu.w64, hc, h3], fun h0 => ?_⟩
    obtain ⟨h5, h6⟩ := h4 h0
    refine ⟨by omega, by omega, fun x hx => ?_⟩
    obtain ⟨q, hq⟩ := List.mem_iff_getElem?.1 hx
    have := h6 q x (by omega) hq
    omega
theorem dA.is {k : Nat} {a : List Int × List (List Int)} {b : Int} (hk : 4194304 + 3 ≤ k) (ha : a.1.length ≤ maxLen) (ha2 : a.2.length ≤ maxLen) (hr : ∀ x ∈ a.2, x.length ≤ maxLen) (h1 : 0 ≤ b) (h2 : b ≤ 1048576) :
    ∃ r, dA k a b = some r ∧ (0 ≤ r → r ≤ b ∧ (a.1.length : Int) ≤ b ∧ (a.2.length : Int) ≤ b ∧ ∀ x ∈ a.2, (x.length : Int) ≤ b) := by
  obtain ⟨k, rfl⟩ : ∃ k', k = k' + 1 := ⟨k - 1, by omega⟩
  rw [dA.eq, eL.is (by omega) ha h1 h2]
  by_cases hc : b - a.1.length < 0
  · exact ⟨-1, by simp [hc], fun h => by omega⟩
  · obtain ⟨r, h3, h4⟩ := ck.is (k := k) (a := a.2) (b := b - a.1.length) (by omega) ha2 hr (by omega) (by omega)
    by_cases hr0 : r < 0
    · exact ⟨-1, by simp [hc, h3, hr0], fun h => by omega⟩
    · refine ⟨r, by simp [hc, h3, hr0], fun h0 => ?_⟩
      obtain ⟨h5, h6, h7⟩ := h4 h0
      refine ⟨by omega, by omega, by omega, fun x hx => ?_⟩
      have := h7 x hx
      omega
theorem cr.loop {k : Nat} {a : List Int} (ha : a.length ≤ 1048576) : ∀ (m j i : Nat), i + m = a.length → m < j → cr.L0 k j i a (a.take i ++ List.replicate (a.length - i) 0) = some a
  | m, 0, i, _, hj => by omega
  | 0, j + 1, i, hi, _ => by
    rw [cr.bS]
    have e : i = a.length := by omega
    subst e
    simp
  | m + 1, j + 1, i, hi, hj => by
    rw [cr.bS]
    have hlt : i < a.length := by omega
    have ih := cr.loop (k := k) ha m j (i + 1) (by omega) (by omega)
    rw [Int.natCast_succ] at ih
    have hl : i < (a.take i ++ List.replicate (a.length - i) (0 : Int)).length := by simp; omega
    have hf := Pu.sT hlt (0 : Int) 0
    simp (disch := omega) only [aB, bI, bK, aZ, aN, aP, aQ, bt, aY, aq, aS, Pu.w64, Int.toNat_natCast, decide_eq_true_eq, Int.ofNat_lt, hlt, hl, if_true, Int.natCast_nonneg, decide_true, hf, ih]
theorem cr.is {k : Nat} {a : List Int} (hk : 4194304 + 1 ≤ k) (ha : a.length ≤ 1048576) : cr k a = some a := by
  obtain ⟨k, rfl⟩ : ∃ k', k = k' + 1 := ⟨k - 1, by omega⟩
  rw [cr.eq]
  have h := cr.loop (k := k) ha a.length k 0 (by omega) (by omega)
  rw [Int.natCast_zero] at h
  simp only [List.take_zero, List.nil_append, Nat.sub_zero] at h
  have hl : a.length ≤ 1099511627776 := by omega
  simp [h, hl]
theorem cl.loop {k : Nat} {a : List (List Int)} (hk : 4194304 + 1 ≤ k) (ha : a.length ≤ 1048576) (hr : ∀ x ∈ a, x.length ≤ 1048576) : ∀ (m j i : Nat), i + m = a.length → m < j → cl.L0 k j i a (a.take i ++ List.replicate (a.length - i) []) = some a
  | m, 0, i, _, hj => by omega
  | 0, j + 1, i, hi, _ => by
    rw [cl.bS]
    have e : i = a.length := by omega
    subst e
    simp
  | m + 1, j + 1, i, hi, hj => by
    rw [cl.bS]
    have hlt : i < a.length := by omega
    have ih := cl.loop (k := k) hk ha hr m j (i + 1) (by omega) (by omega)
    rw [Int.natCast_succ] at ih
    have hl : i < (a.take i ++ List.replicate (a.length - i) ([] : List Int)).length := by simp; omega
    have hf := Pu.sT hlt ([] : List Int) []
    have h1 := cr.is (k := k) (a := a.getD i []) (by omega) (by rw [Pu.ar hlt]; exact hr _ (List.getElem_mem hlt))
    simp (disch := omega) only [aB, bI, bK, aZ, aN, aP, aQ, bt, aY, aq, aS, Pu.w64, Int.toNat_natCast, decide_eq_true_eq, Int.ofNat_lt, hlt, hl, if_true, Int.natCast_nonneg, decide_true, h1, ah, hf, ih]
theorem cl.is {k : Nat} {a : List (List Int)} (hk : 4194304 + 2 ≤ k) (ha : a.length ≤ 1048576) (hr : ∀ x ∈ a, x.length ≤ 1048576) : cl k a = some a := by
  obtain ⟨k, rfl⟩ : ∃ k', k = k' + 1 := ⟨k - 1, by omega⟩
  rw [cl.eq]
  have h := cl.loop (k := k) (by omega) ha hr a.length k 0 (by omega) (by omega)
  rw [Int.natCast_zero] at h
  simp only [List.take_zero, List.nil_append, Nat.sub_zero] at h
  have hl : a.length ≤ 1099511627776 := by omega
  simp [h, hl]
theorem cj.is {k : Nat} {a : List Int × List (List Int)} (hk : 4194304 + 3 ≤ k) (h1 : a.1.length ≤ 1048576) (ha : a.2.length ≤ 1048576) (hr : ∀ x ∈ a.2, x.length ≤ 1048576) : cj k a = some a := by
  obtain ⟨k, rfl⟩ : ∃ k', k = k' + 1 := ⟨k - 1, by omega⟩
  rw [cj.eq, cr.is (by omega) h1, ah, cl.is (by omega) ha hr]
  rfl
theorem dZ.is {k : Nat} {x lo hi : Int} (hk : 1 ≤ k) : dZ k x lo hi = some (Pu.within x lo hi) := by
  obtain ⟨k, rfl⟩ : ∃ k', k = k' + 1 := ⟨k - 1, by omega⟩
  rw [dZ.eq]
  by_cases h : lo ≤ x <;> simp [Pu.within, h]
theorem aX.loop {k : Nat} {p : List Int} (hk : 4194304 ≤ k) (hp : p.length ≤ 1048576) : ∀ (m j i : Nat) (s v : Int), i + m = p.length → m < j → (i = 0 → v = 9) → (0 < i → v = p.getD (i - 1) 0) → v ≤ 9 → 0 ≤ s → s ≤ 9 →
    aX.L0 k j s i p = some (Pu.fj (p.drop i) v s)
  | m, 0, i, s, v, _, hj, _, _, _, _, _ => by omega
  | 0, j + 1, i, s, v, hi, _, _, _, _, _, _ => by
    rw [aX.bS]
    have e : i = p.length := by omega
    subst e
    simp [Pu.fj]
  | m + 1, j + 1, i, s, v, hi, hj, h0, h1, hv, hs, hs9 => by
    rw [aX.bS]
    have hlt : i < p.length := by omega
    have hj1 : ∀ x : Int, x = p.getD i 0 → 1 ≤ x → x ≤ v → aX.J1 k j s i p = some (decide (s + x ≤ 9) && Pu.fj (p.drop (i + 1)) x (s + x)) := by
      intro x hx hx1 hx2
      rw [aX.gH]
      simp (disch := omega) only [↓aB, bI, bK, aZ, bj, bn, aN, aP, aQ, bt, aY, bg, aG, aH, bc, aq, aS, aW, bL, bO, bm, bk, ah, Pu.w64, Int.toNat_natCast, decide_eq_true_eq, Int.ofNat_lt, Int.ofNat_le, if_true, if_false, Int.natCast_nonneg, decide_true, decide_false, Bool.not_true, Bool.not_false, Bool.false_eq_true, Bool.not_eq_true, Bool.true_and, Bool.and_true, Bool.false_and, Bool.and_false, hlt, ← hx]
      by_cases c : 9 < s + x
      · have : ¬ s + x ≤ 9 := by omega
        simp [c, this]
      · have c' : s + x ≤ 9 := by omega
        have ih := aX.loop hk hp m j (i + 1) (s + x) x (by omega) (by omega) (by omega) (by simp [hx]) (by omega) (by omega) c'
        rw [Int.natCast_succ] at ih
        simp [c, c', ih]
    rw [Pu.drop_cons hlt 0]
    simp (disch := omega) only [↓aB, bI, bK, aZ, bj, bn, aN, aP, aQ, bt, aY, bg, aG, aH, bc, aq, aS, aW, bL, bO, bm, bk, ah, Pu.w64, Int.toNat_natCast, decide_eq_true_eq, Int.ofNat_lt, Int.ofNat_le, if_true, if_false, Int.natCast_nonneg, decide_true, decide_false, Bool.not_true, Bool.not_false, Bool.false_eq_true, Bool.not_eq_true, Bool.true_and, Bool.and_true, Bool.false_and, Bool.and_false, hlt, dZ.is, Pu.fj]
    generalize hx : p.getD i 0 = x at *
    unfold Pu.within
    by_cases c1 : 1 ≤ x
    · by_cases c2 : x ≤ v
      · have c3 : x ≤ 9 := by omega
        have hj := hj1 x rfl c1 c2
        by_cases hi0 : i = 0
        · have hpos : ¬ (0 : Int) < i := by omega
          simp (disch := omega) only [↓aB, bI, bK, aZ, bj, bn, aN, aP, aQ, bt, aY, bg, aG, aH, bc, aq, aS, aW, bL, bO, bm, bk, ah, Pu.w64, Int.toNat_natCast, decide_eq_true_eq, Int.ofNat_lt, Int.ofNat_le, if_true, if_false, Int.natCast_nonneg, decide_true, decide_false, Bool.not_true, Bool.not_false, Bool.false_eq_true, Bool.not_eq_true, Bool.true_and, Bool.and_true, Bool.false_and, Bool.and_false, c1, c2, c3, hpos, hj]
        · have hv' := h1 (by omega)
          have e : ((i : Int) - 1) = ((i - 1 : Nat) : Int) := by omega
          have hlt' : i - 1 < p.length := by omega
          have hge : ¬ p.getD (i - 1) 0 < x := by rw [← hv']; omega
          have hpos : (0 : Int) < i := by omega
          simp (disch := omega) only [e, ↓aB, bI, bK, aZ, bj, bn, aN, aP, aQ, bt, aY, bg, aG, aH, bc, aq, aS, aW, bL, bO, bm, bk, ah, Pu.w64, Int.toNat_natCast, decide_eq_true_eq, Int.ofNat_lt, Int.ofNat_le, if_true, if_false, Int.natCast_nonneg, decide_true, decide_false, Bool.not_true, Bool.not_false, Bool.false_eq_true, Bool.not_eq_true, Bool.true_and, Bool.and_true, Bool.false_and, Bool.and_false, hlt', c1, c2, c3, hj, hpos, hge]
      · simp only [c1, c2, ↓aB, bI, bK, aZ, bj, bn, aN, aP, aQ, bt, aY, bg, aG, aH, bc, aq, aS, aW, bL, bO, bm, bk, ah, Pu.w64, Int.toNat_natCast, decide_eq_true_eq, Int.ofNat_lt, Int.ofNat_le, if_true, if_false, Int.natCast_nonneg, decide_true, decide_false, Bool.not_true, Bool.not_false, Bool.false_eq_true, Bool.not_eq_true, Bool.true_and, Bool.and_true, Bool.false_and, Bool.and_false]
        by_cases c3 : x ≤ 9
        · have hi0 : 0 < i := by
            rcases Nat.eq_zero_or_pos i with h | h
            · have := h0 h; omega
            · exact h
          have hv' := h1 hi0
          have e : ((i : Int) - 1) = ((i - 1 : Nat) : Int) := by omega
          have hlt' : i - 1 < p.length := by omega
          have hge : p.getD (i - 1) 0 < x := by rw [← hv']; omega
          have hpos : (0 : Int) < i := by omega
          simp (disch := omega) only [e, ↓aB, bI, bK, aZ, bj, bn, aN, aP, aQ, bt, aY, bg, aG, aH, bc, aq, aS, aW, bL, bO, bm, bk, ah, Pu.w64, Int.toNat_natCast, decide_eq_true_eq, Int.ofNat_lt, Int.ofNat_le, if_true, if_false, Int.natCast_nonneg, decide_true, decide_false, Bool.not_true, Bool.not_false, Bool.false_eq_true, Bool.not_eq_true, Bool.true_and, Bool.and_true, Bool.false_and, Bool.and_false, hlt', c3, hpos, hge]
        · simp only [c3, ↓aB, bI, bK, aZ, bj, bn, aN, aP, aQ, bt, aY, bg, aG, aH, bc, aq, aS, aW, bL, bO, bm, bk, ah, Pu.w64, Int.toNat_natCast, decide_eq_true_eq, Int.ofNat_lt, Int.ofNat_le, if_true, if_false, Int.natCast_nonneg, decide_true, decide_false, Bool.not_true, Bool.not_false, Bool.false_eq_true, Bool.not_eq_true, Bool.true_and, Bool.and_true, Bool.false_and, Bool.and_false]
    · simp only [c1, ↓aB, bI, bK, aZ, bj, bn, aN, aP, aQ, bt, aY, bg, aG, aH, bc, aq, aS, aW, bL, bO, bm, bk, ah, Pu.w64, Int.toNat_natCast, decide_eq_true_eq, Int.ofNat_lt, Int.ofNat_le, if_true, if_false, Int.natCast_nonneg, decide_true, decide_false, Bool.not_true, Bool.not_false, Bool.false_eq_true, Bool.not_eq_true, Bool.true_and, Bool.and_true, Bool.false_and, Bool.and_false]
theorem aX.is {k : Nat} {p : List Int} (hk : 4194304 + 1 ≤ k) (hp : p.length ≤ 1048576) : aX k p = some (Pu.cy p) := by
  obtain ⟨k, rfl⟩ : ∃ k', k = k' + 1 := ⟨k - 1, by omega⟩
  rw [aX.eq]
  exact aX.loop (k := k) (by omega) hp p.length k 0 0 9 (by omega) (by omega) (fun _ => rfl) (by omega) (by omega) (by omega) (by omega)
theorem dg.is {k : Nat} {p : List Int} {i : Int} (hk : 1 ≤ k) : dg k p i = some (Pu.atI p i) := by
  obtain ⟨k, rfl⟩ : ∃ k', k = k' + 1 := ⟨k - 1, by omega⟩
  rw [dg.eq, dg.fF]
  by_cases h1 : i < 0
  · simp only [↓aB, bI, bK, aZ, bj, bn, aN, aP, aQ, bt, aY, bg, aG, aH, bc, aq, aS, aW, bL, bO, bm, bk, ah, Pu.w64, Int.toNat_natCast, decide_eq_true_eq, Int.ofNat_lt, Int.ofNat_le, if_true, if_false, Int.natCast_nonneg, decide_true, decide_false, Bool.not_true, Bool.not_false, Bool.false_eq_true, Bool.not_eq_true, Bool.true_and, Bool.and_true, Bool.false_and, Bool.and_false, h1, Pu.qb h1]
  · by_cases h2 : (p.length : Int) ≤ i
    · simp only [↓aB, bI, bK, aZ, bj, bn, aN, aP, aQ, bt, aY, bg, aG, aH, bc, aq, aS, aW, bL, bO, bm, bk, ah, Pu.w64, Int.toNat_natCast, decide_eq_true_eq, Int.ofNat_lt, Int.ofNat_le, if_true, if_false, Int.natCast_nonneg, decide_true, decide_false, Bool.not_true, Bool.not_false, Bool.false_eq_true, Bool.not_eq_true, Bool.true_and, Bool.and_true, Bool.false_and, Bool.and_false, h1, h2, Pu.wR h2]
    · have h3 : 0 ≤ i := by omega
      have h4 : i.toNat < p.length := by omega
      simp only [↓aB, bI, bK, aZ, bj, bn, aN, aP, aQ, bt, aY, bg, aG, aH, bc, aq, aS, aW, bL, bO, bm, bk, ah, Pu.w64, Int.toNat_natCast, decide_eq_true_eq, Int.ofNat_lt, Int.ofNat_le, if_true, if_false, Int.natCast_nonneg, decide_true, decide_false, Bool.not_true, Bool.not_false, Bool.false_eq_true, Bool.not_eq_true, Bool.true_and, Bool.and_true, Bool.false_and, Bool.and_false, h1, h2, h3, h4, Pu.atI]
theorem bR.loop {k : Nat} {q p : List Int} (hq : q.length ≤ 1048576) (hl : q.length ≤ p.length) (hk : q.length < k) : bR.L1 k k 0 q p = some ((List.range' 0 q.length).all fun i => decide (q.getD i 0 ≤ p.getD i 0)) := by
  have h := Pu.jS (fun j i => bR.L1 k j (i : Int) q p) q.length (fun i => decide (q.getD i 0 ≤ p.getD i 0)) (some false) (some true)
    (fun j i hi => by
      have hi2 : i < p.length := by omega
      rw [bR.dq]
      simp (disch := omega) only [↓aB, bI, bK, aZ, bj, bn, aN, aP, aQ, bt, aY, bg, aG, aH, bc, aq, aS, aW, bL, bO, bm, bk, ah, Pu.w64, Int.toNat_natCast, decide_eq_true_eq, Int.ofNat_lt, Int.ofNat_le, if_true, if_false, Int.natCast_nonneg, decide_true, decide_false, Bool.not_true, Bool.not_false, Bool.false_eq_true, Bool.not_eq_true, Bool.true_and, Bool.and_true, Bool.false_and, Bool.and_false, hi, hi2, Int.natCast_add, Int.natCast_one]
      by_cases c : q.getD i 0 ≤ p.getD i 0
      · have c' : ¬ p.getD i 0 < q.getD i 0 := by omega
        simp only [c, c', ↓aB, bI, bK, aZ, bj, bn, aN, aP, aQ, bt, aY, bg, aG, aH, bc, aq, aS, aW, bL, bO, bm, bk, ah, Pu.w64, Int.toNat_natCast, decide_eq_true_eq, Int.ofNat_lt, Int.ofNat_le, if_true, if_false, Int.natCast_nonneg, decide_true, decide_false, Bool.not_true, Bool.not_false, Bool.false_eq_true, Bool.not_eq_true, Bool.true_and, Bool.and_true, Bool.false_and, Bool.and_false]
      · have c' : p.getD i 0 < q.getD i 0 := by omega
        simp only [c, c', ↓aB, bI, bK, aZ, bj, bn, aN, aP, aQ, bt, aY, bg, aG, aH, bc, aq, aS, aW, bL, bO, bm, bk, ah, Pu.w64, Int.toNat_natCast, decide_eq_true_eq, Int.ofNat_lt, Int.ofNat_le, if_true, if_false, Int.natCast_nonneg, decide_true, decide_false, Bool.not_true, Bool.not_false, Bool.false_eq_true, Bool.not_eq_true, Bool.true_and, Bool.and_true, Bool.false_and, Bool.and_false])
    (fun j => by
      rw [bR.dq]
      simp only [↓aB, bI, bK, aZ, bj, bn, aN, aP, aQ, bt, aY, bg, aG, aH, bc, aq, aS, aW, bL, bO, bm, bk, ah, Pu.w64, Int.toNat_natCast, decide_eq_true_eq, Int.ofNat_lt, Int.ofNat_le, if_true, if_false, Int.natCast_nonneg, decide_true, decide_false, Bool.not_true, Bool.not_false, Bool.false_eq_true, Bool.not_eq_true, Bool.true_and, Bool.and_true, Bool.false_and, Bool.and_false, Nat.lt_irrefl]) q.length k 0 (by omega) hk
  simp only [Int.natCast_zero] at h
  rw [h]
  cases (List.range' 0 q.length).all fun i => decide (q.getD i 0 ≤ p.getD i 0) <;> simp
theorem bR.is {k : Nat} {q p : List Int} (hk : 4194304 + 2 ≤ k) (hq : q.length ≤ 1048576) (hp : p.length ≤ 1048576) : bR k q p = some (Pu.dp q p) := by
  obtain ⟨k, rfl⟩ : ∃ k', k = k' + 1 := ⟨k - 1, by omega⟩
  rw [bR.eq, aX.is (by omega) hq, ah, bR.fF]
  unfold Pu.dp
  cases c1 : Pu.cy q with
  | false => simp only [↓aB, bI, bK, aZ, bj, bn, aN, aP, aQ, bt, aY, bg, aG, aH, bc, aq, aS, aW, bL, bO, bm, bk, ah, Pu.w64, Int.toNat_natCast, decide_eq_true_eq, Int.ofNat_lt, Int.ofNat_le, if_true, if_false, Int.natCast_nonneg, decide_true, decide_false, Bool.not_true, Bool.not_false, Bool.false_eq_true, Bool.not_eq_true, Bool.true_and, Bool.and_true, Bool.false_and, Bool.and_false]
  | true =>
    simp only [↓aB, bI, bK, aZ, bj, bn, aN, aP, aQ, bt, aY, bg, aG, aH, bc, aq, aS, aW, bL, bO, bm, bk, ah, Pu.w64, Int.toNat_natCast, decide_eq_true_eq, Int.ofNat_lt, Int.ofNat_le, if_true, if_false, Int.natCast_nonneg, decide_true, decide_false, Bool.not_true, Bool.not_false, Bool.false_eq_true, Bool.not_eq_true, Bool.true_and, Bool.and_true, Bool.false_and, Bool.and_false]
    rw [aX.is (by omega) hp, ah]
    cases c2 : Pu.cy p with
    | false => simp only [↓aB, bI, bK, aZ, bj, bn, aN, aP, aQ, bt, aY, bg, aG, aH, bc, aq, aS, aW, bL, bO, bm, bk, ah, Pu.w64, Int.toNat_natCast, decide_eq_true_eq, Int.ofNat_lt, Int.ofNat_le, if_true, if_false, Int.natCast_nonneg, decide_true, decide_false, Bool.not_true, Bool.not_false, Bool.false_eq_true, Bool.not_eq_true, Bool.true_and, Bool.and_true, Bool.false_and, Bool.and_false]
    | true =>
      simp only [↓aB, bI, bK, aZ, bj, bn, aN, aP, aQ, bt, aY, bg, aG, aH, bc, aq, aS, aW, bL, bO, bm, bk, ah, Pu.w64, Int.toNat_natCast, decide_eq_true_eq, Int.ofNat_lt, Int.ofNat_le, if_true, if_false, Int.natCast_nonneg, decide_true, decide_false, Bool.not_true, Bool.not_false, Bool.false_eq_true, Bool.not_eq_true, Bool.true_and, Bool.and_true, Bool.false_and, Bool.and_false]
      by_cases c3 : p.length < q.length
      · have c3' : ¬ q.length ≤ p.length := by omega
        simp only [c3, c3', ↓aB, bI, bK, aZ, bj, bn, aN, aP, aQ, bt, aY, bg, aG, aH, bc, aq, aS, aW, bL, bO, bm, bk, ah, Pu.w64, Int.toNat_natCast, decide_eq_true_eq, Int.ofNat_lt, Int.ofNat_le, if_true, if_false, Int.natCast_nonneg, decide_true, decide_false, Bool.not_true, Bool.not_false, Bool.false_eq_true, Bool.not_eq_true, Bool.true_and, Bool.and_true, Bool.false_and, Bool.and_false]
      · have c3' : q.length ≤ p.length := by omega
        simp only [c3, c3', ↓aB, bI, bK, aZ, bj, bn, aN, aP, aQ, bt, aY, bg, aG, aH, bc, aq, aS, aW, bL, bO, bm, bk, ah, Pu.w64, Int.toNat_natCast, decide_eq_true_eq, Int.ofNat_lt, Int.ofNat_le, if_true, if_false, Int.natCast_nonneg, decide_true, decide_false, Bool.not_true, Bool.not_false, Bool.false_eq_true, Bool.not_eq_true, Bool.true_and, Bool.and_true, Bool.false_and, Bool.and_false]
        exact bR.loop hq c3' (by omega)
theorem fh.is {k : Nat} {s : List Int × List Int} (hk : 4194304 + 3 ≤ k) (hq : s.1.length ≤ 1048576) (hp : s.2.length ≤ 1048576) : fh k s = some (Pu.dp s.2 s.1) := by
  obtain ⟨k, rfl⟩ : ∃ k', k = k' + 1 := ⟨k - 1, by omega⟩
  rw [fh.eq, bR.is (by omega) hp hq]
  rfl
theorem bp.loop {k : Nat} {t : Pu.Tab} {x3 x4 : List Int} (hk : 4194304 + 3 ≤ k) (hi : Pu.cy t.1 = true) (h2 : t.2.length ≤ 9) (hr : ∀ x ∈ t.2, x.length ≤ 1048576) : ∀ (m j i : Nat) (acc : List Int), i + m = t.2.length → m < j → acc.length = i →
    bp.L1 k j i t.1 t.2 x3 x4 acc t.1 = some (if Pu.dp t.1 (acc ++ Pu.dL t.1 i (t.2.drop i)) = true then ((acc ++ Pu.dL t.1 i (t.2.drop i), t.1), true) else (([], []), false))
  | m, 0, i, acc, _, hj, _ => by omega
  | 0, j + 1, i, acc, hm, _, hacc => by
    rw [bp.dq]
    have e : i = t.2.length := by omega
    have h9 := (Pu.cI hi).2.2.1
    have hlt : ¬ i < t.2.length := by omega
    rw [fh.is (by omega) (by simp only; omega) (by simp only; omega), e]
    simp only [↓aB, bI, bK, aZ, bj, bn, aN, aP, aQ, bt, aY, bg, aG, aH, bc, aq, aS, aW, bL, bO, bm, bk, ah, Pu.w64, Int.toNat_natCast, decide_eq_true_eq, Int.ofNat_lt, Int.ofNat_le, if_true, if_false, Int.natCast_nonneg, decide_true, decide_false, Bool.not_true, Bool.not_false, Bool.false_eq_true, Bool.not_eq_true, Bool.true_and, Bool.and_true, Bool.false_and, Bool.and_false, Nat.lt_irrefl, List.drop_length, Pu.dL, List.append_nil]
    cases Pu.dp t.1 acc <;> simp
  | m + 1, j + 1, i, acc, hm, hj, hacc => by
    rw [bp.dq]
    have hlt : i < t.2.length := by omega
    have hb := Pu.fP hi i
    have hrow := hr t.2[i] (List.getElem_mem hlt)
    rw [← Pu.ar hlt []] at hrow
    rw [dg.is (by omega)]
    have ih := bp.loop (x3 := x3) (x4 := x4) hk hi h2 hr m j (i + 1) (acc ++ [Pu.atI t.1 i + (t.2.getD i []).length]) (by omega) (by omega) (by simp [hacc])
    rw [Int.natCast_succ] at ih
    rw [Pu.drop_cons hlt []]
    have hl : (acc ++ [Pu.atI t.1 i + ((t.2.getD i []).length : Int)]).length ≤ 1099511627776 := by simp; omega
    simp (disch := omega) only [↓aB, bI, bK, aZ, bj, bn, aN, aP, aQ, bt, aY, bg, aG, aH, bc, aq, aS, aW, bL, bO, bm, bk, ah, Pu.w64, Int.toNat_natCast, decide_eq_true_eq, Int.ofNat_lt, Int.ofNat_le, if_true, if_false, Int.natCast_nonneg, decide_true, decide_false, Bool.not_true, Bool.not_false, Bool.false_eq_true, Bool.not_eq_true, Bool.true_and, Bool.and_true, Bool.false_and, Bool.and_false, hlt, hl, ih, Pu.dL]
    simp only [List.append_assoc, List.singleton_append, Pu.dM]
    rfl
theorem bp.is {k : Nat} {t : Pu.Tab} (hk : 4194304 + 4 ≤ k) (h1 : t.1.length ≤ 1048576) (h2 : t.2.length ≤ 1048576) (hr : ∀ x ∈ t.2, x.length ≤ 1048576) : bp k t = some (Pu.shapeOf t) := by
  obtain ⟨k, rfl⟩ : ∃ k', k = k' + 1 := ⟨k - 1, by omega⟩
  rw [bp.eq, aX.is (by omega) h1, bp.fF]
  have hl : t.1.length ≤ 1099511627776 := by omega
  simp only [↓aB, bI, bK, aZ, bj, bn, aN, aP, aQ, bt, aY, bg, aG, aH, bc, aq, aS, aW, bL, bO, bm, bk, ah, Pu.w64, Int.toNat_natCast, decide_eq_true_eq, Int.ofNat_lt, Int.ofNat_le, if_true, if_false, Int.natCast_nonneg, decide_true, decide_false, Bool.not_true, Bool.not_false, Bool.false_eq_true, Bool.not_eq_true, Bool.true_and, Bool.and_true, Bool.false_and, Bool.and_false, List.nil_append, hl]
  unfold Pu.shapeOf
  cases c1 : Pu.cy t.1 with
  | false =>
    have : Pu.cQ t = false := by unfold Pu.cQ; rw [c1]; rfl
    simp only [this, ↓aB, bI, bK, aZ, bj, bn, aN, aP, aQ, bt, aY, bg, aG, aH, bc, aq, aS, aW, bL, bO, bm, bk, ah, Pu.w64, Int.toNat_natCast, decide_eq_true_eq, Int.ofNat_lt, Int.ofNat_le, if_true, if_false, Int.natCast_nonneg, decide_true, decide_false, Bool.not_true, Bool.not_false, Bool.false_eq_true, Bool.not_eq_true, Bool.true_and, Bool.and_true, Bool.false_and, Bool.and_false]
  | true =>
    by_cases c2 : t.2.length < t.1.length
    · have : Pu.cQ t = false := by
        have : ¬ t.1.length ≤ t.2.length := by omega
        unfold Pu.cQ; simp [this]
      simp only [this, c2, ↓aB, bI, bK, aZ, bj, bn, aN, aP, aQ, bt, aY, bg, aG, aH, bc, aq, aS, aW, bL, bO, bm, bk, ah, Pu.w64, Int.toNat_natCast, decide_eq_true_eq, Int.ofNat_lt, Int.ofNat_le, if_true, if_false, Int.natCast_nonneg, decide_true, decide_false, Bool.not_true, Bool.not_false, Bool.false_eq_true, Bool.not_eq_true, Bool.true_and, Bool.and_true, Bool.false_and, Bool.and_false]
    · by_cases c3 : 9 < t.2.length
      · have : Pu.cQ t = false := by
          cases h : Pu.cQ t with
          | false => rfl
          | true => have := Pu.u9 h; omega
        have c3' : (9 : Int) < t.2.length := by omega
        simp only [this, c2, c3', ↓aB, bI, bK, aZ, bj, bn, aN, aP, aQ, bt, aY, bg, aG, aH, bc, aq, aS, aW, bL, bO, bm, bk, ah, Pu.w64, Int.toNat_natCast, decide_eq_true_eq, Int.ofNat_lt, Int.ofNat_le, if_true, if_false, Int.natCast_nonneg, decide_true, decide_false, Bool.not_true, Bool.not_false, Bool.false_eq_true, Bool.not_eq_true, Bool.true_and, Bool.and_true, Bool.false_and, Bool.and_false]
      · have c3' : ¬ (9 : Int) < t.2.length := by omega
        have c2' : t.1.length ≤ t.2.length := by omega
        have hloop := bp.loop (k := k) (t := t) (x3 := []) (x4 := []) (by omega) c1 (by omega) hr t.2.length k 0 [] (by omega) (by omega) rfl
        rw [Int.natCast_zero] at hloop
        simp only [c2, c3', ↓aB, bI, bK, aZ, bj, bn, aN, aP, aQ, bt, aY, bg, aG, aH, bc, aq, aS, aW, bL, bO, bm, bk, ah, Pu.w64, Int.toNat_natCast, decide_eq_true_eq, Int.ofNat_lt, Int.ofNat_le, if_true, if_false, Int.natCast_nonneg, decide_true, decide_false, Bool.not_true, Bool.not_false, Bool.false_eq_true, Bool.not_eq_true, Bool.true_and, Bool.and_true, Bool.false_and, Bool.and_false]
        rw [hloop]
        have : Pu.cQ t = Pu.dp t.1 (Pu.outer t) := by unfold Pu.cQ; simp [c1, c2']
        rw [this]
        rfl
theorem bW.is {k : Nat} {t : Pu.Tab} {r c : Int} (hk : 2 ≤ k) (hi : Pu.cy t.1 = true) (h1 : -1000000000 ≤ c) (h2 : c ≤ 1000000000) : bW k t r c = some (Pu.entry t r c) := by
  obtain ⟨k, rfl⟩ : ∃ k', k = k' + 1 := ⟨k - 1, by omega⟩
  have hb := Pu.fP hi r
  rw [bW.eq, bW.fF, dg.is (by omega)]
  unfold Pu.entry
  by_cases c1 : r < 0
  · simp only [↓aB, bI, bK, aZ, bj, bn, aN, aP, aQ, bt, aY, bg, aG, aH, bc, aq, aS, aW, bL, bO, bm, bk, ah, Pu.w64, Int.toNat_natCast, decide_eq_true_eq, Int.ofNat_lt, Int.ofNat_le, if_true, if_false, Int.natCast_nonneg, decide_true, decide_false, Bool.not_true, Bool.not_false, Bool.false_eq_true, Bool.not_eq_true, Bool.true_and, Bool.and_true, Bool.false_and, Bool.and_false, c1]
  · by_cases c2 : (t.2.length : Int) ≤ r
    · simp only [↓aB, bI, bK, aZ, bj, bn, aN, aP, aQ, bt, aY, bg, aG, aH, bc, aq, aS, aW, bL, bO, bm, bk, ah, Pu.w64, Int.toNat_natCast, decide_eq_true_eq, Int.ofNat_lt, Int.ofNat_le, if_true, if_false, Int.natCast_nonneg, decide_true, decide_false, Bool.not_true, Bool.not_false, Bool.false_eq_true, Bool.not_eq_true, Bool.true_and, Bool.and_true, Bool.false_and, Bool.and_false, c1, c2]
    · have c3 : 0 ≤ r := by omega
      have c4 : r.toNat < t.2.length := by omega
      simp (disch := omega) only [↓aB, bI, bK, aZ, bj, bn, aN, aP, aQ, bt, aY, bg, aG, aH, bc, aq, aS, aW, bL, bO, bm, bk, ah, Pu.w64, Int.toNat_natCast, decide_eq_true_eq, Int.ofNat_lt, Int.ofNat_le, if_true, if_false, Int.natCast_nonneg, decide_true, decide_false, Bool.not_true, Bool.not_false, Bool.false_eq_true, Bool.not_eq_true, Bool.true_and, Bool.and_true, Bool.false_and, Bool.and_false, c1, c2, c3, c4]
      by_cases d1 : c - Pu.atI t.1 r < 0
      · simp only [↓aB, bI, bK, aZ, bj, bn, aN, aP, aQ, bt, aY, bg, aG, aH, bc, aq, aS, aW, bL, bO, bm, bk, ah, Pu.w64, Int.toNat_natCast, decide_eq_true_eq, Int.ofNat_lt, Int.ofNat_le, if_true, if_false, Int.natCast_nonneg, decide_true, decide_false, Bool.not_true, Bool.not_false, Bool.false_eq_true, Bool.not_eq_true, Bool.true_and, Bool.and_true, Bool.false_and, Bool.and_false, d1, Pu.qb d1]
      · by_cases d2 : ((t.2.getD r.toNat []).length : Int) ≤ c - Pu.atI t.1 r
        · simp only [↓aB, bI, bK, aZ, bj, bn, aN, aP, aQ, bt, aY, bg, aG, aH, bc, aq, aS, aW, bL, bO, bm, bk, ah, Pu.w64, Int.toNat_natCast, decide_eq_true_eq, Int.ofNat_lt, Int.ofNat_le, if_true, if_false, Int.natCast_nonneg, decide_true, decide_false, Bool.not_true, Bool.not_false, Bool.false_eq_true, Bool.not_eq_true, Bool.true_and, Bool.and_true, Bool.false_and, Bool.and_false, d1, d2, Pu.wR d2]
        · have d3 : 0 ≤ c - Pu.atI t.1 r := by omega
          have d4 : (c - Pu.atI t.1 r).toNat < (t.2.getD r.toNat []).length := by omega
          rw [bW.gH]
          generalize c - Pu.atI t.1 r = z at *
          simp only [↓aB, bI, bK, aZ, bj, bn, aN, aP, aQ, bt, aY, bg, aG, aH, bc, aq, aS, aW, bL, bO, bm, bk, ah, Pu.w64, Int.toNat_natCast, decide_eq_true_eq, Int.ofNat_lt, Int.ofNat_le, if_true, if_false, Int.natCast_nonneg, decide_true, decide_false, Bool.not_true, Bool.not_false, Bool.false_eq_true, Bool.not_eq_true, Bool.true_and, Bool.and_true, Bool.false_and, Bool.and_false, c3, c4, d1, d2, d3, d4, Pu.atI]
theorem ay.AI {k k1 k2 : Nat} {t : Pu.Tab} {r : Nat} {c x v : Int} {o n : List Int} (hk : 3 ≤ k) (hi : Pu.cy t.1 = true) (h1 : 0 ≤ c) (h2 : c ≤ 10000000) (hr : r ≤ 1048576) :
    ay.J2 k k1 k2 r c x v t.1 t.2 o n = if (Pu.within x 1 9 && (decide (v ≤ x) && decide (Pu.entry t ((r : Int) - 1) c < x))) = true then ay.L1 k k1 k2 r (c + 1) t.1 t.2 o n else some false := by
  have he := bW.is (k := k) (t := t) (r := (r : Int) - 1) (c := c) (by omega) hi (by omega) (by omega)
  rw [ay.mw, dZ.is (by omega), ay.vd]
  simp (disch := omega) only [↓aB, bI, bK, aZ, bj, bn, aN, aP, aQ, bt, aY, bg, aG, aH, bc, aq, aS, aW, bL, bO, bm, bk, ah, Pu.w64, Int.toNat_natCast, decide_eq_true_eq, Int.ofNat_lt, Int.ofNat_le, if_true, if_false, Int.natCast_nonneg, decide_true, decide_false, Bool.not_true, Bool.not_false, Bool.false_eq_true, Bool.not_eq_true, Bool.true_and, Bool.and_true, Bool.false_and, Bool.and_false, he]
  cases Pu.within x 1 9 with
  | false => simp
  | true =>
    by_cases c1 : v ≤ x
    · have c1' : ¬ x < v := by omega
      by_cases c2 : Pu.entry t ((r : Int) - 1) c < x
      · have c2' : ¬ x ≤ Pu.entry t ((r : Int) - 1) c := by omega
        simp [c1, c1', c2, c2']
      · have c2' : x ≤ Pu.entry t ((r : Int) - 1) c := by omega
        simp [c1, c1', c2, c2']
    · have c1' : x < v := by omega
      simp [c1, c1']
theorem ay.inner {k k1 : Nat} {t : Pu.Tab} {r : Nat} {n : List Int} (hk : 4194304 ≤ k) (hi : Pu.cy t.1 = true) (ht : t.2.length ≤ 1048576) (hr : ∀ x ∈ t.2, x.length ≤ 1048576) (hlt : r < t.2.length) :
    ay.L1 k k1 k r (t.1.getD r 0) t.1 t.2 (Pu.outer t) n = if ((List.range' 0 (t.2.getD r []).length).all fun q => Pu.fB t r q) = true then ay.L0 k k1 ((r : Int) + 1) t.1 t.2 (Pu.outer t) n else some false := by
  have hx := hr _ (List.getElem_mem hlt)
  rw [← Pu.ar hlt []] at hx
  have hb := Pu.fP hi r
  rw [Pu.dM] at hb
  have hol : r < (Pu.outer t).length := by unfold Pu.outer; rw [Pu.iY]; exact hlt
  have ho : (Pu.outer t).getD r 0 = t.1.getD r 0 + ((t.2.getD r []).length : Int) := by
    have := Pu.eY t.1 t.2 0 r hlt
    rw [Nat.zero_add] at this
    exact this
  have h := Pu.jS (fun j q => ay.L1 k k1 j r (t.1.getD r 0 + (q : Int)) t.1 t.2 (Pu.outer t) n) (t.2.getD r []).length (fun q => Pu.fB t r q) (some false) (ay.L0 k k1 ((r : Int) + 1) t.1 t.2 (Pu.outer t) n)
    (fun j q hq => by
      rw [ay.dq]
      have hc : t.1.getD r 0 + (q : Int) < (Pu.outer t).getD r 0 := by rw [ho]; omega
      have e1 := bW.is (k := k) (t := t) (r := r) (c := t.1.getD r 0 + q) (by omega) hi (by omega) (by omega)
      have e2 := bW.is (k := k) (t := t) (r := r) (c := t.1.getD r 0 + q - 1) (by omega) hi (by omega) (by omega)
      rw [Pu.uJ hlt] at e1
      rw [Pu.vY hlt] at e2
      have ej := fun v => ay.AI (k := k) (k1 := k1) (k2 := j) (t := t) (r := r) (c := t.1.getD r 0 + q) (x := (t.2.getD r []).getD q 0) (v := v) (o := Pu.outer t) (n := n) (by omega) hi (by omega) (by omega) (by omega)
      have en : t.1.getD r 0 + (q : Int) + 1 = t.1.getD r 0 + ((q + 1 : Nat) : Int) := by omega
      rw [en] at ej
      have key : ∀ v : Int, v = (if q = 0 then 0 else (t.2.getD r []).getD (q - 1) 0) → (Pu.within ((t.2.getD r []).getD q 0) 1 9 && (decide (v ≤ (t.2.getD r []).getD q 0) && decide (Pu.entry t ((r : Int) - 1) (t.1.getD r 0 + q) < (t.2.getD r []).getD q 0))) = Pu.fB t r q := by
        intro v hv
        unfold Pu.fB
        cases hw : Pu.within ((t.2.getD r []).getD q 0) 1 9 with
        | false => rfl
        | true =>
          have hw1 : 1 ≤ (t.2.getD r []).getD q 0 := by
            simp only [Pu.within, Bool.and_eq_true, decide_eq_true_eq] at hw; exact hw.1
          simp only [Bool.true_and]
          congr 1
          · by_cases e : q = 0
            · have : v ≤ (t.2.getD r []).getD q 0 := by rw [hv, if_pos e]; omega
              simp [e, this]
              simpa [e] using this
            · rw [hv, if_neg e]; simp [e]
          · by_cases e : r = 0
            · subst e
              rw [Pu.yr (by omega), decide_eq_true (show (0 : Int) < (t.2.getD 0 []).getD q 0 by omega)]
              simp only [decide_true, Bool.true_or]
            · simp [e]
      by_cases hc0 : 0 < t.1.getD r 0 + (q : Int)
      · simp (disch := omega) only [↓aB, bI, bK, aZ, bj, bn, aN, aP, aQ, bt, aY, bg, aG, aH, bc, aq, aS, aW, bL, bO, bm, bk, ah, Pu.w64, Int.toNat_natCast, decide_eq_true_eq, Int.ofNat_lt, Int.ofNat_le, if_true, if_false, Int.natCast_nonneg, decide_true, decide_false, Bool.not_true, Bool.not_false, Bool.false_eq_true, Bool.not_eq_true, Bool.true_and, Bool.and_true, Bool.false_and, Bool.and_false, hol, hc, e1, hc0, e2, ej]
        rw [key _ rfl]
      · simp (disch := omega) only [↓aB, bI, bK, aZ, bj, bn, aN, aP, aQ, bt, aY, bg, aG, aH, bc, aq, aS, aW, bL, bO, bm, bk, ah, Pu.w64, Int.toNat_natCast, decide_eq_true_eq, Int.ofNat_lt, Int.ofNat_le, if_true, if_false, Int.natCast_nonneg, decide_true, decide_false, Bool.not_true, Bool.not_false, Bool.false_eq_true, Bool.not_eq_true, Bool.true_and, Bool.and_true, Bool.false_and, Bool.and_false, hol, hc, e1, hc0, ej]
        rw [key 0 (by have : q = 0 := by omega
                      rw [if_pos this])])
    (fun j => by
      rw [ay.dq]
      have hc : ¬ t.1.getD r 0 + ((t.2.getD r []).length : Int) < (Pu.outer t).getD r 0 := by rw [ho]; omega
      simp (disch := omega) only [↓aB, bI, bK, aZ, bj, bn, aN, aP, aQ, bt, aY, bg, aG, aH, bc, aq, aS, aW, bL, bO, bm, bk, ah, Pu.w64, Int.toNat_natCast, decide_eq_true_eq, Int.ofNat_lt, Int.ofNat_le, if_true, if_false, Int.natCast_nonneg, decide_true, decide_false, Bool.not_true, Bool.not_false, Bool.false_eq_true, Bool.not_eq_true, Bool.true_and, Bool.and_true, Bool.false_and, Bool.and_false, hol, hc]) (t.2.getD r []).length k 0 (by omega) (by omega)
  simp only [Int.natCast_zero, Int.add_zero] at h
  exact h
theorem ay.is {k : Nat} {t : Pu.Tab} (hk : 4194304 + 5 ≤ k) (h1 : t.1.length ≤ 1048576) (ht : t.2.length ≤ 1048576) (hr : ∀ x ∈ t.2, x.length ≤ 1048576) : ay k t = some (Pu.iR t) := by
  obtain ⟨k, rfl⟩ : ∃ k', k = k' + 1 := ⟨k - 1, by omega⟩
  rw [ay.eq, bp.is (by omega) h1 ht hr, ah]
  unfold Pu.iR Pu.shapeOf
  cases hs : Pu.cQ t with
  | false => simp [hs]
  | true =>
    have hi : Pu.cy t.1 = true := by
      simp only [Pu.cQ, Bool.and_eq_true] at hs; exact hs.1
    have hol : (Pu.outer t).length = t.2.length := by unfold Pu.outer; rw [Pu.iY]
    have h := Pu.jS (fun j r => ay.L0 k j r t.1 t.2 (Pu.outer t) t.1) t.2.length (fun r => (List.range' 0 (t.2.getD r []).length).all fun q => Pu.fB t r q) (some false) (some true)
      (fun j r hlt => by
        rw [ay.bS, dg.is (by omega), Pu.dM]
        simp (disch := omega) only [↓aB, bI, bK, aZ, bj, bn, aN, aP, aQ, bt, aY, bg, aG, aH, bc, aq, aS, aW, bL, bO, bm, bk, ah, Pu.w64, Int.toNat_natCast, decide_eq_true_eq, Int.ofNat_lt, Int.ofNat_le, if_true, if_false, Int.natCast_nonneg, decide_true, decide_false, Bool.not_true, Bool.not_false, Bool.false_eq_true, Bool.not_eq_true, Bool.true_and, Bool.and_true, Bool.false_and, Bool.and_false, hol, hlt, ay.inner (k1 := j) (n := t.1) (show 4194304 ≤ k by omega) hi ht hr hlt, Int.natCast_add, Int.natCast_one])
      (fun j => by
        rw [ay.bS]
        simp (disch := omega) only [↓aB, bI, bK, aZ, bj, bn, aN, aP, aQ, bt, aY, bg, aG, aH, bc, aq, aS, aW, bL, bO, bm, bk, ah, Pu.w64, Int.toNat_natCast, decide_eq_true_eq, Int.ofNat_lt, Int.ofNat_le, if_true, if_false, Int.natCast_nonneg, decide_true, decide_false, Bool.not_true, Bool.not_false, Bool.false_eq_true, Bool.not_eq_true, Bool.true_and, Bool.and_true, Bool.false_and, Bool.and_false, hol, Nat.lt_irrefl]) t.2.length k 0 (by omega) (by omega)
    simp only [Int.natCast_zero] at h
    simp only [if_true, ↓aB, bI, bK, aZ, bj, bn, aN, aP, aQ, bt, aY, bg, aG, aH, bc, aq, aS, aW, bL, bO, bm, bk, ah, Pu.w64, Int.toNat_natCast, decide_eq_true_eq, Int.ofNat_lt, Int.ofNat_le, if_true, if_false, Int.natCast_nonneg, decide_true, decide_false, Bool.not_true, Bool.not_false, Bool.false_eq_true, Bool.not_eq_true, Bool.true_and, Bool.and_true, Bool.false_and, Bool.and_false]
    rw [h]
    cases (List.range' 0 t.2.length).all fun r => (List.range' 0 (t.2.getD r []).length).all fun q => Pu.fB t r q <;> simp
theorem cX.is {k : Nat} {t : Pu.Tab} (hk : 4194304 + 6 ≤ k) (h1 : t.1.length ≤ 1048576) (ht : t.2.length ≤ 1048576) (hr : ∀ x ∈ t.2, x.length ≤ 1048576) : cX k t = some (Pu.a8 t) := by
  obtain ⟨k, rfl⟩ : ∃ k', k = k' + 1 := ⟨k - 1, by omega⟩
  rw [cX.eq, ay.is (by omega) h1 ht hr, ah]
  unfold Pu.a8
  cases Pu.iR t <;> simp
theorem cn.loop {k : Nat} {a b : List Int} (hl : a.length = b.length) (ha : a.length ≤ 1048576) : ∀ (m j i : Nat), i + m = a.length → m < j → cn.L0 k j i a b = some (decide (a.drop i = b.drop i))
  | m, 0, i, _, hj => by omega
  | 0, j + 1, i, hi, _ => by
    rw [cn.bS]
    have e : i = a.length := by omega
    subst e
    simp [hl]
  | m + 1, j + 1, i, hi, hj => by
    rw [cn.bS]
    have h1 : i < a.length := by omega
    have h2 : i < b.length := by omega
    have ih := cn.loop (k := k) hl ha m j (i + 1) (by omega) (by omega)
    rw [Int.natCast_succ] at ih
    rw [Pu.drop_cons h1 0, Pu.drop_cons h2 0]
    by_cases e : a.getD i 0 = b.getD i 0 <;> simp (disch := omega) only [aB, bI, bK, aZ, aN, aP, aQ, bt, aq, aS, bL, bO, Pu.w64, Int.toNat_natCast, decide_eq_true_eq, Int.ofNat_lt, h1, h2, if_true, Int.natCast_nonneg, decide_true, ih, e, List.cons.injEq, true_and, false_and, decide_false, Bool.not_true, Bool.not_false, if_false, Bool.false_eq_true]
theorem cn.is {k : Nat} {a b : List Int} (hk : 4194304 + 1 ≤ k) (ha : a.length ≤ 1048576) : cn k a b = some (decide (a = b)) := by
  obtain ⟨k, rfl⟩ : ∃ k', k = k' + 1 := ⟨k - 1, by omega⟩
  rw [cn.eq]
  by_cases hl : a.length = b.length
  · have h := cn.loop (k := k) hl ha a.length k 0 (by omega) (by omega)
    rw [Int.natCast_zero] at h
    simp only [List.drop_zero] at h
    have hl' : (a.length : Int) = b.length := by omega
    simp only [aB, bL, bO, aP, aN, hl', decide_true, Bool.not_true, Bool.false_eq_true, if_false, h]
  · have hne : a ≠ b := fun e => hl (by rw [e])
    have hl' : ¬ (a.length : Int) = b.length := by omega
    simp [hl', hne]
theorem dh.is {k : Nat} {a b : List Int × List Int} (hk : 4194304 + 2 ≤ k) (h1 : a.1.length ≤ 1048576) (h2 : a.2.length ≤ 1048576) : dh k a b = some (decide (a = b)) := by
  obtain ⟨k, rfl⟩ : ∃ k', k = k' + 1 := ⟨k - 1, by omega⟩
  obtain ⟨a1, a2⟩ := a
  obtain ⟨b1, b2⟩ := b
  rw [dh.eq, cn.is (by omega) h1, cn.is (by omega) h2]
  by_cases e : a1 = b1 <;> simp [e]
theorem bC.loop {k : Nat} {t : Pu.Tab} {x2 : List Int} (ht : t.2.length ≤ 1048576) (hf : t.2.flatten.length ≤ 1099511627776) : ∀ (m j i : Nat), i + m = t.2.length → m < j →
    bC.L0 k j i (t.2.take i).flatten x2 t.2 = some t.2.flatten
  | m, 0, i, _, hj => by omega
  | 0, j + 1, i, hm, _ => by
    rw [bC.bS]
    have e : i = t.2.length := by omega
    subst e
    simp
  | m + 1, j + 1, i, hm, hj => by
    rw [bC.bS]
    have hlt : i < t.2.length := by omega
    have ih := bC.loop (k := k) (x2 := x2) ht hf m j (i + 1) (by omega) (by omega)
    rw [Int.natCast_succ, Pu.take_succ hlt []] at ih
    have hl : ((t.2.take i).flatten ++ t.2.getD i []).length ≤ 1099511627776 := by
      refine Nat.le_trans ?_ hf
      have e : t.2.flatten = (t.2.take i).flatten ++ (t.2.drop i).flatten := by rw [← List.flatten_append, List.take_append_drop]
      rw [e, Pu.drop_cons hlt []]
      simp only [List.flatten_cons, List.length_append]
      omega
    simp only [List.flatten_append, List.flatten_cons, List.flatten_nil, List.append_nil] at ih
    simp (disch := omega) only [↓aB, bI, bK, aZ, bj, bn, aN, aP, aQ, bt, aY, bg, aG, aH, bc, aq, aS, aW, bL, bO, bm, bk, ah, Pu.w64, Int.toNat_natCast, decide_eq_true_eq, Int.ofNat_lt, Int.ofNat_le, if_true, if_false, Int.natCast_nonneg, decide_true, decide_false, Bool.not_true, Bool.not_false, Bool.false_eq_true, Bool.not_eq_true, Bool.true_and, Bool.and_true, Bool.false_and, Bool.and_false, hlt, hl, ih]
theorem bC.is {k : Nat} {t : Pu.Tab} (hk : 4194304 + 1 ≤ k) (ht : t.2.length ≤ 1048576) (hf : t.2.flatten.length ≤ 1099511627776) : bC k t = some t.2.flatten := by
  obtain ⟨k, rfl⟩ : ∃ k', k = k' + 1 := ⟨k - 1, by omega⟩
  rw [bC.eq]
  exact bC.loop (k := k) ht hf t.2.length k 0 (by omega) (by omega)
theorem gC.is {k : Nat} {a b : Int} (hk : 1 ≤ k) : gC k a b = some (max a b) := by
  obtain ⟨k, rfl⟩ : ∃ k', k = k' + 1 := ⟨k - 1, by omega⟩
  rw [gC.eq]
  by_cases h : b < a
  · simp only [↓aB, bI, bK, aZ, bj, bn, aN, aP, aQ, bt, aY, bg, aG, aH, bc, aq, aS, aW, bL, bO, bm, bk, ah, Pu.w64, Int.toNat_natCast, decide_eq_true_eq, Int.ofNat_lt, Int.ofNat_le, if_true, if_false, Int.natCast_nonneg, decide_true, decide_false, Bool.not_true, Bool.not_false, Bool.false_eq_true, Bool.not_eq_true, Bool.true_and, Bool.and_true, Bool.false_and, Bool.and_false, h]; congr 1; omega
  · simp only [↓aB, bI, bK, aZ, bj, bn, aN, aP, aQ, bt, aY, bg, aG, aH, bc, aq, aS, aW, bL, bO, bm, bk, ah, Pu.w64, Int.toNat_natCast, decide_eq_true_eq, Int.ofNat_lt, Int.ofNat_le, if_true, if_false, Int.natCast_nonneg, decide_true, decide_false, Bool.not_true, Bool.not_false, Bool.false_eq_true, Bool.not_eq_true, Bool.true_and, Bool.and_true, Bool.false_and, Bool.and_false, h]; congr 1; omega
theorem b8.loop {k : Nat} {l : List Int} (hk : 1 ≤ k) (h9 : l.length ≤ 1000) : ∀ (m j i : Nat) (acc : Int), i + m = l.length → m < j → b8.L0 k j acc i l = some (Pu.mc acc (l.drop i))
  | m, 0, i, acc, _, hj => by omega
  | 0, j + 1, i, acc, hi, _ => by
    rw [b8.bS]
    have hn : ¬ (i : Int) < l.length := by omega
    refine Pu.tX hn ?_
    rw [List.drop_of_length_le (by omega)]
    rfl
  | m + 1, j + 1, i, acc, hi, hj => by
    have hlt : i < l.length := by omega
    have hn : (i : Int) < l.length := by omega
    have hw : IntKind.i64.wrap ((i : Int) + 1) = ((i + 1 : Nat) : Int) := by rw [Pu.w64 (by omega) (by omega)]; omega
    have ih := b8.loop hk h9 m j (i + 1) (max acc (l.getD i 0)) (by omega) (by omega)
    rw [b8.bS]
    simp only [aQ, aN, aP, bt, aS, aq, Int.toNat_natCast, hw]
    refine Pu.tG hn (Pu.tG (Int.natCast_nonneg i) (Pu.tG hlt (Pu.tG hlt (Pu.bE (gC.is hk) ?_))))
    rw [ih, Pu.drop_cons hlt 0]
    rfl
theorem b8.is {k : Nat} {l : List Int} (hk : 4194304 + 2 ≤ k) (h9 : l.length ≤ 1000) : b8 k l = some (Pu.mc 0 l) := by
  obtain ⟨k, rfl⟩ : ∃ k', k = k' + 1 := ⟨k - 1, by omega⟩
  have := b8.loop (k := k) (by omega) h9 l.length k 0 0 (by omega) (by omega)
  rw [b8.eq]
  exact this
theorem cm.loop {k : Nat} {t : Pu.Tab} {x3 x4 : List Int} {x5 : List (List Int)} (ht : t.2.length ≤ 1048576) (hr : ∀ x ∈ t.2, x.length ≤ 1048576) : ∀ (m j i : Nat), i + m = t.2.length → m < j →
    cm.L0 k j i t.1 t.2 x3 x5 x4 (t.2.take i) = some (x4, t.2)
  | m, 0, i, _, hj => by omega
  | 0, j + 1, i, hm, _ => by
    rw [cm.bS]
    have e : i = t.2.length := by omega
    subst e
    simp
  | m + 1, j + 1, i, hm, hj => by
    rw [cm.bS]
    have hlt : i < t.2.length := by omega
    have hx := hr _ (List.getElem_mem hlt)
    rw [← Pu.ar hlt []] at hx
    have ih := cm.loop (k := k) (x3 := x3) (x4 := x4) (x5 := x5) ht hr m j (i + 1) (by omega) (by omega)
    rw [Int.natCast_succ, Pu.take_succ hlt []] at ih
    have hl : (t.2.take i ++ [t.2.getD i []]).length ≤ 1099511627776 := by simp; omega
    have hx' : (t.2.getD i []).length ≤ 1099511627776 := by omega
    simp (disch := omega) only [↓aB, bI, bK, aZ, bj, bn, aN, aP, aQ, bt, aY, bg, aG, aH, bc, aq, aS, aW, bL, bO, bm, bk, ah, Pu.w64, Int.toNat_natCast, decide_eq_true_eq, Int.ofNat_lt, Int.ofNat_le, if_true, if_false, Int.natCast_nonneg, decide_true, decide_false, Bool.not_true, Bool.not_false, Bool.false_eq_true, Bool.not_eq_true, Bool.true_and, Bool.and_true, Bool.false_and, Bool.and_false, hlt, hl, hx', List.nil_append, ih]
theorem cm.is {k : Nat} {t : Pu.Tab} (hk : 4194304 + 1 ≤ k) (h1 : t.1.length ≤ 1048576) (ht : t.2.length ≤ 1048576) (hr : ∀ x ∈ t.2, x.length ≤ 1048576) : cm k t = some t := by
  obtain ⟨k, rfl⟩ : ∃ k', k = k' + 1 := ⟨k - 1, by omega⟩
  rw [cm.eq]
  have h := cm.loop (k := k) (t := t) (x3 := []) (x4 := t.1) (x5 := []) ht hr t.2.length k 0 (by omega) (by omega)
  rw [Int.natCast_zero, List.take_zero] at h
  have hl : t.1.length ≤ 1099511627776 := by omega
  simp only [↓aB, bI, bK, aZ, bj, bn, aN, aP, aQ, bt, aY, bg, aG, aH, bc, aq, aS, aW, bL, bO, bm, bk, ah, Pu.w64, Int.toNat_natCast, decide_eq_true_eq, Int.ofNat_lt, Int.ofNat_le, if_true, if_false, Int.natCast_nonneg, decide_true, decide_false, Bool.not_true, Bool.not_false, Bool.false_eq_true, Bool.not_eq_true, Bool.true_and, Bool.and_true, Bool.false_and, Bool.and_false, List.nil_append, hl, h]
theorem af.xe (Q : List (List Int)) (v : Int) (c r : Nat) (s : Nat × List (List Int)) : (Pu.dK Q v c r s).1 ≤ s.1 + 1 := by
  unfold Pu.dK; split <;> simp
theorem af.sx {Q : List (List Int)} {v : Int} {c r : Nat} {s : Nat × List (List Int)} (h : Pu.cL s.2 Q) : Pu.cL (Pu.dK Q v c r s).2 Q := by
  unfold Pu.dK
  split
  · exact ⟨by rw [Pu.hU]; exact h.1, fun i => by rw [Pu.dE]; exact h.2 i⟩
  · exact h
theorem af.Ai (Q : List (List Int)) (v : Int) (c : Nat) : ∀ (m r : Nat) (s : Nat × List (List Int)), Pu.cL s.2 Q → (Pu.jh Q v c m r s).1 ≤ s.1 + m ∧ Pu.cL (Pu.jh Q v c m r s).2 Q
  | 0, _, s, h => ⟨Nat.le_refl _, h⟩
  | m + 1, r, s, h => by
    have h1 := af.xe Q v c r s
    have h2 := af.Ai Q v c m (r + 1) (Pu.dK Q v c r s) (af.sx h)
    exact ⟨by have := h2.1; show (Pu.jh Q v c m (r + 1) (Pu.dK Q v c r s)).1 ≤ _; omega, h2.2⟩
theorem af.A9 (Q : List (List Int)) (v : Int) (h9 : Q.length ≤ 9) : ∀ (m c : Nat) (s : Nat × List (List Int)), Pu.cL s.2 Q → (Pu.ly Q v m c s).1 ≤ s.1 + 9 * m ∧ Pu.cL (Pu.ly Q v m c s).2 Q
  | 0, _, s, h => ⟨Nat.le_refl _, h⟩
  | m + 1, c, s, h => by
    have h1 := af.Ai Q v c Q.length 0 s h
    have h2 := af.A9 Q v h9 m (c + 1) (Pu.jh Q v c Q.length 0 s) h1.2
    exact ⟨by have := h2.1; have := h1.1; show (Pu.ly Q v m (c + 1) (Pu.jh Q v c Q.length 0 s)).1 ≤ _; omega, h2.2⟩
theorem af.lK {k k1 k2 : Nat} {q : Pu.Tab} {v : Int} {c : Nat} {inn outer : List Int} {x6 : List Int} {x7 : List (List Int)} (hk : 4194304 + 4 ≤ k) (hq : Pu.a8 q = true) (ho : outer.length = q.2.length) (hc : c < 9) (hv : 1 ≤ v) : ∀ (m j r : Nat) (s : Nat × List (List Int)), r + m = q.2.length → m < j → Pu.cL s.2 q.2 → s.1 + m ≤ 100000 →
    af.L2 k k1 k2 j s.1 v c r q.1 q.2 x6 x7 inn s.2 outer [] = af.L1 k k1 k2 (Pu.jh q.2 v c m r s).1 v ((c + 1 : Nat) : Int) q.1 q.2 x6 x7 inn (Pu.jh q.2 v c m r s).2 outer []
  | m, 0, r, s, _, hj, _, _ => by omega
  | 0, j + 1, r, s, hr, _, _, _ => by
    have hn : ¬ (r : Int) < outer.length := by omega
    have hw : IntKind.i64.wrap ((c : Int) + 1) = ((c + 1 : Nat) : Int) := by rw [Pu.w64 (by omega) (by omega)]; omega
    rw [af.ic]
    refine Pu.tX hn ?_
    simp only [aS, aq, hw]
    rfl
  | m + 1, j + 1, r, s, hr, hj, hs, hb => by
    have h9 := Pu.dw hq
    have h9l := h9.1
    have hrl : r < q.2.length := by omega
    have hn : (r : Int) < outer.length := by omega
    have hle := af.xe q.2 v c r s
    have ih := af.lK (k := k) (k1 := k1) (k2 := k2) (inn := inn) (x6 := x6) (x7 := x7) hk hq ho hc hv m j (r + 1) (Pu.dK q.2 v c r s) (by omega) (by omega) (af.sx hs) (by omega)
    have hwr : IntKind.i64.wrap ((r : Int) + 1) = ((r + 1 : Nat) : Int) := by rw [Pu.w64 (by omega) (by omega)]; omega
    have hwn : IntKind.i64.wrap ((s.1 : Int) + 1) = ((s.1 + 1 : Nat) : Int) := by rw [Pu.w64 (by omega) (by omega)]; omega
    have hwc : IntKind.i64.wrap ((c : Int) - 0) = (c : Int) := by rw [Pu.w64 (by omega) (by omega)]; omega
    have hin := Pu.cw hq
    have hpi : Pu.cy q.1 = true := by rw [hin]; rfl
    have hen := bW.is (k := k) (t := q) (r := (r : Int)) (c := (c : Int)) (by omega) hpi (by omega) (by omega)
    have hentry : Pu.entry q r c = Pu.cel q.2 r c := by
      rw [Pu.mK hrl, hin]
      unfold Pu.cel
      rw [show (c : Int) - ([] : List Int).getD r 0 = (c : Int) by simp, Pu.dM]
    rw [hentry] at hen
    have hat := dg.is (k := k) (p := []) (i := (r : Int)) (by omega)
    have hat0 : Pu.atI [] (r : Int) = 0 := by rw [Pu.dM]; rfl
    rw [hat0] at hat
    have hnext : ∀ s' : Nat × List (List Int), s' = Pu.dK q.2 v c r s → af.J3 k k1 k2 j s'.1 v c r q.1 q.2 x6 x7 inn s'.2 outer [] = af.L1 k k1 k2 (Pu.jh q.2 v c (m + 1) r s).1 v ((c + 1 : Nat) : Int) q.1 q.2 x6 x7 inn (Pu.jh q.2 v c (m + 1) r s).2 outer [] := fun s' e => by
      rw [af.vd, e]
      simp only [aS, aq, hwr]
      exact ih
    rw [af.ic]
    refine Pu.tG hn (Pu.bE hen ?_)
    by_cases e : Pu.cel q.2 r c = v
    · have hcl : c < (q.2.getD r []).length := by
        refine Nat.lt_of_not_le fun h => ?_
        unfold Pu.cel at e
        rw [Pu.cd h] at e
        omega
      have hsr : r < s.2.length := by rw [hs.1]; exact hrl
      have hsc : c < (s.2.getD r []).length := by rw [hs.2]; exact hcl
      have hst : Pu.dK q.2 v c r s = (s.1 + 1, Pu.jV s.2 r c ((s.1 + 1 : Nat) : Int)) := by unfold Pu.dK; rw [if_pos ⟨hcl, e⟩]
      have h := hnext (s.1 + 1, s.2.set r ((s.2.getD r []).set c ((s.1 + 1 : Nat) : Int))) (by rw [hst]; rfl)
      refine Pu.tG e (Pu.tG (Int.natCast_nonneg r) ?_)
      simp only [aQ, aN, bt, aS, aW, aY, aq, hwn, Int.toNat_natCast]
      refine Pu.tG hsr (Pu.tG hsr (Pu.bE hat ?_))
      simp only [hwc, Int.toNat_natCast]
      exact Pu.tG hsr (Pu.tG (Int.natCast_nonneg c) (Pu.tG hsc (Pu.tG hsr (Pu.tG hsc h))))
    · have hst : Pu.dK q.2 v c r s = s := by unfold Pu.dK; rw [if_neg (fun h => e h.2)]
      exact Pu.tX e (hnext s hst.symm)
theorem af.m9 {k k1 : Nat} {q : Pu.Tab} {v : Int} {inn outer : List Int} {x6 : List Int} {x7 : List (List Int)} (hk : 4194304 + 4 ≤ k) (hq : Pu.a8 q = true) (ho : outer.length = q.2.length) (hv : 1 ≤ v) (hv9 : v ≤ 9) : ∀ (m j c : Nat) (s : Nat × List (List Int)), c + m = 9 → m < j → Pu.cL s.2 q.2 → s.1 + 9 * m ≤ 10000 →
    af.L1 k k1 j s.1 v c q.1 q.2 x6 x7 inn s.2 outer [] = af.L0 k k1 (Pu.ly q.2 v m c s).1 (v + 1) q.1 q.2 x6 x7 inn (Pu.ly q.2 v m c s).2 outer []
  | m, 0, c, s, _, hj, _, _ => by omega
  | 0, j + 1, c, s, hc, _, _, _ => by
    have hn : ¬ (c : Int) < 9 := by omega
    have hw : IntKind.i64.wrap (v + 1) = v + 1 := Pu.w64 (by omega) (by omega)
    rw [af.dq]
    refine Pu.tX hn ?_
    simp only [aS, aq, hw]
    rfl
  | m + 1, j + 1, c, s, hc, hj, hs, hb => by
    have h9l := (Pu.dw hq).1
    have hn : (c : Int) < 9 := by omega
    have hR := af.Ai q.2 v c q.2.length 0 s hs
    have ih := af.m9 (k := k) (k1 := k1) (inn := inn) (x6 := x6) (x7 := x7) hk hq ho hv hv9 m j (c + 1) (Pu.jh q.2 v c q.2.length 0 s) (by omega) (by omega) hR.2 (by have := hR.1; omega)
    have hl := af.lK (k := k) (k1 := k1) (k2 := j) (inn := inn) (x6 := x6) (x7 := x7) hk hq ho (show c < 9 by omega) hv q.2.length k 0 s (by omega) (by omega) hs (by omega)
    rw [af.dq]
    exact Pu.tG hn (hl.trans ih)
theorem af.uD {k : Nat} {q : Pu.Tab} {inn outer : List Int} {x6 : List Int} {x7 : List (List Int)} (hk : 4194304 + 14 ≤ k) (hq : Pu.a8 q = true) (ho : outer.length = q.2.length) : ∀ (m j : Nat) (v : Int) (s : Nat × List (List Int)), v + m = 10 → 1 ≤ v → m < j → Pu.cL s.2 q.2 → s.1 + 81 * m ≤ 10000 →
    af.L0 k j s.1 v q.1 q.2 x6 x7 inn s.2 outer [] = some ((inn, (Pu.mT q.2 m v s).2), true)
  | m, 0, v, s, _, _, hj, _, _ => by omega
  | 0, j + 1, v, s, hv, _, _, _, _ => by
    have hn : ¬ v ≤ 9 := by omega
    rw [af.bS]
    exact Pu.tX hn rfl
  | m + 1, j + 1, v, s, hv, h1, hj, hs, hb => by
    have h9l := (Pu.dw hq).1
    have hn : v ≤ 9 := by omega
    have hR := af.A9 q.2 v h9l 9 0 s hs
    have ih := af.uD (k := k) (inn := inn) (x6 := x6) (x7 := x7) hk hq ho m j (v + 1) (Pu.ly q.2 v 9 0 s) (by omega) (by omega) (by omega) hR.2 (by have := hR.1; omega)
    have hl := af.m9 (k := k) (k1 := j) (inn := inn) (x6 := x6) (x7 := x7) (by omega) hq ho h1 hn 9 k 0 s (by omega) (by omega) hs (by omega)
    rw [af.bS]
    exact Pu.tG hn (hl.trans ih)
theorem af.is {k : Nat} {q : Pu.Tab} (hk : 4194304 + 20 ≤ k) (hq : Pu.a8 q = true) : af k q = some (([], Pu.jf q.2), true) := by
  obtain ⟨k, rfl⟩ : ∃ k', k = k' + 1 := ⟨k - 1, by omega⟩
  have hr := Pu.dw hq
  have o1 : q.1.length ≤ 1048576 := by rw [Pu.cw hq]; simp
  have o2 : q.2.length ≤ 1048576 := by have := hr.1; omega
  have o3 : ∀ x ∈ q.2, x.length ≤ 1048576 := fun x hx => by have := hr.2 x hx; omega
  have h1 := ay.is (k := k) (t := q) (by omega) o1 o2 o3
  have h2 := cm.is (k := k) (t := q) (by omega) o1 o2 o3
  have h3 := bp.is (k := k) (t := q) (by omega) o1 o2 o3
  have h' := hq
  simp only [Pu.a8, Bool.and_eq_true] at h'
  rw [h'.1] at h1
  have hsh : Pu.shapeOf q = ((Pu.outer q, []), true) := by
    unfold Pu.shapeOf
    rw [if_pos (Pu.iE h'.1), Pu.cw hq]
  rw [hsh] at h3
  rw [af.eq, show ((q.1, q.2) : Pu.Tab) = q from rfl]
  refine Pu.bE h1 (Pu.tN (Pu.bE h2 (Pu.bE h3 ?_)))
  have := af.uD (k := k) (q := q) (inn := q.1) (outer := Pu.outer q) (x6 := []) (x7 := []) (by omega) hq (Pu.cp q) 9 k 1 (0, q.2) (by omega) (by omega) (by omega) ⟨rfl, fun _ => rfl⟩ (by simp)
  rw [show ((q.1, (Pu.mT q.2 9 1 (0, q.2)).2) : Pu.Tab) = ([], Pu.jf q.2) by rw [Pu.cw hq]; rfl] at this
  exact this
theorem bo.loop {k : Nat} {l : List Int} (h1 : ∀ x ∈ l, 1 ≤ x ∧ x ≤ 9) (hl : l.length ≤ 9) : ∀ (m j i : Nat) (seen : List Bool), i + m = l.length → m < j → seen.length = 10 → (∀ v : Nat, v < 10 → seen.getD v false = Pu.has (l.take i) v) →
    bo.L0 k j i l seen = some (Pu.jm l.length (l.take i) (l.drop i))
  | m, 0, i, seen, _, hj, _, _ => by omega
  | 0, j + 1, i, seen, hm, _, _, _ => by
    rw [bo.bS]
    have e : i = l.length := by omega
    subst e
    simp [Pu.jm]
  | m + 1, j + 1, i, seen, hm, hj, hs, hv => by
    rw [bo.bS]
    have hlt : i < l.length := by omega
    have hx := h1 _ (List.getElem_mem hlt)
    rw [← Pu.ar hlt 0] at hx
    rw [Pu.drop_cons hlt 0]
    simp only [Pu.jm]
    have hx10 : (l.getD i 0).toNat < seen.length := by omega
    have hx0 : (0 : Int) ≤ l.getD i 0 := by omega
    have hvx := hv (l.getD i 0).toNat (by omega)
    have ex : (((l.getD i 0).toNat : Nat) : Int) = l.getD i 0 := by omega
    rw [ex] at hvx
    by_cases c : l.getD i 0 ≤ l.length
    · have c' : ¬ (l.length : Int) < l.getD i 0 := by omega
      cases hh : Pu.has (l.take i) (l.getD i 0) with
      | true =>
        rw [hh] at hvx
        simp (disch := omega) only [↓aB, bI, bK, aZ, bj, bn, aN, aP, aQ, bt, aY, bg, aG, aH, bc, aq, aS, aW, bL, bO, bm, bk, ah, Pu.w64, Int.toNat_natCast, decide_eq_true_eq, Int.ofNat_lt, Int.ofNat_le, if_true, if_false, Int.natCast_nonneg, decide_true, decide_false, Bool.not_true, Bool.not_false, Bool.false_eq_true, Bool.not_eq_true, Bool.true_and, Bool.and_true, Bool.false_and, Bool.and_false, hlt, c, c', hx0, hx10, hvx]
      | false =>
        rw [hh] at hvx
        have ih := bo.loop (k := k) h1 hl m j (i + 1) (seen.set (l.getD i 0).toNat true) (by omega) (by omega) (by simpa using hs) (fun v hv10 => by
          rw [Pu.take_succ hlt 0]
          by_cases e : v = (l.getD i 0).toNat
          · subst e
            have : Pu.has (l.take i ++ [l.getD i 0]) (((l.getD i 0).toNat : Nat) : Int) = true := by rw [Pu.mJ, ex]; exact List.mem_append.2 (.inr (List.mem_singleton.2 rfl))
            rw [this, Pu.ar (by rw [List.length_set]; omega), List.getElem_set_self]
          · have e1 : (seen.set (l.getD i 0).toNat true).getD v false = seen.getD v false := by
              rw [Pu.ar (by rw [List.length_set]; omega), List.getElem_set_ne (by omega)]
              exact (Pu.ar (by omega) false).symm
            rw [e1, hv v hv10]
            have hne : ¬ (v : Int) = l.getD i 0 := by omega
            unfold Pu.has
            rw [List.any_append]
            simp only [List.any_cons, List.any_nil, hne, decide_false, Bool.or_false])
        rw [Int.natCast_succ, Pu.take_succ hlt 0] at ih
        simp (disch := omega) only [↓aB, bI, bK, aZ, bj, bn, aN, aP, aQ, bt, aY, bg, aG, aH, bc, aq, aS, aW, bL, bO, bm, bk, ah, Pu.w64, Int.toNat_natCast, decide_eq_true_eq, Int.ofNat_lt, Int.ofNat_le, if_true, if_false, Int.natCast_nonneg, decide_true, decide_false, Bool.not_true, Bool.not_false, Bool.false_eq_true, Bool.not_eq_true, Bool.true_and, Bool.and_true, Bool.false_and, Bool.and_false, hlt, c, c', hx0, hx10, hvx, bo.gH, ih]
    · have c' : (l.length : Int) < l.getD i 0 := by omega
      simp (disch := omega) only [↓aB, bI, bK, aZ, bj, bn, aN, aP, aQ, bt, aY, bg, aG, aH, bc, aq, aS, aW, bL, bO, bm, bk, ah, Pu.w64, Int.toNat_natCast, decide_eq_true_eq, Int.ofNat_lt, Int.ofNat_le, if_true, if_false, Int.natCast_nonneg, decide_true, decide_false, Bool.not_true, Bool.not_false, Bool.false_eq_true, Bool.not_eq_true, Bool.true_and, Bool.and_true, Bool.false_and, Bool.and_false, hlt, c, c']
theorem bo.is {k : Nat} {t : Pu.Tab} (hk : 4194304 + 6 ≤ k) (h1 : t.1.length ≤ 1048576) (ht : t.2.length ≤ 1048576) (hr : ∀ x ∈ t.2, x.length ≤ 1048576) : bo k t = some (Pu.dI t) := by
  obtain ⟨k, rfl⟩ : ∃ k', k = k' + 1 := ⟨k - 1, by omega⟩
  rw [bo.eq, ay.is (by omega) h1 ht hr, ah]
  unfold Pu.dI
  cases hi : Pu.iR t with
  | false => simp
  | true =>
    have h9 := Pu.yO hi
    have he := Pu.pJ hi
    simp only [↓aB, bI, bK, aZ, bj, bn, aN, aP, aQ, bt, aY, bg, aG, aH, bc, aq, aS, aW, bL, bO, bm, bk, ah, Pu.w64, Int.toNat_natCast, decide_eq_true_eq, Int.ofNat_lt, Int.ofNat_le, if_true, if_false, Int.natCast_nonneg, decide_true, decide_false, Bool.not_true, Bool.not_false, Bool.false_eq_true, Bool.not_eq_true, Bool.true_and, Bool.and_true, Bool.false_and, Bool.and_false]
    rw [bC.is (by omega) ht (by omega), ah]
    have h := bo.loop (k := k) (l := t.2.flatten) he h9 t.2.flatten.length k 0 (List.replicate 10 false) (by omega) (by omega) (by simp) (fun v hv => by
      rw [Pu.ar (by simpa using hv), List.getElem_replicate]; rfl)
    rw [Int.natCast_zero] at h
    rw [if_pos (by omega), if_pos (by omega), if_pos (by decide)]
    show bo.L0 k k 0 t.2.flatten (List.replicate 10 false) = _
    rw [h, List.take_zero, List.drop_zero, Pu.vL fun x hx => (he x hx).1]
theorem cE.loop {k : Nat} {w : List Int} (hw : w.length ≤ 1048576) (hb : ∀ x ∈ w, -1000000 ≤ x ∧ x ≤ 1000000) : ∀ (m j i : Nat) (s : Int), i + m = w.length → m < j → -1000000 * i ≤ s → s ≤ 1000000 * i → cE.L0 k j s i w = some (s + Pu.fw (w.drop i))
  | m, 0, i, s, _, hj, _, _ => by omega
  | 0, j + 1, i, s, hm, _, _, _ => by
    rw [cE.bS]
    have e : i = w.length := by omega
    subst e
    simp [Pu.fw]
  | m + 1, j + 1, i, s, hm, hj, hs1, hs2 => by
    rw [cE.bS]
    have hlt : i < w.length := by omega
    have hx := hb _ (List.getElem_mem hlt)
    rw [← Pu.ar hlt 0] at hx
    have ih := cE.loop (k := k) hw hb m j (i + 1) (s + w.getD i 0) (by omega) (by omega) (by omega) (by omega)
    rw [Int.natCast_succ] at ih
    rw [Pu.drop_cons hlt 0]
    simp (disch := omega) only [↓aB, bI, bK, aZ, bj, bn, aN, aP, aQ, bt, aY, bg, aG, aH, bc, aq, aS, aW, bL, bO, bm, bk, ah, Pu.w64, Int.toNat_natCast, decide_eq_true_eq, Int.ofNat_lt, Int.ofNat_le, if_true, if_false, Int.natCast_nonneg, decide_true, decide_false, Bool.not_true, Bool.not_false, Bool.false_eq_true, Bool.not_eq_true, Bool.true_and, Bool.and_true, Bool.false_and, Bool.and_false, hlt, ih, Pu.fw, Int.add_assoc]
theorem cE.is {k : Nat} {w : List Int} (hk : 4194304 + 1 ≤ k) (hw : w.length ≤ 1048576) (hb : ∀ x ∈ w, -1000000 ≤ x ∧ x ≤ 1000000) : cE k w = some (Pu.fw w) := by
  obtain ⟨k, rfl⟩ : ∃ k', k = k' + 1 := ⟨k - 1, by omega⟩
  rw [cE.eq]
  have h := cE.loop (k := k) hw hb w.length k 0 0 (by omega) (by omega) (by omega) (by omega)
  rw [Int.natCast_zero] at h
  rw [h, Int.zero_add, List.drop_zero]
theorem a9.inner {k k1 : Nat} {n : Int} {r : Nat} {a : List Int} {rows : List (List Int)} (hlt : r < rows.length) (hx : (rows.getD r []).length ≤ 1048576) (hk : 4194304 ≤ k) (hl : rows.length ≤ 1048576) :
    a9.L1 k k1 k n r 0 a rows = if Pu.has (rows.getD r []) n = true then some (r : Int) else a9.L0 k k1 n ((r : Int) + 1) a rows := by
  have h := Pu.qT (rows.getD r []) 0 (fun y => decide (n = y)) (fun j i => a9.L1 k k1 j n r i a rows) (fun _ => some (r : Int)) (a9.L0 k k1 n ((r : Int) + 1) a rows)
    (fun j i hi => by
      rw [a9.dq]
      by_cases c : n = (rows.getD r []).getD i 0
      · simp (disch := omega) only [↓aB, bI, bK, aZ, bj, bn, aN, aP, aQ, bt, aY, bg, aG, aH, bc, aq, aS, aW, bL, bO, bm, bk, ah, Pu.w64, Int.toNat_natCast, decide_eq_true_eq, Int.ofNat_lt, Int.ofNat_le, if_true, if_false, Int.natCast_nonneg, decide_true, decide_false, Bool.not_true, Bool.not_false, Bool.false_eq_true, Bool.not_eq_true, Bool.true_and, Bool.and_true, Bool.false_and, Bool.and_false, hlt, hi, ← c]
      · have c' : ¬ (rows.getD r []).getD i 0 = n := fun e => c e.symm
        simp (disch := omega) only [↓aB, bI, bK, aZ, bj, bn, aN, aP, aQ, bt, aY, bg, aG, aH, bc, aq, aS, aW, bL, bO, bm, bk, ah, Pu.w64, Int.toNat_natCast, decide_eq_true_eq, Int.ofNat_lt, Int.ofNat_le, if_true, if_false, Int.natCast_nonneg, decide_true, decide_false, Bool.not_true, Bool.not_false, Bool.false_eq_true, Bool.not_eq_true, Bool.true_and, Bool.and_true, Bool.false_and, Bool.and_false, hlt, hi, c, c', Int.natCast_add, Int.natCast_one])
    (fun j => by
      rw [a9.dq]
      simp (disch := omega) only [↓aB, bI, bK, aZ, bj, bn, aN, aP, aQ, bt, aY, bg, aG, aH, bc, aq, aS, aW, bL, bO, bm, bk, ah, Pu.w64, Int.toNat_natCast, decide_eq_true_eq, Int.ofNat_lt, Int.ofNat_le, if_true, if_false, Int.natCast_nonneg, decide_true, decide_false, Bool.not_true, Bool.not_false, Bool.false_eq_true, Bool.not_eq_true, Bool.true_and, Bool.and_true, Bool.false_and, Bool.and_false, hlt, Nat.lt_irrefl]) (rows.getD r []).length k 0 (by omega) (by omega) (by omega)
  simp only [Int.natCast_zero] at h
  rw [h]
  have e : Pu.has (rows.getD r []) n = decide ((rows.getD r []).findIdx (fun y => decide (n = y)) < (rows.getD r []).length) := by
    unfold Pu.has
    exact Pu.zH _ _
  rw [e]
  simp only [decide_eq_true_eq]
theorem a9.is {k : Nat} {t : Pu.Tab} {n : Int} (hk : 4194304 + 7 ≤ k) (h1 : t.1.length ≤ 1048576) (ht : t.2.length ≤ 1048576) (hr : ∀ x ∈ t.2, x.length ≤ 1048576) : a9 k t n = some (if Pu.dI t = true then Pu.rowOf t n else -1) := by
  obtain ⟨k, rfl⟩ : ∃ k', k = k' + 1 := ⟨k - 1, by omega⟩
  rw [a9.eq, bo.is (by omega) h1 ht hr, ah]
  cases hs : Pu.dI t with
  | false => simp
  | true =>
    have h := Pu.qT t.2 [] (fun r => Pu.has r n) (fun j i => a9.L0 k j n i t.1 t.2) (fun i => some (i : Int)) (some (-1))
      (fun j i hi => by
        have hx := hr _ (List.getElem_mem hi)
        rw [← Pu.ar hi []] at hx
        rw [a9.bS]
        simp (disch := omega) only [↓aB, bI, bK, aZ, bj, bn, aN, aP, aQ, bt, aY, bg, aG, aH, bc, aq, aS, aW, bL, bO, bm, bk, ah, Pu.w64, Int.toNat_natCast, decide_eq_true_eq, Int.ofNat_lt, Int.ofNat_le, if_true, if_false, Int.natCast_nonneg, decide_true, decide_false, Bool.not_true, Bool.not_false, Bool.false_eq_true, Bool.not_eq_true, Bool.true_and, Bool.and_true, Bool.false_and, Bool.and_false, hi]
        rw [a9.inner hi hx (by omega) ht, Int.natCast_add, Int.natCast_one])
      (fun j => by
        rw [a9.bS]
        simp (disch := omega) only [↓aB, bI, bK, aZ, bj, bn, aN, aP, aQ, bt, aY, bg, aG, aH, bc, aq, aS, aW, bL, bO, bm, bk, ah, Pu.w64, Int.toNat_natCast, decide_eq_true_eq, Int.ofNat_lt, Int.ofNat_le, if_true, if_false, Int.natCast_nonneg, decide_true, decide_false, Bool.not_true, Bool.not_false, Bool.false_eq_true, Bool.not_eq_true, Bool.true_and, Bool.and_true, Bool.false_and, Bool.and_false, Nat.lt_irrefl]) t.2.length k 0 (by omega) (by omega) (by omega)
    simp only [Int.natCast_zero] at h
    simp only [↓aB, bI, bK, aZ, bj, bn, aN, aP, aQ, bt, aY, bg, aG, aH, bc, aq, aS, aW, bL, bO, bm, bk, ah, Pu.w64, Int.toNat_natCast, decide_eq_true_eq, Int.ofNat_lt, Int.ofNat_le, if_true, if_false, Int.natCast_nonneg, decide_true, decide_false, Bool.not_true, Bool.not_false, Bool.false_eq_true, Bool.not_eq_true, Bool.true_and, Bool.and_true, Bool.false_and, Bool.and_false]
    rw [h]
    unfold Pu.rowOf Pu.xP
    split <;> rfl
theorem an.uq {k k1 : Nat} {y : Int} {r : Nat} {rs d2 : List (List Int)} {inn d1 : List Int} (hr : r < rs.length) (hs : Pu.cK 1000 1000 rs) : ∀ (m j q : Nat), m ≤ (rs.getD r []).length → m < j → Pu.dP (rs.getD r []) y m = some q →
    an.L5 k k1 j y r ((m : Int) - 1) d1 d2 inn rs = an.L3 k k1 ((rs.getD r []).getD q 0) ((r : Int) - 1) d1 d2 inn (rs.set r ((rs.getD r []).set q y))
  | m, 0, _, _, hj, _ => by omega
  | 0, j + 1, q, _, _, hq => by simp [Pu.dP] at hq
  | m + 1, j + 1, q, hm, hj, hq => by
    rw [an.w5]
    have hl := hs.1
    have hx := hs.at r
    have e : ((m + 1 : Nat) : Int) - 1 = (m : Int) := by omega
    have h1 : m < (rs.getD r []).length := by omega
    rw [e]
    unfold Pu.dP at hq
    by_cases c : (rs.getD r []).getD m 0 < y
    · rw [if_pos c] at hq
      injection hq with hq
      subst hq
      have c' : ¬ y ≤ (rs.getD r []).getD m 0 := by omega
      simp (disch := omega) only [↓aB, bI, bK, aZ, bj, bn, aN, aP, aQ, bt, aY, bg, aG, aH, bc, aq, aS, aW, bL, bO, bm, bk, ah, Pu.w64, Int.toNat_natCast, decide_eq_true_eq, Int.ofNat_lt, Int.ofNat_le, if_true, if_false, Int.natCast_nonneg, decide_true, decide_false, Bool.not_true, Bool.not_false, Bool.false_eq_true, Bool.not_eq_true, Bool.true_and, Bool.and_true, Bool.false_and, Bool.and_false, hr, h1, c']
    · rw [if_neg c] at hq
      have c' : y ≤ (rs.getD r []).getD m 0 := by omega
      have ih := an.uq (k := k) (k1 := k1) (y := y) (inn := inn) (d1 := d1) (d2 := d2) hr hs m j q (by omega) (by omega) hq
      simp (disch := omega) only [↓aB, bI, bK, aZ, bj, bn, aN, aP, aQ, bt, aY, bg, aG, aH, bc, aq, aS, aW, bL, bO, bm, bk, ah, Pu.w64, Int.toNat_natCast, decide_eq_true_eq, Int.ofNat_lt, Int.ofNat_le, if_true, if_false, Int.natCast_nonneg, decide_true, decide_false, Bool.not_true, Bool.not_false, Bool.false_eq_true, Bool.not_eq_true, Bool.true_and, Bool.and_true, Bool.false_and, Bool.and_false, hr, h1, c', ih]
theorem an.sX {k : Nat} {inn d1 : List Int} {d2 : List (List Int)} (hk : 2000 ≤ k) : ∀ (r j : Nat) (y : Int) (rs : List (List Int)), r ≤ rs.length → Pu.cK 1000 1000 rs → r < j → Pu.xw r rs y →
    an.L3 k j y ((r : Int) - 1) d1 d2 inn rs = some ((inn, (Pu.dV r rs y).1), (Pu.dV r rs y).2)
  | r, 0, _, _, _, _, hj, _ => by omega
  | 0, j + 1, y, rs, _, _, _, _ => by
    rw [an.nh]
    have hn : ¬ ((0 : Int) ≤ ((0 : Nat) : Int) - 1) := by omega
    simp only [↓aB, bI, bK, aZ, bj, bn, aN, aP, aQ, bt, aY, bg, aG, aH, bc, aq, aS, aW, bL, bO, bm, bk, ah, Pu.w64, Int.toNat_natCast, decide_eq_true_eq, Int.ofNat_lt, Int.ofNat_le, if_true, if_false, Int.natCast_nonneg, decide_true, decide_false, Bool.not_true, Bool.not_false, Bool.false_eq_true, Bool.not_eq_true, Bool.true_and, Bool.and_true, Bool.false_and, Bool.and_false, hn, Pu.dV]
  | r + 1, j + 1, y, rs, hr, hs, hj, hg => by
    rw [an.nh]
    have e : ((r + 1 : Nat) : Int) - 1 = (r : Int) := by omega
    have hlt : r < rs.length := by omega
    have hx := hs.at r
    have hl := hs.1
    obtain ⟨q, hq, hg⟩ := hg
    have h5 := an.uq (k := k) (k1 := j) (y := y) (inn := inn) (d1 := d1) (d2 := d2) hlt hs (rs.getD r []).length k q (by omega) (by omega) hq
    rw [e]
    unfold Pu.dV
    rw [hq]
    simp (disch := omega) only [↓aB, bI, bK, aZ, bj, bn, aN, aP, aQ, bt, aY, bg, aG, aH, bc, aq, aS, aW, bL, bO, bm, bk, ah, Pu.w64, Int.toNat_natCast, decide_eq_true_eq, Int.ofNat_lt, Int.ofNat_le, if_true, if_false, Int.natCast_nonneg, decide_true, decide_false, Bool.not_true, Bool.not_false, Bool.false_eq_true, Bool.not_eq_true, Bool.true_and, Bool.and_true, Bool.false_and, Bool.and_false, hlt, h5]
    exact an.sX hk r j _ _ (by rw [List.length_set]; omega) (hs.set r (by rw [List.length_set]; exact hx)) (by omega) hg
theorem an.uP {k k1 : Nat} {y : Int} {r : Nat} {n : Nat} {rs d2 : List (List Int)} {inn d1 : List Int} (hr : r < rs.length) (hn : r < n) (hs : Pu.cK 1000 1000 rs) : ∀ (m j q : Nat), m ≤ (rs.getD r []).length → m < j → Pu.dP (rs.getD r []) y m = some q →
    an.L4 k k1 j y r ((m : Int) - 1) 0 n d1 d2 inn rs = an.L2 k k1 ((rs.getD r []).getD q 0) ((r : Int) - 1) 0 n d1 d2 inn (rs.set r ((rs.getD r []).set q y))
  | m, 0, _, _, hj, _ => by omega
  | 0, j + 1, q, _, _, hq => by simp [Pu.dP] at hq
  | m + 1, j + 1, q, hm, hj, hq => by
    rw [an.rL]
    have hl := hs.1
    have hx := hs.at r
    have e : ((m + 1 : Nat) : Int) - 1 = (m : Int) := by omega
    have h1 : m < (rs.getD r []).length := by omega
    rw [e]
    unfold Pu.dP at hq
    by_cases c : (rs.getD r []).getD m 0 < y
    · rw [if_pos c] at hq
      injection hq with hq
      subst hq
      have c' : ¬ y ≤ (rs.getD r []).getD m 0 := by omega
      simp (disch := omega) only [↓aB, bI, bK, aZ, bj, bn, aN, aP, aQ, bt, aY, bg, aG, aH, bc, aq, aS, aW, bL, bO, bm, bk, ah, Pu.w64, Int.toNat_natCast, decide_eq_true_eq, Int.ofNat_lt, Int.ofNat_le, if_true, if_false, Int.natCast_nonneg, decide_true, decide_false, Bool.not_true, Bool.not_false, Bool.false_eq_true, Bool.not_eq_true, Bool.true_and, Bool.and_true, Bool.false_and, Bool.and_false, l6, Nat.zero_add, hr, hn, h1, c']
    · rw [if_neg c] at hq
      have c' : y ≤ (rs.getD r []).getD m 0 := by omega
      have ih := an.uP (k := k) (k1 := k1) (y := y) (inn := inn) (d1 := d1) (d2 := d2) hr hn hs m j q (by omega) (by omega) hq
      simp (disch := omega) only [↓aB, bI, bK, aZ, bj, bn, aN, aP, aQ, bt, aY, bg, aG, aH, bc, aq, aS, aW, bL, bO, bm, bk, ah, Pu.w64, Int.toNat_natCast, decide_eq_true_eq, Int.ofNat_lt, Int.ofNat_le, if_true, if_false, Int.natCast_nonneg, decide_true, decide_false, Bool.not_true, Bool.not_false, Bool.false_eq_true, Bool.not_eq_true, Bool.true_and, Bool.and_true, Bool.false_and, Bool.and_false, l6, Nat.zero_add, hr, hn, h1, c', ih]
theorem an.sJ {k : Nat} {n : Nat} {inn d1 : List Int} {d2 : List (List Int)} (hk : 2000 ≤ k) : ∀ (r j : Nat) (y : Int) (rs : List (List Int)), r ≤ rs.length → r ≤ n → Pu.cK 1000 1000 rs → r < j → Pu.xw r rs y →
    an.L2 k j y ((r : Int) - 1) 0 n d1 d2 inn rs = some ((inn, (Pu.dV r rs y).1.take n), (Pu.dV r rs y).2)
  | r, 0, _, _, _, _, _, hj, _ => by omega
  | 0, j + 1, y, rs, _, _, _, _, _ => by
    rw [an.ic]
    have hn : ¬ ((0 : Int) ≤ ((0 : Nat) : Int) - 1) := by omega
    simp only [↓aB, bI, bK, aZ, bj, bn, aN, aP, aQ, bt, aY, bg, aG, aH, bc, aq, aS, aW, bL, bO, bm, bk, ah, Pu.w64, Int.toNat_natCast, decide_eq_true_eq, Int.ofNat_lt, Int.ofNat_le, if_true, if_false, Int.natCast_nonneg, decide_true, decide_false, Bool.not_true, Bool.not_false, Bool.false_eq_true, Bool.not_eq_true, Bool.true_and, Bool.and_true, Bool.false_and, Bool.and_false, hn, Pu.dV, List.drop_zero]
  | r + 1, j + 1, y, rs, hr, hrn, hs, hj, hg => by
    rw [an.ic]
    have e : ((r + 1 : Nat) : Int) - 1 = (r : Int) := by omega
    have hlt : r < rs.length := by omega
    have hn : r < n := by omega
    have hx := hs.at r
    have hl := hs.1
    obtain ⟨q, hq, hg⟩ := hg
    have h5 := an.uP (k := k) (k1 := j) (y := y) (inn := inn) (d1 := d1) (d2 := d2) (n := n) hlt hn hs (rs.getD r []).length k q (by omega) (by omega) hq
    rw [e]
    unfold Pu.dV
    rw [hq]
    simp (disch := omega) only [↓aB, bI, bK, aZ, bj, bn, aN, aP, aQ, bt, aY, bg, aG, aH, bc, aq, aS, aW, bL, bO, bm, bk, ah, Pu.w64, Int.toNat_natCast, decide_eq_true_eq, Int.ofNat_lt, Int.ofNat_le, if_true, if_false, Int.natCast_nonneg, decide_true, decide_false, Bool.not_true, Bool.not_false, Bool.false_eq_true, Bool.not_eq_true, Bool.true_and, Bool.and_true, Bool.false_and, Bool.and_false, l6, Nat.zero_add, hlt, hn, h5]
    exact an.sJ hk r j _ _ (by rw [List.length_set]; omega) (by omega) (hs.set r (by rw [List.length_set]; exact hx)) (by omega) hg
theorem an.is {k : Nat} {t : Pu.Tab} {n : Nat} (hk : 4194304 + 3 ≤ k) (h1 : t.1.length ≤ 1048576) (hs : Pu.cK 9 9 t.2) (hn : n < t.2.length) (hl : 1 ≤ (t.2.getD n []).length)
    (hg : Pu.xw n (t.2.set n ((t.2.getD n []).take ((t.2.getD n []).length - 1))) ((t.2.getD n []).getD ((t.2.getD n []).length - 1) 0)) :
    an k t n = some ((t.1, (Pu.bT t.2 n).1), (Pu.bT t.2 n).2) := by
  obtain ⟨k, rfl⟩ : ∃ k', k = k' + 1 := ⟨k - 1, by omega⟩
  have h9 := hs.1
  have hx := hs.at n
  have hcp := cm.is (k := k) (t := t) (by omega) h1 (by omega) (fun r hr => by have := hs.2 r hr; omega)
  rw [an.eq, show ((t.1, t.2) : Pu.Tab) = t from rfl, hcp, ah]
  obtain ⟨inn, rs⟩ := t
  dsimp only at *
  have hs' : Pu.cK 1000 1000 (rs.set n ((rs.getD n []).take ((rs.getD n []).length - 1))) := (hs.mono (by omega) (by omega)).set n (by rw [List.length_take]; omega)
  have ew : IntKind.i64.wrap (((rs.getD n []).length : Int) - 1) = (((rs.getD n []).length - 1 : Nat) : Int) := by rw [Pu.w64 (by omega) (by omega)]; omega
  have h3 := fun d1 d2 => an.sX (k := k) (inn := inn) (d1 := d1) (d2 := d2) (by omega) n k ((rs.getD n []).getD ((rs.getD n []).length - 1) 0) _ (by rw [List.length_set]; omega) hs' (by omega) hg
  have h2 := fun d1 d2 => an.sJ (k := k) (n := n) (inn := inn) (d1 := d1) (d2 := d2) (by omega) n k ((rs.getD n []).getD ((rs.getD n []).length - 1) 0) _ (by rw [List.length_set]; omega) (by omega) hs' (by omega) hg
  have q1 : (rs.getD n []).length - 1 < (rs.getD n []).length := by omega
  have q2 : (rs.getD n []).length - 1 ≤ (rs.getD n []).length := by omega
  have q3 : n ≤ (rs.set n ((rs.getD n []).take ((rs.getD n []).length - 1))).length := by rw [List.length_set]; omega
  unfold Pu.bT
  by_cases c : (rs.getD n []).length = 1
  · have c' : (((rs.getD n []).length - 1 : Nat) : Int) = 0 := by omega
    rw [if_pos c]
    simp (disch := omega) only [↓aB, bI, bK, aZ, bj, bn, aN, aP, aQ, bt, aY, bg, aG, aH, bc, aq, aS, aW, bL, bO, bm, bk, ah, Pu.w64, Int.toNat_natCast, decide_eq_true_eq, Int.ofNat_lt, Int.ofNat_le, if_true, if_false, Int.natCast_nonneg, decide_true, decide_false, Bool.not_true, Bool.not_false, Bool.false_eq_true, Bool.not_eq_true, Bool.true_and, Bool.and_true, Bool.false_and, Bool.and_false, lB, Nat.sub_zero, List.drop_zero, hn, ew, q1, q2, q3, an.fF, h2]
    simp only [c', decide_true, if_true]
  · have c' : ¬ (((rs.getD n []).length - 1 : Nat) : Int) = 0 := by omega
    simp (disch := omega) only [↓aB, bI, bK, aZ, bj, bn, aN, aP, aQ, bt, aY, bg, aG, aH, bc, aq, aS, aW, bL, bO, bm, bk, ah, Pu.w64, Int.toNat_natCast, decide_eq_true_eq, Int.ofNat_lt, Int.ofNat_le, if_true, if_false, Int.natCast_nonneg, decide_true, decide_false, Bool.not_true, Bool.not_false, Bool.false_eq_true, Bool.not_eq_true, Bool.true_and, Bool.and_true, Bool.false_and, Bool.and_false, lB, Nat.sub_zero, List.drop_zero, hn, ew, q1, q2, q3, c, c', an.gH, h3]
theorem aR.A0 {k : Nat} {q : Pu.Tab} {inn : List Int} {m : Nat} {P Q : List (List Int)} (hk : 4194304 + 40 ≤ k) (hq : Pu.a8 q = true) (hs : Pu.dI q = true) (hin : inn.length ≤ 1048576) (h : Pu.Unr q (m + 1) P Q) :
    ∃ a : Nat, Pu.rowOf q ((m + 1 : Nat) : Int) = a ∧ a9 k q ((m + 1 : Nat) : Int) = some (a : Int) ∧ an k (inn, P) a = some ((inn, (Pu.bT P a).1), (Pu.bT P a).2) ∧ Pu.Unr q m (Pu.bT P a).1 (Pu.b7 Q a) := by
  obtain ⟨a, a1, a2, a3, _, _, a6⟩ := h.step
  have hz := Pu.dw hq
  have hz1 := hz.1
  have hro := a9.is (k := k) (t := q) (n := ((m + 1 : Nat) : Int)) (by omega) (by rw [Pu.cw hq]; simp) (by omega) (fun r hr => by have := hz.2 r hr; omega)
  rw [if_pos hs, a1] at hro
  have hP1 : a < P.length := by rw [h.same.1]; exact a2
  have hP2 : 1 ≤ (P.getD a []).length := by rw [h.same.2]; exact a3
  exact ⟨a, a1, hro, an.is (by omega) hin h.p9 hP1 hP2 (Pu.yX h.col hP1 hP2), a6⟩
theorem aR.lK {k : Nat} {q : Pu.Tab} {x1 : List Int} {inn : List Int} (hk : 4194304 + 40 ≤ k) (hq : Pu.a8 q = true) (hs : Pu.dI q = true) (hin : inn.length ≤ 1048576) : ∀ (m j : Nat) (out : List Int) (P Q : List (List Int)), Pu.Unr q m P Q → m < j → m ≤ out.length → m ≤ 9 →
    aR.L2 k j m out q.1 q.2 inn P = some (Pu.wop q m P ++ out.drop m, true)
  | m, 0, out, P, Q, _, hj, _, _ => by omega
  | 0, j + 1, out, P, Q, _, _, _, _ => by
    rw [aR.ic]
    have hn : ¬ (1 : Int) ≤ ((0 : Nat) : Int) := by omega
    exact Pu.tX hn rfl
  | m + 1, j + 1, out, P, Q, h, hj, ho, h9 => by
    obtain ⟨a, a1, a2, a3, a4⟩ := aR.A0 (inn := inn) hk hq hs hin h
    have ih := aR.lK (x1 := x1) hk hq hs hin m j (out.set m (Pu.bT P a).2) (Pu.bT P a).1 (Pu.b7 Q a) a4 (by omega) (by rw [List.length_set]; omega) (by omega)
    rw [aR.ic, show ((q.1, q.2) : Pu.Tab) = q from rfl]
    have hn : (1 : Int) ≤ ((m + 1 : Nat) : Int) := by omega
    have hw : IntKind.i64.wrap (((m + 1 : Nat) : Int) - 1) = (m : Int) := by rw [Pu.w64 (by omega) (by omega)]; omega
    have hlt : m < out.length := by omega
    refine Pu.tG hn (Pu.bE a2 (Pu.bE a3 ?_))
    simp only [aQ, aN, aW, aq, aY, hw, Int.toNat_natCast]
    refine Pu.tG (Int.natCast_nonneg m) (Pu.tG hlt (Pu.tG hlt ?_))
    rw [ih, show Pu.wop q (m + 1) P = Pu.wop q m (Pu.bT P (Pu.rowOf q ((m + 1 : Nat) : Int)).toNat).1 ++ [(Pu.bT P (Pu.rowOf q ((m + 1 : Nat) : Int)).toNat).2] from rfl]
    rw [a1, Int.toNat_natCast, Pu.drop_cons (show m < (out.set m (Pu.bT P a).2).length by rw [List.length_set]; exact hlt) 0, Pu.ar (by rw [List.length_set]; exact hlt), List.getElem_set_self, List.drop_set_of_lt (by omega), List.append_assoc, List.singleton_append]
theorem aR.m9 {k : Nat} {q : Pu.Tab} {inn : List Int} (hk : 4194304 + 40 ≤ k) (hq : Pu.a8 q = true) (hs : Pu.dI q = true) (hin : inn.length ≤ 1048576) {m j : Nat} {out : List Int} {P Q : List (List Int)} (h : Pu.Unr q m P Q) (hj : m < j) (ho : m ≤ out.length) (h9 : m ≤ 9) :
    aR.L1 k j m out q.1 q.2 inn P = some (Pu.wop q m P ++ out.drop m, true) := by
  obtain ⟨j, rfl⟩ : ∃ j', j = j' + 1 := ⟨j - 1, by omega⟩
  cases m with
  | zero =>
    rw [aR.dq]
    have hn : ¬ (1 : Int) ≤ ((0 : Nat) : Int) := by omega
    exact Pu.tX hn rfl
  | succ m =>
    have h2 := aR.lK (x1 := []) hk hq hs hin (m + 1) (j + 1) out P Q h hj ho h9
    rw [aR.ic] at h2
    rw [aR.dq]
    exact h2
theorem aR.is {k : Nat} {p q : Pu.Tab} (hk : 4194304 + 50 ≤ k) (hp : Pu.jY p) (hq : Pu.jY q) : aR k p q = some (Pu.kV p q) := by
  obtain ⟨k, rfl⟩ : ∃ k', k = k' + 1 := ⟨k - 1, by omega⟩
  have e1 : ((p.1, p.2) : Pu.Tab) = p := rfl
  have e2 : ((q.1, q.2) : Pu.Tab) = q := rfl
  have hs1 := bp.is (k := k) (t := p) (by omega) hp.1 hp.2.1 hp.2.2
  have hs2 := bp.is (k := k) (t := q) (by omega) hq.1 hq.2.1 hq.2.2
  have hl1 := cX.is (k := k) (t := p) (by omega) hp.1 hp.2.1 hp.2.2
  have hl2 := cX.is (k := k) (t := q) (by omega) hq.1 hq.2.1 hq.2.2
  have hst := bo.is (k := k) (t := q) (by omega) hq.1 hq.2.1 hq.2.2
  have shp : ∀ t : Pu.Tab, Pu.a8 t = true → Pu.shapeOf t = ((Pu.outer t, []), true) := fun t h => by
    have h' := h
    simp only [Pu.a8, Bool.and_eq_true] at h'
    unfold Pu.shapeOf
    rw [if_pos (Pu.iE h'.1), Pu.cw h]
  have shn : ∀ t : Pu.Tab, (Pu.shapeOf t).2 = false → ¬ Pu.a8 t = true := fun t h h' => by rw [shp t h'] at h; cases h
  rw [aR.eq, e1, e2]
  refine Pu.bE hs1 (Pu.bE hs2 ?_)
  unfold Pu.kV
  cases c1 : (Pu.shapeOf p).2 with
  | false => rw [if_neg (fun h => shn p c1 h.1)]; exact Pu.tM rfl
  | true =>
    refine Pu.tN ?_
    cases c2 : (Pu.shapeOf q).2 with
    | false => rw [if_neg (fun h => shn q c2 h.2.1)]; exact Pu.tM rfl
    | true =>
      refine Pu.tN (Pu.bE hl1 ?_)
      cases c3 : Pu.a8 p with
      | false => rw [if_neg (fun h => by cases h.1)]; exact Pu.tM rfl
      | true =>
        refine Pu.tN (Pu.bE hl2 ?_)
        cases c4 : Pu.a8 q with
        | false => rw [if_neg (fun h => by cases h.2.1)]; exact Pu.tM rfl
        | true =>
          refine Pu.tN (Pu.bE hst ?_)
          cases c5 : Pu.dI q with
          | false => rw [if_neg (fun h => by cases h.2.2.1)]; exact Pu.tM rfl
          | true =>
            rw [shp p c3, shp q c4]
            have hpr := Pu.dw c3
            have hpr1 := hpr.1
            have hes := dh.is (k := k) (a := (Pu.outer p, [])) (b := (Pu.outer q, [])) (by omega) (by simp only [Pu.cp]; omega) (by simp)
            refine Pu.tN (Pu.bE hes ?_)
            by_cases c6 : Pu.outer p = Pu.outer q
            · rw [if_pos ⟨rfl, rfl, rfl, c6⟩, decide_eq_true (by rw [c6])]
              refine Pu.tN ?_
              have hpo := Pu.fU c3
              have h9 := Pu.fN c4
              have hsum : Pu.fw (Pu.outer p) = (q.2.flatten.length : Int) := by rw [c6, Pu.o5 c4]
              have hsz := cE.is (k := k) (w := Pu.outer p) (by omega) (by rw [Pu.cp]; omega) (fun x hx => by have := (Pu.cI hpo).1 x hx; omega)
              rw [hsum] at hsz
              have hl := aR.m9 (k := k) (q := q) (inn := p.1) (by omega) c4 c5 hp.1 (m := q.2.flatten.length) (j := k) (out := List.replicate q.2.flatten.length 0) (Pu.oT c3 c4 c5 c6) (by omega) (by simp) h9
              rw [aR.fF]
              refine Pu.bE hsz ?_
              have hmx : q.2.flatten.length ≤ 1099511627776 := by omega
              simp only [aQ, bc, Int.toNat_natCast]
              refine Pu.tG (Int.natCast_nonneg _) (Pu.tG (Int.le_refl _) (Pu.tG hmx ?_))
              rw [hl, List.drop_of_length_le (by simp), List.append_nil]
            · rw [if_neg (fun h => c6 h.2.2.2), decide_eq_false (fun h => c6 (congrArg Prod.fst h))]
              exact Pu.tM rfl
theorem aK.inner {k k1 : Nat} {l out : List Int} {i : Nat} (hi : i < l.length) (h9 : out.length ≤ 1000) : ∀ (a j : Nat), a ≤ out.length → a < j →
    aK.L1 k k1 j i a l out = aK.J3 k k1 i (Pu.js out (l.getD i 0) a) l out
  | a, 0, _, hj => by omega
  | 0, j + 1, _, _ => by
    rw [aK.dq]
    have hn : ¬ (0 : Int) < ((0 : Nat) : Int) := by omega
    exact Pu.tX hn rfl
  | a + 1, j + 1, ha, hj => by
    have ih := aK.inner (k := k) (k1 := k1) (l := l) (out := out) hi h9 a j (by omega) (by omega)
    have hw : IntKind.i64.wrap (((a + 1 : Nat) : Int) - 1) = (a : Int) := by rw [Pu.w64 (by omega) (by omega)]; omega
    have hn : (0 : Int) < ((a + 1 : Nat) : Int) := by omega
    have hlt : a < out.length := by omega
    rw [aK.dq]
    simp only [aQ, aN, aP, bt, aW, aq, hw, Int.toNat_natCast]
    refine Pu.tG hn (Pu.tG (Int.natCast_nonneg a) (Pu.tG hlt (Pu.tG hlt (Pu.tG (Int.natCast_nonneg i) (Pu.tG hi (Pu.tG hi ?_))))))
    by_cases c : l.getD i 0 < out.getD a 0
    · refine Pu.tG c ?_
      rw [aK.mw]
      simp only [aW, aq, hw]
      rw [ih, show Pu.js out (l.getD i 0) (a + 1) = Pu.js out (l.getD i 0) a from by rw [show Pu.js out (l.getD i 0) (a + 1) = (if l.getD i 0 < out.getD a 0 then Pu.js out (l.getD i 0) a else a + 1) from rfl, if_pos c]]
    · refine Pu.tX c ?_
      rw [show Pu.js out (l.getD i 0) (a + 1) = a + 1 from by rw [show Pu.js out (l.getD i 0) (a + 1) = (if l.getD i 0 < out.getD a 0 then Pu.js out (l.getD i 0) a else a + 1) from rfl, if_neg c]]
theorem aK.loop {k : Nat} {l : List Int} (hk : 4194304 ≤ k) (h9 : l.length ≤ 500) : ∀ (m j i : Nat) (out : List Int), i + m = l.length → m < j → out.length = i → aK.L0 k j i l out = some ((l.drop i).foldl Pu.pR out)
  | m, 0, i, out, _, hj, _ => by omega
  | 0, j + 1, i, out, hi, _, _ => by
    rw [aK.bS]
    have hn : ¬ (i : Int) < l.length := by omega
    refine Pu.tX hn ?_
    rw [List.drop_of_length_le (by omega)]
    rfl
  | m + 1, j + 1, i, out, hi, hj, ho => by
    have hlt : i < l.length := by omega
    have hn : (i : Int) < l.length := by omega
    have hw : IntKind.i64.wrap ((i : Int) + 1) = ((i + 1 : Nat) : Int) := by rw [Pu.w64 (by omega) (by omega)]; omega
    have hlen : (Pu.pR out (l.getD i 0)).length = i + 1 := by rw [(Pu.ss out (l.getD i 0)).length_eq, List.length_cons, ho]
    have ih := aK.loop hk h9 m j (i + 1) (Pu.pR out (l.getD i 0)) (by omega) (by omega) hlen
    have hin := aK.inner (k := k) (k1 := j) (l := l) (out := out) hlt (by omega) out.length k (Nat.le_refl _) (by omega)
    have hp := Pu.tZ out (l.getD i 0) out.length
    rw [aK.bS]
    refine Pu.tG hn ?_
    simp only [aQ, aN, aP]
    rw [hin, aK.vd]
    have hins : Pu.pR out (l.getD i 0) = out.take (Pu.js out (l.getD i 0) out.length) ++ [l.getD i 0] ++ out.drop (Pu.js out (l.getD i 0) out.length) := rfl
    generalize Pu.js out (l.getD i 0) out.length = p at *
    simp only [aQ, aN, aP, bt, aS, aq, bg, aG, aH, lB, hw, Int.toNat_natCast, List.drop_zero, Nat.sub_zero, List.nil_append]
    have ht : (out.drop p).take (out.length - p) = out.drop p := List.take_of_length_le (by rw [List.length_drop]; omega)
    rw [ht]
    have b1 : (out.drop p).length ≤ 1099511627776 := by rw [List.length_drop]; omega
    have b2 : (out.take p ++ [l.getD i 0]).length ≤ 1099511627776 := by rw [List.length_append, List.length_take, List.length_singleton]; omega
    have b3 : (out.take p ++ [l.getD i 0] ++ out.drop p).length ≤ 1099511627776 := by rw [← hins, hlen]; omega
    refine Pu.tG (Int.natCast_nonneg p) (Pu.tG hp (Pu.tG b1 (Pu.tG (Int.natCast_nonneg p) (Pu.tG hp (Pu.tG (Int.natCast_nonneg i) (Pu.tG hlt (Pu.tG hlt (Pu.tG b2 (Pu.tG b3 ?_)))))))))
    rw [← hins, ih, Pu.drop_cons hlt 0, List.foldl_cons]
theorem aK.is {k : Nat} {l : List Int} (hk : 4194304 + 2 ≤ k) (h9 : l.length ≤ 500) : aK k l = some (Pu.nf l) := by
  obtain ⟨k, rfl⟩ : ∃ k', k = k' + 1 := ⟨k - 1, by omega⟩
  have := aK.loop (k := k) (by omega) h9 l.length k 0 [] (by omega) (by omega) rfl
  rw [aK.eq]
  exact this
theorem aE.m9 {k : Nat} {R C : Nat} {w top : List Int} (hR : R ≤ 9) (hC : C ≤ 9) : ∀ (m j i : Nat), i + m = R → m < j → aE.L1 k j R C i w top (List.replicate i (List.replicate C 0)) = aE.L2 k k 0 w top (Pu.mZ R C)
  | m, 0, i, _, hj => by omega
  | 0, j + 1, i, hi, _ => by
    have hn : ¬ (i : Int) < (R : Int) := by omega
    have e : i = R := by omega
    rw [aE.dq]
    refine Pu.tX hn ?_
    rw [e]
    rfl
  | m + 1, j + 1, i, hi, hj => by
    have hn : (i : Int) < (R : Int) := by omega
    have hw : IntKind.i64.wrap ((i : Int) + 1) = ((i + 1 : Nat) : Int) := by rw [Pu.w64 (by omega) (by omega)]; omega
    have ih := aE.m9 (k := k) (w := w) (top := top) hR hC m j (i + 1) (by omega) (by omega)
    rw [List.replicate_succ'] at ih
    have b1 : C ≤ 1099511627776 := by omega
    have b2 : (List.replicate i (List.replicate C (0 : Int)) ++ [List.replicate C 0]).length ≤ 1099511627776 := by rw [List.length_append, List.length_replicate, List.length_singleton]; omega
    rw [aE.dq]
    simp only [aQ, aN, aP, bc, aS, bg, aq, hw, Int.toNat_natCast]
    exact Pu.tG hn (Pu.tG (Int.natCast_nonneg C) (Pu.tG (Int.le_refl _) (Pu.tG b1 (Pu.tG b2 ih))))
theorem aE.lK {k : Nat} {R C : Nat} {w top : List Int} (hR : R ≤ 9) (hC : C ≤ 9) (hl : top.length = w.length) (h9 : w.length ≤ 9) : ∀ (m j i : Nat) (M : List (List Int)) (b : Int), i + m = w.length → m < j → Pu.ph R C b M → b + m ≤ 1000 →
    (∀ x ∈ (top.zip w).drop i, 1 ≤ x.1 ∧ x.1 ≤ R ∧ 1 ≤ x.2 ∧ x.2 ≤ C) → aE.L2 k j i w top M = some (Pu.yS M ((top.zip w).drop i), true)
  | m, 0, i, M, b, _, hj, _, _, _ => by omega
  | 0, j + 1, i, M, b, hi, _, _, _, _ => by
    have hn : ¬ (i : Int) < (w.length : Int) := by omega
    rw [aE.ic]
    refine Pu.tX hn ?_
    rw [List.drop_of_length_le (by rw [List.length_zip]; omega)]
    rfl
  | m + 1, j + 1, i, M, b, hi, hj, hM, hb, hx => by
    have hwi : i < w.length := by omega
    have hti : i < top.length := by omega
    have hz := Pu.yB hti hwi
    rw [hz] at hx ⊢
    obtain ⟨x1, x2, x3, x4⟩ := hx _ (List.mem_cons_self ..)
    obtain ⟨g1, g2, g3, g4, w1, w2, w3⟩ := Pu.sM hM (by omega) hR hC x1 x2 x3 x4
    have hM' := Pu.tj hM x1 x2 x3 x4
    have ih := aE.lK (k := k) hR hC hl h9 m j (i + 1) _ (b + 1) (by omega) (by omega) hM' (by omega) (fun x h => hx x (List.mem_cons_of_mem _ h))
    unfold Pu.xr at ih
    simp only at g1 g2 g3 g4 w1 w2 w3 ih
    have hn : (i : Int) < (w.length : Int) := by omega
    have i0 := Int.natCast_nonneg i
    have hw : IntKind.i64.wrap ((i : Int) + 1) = ((i + 1 : Nat) : Int) := by rw [Pu.w64 (by omega) (by omega)]; omega
    rw [aE.ic]
    simp only [aQ, aN, aP, bt, aS, aW, aY, aq, hw, Int.toNat_natCast, w1, w2, w3]
    exact Pu.tG hn (Pu.tG i0 (Pu.tG hti (Pu.tG hti (Pu.tG g1 (Pu.tG g2 (Pu.tG g2 (Pu.tG i0 (Pu.tG hwi (Pu.tG hwi (Pu.tG i0 (Pu.tG hti (Pu.tG hti (Pu.tG g1 (Pu.tG g2 (Pu.tG g2 (Pu.tG i0 (Pu.tG hwi (Pu.tG hwi (Pu.tG g2 (Pu.tG g3 (Pu.tG g4 (Pu.tG g2 (Pu.tG g4 (Pu.tG g2 (Pu.tG g3 (Pu.tG g4 (Pu.tG g2 (Pu.tG g4 ih))))))))))))))))))))))))))))
theorem aE.is {k : Nat} {p q : Pu.Tab} {r c : Int} (hk : 4194304 + 80 ≤ k) (hp : Pu.jY p) (hq : Pu.jY q) : aE k p q r c = some (Pu.eI p q r c) := by
  obtain ⟨k, rfl⟩ : ∃ k', k = k' + 1 := ⟨k - 1, by omega⟩
  have e1 : ((p.1, p.2) : Pu.Tab) = p := rfl
  have e2 : ((q.1, q.2) : Pu.Tab) = q := rfl
  have hs1 := bp.is (k := k) (t := p) (by omega) hp.1 hp.2.1 hp.2.2
  have hs2 := bp.is (k := k) (t := q) (by omega) hq.1 hq.2.1 hq.2.2
  have hl1 := cX.is (k := k) (t := p) (by omega) hp.1 hp.2.1 hp.2.2
  have hl2 := cX.is (k := k) (t := q) (by omega) hq.1 hq.2.1 hq.2.2
  have hi1 := dZ.is (k := k) (x := r) (lo := 1) (hi := 9) (by omega)
  have hi2 := dZ.is (k := k) (x := c) (lo := 1) (hi := 9) (by omega)
  have shp : ∀ t : Pu.Tab, Pu.a8 t = true → Pu.shapeOf t = ((Pu.outer t, []), true) := fun t h => by
    have h' := h
    simp only [Pu.a8, Bool.and_eq_true] at h'
    unfold Pu.shapeOf
    rw [if_pos (Pu.iE h'.1), Pu.cw h]
  have shn : ∀ t : Pu.Tab, (Pu.shapeOf t).2 = false → ¬ Pu.a8 t = true := fun t h h' => by rw [shp t h'] at h; cases h
  rw [aE.eq, e1, e2]
  refine Pu.bE hs1 (Pu.bE hs2 ?_)
  unfold Pu.eI
  cases c1 : (Pu.shapeOf p).2 with
  | false => rw [if_neg (fun h => shn p c1 h.1)]; exact Pu.tM rfl
  | true =>
    refine Pu.tN ?_
    cases c2 : (Pu.shapeOf q).2 with
    | false => rw [if_neg (fun h => shn q c2 h.2.1)]; exact Pu.tM rfl
    | true =>
      refine Pu.tN (Pu.bE hl1 ?_)
      cases c3 : Pu.a8 p with
      | false => rw [if_neg (fun h => by cases h.1)]; exact Pu.tM rfl
      | true =>
        refine Pu.tN (Pu.bE hl2 ?_)
        cases c4 : Pu.a8 q with
        | false => rw [if_neg (fun h => by cases h.2.1)]; exact Pu.tM rfl
        | true =>
          rw [shp p c3, shp q c4]
          have hpr := Pu.dw c3
          have hpr1 := hpr.1
          have hqr := Pu.dw c4
          have hqr1 := hqr.1
          have hes := dh.is (k := k) (a := (Pu.outer p, [])) (b := (Pu.outer q, [])) (by omega) (by simp only [Pu.cp]; omega) (by simp)
          refine Pu.tN (Pu.bE hes ?_)
          by_cases c6 : Pu.outer p = Pu.outer q
          · rw [decide_eq_true (by rw [c6])]
            refine Pu.tN (Pu.bE hi1 ?_)
            by_cases c7 : 1 ≤ r ∧ r ≤ 9
            · rw [show Pu.within r 1 9 = true by unfold Pu.within; rw [decide_eq_true c7.1, decide_eq_true c7.2]; rfl]
              refine Pu.tN (Pu.bE hi2 ?_)
              by_cases c8 : 1 ≤ c ∧ c ≤ 9
              · rw [show Pu.within c 1 9 = true by unfold Pu.within; rw [decide_eq_true c8.1, decide_eq_true c8.2]; rfl]
                have h9p := Pu.fN c3
                have h9q := Pu.fN c4
                have hn1 := bC.is (k := k) (t := q) (by omega) hq.2.1 (by omega)
                have hn2 := bC.is (k := k) (t := p) (by omega) hp.2.1 (by omega)
                have hm1 := b8.is (k := k) (l := q.2.flatten) (by omega) (by omega)
                have hm2 := b8.is (k := k) (l := p.2.flatten) (by omega) (by omega)
                refine Pu.tN (Pu.bE hn1 (Pu.bE hm1 ?_))
                by_cases c9 : Pu.mc 0 q.2.flatten ≤ r
                · refine Pu.tX (by omega) (Pu.bE hn2 (Pu.bE hm2 ?_))
                  by_cases c10 : Pu.mc 0 p.2.flatten ≤ c
                  · rw [if_pos ⟨rfl, rfl, c6, c7, c8, c9, c10⟩]
                    obtain ⟨a1, a2, a3, a4, a5, a6, a7⟩ := Pu.rJ c3 c4 c6 c9 c10
                    have har := Pu.dw a1
                    have har1 : (Pu.jf q.2).length ≤ 9 := har.1
                    have hst := af.is (k := k) (q := q) (by omega) c4
                    have hwp := aR.is (k := k) (p := p) (q := ([], Pu.jf q.2)) (by omega) hp ⟨by simp, by simp only; omega, fun x hx => by have := har.2 x hx; omega⟩
                    have hwo : Pu.kV p ([], Pu.jf q.2) = (Pu.wop ([], Pu.jf q.2) q.2.flatten.length p.2, true) := by
                      unfold Pu.kV
                      rw [if_pos ⟨c3, a1, a2, a3⟩, a4]
                    rw [hwo] at hwp
                    have hso := aK.is (k := k) (l := q.2.flatten) (by omega) (by omega)
                    refine Pu.tX (by omega) ?_
                    rw [aE.fF, e1, e2]
                    refine Pu.bE hst (Pu.bE hwp (Pu.bE hn1 (Pu.bE hso ?_)))
                    obtain ⟨R, rfl⟩ : ∃ R : Nat, r = R := ⟨r.toNat, by omega⟩
                    obtain ⟨C, rfl⟩ : ∃ C : Nat, c = C := ⟨c.toNat, by omega⟩
                    have hwl := Pu.qa ([], Pu.jf q.2) q.2.flatten.length p.2
                    have q1 := aE.m9 (k := k) (R := R) (C := C) (w := Pu.wop ([], Pu.jf q.2) q.2.flatten.length p.2) (top := Pu.nf q.2.flatten) (by omega) (by omega) R k 0 (by omega) (by omega)
                    have q2 := aE.lK (k := k) (R := R) (C := C) (w := Pu.wop ([], Pu.jf q.2) q.2.flatten.length p.2) (top := Pu.nf q.2.flatten) (by omega) (by omega) (by rw [a5, hwl]) (by rw [hwl]; exact h9q) q.2.flatten.length k 0 (Pu.mZ R C) 0 (by rw [hwl]; omega) (by omega) (Pu.qC R C) (by omega) (by rw [List.drop_zero]; exact a7)
                    rw [List.drop_zero] at q2
                    rw [Int.toNat_natCast, Int.toNat_natCast]
                    exact q1.trans q2
                  · rw [if_neg (fun h => c10 h.2.2.2.2.2.2)]
                    exact Pu.tG (by omega) rfl
                · rw [if_neg (fun h => c9 h.2.2.2.2.2.1)]
                  exact Pu.tG (by omega) rfl
              · rw [show Pu.within c 1 9 = false by unfold Pu.within; rw [Bool.and_eq_false_iff, decide_eq_false_iff_not, decide_eq_false_iff_not]; omega, if_neg (fun h => c8 h.2.2.2.2.1)]
                exact Pu.tM rfl
            · rw [show Pu.within r 1 9 = false by unfold Pu.within; rw [Bool.and_eq_false_iff, decide_eq_false_iff_not, decide_eq_false_iff_not]; omega, if_neg (fun h => c7 h.2.2.2.1)]
              exact Pu.tM rfl
          · rw [if_neg (fun h => c6 h.2.2.1), decide_eq_false (fun h => c6 (congrArg Prod.fst h))]
            exact Pu.tM rfl
theorem cJ.is {k : Nat} {x lo hi : Int} (hk : 1 ≤ k) : cJ k x lo hi = some (Pu.within x lo hi) := by
  obtain ⟨k, rfl⟩ : ∃ k', k = k' + 1 := ⟨k - 1, by omega⟩
  rw [cJ.eq]
  by_cases h : lo ≤ x <;> simp [Pu.within, h]
theorem aU.loop {k : Nat} {p : List Int} (hk : 4194304 ≤ k) (hp : p.length ≤ 1048576) : ∀ (m j i : Nat) (s v : Int), i + m = p.length → m < j → (i = 0 → v = 9) → (0 < i → v = p.getD (i - 1) 0) → v ≤ 9 → 0 ≤ s → s ≤ 9 →
    aU.L0 k j s p.length i p = some (Pu.fj (p.drop i) v s)
  | m, 0, i, s, v, _, hj, _, _, _, _, _ => by omega
  | 0, j + 1, i, s, v, hi, _, _, _, _, _, _ => by
    rw [aU.bS]
    have e : i = p.length := by omega
    subst e
    simp [Pu.fj]
  | m + 1, j + 1, i, s, v, hi, hj, h0, h1, hv, hs, hs9 => by
    rw [aU.bS]
    have hlt : i < p.length := by omega
    have hj1 : ∀ x : Int, x = p.getD i 0 → 1 ≤ x → x ≤ v → aU.J1 k j s x p.length i p = some (decide (s + x ≤ 9) && Pu.fj (p.drop (i + 1)) x (s + x)) := by
      intro x hx hx1 hx2
      rw [aU.gH]
      simp (disch := omega) only [↓aB, bI, bK, aZ, bj, bn, aN, aP, aQ, bt, aY, bg, aG, aH, bc, aq, aS, aW, bL, bO, bm, bk, ah, Pu.w64, Int.toNat_natCast, decide_eq_true_eq, Int.ofNat_lt, Int.ofNat_le, if_true, if_false, Int.natCast_nonneg, decide_true, decide_false, Bool.not_true, Bool.not_false, Bool.false_eq_true, Bool.not_eq_true, Bool.true_and, Bool.and_true, Bool.false_and, Bool.and_false]
      by_cases c : 9 < s + x
      · have : ¬ s + x ≤ 9 := by omega
        simp [c, this]
      · have c' : s + x ≤ 9 := by omega
        have ih := aU.loop hk hp m j (i + 1) (s + x) x (by omega) (by omega) (by omega) (by simp [hx]) (by omega) (by omega) c'
        rw [Int.natCast_succ] at ih
        simp [c, c', ih]
    rw [Pu.drop_cons hlt 0]
    simp (disch := omega) only [↓aB, bI, bK, aZ, bj, bn, aN, aP, aQ, bt, aY, bg, aG, aH, bc, aq, aS, aW, bL, bO, bm, bk, ah, Pu.w64, Int.toNat_natCast, decide_eq_true_eq, Int.ofNat_lt, Int.ofNat_le, if_true, if_false, Int.natCast_nonneg, decide_true, decide_false, Bool.not_true, Bool.not_false, Bool.false_eq_true, Bool.not_eq_true, Bool.true_and, Bool.and_true, Bool.false_and, Bool.and_false, hlt, cJ.is, Pu.fj]
    generalize hx : p.getD i 0 = x at *
    unfold Pu.within
    by_cases c1 : 1 ≤ x
    · by_cases c2 : x ≤ v
      · have c3 : x ≤ 9 := by omega
        have hj := hj1 x rfl c1 c2
        by_cases hi0 : i = 0
        · have hpos : ¬ (0 : Int) < i := by omega
          simp (disch := omega) only [↓aB, bI, bK, aZ, bj, bn, aN, aP, aQ, bt, aY, bg, aG, aH, bc, aq, aS, aW, bL, bO, bm, bk, ah, Pu.w64, Int.toNat_natCast, decide_eq_true_eq, Int.ofNat_lt, Int.ofNat_le, if_true, if_false, Int.natCast_nonneg, decide_true, decide_false, Bool.not_true, Bool.not_false, Bool.false_eq_true, Bool.not_eq_true, Bool.true_and, Bool.and_true, Bool.false_and, Bool.and_false, c1, c2, c3, hpos, hj]
        · have hv' := h1 (by omega)
          have e : ((i : Int) - 1) = ((i - 1 : Nat) : Int) := by omega
          have hlt' : i - 1 < p.length := by omega
          have hge : ¬ p.getD (i - 1) 0 < x := by rw [← hv']; omega
          have hpos : (0 : Int) < i := by omega
          simp (disch := omega) only [e, ↓aB, bI, bK, aZ, bj, bn, aN, aP, aQ, bt, aY, bg, aG, aH, bc, aq, aS, aW, bL, bO, bm, bk, ah, Pu.w64, Int.toNat_natCast, decide_eq_true_eq, Int.ofNat_lt, Int.ofNat_le, if_true, if_false, Int.natCast_nonneg, decide_true, decide_false, Bool.not_true, Bool.not_false, Bool.false_eq_true, Bool.not_eq_true, Bool.true_and, Bool.and_true, Bool.false_and, Bool.and_false, hlt', c1, c2, c3, hj, hpos, hge]
      · simp only [c1, c2, ↓aB, bI, bK, aZ, bj, bn, aN, aP, aQ, bt, aY, bg, aG, aH, bc, aq, aS, aW, bL, bO, bm, bk, ah, Pu.w64, Int.toNat_natCast, decide_eq_true_eq, Int.ofNat_lt, Int.ofNat_le, if_true, if_false, Int.natCast_nonneg, decide_true, decide_false, Bool.not_true, Bool.not_false, Bool.false_eq_true, Bool.not_eq_true, Bool.true_and, Bool.and_true, Bool.false_and, Bool.and_false]
        by_cases c3 : x ≤ 9
        · have hi0 : 0 < i := by
            rcases Nat.eq_zero_or_pos i with h | h
            · have := h0 h; omega
            · exact h
          have hv' := h1 hi0
          have e : ((i : Int) - 1) = ((i - 1 : Nat) : Int) := by omega
          have hlt' : i - 1 < p.length := by omega
          have hge : p.getD (i - 1) 0 < x := by rw [← hv']; omega
          have hpos : (0 : Int) < i := by omega
          simp (disch := omega) only [e, ↓aB, bI, bK, aZ, bj, bn, aN, aP, aQ, bt, aY, bg, aG, aH, bc, aq, aS, aW, bL, bO, bm, bk, ah, Pu.w64, Int.toNat_natCast, decide_eq_true_eq, Int.ofNat_lt, Int.ofNat_le, if_true, if_false, Int.natCast_nonneg, decide_true, decide_false, Bool.not_true, Bool.not_false, Bool.false_eq_true, Bool.not_eq_true, Bool.true_and, Bool.and_true, Bool.false_and, Bool.and_false, hlt', c3, hpos, hge]
        · simp only [c3, ↓aB, bI, bK, aZ, bj, bn, aN, aP, aQ, bt, aY, bg, aG, aH, bc, aq, aS, aW, bL, bO, bm, bk, ah, Pu.w64, Int.toNat_natCast, decide_eq_true_eq, Int.ofNat_lt, Int.ofNat_le, if_true, if_false, Int.natCast_nonneg, decide_true, decide_false, Bool.not_true, Bool.not_false, Bool.false_eq_true, Bool.not_eq_true, Bool.true_and, Bool.and_true, Bool.false_and, Bool.and_false]
    · simp only [c1, ↓aB, bI, bK, aZ, bj, bn, aN, aP, aQ, bt, aY, bg, aG, aH, bc, aq, aS, aW, bL, bO, bm, bk, ah, Pu.w64, Int.toNat_natCast, decide_eq_true_eq, Int.ofNat_lt, Int.ofNat_le, if_true, if_false, Int.natCast_nonneg, decide_true, decide_false, Bool.not_true, Bool.not_false, Bool.false_eq_true, Bool.not_eq_true, Bool.true_and, Bool.and_true, Bool.false_and, Bool.and_false]
theorem aU.is {k : Nat} {p : List Int} (hk : 4194304 + 1 ≤ k) (hp : p.length ≤ 1048576) : aU k p = some (Pu.cy p) := by
  obtain ⟨k, rfl⟩ : ∃ k', k = k' + 1 := ⟨k - 1, by omega⟩
  rw [aU.eq]
  exact aU.loop (k := k) (by omega) hp p.length k 0 0 9 (by omega) (by omega) (fun _ => rfl) (by omega) (by omega) (by omega) (by omega)
theorem bY.is {k : Nat} {a : List Int} (hk : 1 ≤ k) (ha : a.length ≤ 1099511627776) : bY k a = some a := by
  obtain ⟨k, rfl⟩ : ∃ k', k = k' + 1 := ⟨k - 1, by omega⟩
  rw [bY.eq]
  by_cases h : a.length = 0
  · have : a = [] := List.eq_nil_of_length_eq_zero h
    subst this
    simp [Ak, yf]
  · simp [h, ha]
theorem fc.is {k : Nat} {p : List Int} {i : Int} (hk : 2 ≤ k) (hp : p.length ≤ 1048576) : fc k p i = some (Pu.atI p i) := by
  obtain ⟨k, rfl⟩ : ∃ k', k = k' + 1 := ⟨k - 1, by omega⟩
  rw [fc.eq, cJ.is (by omega)]
  unfold Pu.within
  by_cases h1 : 0 ≤ i
  · have h0 : ¬ i < 0 := by omega
    by_cases h2 : i ≤ (p.length : Int) - 1
    · have h4 : i.toNat < p.length := by omega
      simp (disch := omega) only [↓aB, bI, bK, aZ, bj, bn, aN, aP, aQ, bt, aY, bg, aG, aH, bc, aq, aS, aW, bL, bO, bm, bk, ah, Pu.w64, Int.toNat_natCast, decide_eq_true_eq, Int.ofNat_lt, Int.ofNat_le, if_true, if_false, Int.natCast_nonneg, decide_true, decide_false, Bool.not_true, Bool.not_false, Bool.false_eq_true, Bool.not_eq_true, Bool.true_and, Bool.and_true, Bool.false_and, Bool.and_false, h0, h1, h2, h4, Pu.atI]
    · simp (disch := omega) only [↓aB, bI, bK, aZ, bj, bn, aN, aP, aQ, bt, aY, bg, aG, aH, bc, aq, aS, aW, bL, bO, bm, bk, ah, Pu.w64, Int.toNat_natCast, decide_eq_true_eq, Int.ofNat_lt, Int.ofNat_le, if_true, if_false, Int.natCast_nonneg, decide_true, decide_false, Bool.not_true, Bool.not_false, Bool.false_eq_true, Bool.not_eq_true, Bool.true_and, Bool.and_true, Bool.false_and, Bool.and_false, h1, h2, Pu.wR (p := p) (i := i) (by omega)]
  · simp (disch := omega) only [↓aB, bI, bK, aZ, bj, bn, aN, aP, aQ, bt, aY, bg, aG, aH, bc, aq, aS, aW, bL, bO, bm, bk, ah, Pu.w64, Int.toNat_natCast, decide_eq_true_eq, Int.ofNat_lt, Int.ofNat_le, if_true, if_false, Int.natCast_nonneg, decide_true, decide_false, Bool.not_true, Bool.not_false, Bool.false_eq_true, Bool.not_eq_true, Bool.true_and, Bool.and_true, Bool.false_and, Bool.and_false, h1, Pu.qb (p := p) (i := i) (by omega)]
theorem bQ.loop {k : Nat} {q p : List Int} (hq : q.length ≤ 1048576) (hp : p.length ≤ 1048576) (hk : 4194304 + 2 ≤ k) : bQ.L1 k k q.length 0 p q = some ((List.range' 0 q.length).all fun i => decide (q.getD i 0 ≤ p.getD i 0)) := by
  have h := Pu.jS (fun j i => bQ.L1 k j q.length (i : Int) p q) q.length (fun i => decide (q.getD i 0 ≤ p.getD i 0)) (some false) (some true)
    (fun j i hi => by
      rw [bQ.dq, fc.is (by omega) hp, Pu.dM]
      simp (disch := omega) only [↓aB, bI, bK, aZ, bj, bn, aN, aP, aQ, bt, aY, bg, aG, aH, bc, aq, aS, aW, bL, bO, bm, bk, ah, Pu.w64, Int.toNat_natCast, decide_eq_true_eq, Int.ofNat_lt, Int.ofNat_le, if_true, if_false, Int.natCast_nonneg, decide_true, decide_false, Bool.not_true, Bool.not_false, Bool.false_eq_true, Bool.not_eq_true, Bool.true_and, Bool.and_true, Bool.false_and, Bool.and_false, hi, Int.natCast_add, Int.natCast_one]
      by_cases c : q.getD i 0 ≤ p.getD i 0
      · have c' : ¬ p.getD i 0 < q.getD i 0 := by omega
        simp only [c, c', ↓aB, bI, bK, aZ, bj, bn, aN, aP, aQ, bt, aY, bg, aG, aH, bc, aq, aS, aW, bL, bO, bm, bk, ah, Pu.w64, Int.toNat_natCast, decide_eq_true_eq, Int.ofNat_lt, Int.ofNat_le, if_true, if_false, Int.natCast_nonneg, decide_true, decide_false, Bool.not_true, Bool.not_false, Bool.false_eq_true, Bool.not_eq_true, Bool.true_and, Bool.and_true, Bool.false_and, Bool.and_false]
      · have c' : p.getD i 0 < q.getD i 0 := by omega
        simp only [c, c', ↓aB, bI, bK, aZ, bj, bn, aN, aP, aQ, bt, aY, bg, aG, aH, bc, aq, aS, aW, bL, bO, bm, bk, ah, Pu.w64, Int.toNat_natCast, decide_eq_true_eq, Int.ofNat_lt, Int.ofNat_le, if_true, if_false, Int.natCast_nonneg, decide_true, decide_false, Bool.not_true, Bool.not_false, Bool.false_eq_true, Bool.not_eq_true, Bool.true_and, Bool.and_true, Bool.false_and, Bool.and_false])
    (fun j => by
      rw [bQ.dq]
      simp only [↓aB, bI, bK, aZ, bj, bn, aN, aP, aQ, bt, aY, bg, aG, aH, bc, aq, aS, aW, bL, bO, bm, bk, ah, Pu.w64, Int.toNat_natCast, decide_eq_true_eq, Int.ofNat_lt, Int.ofNat_le, if_true, if_false, Int.natCast_nonneg, decide_true, decide_false, Bool.not_true, Bool.not_false, Bool.false_eq_true, Bool.not_eq_true, Bool.true_and, Bool.and_true, Bool.false_and, Bool.and_false, Nat.lt_irrefl]) q.length k 0 (by omega) (by omega)
  simp only [Int.natCast_zero] at h
  rw [h]
  cases (List.range' 0 q.length).all fun i => decide (q.getD i 0 ≤ p.getD i 0) <;> simp
theorem bQ.is {k : Nat} {q p : List Int} (hk : 4194304 + 3 ≤ k) (hq : q.length ≤ 1048576) (hp : p.length ≤ 1048576) : bQ k q p = some (Pu.dp q p) := by
  obtain ⟨k, rfl⟩ : ∃ k', k = k' + 1 := ⟨k - 1, by omega⟩
  rw [bQ.eq, aU.is (by omega) hq, ah, bQ.fF, Pu.uw]
  cases c1 : Pu.cy q with
  | false => simp only [↓aB, bI, bK, aZ, bj, bn, aN, aP, aQ, bt, aY, bg, aG, aH, bc, aq, aS, aW, bL, bO, bm, bk, ah, Pu.w64, Int.toNat_natCast, decide_eq_true_eq, Int.ofNat_lt, Int.ofNat_le, if_true, if_false, Int.natCast_nonneg, decide_true, decide_false, Bool.not_true, Bool.not_false, Bool.false_eq_true, Bool.not_eq_true, Bool.true_and, Bool.and_true, Bool.false_and, Bool.and_false]
  | true =>
    simp only [↓aB, bI, bK, aZ, bj, bn, aN, aP, aQ, bt, aY, bg, aG, aH, bc, aq, aS, aW, bL, bO, bm, bk, ah, Pu.w64, Int.toNat_natCast, decide_eq_true_eq, Int.ofNat_lt, Int.ofNat_le, if_true, if_false, Int.natCast_nonneg, decide_true, decide_false, Bool.not_true, Bool.not_false, Bool.false_eq_true, Bool.not_eq_true, Bool.true_and, Bool.and_true, Bool.false_and, Bool.and_false]
    rw [aU.is (by omega) hp, ah]
    cases c2 : Pu.cy p with
    | false => simp only [↓aB, bI, bK, aZ, bj, bn, aN, aP, aQ, bt, aY, bg, aG, aH, bc, aq, aS, aW, bL, bO, bm, bk, ah, Pu.w64, Int.toNat_natCast, decide_eq_true_eq, Int.ofNat_lt, Int.ofNat_le, if_true, if_false, Int.natCast_nonneg, decide_true, decide_false, Bool.not_true, Bool.not_false, Bool.false_eq_true, Bool.not_eq_true, Bool.true_and, Bool.and_true, Bool.false_and, Bool.and_false]
    | true =>
      simp only [↓aB, bI, bK, aZ, bj, bn, aN, aP, aQ, bt, aY, bg, aG, aH, bc, aq, aS, aW, bL, bO, bm, bk, ah, Pu.w64, Int.toNat_natCast, decide_eq_true_eq, Int.ofNat_lt, Int.ofNat_le, if_true, if_false, Int.natCast_nonneg, decide_true, decide_false, Bool.not_true, Bool.not_false, Bool.false_eq_true, Bool.not_eq_true, Bool.true_and, Bool.and_true, Bool.false_and, Bool.and_false]
      exact bQ.loop hq hp (by omega)
theorem fb.is {k : Nat} {s : List Int × List Int} (hk : 4194304 + 4 ≤ k) (hq : s.1.length ≤ 1048576) (hp : s.2.length ≤ 1048576) : fb k s = some (Pu.dp s.2 s.1) := by
  obtain ⟨k, rfl⟩ : ∃ k', k = k' + 1 := ⟨k - 1, by omega⟩
  rw [fb.eq, bQ.is (by omega) hp hq]
  rfl
theorem bG.loop {k : Nat} {t : Pu.Tab} {x3 x4 : List Int} (hk : 4194304 + 4 ≤ k) (hi : Pu.cy t.1 = true) (h2 : t.2.length ≤ 1048576) (hr : ∀ x ∈ t.2, x.length ≤ 1048576) : ∀ (m j i : Nat) (acc : List Int), i + m = t.2.length → m < j → acc.length = i →
    bG.L1 k j t.2.length i t.2 t.1 x3 x4 acc t.1 = some (if Pu.dp t.1 (acc ++ Pu.dL t.1 i (t.2.drop i)) = true then ((acc ++ Pu.dL t.1 i (t.2.drop i), t.1), true) else (([], []), false))
  | m, 0, i, acc, _, hj, _ => by omega
  | 0, j + 1, i, acc, hm, _, hacc => by
    rw [bG.dq]
    have e : i = t.2.length := by omega
    have h9 := (Pu.cI hi).2.2.1
    have hlt : ¬ i < t.2.length := by omega
    rw [fb.is (by omega) (by simp only; omega) (by simp only; omega), e]
    simp only [↓aB, bI, bK, aZ, bj, bn, aN, aP, aQ, bt, aY, bg, aG, aH, bc, aq, aS, aW, bL, bO, bm, bk, ah, Pu.w64, Int.toNat_natCast, decide_eq_true_eq, Int.ofNat_lt, Int.ofNat_le, if_true, if_false, Int.natCast_nonneg, decide_true, decide_false, Bool.not_true, Bool.not_false, Bool.false_eq_true, Bool.not_eq_true, Bool.true_and, Bool.and_true, Bool.false_and, Bool.and_false, Nat.lt_irrefl, List.drop_length, Pu.dL, List.append_nil]
    cases Pu.dp t.1 acc <;> simp
  | m + 1, j + 1, i, acc, hm, hj, hacc => by
    rw [bG.dq]
    have hlt : i < t.2.length := by omega
    have hb := Pu.fP hi i
    have h9 := (Pu.cI hi).2.2.1
    have hrow := hr t.2[i] (List.getElem_mem hlt)
    rw [← Pu.ar hlt []] at hrow
    rw [fc.is (by omega) (by omega)]
    have ih := bG.loop (x3 := x3) (x4 := x4) hk hi h2 hr m j (i + 1) (acc ++ [Pu.atI t.1 i + (t.2.getD i []).length]) (by omega) (by omega) (by simp [hacc])
    rw [Int.natCast_succ] at ih
    rw [Pu.drop_cons hlt []]
    have hl : (acc ++ [Pu.atI t.1 i + ((t.2.getD i []).length : Int)]).length ≤ 1099511627776 := by simp; omega
    simp (disch := omega) only [↓aB, bI, bK, aZ, bj, bn, aN, aP, aQ, bt, aY, bg, aG, aH, bc, aq, aS, aW, bL, bO, bm, bk, ah, Pu.w64, Int.toNat_natCast, decide_eq_true_eq, Int.ofNat_lt, Int.ofNat_le, if_true, if_false, Int.natCast_nonneg, decide_true, decide_false, Bool.not_true, Bool.not_false, Bool.false_eq_true, Bool.not_eq_true, Bool.true_and, Bool.and_true, Bool.false_and, Bool.and_false, hlt, hl, ih, Pu.dL]
    simp only [List.append_assoc, List.singleton_append, Pu.dM]
    rfl
theorem bG.is {k : Nat} {t : Pu.Tab} (hk : 4194304 + 5 ≤ k) (h1 : t.1.length ≤ 1048576) (h2 : t.2.length ≤ 1048576) (hr : ∀ x ∈ t.2, x.length ≤ 1048576) : bG k t = some (Pu.shapeOf t) := by
  obtain ⟨k, rfl⟩ : ∃ k', k = k' + 1 := ⟨k - 1, by omega⟩
  rw [bG.eq, aU.is (by omega) h1, bG.fF, bY.is (by omega) (by omega)]
  simp only [↓aB, bI, bK, aZ, bj, bn, aN, aP, aQ, bt, aY, bg, aG, aH, bc, aq, aS, aW, bL, bO, bm, bk, ah, Pu.w64, Int.toNat_natCast, decide_eq_true_eq, Int.ofNat_lt, Int.ofNat_le, if_true, if_false, Int.natCast_nonneg, decide_true, decide_false, Bool.not_true, Bool.not_false, Bool.false_eq_true, Bool.not_eq_true, Bool.true_and, Bool.and_true, Bool.false_and, Bool.and_false]
  unfold Pu.shapeOf
  cases c1 : Pu.cy t.1 with
  | false =>
    have : Pu.cQ t = false := by unfold Pu.cQ; rw [c1]; rfl
    simp only [this, ↓aB, bI, bK, aZ, bj, bn, aN, aP, aQ, bt, aY, bg, aG, aH, bc, aq, aS, aW, bL, bO, bm, bk, ah, Pu.w64, Int.toNat_natCast, decide_eq_true_eq, Int.ofNat_lt, Int.ofNat_le, if_true, if_false, Int.natCast_nonneg, decide_true, decide_false, Bool.not_true, Bool.not_false, Bool.false_eq_true, Bool.not_eq_true, Bool.true_and, Bool.and_true, Bool.false_and, Bool.and_false]
  | true =>
    by_cases c2 : t.2.length < t.1.length
    · have : Pu.cQ t = false := by
        have : ¬ t.1.length ≤ t.2.length := by omega
        unfold Pu.cQ; simp [this]
      simp only [this, c2, ↓aB, bI, bK, aZ, bj, bn, aN, aP, aQ, bt, aY, bg, aG, aH, bc, aq, aS, aW, bL, bO, bm, bk, ah, Pu.w64, Int.toNat_natCast, decide_eq_true_eq, Int.ofNat_lt, Int.ofNat_le, if_true, if_false, Int.natCast_nonneg, decide_true, decide_false, Bool.not_true, Bool.not_false, Bool.false_eq_true, Bool.not_eq_true, Bool.true_and, Bool.and_true, Bool.false_and, Bool.and_false]
    · have c2' : t.1.length ≤ t.2.length := by omega
      have hloop := bG.loop (k := k) (t := t) (x3 := []) (x4 := []) (by omega) c1 h2 hr t.2.length k 0 [] (by omega) (by omega) rfl
      rw [Int.natCast_zero] at hloop
      simp only [c2, ↓aB, bI, bK, aZ, bj, bn, aN, aP, aQ, bt, aY, bg, aG, aH, bc, aq, aS, aW, bL, bO, bm, bk, ah, Pu.w64, Int.toNat_natCast, decide_eq_true_eq, Int.ofNat_lt, Int.ofNat_le, if_true, if_false, Int.natCast_nonneg, decide_true, decide_false, Bool.not_true, Bool.not_false, Bool.false_eq_true, Bool.not_eq_true, Bool.true_and, Bool.and_true, Bool.false_and, Bool.and_false]
      rw [hloop]
      have : Pu.cQ t = Pu.dp t.1 (Pu.outer t) := by unfold Pu.cQ; simp [c1, c2']
      rw [this]
      rfl
theorem cR.is {k : Nat} {t : Pu.Tab} {r c : Int} (hk : 3 ≤ k) (hi : Pu.cy t.1 = true) (ht : t.2.length ≤ 1048576) (hr : ∀ x ∈ t.2, x.length ≤ 1048576) (h1 : -1000000000 ≤ c) (h2 : c ≤ 1000000000) : cR k t r c = some (Pu.entry t r c) := by
  obtain ⟨k, rfl⟩ : ∃ k', k = k' + 1 := ⟨k - 1, by omega⟩
  have hb := Pu.fP hi r
  have h9 := (Pu.cI hi).2.2.1
  rw [cR.eq, cJ.is (by omega)]
  unfold Pu.entry Pu.within
  by_cases c1 : r < 0
  · have c1' : ¬ 0 ≤ r := by omega
    simp (disch := omega) only [↓aB, bI, bK, aZ, bj, bn, aN, aP, aQ, bt, aY, bg, aG, aH, bc, aq, aS, aW, bL, bO, bm, bk, ah, Pu.w64, Int.toNat_natCast, decide_eq_true_eq, Int.ofNat_lt, Int.ofNat_le, if_true, if_false, Int.natCast_nonneg, decide_true, decide_false, Bool.not_true, Bool.not_false, Bool.false_eq_true, Bool.not_eq_true, Bool.true_and, Bool.and_true, Bool.false_and, Bool.and_false, c1, c1']
  · have c3 : 0 ≤ r := by omega
    by_cases c2 : (t.2.length : Int) ≤ r
    · have c2' : ¬ r ≤ (t.2.length : Int) - 1 := by omega
      simp (disch := omega) only [↓aB, bI, bK, aZ, bj, bn, aN, aP, aQ, bt, aY, bg, aG, aH, bc, aq, aS, aW, bL, bO, bm, bk, ah, Pu.w64, Int.toNat_natCast, decide_eq_true_eq, Int.ofNat_lt, Int.ofNat_le, if_true, if_false, Int.natCast_nonneg, decide_true, decide_false, Bool.not_true, Bool.not_false, Bool.false_eq_true, Bool.not_eq_true, Bool.true_and, Bool.and_true, Bool.false_and, Bool.and_false, c1, c3, c2, c2']
    · have c2' : r ≤ (t.2.length : Int) - 1 := by omega
      have c4 : r.toNat < t.2.length := by omega
      have hx := hr _ (List.getElem_mem c4)
      rw [← Pu.ar c4 []] at hx
      simp (disch := omega) only [↓aB, bI, bK, aZ, bj, bn, aN, aP, aQ, bt, aY, bg, aG, aH, bc, aq, aS, aW, bL, bO, bm, bk, ah, Pu.w64, Int.toNat_natCast, decide_eq_true_eq, Int.ofNat_lt, Int.ofNat_le, if_true, if_false, Int.natCast_nonneg, decide_true, decide_false, Bool.not_true, Bool.not_false, Bool.false_eq_true, Bool.not_eq_true, Bool.true_and, Bool.and_true, Bool.false_and, Bool.and_false, c1, c2, c2', c3, c4, fc.is]
theorem aJ.inner {k k1 : Nat} {t : Pu.Tab} {r : Nat} (hk : 4194304 ≤ k) (hi : Pu.cy t.1 = true) (ht : t.2.length ≤ 1048576) (hr : ∀ x ∈ t.2, x.length ≤ 1048576) (hlt : r < t.2.length) (n : Int) :
    aJ.L1 k k1 k r r n r r (t.2.getD r []).length 0 t.2 t.1 = if ((List.range' 0 (t.2.getD r []).length).all fun q => Pu.fB t r q) = true then aJ.L0 k k1 n ((r : Int) + 1) t.2 t.1 else some false := by
  have hx := hr _ (List.getElem_mem hlt)
  rw [← Pu.ar hlt []] at hx
  have hb := Pu.fP hi r
  have h9 := (Pu.cI hi).2.2.1
  have h := Pu.jS (fun j q => aJ.L1 k k1 j r r n r r (t.2.getD r []).length (q : Int) t.2 t.1) (t.2.getD r []).length (fun q => Pu.fB t r q) (some false) (aJ.L0 k k1 n ((r : Int) + 1) t.2 t.1)
    (fun j q hq => by
      have e3 := cR.is (k := k) (t := t) (r := (r : Int) - 1) (c := t.1.getD r 0 + q) (by omega) hi ht hr (by rw [Pu.dM] at hb; omega) (by rw [Pu.dM] at hb; omega)
      have ea := fc.is (k := k) (p := t.1) (i := r) (by omega) (by omega)
      rw [Pu.dM] at ea
      rw [Pu.dM] at hb
      rw [aJ.dq]
      simp (maxSteps := 10000000) (disch := omega) only [↓aB, bI, bK, aZ, bj, bn, aN, aP, aQ, bt, aY, bg, aG, aH, bc, aq, aS, aW, bL, bO, bm, bk, ah, Pu.w64, Int.toNat_natCast, decide_eq_true_eq, Int.ofNat_lt, Int.ofNat_le, if_true, if_false, Int.natCast_nonneg, decide_true, decide_false, Bool.not_true, Bool.not_false, Bool.false_eq_true, Bool.not_eq_true, Bool.true_and, Bool.and_true, Bool.false_and, Bool.and_false, hlt, hq, cJ.is, ea, e3, aJ.mw, Int.natCast_add, Int.natCast_one]
      unfold Pu.fB
      generalize hx0 : (t.2.getD r []).getD q 0 = x at *
      cases Pu.within x 1 9 with
      | false => simp
      | true =>
        have up : (if (0 : Int) < r then (if x ≤ Pu.entry t ((r : Int) - 1) (t.1.getD r 0 + q) then some false else aJ.L1 k k1 j r r n r r (t.2.getD r []).length ((q : Int) + 1) t.2 t.1) else aJ.L1 k k1 j r r n r r (t.2.getD r []).length ((q : Int) + 1) t.2 t.1) =
            if (decide (r = 0) || decide (Pu.entry t ((r : Int) - 1) (t.1.getD r 0 + q) < x)) = true then aJ.L1 k k1 j r r n r r (t.2.getD r []).length ((q : Int) + 1) t.2 t.1 else some false := by
          by_cases e : r = 0
          · subst e; simp
          · have e' : (0 : Int) < r := by omega
            by_cases c : x ≤ Pu.entry t ((r : Int) - 1) (t.1.getD r 0 + q)
            · have c' : ¬ Pu.entry t ((r : Int) - 1) (t.1.getD r 0 + q) < x := by omega
              simp only [e', c, c', e, if_true, if_false, decide_false, Bool.or_false, Bool.false_eq_true]
            · have c' : Pu.entry t ((r : Int) - 1) (t.1.getD r 0 + q) < x := by omega
              simp only [e', c, c', e, if_true, if_false, decide_true, decide_false, Bool.false_or]
        by_cases e : q = 0
        · have e' : ¬ (0 : Int) < q := by omega
          simp only [e', e, ↓aB, bI, bK, aZ, bj, bn, aN, aP, aQ, bt, aY, bg, aG, aH, bc, aq, aS, aW, bL, bO, bm, bk, ah, Pu.w64, Int.toNat_natCast, decide_eq_true_eq, Int.ofNat_lt, Int.ofNat_le, if_true, if_false, Int.natCast_nonneg, decide_true, decide_false, Bool.not_true, Bool.not_false, Bool.false_eq_true, Bool.not_eq_true, Bool.true_and, Bool.and_true, Bool.false_and, Bool.and_false, Bool.true_or]
          rw [e] at up
          exact up
        · have e' : (0 : Int) < q := by omega
          have eq : (q : Int) - 1 = ((q - 1 : Nat) : Int) := by omega
          have hq' : q - 1 < (t.2.getD r []).length := by omega
          simp (disch := omega) only [e', e, ↓aB, bI, bK, aZ, bj, bn, aN, aP, aQ, bt, aY, bg, aG, aH, bc, aq, aS, aW, bL, bO, bm, bk, ah, Pu.w64, Int.toNat_natCast, decide_eq_true_eq, Int.ofNat_lt, Int.ofNat_le, if_true, if_false, Int.natCast_nonneg, decide_true, decide_false, Bool.not_true, Bool.not_false, Bool.false_eq_true, Bool.not_eq_true, Bool.true_and, Bool.and_true, Bool.false_and, Bool.and_false, eq, hq', Bool.false_or]
          by_cases c : x < (t.2.getD r []).getD (q - 1) 0
          · have c' : ¬ (t.2.getD r []).getD (q - 1) 0 ≤ x := by omega
            simp only [c, c', ↓aB, bI, bK, aZ, bj, bn, aN, aP, aQ, bt, aY, bg, aG, aH, bc, aq, aS, aW, bL, bO, bm, bk, ah, Pu.w64, Int.toNat_natCast, decide_eq_true_eq, Int.ofNat_lt, Int.ofNat_le, if_true, if_false, Int.natCast_nonneg, decide_true, decide_false, Bool.not_true, Bool.not_false, Bool.false_eq_true, Bool.not_eq_true, Bool.true_and, Bool.and_true, Bool.false_and, Bool.and_false]
          · have c' : (t.2.getD r []).getD (q - 1) 0 ≤ x := by omega
            simp only [c, c', ↓aB, bI, bK, aZ, bj, bn, aN, aP, aQ, bt, aY, bg, aG, aH, bc, aq, aS, aW, bL, bO, bm, bk, ah, Pu.w64, Int.toNat_natCast, decide_eq_true_eq, Int.ofNat_lt, Int.ofNat_le, if_true, if_false, Int.natCast_nonneg, decide_true, decide_false, Bool.not_true, Bool.not_false, Bool.false_eq_true, Bool.not_eq_true, Bool.true_and, Bool.and_true, Bool.false_and, Bool.and_false]
            exact up)
    (fun j => by
      rw [aJ.dq]
      simp (maxSteps := 10000000) (disch := omega) only [↓aB, bI, bK, aZ, bj, bn, aN, aP, aQ, bt, aY, bg, aG, aH, bc, aq, aS, aW, bL, bO, bm, bk, ah, Pu.w64, Int.toNat_natCast, decide_eq_true_eq, Int.ofNat_lt, Int.ofNat_le, if_true, if_false, Int.natCast_nonneg, decide_true, decide_false, Bool.not_true, Bool.not_false, Bool.false_eq_true, Bool.not_eq_true, Bool.true_and, Bool.and_true, Bool.false_and, Bool.and_false, Nat.lt_irrefl]) (t.2.getD r []).length k 0 (by omega) (by omega)
  simp only [Int.natCast_zero] at h
  exact h
theorem aJ.is {k : Nat} {t : Pu.Tab} (hk : 4194304 + 6 ≤ k) (h1 : t.1.length ≤ 1048576) (ht : t.2.length ≤ 1048576) (hr : ∀ x ∈ t.2, x.length ≤ 1048576) : aJ k t = some (Pu.iR t) := by
  obtain ⟨k, rfl⟩ : ∃ k', k = k' + 1 := ⟨k - 1, by omega⟩
  rw [aJ.eq, bG.is (by omega) h1 ht hr, ah]
  unfold Pu.iR Pu.shapeOf
  cases hs : Pu.cQ t with
  | false => simp [hs]
  | true =>
    have hi : Pu.cy t.1 = true := by
      simp only [Pu.cQ, Bool.and_eq_true] at hs; exact hs.1
    have h := Pu.jS (fun j r => aJ.L0 k j t.2.length r t.2 t.1) t.2.length (fun r => (List.range' 0 (t.2.getD r []).length).all fun q => Pu.fB t r q) (some false) (some true)
      (fun j r hlt => by
        rw [aJ.bS]
        simp (disch := omega) only [↓aB, bI, bK, aZ, bj, bn, aN, aP, aQ, bt, aY, bg, aG, aH, bc, aq, aS, aW, bL, bO, bm, bk, ah, Pu.w64, Int.toNat_natCast, decide_eq_true_eq, Int.ofNat_lt, Int.ofNat_le, if_true, if_false, Int.natCast_nonneg, decide_true, decide_false, Bool.not_true, Bool.not_false, Bool.false_eq_true, Bool.not_eq_true, Bool.true_and, Bool.and_true, Bool.false_and, Bool.and_false, hlt, aJ.inner (k1 := j) (show 4194304 ≤ k by omega) hi ht hr hlt, Int.natCast_add, Int.natCast_one])
      (fun j => by
        rw [aJ.bS]
        simp (disch := omega) only [↓aB, bI, bK, aZ, bj, bn, aN, aP, aQ, bt, aY, bg, aG, aH, bc, aq, aS, aW, bL, bO, bm, bk, ah, Pu.w64, Int.toNat_natCast, decide_eq_true_eq, Int.ofNat_lt, Int.ofNat_le, if_true, if_false, Int.natCast_nonneg, decide_true, decide_false, Bool.not_true, Bool.not_false, Bool.false_eq_true, Bool.not_eq_true, Bool.true_and, Bool.and_true, Bool.false_and, Bool.and_false, Nat.lt_irrefl]) t.2.length k 0 (by omega) (by omega)
    simp only [Int.natCast_zero] at h
    simp only [if_true, ↓aB, bI, bK, aZ, bj, bn, aN, aP, aQ, bt, aY, bg, aG, aH, bc, aq, aS, aW, bL, bO, bm, bk, ah, Pu.w64, Int.toNat_natCast, decide_eq_true_eq, Int.ofNat_lt, Int.ofNat_le, if_true, if_false, Int.natCast_nonneg, decide_true, decide_false, Bool.not_true, Bool.not_false, Bool.false_eq_true, Bool.not_eq_true, Bool.true_and, Bool.and_true, Bool.false_and, Bool.and_false]
    rw [h]
    cases (List.range' 0 t.2.length).all fun r => (List.range' 0 (t.2.getD r []).length).all fun q => Pu.fB t r q <;> simp
theorem dS.is {k : Nat} {t : Pu.Tab} (hk : 4194304 + 7 ≤ k) (h1 : t.1.length ≤ 1048576) (ht : t.2.length ≤ 1048576) (hr : ∀ x ∈ t.2, x.length ≤ 1048576) : dS k t = some (Pu.a8 t) := by
  obtain ⟨k, rfl⟩ : ∃ k', k = k' + 1 := ⟨k - 1, by omega⟩
  rw [dS.eq, aJ.is (by omega) h1 ht hr, ah]
  unfold Pu.a8
  by_cases h : t.1.length = 0 <;> simp [h]
theorem ba.loop {k : Nat} {a b : List Int} (hl : a.length = b.length) (ha : a.length ≤ 1048576) : ∀ (m j i : Nat), i + m = a.length → m < j → ba.L0 k j a.length i a b = some (decide (a.drop i = b.drop i))
  | m, 0, i, _, hj => by omega
  | 0, j + 1, i, hi, _ => by
    rw [ba.bS]
    have e : i = a.length := by omega
    subst e
    simp [hl]
  | m + 1, j + 1, i, hi, hj => by
    rw [ba.bS]
    have h1 : i < a.length := by omega
    have h2 : i < b.length := by omega
    have ih := ba.loop (k := k) hl ha m j (i + 1) (by omega) (by omega)
    rw [Int.natCast_succ] at ih
    rw [Pu.drop_cons h1 0, Pu.drop_cons h2 0]
    by_cases e : a.getD i 0 = b.getD i 0 <;> simp (disch := omega) only [↓aB, bI, bK, aZ, bj, bn, aN, aP, aQ, bt, aY, bg, aG, aH, bc, aq, aS, aW, bL, bO, bm, bk, ah, Pu.w64, Int.toNat_natCast, decide_eq_true_eq, Int.ofNat_lt, Int.ofNat_le, if_true, if_false, Int.natCast_nonneg, decide_true, decide_false, Bool.not_true, Bool.not_false, Bool.false_eq_true, Bool.not_eq_true, Bool.true_and, Bool.and_true, Bool.false_and, Bool.and_false, h1, h2, ih, e, List.cons.injEq, true_and, false_and]
theorem ba.is {k : Nat} {a b : List Int} (hk : 4194304 + 1 ≤ k) (ha : a.length ≤ 1048576) : ba k a b = some (decide (a = b)) := by
  obtain ⟨k, rfl⟩ : ∃ k', k = k' + 1 := ⟨k - 1, by omega⟩
  rw [ba.eq]
  by_cases hl : a.length = b.length
  · have h := ba.loop (k := k) hl ha a.length k 0 (by omega) (by omega)
    rw [Int.natCast_zero] at h
    simp only [List.drop_zero] at h
    have hl' : (a.length : Int) = b.length := by omega
    have e : D.eq (a.length : Int) (b.length : Int) = true := decide_eq_true hl'
    simp only [aP, aN, e, bL, Bool.not_true, aB, Bool.false_eq_true, if_false, h]
  · have hne : a ≠ b := fun e => hl (by rw [e])
    have hl' : ¬ (a.length : Int) = b.length := by omega
    simp [hl', hne]
theorem dO.is {k : Nat} {a b : List Int × List Int} (hk : 4194304 + 2 ≤ k) (h1 : a.1.length ≤ 1048576) (h2 : a.2.length ≤ 1048576) : dO k a b = some (decide (a = b)) := by
  obtain ⟨k, rfl⟩ : ∃ k', k = k' + 1 := ⟨k - 1, by omega⟩
  obtain ⟨a1, a2⟩ := a
  obtain ⟨b1, b2⟩ := b
  rw [dO.eq, ba.is (by omega) h1, ba.is (by omega) h2]
  by_cases e : a1 = b1 <;> simp [e]
theorem dB.is {k : Nat} {a b : Pu.Tab} (hk : 4194304 + 10 ≤ k) (ha : Pu.jY a) (hb : Pu.jY b) : dB k a b = some (decide ((Pu.shapeOf a).1 = (Pu.shapeOf b).1)) := by
  obtain ⟨k, rfl⟩ : ∃ k', k = k' + 1 := ⟨k - 1, by omega⟩
  have hs : (Pu.shapeOf a).1.1.length ≤ 1048576 ∧ (Pu.shapeOf a).1.2.length ≤ 1048576 := by
    unfold Pu.shapeOf
    split
    · exact ⟨by rw [Pu.cp]; exact ha.2.1, ha.1⟩
    · simp
  rw [dB.eq, show ((a.1, a.2) : Pu.Tab) = a from rfl, show ((b.1, b.2) : Pu.Tab) = b from rfl, bG.is (by omega) ha.1 ha.2.1 ha.2.2, bG.is (by omega) hb.1 hb.2.1 hb.2.2, ah, ah]
  rw [show (((Pu.shapeOf a).1.1, (Pu.shapeOf a).1.2) : List Int × List Int) = (Pu.shapeOf a).1 from rfl, show (((Pu.shapeOf b).1.1, (Pu.shapeOf b).1.2) : List Int × List Int) = (Pu.shapeOf b).1 from rfl, dO.is (by omega) hs.1 hs.2, ah]
theorem ak.app {k : Nat} {a : List (List Int)} (ha : a.length ≤ 1048576) (hf : a.flatten.length ≤ 1099511627776) : ∀ (m j i : Nat), i + m = a.length → m < j →
    ak.L4 k j a.length i (a.take i).flatten a = some a.flatten
  | m, 0, i, _, hj => by omega
  | 0, j + 1, i, hm, _ => by
    rw [ak.rL]
    have e : i = a.length := by omega
    subst e
    simp
  | m + 1, j + 1, i, hm, hj => by
    rw [ak.rL]
    have hlt : i < a.length := by omega
    have ih := ak.app (k := k) ha hf m j (i + 1) (by omega) (by omega)
    rw [Int.natCast_succ, Pu.take_succ hlt []] at ih
    have hl : ((a.take i).flatten ++ a.getD i []).length ≤ 1099511627776 := by
      refine Nat.le_trans ?_ hf
      have e : a.flatten = (a.take i).flatten ++ (a.drop i).flatten := by rw [← List.flatten_append, List.take_append_drop]
      rw [e, Pu.drop_cons hlt []]
      simp only [List.flatten_cons, List.length_append]
      omega
    simp only [List.flatten_append, List.flatten_cons, List.flatten_nil, List.append_nil] at ih
    simp (disch := omega) only [↓aB, bI, bK, aZ, bj, bn, aN, aP, aQ, bt, aY, bg, aG, aH, bc, aq, aS, aW, bL, bO, bm, bk, ah, Pu.w64, Int.toNat_natCast, decide_eq_true_eq, Int.ofNat_lt, Int.ofNat_le, if_true, if_false, Int.natCast_nonneg, decide_true, decide_false, Bool.not_true, Bool.not_false, Bool.false_eq_true, Bool.not_eq_true, Bool.true_and, Bool.and_true, Bool.false_and, Bool.and_false, hlt, hl, ih]
theorem ak.tail {k : Nat} {a : List (List Int)} {y : List Int} (hk : 4194304 ≤ k) (ha : a.length ≤ 1048576) (hf : a.flatten.length ≤ 1099511627776) : ak.L3 k (HAdd.hAdd k 1) 0 0 a.length 0 y a = some a.flatten := by
  rw [ak.nh]
  by_cases h0 : a.length = 0
  · have : a = [] := List.eq_nil_of_length_eq_zero h0
    subst this
    simp
  · have hlt : 0 < a.length := by omega
    have h := ak.app (k := k) ha hf (a.length - 1) k 1 (by omega) (by omega)
    have e : (a.take 1).flatten = a.getD 0 [] := by rw [Pu.take_succ hlt []]; simp
    rw [e] at h
    have hl : (a.getD 0 []).length ≤ 1099511627776 := by
      refine Nat.le_trans ?_ hf
      have e2 : a.flatten = (a.take 1).flatten ++ (a.drop 1).flatten := by rw [← List.flatten_append, List.take_append_drop]
      rw [e2, e]
      simp
    have hlt' : (0 : Int) < a.length := by omega
    simp (disch := omega) only [↓aB, bI, bK, aZ, bj, bn, aN, aP, aQ, bt, aY, bg, aG, aH, bc, aq, aS, aW, bL, bO, bm, bk, ah, Pu.w64, Int.toNat_natCast, decide_eq_true_eq, Int.ofNat_lt, Int.ofNat_le, if_true, if_false, Int.natCast_nonneg, decide_true, decide_false, Bool.not_true, Bool.not_false, Bool.false_eq_true, Bool.not_eq_true, Bool.true_and, Bool.and_true, Bool.false_and, Bool.and_false, hlt, hlt', hl, List.take_zero, List.nil_append, Int.toNat_zero, Int.zero_add]
    simpa using h
theorem ak.loop {k : Nat} {a : List (List Int)} (hk : 4194304 ≤ k) (ha : a.length ≤ 1048576) (hf : a.flatten.length ≤ 1099511627776) : ∀ (m j i : Nat), i + m = a.length → m < j →
    ak.L0 k j (a.take i).flatten.length a.length i a = some a.flatten
  | m, 0, i, _, hj => by omega
  | 0, j + 1, i, hm, _ => by
    rw [ak.bS, ak.mw]
    have e : i = a.length := by omega
    subst e
    rw [List.take_length]
    have hn : ¬ ((a.flatten.length : Nat) : Int) < 0 := by omega
    simp (disch := omega) only [↓aB, bI, bK, aZ, bj, bn, aN, aP, aQ, bt, aY, bg, aG, aH, bc, aq, aS, aW, bL, bO, bm, bk, ah, Pu.w64, Int.toNat_natCast, decide_eq_true_eq, Int.ofNat_lt, Int.ofNat_le, if_true, if_false, Int.natCast_nonneg, decide_true, decide_false, Bool.not_true, Bool.not_false, Bool.false_eq_true, Bool.not_eq_true, Bool.true_and, Bool.and_true, Bool.false_and, Bool.and_false, Nat.lt_irrefl, hn, Int.sub_zero, Int.sub_self]
    by_cases h0 : a.flatten.length = 0
    · have h0' : ¬ (0 : Int) < (a.flatten.length : Nat) := by omega
      have h := ak.app (k := k) ha hf a.length (k + 1) 0 (by omega) (by omega)
      simp only [h0', ↓aB, bI, bK, aZ, bj, bn, aN, aP, aQ, bt, aY, bg, aG, aH, bc, aq, aS, aW, bL, bO, bm, bk, ah, Pu.w64, Int.toNat_natCast, decide_eq_true_eq, Int.ofNat_lt, Int.ofNat_le, if_true, if_false, Int.natCast_nonneg, decide_true, decide_false, Bool.not_true, Bool.not_false, Bool.false_eq_true, Bool.not_eq_true, Bool.true_and, Bool.and_true, Bool.false_and, Bool.and_false]
      simpa using h
    · have h0' : (0 : Int) < (a.flatten.length : Nat) := by omega
      have h1 : (1 : Int) ≤ (a.flatten.length : Nat) := by omega
      simp (disch := omega) only [h0', h1, hf, ↓aB, bI, bK, aZ, bj, bn, aN, aP, aQ, bt, aY, bg, aG, aH, bc, aq, aS, aW, bL, bO, bm, bk, ah, Pu.w64, Int.toNat_natCast, decide_eq_true_eq, Int.ofNat_lt, Int.ofNat_le, if_true, if_false, Int.natCast_nonneg, decide_true, decide_false, Bool.not_true, Bool.not_false, Bool.false_eq_true, Bool.not_eq_true, Bool.true_and, Bool.and_true, Bool.false_and, Bool.and_false, Int.toNat_zero, Nat.le_refl, Int.le_refl, List.length_replicate, Nat.zero_le, lB, Nat.sub_self]
      exact ak.tail hk ha hf
  | m + 1, j + 1, i, hm, hj => by
    rw [ak.bS]
    have hlt : i < a.length := by omega
    have ih := ak.loop (k := k) hk ha hf m j (i + 1) (by omega) (by omega)
    rw [Int.natCast_succ, Pu.take_succ hlt []] at ih
    have hl : ((a.take i).flatten ++ a.getD i []).length ≤ 1099511627776 := by
      refine Nat.le_trans ?_ hf
      have e : a.flatten = (a.take i).flatten ++ (a.drop i).flatten := by rw [← List.flatten_append, List.take_append_drop]
      rw [e, Pu.drop_cons hlt []]
      simp only [List.flatten_cons, List.length_append]
      omega
    simp only [List.flatten_append, List.flatten_cons, List.flatten_nil, List.append_nil, List.length_append, Int.natCast_add] at ih hl
    have hn : ¬ (((a.take i).flatten.length : Int) + (a.getD i []).length < 0) := by omega
    simp (disch := omega) only [↓aB, bI, bK, aZ, bj, bn, aN, aP, aQ, bt, aY, bg, aG, aH, bc, aq, aS, aW, bL, bO, bm, bk, ah, Pu.w64, Int.toNat_natCast, decide_eq_true_eq, Int.ofNat_lt, Int.ofNat_le, if_true, if_false, Int.natCast_nonneg, decide_true, decide_false, Bool.not_true, Bool.not_false, Bool.false_eq_true, Bool.not_eq_true, Bool.true_and, Bool.and_true, Bool.false_and, Bool.and_false, hlt, hn, ak.gH, ih]
theorem ak.is {k : Nat} {a : List (List Int)} (hk : 4194304 + 2 ≤ k) (ha : a.length ≤ 1048576) (hf : a.flatten.length ≤ 1099511627776) : ak k a = some a.flatten := by
  obtain ⟨k, rfl⟩ : ∃ k', k = k' + 2 := ⟨k - 2, by omega⟩
  rw [ak.eq]
  exact ak.loop (k := k) (by omega) ha hf a.length (k + 1) 0 (by omega) (by omega)
theorem bH.inner {k k1 : Nat} {x : Int} {n i : Int} {l : List Int} (h1 : 1 ≤ x) (h9 : x ≤ 1000) (Q : Option (List Int) → Prop) (hQ : ∀ out : List Int, x ≤ out.length → (out.length : Int) = (out.length : Int) → True) : ∀ (m j : Nat) (out : List Int), (out.length : Int) + m = max (out.length : Int) x → m < j →
    ∃ out' : List Int, (out'.length : Int) = max (out.length : Int) x ∧ bH.L1 k k1 j x n i out l = bH.L0 k k1 n (IntKind.i64.wrap (i + 1)) out' l
  | m, 0, _, _, hj => by omega
  | 0, j + 1, out, hm, _ => by
    have hn : ¬ (out.length : Int) < x := by omega
    have hw : IntKind.i64.wrap (x - 1) = x - 1 := Pu.w64 (by omega) (by omega)
    have g1 : 0 ≤ x - 1 := by omega
    have g2 : (x - 1).toNat < out.length := by omega
    rw [bH.dq]
    simp only [aQ, aN, aP, bt, aS, aW, aY, aq, hw]
    refine ⟨_, ?_, Pu.tX hn (Pu.tG g1 (Pu.tG g2 (Pu.tG g2 (Pu.tG g1 (Pu.tG g2 (Pu.tG g2 rfl))))))⟩
    rw [List.length_set]
    omega
  | m + 1, j + 1, out, hm, hj => by
    have hn : (out.length : Int) < x := by omega
    have hl : (out ++ [(0 : Int)]).length = out.length + 1 := by rw [List.length_append, List.length_singleton]
    obtain ⟨out', o1, o2⟩ := bH.inner (k := k) (k1 := k1) (n := n) (i := i) (l := l) h1 h9 Q hQ m j (out ++ [0]) (by rw [hl]; omega) (by omega)
    rw [hl] at o1
    have b : (out ++ [(0 : Int)]).length ≤ 1099511627776 := by rw [hl]; omega
    rw [bH.dq]
    simp only [aQ, aN, aP, bg]
    exact ⟨out', by omega, Pu.tG hn (Pu.tG b o2)⟩
theorem bH.loop {k : Nat} {l : List Int} (hk : 4194304 ≤ k) (hl : l.length ≤ 1000) (hv : ∀ v ∈ l, 1 ≤ v ∧ v ≤ 9) : ∀ (m j i : Nat) (out : List Int), i + m = l.length → m < j → out.length ≤ 9 →
    ∃ w : List Int, bH.L0 k j l.length i out l = some w ∧ (w.length : Int) = Pu.mc out.length (l.drop i)
  | m, 0, i, out, _, hj, _ => by omega
  | 0, j + 1, i, out, hi, _, _ => by
    have hn : ¬ (i : Int) < l.length := by omega
    rw [bH.bS]
    refine ⟨out, Pu.tX hn rfl, ?_⟩
    rw [List.drop_of_length_le (by omega)]
    rfl
  | m + 1, j + 1, i, out, hi, hj, ho => by
    have hlt : i < l.length := by omega
    have hn : (i : Int) < l.length := by omega
    have hx := hv (l.getD i 0) (by rw [Pu.ar hlt]; exact List.getElem_mem hlt)
    have hw : IntKind.i64.wrap ((i : Int) + 1) = ((i + 1 : Nat) : Int) := by rw [Pu.w64 (by omega) (by omega)]; omega
    obtain ⟨out', o1, o2⟩ := bH.inner (k := k) (k1 := j) (x := l.getD i 0) (n := l.length) (i := i) (l := l) hx.1 (by omega) (fun _ => True) (fun _ _ _ => trivial) (max (out.length : Int) (l.getD i 0) - out.length).toNat k out (by omega) (by omega)
    obtain ⟨w, w1, w2⟩ := bH.loop hk hl hv m j (i + 1) out' (by omega) (by omega) (by omega)
    rw [hw, w1] at o2
    rw [bH.bS]
    simp only [aQ, aN, aP, bt, Int.toNat_natCast]
    refine ⟨w, Pu.tG hn (Pu.tG (Int.natCast_nonneg i) (Pu.tG hlt (Pu.tG hlt o2))), ?_⟩
    rw [w2, o1, Pu.drop_cons hlt 0]
    rfl
theorem bH.is {k : Nat} {l : List Int} (hk : 4194304 + 2 ≤ k) (hl : l.length ≤ 1000) (hv : ∀ v ∈ l, 1 ≤ v ∧ v ≤ 9) : ∃ w : List Int, bH k l = some w ∧ (w.length : Int) = Pu.mc 0 l := by
  obtain ⟨k, rfl⟩ : ∃ k', k = k' + 1 := ⟨k - 1, by omega⟩
  have := bH.loop (k := k) (by omega) hl hv l.length k 0 [] (by omega) (by omega) (by simp)
  rw [bH.eq]
  exact this
theorem dG.is {k : Nat} {t : Pu.Tab} (hk : 4194304 + 20 ≤ k) (ht : Pu.a8 t = true) : ∃ w : List Int, dG k t = some w ∧ (w.length : Int) = Pu.mc 0 t.2.flatten := by
  obtain ⟨k, rfl⟩ : ∃ k', k = k' + 1 := ⟨k - 1, by omega⟩
  have hr := Pu.dw ht
  have h9 := Pu.fN ht
  have o1 : t.1.length ≤ 1048576 := by rw [Pu.cw ht]; simp
  have o2 : t.2.length ≤ 1048576 := by have := hr.1; omega
  have o3 : ∀ x ∈ t.2, x.length ≤ 1048576 := fun x hx => by have := hr.2 x hx; omega
  have h1 := aJ.is (k := k) (t := t) (by omega) o1 o2 o3
  have h' := ht
  simp only [Pu.a8, Bool.and_eq_true] at h'
  rw [h'.1] at h1
  have h2 := ak.is (k := k) (a := t.2) (by omega) o2 (by omega)
  obtain ⟨w, w1, w2⟩ := bH.is (k := k) (l := t.2.flatten) (by omega) (by omega) (fun v hv => by
    obtain ⟨r, x, a, b, rfl⟩ := Pu.j6 hv
    exact (Pu.fQ ht).1 r x a b)
  rw [dG.eq, show ((t.1, t.2) : Pu.Tab) = t from rfl]
  exact ⟨w, Pu.bE h1 (Pu.tN (Pu.bE h2 (Pu.bE w1 rfl))), w2⟩
theorem bw.loop {k : Nat} {t : Pu.Tab} {x3 x4 : List Int} {x5 : List (List Int)} (hk : 1 ≤ k) (ht : t.2.length ≤ 1048576) (hr : ∀ x ∈ t.2, x.length ≤ 1048576) : ∀ (m j i : Nat), i + m = t.2.length → m < j →
    bw.L0 k j t.2.length i t.2 x3 x5 x4 (t.2.take i) = some (x4, t.2)
  | m, 0, i, _, hj => by omega
  | 0, j + 1, i, hm, _ => by
    rw [bw.bS]
    have e : i = t.2.length := by omega
    subst e
    simp
  | m + 1, j + 1, i, hm, hj => by
    rw [bw.bS]
    have hlt : i < t.2.length := by omega
    have hx := hr _ (List.getElem_mem hlt)
    rw [← Pu.ar hlt []] at hx
    have ih := bw.loop (k := k) (x3 := x3) (x4 := x4) (x5 := x5) hk ht hr m j (i + 1) (by omega) (by omega)
    rw [Int.natCast_succ, Pu.take_succ hlt []] at ih
    have hl : (t.2.take i ++ [t.2.getD i []]).length ≤ 1099511627776 := by simp; omega
    simp (disch := omega) only [↓aB, bI, bK, aZ, bj, bn, aN, aP, aQ, bt, aY, bg, aG, aH, bc, aq, aS, aW, bL, bO, bm, bk, ah, Pu.w64, Int.toNat_natCast, decide_eq_true_eq, Int.ofNat_lt, Int.ofNat_le, if_true, if_false, Int.natCast_nonneg, decide_true, decide_false, Bool.not_true, Bool.not_false, Bool.false_eq_true, Bool.not_eq_true, Bool.true_and, Bool.and_true, Bool.false_and, Bool.and_false, hlt, hl, bY.is, ih]
theorem bw.is {k : Nat} {t : Pu.Tab} (hk : 4194304 + 1 ≤ k) (h1 : t.1.length ≤ 1048576) (ht : t.2.length ≤ 1048576) (hr : ∀ x ∈ t.2, x.length ≤ 1048576) : bw k t = some t := by
  obtain ⟨k, rfl⟩ : ∃ k', k = k' + 1 := ⟨k - 1, by omega⟩
  rw [bw.eq, bY.is (by omega) (by omega)]
  have h := bw.loop (k := k) (t := t) (x3 := []) (x4 := t.1) (x5 := []) (by omega) ht hr t.2.length k 0 (by omega) (by omega)
  rw [Int.natCast_zero, List.take_zero] at h
  exact h
theorem bN.loop {k : Nat} {Q : List (List Int)} {inn : List Int} {a : Nat} {K : Int} (h9 : Pu.cK 9 9 Q) (hp : ∀ r, r < Q.length → 1 ≤ (Q.getD r []).length) (ha : a < Q.length) (htop : (Q.getD a []).getD ((Q.getD a []).length - 1) 0 = K)
    (hlt : ∀ r, r < Q.length → r ≠ a → (Q.getD r []).getD ((Q.getD r []).length - 1) 0 < K ∨ ((Q.getD r []).getD ((Q.getD r []).length - 1) 0 = K ∧ (Q.getD r []).length < (Q.getD a []).length)) : ∀ (m j i b : Nat), i + m = Q.length → m < j → b < Q.length → (b = a ∨ i ≤ a) → bN.L0 k j b Q.length i Q inn = some (a : Int)
  | m, 0, i, b, _, hj, _, _ => by omega
  | 0, j + 1, i, b, hi, _, hb, hinv => by
    rw [bN.bS]
    have e : i = Q.length := by omega
    have hn : ¬ (i : Int) < Q.length := by omega
    have hba : b = a := hinv.resolve_right (by omega)
    exact Pu.tX hn (by rw [hba])
  | m + 1, j + 1, i, b, hi, hj, hb, hinv => by
    have hl9 := h9.1
    have hn : (i : Int) < Q.length := by omega
    have hil : i < Q.length := by omega
    have hri := hp i hil
    have hrb := hp b hb
    have hi9 := h9.at i
    have hb9 := h9.at b
    have wi : IntKind.i64.wrap (((Q.getD i []).length : Int) - 1) = (((Q.getD i []).length - 1 : Nat) : Int) := by rw [Pu.w64 (by omega) (by omega)]; omega
    have wb : IntKind.i64.wrap (((Q.getD b []).length : Int) - 1) = (((Q.getD b []).length - 1 : Nat) : Int) := by rw [Pu.w64 (by omega) (by omega)]; omega
    have ws : IntKind.i64.wrap ((i : Int) + 1) = ((i + 1 : Nat) : Int) := by rw [Pu.w64 (by omega) (by omega)]; omega
    have li : (Q.getD i []).length - 1 < (Q.getD i []).length := by omega
    have lb : (Q.getD b []).length - 1 < (Q.getD b []).length := by omega
    have hnext : ∀ b' : Nat, b' < Q.length → (b' = a ∨ i + 1 ≤ a) → bN.J1 k j b' Q.length i Q inn = some (a : Int) := fun b' h1 h2 => by
      rw [bN.gH, aS, aq, ws]
      exact bN.loop h9 hp ha htop hlt m j (i + 1) b' (by omega) (by omega) h1 h2
    rw [bN.bS]
    simp only [aQ, aN, aP, bt, aW, aq, Int.toNat_natCast, wi, wb]
    refine Pu.tG hn (Pu.tG (Int.natCast_nonneg i) (Pu.tG hil (Pu.tG hil (Pu.tG (Int.natCast_nonneg b) (Pu.tG hb (Pu.tG hb (Pu.tG hil (Pu.tG hil ?_))))))))
    refine Pu.tG (Int.natCast_nonneg _) (Pu.tG li (Pu.tG hil (Pu.tG li (Pu.tG hb (Pu.tG hb (Pu.tG (Int.natCast_nonneg _) (Pu.tG lb (Pu.tG hb (Pu.tG lb ?_)))))))))
    by_cases eb : b = a
    · subst eb
      by_cases ei : i = b
      · subst ei
        refine Pu.tX (Int.lt_irrefl _) (Pu.tG rfl (Pu.tG hil (Pu.tG hb (Pu.tX (Int.lt_irrefl _) (hnext i hb (.inl rfl))))))
      · by_cases c1 : (Q.getD b []).getD ((Q.getD b []).length - 1) 0 < (Q.getD i []).getD ((Q.getD i []).length - 1) 0
        · have := hlt i hil ei
          omega
        · refine Pu.tX c1 ?_
          by_cases c2 : (Q.getD i []).getD ((Q.getD i []).length - 1) 0 = (Q.getD b []).getD ((Q.getD b []).length - 1) 0
          · have := hlt i hil ei
            exact Pu.tG c2 (Pu.tG hil (Pu.tG hb (Pu.tX (by omega) (hnext b hb (.inl rfl)))))
          · exact Pu.tX c2 (hnext b hb (.inl rfl))
    · have hia : i ≤ a := hinv.resolve_left eb
      have hbK := hlt b hb eb
      by_cases ei : i = a
      · subst ei
        rcases hbK with hbK | hbK
        · exact Pu.tG (by omega) (hnext i hil (.inl rfl))
        · refine Pu.tX (by omega) (Pu.tG (by omega) (Pu.tG hil (Pu.tG hb (Pu.tG (by omega) (hnext i hil (.inl rfl))))))
      · by_cases c1 : (Q.getD b []).getD ((Q.getD b []).length - 1) 0 < (Q.getD i []).getD ((Q.getD i []).length - 1) 0
        · exact Pu.tG c1 (hnext i hil (.inr (by omega)))
        · refine Pu.tX c1 ?_
          by_cases c2 : (Q.getD i []).getD ((Q.getD i []).length - 1) 0 = (Q.getD b []).getD ((Q.getD b []).length - 1) 0
          · refine Pu.tG c2 (Pu.tG hil (Pu.tG hb ?_))
            by_cases c3 : ((Q.getD b []).length : Int) < (Q.getD i []).length
            · exact Pu.tG c3 (hnext i hil (.inr (by omega)))
            · exact Pu.tX c3 (hnext b hb (.inr (by omega)))
          · exact Pu.tX c2 (hnext b hb (.inr (by omega)))
theorem bN.is {k : Nat} {Q : List (List Int)} {inn : List Int} {a : Nat} {K : Int} (hk : 4194304 + 1 ≤ k) (h9 : Pu.cK 9 9 Q) (hp : ∀ r, r < Q.length → 1 ≤ (Q.getD r []).length) (ha : a < Q.length) (htop : (Q.getD a []).getD ((Q.getD a []).length - 1) 0 = K)
    (hlt : ∀ r, r < Q.length → r ≠ a → (Q.getD r []).getD ((Q.getD r []).length - 1) 0 < K ∨ ((Q.getD r []).getD ((Q.getD r []).length - 1) 0 = K ∧ (Q.getD r []).length < (Q.getD a []).length)) : bN k (inn, Q) = some (a : Int) := by
  obtain ⟨k, rfl⟩ : ∃ k', k = k' + 1 := ⟨k - 1, by omega⟩
  have hl9 := h9.1
  have h := bN.loop (k := k) (inn := inn) h9 hp ha htop hlt Q.length k 0 0 (by omega) (by omega) (by omega) (.inr (Nat.zero_le _))
  rw [bN.eq]
  exact h
theorem aD.loop {k : Nat} : ∀ (m j i n : Nat) (l : List (Int × Int)), n ≤ i + 2 * m → m < j → n ≤ l.length → l.length ≤ 1000 → i ≤ n → ∃ l', aD.L0 k j i ((n : Int) - 1) l = some ((), l') ∧ l'.length = l.length ∧ ∀ c, l'.getD c (0, 0) = if i ≤ c ∧ c < n then l.getD (i + n - 1 - c) (0, 0) else l.getD c (0, 0)
  | m, 0, i, n, l, _, hj, _, _, _ => by omega
  | m, j + 1, i, n, l, hm, hj, hn, hl, hin => by
    rw [aD.bS]
    by_cases c : i + 1 < n
    · have hc : (i : Int) < (n : Int) - 1 := by omega
      obtain ⟨e, he⟩ : ∃ e : Nat, n = e + 1 := ⟨n - 1, by omega⟩
      subst he
      have e1 : ((e + 1 : Nat) : Int) - 1 = (e : Int) := by omega
      rw [e1] at hc ⊢
      have hi : i < l.length := by omega
      have hel : e < l.length := by omega
      have ws : IntKind.i64.wrap ((i : Int) + 1) = ((i + 1 : Nat) : Int) := by rw [Pu.w64 (by omega) (by omega)]; omega
      have we : IntKind.i64.wrap ((e : Int) - 1) = (e : Int) - 1 := Pu.w64 (by omega) (by omega)
      have hel2 : e < (l.set i (l.getD e (0, 0))).length := by rw [List.length_set]; exact hel
      obtain ⟨m, rfl⟩ : ∃ m', m = m' + 1 := ⟨m - 1, by omega⟩
      obtain ⟨l', q1, q2, q3⟩ := aD.loop (k := k) m j (i + 1) e ((l.set i (l.getD e (0, 0))).set e (l.getD i (0, 0))) (by omega) (by omega) (by rw [List.length_set, List.length_set]; omega) (by rw [List.length_set, List.length_set]; exact hl) (by omega)
      refine ⟨l', ?_, by rw [q2, List.length_set, List.length_set], fun c => ?_⟩
      · simp only [aQ, aN, bt, aY, aS, aW, aq, Int.toNat_natCast, ws, we]
        rw [show (((l.getD e (0, 0)).1, (l.getD e (0, 0)).2) : Int × Int) = l.getD e (0, 0) from rfl, show (((l.getD i (0, 0)).1, (l.getD i (0, 0)).2) : Int × Int) = l.getD i (0, 0) from rfl]
        exact Pu.tG hc (Pu.tG (Int.natCast_nonneg e) (Pu.tG hel (Pu.tG hel (Pu.tG (Int.natCast_nonneg i) (Pu.tG hi (Pu.tG hi (Pu.tG (Int.natCast_nonneg i) (Pu.tG hi (Pu.tG hi (Pu.tG (Int.natCast_nonneg e) (Pu.tG hel2 (Pu.tG hel2 q1))))))))))))
      · have hget : ∀ c, ((l.set i (l.getD e (0, 0))).set e (l.getD i (0, 0))).getD c (0, 0) = if c = e then l.getD i (0, 0) else if c = i then l.getD e (0, 0) else l.getD c (0, 0) := by
          intro c
          by_cases a1 : c = e
          · subst a1; rw [if_pos rfl, Pu.ar (by rw [List.length_set]; exact hel2), List.getElem_set_self]
          · rw [if_neg a1, Pu.getD_set_ne (Ne.symm a1)]
            by_cases a2 : c = i
            · subst a2; rw [if_pos rfl, Pu.ar (by rw [List.length_set]; exact hi), List.getElem_set_self]
            · rw [if_neg a2, Pu.getD_set_ne (Ne.symm a2)]
        rw [q3]
        by_cases d1 : i + 1 ≤ c ∧ c < e
        · rw [if_pos d1, if_pos (by omega), hget, if_neg (by omega), if_neg (by omega)]
          congr 1; omega
        · rw [if_neg d1, hget]
          by_cases d2 : c = e
          · subst d2; rw [if_pos rfl, if_pos (by omega)]; congr 1; omega
          · rw [if_neg d2]
            by_cases d3 : c = i
            · subst d3; rw [if_pos rfl, if_pos (by omega)]; congr 1; omega
            · rw [if_neg d3, if_neg (by omega)]
    · have hc : ¬ (i : Int) < (n : Int) - 1 := by omega
      refine ⟨l, Pu.tX hc rfl, rfl, fun c => ?_⟩
      split
      · congr 1; omega
      · rfl
theorem aD.is {k : Nat} {l : List (Int × Int)} (hk : 4194304 + 1 ≤ k) (hl : l.length ≤ 1000) : aD k l = some ((), l.reverse) := by
  obtain ⟨k, rfl⟩ : ∃ k', k = k' + 1 := ⟨k - 1, by omega⟩
  obtain ⟨l', q1, q2, q3⟩ := aD.loop (k := k) l.length k 0 l.length l (by omega) (by omega) (Nat.le_refl _) hl (Nat.zero_le _)
  have e : l' = l.reverse := by
    refine List.ext_getElem (by rw [q2, List.length_reverse]) fun c h1 h2 => ?_
    have := q3 c
    rw [if_pos (by omega), Pu.ar h1, Pu.ar (show 0 + l.length - 1 - c < l.length by omega)] at this
    rw [this, List.getElem_reverse]
    congr 1; omega
  have hw : IntKind.i64.wrap ((l.length : Int) - 1) = (l.length : Int) - 1 := Pu.w64 (by omega) (by omega)
  rw [aD.eq, aP, aN, aW, aq, hw, ← e]
  exact q1
theorem ae.uq {k k1 : Nat} {y : Int} {r : Nat} {rs : List (List Int)} {inn : List Int} (hr : r < rs.length) (hs : Pu.cK 1000 1000 rs) : ∀ (m j : Nat), m ≤ (rs.getD r []).length → m < j →
    ae.L5 k k1 j ((m : Int) - 1) r y r rs inn = match Pu.dP (rs.getD r []) y m with
      | some q => ae.L3 k k1 ((rs.getD r []).getD q 0) ((r : Int) - 1) inn (rs.set r ((rs.getD r []).set q y))
      | none => ae.L3 k k1 y ((r : Int) - 1) inn rs
  | m, 0, _, hj => by omega
  | 0, j + 1, _, _ => by
    rw [ae.w5]
    have hl := hs.1
    have hn : ¬ ((0 : Int) ≤ ((0 : Nat) : Int) - 1) := by omega
    simp (disch := omega) only [↓aB, bI, bK, aZ, bj, bn, aN, aP, aQ, bt, aY, bg, aG, aH, bc, aq, aS, aW, bL, bO, bm, bk, ah, Pu.w64, Int.toNat_natCast, decide_eq_true_eq, Int.ofNat_lt, Int.ofNat_le, if_true, if_false, Int.natCast_nonneg, decide_true, decide_false, Bool.not_true, Bool.not_false, Bool.false_eq_true, Bool.not_eq_true, Bool.true_and, Bool.and_true, Bool.false_and, Bool.and_false, hn, Pu.dP, ae.zY]
  | m + 1, j + 1, hm, hj => by
    rw [ae.w5]
    have hl := hs.1
    have hx := hs.at r
    have e : ((m + 1 : Nat) : Int) - 1 = (m : Int) := by omega
    have h1 : m < (rs.getD r []).length := by omega
    have ih := ae.uq (k := k) (k1 := k1) (y := y) (inn := inn) hr hs m j (by omega) (by omega)
    rw [e]
    unfold Pu.dP
    by_cases c : (rs.getD r []).getD m 0 < y
    · simp (disch := omega) only [↓aB, bI, bK, aZ, bj, bn, aN, aP, aQ, bt, aY, bg, aG, aH, bc, aq, aS, aW, bL, bO, bm, bk, ah, Pu.w64, Int.toNat_natCast, decide_eq_true_eq, Int.ofNat_lt, Int.ofNat_le, if_true, if_false, Int.natCast_nonneg, decide_true, decide_false, Bool.not_true, Bool.not_false, Bool.false_eq_true, Bool.not_eq_true, Bool.true_and, Bool.and_true, Bool.false_and, Bool.and_false, hr, h1, c, ae.zY]
    · simp (disch := omega) only [↓aB, bI, bK, aZ, bj, bn, aN, aP, aQ, bt, aY, bg, aG, aH, bc, aq, aS, aW, bL, bO, bm, bk, ah, Pu.w64, Int.toNat_natCast, decide_eq_true_eq, Int.ofNat_lt, Int.ofNat_le, if_true, if_false, Int.natCast_nonneg, decide_true, decide_false, Bool.not_true, Bool.not_false, Bool.false_eq_true, Bool.not_eq_true, Bool.true_and, Bool.and_true, Bool.false_and, Bool.and_false, hr, h1, c, ih]
theorem ae.sX {k : Nat} {inn : List Int} (hk : 2000 ≤ k) : ∀ (r j : Nat) (y : Int) (rs : List (List Int)), r ≤ rs.length → Pu.cK 1000 1000 rs → r < j →
    ae.L3 k j y ((r : Int) - 1) inn rs = some ((Pu.dV r rs y).2, (inn, (Pu.dV r rs y).1))
  | r, 0, _, _, _, _, hj => by omega
  | 0, j + 1, y, rs, _, _, _ => by
    rw [ae.nh]
    have hn : ¬ ((0 : Int) ≤ ((0 : Nat) : Int) - 1) := by omega
    simp only [↓aB, bI, bK, aZ, bj, bn, aN, aP, aQ, bt, aY, bg, aG, aH, bc, aq, aS, aW, bL, bO, bm, bk, ah, Pu.w64, Int.toNat_natCast, decide_eq_true_eq, Int.ofNat_lt, Int.ofNat_le, if_true, if_false, Int.natCast_nonneg, decide_true, decide_false, Bool.not_true, Bool.not_false, Bool.false_eq_true, Bool.not_eq_true, Bool.true_and, Bool.and_true, Bool.false_and, Bool.and_false, hn, Pu.dV]
  | r + 1, j + 1, y, rs, hr, hs, hj => by
    rw [ae.nh]
    have e : ((r + 1 : Nat) : Int) - 1 = (r : Int) := by omega
    have hlt : r < rs.length := by omega
    have hx := hs.at r
    have hl := hs.1
    have h5 := ae.uq (k := k) (k1 := j) (y := y) (inn := inn) hlt hs (rs.getD r []).length k (by omega) (by omega)
    rw [e]
    unfold Pu.dV
    cases hq : Pu.dP (rs.getD r []) y (rs.getD r []).length with
    | some q =>
      rw [hq] at h5
      simp (disch := omega) only [↓aB, bI, bK, aZ, bj, bn, aN, aP, aQ, bt, aY, bg, aG, aH, bc, aq, aS, aW, bL, bO, bm, bk, ah, Pu.w64, Int.toNat_natCast, decide_eq_true_eq, Int.ofNat_lt, Int.ofNat_le, if_true, if_false, Int.natCast_nonneg, decide_true, decide_false, Bool.not_true, Bool.not_false, Bool.false_eq_true, Bool.not_eq_true, Bool.true_and, Bool.and_true, Bool.false_and, Bool.and_false, hlt, h5]
      exact ae.sX hk r j _ _ (by rw [List.length_set]; omega) (hs.set r (by rw [List.length_set]; exact hx)) (by omega)
    | none =>
      rw [hq] at h5
      simp (disch := omega) only [↓aB, bI, bK, aZ, bj, bn, aN, aP, aQ, bt, aY, bg, aG, aH, bc, aq, aS, aW, bL, bO, bm, bk, ah, Pu.w64, Int.toNat_natCast, decide_eq_true_eq, Int.ofNat_lt, Int.ofNat_le, if_true, if_false, Int.natCast_nonneg, decide_true, decide_false, Bool.not_true, Bool.not_false, Bool.false_eq_true, Bool.not_eq_true, Bool.true_and, Bool.and_true, Bool.false_and, Bool.and_false, hlt, h5]
      exact ae.sX hk r j _ _ (by omega) hs (by omega)
theorem ae.uP {k k1 : Nat} {y : Int} {r n : Nat} {rs : List (List Int)} {inn : List Int} (hr : r < rs.length) (hn : r < n) (hs : Pu.cK 1000 1000 rs) : ∀ (m j : Nat), m ≤ (rs.getD r []).length → m < j →
    ae.L4 k k1 j ((m : Int) - 1) r y r 0 n rs inn = match Pu.dP (rs.getD r []) y m with
      | some q => ae.L2 k k1 ((rs.getD r []).getD q 0) ((r : Int) - 1) 0 n inn (rs.set r ((rs.getD r []).set q y))
      | none => ae.L2 k k1 y ((r : Int) - 1) 0 n inn rs
  | m, 0, _, hj => by omega
  | 0, j + 1, _, _ => by
    rw [ae.rL]
    have hl := hs.1
    have hn : ¬ ((0 : Int) ≤ ((0 : Nat) : Int) - 1) := by omega
    simp (disch := omega) only [↓aB, bI, bK, aZ, bj, bn, aN, aP, aQ, bt, aY, bg, aG, aH, bc, aq, aS, aW, bL, bO, bm, bk, ah, Pu.w64, Int.toNat_natCast, decide_eq_true_eq, Int.ofNat_lt, Int.ofNat_le, if_true, if_false, Int.natCast_nonneg, decide_true, decide_false, Bool.not_true, Bool.not_false, Bool.false_eq_true, Bool.not_eq_true, Bool.true_and, Bool.and_true, Bool.false_and, Bool.and_false, hn, Pu.dP, ae.Ae]
  | m + 1, j + 1, hm, hj => by
    rw [ae.rL]
    have hl := hs.1
    have hx := hs.at r
    have e : ((m + 1 : Nat) : Int) - 1 = (m : Int) := by omega
    have h1 : m < (rs.getD r []).length := by omega
    have ih := ae.uP (k := k) (k1 := k1) (y := y) (inn := inn) hr hn hs m j (by omega) (by omega)
    rw [e]
    unfold Pu.dP
    by_cases c : (rs.getD r []).getD m 0 < y
    · simp (disch := omega) only [↓aB, bI, bK, aZ, bj, bn, aN, aP, aQ, bt, aY, bg, aG, aH, bc, aq, aS, aW, bL, bO, bm, bk, ah, Pu.w64, Int.toNat_natCast, decide_eq_true_eq, Int.ofNat_lt, Int.ofNat_le, if_true, if_false, Int.natCast_nonneg, decide_true, decide_false, Bool.not_true, Bool.not_false, Bool.false_eq_true, Bool.not_eq_true, Bool.true_and, Bool.and_true, Bool.false_and, Bool.and_false, l6, Nat.zero_add, hr, hn, h1, c, ae.Ae]
    · simp (disch := omega) only [↓aB, bI, bK, aZ, bj, bn, aN, aP, aQ, bt, aY, bg, aG, aH, bc, aq, aS, aW, bL, bO, bm, bk, ah, Pu.w64, Int.toNat_natCast, decide_eq_true_eq, Int.ofNat_lt, Int.ofNat_le, if_true, if_false, Int.natCast_nonneg, decide_true, decide_false, Bool.not_true, Bool.not_false, Bool.false_eq_true, Bool.not_eq_true, Bool.true_and, Bool.and_true, Bool.false_and, Bool.and_false, l6, Nat.zero_add, hr, hn, h1, c, ih]
theorem ae.sJ {k : Nat} {n : Nat} {inn : List Int} (hk : 2000 ≤ k) : ∀ (r j : Nat) (y : Int) (rs : List (List Int)), r ≤ rs.length → r ≤ n → Pu.cK 1000 1000 rs → r < j →
    ae.L2 k j y ((r : Int) - 1) 0 n inn rs = some ((Pu.dV r rs y).2, (inn, (Pu.dV r rs y).1.take n))
  | r, 0, _, _, _, _, _, hj => by omega
  | 0, j + 1, y, rs, _, _, _, _ => by
    rw [ae.ic]
    have hn : ¬ ((0 : Int) ≤ ((0 : Nat) : Int) - 1) := by omega
    simp only [↓aB, bI, bK, aZ, bj, bn, aN, aP, aQ, bt, aY, bg, aG, aH, bc, aq, aS, aW, bL, bO, bm, bk, ah, Pu.w64, Int.toNat_natCast, decide_eq_true_eq, Int.ofNat_lt, Int.ofNat_le, if_true, if_false, Int.natCast_nonneg, decide_true, decide_false, Bool.not_true, Bool.not_false, Bool.false_eq_true, Bool.not_eq_true, Bool.true_and, Bool.and_true, Bool.false_and, Bool.and_false, hn, Pu.dV, List.drop_zero]
  | r + 1, j + 1, y, rs, hr, hrn, hs, hj => by
    rw [ae.ic]
    have e : ((r + 1 : Nat) : Int) - 1 = (r : Int) := by omega
    have hlt : r < rs.length := by omega
    have hn : r < n := by omega
    have hx := hs.at r
    have hl := hs.1
    have h5 := ae.uP (k := k) (k1 := j) (y := y) (n := n) (inn := inn) hlt hn hs (rs.getD r []).length k (by omega) (by omega)
    rw [e]
    unfold Pu.dV
    cases hq : Pu.dP (rs.getD r []) y (rs.getD r []).length with
    | some q =>
      rw [hq] at h5
      simp (disch := omega) only [↓aB, bI, bK, aZ, bj, bn, aN, aP, aQ, bt, aY, bg, aG, aH, bc, aq, aS, aW, bL, bO, bm, bk, ah, Pu.w64, Int.toNat_natCast, decide_eq_true_eq, Int.ofNat_lt, Int.ofNat_le, if_true, if_false, Int.natCast_nonneg, decide_true, decide_false, Bool.not_true, Bool.not_false, Bool.false_eq_true, Bool.not_eq_true, Bool.true_and, Bool.and_true, Bool.false_and, Bool.and_false, l6, Nat.zero_add, hlt, hn, h5]
      exact ae.sJ hk r j _ _ (by rw [List.length_set]; omega) (by omega) (hs.set r (by rw [List.length_set]; exact hx)) (by omega)
    | none =>
      rw [hq] at h5
      simp (disch := omega) only [↓aB, bI, bK, aZ, bj, bn, aN, aP, aQ, bt, aY, bg, aG, aH, bc, aq, aS, aW, bL, bO, bm, bk, ah, Pu.w64, Int.toNat_natCast, decide_eq_true_eq, Int.ofNat_lt, Int.ofNat_le, if_true, if_false, Int.natCast_nonneg, decide_true, decide_false, Bool.not_true, Bool.not_false, Bool.false_eq_true, Bool.not_eq_true, Bool.true_and, Bool.and_true, Bool.false_and, Bool.and_false, l6, Nat.zero_add, hlt, hn, h5]
      exact ae.sJ hk r j _ _ (by omega) (by omega) hs (by omega)
theorem ae.is {k : Nat} {rs : List (List Int)} {n : Nat} {inn : List Int} (hk : 4194304 + 1 ≤ k) (hs : Pu.cK 9 9 rs) (hn : n < rs.length) (hl : 1 ≤ (rs.getD n []).length) :
    ae k n inn rs = some ((Pu.bT rs n).2, (inn, (Pu.bT rs n).1)) := by
  obtain ⟨k, rfl⟩ : ∃ k', k = k' + 1 := ⟨k - 1, by omega⟩
  rw [ae.eq]
  have h9 := hs.1
  have hx := hs.at n
  have hs' : Pu.cK 1000 1000 (rs.set n ((rs.getD n []).take ((rs.getD n []).length - 1))) := (hs.mono (by omega) (by omega)).set n (by rw [List.length_take]; omega)
  have ew : IntKind.i64.wrap (((rs.getD n []).length : Int) - 1) = (((rs.getD n []).length - 1 : Nat) : Int) := by rw [Pu.w64 (by omega) (by omega)]; omega
  have h3 := ae.sX (k := k) (inn := inn) (by omega) n k ((rs.getD n []).getD ((rs.getD n []).length - 1) 0) _ (by rw [List.length_set]; omega) hs' (by omega)
  have h2 := ae.sJ (k := k) (n := n) (inn := inn) (by omega) n k ((rs.getD n []).getD ((rs.getD n []).length - 1) 0) _ (by rw [List.length_set]; omega) (by omega) hs' (by omega)
  have q1 : (rs.getD n []).length - 1 < (rs.getD n []).length := by omega
  have q2 : (rs.getD n []).length - 1 ≤ (rs.getD n []).length := by omega
  have q3 : n ≤ (rs.set n ((rs.getD n []).take ((rs.getD n []).length - 1))).length := by rw [List.length_set]; omega
  unfold Pu.bT
  by_cases c : (rs.getD n []).length = 1
  · have c' : (((rs.getD n []).length - 1 : Nat) : Int) = 0 := by omega
    rw [if_pos c]
    simp (disch := omega) only [↓aB, bI, bK, aZ, bj, bn, aN, aP, aQ, bt, aY, bg, aG, aH, bc, aq, aS, aW, bL, bO, bm, bk, ah, Pu.w64, Int.toNat_natCast, decide_eq_true_eq, Int.ofNat_lt, Int.ofNat_le, if_true, if_false, Int.natCast_nonneg, decide_true, decide_false, Bool.not_true, Bool.not_false, Bool.false_eq_true, Bool.not_eq_true, Bool.true_and, Bool.and_true, Bool.false_and, Bool.and_false, lB, Nat.sub_zero, List.drop_zero, hn, ew, q1, q2, q3, ae.fF, h2]
    simp only [c', decide_true, if_true]
  · have c' : ¬ (((rs.getD n []).length - 1 : Nat) : Int) = 0 := by omega
    simp (disch := omega) only [↓aB, bI, bK, aZ, bj, bn, aN, aP, aQ, bt, aY, bg, aG, aH, bc, aq, aS, aW, bL, bO, bm, bk, ah, Pu.w64, Int.toNat_natCast, decide_eq_true_eq, Int.ofNat_lt, Int.ofNat_le, if_true, if_false, Int.natCast_nonneg, decide_true, decide_false, Bool.not_true, Bool.not_false, Bool.false_eq_true, Bool.not_eq_true, Bool.true_and, Bool.and_true, Bool.false_and, Bool.and_false, lB, Nat.sub_zero, List.drop_zero, hn, ew, q1, q2, q3, c, c', ae.gH, h3]
theorem aO.Aa {k : Nat} {q : Pu.Tab} {f : Int → Int} {inn qin : List Int} (hk : 4194304 + 40 ≤ k) : ∀ (m j n : Nat) (acc : List (Int × Int)) (P F X : List (List Int)), Pu.Unr q m P X → Pu.my (F.take n) X f → n ≤ F.length → m < j → m ≤ 9 → acc.length + m ≤ 9 → n ≤ 9 →
    aO.L3 k j 0 n acc inn P qin F = some (acc ++ Pu.prf q f m P).reverse
  | m, 0, n, acc, P, F, X, _, _, _, hj, _, _, _ => by omega
  | 0, j + 1, n, acc, P, F, X, h, s, hn, _, _, ha, _ => by
    have h0 : n = 0 := by
      have hlen : (F.take n).length = n := by rw [List.length_take]; omega
      refine Nat.eq_zero_of_not_pos fun hp => ?_
      have hX : 0 < X.length := by rw [s.same.1]; omega
      have h1 := Pu.pW h.pl (r := 0) hX
      have h2 := Pu.g6 (rs := X) (r := 0) (x := 0) hX h1
      have := h.fl
      rw [List.eq_nil_of_length_eq_zero this] at h2
      cases h2
    rw [aO.nh]
    have hr := aD.is (k := k) (l := acc) (by omega) (by omega)
    have hn0 : ¬ (0 : Int) < ((n : Nat) : Int) := by omega
    refine Pu.tX hn0 (Pu.bE hr ?_)
    simp [Pu.prf, Pu.prs]
  | m + 1, j + 1, n, acc, P, F, X, h, s, hn, hj, h9, ha, hn9 => by
    obtain ⟨a, a1, a2, a3, a4, t1, t2, hQ9, hP1, hP2, a6, a7⟩ := s.step h
    have hlen : (F.take n).length = n := by rw [List.length_take]; omega
    have hlo := bN.is (k := k) (Q := F.take n) (inn := qin) (a := a) (K := f ((m + 1 : Nat) : Int)) (by omega) hQ9 t1 a2 a4 t2
    rw [hlen] at a2
    have haF : a < F.length := by omega
    have hget : (F.take n).getD a [] = F.getD a [] := Pu.eX a2 []
    rw [hget] at a3
    have a4' : (F.getD a []).getD ((F.getD a []).length - 1) 0 = f ((m + 1 : Nat) : Int) := by
      have := a4
      rw [hget] at this
      exact this
    have hr9 := hQ9.at a
    simp only [hget] at hr9
    have hrm := ae.is (k := k) (inn := inn) (by omega) h.p9 hP1 hP2
    have hw : IntKind.i64.wrap (((F.getD a []).length : Int) - 1) = (((F.getD a []).length - 1 : Nat) : Int) := by rw [Pu.w64 (by omega) (by omega)]; omega
    have hlt : (F.getD a []).length - 1 < (F.getD a []).length := by omega
    have hap : (acc ++ [(f ((m + 1 : Nat) : Int), (Pu.bT P a).2)]).length ≤ 1099511627776 := by rw [List.length_append, List.length_singleton]; omega
    have hJ1 : ∀ (n' : Nat) (F' : List (List Int)), F'.take n' = Pu.b7 (F.take n) a → n' ≤ F'.length → n' ≤ 9 → aO.J1 k j a (f ((m + 1 : Nat) : Int)) 0 n' acc inn P qin F' = some (acc ++ Pu.prf q f (m + 1) P).reverse := by
      intro n' F' e1 e2 e3
      have ih := aO.Aa (inn := inn) (qin := qin) hk m j n' (acc ++ [(f ((m + 1 : Nat) : Int), (Pu.bT P a).2)]) (Pu.bT P a).1 F' (Pu.b7 X a) a6 (by rw [e1]; exact a7) e2 (by omega) (by omega) (by rw [List.length_append, List.length_singleton]; omega) e3
      rw [aO.gH]
      refine Pu.bE hrm ?_
      refine Pu.tG hap ?_
      simp only [bg]
      rw [ih, show Pu.prf q f (m + 1) P = (f ((m + 1 : Nat) : Int), (Pu.bT P (Pu.rowOf q ((m + 1 : Nat) : Int)).toNat).2) :: Pu.prf q f m (Pu.bT P (Pu.rowOf q ((m + 1 : Nat) : Int)).toNat).1 from rfl]
      rw [a1, Int.toNat_natCast, List.append_assoc, List.singleton_append]
    rw [aO.nh]
    have hn0 : (0 : Int) < ((n : Nat) : Int) := by omega
    simp only [aQ, aN, aP, bt, aW, aq, aG, aH, l6, lB, aY, List.drop_zero, Nat.zero_add, Nat.sub_zero]
    refine Pu.tG hn0 (Pu.bE hlo ?_)
    simp only [Int.toNat_natCast, hw, a4']
    have i0 := Int.natCast_nonneg a
    have i1 := Int.natCast_nonneg ((F.getD a []).length - 1)
    refine Pu.tG i0 (Pu.tG a2 (Pu.tG haF (Pu.tG haF (Pu.tG i0 (Pu.tG a2 (Pu.tG haF (Pu.tG haF (Pu.tG i1 (Pu.tG hlt (Pu.tG haF (Pu.tG hlt (Pu.tG i0 (Pu.tG a2 (Pu.tG haF (Pu.tG haF (Pu.tG i1 (Pu.tG (Nat.le_of_lt hlt) (Pu.tG i0 (Pu.tG a2 (Pu.tG haF (Pu.tG haF (Pu.tG rfl ?_))))))))))))))))))))))
    have hts : (F.set a ((F.getD a []).take ((F.getD a []).length - 1))).take n = (F.take n).set a ((F.getD a []).take ((F.getD a []).length - 1)) := List.take_set
    by_cases c : (F.getD a []).length = 1
    · have c' : (((F.getD a []).length - 1 : Nat) : Int) = 0 := by omega
      refine Pu.tG c' (Pu.tG i0 (Pu.tG (Nat.le_of_lt a2) (hJ1 a _ ?_ (by rw [List.length_set]; omega) (by omega))))
      unfold Pu.b7
      rw [hget, if_pos c, ← hts, List.take_take, Nat.min_eq_left (by omega)]
    · have c' : ¬ (((F.getD a []).length - 1 : Nat) : Int) = 0 := by omega
      refine Pu.tX c' (hJ1 n _ ?_ (by rw [List.length_set]; omega) hn9)
      unfold Pu.b7
      rw [hget, if_neg c, hts]
theorem aO.uD {k : Nat} {q : Pu.Tab} {f : Int → Int} {inn qin : List Int} (hk : 4194304 + 40 ≤ k) : ∀ (m j : Nat) (acc : List (Int × Int)) (P Q X : List (List Int)), Pu.Unr q m P X → Pu.my Q X f → m < j → m ≤ 9 → acc.length + m ≤ 9 →
    aO.L0 k j acc inn P qin Q = some (acc ++ Pu.prf q f m P).reverse
  | m, 0, acc, P, Q, X, _, _, hj, _, _ => by omega
  | 0, j + 1, acc, P, Q, X, h, s, _, _, ha => by
    have h0 : Q.length = 0 := by
      refine Nat.eq_zero_of_not_pos fun hp => ?_
      have hX : 0 < X.length := by rw [s.same.1]; exact hp
      have h1 := Pu.pW h.pl (r := 0) hX
      have h2 := Pu.g6 (rs := X) (r := 0) (x := 0) hX h1
      have := h.fl
      rw [List.eq_nil_of_length_eq_zero this] at h2
      cases h2
    rw [aO.bS]
    have hr := aD.is (k := k) (l := acc) (by omega) (by omega)
    have hn0 : ¬ (0 : Int) < (Q.length : Int) := by omega
    refine Pu.tX hn0 (Pu.bE hr ?_)
    simp [Pu.prf, Pu.prs]
  | m + 1, j + 1, acc, P, F, X, h, s, hj, h9, ha => by
    obtain ⟨a, a1, a2, a3, a4, t1, t2, hQ9, hP1, hP2, a6, a7⟩ := s.step h
    have hlo := bN.is (k := k) (Q := F) (inn := qin) (a := a) (K := f ((m + 1 : Nat) : Int)) (by omega) hQ9 t1 a2 a4 t2
    have hF9 : F.length ≤ 9 := hQ9.1
    have a4' : (F.getD a []).getD ((F.getD a []).length - 1) 0 = f ((m + 1 : Nat) : Int) := a4
    have hr9 : (F.getD a []).length ≤ 9 := hQ9.at a
    have hrm := ae.is (k := k) (inn := inn) (by omega) h.p9 hP1 hP2
    have hw : IntKind.i64.wrap (((F.getD a []).length : Int) - 1) = (((F.getD a []).length - 1 : Nat) : Int) := by rw [Pu.w64 (by omega) (by omega)]; omega
    have hlt : (F.getD a []).length - 1 < (F.getD a []).length := by omega
    have hap : (acc ++ [(f ((m + 1 : Nat) : Int), (Pu.bT P a).2)]).length ≤ 1099511627776 := by rw [List.length_append, List.length_singleton]; omega
    have hfin : (acc ++ [(f ((m + 1 : Nat) : Int), (Pu.bT P a).2)] ++ Pu.prf q f m (Pu.bT P a).1) = acc ++ Pu.prf q f (m + 1) P := by
      rw [show Pu.prf q f (m + 1) P = (f ((m + 1 : Nat) : Int), (Pu.bT P (Pu.rowOf q ((m + 1 : Nat) : Int)).toNat).2) :: Pu.prf q f m (Pu.bT P (Pu.rowOf q ((m + 1 : Nat) : Int)).toNat).1 from rfl, a1, Int.toNat_natCast, List.append_assoc, List.singleton_append]
    rw [aO.bS]
    have hn0 : (0 : Int) < (F.length : Int) := by omega
    simp only [aQ, aN, aP, bt, aW, aq, aG, aH, lB, aY, List.drop_zero, Nat.sub_zero]
    refine Pu.tG hn0 (Pu.bE hlo ?_)
    simp only [Int.toNat_natCast, hw, a4']
    have i0 := Int.natCast_nonneg a
    have i1 := Int.natCast_nonneg ((F.getD a []).length - 1)
    refine Pu.tG i0 (Pu.tG a2 (Pu.tG a2 (Pu.tG a2 (Pu.tG i0 (Pu.tG a2 (Pu.tG a2 (Pu.tG a2 (Pu.tG i1 (Pu.tG hlt (Pu.tG a2 (Pu.tG hlt (Pu.tG i0 (Pu.tG a2 (Pu.tG a2 (Pu.tG a2 (Pu.tG i1 (Pu.tG (Nat.le_of_lt hlt) (Pu.tG i0 (Pu.tG a2 (Pu.tG a2 (Pu.tG a2 (Pu.tG rfl ?_))))))))))))))))))))))
    by_cases c : (F.getD a []).length = 1
    · have c' : (((F.getD a []).length - 1 : Nat) : Int) = 0 := by omega
      have a2' : a ≤ (F.set a ((F.getD a []).take ((F.getD a []).length - 1))).length := by rw [List.length_set]; omega
      refine Pu.tG c' (Pu.tG i0 (Pu.tG a2' ?_))
      have ih := aO.Aa (inn := inn) (qin := qin) hk m j a (acc ++ [(f ((m + 1 : Nat) : Int), (Pu.bT P a).2)]) (Pu.bT P a).1 (F.set a ((F.getD a []).take ((F.getD a []).length - 1))) (Pu.b7 X a) a6 (by
        have e : (F.set a ((F.getD a []).take ((F.getD a []).length - 1))).take a = Pu.b7 F a := by unfold Pu.b7; rw [if_pos c]
        rw [e]; exact a7) a2' (by omega) (by omega) (by rw [List.length_append, List.length_singleton]; omega) (by omega)
      rw [hfin] at ih
      rw [aO.gH]
      exact Pu.bE hrm (Pu.tG hap ih)
    · have c' : ¬ (((F.getD a []).length - 1 : Nat) : Int) = 0 := by omega
      refine Pu.tX c' ?_
      have ih := aO.uD (inn := inn) (qin := qin) hk m j (acc ++ [(f ((m + 1 : Nat) : Int), (Pu.bT P a).2)]) (Pu.bT P a).1 (F.set a ((F.getD a []).take ((F.getD a []).length - 1))) (Pu.b7 X a) a6 (by
        have e : F.set a ((F.getD a []).take ((F.getD a []).length - 1)) = Pu.b7 F a := by unfold Pu.b7; rw [if_neg c]
        rw [e]; exact a7) (by omega) (by omega) (by rw [List.length_append, List.length_singleton]; omega)
      rw [hfin] at ih
      rw [aO.mw]
      exact Pu.bE hrm (Pu.tG hap ih)
theorem aO.is {k : Nat} {p q : Pu.Tab} {X : List (List Int)} {f : Int → Int} (hk : 4194304 + 50 ≤ k) (hp : Pu.a8 p = true) (hq : Pu.a8 q = true) (hx : Pu.a8 ([], X) = true) (hs : Pu.dI ([], X) = true) (hS : Pu.my q.2 X f) (ho : Pu.outer p = Pu.outer q) : aO k p q = some (Pu.prf ([], X) f q.2.flatten.length p.2).reverse := by
  obtain ⟨k, rfl⟩ : ∃ k', k = k' + 1 := ⟨k - 1, by omega⟩
  have okT : ∀ t : Pu.Tab, Pu.a8 t = true → Pu.jY t := fun t h => by
    have hr := Pu.dw h
    exact ⟨by rw [Pu.cw h]; simp, by have := hr.1; omega, fun r hm => by have := hr.2 r hm; omega⟩
  have o1 := okT p hp
  have o2 := okT q hq
  have h1 := bw.is (k := k) (t := p) (by omega) o1.1 o1.2.1 o1.2.2
  have h2 := bw.is (k := k) (t := q) (by omega) o2.1 o2.2.1 o2.2.2
  have h9 := Pu.fN hq
  have hxq : Pu.outer p = Pu.outer (([], X) : Pu.Tab) := ho.trans (Pu.oQ (Pu.cw hq) rfl hS.same.1.symm fun r => (hS.same.2 r).symm)
  have hu := Pu.oT hp hx hs hxq
  have hf : X.flatten.length = q.2.flatten.length := Pu.mE hS.same
  simp only at hu
  rw [hf] at hu
  rw [aO.eq, show ((p.1, p.2) : Pu.Tab) = p from rfl, show ((q.1, q.2) : Pu.Tab) = q from rfl]
  refine Pu.bE h1 (Pu.bE h2 ?_)
  have := aO.uD (k := k) (inn := p.1) (qin := q.1) (by omega) q.2.flatten.length k [] p.2 q.2 X hu hS (by omega) h9 (by simpa using h9)
  rw [List.nil_append] at this
  exact this
theorem aC.m9 {k : Nat} {R C : Nat} {p q : Pu.Tab} (hR : R ≤ 9) (hC : C ≤ 9) {l : List (Int × Int)} (hu : aO k p q = some l) : ∀ (m j i : Nat), i + m = R → m < j → aC.L1 k j C R i (List.replicate i (List.replicate C (0 : Int)) ++ List.replicate m []) p.1 p.2 q.1 q.2 = aC.L2 k k l.length 0 (Pu.mZ R C) l
  | m, 0, i, _, hj => by omega
  | 0, j + 1, i, hi, _ => by
    have hn : ¬ (i : Int) < (R : Int) := by omega
    have e : i = R := by omega
    rw [aC.dq, show ((p.1, p.2) : Pu.Tab) = p from rfl, show ((q.1, q.2) : Pu.Tab) = q from rfl]
    refine Pu.tX hn (Pu.bE hu ?_)
    simp only [aQ, aN, aP]
    rw [e, List.replicate_zero, List.append_nil]
    rfl
  | m + 1, j + 1, i, hi, hj => by
    have hn : (i : Int) < (R : Int) := by omega
    have hw : IntKind.i64.wrap ((i : Int) + 1) = ((i + 1 : Nat) : Int) := by rw [Pu.w64 (by omega) (by omega)]; omega
    have ih := aC.m9 (k := k) (p := p) (q := q) hR hC hu m j (i + 1) (by omega) (by omega)
    have b1 : C ≤ 1099511627776 := by omega
    have b2 : i < (List.replicate i (List.replicate C (0 : Int)) ++ List.replicate (m + 1) []).length := by rw [List.length_append, List.length_replicate, List.length_replicate]; omega
    have hset : (List.replicate i (List.replicate C (0 : Int)) ++ List.replicate (m + 1) []).set i (List.replicate C 0) = List.replicate (i + 1) (List.replicate C (0 : Int)) ++ List.replicate m [] := by
      rw [List.set_append_right _ _ (by rw [List.length_replicate]; exact Nat.le_refl _), List.length_replicate, Nat.sub_self, List.replicate_succ, List.set_cons_zero, List.replicate_succ', List.append_assoc, List.singleton_append]
    rw [aC.dq]
    simp only [aQ, aN, aP, bc, aS, aY, aq, hw, Int.toNat_natCast]
    rw [hset]
    exact Pu.tG hn (Pu.tG (Int.natCast_nonneg C) (Pu.tG (Int.le_refl _) (Pu.tG b1 (Pu.tG (Int.natCast_nonneg i) (Pu.tG b2 (Pu.tG b2 ih))))))
theorem aC.lK {k : Nat} {R C : Nat} {l : List (Int × Int)} (hR : R ≤ 9) (hC : C ≤ 9) (h9 : l.length ≤ 9) : ∀ (m j i : Nat) (M : List (List Int)) (b : Int), i + m = l.length → m < j → Pu.ph R C b M → b + m ≤ 1000 →
    (∀ x ∈ l.drop i, 1 ≤ x.1 ∧ x.1 ≤ R ∧ 1 ≤ x.2 ∧ x.2 ≤ C) → aC.L2 k j l.length i M l = some (Pu.yS M (l.drop i), true)
  | m, 0, i, M, b, _, hj, _, _, _ => by omega
  | 0, j + 1, i, M, b, hi, _, _, _, _ => by
    have hn : ¬ (i : Int) < (l.length : Int) := by omega
    rw [aC.ic]
    refine Pu.tX hn ?_
    rw [List.drop_of_length_le (by omega)]
    rfl
  | m + 1, j + 1, i, M, b, hi, hj, hM, hb, hx => by
    have hli : i < l.length := by omega
    have hz := Pu.drop_cons hli (0, 0)
    rw [hz] at hx ⊢
    obtain ⟨x1, x2, x3, x4⟩ := hx _ (List.mem_cons_self ..)
    obtain ⟨g1, g2, g3, g4, w1, w2, w3⟩ := Pu.sM hM (by omega) hR hC x1 x2 x3 x4
    have hM' := Pu.tj hM x1 x2 x3 x4
    have ih := aC.lK (k := k) hR hC h9 m j (i + 1) _ (b + 1) (by omega) (by omega) hM' (by omega) (fun x h => hx x (List.mem_cons_of_mem _ h))
    unfold Pu.xr at ih
    have hn : (i : Int) < (l.length : Int) := by omega
    have i0 := Int.natCast_nonneg i
    have hw : IntKind.i64.wrap ((i : Int) + 1) = ((i + 1 : Nat) : Int) := by rw [Pu.w64 (by omega) (by omega)]; omega
    have z0 : (0 : Int) ≤ 0 := by omega
    have z1 : (0 : Int) ≤ 1 := by omega
    have z2 : (0 : Int) < ((2 : Nat) : Int) := by omega
    have z3 : (1 : Int) < ((2 : Nat) : Int) := by omega
    rw [aC.ic]
    simp only [aQ, aN, aP, bt, aS, aW, aY, aq, hw, Int.toNat_natCast, w1, w2, w3]
    exact Pu.tG hn (Pu.tG i0 (Pu.tG hli (Pu.tG hli (Pu.tG z0 (Pu.tG z2 (Pu.tG g1 (Pu.tG g2 (Pu.tG g2 (Pu.tG z1 (Pu.tG z3 (Pu.tG g2 (Pu.tG g3 (Pu.tG g4 (Pu.tG g2 (Pu.tG g4 (Pu.tG g2 (Pu.tG g3 (Pu.tG g4 (Pu.tG g2 (Pu.tG g4 ih))))))))))))))))))))
theorem aC.is {k : Nat} {p q : Pu.Tab} {r c : Int} (hk : 4194304 + 80 ≤ k) (hp : Pu.jY p) (hq : Pu.jY q) : aC k p q r c = some (Pu.eI p q r c) := by
  obtain ⟨k, rfl⟩ : ∃ k', k = k' + 1 := ⟨k - 1, by omega⟩
  have h1 := dS.is (k := k) (t := p) (by omega) hp.1 hp.2.1 hp.2.2
  have h2 := dS.is (k := k) (t := q) (by omega) hq.1 hq.2.1 hq.2.2
  have h4 := dB.is (k := k) (a := p) (b := q) (by omega) hp hq
  have hi1 := cJ.is (k := k) (x := r) (lo := 1) (hi := 9) (by omega)
  have hi2 := cJ.is (k := k) (x := c) (lo := 1) (hi := 9) (by omega)
  have shp : ∀ t : Pu.Tab, Pu.a8 t = true → Pu.shapeOf t = ((Pu.outer t, []), true) := fun t h => by
    have h' := h
    simp only [Pu.a8, Bool.and_eq_true] at h'
    unfold Pu.shapeOf
    rw [if_pos (Pu.iE h'.1), Pu.cw h]
  have e1 : ((p.1, p.2) : Pu.Tab) = p := rfl
  have e2 : ((q.1, q.2) : Pu.Tab) = q := rfl
  rw [aC.eq, e1, e2]
  unfold Pu.eI
  refine Pu.bE h1 ?_
  cases c3 : Pu.a8 p with
  | false => rw [if_neg (fun h => by cases h.1)]; exact Pu.tM rfl
  | true =>
    refine Pu.tN (Pu.bE h2 ?_)
    cases c4 : Pu.a8 q with
    | false => rw [if_neg (fun h => by cases h.2.1)]; exact Pu.tM rfl
    | true =>
      rw [shp p c3, shp q c4] at h4
      refine Pu.tN (Pu.bE h4 ?_)
      by_cases c6 : Pu.outer p = Pu.outer q
      · rw [decide_eq_true (by simp only [c6])]
        refine Pu.tN (Pu.bE hi1 ?_)
        by_cases c7 : 1 ≤ r ∧ r ≤ 9
        · rw [show Pu.within r 1 9 = true by unfold Pu.within; rw [decide_eq_true c7.1, decide_eq_true c7.2]; rfl]
          refine Pu.tN (Pu.bE hi2 ?_)
          by_cases c8 : 1 ≤ c ∧ c ≤ 9
          · rw [show Pu.within c 1 9 = true by unfold Pu.within; rw [decide_eq_true c8.1, decide_eq_true c8.2]; rfl]
            have h9q := Pu.fN c4
            obtain ⟨u, u1, u2⟩ := dG.is (k := k) (by omega) c4
            obtain ⟨v, v1, v2⟩ := dG.is (k := k) (by omega) c3
            refine Pu.tN (Pu.bE u1 ?_)
            simp only [aQ, aN, aP]
            rw [u2]
            by_cases c9 : Pu.mc 0 q.2.flatten ≤ r
            · refine Pu.tX (by omega) (Pu.bE v1 ?_)
              rw [v2]
              by_cases c10 : Pu.mc 0 p.2.flatten ≤ c
              · rw [if_pos ⟨trivial, trivial, c6, c7, c8, c9, c10⟩]
                obtain ⟨a1, a2, a3, a4, a5, a6, a7⟩ := Pu.rJ c3 c4 c6 c9 c10
                have hu := aO.is (k := k) (p := p) (q := q) (X := Pu.jf q.2) (by omega) c3 c4 a1 a2 a6 c6
                rw [Pu.xc _ _ _ _ (by omega), List.take_of_length_le (by omega)] at hu
                refine Pu.tX (by omega) ?_
                obtain ⟨R, rfl⟩ : ∃ R : Nat, r = R := ⟨r.toNat, by omega⟩
                obtain ⟨C, rfl⟩ : ∃ C : Nat, c = C := ⟨c.toNat, by omega⟩
                have hwl := Pu.qa ([], Pu.jf q.2) q.2.flatten.length p.2
                have hzl : ((Pu.nf q.2.flatten).zip (Pu.wop ([], Pu.jf q.2) q.2.flatten.length p.2)).length = q.2.flatten.length := by rw [List.length_zip, a5, hwl]; omega
                have q1 := aC.m9 (k := k) (R := R) (C := C) (by omega) (by omega) hu R k 0 (by omega) (by omega)
                have q2 := aC.lK (k := k) (R := R) (C := C) (l := (Pu.nf q.2.flatten).zip (Pu.wop ([], Pu.jf q.2) q.2.flatten.length p.2)) (by omega) (by omega) (by omega) q.2.flatten.length k 0 (Pu.mZ R C) 0 (by omega) (by omega) (Pu.qC R C) (by omega) (by rw [List.drop_zero]; exact a7)
                rw [List.drop_zero] at q2
                rw [List.replicate_zero, List.nil_append] at q1
                have b1 : R ≤ 1099511627776 := by omega
                rw [aC.fF]
                simp only [aQ, aN, aP, bc, Int.toNat_natCast, List.length_replicate]
                exact Pu.tG (Int.natCast_nonneg R) (Pu.tG (Int.le_refl _) (Pu.tG b1 (q1.trans q2)))
              · rw [if_neg (fun h => c10 h.2.2.2.2.2.2)]
                exact Pu.tG (by omega) rfl
            · rw [if_neg (fun h => c9 h.2.2.2.2.2.1)]
              exact Pu.tG (by omega) rfl
          · rw [show Pu.within c 1 9 = false by unfold Pu.within; rw [Bool.and_eq_false_iff, decide_eq_false_iff_not, decide_eq_false_iff_not]; omega, if_neg (fun h => c8 h.2.2.2.2.1)]
            exact Pu.tM rfl
        · rw [show Pu.within r 1 9 = false by unfold Pu.within; rw [Bool.and_eq_false_iff, decide_eq_false_iff_not, decide_eq_false_iff_not]; omega, if_neg (fun h => c7 h.2.2.2.1)]
          exact Pu.tM rfl
      · rw [if_neg (fun h => c6 h.2.2.1), decide_eq_false (fun h => c6 (congrArg Prod.fst h))]
        exact Pu.tM rfl
theorem cq.loop {k : Nat} {a b : List Int} (hl : a.length = b.length) (ha : a.length ≤ 1048576) : ∀ (m j i : Nat), i + m = a.length → m < j → cq.L0 k j i a b = some (decide (a.drop i = b.drop i))
  | m, 0, i, _, hj => by omega
  | 0, j + 1, i, hi, _ => by
    rw [cq.bS]
    have e : i = a.length := by omega
    subst e
    simp [hl]
  | m + 1, j + 1, i, hi, hj => by
    rw [cq.bS]
    have h1 : i < a.length := by omega
    have h2 : i < b.length := by omega
    have ih := cq.loop (k := k) hl ha m j (i + 1) (by omega) (by omega)
    rw [Int.natCast_succ] at ih
    rw [Pu.drop_cons h1 0, Pu.drop_cons h2 0]
    by_cases e : a.getD i 0 = b.getD i 0 <;> simp (disch := omega) only [aB, bI, bK, aZ, aN, aP, aQ, bt, aq, aS, bL, bO, Pu.w64, Int.toNat_natCast, decide_eq_true_eq, Int.ofNat_lt, h1, h2, if_true, Int.natCast_nonneg, decide_true, ih, e, List.cons.injEq, true_and, false_and, decide_false, Bool.not_true, Bool.not_false, if_false, Bool.false_eq_true]
theorem cq.is {k : Nat} {a b : List Int} (hk : 4194304 + 1 ≤ k) (ha : a.length ≤ 1048576) : cq k a b = some (decide (a = b)) := by
  obtain ⟨k, rfl⟩ : ∃ k', k = k' + 1 := ⟨k - 1, by omega⟩
  rw [cq.eq]
  by_cases hl : a.length = b.length
  · have h := cq.loop (k := k) hl ha a.length k 0 (by omega) (by omega)
    rw [Int.natCast_zero] at h
    simp only [List.drop_zero] at h
    have hl' : (a.length : Int) = b.length := by omega
    simp only [aB, bL, bO, aP, aN, hl', decide_true, Bool.not_true, Bool.false_eq_true, if_false, h]
  · have hne : a ≠ b := fun e => hl (by rw [e])
    have hl' : ¬ (a.length : Int) = b.length := by omega
    simp [hl', hne]
theorem bX.loop {k : Nat} {a b : List (List Int)} (hk : 4194304 + 1 ≤ k) (hl : a.length = b.length) (ha : a.length ≤ 1048576) (hr : ∀ x ∈ a, x.length ≤ 1048576) : ∀ (m j i : Nat), i + m = a.length → m < j → bX.L0 k j i a b = some (decide (a.drop i = b.drop i))
  | m, 0, i, _, hj => by omega
  | 0, j + 1, i, hi, _ => by
    rw [bX.bS]
    have e : i = a.length := by omega
    subst e
    simp [hl]
  | m + 1, j + 1, i, hi, hj => by
    rw [bX.bS]
    have h1 : i < a.length := by omega
    have h2 : i < b.length := by omega
    have ih := bX.loop (k := k) hk hl ha hr m j (i + 1) (by omega) (by omega)
    rw [Int.natCast_succ] at ih
    rw [Pu.drop_cons h1 [], Pu.drop_cons h2 []]
    have hq := cq.is (k := k) (a := a.getD i []) (b := b.getD i []) (by omega) (by rw [Pu.ar h1]; exact hr _ (List.getElem_mem h1))
    simp (disch := omega) only [aB, bI, bK, aZ, aN, aP, aQ, bt, aq, aS, bL, hq, ah, Pu.w64, Int.toNat_natCast, decide_eq_true_eq, Int.ofNat_lt, h1, h2, if_true, Int.natCast_nonneg, decide_true, ih]
    by_cases e : a.getD i [] = b.getD i [] <;> simp only [e, List.cons.injEq, true_and, false_and, decide_false, decide_true, Bool.not_true, Bool.not_false, if_false, if_true, Bool.false_eq_true]
theorem bX.is {k : Nat} {a b : List (List Int)} (hk : 4194304 + 2 ≤ k) (ha : a.length ≤ 1048576) (hr : ∀ x ∈ a, x.length ≤ 1048576) : bX k a b = some (decide (a = b)) := by
  obtain ⟨k, rfl⟩ : ∃ k', k = k' + 1 := ⟨k - 1, by omega⟩
  rw [bX.eq]
  by_cases hl : a.length = b.length
  · have h := bX.loop (k := k) (by omega) hl ha hr a.length k 0 (by omega) (by omega)
    rw [Int.natCast_zero] at h
    simp only [List.drop_zero] at h
    have hl' : (a.length : Int) = b.length := by omega
    simp only [aB, bL, bO, aP, aN, hl', decide_true, Bool.not_true, Bool.false_eq_true, if_false, h]
  · have hne : a ≠ b := fun e => hl (by rw [e])
    have hl' : ¬ (a.length : Int) = b.length := by omega
    simp [hl', hne]
theorem dy.is {k : Nat} {a b : List Int × List (List Int)} (hk : 4194304 + 3 ≤ k) (h1 : a.1.length ≤ 1048576) (ha : a.2.length ≤ 1048576) (hr : ∀ x ∈ a.2, x.length ≤ 1048576) : dy k a b = some (decide (a = b)) := by
  obtain ⟨k, rfl⟩ : ∃ k', k = k' + 1 := ⟨k - 1, by omega⟩
  obtain ⟨a1, a2⟩ := a
  obtain ⟨b1, b2⟩ := b
  rw [dy.eq, cq.is (by omega) h1, ah, bX.is (by omega) ha hr]
  by_cases e1 : a1 = b1 <;> by_cases e2 : a2 = b2 <;> simp [e1, e2]
theorem bP.loop {k : Nat} : ∀ (m j i : Nat) (q : Int) (a : List Int), i + m = a.length → m < j → a.length ≤ 1048576 → 0 ≤ q → q + m ≤ 4000000000000 → bP.L0 k j q i a = some (q + m, a.take i ++ Pu.mark (a.drop i) q)
  | m, 0, i, q, a, _, hj, _, _, _ => by omega
  | 0, j + 1, i, q, a, hi, _, _, _, _ => by
    rw [bP.bS]
    have e : i = a.length := by omega
    subst e
    simp [Pu.mark]
  | m + 1, j + 1, i, q, a, hi, hj, ha, hq, hq2 => by
    rw [bP.bS]
    have h1 : i < a.length := by omega
    have ih := bP.loop (k := k) m j (i + 1) (q + 1) (a.set i q) (by simp; omega) (by omega) (by simpa using ha) (by omega) (by omega)
    rw [Int.natCast_succ] at ih
    have e1 : (a.set i q).take (i + 1) = a.take i ++ [q] := by
      rw [Pu.take_succ (by simpa using h1) 0, List.take_set_of_le (Nat.le_refl _)]
      simp [h1]
    have e2 : (a.set i q).drop (i + 1) = a.drop (i + 1) := by rw [List.drop_set_of_lt (by omega)]
    rw [e1, e2] at ih
    rw [Pu.drop_cons h1 0]
    simp (disch := omega) only [aB, bI, bK, aZ, aN, aP, aQ, aY, aq, aS, Pu.w64, Int.toNat_natCast, decide_eq_true_eq, Int.ofNat_lt, h1, if_true, Int.natCast_nonneg, decide_true, ih, Pu.mark]
    simp
    omega
theorem bP.is {k : Nat} {a : List Int} {q : Int} (hk : 4194304 + 1 ≤ k) (ha : a.length ≤ 1048576) (hq : 0 ≤ q) (hq2 : q + a.length ≤ 4000000000000) : bP k q a = some (q + a.length, Pu.mark a q) := by
  obtain ⟨k, rfl⟩ : ∃ k', k = k' + 1 := ⟨k - 1, by omega⟩
  rw [bP.eq]
  have h := bP.loop (k := k) a.length k 0 q a (by omega) (by omega) ha hq hq2
  rw [Int.natCast_zero] at h
  simpa using h
theorem aM.inner {k k1 r : Nat} {x3 x4 x5 x6 x8 x11 : Int} {x7 : Bool} {x9 x10 : Nat} : ∀ (m j i : Nat) (q : Int) (a : List (List Int)), r < a.length → i + m = (a.getD r []).length → m < j → (a.getD r []).length ≤ 1048576 → 0 ≤ q → q + m ≤ 4000000000000 → 0 ≤ x4 → x4 ≤ 4000000000000 →
    aM.L1 k k1 j r q i x3 x4 x5 x6 x7 x8 x9 x10 x11 a = aM.L0 k k1 (q + m) (x4 + 1) (a.set r ((a.getD r []).take i ++ Pu.mark ((a.getD r []).drop i) q))
  | m, 0, i, q, a, _, _, hj, _, _, _, _, _ => by omega
  | 0, j + 1, i, q, a, hr, hi, _, _, _, _, _, _ => by
    rw [aM.dq]
    have e : i = (a.getD r []).length := by omega
    have h1 : ¬ i < (a.getD r []).length := by omega
    have e2 : a.set r ((a.getD r []).take i ++ Pu.mark ((a.getD r []).drop i) q) = a := by
      rw [e, List.take_length, List.drop_length]
      simp only [Pu.mark, List.append_nil]
      rw [Pu.ar hr, List.set_getElem_self]
    rw [e2]
    simp (disch := omega) only [aB, bI, aZ, aN, aP, bt, aq, aS, Pu.w64, decide_eq_true_eq, Int.ofNat_lt, hr, h1, if_true, if_false, decide_true]
    simp
  | m + 1, j + 1, i, q, a, hr, hi, hj, ha, hq, hq2, hx, hx2 => by
    rw [aM.dq]
    have h1 : i < (a.getD r []).length := by omega
    have eg : (a.set r ((a.getD r []).set i q)).getD r [] = (a.getD r []).set i q := by
      rw [Pu.ar (by simpa using hr)]; simp
    have ih := aM.inner (k := k) (k1 := k1) (r := r) (x3 := x3) (x4 := x4) (x5 := x5) (x6 := x6) (x7 := x7) (x8 := x8) (x9 := x9) (x10 := x10) (x11 := x11) m j (i + 1) (q + 1) (a.set r ((a.getD r []).set i q)) (by rw [List.length_set]; exact hr) (by rw [eg, List.length_set]; omega) (by omega) (by rw [eg, List.length_set]; exact ha) (by omega) (by omega) hx hx2
    rw [eg, Int.natCast_succ, List.set_set] at ih
    have hl1 : i < ((a.getD r []).set i q).length := by rw [List.length_set]; exact h1
    have e1 : ((a.getD r []).set i q).take (i + 1) = (a.getD r []).take i ++ [q] := by
      rw [Pu.take_succ hl1 0, List.take_set_of_le (Nat.le_refl _), Pu.ar hl1, List.getElem_set_self]
    have e2 : ((a.getD r []).set i q).drop (i + 1) = (a.getD r []).drop (i + 1) := by rw [List.drop_set_of_lt (by omega)]
    rw [e1, e2] at ih
    rw [Pu.drop_cons h1 0]
    simp (disch := omega) only [aB, bI, bK, aZ, aN, aP, aQ, aY, bt, aq, aS, Pu.w64, Int.toNat_natCast, decide_eq_true_eq, Int.ofNat_lt, hr, h1, if_true, Int.natCast_nonneg, decide_true, ih, Pu.mark]
    simp only [List.append_assoc, List.singleton_append]
    congr 1
    omega
theorem aM.loop {k : Nat} (hk : 4194304 ≤ k) : ∀ (m j i : Nat) (q : Int) (a : List (List Int)), i + m = a.length → m < j → a.length ≤ 1048576 → (∀ x ∈ a, x.length ≤ 1048576) → 0 ≤ q → q + Pu.eO (a.drop i) ≤ 4000000000000 →
    aM.L0 k j q i a = some (q + Pu.eO (a.drop i), a.take i ++ Pu.iU (a.drop i) q)
  | m, 0, i, q, a, _, hj, _, _, _, _ => by omega
  | 0, j + 1, i, q, a, hi, _, _, _, _, _ => by
    rw [aM.bS]
    have e : i = a.length := by omega
    subst e
    simp [Pu.iU, Pu.eO]
  | m + 1, j + 1, i, q, a, hi, hj, ha, hr, hq, hq2 => by
    rw [aM.bS]
    have h1 : i < a.length := by omega
    have hx := hr a[i] (List.getElem_mem h1)
    rw [← Pu.ar h1 []] at hx
    rw [Pu.drop_cons h1 []] at hq2 ⊢
    simp only [Pu.eO] at hq2
    simp (disch := omega) only [aB, bI, bK, aZ, aN, aP, aQ, bt, aq, aS, Pu.w64, Int.toNat_natCast, decide_eq_true_eq, Int.ofNat_lt, h1, if_true, Int.natCast_nonneg, decide_true, Pu.iU, Pu.eO]
    have hin := fun (x7 : Bool) (x6 : Int) => aM.inner (k := k) (k1 := j) (r := i) (x3 := q) (x4 := i) (x5 := i) (x6 := x6) (x7 := x7) (x8 := i) (x9 := i) (x10 := i) (x11 := q) (a.getD i []).length k 0 q a h1 (by omega) (by omega) hx hq (by omega) (by omega) (by omega)
    simp only [Int.natCast_zero] at hin
    rw [hin]
    have ih := aM.loop (k := k) hk m j (i + 1) (q + (a.getD i []).length) (a.set i (Pu.mark (a.getD i []) q)) (by simp; omega) (by omega) (by simpa using ha) (fun x hx' => by
        rcases List.mem_or_eq_of_mem_set hx' with h | rfl
        · exact hr x h
        · rw [Pu.nP]; exact hx) (by omega) (by rw [List.drop_set_of_lt (by omega)]; omega)
    have e1 : (a.set i (Pu.mark (a.getD i []) q)).take (i + 1) = a.take i ++ [Pu.mark (a.getD i []) q] := by
      rw [Pu.take_succ (by simpa using h1) [], List.take_set_of_le (Nat.le_refl _), Pu.ar (by simpa using h1)]
      simp
    rw [e1, List.drop_set_of_lt (by omega), Int.natCast_succ] at ih
    simp only [List.take_zero, List.drop_zero, List.nil_append]
    rw [ih]
    simp
    omega
theorem aM.is {k : Nat} {a : List (List Int)} {q : Int} (hk : 4194304 + 2 ≤ k) (ha : a.length ≤ 1048576) (hr : ∀ x ∈ a, x.length ≤ 1048576) (hq : 0 ≤ q) (hq2 : q + Pu.eO a ≤ 4000000000000) : aM k q a = some (q + Pu.eO a, Pu.iU a q) := by
  obtain ⟨k, rfl⟩ : ∃ k', k = k' + 2 := ⟨k - 2, by omega⟩
  rw [aM.eq]
  have h := aM.loop (k := k) (by omega) a.length (k + 1) 0 q a (by omega) (by omega) ha hr hq hq2
  rw [Int.natCast_zero] at h
  simpa using h
theorem ct.is {k : Nat} {a : List Int} {b : List (List Int)} {q : Int} (hk : 4194304 + 3 ≤ k) (h1 : a.length ≤ 1048576) (ha : b.length ≤ 1048576) (hr : ∀ x ∈ b, x.length ≤ 1048576) (hq : 0 ≤ q) (hq2 : q + a.length + Pu.eO b ≤ 4000000000000) :
    ct k q a b = some (q + a.length + Pu.eO b, (Pu.mark a q, Pu.iU b (q + a.length))) := by
  obtain ⟨k, rfl⟩ : ∃ k', k = k' + 1 := ⟨k - 1, by omega⟩
  rw [ct.eq, bP.is (by omega) h1 hq (by omega), ah, aM.is (by omega) ha hr (by omega) (by omega)]
  rfl
theorem ca.loop {k : Nat} {a : List Int} (ha : a.length ≤ 1048576) : ∀ (m j i : Nat) (q : Int), i + m = a.length → m < j → 0 ≤ q → q + m ≤ 4000000000000 → ca.L0 k j q i a = some (Pu.held (a.drop i) q)
  | m, 0, i, q, _, hj, _, _ => by omega
  | 0, j + 1, i, q, hi, _, _, _ => by
    rw [ca.bS]
    have e : i = a.length := by omega
    subst e
    simp [Pu.held]
  | m + 1, j + 1, i, q, hi, hj, hq, hq2 => by
    rw [ca.bS]
    have h1 : i < a.length := by omega
    have ih := ca.loop (k := k) ha m j (i + 1) (q + 1) (by omega) (by omega) (by omega) (by omega)
    rw [Int.natCast_succ] at ih
    rw [Pu.drop_cons h1 0]
    simp (disch := omega) only [aB, bI, bK, aZ, aN, aP, aQ, bt, aq, aS, bL, bO, Pu.w64, Int.toNat_natCast, decide_eq_true_eq, Int.ofNat_lt, h1, if_true, Int.natCast_nonneg, decide_true, Pu.held, ih]
    by_cases e : a.getD i 0 = q <;> simp only [e, decide_true, decide_false, Bool.not_false, Bool.not_true, if_true, if_false, Bool.false_eq_true]
theorem ca.is {k : Nat} {a : List Int} {q : Int} (hk : 4194304 + 1 ≤ k) (ha : a.length ≤ 1048576) (hq : 0 ≤ q) (hq2 : q + a.length ≤ 4000000000000) : ca k a q = some (Pu.held a q) := by
  obtain ⟨k, rfl⟩ : ∃ k', k = k' + 1 := ⟨k - 1, by omega⟩
  rw [ca.eq]
  have h := ca.loop (k := k) ha a.length k 0 q (by omega) (by omega) hq hq2
  rw [Int.natCast_zero] at h
  exact h
theorem bV.loop {k : Nat} {a : List (List Int)} (hk : 4194304 + 1 ≤ k) (ha : a.length ≤ 1048576) (hr : ∀ x ∈ a, x.length ≤ 1048576) : ∀ (m j i : Nat) (q : Int), i + m = a.length → m < j → 0 ≤ q → q + Pu.eO (a.drop i) ≤ 4000000000000 → bV.L0 k j q i a = some (Pu.py (a.drop i) q)
  | m, 0, i, q, _, hj, _, _ => by omega
  | 0, j + 1, i, q, hi, _, _, _ => by
    rw [bV.bS]
    have e : i = a.length := by omega
    subst e
    simp [Pu.py]
  | m + 1, j + 1, i, q, hi, hj, hq, hq2 => by
    rw [bV.bS]
    have h1 : i < a.length := by omega
    rw [Pu.drop_cons h1 []] at hq2 ⊢
    simp only [Pu.eO] at hq2
    have hx := hr a[i] (List.getElem_mem h1)
    rw [← Pu.ar h1 []] at hx
    have hh := ca.is (k := k) (a := a.getD i []) (q := q) (by omega) hx hq (by omega)
    simp (disch := omega) only [aB, bI, bK, aZ, aN, aP, aQ, bt, aq, aS, bL, bO, Pu.w64, Int.toNat_natCast, decide_eq_true_eq, Int.ofNat_lt, h1, if_true, Int.natCast_nonneg, decide_true, Pu.py, hh, ah]
    by_cases e : Pu.held (a.getD i []) q < 0
    · simp only [e, if_true]
    · have hle := Pu.wW (a.getD i []) q hq
      have ih := bV.loop (k := k) hk ha hr m j (i + 1) (Pu.held (a.getD i []) q) (by omega) (by omega) (by omega) (by omega)
      rw [Int.natCast_succ] at ih
      simp only [e, if_false, ih]
theorem bV.is {k : Nat} {a : List (List Int)} {q : Int} (hk : 4194304 + 2 ≤ k) (ha : a.length ≤ 1048576) (hr : ∀ x ∈ a, x.length ≤ 1048576) (hq : 0 ≤ q) (hq2 : q + Pu.eO a ≤ 4000000000000) : bV k a q = some (Pu.py a q) := by
  obtain ⟨k, rfl⟩ : ∃ k', k = k' + 1 := ⟨k - 1, by omega⟩
  rw [bV.eq]
  have h := bV.loop (k := k) (by omega) ha hr a.length k 0 q (by omega) (by omega) hq hq2
  rw [Int.natCast_zero] at h
  exact h
theorem az.is {p q : Pu.Tab} {r0 c0 : Int} (h1 : p.1.length ≤ maxLen) (h2 : p.2.length ≤ maxLen) (h3 : ∀ r ∈ p.2, r.length ≤ maxLen) (g1 : q.1.length ≤ maxLen) (g2 : q.2.length ≤ maxLen) (g3 : ∀ r ∈ q.2, r.length ≤ maxLen) : ∃ k, az k p q r0 c0 = some true := by
  refine ⟨4194304 + 90 + 1, ?_⟩
  generalize hkk : (4194304 + 90 : Nat) = k
  have hk : 4194304 + 90 ≤ k := by omega
  clear hkk
  rw [az.eq]
  obtain ⟨r, hr0, hr1⟩ := dA.is (k := k) (a := p) (b := 1048576) (by omega) h1 h2 h3 (by omega) (by omega)
  rw [show ((p.1, p.2) : Pu.Tab) = p from rfl, show ((q.1, q.2) : Pu.Tab) = q from rfl]
  refine Pu.bE hr0 ?_
  by_cases c : r < 0
  · exact Pu.tG c rfl
  · obtain ⟨s0, s1, s2, s3⟩ := hr1 (by omega)
    have hp : Pu.jY p := ⟨by omega, by omega, fun y hy => by have := s3 y hy; omega⟩
    obtain ⟨r', hq0, hq1⟩ := dA.is (k := k) (a := q) (b := r) (by omega) g1 g2 g3 (by omega) (by omega)
    refine Pu.tX c (Pu.bE hq0 ?_)
    by_cases c2 : r' < 0
    · exact Pu.tG c2 rfl
    · obtain ⟨t0, t1, t2, t3⟩ := hq1 (by omega)
      have hq : Pu.jY q := ⟨by omega, by omega, fun y hy => by have := t3 y hy; omega⟩
      have hto1 := cj.is (k := k) (a := p) (by omega) hp.1 hp.2.1 hp.2.2
      have hto2 := cj.is (k := k) (a := q) (by omega) hq.1 hq.2.1 hq.2.2
      have hs1 := Pu.ov hp.2.1 hp.2.2
      have hs2 := Pu.ov hq.2.1 hq.2.2
      have hmk1 := ct.is (k := k) (a := p.1) (b := p.2) (q := 1) (by omega) hp.1 hp.2.1 hp.2.2 (by omega) (by omega)
      have hmk2 := ct.is (k := k) (a := q.1) (b := q.2) (q := 1 + p.1.length + Pu.eO p.2) (by omega) hq.1 hq.2.1 hq.2.2 (by omega) (by omega)
      have he1 := dy.is (k := k) (a := p) (b := p) (by omega) hp.1 hp.2.1 hp.2.2
      have he2 := dy.is (k := k) (a := q) (b := q) (by omega) hq.1 hq.2.1 hq.2.2
      rw [decide_eq_true rfl] at he1 he2
      have n1 : ¬ ((1 : Int) + p.1.length + Pu.eO p.2 + q.1.length + Pu.eO q.2 < 0) := by omega
      have hsp := aE.is (k := k) (p := p) (q := q) (r := r0) (c := c0) (by omega) hp hq
      have him := aC.is (k := k) (p := p) (q := q) (r := r0) (c := c0) (by omega) hp hq
      obtain ⟨hl1, hl2⟩ := Pu.pP (p := p) (q := q) (r := r0) (c := c0)
      generalize Pu.eI p q r0 c0 = G at *
      obtain ⟨g, b⟩ := G
      simp only at hl1 hl2
      have hl3 : ∀ x ∈ g, x.length ≤ 1048576 := fun x hx => by have := hl2 x hx; omega
      have hsz := Pu.ov (show g.length ≤ 1048576 by omega) hl3
      have heg := bX.is (k := k) (a := g) (b := g) (by omega) (by omega) hl3
      rw [decide_eq_true rfl] at heg
      have hmg := aM.is (k := k) (a := g) (q := 1) (by omega) (by omega) hl3 (by omega) (by omega)
      have hhg := bV.is (k := k) (a := Pu.iU g 1) (q := 1) (by omega) (by rw [Pu.sR]; omega) (Pu.xA hl3) (by omega) (by rw [Pu.rp]; omega)
      rw [Pu.q9 _ _ (by omega)] at hhg
      have n2 : ¬ ((1 : Int) + Pu.eO g < 0) := by omega
      have hJ2 : az.J2 k ((1 : Int) + Pu.eO g) (Pu.iU g 1) = some true := by
        rw [az.mw]
        exact Pu.bE hhg (Pu.tX n2 (Pu.tE rfl rfl))
      have hJ1 : az.J1 k r0 c0 b g g p.1 p.2 q.1 q.2 = some true := by
        rw [az.gH]
        exact Pu.bE hmg (Pu.bE hhg (Pu.tX n2 (Pu.tE rfl (Pu.bE hto1 (Pu.bE hto2 (Pu.bE him (Pu.bE heg (Pu.tN (Pu.tB hJ2)))))))))
      have hJ0 : az.J0 k r0 c0 b b g g p.1 p.2 q.1 q.2 p.1 p.2 q.1 q.2 = some true := by
        rw [az.fF]
        exact Pu.bE hto1 (Pu.bE he1 (Pu.tN (Pu.bE hto2 (Pu.bE he2 (Pu.tN (Pu.bE hmk1 (Pu.bE hmk2 (Pu.tX n1 (Pu.bE heg (Pu.tN (Pu.tB hJ1)))))))))))
      exact Pu.tX c2 (Pu.bE hto1 (Pu.bE hto2 (Pu.bE hsp (Pu.bE hto1 (Pu.bE hto2 (Pu.bE him (Pu.bE heg (Pu.tN (Pu.tB hJ0)))))))))
end Go.Am.Seat
