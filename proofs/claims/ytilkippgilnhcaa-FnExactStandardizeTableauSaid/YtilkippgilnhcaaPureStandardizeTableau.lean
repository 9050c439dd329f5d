/- What the functions make of data, as plain words; each holds for all data within the bounds that it names. -/
import Derived.Test.YtilkippgilnhcaaEqsStandardizeTableau
import Derived.Test.YtilkippgilnhcaaPu
set_option linter.unusedSimpArgs false
set_option linter.unusedVariables false
set_option linter.unnecessarySimpa false
set_option linter.unusedSectionVars false
namespace Go.Am.Seat
open Go Go.Am Go.Am.Pu
attribute [local instance] D.real
set_option linter.unusedSimpArgs false
set_option linter.unusedVariables false
set_option maxRecDepth 4000
theorem dO.is {k : Nat} {a : List Int} {b : Int} (hk : 4194304 + 1 ≤ k) (ha : a.length ≤ maxLen) (h1 : 0 ≤ b) (h2 : b ≤ 1048576) : dO k a b = some (if b - a.length < 0 then -1 else b - a.length) := by
  obtain ⟨k, rfl⟩ : ∃ k', k = k' + 1 := ⟨k - 1, by omega⟩
  have ha : a.length ≤ 9223372036854775807 := ha
  rw [dO.eq]
  simp (disch := omega) only [aL, bS, aD, ba, aU, aQ, decide_eq_true_eq, Pu.w64]
  split <;> rfl
theorem bT.loop {k : Nat} {a : List (List Int)} (hk : 4194304 + 1 ≤ k) (ha : a.length ≤ 1048576) (hr : ∀ x ∈ a, x.length ≤ maxLen) : ∀ (m j i : Nat) (b : Int), i + m = a.length → m < j → 0 ≤ b → b ≤ 1048576 →
    ∃ r, bT.L0 k j b i a = some r ∧ (0 ≤ r → r ≤ b ∧ ∀ (q : Nat) x, i ≤ q → a[q]? = some x → (x.length : Int) ≤ b)
  | m, 0, i, b, _, hj, _, _ => by omega
  | 0, j + 1, i, b, hi, _, _, _ => by
    rw [bT.cf]
    have e : i = a.length := by omega
    subst e
    exact ⟨b, by simp, fun _ => ⟨Int.le_refl _, fun q x h1 h2 => by have := (List.getElem?_eq_some_iff.1 h2).1; omega⟩⟩
  | m + 1, j + 1, i, b, hi, hj, hb, hb2 => by
    rw [bT.cf]
    have hlt : i < a.length := by omega
    have hx := hr a[i] (List.getElem_mem hlt)
    have hx' : a[i].length ≤ 9223372036854775807 := hx
    have h1 := dO.is (k := k) (a := a[i]) (b := b) (by omega) hx hb hb2
    by_cases hc : b - a[i].length < 0
    · rw [if_pos hc] at h1
      exact ⟨-1, by simp [hlt, h1], fun h => by omega⟩
    · rw [if_neg hc] at h1
      obtain ⟨r, h2, h3⟩ := bT.loop hk ha hr m j (i + 1) (b - a[i].length) (by omega) (by omega) (by omega) (by omega)
      rw [Int.natCast_succ] at h2
      refine ⟨r, by simp (disch := omega) [hlt, h1, hc, Pu.w64, h2], fun h0 => ?_⟩
      obtain ⟨h4, h5⟩ := h3 h0
      refine ⟨by omega, fun q x h6 h7 => ?_⟩
      by_cases e : q = i
      · subst e
        rw [List.getElem?_eq_getElem hlt] at h7
        injection h7 with h7
        subst h7
        omega
      · have := h5 q x (by omega) h7
        omega
theorem bT.is {k : Nat} {a : List (List Int)} {b : Int} (hk : 4194304 + 2 ≤ k) (ha : a.length ≤ maxLen) (hr : ∀ x ∈ a, x.length ≤ maxLen) (h1 : 0 ≤ b) (h2 : b ≤ 1048576) :
    ∃ r, bT k a b = some r ∧ (0 ≤ r → r ≤ b ∧ (a.length : Int) ≤ b ∧ ∀ x ∈ a, (x.length : Int) ≤ b) := by
  obtain ⟨k, rfl⟩ : ∃ k', k = k' + 1 := ⟨k - 1, by omega⟩
  have ha : a.length ≤ 9223372036854775807 := ha
  rw [bT.eq]
  by_cases hc : b - a.length < 0
  · exact ⟨-1, by simp (disch := omega) [Pu.w64, hc], fun h => by omega⟩
  · obtain ⟨r, h3, h4⟩ := bT.loop (k := k) (a := a) (by omega) (by omega) hr a.length k 0 (b - a.length) (by omega) (by omega) (by omega) (by omega)
    rw [Int.natCast_zero] at h3
    refine ⟨r, by simp (disch := omega) [Pu.w64, hc, h3], fun h0 => ?_⟩
    obtain ⟨h5, h6⟩ := h4 h0
    refine ⟨by omega, by omega, fun x hx => ?_⟩
    obtain ⟨q, hq⟩ := List.mem_iff_getElem?.1 hx
    have := h6 q x (by omega) hq
    omega
theorem dC.is {k : Nat} {a : List Int × List (List Int)} {b : Int} (hk : 4194304 + 3 ≤ k) (ha : a.1.length ≤ maxLen) (ha2 : a.2.length ≤ maxLen) (hr : ∀ x ∈ a.2, x.length ≤ maxLen) (h1 : 0 ≤ b) (h2 : b ≤ 1048576) :
    ∃ r, dC k a b = some r ∧ (0 ≤ r → r ≤ b ∧ (a.1.length : Int) ≤ b ∧ (a.2.length : Int) ≤ b ∧ ∀ x ∈ a.2, (x.length : Int) ≤ b) := by
  obtain ⟨k, rfl⟩ : ∃ k', k = k' + 1 := ⟨k - 1, by omega⟩
  rw [dC.eq, dO.is (by omega) ha h1 h2]
  by_cases hc : b - a.1.length < 0
  · exact ⟨-1, by simp [hc], fun h => by omega⟩
  · obtain ⟨r, h3, h4⟩ := bT.is (k := k) (a := a.2) (b := b - a.1.length) (by omega) ha2 hr (by omega) (by omega)
    by_cases hr0 : r < 0
    · exact ⟨-1, by simp [hc, h3, hr0], fun h => by omega⟩
    · refine ⟨r, by simp [hc, h3, hr0], fun h0 => ?_⟩
      obtain ⟨h5, h6, h7⟩ := h4 h0
      refine ⟨by omega, by omega, by omega, fun x hx => ?_⟩
      have := h7 x hx
      omega
theorem bW.loop {k : Nat} {a : List Int} (ha : a.length ≤ 1048576) : ∀ (m j i : Nat), i + m = a.length → m < j → bW.L0 k j i a (a.take i ++ List.replicate (a.length - i) 0) = some a
  | m, 0, i, _, hj => by omega
  | 0, j + 1, i, hi, _ => by
    rw [bW.cf]
    have e : i = a.length := by omega
    subst e
    simp
  | m + 1, j + 1, i, hi, hj => by
    rw [bW.cf]
    have hlt : i < a.length := by omega
    have ih := bW.loop (k := k) ha m j (i + 1) (by omega) (by omega)
    rw [Int.natCast_succ] at ih
    have hl : i < (a.take i ++ List.replicate (a.length - i) (0 : Int)).length := by simp; omega
    have hf := Pu.sg hlt (0 : Int) 0
    simp (disch := omega) only [aL, bS, bX, a7, aQ, aU, aT, bP, bc, aD, aS, Pu.w64, Int.toNat_natCast, decide_eq_true_eq, Int.ofNat_lt, hlt, hl, if_true, Int.natCast_nonneg, decide_true, hf, ih]
theorem bW.is {k : Nat} {a : List Int} (hk : 4194304 + 1 ≤ k) (ha : a.length ≤ 1048576) : bW k a = some a := by
  obtain ⟨k, rfl⟩ : ∃ k', k = k' + 1 := ⟨k - 1, by omega⟩
  rw [bW.eq]
  have h := bW.loop (k := k) ha a.length k 0 (by omega) (by omega)
  rw [Int.natCast_zero] at h
  simp only [List.take_zero, List.nil_append, Nat.sub_zero] at h
  have hl : a.length ≤ 1099511627776 := by omega
  simp [h, hl]
theorem bU.loop {k : Nat} {a : List (List Int)} (hk : 4194304 + 1 ≤ k) (ha : a.length ≤ 1048576) (hr : ∀ x ∈ a, x.length ≤ 1048576) : ∀ (m j i : Nat), i + m = a.length → m < j → bU.L0 k j i a (a.take i ++ List.replicate (a.length - i) []) = some a
  | m, 0, i, _, hj => by omega
  | 0, j + 1, i, hi, _ => by
    rw [bU.cf]
    have e : i = a.length := by omega
    subst e
    simp
  | m + 1, j + 1, i, hi, hj => by
    rw [bU.cf]
    have hlt : i < a.length := by omega
    have ih := bU.loop (k := k) hk ha hr m j (i + 1) (by omega) (by omega)
    rw [Int.natCast_succ] at ih
    have hl : i < (a.take i ++ List.replicate (a.length - i) ([] : List Int)).length := by simp; omega
    have hf := Pu.sg hlt ([] : List Int) []
    have h1 := bW.is (k := k) (a := a.getD i []) (by omega) (by rw [Pu.aJ hlt]; exact hr _ (List.getElem_mem hlt))
    simp (disch := omega) only [aL, bS, bX, a7, aQ, aU, aT, bP, bc, aD, aS, Pu.w64, Int.toNat_natCast, decide_eq_true_eq, Int.ofNat_lt, hlt, hl, if_true, Int.natCast_nonneg, decide_true, h1, an, hf, ih]
theorem bU.is {k : Nat} {a : List (List Int)} (hk : 4194304 + 2 ≤ k) (ha : a.length ≤ 1048576) (hr : ∀ x ∈ a, x.length ≤ 1048576) : bU k a = some a := by
  obtain ⟨k, rfl⟩ : ∃ k', k = k' + 1 := ⟨k - 1, by omega⟩
  rw [bU.eq]
  have h := bU.loop (k := k) (by omega) ha hr a.length k 0 (by omega) (by omega)
  rw [Int.natCast_zero] at h
  simp only [List.take_zero, List.nil_append, Nat.sub_zero] at h
  have hl : a.length ≤ 1099511627776 := by omega
  simp [h, hl]
theorem cJ.is {k : Nat} {a : List Int × List (List Int)} (hk : 4194304 + 3 ≤ k) (h1 : a.1.length ≤ 1048576) (ha : a.2.length ≤ 1048576) (hr : ∀ x ∈ a.2, x.length ≤ 1048576) : cJ k a = some a := by
  obtain ⟨k, rfl⟩ : ∃ k', k = k' + 1 := ⟨k - 1, by omega⟩
  rw [cJ.eq, bW.is (by omega) h1, an, bU.is (by omega) ha hr]
  rfl
theorem fu.is {k : Nat} {x lo hi : Int} (hk : 1 ≤ k) : fu k x lo hi = some (Pu.within x lo hi) := by
  obtain ⟨k, rfl⟩ : ∃ k', k = k' + 1 := ⟨k - 1, by omega⟩
  rw [fu.eq]
  by_cases h : lo ≤ x <;> simp [Pu.within, h]
theorem aH.loop {k : Nat} {p : List Int} (hk : 4194304 ≤ k) (hp : p.length ≤ 1048576) : ∀ (m j i : Nat) (s v : Int), i + m = p.length → m < j → (i = 0 → v = 9) → (0 < i → v = p.getD (i - 1) 0) → v ≤ 9 → 0 ≤ s → s ≤ 9 →
    aH.L0 k j s i p = some (Pu.eL (p.drop i) v s)
  | m, 0, i, s, v, _, hj, _, _, _, _, _ => by omega
  | 0, j + 1, i, s, v, hi, _, _, _, _, _, _ => by
    rw [aH.cf]
    have e : i = p.length := by omega
    subst e
    simp [Pu.eL]
  | m + 1, j + 1, i, s, v, hi, hj, h0, h1, hv, hs, hs9 => by
    rw [aH.cf]
    have hlt : i < p.length := by omega
    have hj1 : ∀ x : Int, x = p.getD i 0 → 1 ≤ x → x ≤ v → aH.J1 k j s i p = some (decide (s + x ≤ 9) && Pu.eL (p.drop (i + 1)) x (s + x)) := by
      intro x hx hx1 hx2
      rw [aH.nB]
      simp (disch := omega) only [↓aL, bS, bX, a7, br, bq, aQ, aU, aT, bP, bc, bn, aO, aN, bp, aD, aS, ba, b6, ca, bo, bt, an, Pu.w64, Int.toNat_natCast, decide_eq_true_eq, Int.ofNat_lt, Int.ofNat_le, if_true, if_false, Int.natCast_nonneg, decide_true, decide_false, Bool.not_true, Bool.not_false, Bool.false_eq_true, Bool.not_eq_true, Bool.true_and, Bool.and_true, Bool.false_and, Bool.and_false, hlt, ← hx]
      by_cases c : 9 < s + x
      · have : ¬ s + x ≤ 9 := by omega
        simp [c, this]
      · have c' : s + x ≤ 9 := by omega
        have ih := aH.loop hk hp m j (i + 1) (s + x) x (by omega) (by omega) (by omega) (by simp [hx]) (by omega) (by omega) c'
        rw [Int.natCast_succ] at ih
        simp [c, c', ih]
    rw [Pu.drop_cons hlt 0]
    simp (disch := omega) only [↓aL, bS, bX, a7, br, bq, aQ, aU, aT, bP, bc, bn, aO, aN, bp, aD, aS, ba, b6, ca, bo, bt, an, Pu.w64, Int.toNat_natCast, decide_eq_true_eq, Int.ofNat_lt, Int.ofNat_le, if_true, if_false, Int.natCast_nonneg, decide_true, decide_false, Bool.not_true, Bool.not_false, Bool.false_eq_true, Bool.not_eq_true, Bool.true_and, Bool.and_true, Bool.false_and, Bool.and_false, hlt, fu.is, Pu.eL]
    generalize hx : p.getD i 0 = x at *
    unfold Pu.within
    by_cases c1 : 1 ≤ x
    · by_cases c2 : x ≤ v
      · have c3 : x ≤ 9 := by omega
        have hj := hj1 x rfl c1 c2
        by_cases hi0 : i = 0
        · have hpos : ¬ (0 : Int) < i := by omega
          simp (disch := omega) only [↓aL, bS, bX, a7, br, bq, aQ, aU, aT, bP, bc, bn, aO, aN, bp, aD, aS, ba, b6, ca, bo, bt, an, Pu.w64, Int.toNat_natCast, decide_eq_true_eq, Int.ofNat_lt, Int.ofNat_le, if_true, if_false, Int.natCast_nonneg, decide_true, decide_false, Bool.not_true, Bool.not_false, Bool.false_eq_true, Bool.not_eq_true, Bool.true_and, Bool.and_true, Bool.false_and, Bool.and_false, c1, c2, c3, hpos, hj]
        · have hv' := h1 (by omega)
          have e : ((i : Int) - 1) = ((i - 1 : Nat) : Int) := by omega
          have hlt' : i - 1 < p.length := by omega
          have hge : ¬ p.getD (i - 1) 0 < x := by rw [← hv']; omega
          have hpos : (0 : Int) < i := by omega
          simp (disch := omega) only [e, ↓aL, bS, bX, a7, br, bq, aQ, aU, aT, bP, bc, bn, aO, aN, bp, aD, aS, ba, b6, ca, bo, bt, an, Pu.w64, Int.toNat_natCast, decide_eq_true_eq, Int.ofNat_lt, Int.ofNat_le, if_true, if_false, Int.natCast_nonneg, decide_true, decide_false, Bool.not_true, Bool.not_false, Bool.false_eq_true, Bool.not_eq_true, Bool.true_and, Bool.and_true, Bool.false_and, Bool.and_false, hlt', c1, c2, c3, hj, hpos, hge]
      · simp only [c1, c2, ↓aL, bS, bX, a7, br, bq, aQ, aU, aT, bP, bc, bn, aO, aN, bp, aD, aS, ba, b6, ca, bo, bt, an, Pu.w64, Int.toNat_natCast, decide_eq_true_eq, Int.ofNat_lt, Int.ofNat_le, if_true, if_false, Int.natCast_nonneg, decide_true, decide_false, Bool.not_true, Bool.not_false, Bool.false_eq_true, Bool.not_eq_true, Bool.true_and, Bool.and_true, Bool.false_and, Bool.and_false]
        by_cases c3 : x ≤ 9
        · have hi0 : 0 < i := by
            rcases Nat.eq_zero_or_pos i with h | h
            · have := h0 h; omega
            · exact h
          have hv' := h1 hi0
          have e : ((i : Int) - 1) = ((i - 1 : Nat) : Int) := by omega
          have hlt' : i - 1 < p.length := by omega
          have hge : p.getD (i - 1) 0 < x := by rw [← hv']; omega
          have hpos : (0 : Int) < i := by omega
          simp (disch := omega) only [e, ↓aL, bS, bX, a7, br, bq, aQ, aU, aT, bP, bc, bn, aO, aN, bp, aD, aS, ba, b6, ca, bo, bt, an, Pu.w64, Int.toNat_natCast, decide_eq_true_eq, Int.ofNat_lt, Int.ofNat_le, if_true, if_false, Int.natCast_nonneg, decide_true, decide_false, Bool.not_true, Bool.not_false, Bool.false_eq_true, Bool.not_eq_true, Bool.true_and, Bool.and_true, Bool.false_and, Bool.and_false, hlt', c3, hpos, hge]
        · simp only [c3, ↓aL, bS, bX, a7, br, bq, aQ, aU, aT, bP, bc, bn, aO, aN, bp, aD, aS, ba, b6, ca, bo, bt, an, Pu.w64, Int.toNat_natCast, decide_eq_true_eq, Int.ofNat_lt, Int.ofNat_le, if_true, if_false, Int.natCast_nonneg, decide_true, decide_false, Bool.not_true, Bool.not_false, Bool.false_eq_true, Bool.not_eq_true, Bool.true_and, Bool.and_true, Bool.false_and, Bool.and_false]
    · simp only [c1, ↓aL, bS, bX, a7, br, bq, aQ, aU, aT, bP, bc, bn, aO, aN, bp, aD, aS, ba, b6, ca, bo, bt, an, Pu.w64, Int.toNat_natCast, decide_eq_true_eq, Int.ofNat_lt, Int.ofNat_le, if_true, if_false, Int.natCast_nonneg, decide_true, decide_false, Bool.not_true, Bool.not_false, Bool.false_eq_true, Bool.not_eq_true, Bool.true_and, Bool.and_true, Bool.false_and, Bool.and_false]
theorem aH.is {k : Nat} {p : List Int} (hk : 4194304 + 1 ≤ k) (hp : p.length ≤ 1048576) : aH k p = some (Pu.b9 p) := by
  obtain ⟨k, rfl⟩ : ∃ k', k = k' + 1 := ⟨k - 1, by omega⟩
  rw [aH.eq]
  exact aH.loop (k := k) (by omega) hp p.length k 0 0 9 (by omega) (by omega) (fun _ => rfl) (by omega) (by omega) (by omega) (by omega)
theorem cI.is {k : Nat} {p : List Int} {i : Int} (hk : 1 ≤ k) : cI k p i = some (Pu.atI p i) := by
  obtain ⟨k, rfl⟩ : ∃ k', k = k' + 1 := ⟨k - 1, by omega⟩
  rw [cI.eq, cI.je]
  by_cases h1 : i < 0
  · simp only [↓aL, bS, bX, a7, br, bq, aQ, aU, aT, bP, bc, bn, aO, aN, bp, aD, aS, ba, b6, ca, bo, bt, an, Pu.w64, Int.toNat_natCast, decide_eq_true_eq, Int.ofNat_lt, Int.ofNat_le, if_true, if_false, Int.natCast_nonneg, decide_true, decide_false, Bool.not_true, Bool.not_false, Bool.false_eq_true, Bool.not_eq_true, Bool.true_and, Bool.and_true, Bool.false_and, Bool.and_false, h1, Pu.na h1]
  · by_cases h2 : (p.length : Int) ≤ i
    · simp only [↓aL, bS, bX, a7, br, bq, aQ, aU, aT, bP, bc, bn, aO, aN, bp, aD, aS, ba, b6, ca, bo, bt, an, Pu.w64, Int.toNat_natCast, decide_eq_true_eq, Int.ofNat_lt, Int.ofNat_le, if_true, if_false, Int.natCast_nonneg, decide_true, decide_false, Bool.not_true, Bool.not_false, Bool.false_eq_true, Bool.not_eq_true, Bool.true_and, Bool.and_true, Bool.false_and, Bool.and_false, h1, h2, Pu.sI h2]
    · have h3 : 0 ≤ i := by omega
      have h4 : i.toNat < p.length := by omega
      simp only [↓aL, bS, bX, a7, br, bq, aQ, aU, aT, bP, bc, bn, aO, aN, bp, aD, aS, ba, b6, ca, bo, bt, an, Pu.w64, Int.toNat_natCast, decide_eq_true_eq, Int.ofNat_lt, Int.ofNat_le, if_true, if_false, Int.natCast_nonneg, decide_true, decide_false, Bool.not_true, Bool.not_false, Bool.false_eq_true, Bool.not_eq_true, Bool.true_and, Bool.and_true, Bool.false_and, Bool.and_false, h1, h2, h3, h4, Pu.atI]
theorem bj.loop {k : Nat} {q p : List Int} (hq : q.length ≤ 1048576) (hl : q.length ≤ p.length) (hk : q.length < k) : bj.L1 k k 0 q p = some ((List.range' 0 q.length).all fun i => decide (q.getD i 0 ≤ p.getD i 0)) := by
  have h := Pu.ji (fun j i => bj.L1 k j (i : Int) q p) q.length (fun i => decide (q.getD i 0 ≤ p.getD i 0)) (some false) (some true)
    (fun j i hi => by
      have hi2 : i < p.length := by omega
      rw [bj.dS]
      simp (disch := omega) only [↓aL, bS, bX, a7, br, bq, aQ, aU, aT, bP, bc, bn, aO, aN, bp, aD, aS, ba, b6, ca, bo, bt, an, Pu.w64, Int.toNat_natCast, decide_eq_true_eq, Int.ofNat_lt, Int.ofNat_le, if_true, if_false, Int.natCast_nonneg, decide_true, decide_false, Bool.not_true, Bool.not_false, Bool.false_eq_true, Bool.not_eq_true, Bool.true_and, Bool.and_true, Bool.false_and, Bool.and_false, hi, hi2, Int.natCast_add, Int.natCast_one]
      by_cases c : q.getD i 0 ≤ p.getD i 0
      · have c' : ¬ p.getD i 0 < q.getD i 0 := by omega
        simp only [c, c', ↓aL, bS, bX, a7, br, bq, aQ, aU, aT, bP, bc, bn, aO, aN, bp, aD, aS, ba, b6, ca, bo, bt, an, Pu.w64, Int.toNat_natCast, decide_eq_true_eq, Int.ofNat_lt, Int.ofNat_le, if_true, if_false, Int.natCast_nonneg, decide_true, decide_false, Bool.not_true, Bool.not_false, Bool.false_eq_true, Bool.not_eq_true, Bool.true_and, Bool.and_true, Bool.false_and, Bool.and_false]
      · have c' : p.getD i 0 < q.getD i 0 := by omega
        simp only [c, c', ↓aL, bS, bX, a7, br, bq, aQ, aU, aT, bP, bc, bn, aO, aN, bp, aD, aS, ba, b6, ca, bo, bt, an, Pu.w64, Int.toNat_natCast, decide_eq_true_eq, Int.ofNat_lt, Int.ofNat_le, if_true, if_false, Int.natCast_nonneg, decide_true, decide_false, Bool.not_true, Bool.not_false, Bool.false_eq_true, Bool.not_eq_true, Bool.true_and, Bool.and_true, Bool.false_and, Bool.and_false])
    (fun j => by
      rw [bj.dS]
      simp only [↓aL, bS, bX, a7, br, bq, aQ, aU, aT, bP, bc, bn, aO, aN, bp, aD, aS, ba, b6, ca, bo, bt, an, Pu.w64, Int.toNat_natCast, decide_eq_true_eq, Int.ofNat_lt, Int.ofNat_le, if_true, if_false, Int.natCast_nonneg, decide_true, decide_false, Bool.not_true, Bool.not_false, Bool.false_eq_true, Bool.not_eq_true, Bool.true_and, Bool.and_true, Bool.false_and, Bool.and_false, Nat.lt_irrefl]) q.length k 0 (by omega) hk
  simp only [Int.natCast_zero] at h
  rw [h]
  cases (List.range' 0 q.length).all fun i => decide (q.getD i 0 ≤ p.getD i 0) <;> simp
theorem bj.is {k : Nat} {q p : List Int} (hk : 4194304 + 2 ≤ k) (hq : q.length ≤ 1048576) (hp : p.length ≤ 1048576) : bj k q p = some (Pu.de q p) := by
  obtain ⟨k, rfl⟩ : ∃ k', k = k' + 1 := ⟨k - 1, by omega⟩
  rw [bj.eq, aH.is (by omega) hq, an, bj.je]
  unfold Pu.de
  cases c1 : Pu.b9 q with
  | false => simp only [↓aL, bS, bX, a7, br, bq, aQ, aU, aT, bP, bc, bn, aO, aN, bp, aD, aS, ba, b6, ca, bo, bt, an, Pu.w64, Int.toNat_natCast, decide_eq_true_eq, Int.ofNat_lt, Int.ofNat_le, if_true, if_false, Int.natCast_nonneg, decide_true, decide_false, Bool.not_true, Bool.not_false, Bool.false_eq_true, Bool.not_eq_true, Bool.true_and, Bool.and_true, Bool.false_and, Bool.and_false]
  | true =>
    simp only [↓aL, bS, bX, a7, br, bq, aQ, aU, aT, bP, bc, bn, aO, aN, bp, aD, aS, ba, b6, ca, bo, bt, an, Pu.w64, Int.toNat_natCast, decide_eq_true_eq, Int.ofNat_lt, Int.ofNat_le, if_true, if_false, Int.natCast_nonneg, decide_true, decide_false, Bool.not_true, Bool.not_false, Bool.false_eq_true, Bool.not_eq_true, Bool.true_and, Bool.and_true, Bool.false_and, Bool.and_false]
    rw [aH.is (by omega) hp, an]
    cases c2 : Pu.b9 p with
    | false => simp only [↓aL, bS, bX, a7, br, bq, aQ, aU, aT, bP, bc, bn, aO, aN, bp, aD, aS, ba, b6, ca, bo, bt, an, Pu.w64, Int.toNat_natCast, decide_eq_true_eq, Int.ofNat_lt, Int.ofNat_le, if_true, if_false, Int.natCast_nonneg, decide_true, decide_false, Bool.not_true, Bool.not_false, Bool.false_eq_true, Bool.not_eq_true, Bool.true_and, Bool.and_true, Bool.false_and, Bool.and_false]
    | true =>
      simp only [↓aL, bS, bX, a7, br, bq, aQ, aU, aT, bP, bc, bn, aO, aN, bp, aD, aS, ba, b6, ca, bo, bt, an, Pu.w64, Int.toNat_natCast, decide_eq_true_eq, Int.ofNat_lt, Int.ofNat_le, if_true, if_false, Int.natCast_nonneg, decide_true, decide_false, Bool.not_true, Bool.not_false, Bool.false_eq_true, Bool.not_eq_true, Bool.true_and, Bool.and_true, Bool.false_and, Bool.and_false]
      by_cases c3 : p.length < q.length
      · have c3' : ¬ q.length ≤ p.length := by omega
        simp only [c3, c3', ↓aL, bS, bX, a7, br, bq, aQ, aU, aT, bP, bc, bn, aO, aN, bp, aD, aS, ba, b6, ca, bo, bt, an, Pu.w64, Int.toNat_natCast, decide_eq_true_eq, Int.ofNat_lt, Int.ofNat_le, if_true, if_false, Int.natCast_nonneg, decide_true, decide_false, Bool.not_true, Bool.not_false, Bool.false_eq_true, Bool.not_eq_true, Bool.true_and, Bool.and_true, Bool.false_and, Bool.and_false]
      · have c3' : q.length ≤ p.length := by omega
        simp only [c3, c3', ↓aL, bS, bX, a7, br, bq, aQ, aU, aT, bP, bc, bn, aO, aN, bp, aD, aS, ba, b6, ca, bo, bt, an, Pu.w64, Int.toNat_natCast, decide_eq_true_eq, Int.ofNat_lt, Int.ofNat_le, if_true, if_false, Int.natCast_nonneg, decide_true, decide_false, Bool.not_true, Bool.not_false, Bool.false_eq_true, Bool.not_eq_true, Bool.true_and, Bool.and_true, Bool.false_and, Bool.and_false]
        exact bj.loop hq c3' (by omega)
theorem eN.is {k : Nat} {s : List Int × List Int} (hk : 4194304 + 3 ≤ k) (hq : s.1.length ≤ 1048576) (hp : s.2.length ≤ 1048576) : eN k s = some (Pu.de s.2 s.1) := by
  obtain ⟨k, rfl⟩ : ∃ k', k = k' + 1 := ⟨k - 1, by omega⟩
  rw [eN.eq, bj.is (by omega) hp hq]
  rfl
theorem bm.loop {k : Nat} {t : Pu.Tab} {x3 x4 : List Int} (hk : 4194304 + 3 ≤ k) (hi : Pu.b9 t.1 = true) (h2 : t.2.length ≤ 9) (hr : ∀ x ∈ t.2, x.length ≤ 1048576) : ∀ (m j i : Nat) (acc : List Int), i + m = t.2.length → m < j → acc.length = i →
    bm.L1 k j i t.1 t.2 x3 x4 acc t.1 = some (if Pu.de t.1 (acc ++ Pu.cV t.1 i (t.2.drop i)) = true then ((acc ++ Pu.cV t.1 i (t.2.drop i), t.1), true) else (([], []), false))
  | m, 0, i, acc, _, hj, _ => by omega
  | 0, j + 1, i, acc, hm, _, hacc => by
    rw [bm.dS]
    have e : i = t.2.length := by omega
    have h9 := (Pu.bY hi).2.2.1
    have hlt : ¬ i < t.2.length := by omega
    rw [eN.is (by omega) (by simp only; omega) (by simp only; omega), e]
    simp only [↓aL, bS, bX, a7, br, bq, aQ, aU, aT, bP, bc, bn, aO, aN, bp, aD, aS, ba, b6, ca, bo, bt, an, Pu.w64, Int.toNat_natCast, decide_eq_true_eq, Int.ofNat_lt, Int.ofNat_le, if_true, if_false, Int.natCast_nonneg, decide_true, decide_false, Bool.not_true, Bool.not_false, Bool.false_eq_true, Bool.not_eq_true, Bool.true_and, Bool.and_true, Bool.false_and, Bool.and_false, Nat.lt_irrefl, List.drop_length, Pu.cV, List.append_nil]
    cases Pu.de t.1 acc <;> simp
  | m + 1, j + 1, i, acc, hm, hj, hacc => by
    rw [bm.dS]
    have hlt : i < t.2.length := by omega
    have hb := Pu.cK hi i
    have hrow := hr t.2[i] (List.getElem_mem hlt)
    rw [← Pu.aJ hlt []] at hrow
    rw [cI.is (by omega)]
    have ih := bm.loop (x3 := x3) (x4 := x4) hk hi h2 hr m j (i + 1) (acc ++ [Pu.atI t.1 i + (t.2.getD i []).length]) (by omega) (by omega) (by simp [hacc])
    rw [Int.natCast_succ] at ih
    rw [Pu.drop_cons hlt []]
    have hl : (acc ++ [Pu.atI t.1 i + ((t.2.getD i []).length : Int)]).length ≤ 1099511627776 := by simp; omega
    simp (disch := omega) only [↓aL, bS, bX, a7, br, bq, aQ, aU, aT, bP, bc, bn, aO, aN, bp, aD, aS, ba, b6, ca, bo, bt, an, Pu.w64, Int.toNat_natCast, decide_eq_true_eq, Int.ofNat_lt, Int.ofNat_le, if_true, if_false, Int.natCast_nonneg, decide_true, decide_false, Bool.not_true, Bool.not_false, Bool.false_eq_true, Bool.not_eq_true, Bool.true_and, Bool.and_true, Bool.false_and, Bool.and_false, hlt, hl, ih, Pu.cV]
    simp only [List.append_assoc, List.singleton_append, Pu.cH]
    rfl
theorem bm.is {k : Nat} {t : Pu.Tab} (hk : 4194304 + 4 ≤ k) (h1 : t.1.length ≤ 1048576) (h2 : t.2.length ≤ 1048576) (hr : ∀ x ∈ t.2, x.length ≤ 1048576) : bm k t = some (Pu.shapeOf t) := by
  obtain ⟨k, rfl⟩ : ∃ k', k = k' + 1 := ⟨k - 1, by omega⟩
  rw [bm.eq, aH.is (by omega) h1, bm.je]
  have hl : t.1.length ≤ 1099511627776 := by omega
  simp only [↓aL, bS, bX, a7, br, bq, aQ, aU, aT, bP, bc, bn, aO, aN, bp, aD, aS, ba, b6, ca, bo, bt, an, Pu.w64, Int.toNat_natCast, decide_eq_true_eq, Int.ofNat_lt, Int.ofNat_le, if_true, if_false, Int.natCast_nonneg, decide_true, decide_false, Bool.not_true, Bool.not_false, Bool.false_eq_true, Bool.not_eq_true, Bool.true_and, Bool.and_true, Bool.false_and, Bool.and_false, List.nil_append, hl]
  unfold Pu.shapeOf
  cases c1 : Pu.b9 t.1 with
  | false =>
    have : Pu.cy t = false := by unfold Pu.cy; rw [c1]; rfl
    simp only [this, ↓aL, bS, bX, a7, br, bq, aQ, aU, aT, bP, bc, bn, aO, aN, bp, aD, aS, ba, b6, ca, bo, bt, an, Pu.w64, Int.toNat_natCast, decide_eq_true_eq, Int.ofNat_lt, Int.ofNat_le, if_true, if_false, Int.natCast_nonneg, decide_true, decide_false, Bool.not_true, Bool.not_false, Bool.false_eq_true, Bool.not_eq_true, Bool.true_and, Bool.and_true, Bool.false_and, Bool.and_false]
  | true =>
    by_cases c2 : t.2.length < t.1.length
    · have : Pu.cy t = false := by
        have : ¬ t.1.length ≤ t.2.length := by omega
        unfold Pu.cy; simp [this]
      simp only [this, c2, ↓aL, bS, bX, a7, br, bq, aQ, aU, aT, bP, bc, bn, aO, aN, bp, aD, aS, ba, b6, ca, bo, bt, an, Pu.w64, Int.toNat_natCast, decide_eq_true_eq, Int.ofNat_lt, Int.ofNat_le, if_true, if_false, Int.natCast_nonneg, decide_true, decide_false, Bool.not_true, Bool.not_false, Bool.false_eq_true, Bool.not_eq_true, Bool.true_and, Bool.and_true, Bool.false_and, Bool.and_false]
    · by_cases c3 : 9 < t.2.length
      · have : Pu.cy t = false := by
          cases h : Pu.cy t with
          | false => rfl
          | true => have := Pu.iy h; omega
        have c3' : (9 : Int) < t.2.length := by omega
        simp only [this, c2, c3', ↓aL, bS, bX, a7, br, bq, aQ, aU, aT, bP, bc, bn, aO, aN, bp, aD, aS, ba, b6, ca, bo, bt, an, Pu.w64, Int.toNat_natCast, decide_eq_true_eq, Int.ofNat_lt, Int.ofNat_le, if_true, if_false, Int.natCast_nonneg, decide_true, decide_false, Bool.not_true, Bool.not_false, Bool.false_eq_true, Bool.not_eq_true, Bool.true_and, Bool.and_true, Bool.false_and, Bool.and_false]
      · have c3' : ¬ (9 : Int) < t.2.length := by omega
        have c2' : t.1.length ≤ t.2.length := by omega
        have hloop := bm.loop (k := k) (t := t) (x3 := []) (x4 := []) (by omega) c1 (by omega) hr t.2.length k 0 [] (by omega) (by omega) rfl
        rw [Int.natCast_zero] at hloop
        simp only [c2, c3', ↓aL, bS, bX, a7, br, bq, aQ, aU, aT, bP, bc, bn, aO, aN, bp, aD, aS, ba, b6, ca, bo, bt, an, Pu.w64, Int.toNat_natCast, decide_eq_true_eq, Int.ofNat_lt, Int.ofNat_le, if_true, if_false, Int.natCast_nonneg, decide_true, decide_false, Bool.not_true, Bool.not_false, Bool.false_eq_true, Bool.not_eq_true, Bool.true_and, Bool.and_true, Bool.false_and, Bool.and_false]
        rw [hloop]
        have : Pu.cy t = Pu.de t.1 (Pu.outer t) := by unfold Pu.cy; simp [c1, c2']
        rw [this]
        rfl
theorem bz.is {k : Nat} {t : Pu.Tab} {r c : Int} (hk : 2 ≤ k) (hi : Pu.b9 t.1 = true) (h1 : -1000000000 ≤ c) (h2 : c ≤ 1000000000) : bz k t r c = some (Pu.entry t r c) := by
  obtain ⟨k, rfl⟩ : ∃ k', k = k' + 1 := ⟨k - 1, by omega⟩
  have hb := Pu.cK hi r
  rw [bz.eq, bz.je, cI.is (by omega)]
  unfold Pu.entry
  by_cases c1 : r < 0
  · simp only [↓aL, bS, bX, a7, br, bq, aQ, aU, aT, bP, bc, bn, aO, aN, bp, aD, aS, ba, b6, ca, bo, bt, an, Pu.w64, Int.toNat_natCast, decide_eq_true_eq, Int.ofNat_lt, Int.ofNat_le, if_true, if_false, Int.natCast_nonneg, decide_true, decide_false, Bool.not_true, Bool.not_false, Bool.false_eq_true, Bool.not_eq_true, Bool.true_and, Bool.and_true, Bool.false_and, Bool.and_false, c1]
  · by_cases c2 : (t.2.length : Int) ≤ r
    · simp only [↓aL, bS, bX, a7, br, bq, aQ, aU, aT, bP, bc, bn, aO, aN, bp, aD, aS, ba, b6, ca, bo, bt, an, Pu.w64, Int.toNat_natCast, decide_eq_true_eq, Int.ofNat_lt, Int.ofNat_le, if_true, if_false, Int.natCast_nonneg, decide_true, decide_false, Bool.not_true, Bool.not_false, Bool.false_eq_true, Bool.not_eq_true, Bool.true_and, Bool.and_true, Bool.false_and, Bool.and_false, c1, c2]
    · have c3 : 0 ≤ r := by omega
      have c4 : r.toNat < t.2.length := by omega
      simp (disch := omega) only [↓aL, bS, bX, a7, br, bq, aQ, aU, aT, bP, bc, bn, aO, aN, bp, aD, aS, ba, b6, ca, bo, bt, an, Pu.w64, Int.toNat_natCast, decide_eq_true_eq, Int.ofNat_lt, Int.ofNat_le, if_true, if_false, Int.natCast_nonneg, decide_true, decide_false, Bool.not_true, Bool.not_false, Bool.false_eq_true, Bool.not_eq_true, Bool.true_and, Bool.and_true, Bool.false_and, Bool.and_false, c1, c2, c3, c4]
      by_cases d1 : c - Pu.atI t.1 r < 0
      · simp only [↓aL, bS, bX, a7, br, bq, aQ, aU, aT, bP, bc, bn, aO, aN, bp, aD, aS, ba, b6, ca, bo, bt, an, Pu.w64, Int.toNat_natCast, decide_eq_true_eq, Int.ofNat_lt, Int.ofNat_le, if_true, if_false, Int.natCast_nonneg, decide_true, decide_false, Bool.not_true, Bool.not_false, Bool.false_eq_true, Bool.not_eq_true, Bool.true_and, Bool.and_true, Bool.false_and, Bool.and_false, d1, Pu.na d1]
      · by_cases d2 : ((t.2.getD r.toNat []).length : Int) ≤ c - Pu.atI t.1 r
        · simp only [↓aL, bS, bX, a7, br, bq, aQ, aU, aT, bP, bc, bn, aO, aN, bp, aD, aS, ba, b6, ca, bo, bt, an, Pu.w64, Int.toNat_natCast, decide_eq_true_eq, Int.ofNat_lt, Int.ofNat_le, if_true, if_false, Int.natCast_nonneg, decide_true, decide_false, Bool.not_true, Bool.not_false, Bool.false_eq_true, Bool.not_eq_true, Bool.true_and, Bool.and_true, Bool.false_and, Bool.and_false, d1, d2, Pu.sI d2]
        · have d3 : 0 ≤ c - Pu.atI t.1 r := by omega
          have d4 : (c - Pu.atI t.1 r).toNat < (t.2.getD r.toNat []).length := by omega
          rw [bz.nB]
          generalize c - Pu.atI t.1 r = z at *
          simp only [↓aL, bS, bX, a7, br, bq, aQ, aU, aT, bP, bc, bn, aO, aN, bp, aD, aS, ba, b6, ca, bo, bt, an, Pu.w64, Int.toNat_natCast, decide_eq_true_eq, Int.ofNat_lt, Int.ofNat_le, if_true, if_false, Int.natCast_nonneg, decide_true, decide_false, Bool.not_true, Bool.not_false, Bool.false_eq_true, Bool.not_eq_true, Bool.true_and, Bool.and_true, Bool.false_and, Bool.and_false, c3, c4, d1, d2, d3, d4, Pu.atI]
theorem aw.zo {k k1 k2 : Nat} {t : Pu.Tab} {r : Nat} {c x v : Int} {o n : List Int} (hk : 3 ≤ k) (hi : Pu.b9 t.1 = true) (h1 : 0 ≤ c) (h2 : c ≤ 10000000) (hr : r ≤ 1048576) :
    aw.J2 k k1 k2 r c x v t.1 t.2 o n = if (Pu.within x 1 9 && (decide (v ≤ x) && decide (Pu.entry t ((r : Int) - 1) c < x))) = true then aw.L1 k k1 k2 r (c + 1) t.1 t.2 o n else some false := by
  have he := bz.is (k := k) (t := t) (r := (r : Int) - 1) (c := c) (by omega) hi (by omega) (by omega)
  rw [aw.ng, fu.is (by omega), aw.tO]
  simp (disch := omega) only [↓aL, bS, bX, a7, br, bq, aQ, aU, aT, bP, bc, bn, aO, aN, bp, aD, aS, ba, b6, ca, bo, bt, an, Pu.w64, Int.toNat_natCast, decide_eq_true_eq, Int.ofNat_lt, Int.ofNat_le, if_true, if_false, Int.natCast_nonneg, decide_true, decide_false, Bool.not_true, Bool.not_false, Bool.false_eq_true, Bool.not_eq_true, Bool.true_and, Bool.and_true, Bool.false_and, Bool.and_false, he]
  cases Pu.within x 1 9 with
  | false => simp
  | true =>
    by_cases c1 : v ≤ x
    · have c1' : ¬ x < v := by omega
      by_cases c2 : Pu.entry t ((r : Int) - 1) c < x
      · have c2' : ¬ x ≤ Pu.entry t ((r : Int) - 1) c := by omega
        simp [c1, c1', c2, c2']
      · have c2' : x ≤ Pu.entry t ((r : Int) - 1) c := by omega
        simp [c1, c1', c2, c2']
    · have c1' : x < v := by omega
      simp [c1, c1']
theorem aw.inner {k k1 : Nat} {t : Pu.Tab} {r : Nat} {n : List Int} (hk : 4194304 ≤ k) (hi : Pu.b9 t.1 = true) (ht : t.2.length ≤ 1048576) (hr : ∀ x ∈ t.2, x.length ≤ 1048576) (hlt : r < t.2.length) :
    aw.L1 k k1 k r (t.1.getD r 0) t.1 t.2 (Pu.outer t) n = if ((List.range' 0 (t.2.getD r []).length).all fun q => Pu.ez t r q) = true then aw.L0 k k1 ((r : Int) + 1) t.1 t.2 (Pu.outer t) n else some false := by
  have hx := hr _ (List.getElem_mem hlt)
  rw [← Pu.aJ hlt []] at hx
  have hb := Pu.cK hi r
  rw [Pu.cH] at hb
  have hol : r < (Pu.outer t).length := by unfold Pu.outer; rw [Pu.im]; exact hlt
  have ho : (Pu.outer t).getD r 0 = t.1.getD r 0 + ((t.2.getD r []).length : Int) := by
    have := Pu.dh t.1 t.2 0 r hlt
    rw [Nat.zero_add] at this
    exact this
  have h := Pu.ji (fun j q => aw.L1 k k1 j r (t.1.getD r 0 + (q : Int)) t.1 t.2 (Pu.outer t) n) (t.2.getD r []).length (fun q => Pu.ez t r q) (some false) (aw.L0 k k1 ((r : Int) + 1) t.1 t.2 (Pu.outer t) n)
    (fun j q hq => by
      rw [aw.dS]
      have hc : t.1.getD r 0 + (q : Int) < (Pu.outer t).getD r 0 := by rw [ho]; omega
      have e1 := bz.is (k := k) (t := t) (r := r) (c := t.1.getD r 0 + q) (by omega) hi (by omega) (by omega)
      have e2 := bz.is (k := k) (t := t) (r := r) (c := t.1.getD r 0 + q - 1) (by omega) hi (by omega) (by omega)
      rw [Pu.lz hlt] at e1
      rw [Pu.vC hlt] at e2
      have ej := fun v => aw.zo (k := k) (k1 := k1) (k2 := j) (t := t) (r := r) (c := t.1.getD r 0 + q) (x := (t.2.getD r []).getD q 0) (v := v) (o := Pu.outer t) (n := n) (by omega) hi (by omega) (by omega) (by omega)
      have en : t.1.getD r 0 + (q : Int) + 1 = t.1.getD r 0 + ((q + 1 : Nat) : Int) := by omega
      rw [en] at ej
      have key : ∀ v : Int, v = (if q = 0 then 0 else (t.2.getD r []).getD (q - 1) 0) → (Pu.within ((t.2.getD r []).getD q 0) 1 9 && (decide (v ≤ (t.2.getD r []).getD q 0) && decide (Pu.entry t ((r : Int) - 1) (t.1.getD r 0 + q) < (t.2.getD r []).getD q 0))) = Pu.ez t r q := by
        intro v hv
        unfold Pu.ez
        cases hw : Pu.within ((t.2.getD r []).getD q 0) 1 9 with
        | false => rfl
        | true =>
          have hw1 : 1 ≤ (t.2.getD r []).getD q 0 := by
            simp only [Pu.within, Bool.and_eq_true, decide_eq_true_eq] at hw; exact hw.1
          simp only [Bool.true_and]
          congr 1
          · by_cases e : q = 0
            · have : v ≤ (t.2.getD r []).getD q 0 := by rw [hv, if_pos e]; omega
              simp [e, this]
              simpa [e] using this
            · rw [hv, if_neg e]; simp [e]
          · by_cases e : r = 0
            · subst e
              rw [Pu.xo (by omega), decide_eq_true (show (0 : Int) < (t.2.getD 0 []).getD q 0 by omega)]
              simp only [decide_true, Bool.true_or]
            · simp [e]
      by_cases hc0 : 0 < t.1.getD r 0 + (q : Int)
      · simp (disch := omega) only [↓aL, bS, bX, a7, br, bq, aQ, aU, aT, bP, bc, bn, aO, aN, bp, aD, aS, ba, b6, ca, bo, bt, an, Pu.w64, Int.toNat_natCast, decide_eq_true_eq, Int.ofNat_lt, Int.ofNat_le, if_true, if_false, Int.natCast_nonneg, decide_true, decide_false, Bool.not_true, Bool.not_false, Bool.false_eq_true, Bool.not_eq_true, Bool.true_and, Bool.and_true, Bool.false_and, Bool.and_false, hol, hc, e1, hc0, e2, ej]
        rw [key _ rfl]
      · simp (disch := omega) only [↓aL, bS, bX, a7, br, bq, aQ, aU, aT, bP, bc, bn, aO, aN, bp, aD, aS, ba, b6, ca, bo, bt, an, Pu.w64, Int.toNat_natCast, decide_eq_true_eq, Int.ofNat_lt, Int.ofNat_le, if_true, if_false, Int.natCast_nonneg, decide_true, decide_false, Bool.not_true, Bool.not_false, Bool.false_eq_true, Bool.not_eq_true, Bool.true_and, Bool.and_true, Bool.false_and, Bool.and_false, hol, hc, e1, hc0, ej]
        rw [key 0 (by have : q = 0 := by omega
                      rw [if_pos this])])
    (fun j => by
      rw [aw.dS]
      have hc : ¬ t.1.getD r 0 + ((t.2.getD r []).length : Int) < (Pu.outer t).getD r 0 := by rw [ho]; omega
      simp (disch := omega) only [↓aL, bS, bX, a7, br, bq, aQ, aU, aT, bP, bc, bn, aO, aN, bp, aD, aS, ba, b6, ca, bo, bt, an, Pu.w64, Int.toNat_natCast, decide_eq_true_eq, Int.ofNat_lt, Int.ofNat_le, if_true, if_false, Int.natCast_nonneg, decide_true, decide_false, Bool.not_true, Bool.not_false, Bool.false_eq_true, Bool.not_eq_true, Bool.true_and, Bool.and_true, Bool.false_and, Bool.and_false, hol, hc]) (t.2.getD r []).length k 0 (by omega) (by omega)
  simp only [Int.natCast_zero, Int.add_zero] at h
  exact h
theorem aw.is {k : Nat} {t : Pu.Tab} (hk : 4194304 + 5 ≤ k) (h1 : t.1.length ≤ 1048576) (ht : t.2.length ≤ 1048576) (hr : ∀ x ∈ t.2, x.length ≤ 1048576) : aw k t = some (Pu.dm t) := by
  obtain ⟨k, rfl⟩ : ∃ k', k = k' + 1 := ⟨k - 1, by omega⟩
  rw [aw.eq, bm.is (by omega) h1 ht hr, an]
  unfold Pu.dm Pu.shapeOf
  cases hs : Pu.cy t with
  | false => simp [hs]
  | true =>
    have hi : Pu.b9 t.1 = true := by
      simp only [Pu.cy, Bool.and_eq_true] at hs; exact hs.1
    have hol : (Pu.outer t).length = t.2.length := by unfold Pu.outer; rw [Pu.im]
    have h := Pu.ji (fun j r => aw.L0 k j r t.1 t.2 (Pu.outer t) t.1) t.2.length (fun r => (List.range' 0 (t.2.getD r []).length).all fun q => Pu.ez t r q) (some false) (some true)
      (fun j r hlt => by
        rw [aw.cf, cI.is (by omega), Pu.cH]
        simp (disch := omega) only [↓aL, bS, bX, a7, br, bq, aQ, aU, aT, bP, bc, bn, aO, aN, bp, aD, aS, ba, b6, ca, bo, bt, an, Pu.w64, Int.toNat_natCast, decide_eq_true_eq, Int.ofNat_lt, Int.ofNat_le, if_true, if_false, Int.natCast_nonneg, decide_true, decide_false, Bool.not_true, Bool.not_false, Bool.false_eq_true, Bool.not_eq_true, Bool.true_and, Bool.and_true, Bool.false_and, Bool.and_false, hol, hlt, aw.inner (k1 := j) (n := t.1) (show 4194304 ≤ k by omega) hi ht hr hlt, Int.natCast_add, Int.natCast_one])
      (fun j => by
        rw [aw.cf]
        simp (disch := omega) only [↓aL, bS, bX, a7, br, bq, aQ, aU, aT, bP, bc, bn, aO, aN, bp, aD, aS, ba, b6, ca, bo, bt, an, Pu.w64, Int.toNat_natCast, decide_eq_true_eq, Int.ofNat_lt, Int.ofNat_le, if_true, if_false, Int.natCast_nonneg, decide_true, decide_false, Bool.not_true, Bool.not_false, Bool.false_eq_true, Bool.not_eq_true, Bool.true_and, Bool.and_true, Bool.false_and, Bool.and_false, hol, Nat.lt_irrefl]) t.2.length k 0 (by omega) (by omega)
    simp only [Int.natCast_zero] at h
    simp only [if_true, ↓aL, bS, bX, a7, br, bq, aQ, aU, aT, bP, bc, bn, aO, aN, bp, aD, aS, ba, b6, ca, bo, bt, an, Pu.w64, Int.toNat_natCast, decide_eq_true_eq, Int.ofNat_lt, Int.ofNat_le, if_true, if_false, Int.natCast_nonneg, decide_true, decide_false, Bool.not_true, Bool.not_false, Bool.false_eq_true, Bool.not_eq_true, Bool.true_and, Bool.and_true, Bool.false_and, Bool.and_false]
    rw [h]
    cases (List.range' 0 t.2.length).all fun r => (List.range' 0 (t.2.getD r []).length).all fun q => Pu.ez t r q <;> simp
theorem cd.loop {k : Nat} {t : Pu.Tab} {x3 x4 : List Int} {x5 : List (List Int)} (ht : t.2.length ≤ 1048576) (hr : ∀ x ∈ t.2, x.length ≤ 1048576) : ∀ (m j i : Nat), i + m = t.2.length → m < j →
    cd.L0 k j i t.1 t.2 x3 x5 x4 (t.2.take i) = some (x4, t.2)
  | m, 0, i, _, hj => by omega
  | 0, j + 1, i, hm, _ => by
    rw [cd.cf]
    have e : i = t.2.length := by omega
    subst e
    simp
  | m + 1, j + 1, i, hm, hj => by
    rw [cd.cf]
    have hlt : i < t.2.length := by omega
    have hx := hr _ (List.getElem_mem hlt)
    rw [← Pu.aJ hlt []] at hx
    have ih := cd.loop (k := k) (x3 := x3) (x4 := x4) (x5 := x5) ht hr m j (i + 1) (by omega) (by omega)
    rw [Int.natCast_succ, Pu.take_succ hlt []] at ih
    have hl : (t.2.take i ++ [t.2.getD i []]).length ≤ 1099511627776 := by simp; omega
    have hx' : (t.2.getD i []).length ≤ 1099511627776 := by omega
    simp (disch := omega) only [↓aL, bS, bX, a7, br, bq, aQ, aU, aT, bP, bc, bn, aO, aN, bp, aD, aS, ba, b6, ca, bo, bt, an, Pu.w64, Int.toNat_natCast, decide_eq_true_eq, Int.ofNat_lt, Int.ofNat_le, if_true, if_false, Int.natCast_nonneg, decide_true, decide_false, Bool.not_true, Bool.not_false, Bool.false_eq_true, Bool.not_eq_true, Bool.true_and, Bool.and_true, Bool.false_and, Bool.and_false, hlt, hl, hx', List.nil_append, ih]
theorem cd.is {k : Nat} {t : Pu.Tab} (hk : 4194304 + 1 ≤ k) (h1 : t.1.length ≤ 1048576) (ht : t.2.length ≤ 1048576) (hr : ∀ x ∈ t.2, x.length ≤ 1048576) : cd k t = some t := by
  obtain ⟨k, rfl⟩ : ∃ k', k = k' + 1 := ⟨k - 1, by omega⟩
  rw [cd.eq]
  have h := cd.loop (k := k) (t := t) (x3 := []) (x4 := t.1) (x5 := []) ht hr t.2.length k 0 (by omega) (by omega)
  rw [Int.natCast_zero, List.take_zero] at h
  have hl : t.1.length ≤ 1099511627776 := by omega
  simp only [↓aL, bS, bX, a7, br, bq, aQ, aU, aT, bP, bc, bn, aO, aN, bp, aD, aS, ba, b6, ca, bo, bt, an, Pu.w64, Int.toNat_natCast, decide_eq_true_eq, Int.ofNat_lt, Int.ofNat_le, if_true, if_false, Int.natCast_nonneg, decide_true, decide_false, Bool.not_true, Bool.not_false, Bool.false_eq_true, Bool.not_eq_true, Bool.true_and, Bool.and_true, Bool.false_and, Bool.and_false, List.nil_append, hl, h]
theorem ai.g2 {k k1 k2 : Nat} {t : Pu.Tab} {v : Int} {c : Nat} {inn x6 : List Int} {x7 : List (List Int)} (hk : 4194304 + 4 ≤ k) (ht : Pu.dm t = true) (hc : c < 9) (hv : 1 ≤ v) : ∀ (m j r n : Nat) (X : List (List Int)), r + m = t.2.length → m < j → Pu.cU X t.2 → n + m ≤ 100000 →
    ∃ S : List (Int × Int × Int), S = ((List.range' r m).map (Pu.fR t v c)).flatten ∧ S.length ≤ m ∧ ai.L2 k k1 k2 j n v c r t.1 t.2 x6 x7 inn X (Pu.outer t) t.1 = ai.L1 k k1 k2 ((n + S.length : Nat) : Int) v ((c + 1 : Nat) : Int) t.1 t.2 x6 x7 inn (Pu.gJ t.1 n S X) (Pu.outer t) t.1
  | m, 0, r, n, X, _, hj, _, _ => by omega
  | 0, j + 1, r, n, X, hr, _, _, _ => by
    have hn : ¬ (r : Int) < (Pu.outer t).length := by rw [Pu.dg]; omega
    have hw : IntKind.i64.wrap ((c : Int) + 1) = ((c + 1 : Nat) : Int) := by rw [Pu.w64 (by omega) (by omega)]; omega
    refine ⟨[], rfl, Nat.le_refl _, ?_⟩
    rw [ai.uw]
    refine Pu.tX hn ?_
    simp only [aS, aD, hw]
    rfl
  | m + 1, j + 1, r, n, X, hr, hj, hs, hb => by
    obtain ⟨q1, q2, _, _⟩ := Pu.ey ht
    have h9l : t.2.length ≤ 9 := Pu.iy (Pu.g7 ht)
    have hrl : r < t.2.length := by omega
    have hn : (r : Int) < (Pu.outer t).length := by rw [Pu.dg]; omega
    have hwr : IntKind.i64.wrap ((r : Int) + 1) = ((r + 1 : Nat) : Int) := by rw [Pu.w64 (by omega) (by omega)]; omega
    have hwn : IntKind.i64.wrap ((n : Int) + 1) = ((n + 1 : Nat) : Int) := by rw [Pu.w64 (by omega) (by omega)]; omega
    have hen := bz.is (k := k) (t := t) (r := (r : Int)) (c := (c : Int)) (by omega) q1 (by omega) (by omega)
    have hat := cI.is (k := k) (p := t.1) (i := (r : Int)) (by omega)
    have hnext : ∀ (n' : Nat) (X' : List (List Int)) (S' : List (Int × Int × Int)), S' = Pu.fR t v c r → n' = n + S'.length → X' = Pu.gJ t.1 n S' X → S'.length ≤ 1 → Pu.cU X' t.2 → ∃ S : List (Int × Int × Int), S = ((List.range' r (m + 1)).map (Pu.fR t v c)).flatten ∧ S.length ≤ m + 1 ∧ ai.J3 k k1 k2 j n' v c r t.1 t.2 x6 x7 inn X' (Pu.outer t) t.1 = ai.L1 k k1 k2 ((n + S.length : Nat) : Int) v ((c + 1 : Nat) : Int) t.1 t.2 x6 x7 inn (Pu.gJ t.1 n S X) (Pu.outer t) t.1 := fun n' X' S' e1 e2 e3 e4 e5 => by
      obtain ⟨S, s1, s2, s3⟩ := ai.g2 (k := k) (k1 := k1) (k2 := k2) (inn := inn) (x6 := x6) (x7 := x7) hk ht hc hv m j (r + 1) n' X' (by omega) (by omega) e5 (by omega)
      refine ⟨S' ++ S, ?_, by rw [List.length_append]; omega, ?_⟩
      · rw [List.range'_succ, List.map_cons, List.flatten_cons, ← e1, s1]
      · rw [ai.tO]
        simp only [aS, aD, hwr]
        rw [s3, Pu.l9, ← e3, ← e2, List.length_append, show n + (S'.length + S.length) = n' + S.length by omega]
    rw [ai.uw]
    by_cases e : Pu.entry t r c = v
    · obtain ⟨x, x1, x2, x3⟩ := Pu.fm hrl (by rw [e]; omega)
      have hat' : Pu.atI t.1 (r : Int) = t.1.getD r 0 := Pu.cH ..
      rw [hat'] at hat
      have hx9 : (x : Int) ≤ 9 := by have := (Pu.cK q1 (r : Int)).1; rw [hat'] at this; omega
      have hwc : IntKind.i64.wrap ((c : Int) - t.1.getD r 0) = (x : Int) := by rw [Pu.w64 (by omega) (by omega)]; omega
      have hsr : r < X.length := by rw [hs.1]; exact hrl
      have hsc : x < (X.getD r []).length := by rw [hs.2]; exact x1
      have hS : Pu.fR t v c r = [(v, (c : Int), (r : Int))] := by unfold Pu.fR; rw [if_pos e]
      have hX : X.set r ((X.getD r []).set x ((n + 1 : Nat) : Int)) = Pu.gJ t.1 n [(v, (c : Int), (r : Int))] X := by
        show _ = Pu.iR X _ _ _
        simp only [Int.toNat_natCast]
        rw [hat', show ((c : Int) - t.1.getD r 0).toNat = x by omega]
        rfl
      obtain ⟨S, s1, s2, s3⟩ := hnext (n + 1) (X.set r ((X.getD r []).set x ((n + 1 : Nat) : Int))) [(v, (c : Int), (r : Int))] hS.symm rfl hX (Nat.le_refl _) (by rw [hX]; exact Pu.jo t.1 _ n X hs)
      refine ⟨S, s1, s2, ?_⟩
      refine Pu.tG hn (Pu.bE hen (Pu.tG e (Pu.tG (Int.natCast_nonneg r) ?_)))
      simp only [aT, aQ, bP, aS, ba, bc, aD, hwn, Int.toNat_natCast]
      refine Pu.tG hsr (Pu.tG hsr (Pu.bE hat ?_))
      simp only [hwc, Int.toNat_natCast]
      exact Pu.tG hsr (Pu.tG (Int.natCast_nonneg x) (Pu.tG hsc (Pu.tG hsr (Pu.tG hsc s3))))
    · have hS : Pu.fR t v c r = [] := by unfold Pu.fR; rw [if_neg e]
      obtain ⟨S, s1, s2, s3⟩ := hnext n X [] hS.symm rfl rfl (Nat.zero_le _) hs
      exact ⟨S, s1, s2, Pu.tG hn (Pu.bE hen (Pu.tX e s3))⟩
theorem ai.g1 {k k1 : Nat} {t : Pu.Tab} {v : Int} {inn x6 : List Int} {x7 : List (List Int)} (hk : 4194304 + 4 ≤ k) (ht : Pu.dm t = true) (hv : 1 ≤ v) (hv9 : v ≤ 9) : ∀ (m j c n : Nat) (X : List (List Int)), c + m = 9 → m < j → Pu.cU X t.2 → n + 9 * m ≤ 10000 →
    ∃ S : List (Int × Int × Int), S = ((List.range' c m).map fun c : Nat => Pu.md t v (c : Int)).flatten ∧ S.length ≤ 9 * m ∧ ai.L1 k k1 j n v c t.1 t.2 x6 x7 inn X (Pu.outer t) t.1 = ai.L0 k k1 ((n + S.length : Nat) : Int) (v + 1) t.1 t.2 x6 x7 inn (Pu.gJ t.1 n S X) (Pu.outer t) t.1
  | m, 0, c, n, X, _, hj, _, _ => by omega
  | 0, j + 1, c, n, X, hc, _, _, _ => by
    have hn : ¬ (c : Int) < 9 := by omega
    have hw : IntKind.i64.wrap (v + 1) = v + 1 := Pu.w64 (by omega) (by omega)
    refine ⟨[], rfl, Nat.zero_le _, ?_⟩
    rw [ai.dS]
    refine Pu.tX hn ?_
    simp only [aS, aD, hw]
    rfl
  | m + 1, j + 1, c, n, X, hc, hj, hs, hb => by
    have h9l : t.2.length ≤ 9 := Pu.iy (Pu.g7 ht)
    have hn : (c : Int) < 9 := by omega
    obtain ⟨S, s1, s2, s3⟩ := ai.g2 (k := k) (k1 := k1) (k2 := j) (v := v) (c := c) (inn := inn) (x6 := x6) (x7 := x7) hk ht (by omega) hv t.2.length k 0 n X (by omega) (by omega) hs (by omega)
    rw [← List.range_eq_range'] at s1
    obtain ⟨S', t1, t2, t3⟩ := ai.g1 (k := k) (k1 := k1) (inn := inn) (x6 := x6) (x7 := x7) hk ht hv hv9 m j (c + 1) (n + S.length) (Pu.gJ t.1 n S X) (by omega) (by omega) (Pu.jo t.1 S n X hs) (by omega)
    refine ⟨S ++ S', ?_, by rw [List.length_append]; omega, ?_⟩
    · rw [List.range'_succ, List.map_cons, List.flatten_cons, t1, s1]
      rfl
    · rw [ai.dS, Pu.l9, List.length_append, ← Nat.add_assoc]
      exact Pu.tG hn (s3.trans t3)
theorem ai.g0 {k : Nat} {t : Pu.Tab} {inn x6 : List Int} {x7 : List (List Int)} (hk : 4194304 + 14 ≤ k) (ht : Pu.dm t = true) : ∀ (m j v n : Nat) (X : List (List Int)), v + m = 9 → m < j → Pu.cU X t.2 → n + 81 * m ≤ 10000 →
    ∃ S : List (Int × Int × Int), S = ((List.range' v m).map fun v : Nat => Pu.kE t ((v + 1 : Nat) : Int)).flatten ∧ ai.L0 k j n ((v + 1 : Nat) : Int) t.1 t.2 x6 x7 inn X (Pu.outer t) t.1 = some ((inn, Pu.gJ t.1 n S X), true)
  | m, 0, v, n, X, _, hj, _, _ => by omega
  | 0, j + 1, v, n, X, hv, _, _, _ => by
    have hn : ¬ ((v + 1 : Nat) : Int) ≤ 9 := by omega
    refine ⟨[], rfl, ?_⟩
    rw [ai.cf]
    exact Pu.tX hn rfl
  | m + 1, j + 1, v, n, X, hv, hj, hs, hb => by
    have hn : ((v + 1 : Nat) : Int) ≤ 9 := by omega
    obtain ⟨S, s1, s2, s3⟩ := ai.g1 (k := k) (k1 := j) (v := ((v + 1 : Nat) : Int)) (inn := inn) (x6 := x6) (x7 := x7) (by omega) ht (by omega) hn 9 k 0 n X (by omega) (by omega) hs (by omega)
    rw [← List.range_eq_range'] at s1
    obtain ⟨S', t1, t3⟩ := ai.g0 (k := k) (inn := inn) (x6 := x6) (x7 := x7) hk ht m j (v + 1) (n + S.length) (Pu.gJ t.1 n S X) (by omega) (by omega) (Pu.jo t.1 S n X hs) (by omega)
    refine ⟨S ++ S', ?_, ?_⟩
    · rw [List.range'_succ, List.map_cons, List.flatten_cons, t1, s1]
      rfl
    · rw [ai.cf, Pu.l9]
      exact Pu.tG hn (s3.trans t3)
theorem ai.gen {k : Nat} {t : Pu.Tab} (hk : 4194304 + 20 ≤ k) (ho : Pu.nh t) : ai k t = some (Pu.eZ t) := by
  obtain ⟨k, rfl⟩ : ∃ k', k = k' + 1 := ⟨k - 1, by omega⟩
  have h1 := aw.is (k := k) (t := t) (by omega) ho.1 ho.2.1 ho.2.2
  have h2 := cd.is (k := k) (t := t) (by omega) ho.1 ho.2.1 ho.2.2
  have h3 := bm.is (k := k) (t := t) (by omega) ho.1 ho.2.1 ho.2.2
  rw [ai.eq, show ((t.1, t.2) : Pu.Tab) = t from rfl]
  unfold Pu.eZ
  refine Pu.bE h1 ?_
  cases ht : Pu.dm t with
  | false => exact Pu.tM rfl
  | true =>
    have hsh : Pu.shapeOf t = ((Pu.outer t, t.1), true) := by
      unfold Pu.shapeOf
      rw [if_pos (Pu.g7 ht)]
    rw [hsh] at h3
    refine Pu.tN (Pu.bE h2 (Pu.bE h3 ?_))
    obtain ⟨S, s1, s2⟩ := ai.g0 (k := k) (t := t) (inn := t.1) (x6 := []) (x7 := []) (by omega) ht 9 k 0 0 t.2 (by omega) (by omega) ⟨rfl, fun _ => rfl⟩ (by omega)
    rw [← List.range_eq_range'] at s1
    rw [if_pos rfl, show Pu.eF t = S from s1.symm]
    exact s2
theorem cR.is {k : Nat} {x lo hi : Int} (hk : 1 ≤ k) : cR k x lo hi = some (Pu.within x lo hi) := by
  obtain ⟨k, rfl⟩ : ∃ k', k = k' + 1 := ⟨k - 1, by omega⟩
  rw [cR.eq]
  by_cases h : lo ≤ x <;> simp [Pu.within, h]
theorem aG.loop {k : Nat} {p : List Int} (hk : 4194304 ≤ k) (hp : p.length ≤ 1048576) : ∀ (m j i : Nat) (s v : Int), i + m = p.length → m < j → (i = 0 → v = 9) → (0 < i → v = p.getD (i - 1) 0) → v ≤ 9 → 0 ≤ s → s ≤ 9 →
    aG.L0 k j s p.length i p = some (Pu.eL (p.drop i) v s)
  | m, 0, i, s, v, _, hj, _, _, _, _, _ => by omega
  | 0, j + 1, i, s, v, hi, _, _, _, _, _, _ => by
    rw [aG.cf]
    have e : i = p.length := by omega
    subst e
    simp [Pu.eL]
  | m + 1, j + 1, i, s, v, hi, hj, h0, h1, hv, hs, hs9 => by
    rw [aG.cf]
    have hlt : i < p.length := by omega
    have hj1 : ∀ x : Int, x = p.getD i 0 → 1 ≤ x → x ≤ v → aG.J1 k j s x p.length i p = some (decide (s + x ≤ 9) && Pu.eL (p.drop (i + 1)) x (s + x)) := by
      intro x hx hx1 hx2
      rw [aG.nB]
      simp (disch := omega) only [↓aL, bS, bX, a7, br, bq, aQ, aU, aT, bP, bc, bn, aO, aN, bp, aD, aS, ba, b6, ca, bo, bt, an, Pu.w64, Int.toNat_natCast, decide_eq_true_eq, Int.ofNat_lt, Int.ofNat_le, if_true, if_false, Int.natCast_nonneg, decide_true, decide_false, Bool.not_true, Bool.not_false, Bool.false_eq_true, Bool.not_eq_true, Bool.true_and, Bool.and_true, Bool.false_and, Bool.and_false]
      by_cases c : 9 < s + x
      · have : ¬ s + x ≤ 9 := by omega
        simp [c, this]
      · have c' : s + x ≤ 9 := by omega
        have ih := aG.loop hk hp m j (i + 1) (s + x) x (by omega) (by omega) (by omega) (by simp [hx]) (by omega) (by omega) c'
        rw [Int.natCast_succ] at ih
        simp [c, c', ih]
    rw [Pu.drop_cons hlt 0]
    simp (disch := omega) only [↓aL, bS, bX, a7, br, bq, aQ, aU, aT, bP, bc, bn, aO, aN, bp, aD, aS, ba, b6, ca, bo, bt, an, Pu.w64, Int.toNat_natCast, decide_eq_true_eq, Int.ofNat_lt, Int.ofNat_le, if_true, if_false, Int.natCast_nonneg, decide_true, decide_false, Bool.not_true, Bool.not_false, Bool.false_eq_true, Bool.not_eq_true, Bool.true_and, Bool.and_true, Bool.false_and, Bool.and_false, hlt, cR.is, Pu.eL]
    generalize hx : p.getD i 0 = x at *
    unfold Pu.within
    by_cases c1 : 1 ≤ x
    · by_cases c2 : x ≤ v
      · have c3 : x ≤ 9 := by omega
        have hj := hj1 x rfl c1 c2
        by_cases hi0 : i = 0
        · have hpos : ¬ (0 : Int) < i := by omega
          simp (disch := omega) only [↓aL, bS, bX, a7, br, bq, aQ, aU, aT, bP, bc, bn, aO, aN, bp, aD, aS, ba, b6, ca, bo, bt, an, Pu.w64, Int.toNat_natCast, decide_eq_true_eq, Int.ofNat_lt, Int.ofNat_le, if_true, if_false, Int.natCast_nonneg, decide_true, decide_false, Bool.not_true, Bool.not_false, Bool.false_eq_true, Bool.not_eq_true, Bool.true_and, Bool.and_true, Bool.false_and, Bool.and_false, c1, c2, c3, hpos, hj]
        · have hv' := h1 (by omega)
          have e : ((i : Int) - 1) = ((i - 1 : Nat) : Int) := by omega
          have hlt' : i - 1 < p.length := by omega
          have hge : ¬ p.getD (i - 1) 0 < x := by rw [← hv']; omega
          have hpos : (0 : Int) < i := by omega
          simp (disch := omega) only [e, ↓aL, bS, bX, a7, br, bq, aQ, aU, aT, bP, bc, bn, aO, aN, bp, aD, aS, ba, b6, ca, bo, bt, an, Pu.w64, Int.toNat_natCast, decide_eq_true_eq, Int.ofNat_lt, Int.ofNat_le, if_true, if_false, Int.natCast_nonneg, decide_true, decide_false, Bool.not_true, Bool.not_false, Bool.false_eq_true, Bool.not_eq_true, Bool.true_and, Bool.and_true, Bool.false_and, Bool.and_false, hlt', c1, c2, c3, hj, hpos, hge]
      · simp only [c1, c2, ↓aL, bS, bX, a7, br, bq, aQ, aU, aT, bP, bc, bn, aO, aN, bp, aD, aS, ba, b6, ca, bo, bt, an, Pu.w64, Int.toNat_natCast, decide_eq_true_eq, Int.ofNat_lt, Int.ofNat_le, if_true, if_false, Int.natCast_nonneg, decide_true, decide_false, Bool.not_true, Bool.not_false, Bool.false_eq_true, Bool.not_eq_true, Bool.true_and, Bool.and_true, Bool.false_and, Bool.and_false]
        by_cases c3 : x ≤ 9
        · have hi0 : 0 < i := by
            rcases Nat.eq_zero_or_pos i with h | h
            · have := h0 h; omega
            · exact h
          have hv' := h1 hi0
          have e : ((i : Int) - 1) = ((i - 1 : Nat) : Int) := by omega
          have hlt' : i - 1 < p.length := by omega
          have hge : p.getD (i - 1) 0 < x := by rw [← hv']; omega
          have hpos : (0 : Int) < i := by omega
          simp (disch := omega) only [e, ↓aL, bS, bX, a7, br, bq, aQ, aU, aT, bP, bc, bn, aO, aN, bp, aD, aS, ba, b6, ca, bo, bt, an, Pu.w64, Int.toNat_natCast, decide_eq_true_eq, Int.ofNat_lt, Int.ofNat_le, if_true, if_false, Int.natCast_nonneg, decide_true, decide_false, Bool.not_true, Bool.not_false, Bool.false_eq_true, Bool.not_eq_true, Bool.true_and, Bool.and_true, Bool.false_and, Bool.and_false, hlt', c3, hpos, hge]
        · simp only [c3, ↓aL, bS, bX, a7, br, bq, aQ, aU, aT, bP, bc, bn, aO, aN, bp, aD, aS, ba, b6, ca, bo, bt, an, Pu.w64, Int.toNat_natCast, decide_eq_true_eq, Int.ofNat_lt, Int.ofNat_le, if_true, if_false, Int.natCast_nonneg, decide_true, decide_false, Bool.not_true, Bool.not_false, Bool.false_eq_true, Bool.not_eq_true, Bool.true_and, Bool.and_true, Bool.false_and, Bool.and_false]
    · simp only [c1, ↓aL, bS, bX, a7, br, bq, aQ, aU, aT, bP, bc, bn, aO, aN, bp, aD, aS, ba, b6, ca, bo, bt, an, Pu.w64, Int.toNat_natCast, decide_eq_true_eq, Int.ofNat_lt, Int.ofNat_le, if_true, if_false, Int.natCast_nonneg, decide_true, decide_false, Bool.not_true, Bool.not_false, Bool.false_eq_true, Bool.not_eq_true, Bool.true_and, Bool.and_true, Bool.false_and, Bool.and_false]
theorem aG.is {k : Nat} {p : List Int} (hk : 4194304 + 1 ≤ k) (hp : p.length ≤ 1048576) : aG k p = some (Pu.b9 p) := by
  obtain ⟨k, rfl⟩ : ∃ k', k = k' + 1 := ⟨k - 1, by omega⟩
  rw [aG.eq]
  exact aG.loop (k := k) (by omega) hp p.length k 0 0 9 (by omega) (by omega) (fun _ => rfl) (by omega) (by omega) (by omega) (by omega)
theorem bF.is {k : Nat} {a : List Int} (hk : 1 ≤ k) (ha : a.length ≤ 1099511627776) : bF k a = some a := by
  obtain ⟨k, rfl⟩ : ∃ k', k = k' + 1 := ⟨k - 1, by omega⟩
  rw [bF.eq]
  by_cases h : a.length = 0
  · have : a = [] := List.eq_nil_of_length_eq_zero h
    subst this
    simp [y7, wJ]
  · simp [h, ha]
theorem dw.is {k : Nat} {p : List Int} {i : Int} (hk : 2 ≤ k) (hp : p.length ≤ 1048576) : dw k p i = some (Pu.atI p i) := by
  obtain ⟨k, rfl⟩ : ∃ k', k = k' + 1 := ⟨k - 1, by omega⟩
  rw [dw.eq, cR.is (by omega)]
  unfold Pu.within
  by_cases h1 : 0 ≤ i
  · have h0 : ¬ i < 0 := by omega
    by_cases h2 : i ≤ (p.length : Int) - 1
    · have h4 : i.toNat < p.length := by omega
      simp (disch := omega) only [↓aL, bS, bX, a7, br, bq, aQ, aU, aT, bP, bc, bn, aO, aN, bp, aD, aS, ba, b6, ca, bo, bt, an, Pu.w64, Int.toNat_natCast, decide_eq_true_eq, Int.ofNat_lt, Int.ofNat_le, if_true, if_false, Int.natCast_nonneg, decide_true, decide_false, Bool.not_true, Bool.not_false, Bool.false_eq_true, Bool.not_eq_true, Bool.true_and, Bool.and_true, Bool.false_and, Bool.and_false, h0, h1, h2, h4, Pu.atI]
    · simp (disch := omega) only [↓aL, bS, bX, a7, br, bq, aQ, aU, aT, bP, bc, bn, aO, aN, bp, aD, aS, ba, b6, ca, bo, bt, an, Pu.w64, Int.toNat_natCast, decide_eq_true_eq, Int.ofNat_lt, Int.ofNat_le, if_true, if_false, Int.natCast_nonneg, decide_true, decide_false, Bool.not_true, Bool.not_false, Bool.false_eq_true, Bool.not_eq_true, Bool.true_and, Bool.and_true, Bool.false_and, Bool.and_false, h1, h2, Pu.sI (p := p) (i := i) (by omega)]
  · simp (disch := omega) only [↓aL, bS, bX, a7, br, bq, aQ, aU, aT, bP, bc, bn, aO, aN, bp, aD, aS, ba, b6, ca, bo, bt, an, Pu.w64, Int.toNat_natCast, decide_eq_true_eq, Int.ofNat_lt, Int.ofNat_le, if_true, if_false, Int.natCast_nonneg, decide_true, decide_false, Bool.not_true, Bool.not_false, Bool.false_eq_true, Bool.not_eq_true, Bool.true_and, Bool.and_true, Bool.false_and, Bool.and_false, h1, Pu.na (p := p) (i := i) (by omega)]
theorem bk.loop {k : Nat} {q p : List Int} (hq : q.length ≤ 1048576) (hp : p.length ≤ 1048576) (hk : 4194304 + 2 ≤ k) : bk.L1 k k q.length 0 p q = some ((List.range' 0 q.length).all fun i => decide (q.getD i 0 ≤ p.getD i 0)) := by
  have h := Pu.ji (fun j i => bk.L1 k j q.length (i : Int) p q) q.length (fun i => decide (q.getD i 0 ≤ p.getD i 0)) (some false) (some true)
    (fun j i hi => by
      rw [bk.dS, dw.is (by omega) hp, Pu.cH]
      simp (disch := omega) only [↓aL, bS, bX, a7, br, bq, aQ, aU, aT, bP, bc, bn, aO, aN, bp, aD, aS, ba, b6, ca, bo, bt, an, Pu.w64, Int.toNat_natCast, decide_eq_true_eq, Int.ofNat_lt, Int.ofNat_le, if_true, if_false, Int.natCast_nonneg, decide_true, decide_false, Bool.not_true, Bool.not_false, Bool.false_eq_true, Bool.not_eq_true, Bool.true_and, Bool.and_true, Bool.false_and, Bool.and_false, hi, Int.natCast_add, Int.natCast_one]
      by_cases c : q.getD i 0 ≤ p.getD i 0
      · have c' : ¬ p.getD i 0 < q.getD i 0 := by omega
        simp only [c, c', ↓aL, bS, bX, a7, br, bq, aQ, aU, aT, bP, bc, bn, aO, aN, bp, aD, aS, ba, b6, ca, bo, bt, an, Pu.w64, Int.toNat_natCast, decide_eq_true_eq, Int.ofNat_lt, Int.ofNat_le, if_true, if_false, Int.natCast_nonneg, decide_true, decide_false, Bool.not_true, Bool.not_false, Bool.false_eq_true, Bool.not_eq_true, Bool.true_and, Bool.and_true, Bool.false_and, Bool.and_false]
      · have c' : p.getD i 0 < q.getD i 0 := by omega
        simp only [c, c', ↓aL, bS, bX, a7, br, bq, aQ, aU, aT, bP, bc, bn, aO, aN, bp, aD, aS, ba, b6, ca, bo, bt, an, Pu.w64, Int.toNat_natCast, decide_eq_true_eq, Int.ofNat_lt, Int.ofNat_le, if_true, if_false, Int.natCast_nonneg, decide_true, decide_false, Bool.not_true, Bool.not_false, Bool.false_eq_true, Bool.not_eq_true, Bool.true_and, Bool.and_true, Bool.false_and, Bool.and_false])
    (fun j => by
      rw [bk.dS]
      simp only [↓aL, bS, bX, a7, br, bq, aQ, aU, aT, bP, bc, bn, aO, aN, bp, aD, aS, ba, b6, ca, bo, bt, an, Pu.w64, Int.toNat_natCast, decide_eq_true_eq, Int.ofNat_lt, Int.ofNat_le, if_true, if_false, Int.natCast_nonneg, decide_true, decide_false, Bool.not_true, Bool.not_false, Bool.false_eq_true, Bool.not_eq_true, Bool.true_and, Bool.and_true, Bool.false_and, Bool.and_false, Nat.lt_irrefl]) q.length k 0 (by omega) (by omega)
  simp only [Int.natCast_zero] at h
  rw [h]
  cases (List.range' 0 q.length).all fun i => decide (q.getD i 0 ≤ p.getD i 0) <;> simp
theorem bk.is {k : Nat} {q p : List Int} (hk : 4194304 + 3 ≤ k) (hq : q.length ≤ 1048576) (hp : p.length ≤ 1048576) : bk k q p = some (Pu.de q p) := by
  obtain ⟨k, rfl⟩ : ∃ k', k = k' + 1 := ⟨k - 1, by omega⟩
  rw [bk.eq, aG.is (by omega) hq, an, bk.je, Pu.tU]
  cases c1 : Pu.b9 q with
  | false => simp only [↓aL, bS, bX, a7, br, bq, aQ, aU, aT, bP, bc, bn, aO, aN, bp, aD, aS, ba, b6, ca, bo, bt, an, Pu.w64, Int.toNat_natCast, decide_eq_true_eq, Int.ofNat_lt, Int.ofNat_le, if_true, if_false, Int.natCast_nonneg, decide_true, decide_false, Bool.not_true, Bool.not_false, Bool.false_eq_true, Bool.not_eq_true, Bool.true_and, Bool.and_true, Bool.false_and, Bool.and_false]
  | true =>
    simp only [↓aL, bS, bX, a7, br, bq, aQ, aU, aT, bP, bc, bn, aO, aN, bp, aD, aS, ba, b6, ca, bo, bt, an, Pu.w64, Int.toNat_natCast, decide_eq_true_eq, Int.ofNat_lt, Int.ofNat_le, if_true, if_false, Int.natCast_nonneg, decide_true, decide_false, Bool.not_true, Bool.not_false, Bool.false_eq_true, Bool.not_eq_true, Bool.true_and, Bool.and_true, Bool.false_and, Bool.and_false]
    rw [aG.is (by omega) hp, an]
    cases c2 : Pu.b9 p with
    | false => simp only [↓aL, bS, bX, a7, br, bq, aQ, aU, aT, bP, bc, bn, aO, aN, bp, aD, aS, ba, b6, ca, bo, bt, an, Pu.w64, Int.toNat_natCast, decide_eq_true_eq, Int.ofNat_lt, Int.ofNat_le, if_true, if_false, Int.natCast_nonneg, decide_true, decide_false, Bool.not_true, Bool.not_false, Bool.false_eq_true, Bool.not_eq_true, Bool.true_and, Bool.and_true, Bool.false_and, Bool.and_false]
    | true =>
      simp only [↓aL, bS, bX, a7, br, bq, aQ, aU, aT, bP, bc, bn, aO, aN, bp, aD, aS, ba, b6, ca, bo, bt, an, Pu.w64, Int.toNat_natCast, decide_eq_true_eq, Int.ofNat_lt, Int.ofNat_le, if_true, if_false, Int.natCast_nonneg, decide_true, decide_false, Bool.not_true, Bool.not_false, Bool.false_eq_true, Bool.not_eq_true, Bool.true_and, Bool.and_true, Bool.false_and, Bool.and_false]
      exact bk.loop hq hp (by omega)
theorem eG.is {k : Nat} {s : List Int × List Int} (hk : 4194304 + 4 ≤ k) (hq : s.1.length ≤ 1048576) (hp : s.2.length ≤ 1048576) : eG k s = some (Pu.de s.2 s.1) := by
  obtain ⟨k, rfl⟩ : ∃ k', k = k' + 1 := ⟨k - 1, by omega⟩
  rw [eG.eq, bk.is (by omega) hp hq]
  rfl
theorem bw.loop {k : Nat} {t : Pu.Tab} {x3 x4 : List Int} (hk : 4194304 + 4 ≤ k) (hi : Pu.b9 t.1 = true) (h2 : t.2.length ≤ 1048576) (hr : ∀ x ∈ t.2, x.length ≤ 1048576) : ∀ (m j i : Nat) (acc : List Int), i + m = t.2.length → m < j → acc.length = i →
    bw.L1 k j t.2.length i t.2 t.1 x3 x4 acc t.1 = some (if Pu.de t.1 (acc ++ Pu.cV t.1 i (t.2.drop i)) = true then ((acc ++ Pu.cV t.1 i (t.2.drop i), t.1), true) else (([], []), false))
  | m, 0, i, acc, _, hj, _ => by omega
  | 0, j + 1, i, acc, hm, _, hacc => by
    rw [bw.dS]
    have e : i = t.2.length := by omega
    have h9 := (Pu.bY hi).2.2.1
    have hlt : ¬ i < t.2.length := by omega
    rw [eG.is (by omega) (by simp only; omega) (by simp only; omega), e]
    simp only [↓aL, bS, bX, a7, br, bq, aQ, aU, aT, bP, bc, bn, aO, aN, bp, aD, aS, ba, b6, ca, bo, bt, an, Pu.w64, Int.toNat_natCast, decide_eq_true_eq, Int.ofNat_lt, Int.ofNat_le, if_true, if_false, Int.natCast_nonneg, decide_true, decide_false, Bool.not_true, Bool.not_false, Bool.false_eq_true, Bool.not_eq_true, Bool.true_and, Bool.and_true, Bool.false_and, Bool.and_false, Nat.lt_irrefl, List.drop_length, Pu.cV, List.append_nil]
    cases Pu.de t.1 acc <;> simp
  | m + 1, j + 1, i, acc, hm, hj, hacc => by
    rw [bw.dS]
    have hlt : i < t.2.length := by omega
    have hb := Pu.cK hi i
    have h9 := (Pu.bY hi).2.2.1
    have hrow := hr t.2[i] (List.getElem_mem hlt)
    rw [← Pu.aJ hlt []] at hrow
    rw [dw.is (by omega) (by omega)]
    have ih := bw.loop (x3 := x3) (x4 := x4) hk hi h2 hr m j (i + 1) (acc ++ [Pu.atI t.1 i + (t.2.getD i []).length]) (by omega) (by omega) (by simp [hacc])
    rw [Int.natCast_succ] at ih
    rw [Pu.drop_cons hlt []]
    have hl : (acc ++ [Pu.atI t.1 i + ((t.2.getD i []).length : Int)]).length ≤ 1099511627776 := by simp; omega
    simp (disch := omega) only [↓aL, bS, bX, a7, br, bq, aQ, aU, aT, bP, bc, bn, aO, aN, bp, aD, aS, ba, b6, ca, bo, bt, an, Pu.w64, Int.toNat_natCast, decide_eq_true_eq, Int.ofNat_lt, Int.ofNat_le, if_true, if_false, Int.natCast_nonneg, decide_true, decide_false, Bool.not_true, Bool.not_false, Bool.false_eq_true, Bool.not_eq_true, Bool.true_and, Bool.and_true, Bool.false_and, Bool.and_false, hlt, hl, ih, Pu.cV]
    simp only [List.append_assoc, List.singleton_append, Pu.cH]
    rfl
theorem bw.is {k : Nat} {t : Pu.Tab} (hk : 4194304 + 5 ≤ k) (h1 : t.1.length ≤ 1048576) (h2 : t.2.length ≤ 1048576) (hr : ∀ x ∈ t.2, x.length ≤ 1048576) : bw k t = some (Pu.shapeOf t) := by
  obtain ⟨k, rfl⟩ : ∃ k', k = k' + 1 := ⟨k - 1, by omega⟩
  rw [bw.eq, aG.is (by omega) h1, bw.je, bF.is (by omega) (by omega)]
  simp only [↓aL, bS, bX, a7, br, bq, aQ, aU, aT, bP, bc, bn, aO, aN, bp, aD, aS, ba, b6, ca, bo, bt, an, Pu.w64, Int.toNat_natCast, decide_eq_true_eq, Int.ofNat_lt, Int.ofNat_le, if_true, if_false, Int.natCast_nonneg, decide_true, decide_false, Bool.not_true, Bool.not_false, Bool.false_eq_true, Bool.not_eq_true, Bool.true_and, Bool.and_true, Bool.false_and, Bool.and_false]
  unfold Pu.shapeOf
  cases c1 : Pu.b9 t.1 with
  | false =>
    have : Pu.cy t = false := by unfold Pu.cy; rw [c1]; rfl
    simp only [this, ↓aL, bS, bX, a7, br, bq, aQ, aU, aT, bP, bc, bn, aO, aN, bp, aD, aS, ba, b6, ca, bo, bt, an, Pu.w64, Int.toNat_natCast, decide_eq_true_eq, Int.ofNat_lt, Int.ofNat_le, if_true, if_false, Int.natCast_nonneg, decide_true, decide_false, Bool.not_true, Bool.not_false, Bool.false_eq_true, Bool.not_eq_true, Bool.true_and, Bool.and_true, Bool.false_and, Bool.and_false]
  | true =>
    by_cases c2 : t.2.length < t.1.length
    · have : Pu.cy t = false := by
        have : ¬ t.1.length ≤ t.2.length := by omega
        unfold Pu.cy; simp [this]
      simp only [this, c2, ↓aL, bS, bX, a7, br, bq, aQ, aU, aT, bP, bc, bn, aO, aN, bp, aD, aS, ba, b6, ca, bo, bt, an, Pu.w64, Int.toNat_natCast, decide_eq_true_eq, Int.ofNat_lt, Int.ofNat_le, if_true, if_false, Int.natCast_nonneg, decide_true, decide_false, Bool.not_true, Bool.not_false, Bool.false_eq_true, Bool.not_eq_true, Bool.true_and, Bool.and_true, Bool.false_and, Bool.and_false]
    · have c2' : t.1.length ≤ t.2.length := by omega
      have hloop := bw.loop (k := k) (t := t) (x3 := []) (x4 := []) (by omega) c1 h2 hr t.2.length k 0 [] (by omega) (by omega) rfl
      rw [Int.natCast_zero] at hloop
      simp only [c2, ↓aL, bS, bX, a7, br, bq, aQ, aU, aT, bP, bc, bn, aO, aN, bp, aD, aS, ba, b6, ca, bo, bt, an, Pu.w64, Int.toNat_natCast, decide_eq_true_eq, Int.ofNat_lt, Int.ofNat_le, if_true, if_false, Int.natCast_nonneg, decide_true, decide_false, Bool.not_true, Bool.not_false, Bool.false_eq_true, Bool.not_eq_true, Bool.true_and, Bool.and_true, Bool.false_and, Bool.and_false]
      rw [hloop]
      have : Pu.cy t = Pu.de t.1 (Pu.outer t) := by unfold Pu.cy; simp [c1, c2']
      rw [this]
      rfl
theorem ct.is {k : Nat} {t : Pu.Tab} {r c : Int} (hk : 3 ≤ k) (hi : Pu.b9 t.1 = true) (ht : t.2.length ≤ 1048576) (hr : ∀ x ∈ t.2, x.length ≤ 1048576) (h1 : -1000000000 ≤ c) (h2 : c ≤ 1000000000) : ct k t r c = some (Pu.entry t r c) := by
  obtain ⟨k, rfl⟩ : ∃ k', k = k' + 1 := ⟨k - 1, by omega⟩
  have hb := Pu.cK hi r
  have h9 := (Pu.bY hi).2.2.1
  rw [ct.eq, cR.is (by omega)]
  unfold Pu.entry Pu.within
  by_cases c1 : r < 0
  · have c1' : ¬ 0 ≤ r := by omega
    simp (disch := omega) only [↓aL, bS, bX, a7, br, bq, aQ, aU, aT, bP, bc, bn, aO, aN, bp, aD, aS, ba, b6, ca, bo, bt, an, Pu.w64, Int.toNat_natCast, decide_eq_true_eq, Int.ofNat_lt, Int.ofNat_le, if_true, if_false, Int.natCast_nonneg, decide_true, decide_false, Bool.not_true, Bool.not_false, Bool.false_eq_true, Bool.not_eq_true, Bool.true_and, Bool.and_true, Bool.false_and, Bool.and_false, c1, c1']
  · have c3 : 0 ≤ r := by omega
    by_cases c2 : (t.2.length : Int) ≤ r
    · have c2' : ¬ r ≤ (t.2.length : Int) - 1 := by omega
      simp (disch := omega) only [↓aL, bS, bX, a7, br, bq, aQ, aU, aT, bP, bc, bn, aO, aN, bp, aD, aS, ba, b6, ca, bo, bt, an, Pu.w64, Int.toNat_natCast, decide_eq_true_eq, Int.ofNat_lt, Int.ofNat_le, if_true, if_false, Int.natCast_nonneg, decide_true, decide_false, Bool.not_true, Bool.not_false, Bool.false_eq_true, Bool.not_eq_true, Bool.true_and, Bool.and_true, Bool.false_and, Bool.and_false, c1, c3, c2, c2']
    · have c2' : r ≤ (t.2.length : Int) - 1 := by omega
      have c4 : r.toNat < t.2.length := by omega
      have hx := hr _ (List.getElem_mem c4)
      rw [← Pu.aJ c4 []] at hx
      simp (disch := omega) only [↓aL, bS, bX, a7, br, bq, aQ, aU, aT, bP, bc, bn, aO, aN, bp, aD, aS, ba, b6, ca, bo, bt, an, Pu.w64, Int.toNat_natCast, decide_eq_true_eq, Int.ofNat_lt, Int.ofNat_le, if_true, if_false, Int.natCast_nonneg, decide_true, decide_false, Bool.not_true, Bool.not_false, Bool.false_eq_true, Bool.not_eq_true, Bool.true_and, Bool.and_true, Bool.false_and, Bool.and_false, c1, c2, c2', c3, c4, dw.is]
theorem aB.inner {k k1 : Nat} {t : Pu.Tab} {r : Nat} (hk : 4194304 ≤ k) (hi : Pu.b9 t.1 = true) (ht : t.2.length ≤ 1048576) (hr : ∀ x ∈ t.2, x.length ≤ 1048576) (hlt : r < t.2.length) (n : Int) :
    aB.L1 k k1 k r r n r r (t.2.getD r []).length 0 t.2 t.1 = if ((List.range' 0 (t.2.getD r []).length).all fun q => Pu.ez t r q) = true then aB.L0 k k1 n ((r : Int) + 1) t.2 t.1 else some false := by
  have hx := hr _ (List.getElem_mem hlt)
  rw [← Pu.aJ hlt []] at hx
  have hb := Pu.cK hi r
  have h9 := (Pu.bY hi).2.2.1
  have h := Pu.ji (fun j q => aB.L1 k k1 j r r n r r (t.2.getD r []).length (q : Int) t.2 t.1) (t.2.getD r []).length (fun q => Pu.ez t r q) (some false) (aB.L0 k k1 n ((r : Int) + 1) t.2 t.1)
    (fun j q hq => by
      have e3 := ct.is (k := k) (t := t) (r := (r : Int) - 1) (c := t.1.getD r 0 + q) (by omega) hi ht hr (by rw [Pu.cH] at hb; omega) (by rw [Pu.cH] at hb; omega)
      have ea := dw.is (k := k) (p := t.1) (i := r) (by omega) (by omega)
      rw [Pu.cH] at ea
      rw [Pu.cH] at hb
      rw [aB.dS]
      simp (maxSteps := 10000000) (disch := omega) only [↓aL, bS, bX, a7, br, bq, aQ, aU, aT, bP, bc, bn, aO, aN, bp, aD, aS, ba, b6, ca, bo, bt, an, Pu.w64, Int.toNat_natCast, decide_eq_true_eq, Int.ofNat_lt, Int.ofNat_le, if_true, if_false, Int.natCast_nonneg, decide_true, decide_false, Bool.not_true, Bool.not_false, Bool.false_eq_true, Bool.not_eq_true, Bool.true_and, Bool.and_true, Bool.false_and, Bool.and_false, hlt, hq, cR.is, ea, e3, aB.ng, Int.natCast_add, Int.natCast_one]
      unfold Pu.ez
      generalize hx0 : (t.2.getD r []).getD q 0 = x at *
      cases Pu.within x 1 9 with
      | false => simp
      | true =>
        have up : (if (0 : Int) < r then (if x ≤ Pu.entry t ((r : Int) - 1) (t.1.getD r 0 + q) then some false else aB.L1 k k1 j r r n r r (t.2.getD r []).length ((q : Int) + 1) t.2 t.1) else aB.L1 k k1 j r r n r r (t.2.getD r []).length ((q : Int) + 1) t.2 t.1) =
            if (decide (r = 0) || decide (Pu.entry t ((r : Int) - 1) (t.1.getD r 0 + q) < x)) = true then aB.L1 k k1 j r r n r r (t.2.getD r []).length ((q : Int) + 1) t.2 t.1 else some false := by
          by_cases e : r = 0
          · subst e; simp
          · have e' : (0 : Int) < r := by omega
            by_cases c : x ≤ Pu.entry t ((r : Int) - 1) (t.1.getD r 0 + q)
            · have c' : ¬ Pu.entry t ((r : Int) - 1) (t.1.getD r 0 + q) < x := by omega
              simp only [e', c, c', e, if_true, if_false, decide_false, Bool.or_false, Bool.false_eq_true]
            · have c' : Pu.entry t ((r : Int) - 1) (t.1.getD r 0 + q) < x := by omega
              simp only [e', c, c', e, if_true, if_false, decide_true, decide_false, Bool.false_or]
        by_cases e : q = 0
        · have e' : ¬ (0 : Int) < q := by omega
          simp only [e', e, ↓aL, bS, bX, a7, br, bq, aQ, aU, aT, bP, bc, bn, aO, aN, bp, aD, aS, ba, b6, ca, bo, bt, an, Pu.w64, Int.toNat_natCast, decide_eq_true_eq, Int.ofNat_lt, Int.ofNat_le, if_true, if_false, Int.natCast_nonneg, decide_true, decide_false, Bool.not_true, Bool.not_false, Bool.false_eq_true, Bool.not_eq_true, Bool.true_and, Bool.and_true, Bool.false_and, Bool.and_false, Bool.true_or]
          rw [e] at up
          exact up
        · have e' : (0 : Int) < q := by omega
          have eq : (q : Int) - 1 = ((q - 1 : Nat) : Int) := by omega
          have hq' : q - 1 < (t.2.getD r []).length := by omega
          simp (disch := omega) only [e', e, ↓aL, bS, bX, a7, br, bq, aQ, aU, aT, bP, bc, bn, aO, aN, bp, aD, aS, ba, b6, ca, bo, bt, an, Pu.w64, Int.toNat_natCast, decide_eq_true_eq, Int.ofNat_lt, Int.ofNat_le, if_true, if_false, Int.natCast_nonneg, decide_true, decide_false, Bool.not_true, Bool.not_false, Bool.false_eq_true, Bool.not_eq_true, Bool.true_and, Bool.and_true, Bool.false_and, Bool.and_false, eq, hq', Bool.false_or]
          by_cases c : x < (t.2.getD r []).getD (q - 1) 0
          · have c' : ¬ (t.2.getD r []).getD (q - 1) 0 ≤ x := by omega
            simp only [c, c', ↓aL, bS, bX, a7, br, bq, aQ, aU, aT, bP, bc, bn, aO, aN, bp, aD, aS, ba, b6, ca, bo, bt, an, Pu.w64, Int.toNat_natCast, decide_eq_true_eq, Int.ofNat_lt, Int.ofNat_le, if_true, if_false, Int.natCast_nonneg, decide_true, decide_false, Bool.not_true, Bool.not_false, Bool.false_eq_true, Bool.not_eq_true, Bool.true_and, Bool.and_true, Bool.false_and, Bool.and_false]
          · have c' : (t.2.getD r []).getD (q - 1) 0 ≤ x := by omega
            simp only [c, c', ↓aL, bS, bX, a7, br, bq, aQ, aU, aT, bP, bc, bn, aO, aN, bp, aD, aS, ba, b6, ca, bo, bt, an, Pu.w64, Int.toNat_natCast, decide_eq_true_eq, Int.ofNat_lt, Int.ofNat_le, if_true, if_false, Int.natCast_nonneg, decide_true, decide_false, Bool.not_true, Bool.not_false, Bool.false_eq_true, Bool.not_eq_true, Bool.true_and, Bool.and_true, Bool.false_and, Bool.and_false]
            exact up)
    (fun j => by
      rw [aB.dS]
      simp (maxSteps := 10000000) (disch := omega) only [↓aL, bS, bX, a7, br, bq, aQ, aU, aT, bP, bc, bn, aO, aN, bp, aD, aS, ba, b6, ca, bo, bt, an, Pu.w64, Int.toNat_natCast, decide_eq_true_eq, Int.ofNat_lt, Int.ofNat_le, if_true, if_false, Int.natCast_nonneg, decide_true, decide_false, Bool.not_true, Bool.not_false, Bool.false_eq_true, Bool.not_eq_true, Bool.true_and, Bool.and_true, Bool.false_and, Bool.and_false, Nat.lt_irrefl]) (t.2.getD r []).length k 0 (by omega) (by omega)
  simp only [Int.natCast_zero] at h
  exact h
theorem aB.is {k : Nat} {t : Pu.Tab} (hk : 4194304 + 6 ≤ k) (h1 : t.1.length ≤ 1048576) (ht : t.2.length ≤ 1048576) (hr : ∀ x ∈ t.2, x.length ≤ 1048576) : aB k t = some (Pu.dm t) := by
  obtain ⟨k, rfl⟩ : ∃ k', k = k' + 1 := ⟨k - 1, by omega⟩
  rw [aB.eq, bw.is (by omega) h1 ht hr, an]
  unfold Pu.dm Pu.shapeOf
  cases hs : Pu.cy t with
  | false => simp [hs]
  | true =>
    have hi : Pu.b9 t.1 = true := by
      simp only [Pu.cy, Bool.and_eq_true] at hs; exact hs.1
    have h := Pu.ji (fun j r => aB.L0 k j t.2.length r t.2 t.1) t.2.length (fun r => (List.range' 0 (t.2.getD r []).length).all fun q => Pu.ez t r q) (some false) (some true)
      (fun j r hlt => by
        rw [aB.cf]
        simp (disch := omega) only [↓aL, bS, bX, a7, br, bq, aQ, aU, aT, bP, bc, bn, aO, aN, bp, aD, aS, ba, b6, ca, bo, bt, an, Pu.w64, Int.toNat_natCast, decide_eq_true_eq, Int.ofNat_lt, Int.ofNat_le, if_true, if_false, Int.natCast_nonneg, decide_true, decide_false, Bool.not_true, Bool.not_false, Bool.false_eq_true, Bool.not_eq_true, Bool.true_and, Bool.and_true, Bool.false_and, Bool.and_false, hlt, aB.inner (k1 := j) (show 4194304 ≤ k by omega) hi ht hr hlt, Int.natCast_add, Int.natCast_one])
      (fun j => by
        rw [aB.cf]
        simp (disch := omega) only [↓aL, bS, bX, a7, br, bq, aQ, aU, aT, bP, bc, bn, aO, aN, bp, aD, aS, ba, b6, ca, bo, bt, an, Pu.w64, Int.toNat_natCast, decide_eq_true_eq, Int.ofNat_lt, Int.ofNat_le, if_true, if_false, Int.natCast_nonneg, decide_true, decide_false, Bool.not_true, Bool.not_false, Bool.false_eq_true, Bool.not_eq_true, Bool.true_and, Bool.and_true, Bool.false_and, Bool.and_false, Nat.lt_irrefl]) t.2.length k 0 (by omega) (by omega)
    simp only [Int.natCast_zero] at h
    simp only [if_true, ↓aL, bS, bX, a7, br, bq, aQ, aU, aT, bP, bc, bn, aO, aN, bp, aD, aS, ba, b6, ca, bo, bt, an, Pu.w64, Int.toNat_natCast, decide_eq_true_eq, Int.ofNat_lt, Int.ofNat_le, if_true, if_false, Int.natCast_nonneg, decide_true, decide_false, Bool.not_true, Bool.not_false, Bool.false_eq_true, Bool.not_eq_true, Bool.true_and, Bool.and_true, Bool.false_and, Bool.and_false]
    rw [h]
    cases (List.range' 0 t.2.length).all fun r => (List.range' 0 (t.2.getD r []).length).all fun q => Pu.ez t r q <;> simp
theorem aM.is {k n : Nat} (hk : 1 ≤ k) (hn : n ≤ 9) : ∃ v, aM k (n : Int) = some v := by
  obtain ⟨k, rfl⟩ : ∃ k', k = k' + 1 := ⟨k - 1, by omega⟩
  have h8 : IntKind.u8.wrap (n : Int) = (n : Int) := by
    have : ∀ m : Fin 10, IntKind.u8.wrap (m.1 : Int) = (m.1 : Int) := by decide
    exact this ⟨n, by omega⟩
  have n1 : ¬ (4294967296 : Int) ≤ n := by omega
  have n2 : ¬ (65536 : Int) ≤ n := by omega
  have n3 : ¬ (256 : Int) ≤ n := by omega
  have h2 : ∃ v, aM.J2 k (n : Int) 0 = some v := by
    rw [aM.ng]
    simp only [aT, zb, aD, h8, Int.toNat_natCast]
    exact ⟨_, Pu.tG (Int.natCast_nonneg n) (Pu.tG (Nat.lt_of_lt_of_le (show n < 256 by omega) (Nat.le_of_eq rfl)) rfl)⟩
  obtain ⟨v, hv⟩ := h2
  refine ⟨v, ?_⟩
  rw [aM.eq]
  refine Pu.tX n1 ?_
  rw [aM.je]
  refine Pu.tX n2 ?_
  rw [aM.nB]
  exact Pu.tX n3 hv
theorem dW.is {k n : Nat} (hk : 2 ≤ k) (hn : n ≤ 9) : ∃ v, dW k (n : Int) = some v := by
  obtain ⟨k, rfl⟩ : ∃ k', k = k' + 1 := ⟨k - 1, by omega⟩
  obtain ⟨v, hv⟩ := aM.is (k := k) (n := n) (by omega) hn
  rw [dW.eq]
  exact ⟨v, Pu.bE hv rfl⟩
theorem bB.is {k : Nat} {a b : Int × Int × Int} (hk : 1 ≤ k) (ha : (-1000 ≤ a.1 ∧ a.1 ≤ 1000) ∧ -1000 ≤ a.2.1 ∧ a.2.1 ≤ 1000) (hb : (-1000 ≤ b.1 ∧ b.1 ≤ 1000) ∧ -1000 ≤ b.2.1 ∧ b.2.1 ≤ 1000) :
    ∃ r : Int, bB k a.1 a.2.1 a.2.2 b.1 b.2.1 b.2.2 = some (r, ()) ∧ (r < 0 ↔ Pu.KLt a b) := by
  obtain ⟨k, rfl⟩ : ∃ k', k = k' + 1 := ⟨k - 1, by omega⟩
  have w1 : IntKind.i64.wrap (a.1 - b.1) = a.1 - b.1 := Pu.w64 (by omega) (by omega)
  have w2 : IntKind.i64.wrap (a.2.1 - b.2.1) = a.2.1 - b.2.1 := Pu.w64 (by omega) (by omega)
  have z0 : (0 : Int) ≤ 0 := by omega
  have z1 : (0 : Int) ≤ 1 := by omega
  have z2 : (0 : Int) < ((3 : Nat) : Int) := by omega
  have z3 : (1 : Int) < ((3 : Nat) : Int) := by omega
  rw [bB.eq]
  simp only [aT, aU, ba, aD, w1, w2]
  by_cases c : a.1 = b.1
  · refine ⟨a.2.1 - b.2.1, Pu.tG z0 (Pu.tG z2 (Pu.tG z0 (Pu.tG z2 (Pu.tE c (Pu.tG z1 (Pu.tG z3 (Pu.tG z1 (Pu.tG z3 rfl)))))))), ?_⟩
    unfold Pu.KLt
    omega
  · refine ⟨a.1 - b.1, Pu.tG z0 (Pu.tG z2 (Pu.tG z0 (Pu.tG z2 ?_))), ?_⟩
    · show D.test (D.no (decide (a.1 = b.1))) _ _ = _
      rw [decide_eq_false c]
      exact Pu.tM (Pu.tG z0 (Pu.tG z2 (Pu.tG z0 (Pu.tG z2 rfl))))
    · unfold Pu.KLt
      omega
theorem ae.inner {k k1 : Nat} {b i : Int} (hk : 1 ≤ k) : ∀ (R : List (Int × Int × Int)) (j : Nat) (x : Int × Int × Int) (C : List (Int × Int × Int)), R.length < j → R.length ≤ 100 →
    (∀ p ∈ x :: R, (-1000 ≤ p.1 ∧ p.1 ≤ 1000) ∧ -1000 ≤ p.2.1 ∧ p.2.1 ≤ 1000) →
    ae.L1 k k1 j 0 b i R.length (R.reverse ++ x :: C) = ae.J3 k k1 0 b i ((Pu.kR x R).reverse ++ C)
  | R, 0, _, _, hj, _, _ => by omega
  | [], j + 1, x, C, _, _, _ => by
    rw [ae.dS]
    exact Pu.tX (Int.lt_irrefl _) rfl
  | y :: ys, j + 1, x, C, hj, hl, hB => by
    have e0 := Pu.xG (y :: ys) C x (0, (0, 0))
    have e1 := Pu.yK ys C x y (0, (0, 0))
    have e2 := Pu.xK ys C x y
    have e3 := Pu.yr (y :: ys) C x
    rw [List.length_cons] at e0 e3 hj hl ⊢
    obtain ⟨r, r1, r2⟩ := bB.is (k := k) (a := x) (b := y) hk (hB x (List.mem_cons_self ..)) (hB y (by simp))
    have hn : (0 : Int) < ((ys.length + 1 : Nat) : Int) := by omega
    have hw : IntKind.i64.wrap (((ys.length + 1 : Nat) : Int) - 1) = (ys.length : Int) := by rw [Pu.w64 (by omega) (by omega)]; omega
    have l1 : ys.length + 1 < ((y :: ys).reverse ++ x :: C).length := by omega
    have l0 : ys.length < ((y :: ys).reverse ++ x :: C).length := by omega
    have i1 := Int.natCast_nonneg (ys.length + 1)
    have i0 := Int.natCast_nonneg ys.length
    rw [ae.dS]
    simp only [aT, aQ, bP, ba, aD, hw, Int.toNat_natCast]
    rw [e0, e1]
    refine Pu.tG hn (Pu.tG i1 (Pu.tG l1 (Pu.tG l1 (Pu.tG i0 (Pu.tG l0 (Pu.tG l0 (Pu.bE r1 ?_)))))))
    by_cases c : Pu.KLt x y
    · have ih := ae.inner (k := k) (k1 := k1) (b := b) (i := i) hk ys j x (y :: C) (by omega) (by omega) (fun p hp => hB p (by
        rcases List.mem_cons.1 hp with h | h
        · rw [h]; exact List.mem_cons_self ..
        · exact List.mem_cons_of_mem _ (List.mem_cons_of_mem _ h)))
      refine Pu.tG (r2.2 c) ?_
      rw [ae.ng]
      simp only [aT, aQ, bP, ba, bc, aD, hw, Int.toNat_natCast]
      rw [e0, e1]
      have l2 : ys.length < (((y :: ys).reverse ++ x :: C).set (ys.length + 1) y).length := by rw [List.length_set]; exact l0
      refine Pu.tG i0 (Pu.tG l0 (Pu.tG l0 (Pu.tG i1 (Pu.tG l1 (Pu.tG l1 (Pu.tG i1 (Pu.tG l1 (Pu.tG l1 (Pu.tG i0 (Pu.tG l2 (Pu.tG l2 ?_)))))))))))
      rw [show ((x.1, (x.2.1, x.2.2)) : Int × Int × Int) = x from rfl, show ((y.1, (y.2.1, y.2.2)) : Int × Int × Int) = y from rfl, e2, ih]
      rw [show Pu.kR x (y :: ys) = y :: Pu.kR x ys by rw [show Pu.kR x (y :: ys) = (if Pu.KLt x y then y :: Pu.kR x ys else x :: y :: ys) from rfl, if_pos c], List.reverse_cons, List.append_assoc, List.singleton_append]
    · refine Pu.tX (fun h => c (r2.1 h)) ?_
      rw [show Pu.kR x (y :: ys) = x :: y :: ys by rw [show Pu.kR x (y :: ys) = (if Pu.KLt x y then y :: Pu.kR x ys else x :: y :: ys) from rfl, if_neg c], List.reverse_cons (a := x), List.append_assoc, List.singleton_append]
theorem ae.loop {k n : Nat} (hk : 4194304 ≤ k) (hn9 : n ≤ 9) : ∀ (l R : List (Int × Int × Int)) (j : Nat), R.length + l.length = n → l.length < j → (∀ p ∈ R ++ l, (-1000 ≤ p.1 ∧ p.1 ≤ 1000) ∧ -1000 ≤ p.2.1 ∧ p.2.1 ≤ 1000) →
    ae.L0 k j 0 n R.length (R.reverse ++ l) = some ((), (Pu.oU R l).reverse)
  | l, R, 0, _, hj, _ => by omega
  | [], R, j + 1, hl, _, _ => by
    have hn : ¬ (R.length : Int) < (n : Int) := by simp at hl; omega
    rw [ae.cf]
    refine Pu.tX hn ?_
    rw [List.append_nil]
    rfl
  | x :: l, R, j + 1, hl, hj, hB => by
    rw [List.length_cons] at hl hj
    have hn : (R.length : Int) < (n : Int) := by omega
    have hlen : (Pu.kR x R).length = R.length + 1 := by rw [(Pu.kn x R).length_eq, List.length_cons]
    have hw : IntKind.i64.wrap ((R.length : Int) + 1) = (((Pu.kR x R).length : Nat) : Int) := by rw [Pu.w64 (by omega) (by omega)]; omega
    have hi := ae.inner (k := k) (k1 := j) (b := (n : Int)) (i := (R.length : Int)) (by omega) R k x l (by omega) (by omega) (fun p hp => hB p (by
      rcases List.mem_cons.1 hp with h | h
      · rw [h]; simp
      · exact List.mem_append_left _ h))
    have ih := ae.loop (k := k) hk hn9 l (Pu.kR x R) j (by omega) (by omega) (fun p hp => hB p (by
      rcases List.mem_append.1 hp with h | h
      · rcases List.mem_cons.1 ((Pu.kn x R).mem_iff.1 h) with h | h
        · rw [h]; simp
        · exact List.mem_append_left _ h
      · exact List.mem_append_right _ (List.mem_cons_of_mem _ h)))
    rw [ae.cf]
    refine Pu.tG hn ?_
    rw [hi, ae.tO]
    simp only [aS, aD, hw]
    exact ih
theorem ae.is {k n : Nat} {l : List (Int × Int × Int)} (hk : 4194304 + 1 ≤ k) (hl : l.length = n) (hn9 : n ≤ 9) (hB : ∀ p ∈ l, (-1000 ≤ p.1 ∧ p.1 ≤ 1000) ∧ -1000 ≤ p.2.1 ∧ p.2.1 ≤ 1000) :
    ae k 0 n l = some ((), (Pu.oU [] l).reverse) := by
  obtain ⟨k, rfl⟩ : ∃ k', k = k' + 1 := ⟨k - 1, by omega⟩
  have hw : IntKind.i64.wrap ((0 : Int) + 1) = 1 := Pu.w64 (by omega) (by omega)
  rw [ae.eq]
  simp only [aS, aD, hw]
  cases l with
  | nil =>
    obtain ⟨k, rfl⟩ : ∃ k', k = k' + 1 := ⟨k - 1, by omega⟩
    rw [ae.cf]
    have hn : ¬ (1 : Int) < (n : Int) := by simp at hl; omega
    exact Pu.tX hn rfl
  | cons x l =>
    have h := ae.loop (k := k) (n := n) (by omega) hn9 l [x] k (by rw [← hl]; simp; omega) (by simp at hl; omega) hB
    exact h
theorem al.is {k n : Nat} {v : Int} {l : List (Int × Int × Int)} (hk : 4194304 + 3 ≤ k) (hl : l.length = n) (hn9 : n ≤ 9) (hB : ∀ p ∈ l, (-1000 ≤ p.1 ∧ p.1 ≤ 1000) ∧ -1000 ≤ p.2.1 ∧ p.2.1 ≤ 1000) :
    al k 0 n v l = some ((), (Pu.oU [] l).reverse) := by
  obtain ⟨k, rfl⟩ : ∃ k', k = k' + 1 := ⟨k - 1, by omega⟩
  obtain ⟨k, rfl⟩ : ∃ k', k = k' + 1 := ⟨k - 1, by omega⟩
  have hw : IntKind.i64.wrap ((n : Int) - 0) = (n : Int) := by rw [Pu.w64 (by omega) (by omega)]; omega
  have hi := ae.is (k := k + 1) (by omega) hl hn9 hB
  have hle : (n : Int) ≤ 12 := by omega
  rw [al.eq, al.cf]
  simp only [ba, aD, hw]
  exact Pu.tG hle (Pu.bE hi rfl)
theorem aE.is {k : Nat} {l : List (Int × Int × Int)} (hk : 4194304 + 6 ≤ k) (hn9 : l.length ≤ 9) (hB : ∀ p ∈ l, (-1000 ≤ p.1 ∧ p.1 ≤ 1000) ∧ -1000 ≤ p.2.1 ∧ p.2.1 ≤ 1000) :
    aE k l = some ((), (Pu.oU [] l).reverse) := by
  obtain ⟨k, rfl⟩ : ∃ k', k = k' + 1 := ⟨k - 1, by omega⟩
  have h8 : IntKind.u64.wrap (l.length : Int) = (l.length : Int) := by
    have : ∀ m : Fin 10, IntKind.u64.wrap (m.1 : Int) = (m.1 : Int) := by decide
    exact this ⟨l.length, by omega⟩
  obtain ⟨v, hv⟩ := dW.is (k := k) (n := l.length) (by omega) hn9
  have hp := al.is (k := k) (v := v) (by omega) (rfl : l.length = l.length) hn9 hB
  rw [aE.eq]
  simp only [aT, aQ, aU, aD, h8]
  exact Pu.bE hv (Pu.bE hp rfl)
theorem bg.loop {k : Nat} {t : Pu.Tab} {x3 x4 : List Int} {x5 : List (List Int)} (hk : 1 ≤ k) (ht : t.2.length ≤ 1048576) (hr : ∀ x ∈ t.2, x.length ≤ 1048576) : ∀ (m j i : Nat), i + m = t.2.length → m < j →
    bg.L0 k j t.2.length i t.2 x3 x5 x4 (t.2.take i) = some (x4, t.2)
  | m, 0, i, _, hj => by omega
  | 0, j + 1, i, hm, _ => by
    rw [bg.cf]
    have e : i = t.2.length := by omega
    subst e
    simp
  | m + 1, j + 1, i, hm, hj => by
    rw [bg.cf]
    have hlt : i < t.2.length := by omega
    have hx := hr _ (List.getElem_mem hlt)
    rw [← Pu.aJ hlt []] at hx
    have ih := bg.loop (k := k) (x3 := x3) (x4 := x4) (x5 := x5) hk ht hr m j (i + 1) (by omega) (by omega)
    rw [Int.natCast_succ, Pu.take_succ hlt []] at ih
    have hl : (t.2.take i ++ [t.2.getD i []]).length ≤ 1099511627776 := by simp; omega
    simp (disch := omega) only [↓aL, bS, bX, a7, br, bq, aQ, aU, aT, bP, bc, bn, aO, aN, bp, aD, aS, ba, b6, ca, bo, bt, an, Pu.w64, Int.toNat_natCast, decide_eq_true_eq, Int.ofNat_lt, Int.ofNat_le, if_true, if_false, Int.natCast_nonneg, decide_true, decide_false, Bool.not_true, Bool.not_false, Bool.false_eq_true, Bool.not_eq_true, Bool.true_and, Bool.and_true, Bool.false_and, Bool.and_false, hlt, hl, bF.is, ih]
theorem bg.is {k : Nat} {t : Pu.Tab} (hk : 4194304 + 1 ≤ k) (h1 : t.1.length ≤ 1048576) (ht : t.2.length ≤ 1048576) (hr : ∀ x ∈ t.2, x.length ≤ 1048576) : bg k t = some t := by
  obtain ⟨k, rfl⟩ : ∃ k', k = k' + 1 := ⟨k - 1, by omega⟩
  rw [bg.eq, bF.is (by omega) (by omega)]
  have h := bg.loop (k := k) (t := t) (x3 := []) (x4 := t.1) (x5 := []) (by omega) ht hr t.2.length k 0 (by omega) (by omega)
  rw [Int.natCast_zero, List.take_zero] at h
  exact h
theorem af.yY {k k1 : Nat} {t : Pu.Tab} {r N : Nat} {x9 : List Int} {x10 : List (List Int)} (hk : 4194304 + 2 ≤ k) (ht : Pu.dm t = true) (hr : r < t.2.length) : ∀ (m j x : Nat) (acc : List (Int × Int × Int)), x + m = (t.2.getD r []).length → m < j → acc.length + m ≤ 1000 →
    af.L1 k k1 j r N r r (t.2.getD r []).length x acc t.2 t.1 x9 x10 = af.L0 k k1 N ((r + 1 : Nat) : Int) (acc ++ (List.range' x m).map fun x => (Pu.cel t.2 r x, t.1.getD r 0 + x, (r : Int))) t.2 t.1 x9 x10
  | m, 0, x, acc, _, hj, _ => by omega
  | 0, j + 1, x, acc, hx, _, _ => by
    have hn : ¬ (x : Int) < ((t.2.getD r []).length : Int) := by omega
    have h9 : t.2.length ≤ 9 := Pu.iy (Pu.g7 ht)
    have hw : IntKind.i64.wrap ((r : Int) + 1) = ((r + 1 : Nat) : Int) := by rw [Pu.w64 (by omega) (by omega)]; omega
    rw [af.dS]
    refine Pu.tX hn ?_
    simp only [aS, aD, hw]
    rw [show List.range' x 0 = [] from rfl, List.map_nil, List.append_nil]
  | m + 1, j + 1, x, acc, hx, hj, hb => by
    obtain ⟨q1, q2, _, _⟩ := Pu.ey ht
    have hxl : x < (t.2.getD r []).length := by omega
    have hn : (x : Int) < ((t.2.getD r []).length : Int) := by omega
    have ha := Pu.cK q1 (r : Int)
    have ha' : Pu.atI t.1 (r : Int) = t.1.getD r 0 := Pu.cH ..
    have hb9 := (Pu.cK q2 (r : Int)).2
    rw [Pu.cH, show Pu.outer t = Pu.cV t.1 0 t.2 from rfl, Pu.dh t.1 t.2 0 r hr, Nat.zero_add] at hb9
    rw [ha'] at ha
    have hp9 := (Pu.bY q1).2.2.1
    have hat := dw.is (k := k) (p := t.1) (i := (r : Int)) (by omega) (by omega)
    rw [ha'] at hat
    have hw : IntKind.i64.wrap ((x : Int) + 1) = ((x + 1 : Nat) : Int) := by rw [Pu.w64 (by omega) (by omega)]; omega
    have hwc : IntKind.i64.wrap (t.1.getD r 0 + (x : Int)) = t.1.getD r 0 + (x : Int) := Pu.w64 (by omega) (by omega)
    have ih := af.yY (k := k) (k1 := k1) (N := N) (x9 := x9) (x10 := x10) hk ht hr m j (x + 1) (acc ++ [(Pu.cel t.2 r x, t.1.getD r 0 + x, (r : Int))]) (by omega) (by omega) (by rw [List.length_append, List.length_singleton]; omega)
    rw [List.append_assoc, List.singleton_append] at ih
    have hap : (acc ++ [(Pu.cel t.2 r x, t.1.getD r 0 + (x : Int), (r : Int))]).length ≤ 1099511627776 := by rw [List.length_append, List.length_singleton]; omega
    have i0 := Int.natCast_nonneg x
    rw [af.dS]
    simp only [aT, aQ, bP, aS, bn, aD, hw, Int.toNat_natCast]
    refine Pu.tG hn (Pu.tG hr (Pu.tG i0 (Pu.tG hxl (Pu.tG hr (Pu.tG hxl (Pu.bE hat ?_))))))
    simp only [hwc]
    refine Pu.tG hap ?_
    rw [List.range'_succ, List.map_cons]
    exact ih
theorem af.y4 {k : Nat} {t : Pu.Tab} {l : List (Int × Int × Int)} {inn : List Int} {x5 : List Int} {x6 : List (List Int)} (hk : 4194304 + 2 ≤ k) (ht : Pu.dm t = true) (h9 : l.length ≤ 1000) (hm : ∀ p ∈ l, p ∈ Pu.cellsOf t) : ∀ (m j i : Nat) (X : List (List Int)), i + m = l.length → m < j → Pu.cU X t.2 →
    af.L2 k j l.length i l t.1 t.2 x5 x6 inn X = some ((inn, Pu.gJ t.1 i (l.drop i) X), ())
  | m, 0, i, X, _, hj, _ => by omega
  | 0, j + 1, i, X, hi, _, _ => by
    have hn : ¬ (i : Int) < (l.length : Int) := by omega
    rw [af.uw]
    refine Pu.tX hn ?_
    rw [List.drop_of_length_le (by omega)]
    rfl
  | m + 1, j + 1, i, X, hi, hj, hs => by
    have hli : i < l.length := by omega
    have hn : (i : Int) < (l.length : Int) := by omega
    have i0 := Int.natCast_nonneg i
    have hz := Pu.drop_cons hli (0, (0, 0))
    have hp := hm (l.getD i (0, (0, 0))) (by rw [Pu.aJ hli]; exact List.getElem_mem hli)
    have hw : IntKind.i64.wrap ((i : Int) + 1) = ((i + 1 : Nat) : Int) := by rw [Pu.w64 (by omega) (by omega)]; omega
    rw [af.uw]
    simp only [aT, aQ, aU, bP, aS, ba, bc, aD, hw, Int.toNat_natCast]
    rw [hz]
    generalize l.getD i (0, (0, 0)) = p at *
    obtain ⟨v, c, r'⟩ := p
    obtain ⟨r, hr, e1, e2, e3⟩ := (Pu.iz ht).1 hp
    simp only at e1 e2 e3
    subst e1
    obtain ⟨x, x1, x2, _⟩ := Pu.fm hr (by rw [e2]; exact e3)
    obtain ⟨q1, q2, _, _⟩ := Pu.ey ht
    have ha' : Pu.atI t.1 (r : Int) = t.1.getD r 0 := Pu.cH ..
    have ha := Pu.cK q1 (r : Int)
    rw [ha'] at ha
    have hb9 := (Pu.cK q2 (r : Int)).2
    rw [Pu.cH, show Pu.outer t = Pu.cV t.1 0 t.2 from rfl, Pu.dh t.1 t.2 0 r hr, Nat.zero_add] at hb9
    have hp9 := (Pu.bY q1).2.2.1
    have hat := dw.is (k := k) (p := t.1) (i := (r : Int)) (by omega) (by omega)
    rw [ha'] at hat
    have hwc : IntKind.i64.wrap (c - t.1.getD r 0) = (x : Int) := by rw [Pu.w64 (by omega) (by omega)]; omega
    have hrX : r < X.length := by rw [hs.1]; exact hr
    have hxX : x < (X.getD r []).length := by rw [hs.2]; exact x1
    have r0 := Int.natCast_nonneg r
    have x0 := Int.natCast_nonneg x
    have z1 : (0 : Int) ≤ 2 := by omega
    have z2 : (2 : Int) < ((3 : Nat) : Int) := by omega
    have z3 : (0 : Int) ≤ 1 := by omega
    have z4 : (1 : Int) < ((3 : Nat) : Int) := by omega
    have hX : X.set r ((X.getD r []).set x ((i + 1 : Nat) : Int)) = Pu.iR X (r : Int).toNat (c - Pu.atI t.1 (r : Int)).toNat ((i + 1 : Nat) : Int) := by
      rw [ha', Int.toNat_natCast, show (c - t.1.getD r 0).toNat = x by omega]
      rfl
    have ih := af.y4 (k := k) (inn := inn) (x5 := x5) (x6 := x6) hk ht h9 hm m j (i + 1) (X.set r ((X.getD r []).set x ((i + 1 : Nat) : Int))) (by omega) (by omega) (by
      rw [hX]; exact ⟨by rw [Pu.fO]; exact hs.1, fun q => by rw [Pu.cZ]; exact hs.2 q⟩)
    simp only [Int.toNat_natCast]
    refine Pu.tG hn (Pu.tG i0 (Pu.tG hli (Pu.tG hli (Pu.tG z1 (Pu.tG z2 (Pu.tG r0 (Pu.tG hrX (Pu.tG hrX (Pu.tG z3 (Pu.tG z4 (Pu.tG z1 (Pu.tG z2 (Pu.bE hat ?_)))))))))))))
    simp only [hwc, Int.toNat_natCast]
    refine Pu.tG hrX (Pu.tG x0 (Pu.tG hxX (Pu.tG hrX (Pu.tG hxX ?_))))
    rw [ih, hX]
    rfl
theorem af.uN {t : Pu.Tab} (ht : Pu.dm t = true) : t.2.length ≤ 9 ∧ t.2.flatten.length ≤ 9 ∧ ∀ r : Nat, (t.2.getD r []).length ≤ 9 := by
  have hs := Pu.g7 ht
  have h9 : t.2.length ≤ 9 := Pu.iy hs
  obtain ⟨q1, q2, _, _⟩ := Pu.ey ht
  have hrow : ∀ r : Nat, (t.2.getD r []).length ≤ 9 := fun r => by
    by_cases hr : r < t.2.length
    · have hb9 := (Pu.cK q2 (r : Int)).2
      have ha := (Pu.cK q1 (r : Int)).1
      rw [Pu.cH] at ha hb9
      rw [show Pu.outer t = Pu.cV t.1 0 t.2 from rfl, Pu.dh t.1 t.2 0 r hr, Nat.zero_add] at hb9
      omega
    · rw [Pu.bQ (by omega)]; simp
  have hle : ∀ (rs : List (List Int)) (i : Nat), (∀ q, 0 ≤ t.1.getD q 0) → (rs.flatten.length : Int) ≤ Pu.fJ (Pu.cV t.1 i rs) := by
    intro rs
    induction rs with
    | nil => intro i _; simp [Pu.cV, Pu.fJ]
    | cons a rs ih =>
      intro i h
      have h1 := ih (i + 1) h
      have h2 := h i
      simp only [List.flatten_cons, List.length_append, Pu.cV, Pu.fJ]
      omega
  have h1 := hle t.2 0 (fun q => by have := (Pu.cK q1 (q : Int)).1; rw [Pu.cH] at this; exact this)
  have h2 := (Pu.bY q2).2.1
  unfold Pu.outer at h2
  exact ⟨h9, by omega, hrow⟩
theorem af.zi {t : Pu.Tab} (ht : Pu.dm t = true) : (Pu.cellsOf t).length ≤ 9 := by
  have h9 := (af.uN ht).2.1
  have h : (Pu.cellsOf t).length = t.2.flatten.length := by
    unfold Pu.cellsOf
    rw [List.length_flatten, List.length_flatten, List.map_map]
    congr 1
    refine List.ext_getElem (by simp) fun i h1 h2 => ?_
    simp only [List.length_map, List.length_range] at h1
    simp only [List.getElem_map, List.getElem_range, Function.comp, Pu.dP, List.length_map, List.length_range]
    rw [Pu.aJ h1]
  omega
theorem af.yV {k : Nat} {t : Pu.Tab} {x5 : List Int} {x6 : List (List Int)} (hk : 4194304 + 10 ≤ k) (ht : Pu.dm t = true) (ho : Pu.nh t) : ∀ (m j r : Nat), r + m = t.2.length → m < j →
    af.L0 k j t.2.length r (((List.range' 0 r).map (Pu.dP t)).flatten) t.2 t.1 x5 x6 = some ((t.1, Pu.gJ t.1 0 (Pu.eF t) t.2), ())
  | m, 0, r, _, hj => by omega
  | 0, j + 1, r, hr, _ => by
    have hn : ¬ (r : Int) < (t.2.length : Int) := by omega
    have e : ((List.range' 0 r).map (Pu.dP t)).flatten = Pu.cellsOf t := by
      unfold Pu.cellsOf
      rw [List.range_eq_range', show r = t.2.length by omega]
    have hc9 := af.zi ht
    have hB : ∀ p ∈ Pu.cellsOf t, (-1000 ≤ p.1 ∧ p.1 ≤ 1000) ∧ -1000 ≤ p.2.1 ∧ p.2.1 ≤ 1000 := fun p hp => by
      obtain ⟨r, hr, e1, e2, e3⟩ := (Pu.iz ht).1 hp
      obtain ⟨x, x1, x2, x3⟩ := Pu.fm hr (by rw [e2]; exact e3)
      have hb := Pu.lZ ht hr x1
      obtain ⟨q1, q2, _, _⟩ := Pu.ey ht
      have ha := Pu.cK q1 (r : Int)
      rw [Pu.cH] at ha
      have h9 := (af.uN ht).2.2 r
      omega
    have hso := aE.is (k := k) (l := Pu.cellsOf t) (by omega) hc9 hB
    rw [Pu.sP ht] at hso
    have how := bg.is (k := k) (t := t) (by omega) ho.1 ho.2.1 ho.2.2
    have hperm := Pu.nv ht
    have hl2 := af.y4 (k := k) (t := t) (l := Pu.eF t) (inn := t.1) (x5 := x5) (x6 := x6) (by omega) ht (by rw [hperm.length_eq]; omega) (fun p hp => hperm.mem_iff.1 hp) (Pu.eF t).length k 0 t.2 (by omega) (by rw [hperm.length_eq]; omega) ⟨rfl, fun _ => rfl⟩
    rw [List.drop_zero] at hl2
    rw [af.cf, e, show ((t.1, t.2) : Pu.Tab) = t from rfl]
    exact Pu.tX hn (Pu.bE hso (Pu.bE how hl2))
  | m + 1, j + 1, r, hr, hj => by
    have hrl : r < t.2.length := by omega
    have hn : (r : Int) < (t.2.length : Int) := by omega
    obtain ⟨h9, hf9, hrow⟩ := af.uN ht
    have hr9 := hrow r
    have hacc : (((List.range' 0 r).map (Pu.dP t)).flatten).length ≤ 100 := by
      have : ∀ n : Nat, (((List.range' 0 n).map (Pu.dP t)).flatten).length ≤ 9 * n := by
        intro n
        induction n with
        | zero => simp
        | succ n ih =>
          rw [List.range'_concat, List.map_append, List.flatten_append, List.length_append]
          have := hrow (0 + 1 * n)
          simp only [List.map_cons, List.map_nil, List.flatten_cons, List.flatten_nil, List.append_nil, Pu.dP, List.length_map, List.length_range]
          omega
      have := this r
      omega
    have hl1 := af.yY (k := k) (k1 := j) (N := t.2.length) (x9 := x5) (x10 := x6) (by omega) ht hrl (t.2.getD r []).length k 0 (((List.range' 0 r).map (Pu.dP t)).flatten) (by omega) (by omega) (by omega)
    have ih := af.yV (k := k) (x5 := x5) (x6 := x6) hk ht ho m j (r + 1) (by omega) (by omega)
    have e : ((List.range' 0 (r + 1)).map (Pu.dP t)).flatten = ((List.range' 0 r).map (Pu.dP t)).flatten ++ (List.range' 0 (t.2.getD r []).length).map fun x => (Pu.cel t.2 r x, t.1.getD r 0 + x, (r : Int)) := by
      rw [List.range'_concat, List.map_append, List.flatten_append, show 0 + 1 * r = r by omega]
      simp only [List.map_cons, List.map_nil, List.flatten_cons, List.flatten_nil, List.append_nil, Pu.dP, List.range_eq_range']
    rw [e] at ih
    rw [af.cf]
    simp only [aT, aQ, aU, bP, Int.toNat_natCast]
    exact Pu.tG hn (Pu.tG (Int.natCast_nonneg r) (Pu.tG hrl (Pu.tG hrl (Pu.tG hrl (hl1.trans ih)))))
theorem af.is {k : Nat} {t : Pu.Tab} (hk : 4194304 + 20 ≤ k) (ht : Pu.dm t = true) (ho : Pu.nh t) : af k t.1 t.2 = some ((t.1, Pu.gJ t.1 0 (Pu.eF t) t.2), ()) := by
  obtain ⟨k, rfl⟩ : ∃ k', k = k' + 1 := ⟨k - 1, by omega⟩
  have h9 := (af.uN ht).1
  have := af.yV (k := k) (x5 := []) (x6 := []) (by omega) ht ho t.2.length k 0 (by omega) (by omega)
  rw [af.eq]
  exact this
theorem bD.is {k : Nat} {t : Pu.Tab} (hk : 4194304 + 30 ≤ k) (ho : Pu.nh t) : bD k t = some (Pu.eZ t) := by
  obtain ⟨k, rfl⟩ : ∃ k', k = k' + 1 := ⟨k - 1, by omega⟩
  have h1 := aB.is (k := k) (t := t) (by omega) ho.1 ho.2.1 ho.2.2
  rw [bD.eq, show ((t.1, t.2) : Pu.Tab) = t from rfl]
  unfold Pu.eZ
  refine Pu.bE h1 ?_
  cases ht : Pu.dm t with
  | false => exact Pu.tM rfl
  | true =>
    have h2 := af.is (k := k) (t := t) (by omega) ht ho
    exact Pu.tN (Pu.bE h2 rfl)
theorem bD.ok {t : Pu.Tab} : Pu.nh (Pu.eZ t).1 := by
  unfold Pu.eZ
  split
  · next ht =>
    obtain ⟨q1, q2, _, _⟩ := Pu.ey ht
    have hp9 := (Pu.bY q1).2.2.1
    obtain ⟨h9, _, hrow⟩ := af.uN ht
    have hs := Pu.jo t.1 (Pu.eF t) 0 t.2 ⟨rfl, fun _ => rfl⟩
    refine ⟨by simp only; omega, by simp only; rw [hs.1]; omega, fun x hx => ?_⟩
    obtain ⟨i, hi, rfl⟩ := List.getElem_of_mem hx
    have := hs.2 i
    have h' := hrow i
    rw [Pu.aJ hi] at this
    simp only at this ⊢
    omega
  · exact ⟨by simp, by simp, by simp⟩
theorem bV.loop {k : Nat} {a b : List Int} (hl : a.length = b.length) (ha : a.length ≤ 1048576) : ∀ (m j i : Nat), i + m = a.length → m < j → bV.L0 k j i a b = some (decide (a.drop i = b.drop i))
  | m, 0, i, _, hj => by omega
  | 0, j + 1, i, hi, _ => by
    rw [bV.cf]
    have e : i = a.length := by omega
    subst e
    simp [hl]
  | m + 1, j + 1, i, hi, hj => by
    rw [bV.cf]
    have h1 : i < a.length := by omega
    have h2 : i < b.length := by omega
    have ih := bV.loop (k := k) hl ha m j (i + 1) (by omega) (by omega)
    rw [Int.natCast_succ] at ih
    rw [Pu.drop_cons h1 0, Pu.drop_cons h2 0]
    by_cases e : a.getD i 0 = b.getD i 0 <;> simp (disch := omega) only [aL, bS, bX, a7, aQ, aU, aT, bP, aD, aS, b6, ca, Pu.w64, Int.toNat_natCast, decide_eq_true_eq, Int.ofNat_lt, h1, h2, if_true, Int.natCast_nonneg, decide_true, ih, e, List.cons.injEq, true_and, false_and, decide_false, Bool.not_true, Bool.not_false, if_false, Bool.false_eq_true]
theorem bV.is {k : Nat} {a b : List Int} (hk : 4194304 + 1 ≤ k) (ha : a.length ≤ 1048576) : bV k a b = some (decide (a = b)) := by
  obtain ⟨k, rfl⟩ : ∃ k', k = k' + 1 := ⟨k - 1, by omega⟩
  rw [bV.eq]
  by_cases hl : a.length = b.length
  · have h := bV.loop (k := k) hl ha a.length k 0 (by omega) (by omega)
    rw [Int.natCast_zero] at h
    simp only [List.drop_zero] at h
    have hl' : (a.length : Int) = b.length := by omega
    simp only [aL, b6, ca, aU, aQ, hl', decide_true, Bool.not_true, Bool.false_eq_true, if_false, h]
  · have hne : a ≠ b := fun e => hl (by rw [e])
    have hl' : ¬ (a.length : Int) = b.length := by omega
    simp [hl', hne]
theorem bR.loop {k : Nat} {a b : List (List Int)} (hk : 4194304 + 1 ≤ k) (hl : a.length = b.length) (ha : a.length ≤ 1048576) (hr : ∀ x ∈ a, x.length ≤ 1048576) : ∀ (m j i : Nat), i + m = a.length → m < j → bR.L0 k j i a b = some (decide (a.drop i = b.drop i))
  | m, 0, i, _, hj => by omega
  | 0, j + 1, i, hi, _ => by
    rw [bR.cf]
    have e : i = a.length := by omega
    subst e
    simp [hl]
  | m + 1, j + 1, i, hi, hj => by
    rw [bR.cf]
    have h1 : i < a.length := by omega
    have h2 : i < b.length := by omega
    have ih := bR.loop (k := k) hk hl ha hr m j (i + 1) (by omega) (by omega)
    rw [Int.natCast_succ] at ih
    rw [Pu.drop_cons h1 [], Pu.drop_cons h2 []]
    have hq := bV.is (k := k) (a := a.getD i []) (b := b.getD i []) (by omega) (by rw [Pu.aJ h1]; exact hr _ (List.getElem_mem h1))
    simp (disch := omega) only [aL, bS, bX, a7, aQ, aU, aT, bP, aD, aS, b6, hq, an, Pu.w64, Int.toNat_natCast, decide_eq_true_eq, Int.ofNat_lt, h1, h2, if_true, Int.natCast_nonneg, decide_true, ih]
    by_cases e : a.getD i [] = b.getD i [] <;> simp only [e, List.cons.injEq, true_and, false_and, decide_false, decide_true, Bool.not_true, Bool.not_false, if_false, if_true, Bool.false_eq_true]
theorem bR.is {k : Nat} {a b : List (List Int)} (hk : 4194304 + 2 ≤ k) (ha : a.length ≤ 1048576) (hr : ∀ x ∈ a, x.length ≤ 1048576) : bR k a b = some (decide (a = b)) := by
  obtain ⟨k, rfl⟩ : ∃ k', k = k' + 1 := ⟨k - 1, by omega⟩
  rw [bR.eq]
  by_cases hl : a.length = b.length
  · have h := bR.loop (k := k) (by omega) hl ha hr a.length k 0 (by omega) (by omega)
    rw [Int.natCast_zero] at h
    simp only [List.drop_zero] at h
    have hl' : (a.length : Int) = b.length := by omega
    simp only [aL, b6, ca, aU, aQ, hl', decide_true, Bool.not_true, Bool.false_eq_true, if_false, h]
  · have hne : a ≠ b := fun e => hl (by rw [e])
    have hl' : ¬ (a.length : Int) = b.length := by omega
    simp [hl', hne]
theorem cu.is {k : Nat} {a b : List Int × List (List Int)} (hk : 4194304 + 3 ≤ k) (h1 : a.1.length ≤ 1048576) (ha : a.2.length ≤ 1048576) (hr : ∀ x ∈ a.2, x.length ≤ 1048576) : cu k a b = some (decide (a = b)) := by
  obtain ⟨k, rfl⟩ : ∃ k', k = k' + 1 := ⟨k - 1, by omega⟩
  obtain ⟨a1, a2⟩ := a
  obtain ⟨b1, b2⟩ := b
  rw [cu.eq, bV.is (by omega) h1, an, bR.is (by omega) ha hr]
  by_cases e1 : a1 = b1 <;> by_cases e2 : a2 = b2 <;> simp [e1, e2]
theorem bh.loop {k : Nat} : ∀ (m j i : Nat) (q : Int) (a : List Int), i + m = a.length → m < j → a.length ≤ 1048576 → 0 ≤ q → q + m ≤ 4000000000000 → bh.L0 k j q i a = some (q + m, a.take i ++ Pu.mark (a.drop i) q)
  | m, 0, i, q, a, _, hj, _, _, _ => by omega
  | 0, j + 1, i, q, a, hi, _, _, _, _ => by
    rw [bh.cf]
    have e : i = a.length := by omega
    subst e
    simp [Pu.mark]
  | m + 1, j + 1, i, q, a, hi, hj, ha, hq, hq2 => by
    rw [bh.cf]
    have h1 : i < a.length := by omega
    have ih := bh.loop (k := k) m j (i + 1) (q + 1) (a.set i q) (by simp; omega) (by omega) (by simpa using ha) (by omega) (by omega)
    rw [Int.natCast_succ] at ih
    have e1 : (a.set i q).take (i + 1) = a.take i ++ [q] := by
      rw [Pu.take_succ (by simpa using h1) 0, List.take_set_of_le (Nat.le_refl _)]
      simp [h1]
    have e2 : (a.set i q).drop (i + 1) = a.drop (i + 1) := by rw [List.drop_set_of_lt (by omega)]
    rw [e1, e2] at ih
    rw [Pu.drop_cons h1 0]
    simp (disch := omega) only [aL, bS, bX, a7, aQ, aU, aT, bc, aD, aS, Pu.w64, Int.toNat_natCast, decide_eq_true_eq, Int.ofNat_lt, h1, if_true, Int.natCast_nonneg, decide_true, ih, Pu.mark]
    simp
    omega
theorem bh.is {k : Nat} {a : List Int} {q : Int} (hk : 4194304 + 1 ≤ k) (ha : a.length ≤ 1048576) (hq : 0 ≤ q) (hq2 : q + a.length ≤ 4000000000000) : bh k q a = some (q + a.length, Pu.mark a q) := by
  obtain ⟨k, rfl⟩ : ∃ k', k = k' + 1 := ⟨k - 1, by omega⟩
  rw [bh.eq]
  have h := bh.loop (k := k) a.length k 0 q a (by omega) (by omega) ha hq hq2
  rw [Int.natCast_zero] at h
  simpa using h
theorem aC.inner {k k1 r : Nat} {x3 x4 x5 x6 x8 x11 : Int} {x7 : Bool} {x9 x10 : Nat} : ∀ (m j i : Nat) (q : Int) (a : List (List Int)), r < a.length → i + m = (a.getD r []).length → m < j → (a.getD r []).length ≤ 1048576 → 0 ≤ q → q + m ≤ 4000000000000 → 0 ≤ x4 → x4 ≤ 4000000000000 →
    aC.L1 k k1 j r q i x3 x4 x5 x6 x7 x8 x9 x10 x11 a = aC.L0 k k1 (q + m) (x4 + 1) (a.set r ((a.getD r []).take i ++ Pu.mark ((a.getD r []).drop i) q))
  | m, 0, i, q, a, _, _, hj, _, _, _, _, _ => by omega
  | 0, j + 1, i, q, a, hr, hi, _, _, _, _, _, _ => by
    rw [aC.dS]
    have e : i = (a.getD r []).length := by omega
    have h1 : ¬ i < (a.getD r []).length := by omega
    have e2 : a.set r ((a.getD r []).take i ++ Pu.mark ((a.getD r []).drop i) q) = a := by
      rw [e, List.take_length, List.drop_length]
      simp only [Pu.mark, List.append_nil]
      rw [Pu.aJ hr, List.set_getElem_self]
    rw [e2]
    simp (disch := omega) only [aL, bS, a7, aQ, aU, bP, aD, aS, Pu.w64, decide_eq_true_eq, Int.ofNat_lt, hr, h1, if_true, if_false, decide_true]
    simp
  | m + 1, j + 1, i, q, a, hr, hi, hj, ha, hq, hq2, hx, hx2 => by
    rw [aC.dS]
    have h1 : i < (a.getD r []).length := by omega
    have eg : (a.set r ((a.getD r []).set i q)).getD r [] = (a.getD r []).set i q := by
      rw [Pu.aJ (by simpa using hr)]; simp
    have ih := aC.inner (k := k) (k1 := k1) (r := r) (x3 := x3) (x4 := x4) (x5 := x5) (x6 := x6) (x7 := x7) (x8 := x8) (x9 := x9) (x10 := x10) (x11 := x11) m j (i + 1) (q + 1) (a.set r ((a.getD r []).set i q)) (by rw [List.length_set]; exact hr) (by rw [eg, List.length_set]; omega) (by omega) (by rw [eg, List.length_set]; exact ha) (by omega) (by omega) hx hx2
    rw [eg, Int.natCast_succ, List.set_set] at ih
    have hl1 : i < ((a.getD r []).set i q).length := by rw [List.length_set]; exact h1
    have e1 : ((a.getD r []).set i q).take (i + 1) = (a.getD r []).take i ++ [q] := by
      rw [Pu.take_succ hl1 0, List.take_set_of_le (Nat.le_refl _), Pu.aJ hl1, List.getElem_set_self]
    have e2 : ((a.getD r []).set i q).drop (i + 1) = (a.getD r []).drop (i + 1) := by rw [List.drop_set_of_lt (by omega)]
    rw [e1, e2] at ih
    rw [Pu.drop_cons h1 0]
    simp (disch := omega) only [aL, bS, bX, a7, aQ, aU, aT, bc, bP, aD, aS, Pu.w64, Int.toNat_natCast, decide_eq_true_eq, Int.ofNat_lt, hr, h1, if_true, Int.natCast_nonneg, decide_true, ih, Pu.mark]
    simp only [List.append_assoc, List.singleton_append]
    congr 1
    omega
theorem aC.loop {k : Nat} (hk : 4194304 ≤ k) : ∀ (m j i : Nat) (q : Int) (a : List (List Int)), i + m = a.length → m < j → a.length ≤ 1048576 → (∀ x ∈ a, x.length ≤ 1048576) → 0 ≤ q → q + Pu.dZ (a.drop i) ≤ 4000000000000 →
    aC.L0 k j q i a = some (q + Pu.dZ (a.drop i), a.take i ++ Pu.iv (a.drop i) q)
  | m, 0, i, q, a, _, hj, _, _, _, _ => by omega
  | 0, j + 1, i, q, a, hi, _, _, _, _, _ => by
    rw [aC.cf]
    have e : i = a.length := by omega
    subst e
    simp [Pu.iv, Pu.dZ]
  | m + 1, j + 1, i, q, a, hi, hj, ha, hr, hq, hq2 => by
    rw [aC.cf]
    have h1 : i < a.length := by omega
    have hx := hr a[i] (List.getElem_mem h1)
    rw [← Pu.aJ h1 []] at hx
    rw [Pu.drop_cons h1 []] at hq2 ⊢
    simp only [Pu.dZ] at hq2
    simp (disch := omega) only [aL, bS, bX, a7, aQ, aU, aT, bP, aD, aS, Pu.w64, Int.toNat_natCast, decide_eq_true_eq, Int.ofNat_lt, h1, if_true, Int.natCast_nonneg, decide_true, Pu.iv, Pu.dZ]
    have hin := fun (x7 : Bool) (x6 : Int) => aC.inner (k := k) (k1 := j) (r := i) (x3 := q) (x4 := i) (x5 := i) (x6 := x6) (x7 := x7) (x8 := i) (x9 := i) (x10 := i) (x11 := q) (a.getD i []).length k 0 q a h1 (by omega) (by omega) hx hq (by omega) (by omega) (by omega)
    simp only [Int.natCast_zero] at hin
    rw [hin]
    have ih := aC.loop (k := k) hk m j (i + 1) (q + (a.getD i []).length) (a.set i (Pu.mark (a.getD i []) q)) (by simp; omega) (by omega) (by simpa using ha) (fun x hx' => by
        rcases List.mem_or_eq_of_mem_set hx' with h | rfl
        · exact hr x h
        · rw [Pu.j4]; exact hx) (by omega) (by rw [List.drop_set_of_lt (by omega)]; omega)
    have e1 : (a.set i (Pu.mark (a.getD i []) q)).take (i + 1) = a.take i ++ [Pu.mark (a.getD i []) q] := by
      rw [Pu.take_succ (by simpa using h1) [], List.take_set_of_le (Nat.le_refl _), Pu.aJ (by simpa using h1)]
      simp
    rw [e1, List.drop_set_of_lt (by omega), Int.natCast_succ] at ih
    simp only [List.take_zero, List.drop_zero, List.nil_append]
    rw [ih]
    simp
    omega
theorem aC.is {k : Nat} {a : List (List Int)} {q : Int} (hk : 4194304 + 2 ≤ k) (ha : a.length ≤ 1048576) (hr : ∀ x ∈ a, x.length ≤ 1048576) (hq : 0 ≤ q) (hq2 : q + Pu.dZ a ≤ 4000000000000) : aC k q a = some (q + Pu.dZ a, Pu.iv a q) := by
  obtain ⟨k, rfl⟩ : ∃ k', k = k' + 2 := ⟨k - 2, by omega⟩
  rw [aC.eq]
  have h := aC.loop (k := k) (by omega) a.length (k + 1) 0 q a (by omega) (by omega) ha hr hq hq2
  rw [Int.natCast_zero] at h
  simpa using h
theorem bZ.is {k : Nat} {a : List Int} {b : List (List Int)} {q : Int} (hk : 4194304 + 3 ≤ k) (h1 : a.length ≤ 1048576) (ha : b.length ≤ 1048576) (hr : ∀ x ∈ b, x.length ≤ 1048576) (hq : 0 ≤ q) (hq2 : q + a.length + Pu.dZ b ≤ 4000000000000) :
    bZ k q a b = some (q + a.length + Pu.dZ b, (Pu.mark a q, Pu.iv b (q + a.length))) := by
  obtain ⟨k, rfl⟩ : ∃ k', k = k' + 1 := ⟨k - 1, by omega⟩
  rw [bZ.eq, bh.is (by omega) h1 hq (by omega), an, aC.is (by omega) ha hr (by omega) (by omega)]
  rfl
theorem bC.loop {k : Nat} {a : List Int} (ha : a.length ≤ 1048576) : ∀ (m j i : Nat) (q : Int), i + m = a.length → m < j → 0 ≤ q → q + m ≤ 4000000000000 → bC.L0 k j q i a = some (Pu.held (a.drop i) q)
  | m, 0, i, q, _, hj, _, _ => by omega
  | 0, j + 1, i, q, hi, _, _, _ => by
    rw [bC.cf]
    have e : i = a.length := by omega
    subst e
    simp [Pu.held]
  | m + 1, j + 1, i, q, hi, hj, hq, hq2 => by
    rw [bC.cf]
    have h1 : i < a.length := by omega
    have ih := bC.loop (k := k) ha m j (i + 1) (q + 1) (by omega) (by omega) (by omega) (by omega)
    rw [Int.natCast_succ] at ih
    rw [Pu.drop_cons h1 0]
    simp (disch := omega) only [aL, bS, bX, a7, aQ, aU, aT, bP, aD, aS, b6, ca, Pu.w64, Int.toNat_natCast, decide_eq_true_eq, Int.ofNat_lt, h1, if_true, Int.natCast_nonneg, decide_true, Pu.held, ih]
    by_cases e : a.getD i 0 = q <;> simp only [e, decide_true, decide_false, Bool.not_false, Bool.not_true, if_true, if_false, Bool.false_eq_true]
theorem bC.is {k : Nat} {a : List Int} {q : Int} (hk : 4194304 + 1 ≤ k) (ha : a.length ≤ 1048576) (hq : 0 ≤ q) (hq2 : q + a.length ≤ 4000000000000) : bC k a q = some (Pu.held a q) := by
  obtain ⟨k, rfl⟩ : ∃ k', k = k' + 1 := ⟨k - 1, by omega⟩
  rw [bC.eq]
  have h := bC.loop (k := k) ha a.length k 0 q (by omega) (by omega) hq hq2
  rw [Int.natCast_zero] at h
  exact h
theorem bG.loop {k : Nat} {a : List (List Int)} (hk : 4194304 + 1 ≤ k) (ha : a.length ≤ 1048576) (hr : ∀ x ∈ a, x.length ≤ 1048576) : ∀ (m j i : Nat) (q : Int), i + m = a.length → m < j → 0 ≤ q → q + Pu.dZ (a.drop i) ≤ 4000000000000 → bG.L0 k j q i a = some (Pu.iF (a.drop i) q)
  | m, 0, i, q, _, hj, _, _ => by omega
  | 0, j + 1, i, q, hi, _, _, _ => by
    rw [bG.cf]
    have e : i = a.length := by omega
    subst e
    simp [Pu.iF]
  | m + 1, j + 1, i, q, hi, hj, hq, hq2 => by
    rw [bG.cf]
    have h1 : i < a.length := by omega
    rw [Pu.drop_cons h1 []] at hq2 ⊢
    simp only [Pu.dZ] at hq2
    have hx := hr a[i] (List.getElem_mem h1)
    rw [← Pu.aJ h1 []] at hx
    have hh := bC.is (k := k) (a := a.getD i []) (q := q) (by omega) hx hq (by omega)
    simp (disch := omega) only [aL, bS, bX, a7, aQ, aU, aT, bP, aD, aS, b6, ca, Pu.w64, Int.toNat_natCast, decide_eq_true_eq, Int.ofNat_lt, h1, if_true, Int.natCast_nonneg, decide_true, Pu.iF, hh, an]
    by_cases e : Pu.held (a.getD i []) q < 0
    · simp only [e, if_true]
    · have hle := Pu.sM (a.getD i []) q hq
      have ih := bG.loop (k := k) hk ha hr m j (i + 1) (Pu.held (a.getD i []) q) (by omega) (by omega) (by omega) (by omega)
      rw [Int.natCast_succ] at ih
      simp only [e, if_false, ih]
theorem bG.is {k : Nat} {a : List (List Int)} {q : Int} (hk : 4194304 + 2 ≤ k) (ha : a.length ≤ 1048576) (hr : ∀ x ∈ a, x.length ≤ 1048576) (hq : 0 ≤ q) (hq2 : q + Pu.dZ a ≤ 4000000000000) : bG k a q = some (Pu.iF a q) := by
  obtain ⟨k, rfl⟩ : ∃ k', k = k' + 1 := ⟨k - 1, by omega⟩
  rw [bG.eq]
  have h := bG.loop (k := k) (by omega) ha hr a.length k 0 q (by omega) (by omega) hq hq2
  rw [Int.natCast_zero] at h
  exact h
theorem cQ.is {k : Nat} {a : List Int × List (List Int)} {q : Int} (hk : 4194304 + 3 ≤ k) (h1 : a.1.length ≤ 1048576) (ha : a.2.length ≤ 1048576) (hr : ∀ x ∈ a.2, x.length ≤ 1048576) (hq : 0 ≤ q) (hq2 : q + a.1.length + Pu.dZ a.2 ≤ 4000000000000) :
    cQ k a q = some (Pu.iF (a.1 :: a.2) q) := by
  obtain ⟨k, rfl⟩ : ∃ k', k = k' + 1 := ⟨k - 1, by omega⟩
  rw [cQ.eq, bC.is (by omega) h1 hq (by omega), an]
  simp only [Pu.iF, aL, bS, decide_eq_true_eq]
  by_cases e : Pu.held a.1 q < 0
  · simp only [e, if_true]
  · have hle := Pu.sM a.1 q hq
    simp only [e, if_false]
    rw [bG.is (by omega) ha hr (by omega) (by omega), an]
    by_cases e2 : Pu.iF a.2 (Pu.held a.1 q) < 0
    · rw [if_pos e2]
      congr 1
      exact (Pu.rH _ _ (by omega) e2).symm
    · rw [if_neg e2]
theorem aq.is {t : Pu.Tab} (h1 : t.1.length ≤ maxLen) (h2 : t.2.length ≤ maxLen) (h3 : ∀ r ∈ t.2, r.length ≤ maxLen) : ∃ k, aq k t = some true := by
  refine ⟨4194304 + 60 + 1, ?_⟩
  rw [aq.eq]
  obtain ⟨r, hr0, hr1⟩ := dC.is (k := 4194304 + 60) (a := t) (b := 1048576) (by omega) h1 h2 h3 (by omega) (by omega)
  rw [show ((t.1, t.2) : Pu.Tab) = t from rfl, hr0, an]
  by_cases c : r < 0
  · simp [c]
  · obtain ⟨s0, s1, s2, s3⟩ := hr1 (by omega)
    have ht : Pu.nh t := ⟨by omega, by omega, fun y hy => by have := s3 y hy; omega⟩
    have hg := bD.ok (t := t)
    have hto := cJ.is (k := 4194304 + 60) (a := t) (by omega) ht.1 ht.2.1 ht.2.2
    have hsp := ai.gen (k := 4194304 + 60) (t := t) (by omega) ht
    have him := bD.is (k := 4194304 + 60) (t := t) (by omega) ht
    have hs := Pu.rO ht.2.1 ht.2.2
    have hm := bZ.is (k := 4194304 + 60) (a := t.1) (b := t.2) (q := 1) (by omega) ht.1 ht.2.1 ht.2.2 (by omega) (by omega)
    have he := cu.is (k := 4194304 + 60) (a := t) (b := t) (by omega) ht.1 ht.2.1 ht.2.2
    generalize hG : Pu.eZ t = G at *
    obtain ⟨g, b⟩ := G
    have hgs := Pu.rO hg.2.1 hg.2.2
    have heg := cu.is (k := 4194304 + 60) (a := g) (b := g) (by omega) hg.1 hg.2.1 hg.2.2
    have hmg := bZ.is (k := 4194304 + 60) (a := g.1) (b := g.2) (q := 1) (by omega) hg.1 hg.2.1 hg.2.2 (by omega) (by have := hg.1; simp only at this hgs ⊢; omega)
    have hhg := cQ.is (k := 4194304 + 60) (a := (Pu.mark g.1 1, Pu.iv g.2 (1 + g.1.length))) (q := 1) (by omega) (by simp only [Pu.j4]; exact hg.1) (by simp only [Pu.rZ]; exact hg.2.1) (Pu.wK hg.2.2) (by omega)
      (by simp only [Pu.j4, Pu.qT]; have := hg.1; simp only at this hgs ⊢; omega)
    have hv : Pu.iF (Pu.mark g.1 1 :: Pu.iv g.2 (1 + g.1.length)) 1 = 1 + g.1.length + Pu.dZ g.2 := by
      simp only [Pu.iF]
      rw [Pu.om, if_neg (by omega), Pu.qE _ _ (by omega)]
    simp only [hv] at hhg
    have n1 : ¬ (1 + (t.1.length : Int) + Pu.dZ t.2 < 0) := by omega
    have n2 : ¬ (1 + (g.1.length : Int) + Pu.dZ g.2 < 0) := by omega
    simp only [↓aL, bS, bX, a7, br, bq, aQ, aU, aT, bP, bc, bn, aO, aN, bp, aD, aS, ba, b6, ca, bo, bt, an, Pu.w64, Int.toNat_natCast, decide_eq_true_eq, Int.ofNat_lt, Int.ofNat_le, if_true, if_false, Int.natCast_nonneg, decide_true, decide_false, Bool.not_true, Bool.not_false, Bool.false_eq_true, Bool.not_eq_true, Bool.true_and, Bool.and_true, Bool.false_and, Bool.and_false, c, hto, hsp, him, heg, aq.je, aq.nB, aq.ng, he, hm, hmg, hhg, n1, n2, Prod.eta, beq_self_eq_true]
end Go.Am.Seat
