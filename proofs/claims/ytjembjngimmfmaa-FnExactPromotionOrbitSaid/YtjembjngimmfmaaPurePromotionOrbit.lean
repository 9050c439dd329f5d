/- What the functions make of data, as plain words; each holds for all data within the bounds that it names. -/
import Derived.Test.YtjembjngimmfmaaEqsPromotionOrbit
import Derived.Test.YtjembjngimmfmaaPu
set_option linter.unusedSimpArgs false
set_option linter.unusedVariables false
set_option linter.unnecessarySimpa false
set_option linter.unusedSectionVars false
namespace Go.Am.Seat
open Go Go.Am Go.Am.Pu
attribute [local instance] D.real
set_option linter.unusedSimpArgs false
set_option linter.unusedVariables false
set_option maxRecDepth 4000
theorem eY.is {k : Nat} {a : List Int} {b : Int} (hk : 4194304 + 1 ≤ k) (ha : a.length ≤ maxLen) (h1 : 0 ≤ b) (h2 : b ≤ 1048576) : eY k a b = some (if b - a.length < 0 then -1 else b - a.length) := by
  obtain ⟨k, rfl⟩ : ∃ k', k = k' + 1 := ⟨k - 1, by omega⟩
  have ha : a.length ≤ 9223372036854775807 := ha
  rw [eY.eq]
  simp (disch := omega) only [an, bm, al, aL, az, aB, decide_eq_true_eq, Pu.w64]
  split <;> rfl
theorem cw.loop {k : Nat} {a : List (List Int)} (hk : 4194304 + 1 ≤ k) (ha : a.length ≤ 1048576) (hr : ∀ x ∈ a, x.length ≤ maxLen) : ∀ (m j i : Nat) (b : Int), i + m = a.length → m < j → 0 ≤ b → b ≤ 1048576 →
    ∃ r, cw.L0 k j b i a = some r ∧ (0 ≤ r → r ≤ b ∧ ∀ (q : Nat) x, i ≤ q → a[q]? = some x → (x.length : Int) ≤ b)
  | m, 0, i, b, _, hj, _, _ => by omega
  | 0, j + 1, i, b, hi, _, _, _ => by
    rw [cw.bu]
    have e : i = a.length := by omega
    subst e
    exact ⟨b, by simp, fun _ => ⟨Int.le_refl _, fun q x h1 h2 => by have := (List.getElem?_eq_some_iff.1 h2).1; omega⟩⟩
  | m + 1, j + 1, i, b, hi, hj, hb, hb2 => by
    rw [cw.bu]
    have hlt : i < a.length := by omega
    have hx := hr a[i] (List.getElem_mem hlt)
    have hx' : a[i].length ≤ 9223372036854775807 := hx
    have h1 := eY.is (k := k) (a := a[i]) (b := b) (by omega) hx hb hb2
    by_cases hc : b - a[i].length < 0
    · rw [if_pos hc] at h1
      exact ⟨-1, by simp [hlt, h1], fun h => by omega⟩
    · rw [if_neg hc] at h1
      obtain ⟨r, h2, h3⟩ := cw.loop hk ha hr m j (i + 1) (b - a[i].length) (by omega) (by omega) (by omega) (by omega)
      rw [Int.natCast_succ] at h2
      refine ⟨r, by simp (disch := omega) [hlt, h1, hc, Pu.w64, h2], fun h0 => ?_⟩
      obtain ⟨h4, h5⟩ := h3 h0
      refine ⟨by omega, fun q x h6 h7 => ?_⟩
      by_cases e : q = i
      · subst e
        rw [List.getElem?_eq_getElem hlt] at h7
        injection h7 with h7
        subst h7
        omega
      · have := h5 q x (by omega) h7
        omega
theorem cw.is {k : Nat} {a : List (List Int)} {b : Int} (hk : 4194304 + 2 ≤ k) (ha : a.length ≤ maxLen) (hr : ∀ x ∈ a, x.length ≤ maxLen) (h1 : 0 ≤ b) (h2 : b ≤ 1048576) :
    ∃ r, cw k a b = some r ∧ (0 ≤ r → r ≤ b ∧ (a.length : Int) ≤ b ∧ ∀ x ∈ a, (x.length : Int) ≤ b) := by
  obtain ⟨k, rfl⟩ : ∃ k', k = k' + 1 := ⟨k - 1, by omega⟩
  have ha : a.length ≤ 9223372036854775807 := ha
  rw [cw.eq]
  by_cases hc : b - a.length < 0
  · exact ⟨-1, by simp (disch := omega) [Pu.w64, hc], fun h => by omega⟩
  · obtain ⟨r, h3, h4⟩ := cw.loop (k := k) (a := a) (by omega) (by omega) hr a.length k 0 (b - a.length) (by omega) (by omega) (by omega) (by omega)
    rw [Int.natCast_zero] at h3
    refine ⟨r, by simp (disch := omega) [Pu.w64, hc, h3], fun h0 => ?_⟩
    obtain ⟨h5, h6⟩ := h4 h0
    refine ⟨by omega, by omega, fun x hx => ?_⟩
    obtain ⟨q, hq⟩ := List.mem_iff_getElem?.1 hx
    have := h6 q x (by omega) hq
    omega
theorem eN.is {k : Nat} {a : List Int × List (List Int)} {b : Int} (hk : 4194304 + 3 ≤ k) (ha : a.1.length ≤ maxLen) (ha2 : a.2.length ≤ maxLen) (hr : ∀ x ∈ a.2, x.length ≤ maxLen) (h1 : 0 ≤ b) (h2 : b ≤ 1048576) :
    ∃ r, eN k a b = some r ∧ (0 ≤ r → r ≤ b ∧ (a.1.length : Int) ≤ b ∧ (a.2.length : Int) ≤ b ∧ ∀ x ∈ a.2, (x.length : Int) ≤ b) := by
  obtain ⟨k, rfl⟩ : ∃ k', k = k' + 1 := ⟨k - 1, by omega⟩
  rw [eN.eq, eY.is (by omega) ha h1 h2]
  by_cases hc : b - a.1.length < 0
  · exact ⟨-1, by simp [hc], fun h => by omega⟩
  · obtain ⟨r, h3, h4⟩ := cw.is (k := k) (a := a.2) (b := b - a.1.length) (by omega) ha2 hr (by omega) (by omega)
    by_cases hr0 : r < 0
    · exact ⟨-1, by simp [hc, h3, hr0], fun h => by omega⟩
    · refine ⟨r, by simp [hc, h3, hr0], fun h0 => ?_⟩
      obtain ⟨h5, h6, h7⟩ := h4 h0
      refine ⟨by omega, by omega, by omega, fun x hx => ?_⟩
      have := h7 x hx
      omega
theorem cF.loop {k : Nat} {a : List Int} (ha : a.length ≤ 1048576) : ∀ (m j i : Nat), i + m = a.length → m < j → cF.L0 k j i a (a.take i ++ List.replicate (a.length - i) 0) = some a
  | m, 0, i, _, hj => by omega
  | 0, j + 1, i, hi, _ => by
    rw [cF.bu]
    have e : i = a.length := by omega
    subst e
    simp
  | m + 1, j + 1, i, hi, hj => by
    rw [cF.bu]
    have hlt : i < a.length := by omega
    have ih := cF.loop (k := k) ha m j (i + 1) (by omega) (by omega)
    rw [Int.natCast_succ] at ih
    have hl : i < (a.take i ++ List.replicate (a.length - i) (0 : Int)).length := by simp; omega
    have hf := Pu.pO hlt (0 : Int) 0
    simp (disch := omega) only [an, bm, bn, aG, aB, az, aE, bk, aK, al, aF, Pu.w64, Int.toNat_natCast, decide_eq_true_eq, Int.ofNat_lt, hlt, hl, if_true, Int.natCast_nonneg, decide_true, hf, ih]
theorem cF.is {k : Nat} {a : List Int} (hk : 4194304 + 1 ≤ k) (ha : a.length ≤ 1048576) : cF k a = some a := by
  obtain ⟨k, rfl⟩ : ∃ k', k = k' + 1 := ⟨k - 1, by omega⟩
  rw [cF.eq]
  have h := cF.loop (k := k) ha a.length k 0 (by omega) (by omega)
  rw [Int.natCast_zero] at h
  simp only [List.take_zero, List.nil_append, Nat.sub_zero] at h
  have hl : a.length ≤ 1099511627776 := by omega
  simp [h, hl]
theorem cy.loop {k : Nat} {a : List (List Int)} (hk : 4194304 + 1 ≤ k) (ha : a.length ≤ 1048576) (hr : ∀ x ∈ a, x.length ≤ 1048576) : ∀ (m j i : Nat), i + m = a.length → m < j → cy.L0 k j i a (a.take i ++ List.replicate (a.length - i) []) = some a
  | m, 0, i, _, hj => by omega
  | 0, j + 1, i, hi, _ => by
    rw [cy.bu]
    have e : i = a.length := by omega
    subst e
    simp
  | m + 1, j + 1, i, hi, hj => by
    rw [cy.bu]
    have hlt : i < a.length := by omega
    have ih := cy.loop (k := k) hk ha hr m j (i + 1) (by omega) (by omega)
    rw [Int.natCast_succ] at ih
    have hl : i < (a.take i ++ List.replicate (a.length - i) ([] : List Int)).length := by simp; omega
    have hf := Pu.pO hlt ([] : List Int) []
    have h1 := cF.is (k := k) (a := a.getD i []) (by omega) (by rw [Pu.ay hlt]; exact hr _ (List.getElem_mem hlt))
    simp (disch := omega) only [an, bm, bn, aG, aB, az, aE, bk, aK, al, aF, Pu.w64, Int.toNat_natCast, decide_eq_true_eq, Int.ofNat_lt, hlt, hl, if_true, Int.natCast_nonneg, decide_true, h1, ab, hf, ih]
theorem cy.is {k : Nat} {a : List (List Int)} (hk : 4194304 + 2 ≤ k) (ha : a.length ≤ 1048576) (hr : ∀ x ∈ a, x.length ≤ 1048576) : cy k a = some a := by
  obtain ⟨k, rfl⟩ : ∃ k', k = k' + 1 := ⟨k - 1, by omega⟩
  rw [cy.eq]
  have h := cy.loop (k := k) (by omega) ha hr a.length k 0 (by omega) (by omega)
  rw [Int.natCast_zero] at h
  simp only [List.take_zero, List.nil_append, Nat.sub_zero] at h
  have hl : a.length ≤ 1099511627776 := by omega
  simp [h, hl]
theorem dx.is {k : Nat} {a : List Int × List (List Int)} (hk : 4194304 + 3 ≤ k) (h1 : a.1.length ≤ 1048576) (ha : a.2.length ≤ 1048576) (hr : ∀ x ∈ a.2, x.length ≤ 1048576) : dx k a = some a := by
  obtain ⟨k, rfl⟩ : ∃ k', k = k' + 1 := ⟨k - 1, by omega⟩
  rw [dx.eq, cF.is (by omega) h1, ab, cy.is (by omega) ha hr]
  rfl
theorem gE.is {k : Nat} {x lo hi : Int} (hk : 1 ≤ k) : gE k x lo hi = some (Pu.within x lo hi) := by
  obtain ⟨k, rfl⟩ : ∃ k', k = k' + 1 := ⟨k - 1, by omega⟩
  rw [gE.eq]
  by_cases h : lo ≤ x <;> simp [Pu.within, h]
theorem a6.loop {k : Nat} {p : List Int} (hk : 4194304 ≤ k) (hp : p.length ≤ 1048576) : ∀ (m j i : Nat) (s v : Int), i + m = p.length → m < j → (i = 0 → v = 9) → (0 < i → v = p.getD (i - 1) 0) → v ≤ 9 → 0 ≤ s → s ≤ 9 →
    a6.L0 k j s i p = some (Pu.fF (p.drop i) v s)
  | m, 0, i, s, v, _, hj, _, _, _, _, _ => by omega
  | 0, j + 1, i, s, v, hi, _, _, _, _, _, _ => by
    rw [a6.bu]
    have e : i = p.length := by omega
    subst e
    simp [Pu.fF]
  | m + 1, j + 1, i, s, v, hi, hj, h0, h1, hv, hs, hs9 => by
    rw [a6.bu]
    have hlt : i < p.length := by omega
    have hj1 : ∀ x : Int, x = p.getD i 0 → 1 ≤ x → x ≤ v → a6.J1 k j s i p = some (decide (s + x ≤ 9) && Pu.fF (p.drop (i + 1)) x (s + x)) := by
      intro x hx hx1 hx2
      rw [a6.iw]
      simp (disch := omega) only [↓an, bm, bn, aG, aP, aM, aB, az, aE, bk, aK, aO, ar, au, aN, al, aF, aL, bo, bp, aQ, aR, ab, Pu.w64, Int.toNat_natCast, decide_eq_true_eq, Int.ofNat_lt, Int.ofNat_le, if_true, if_false, Int.natCast_nonneg, decide_true, decide_false, Bool.not_true, Bool.not_false, Bool.false_eq_true, Bool.not_eq_true, Bool.true_and, Bool.and_true, Bool.false_and, Bool.and_false, hlt, ← hx]
      by_cases c : 9 < s + x
      · have : ¬ s + x ≤ 9 := by omega
        simp [c, this]
      · have c' : s + x ≤ 9 := by omega
        have ih := a6.loop hk hp m j (i + 1) (s + x) x (by omega) (by omega) (by omega) (by simp [hx]) (by omega) (by omega) c'
        rw [Int.natCast_succ] at ih
        simp [c, c', ih]
    rw [Pu.drop_cons hlt 0]
    simp (disch := omega) only [↓an, bm, bn, aG, aP, aM, aB, az, aE, bk, aK, aO, ar, au, aN, al, aF, aL, bo, bp, aQ, aR, ab, Pu.w64, Int.toNat_natCast, decide_eq_true_eq, Int.ofNat_lt, Int.ofNat_le, if_true, if_false, Int.natCast_nonneg, decide_true, decide_false, Bool.not_true, Bool.not_false, Bool.false_eq_true, Bool.not_eq_true, Bool.true_and, Bool.and_true, Bool.false_and, Bool.and_false, hlt, gE.is, Pu.fF]
    generalize hx : p.getD i 0 = x at *
    unfold Pu.within
    by_cases c1 : 1 ≤ x
    · by_cases c2 : x ≤ v
      · have c3 : x ≤ 9 := by omega
        have hj := hj1 x rfl c1 c2
        by_cases hi0 : i = 0
        · have hpos : ¬ (0 : Int) < i := by omega
          simp (disch := omega) only [↓an, bm, bn, aG, aP, aM, aB, az, aE, bk, aK, aO, ar, au, aN, al, aF, aL, bo, bp, aQ, aR, ab, Pu.w64, Int.toNat_natCast, decide_eq_true_eq, Int.ofNat_lt, Int.ofNat_le, if_true, if_false, Int.natCast_nonneg, decide_true, decide_false, Bool.not_true, Bool.not_false, Bool.false_eq_true, Bool.not_eq_true, Bool.true_and, Bool.and_true, Bool.false_and, Bool.and_false, c1, c2, c3, hpos, hj]
        · have hv' := h1 (by omega)
          have e : ((i : Int) - 1) = ((i - 1 : Nat) : Int) := by omega
          have hlt' : i - 1 < p.length := by omega
          have hge : ¬ p.getD (i - 1) 0 < x := by rw [← hv']; omega
          have hpos : (0 : Int) < i := by omega
          simp (disch := omega) only [e, ↓an, bm, bn, aG, aP, aM, aB, az, aE, bk, aK, aO, ar, au, aN, al, aF, aL, bo, bp, aQ, aR, ab, Pu.w64, Int.toNat_natCast, decide_eq_true_eq, Int.ofNat_lt, Int.ofNat_le, if_true, if_false, Int.natCast_nonneg, decide_true, decide_false, Bool.not_true, Bool.not_false, Bool.false_eq_true, Bool.not_eq_true, Bool.true_and, Bool.and_true, Bool.false_and, Bool.and_false, hlt', c1, c2, c3, hj, hpos, hge]
      · simp only [c1, c2, ↓an, bm, bn, aG, aP, aM, aB, az, aE, bk, aK, aO, ar, au, aN, al, aF, aL, bo, bp, aQ, aR, ab, Pu.w64, Int.toNat_natCast, decide_eq_true_eq, Int.ofNat_lt, Int.ofNat_le, if_true, if_false, Int.natCast_nonneg, decide_true, decide_false, Bool.not_true, Bool.not_false, Bool.false_eq_true, Bool.not_eq_true, Bool.true_and, Bool.and_true, Bool.false_and, Bool.and_false]
        by_cases c3 : x ≤ 9
        · have hi0 : 0 < i := by
            rcases Nat.eq_zero_or_pos i with h | h
            · have := h0 h; omega
            · exact h
          have hv' := h1 hi0
          have e : ((i : Int) - 1) = ((i - 1 : Nat) : Int) := by omega
          have hlt' : i - 1 < p.length := by omega
          have hge : p.getD (i - 1) 0 < x := by rw [← hv']; omega
          have hpos : (0 : Int) < i := by omega
          simp (disch := omega) only [e, ↓an, bm, bn, aG, aP, aM, aB, az, aE, bk, aK, aO, ar, au, aN, al, aF, aL, bo, bp, aQ, aR, ab, Pu.w64, Int.toNat_natCast, decide_eq_true_eq, Int.ofNat_lt, Int.ofNat_le, if_true, if_false, Int.natCast_nonneg, decide_true, decide_false, Bool.not_true, Bool.not_false, Bool.false_eq_true, Bool.not_eq_true, Bool.true_and, Bool.and_true, Bool.false_and, Bool.and_false, hlt', c3, hpos, hge]
        · simp only [c3, ↓an, bm, bn, aG, aP, aM, aB, az, aE, bk, aK, aO, ar, au, aN, al, aF, aL, bo, bp, aQ, aR, ab, Pu.w64, Int.toNat_natCast, decide_eq_true_eq, Int.ofNat_lt, Int.ofNat_le, if_true, if_false, Int.natCast_nonneg, decide_true, decide_false, Bool.not_true, Bool.not_false, Bool.false_eq_true, Bool.not_eq_true, Bool.true_and, Bool.and_true, Bool.false_and, Bool.and_false]
    · simp only [c1, ↓an, bm, bn, aG, aP, aM, aB, az, aE, bk, aK, aO, ar, au, aN, al, aF, aL, bo, bp, aQ, aR, ab, Pu.w64, Int.toNat_natCast, decide_eq_true_eq, Int.ofNat_lt, Int.ofNat_le, if_true, if_false, Int.natCast_nonneg, decide_true, decide_false, Bool.not_true, Bool.not_false, Bool.false_eq_true, Bool.not_eq_true, Bool.true_and, Bool.and_true, Bool.false_and, Bool.and_false]
theorem a6.is {k : Nat} {p : List Int} (hk : 4194304 + 1 ≤ k) (hp : p.length ≤ 1048576) : a6 k p = some (Pu.cj p) := by
  obtain ⟨k, rfl⟩ : ∃ k', k = k' + 1 := ⟨k - 1, by omega⟩
  rw [a6.eq]
  exact a6.loop (k := k) (by omega) hp p.length k 0 0 9 (by omega) (by omega) (fun _ => rfl) (by omega) (by omega) (by omega) (by omega)
theorem da.is {k : Nat} {p : List Int} {i : Int} (hk : 1 ≤ k) : da k p i = some (Pu.atI p i) := by
  obtain ⟨k, rfl⟩ : ∃ k', k = k' + 1 := ⟨k - 1, by omega⟩
  rw [da.eq, da.fB]
  by_cases h1 : i < 0
  · simp only [↓an, bm, bn, aG, aP, aM, aB, az, aE, bk, aK, aO, ar, au, aN, al, aF, aL, bo, bp, aQ, aR, ab, Pu.w64, Int.toNat_natCast, decide_eq_true_eq, Int.ofNat_lt, Int.ofNat_le, if_true, if_false, Int.natCast_nonneg, decide_true, decide_false, Bool.not_true, Bool.not_false, Bool.false_eq_true, Bool.not_eq_true, Bool.true_and, Bool.and_true, Bool.false_and, Bool.and_false, h1, Pu.lP h1]
  · by_cases h2 : (p.length : Int) ≤ i
    · simp only [↓an, bm, bn, aG, aP, aM, aB, az, aE, bk, aK, aO, ar, au, aN, al, aF, aL, bo, bp, aQ, aR, ab, Pu.w64, Int.toNat_natCast, decide_eq_true_eq, Int.ofNat_lt, Int.ofNat_le, if_true, if_false, Int.natCast_nonneg, decide_true, decide_false, Bool.not_true, Bool.not_false, Bool.false_eq_true, Bool.not_eq_true, Bool.true_and, Bool.and_true, Bool.false_and, Bool.and_false, h1, h2, Pu.xf h2]
    · have h3 : 0 ≤ i := by omega
      have h4 : i.toNat < p.length := by omega
      simp only [↓an, bm, bn, aG, aP, aM, aB, az, aE, bk, aK, aO, ar, au, aN, al, aF, aL, bo, bp, aQ, aR, ab, Pu.w64, Int.toNat_natCast, decide_eq_true_eq, Int.ofNat_lt, Int.ofNat_le, if_true, if_false, Int.natCast_nonneg, decide_true, decide_false, Bool.not_true, Bool.not_false, Bool.false_eq_true, Bool.not_eq_true, Bool.true_and, Bool.and_true, Bool.false_and, Bool.and_false, h1, h2, h3, h4, Pu.atI]
theorem bV.loop {k : Nat} {q p : List Int} (hq : q.length ≤ 1048576) (hl : q.length ≤ p.length) (hk : q.length < k) : bV.L1 k k 0 q p = some ((List.range' 0 q.length).all fun i => decide (q.getD i 0 ≤ p.getD i 0)) := by
  have h := Pu.jF (fun j i => bV.L1 k j (i : Int) q p) q.length (fun i => decide (q.getD i 0 ≤ p.getD i 0)) (some false) (some true)
    (fun j i hi => by
      have hi2 : i < p.length := by omega
      rw [bV.dR]
      simp (disch := omega) only [↓an, bm, bn, aG, aP, aM, aB, az, aE, bk, aK, aO, ar, au, aN, al, aF, aL, bo, bp, aQ, aR, ab, Pu.w64, Int.toNat_natCast, decide_eq_true_eq, Int.ofNat_lt, Int.ofNat_le, if_true, if_false, Int.natCast_nonneg, decide_true, decide_false, Bool.not_true, Bool.not_false, Bool.false_eq_true, Bool.not_eq_true, Bool.true_and, Bool.and_true, Bool.false_and, Bool.and_false, hi, hi2, Int.natCast_add, Int.natCast_one]
      by_cases c : q.getD i 0 ≤ p.getD i 0
      · have c' : ¬ p.getD i 0 < q.getD i 0 := by omega
        simp only [c, c', ↓an, bm, bn, aG, aP, aM, aB, az, aE, bk, aK, aO, ar, au, aN, al, aF, aL, bo, bp, aQ, aR, ab, Pu.w64, Int.toNat_natCast, decide_eq_true_eq, Int.ofNat_lt, Int.ofNat_le, if_true, if_false, Int.natCast_nonneg, decide_true, decide_false, Bool.not_true, Bool.not_false, Bool.false_eq_true, Bool.not_eq_true, Bool.true_and, Bool.and_true, Bool.false_and, Bool.and_false]
      · have c' : p.getD i 0 < q.getD i 0 := by omega
        simp only [c, c', ↓an, bm, bn, aG, aP, aM, aB, az, aE, bk, aK, aO, ar, au, aN, al, aF, aL, bo, bp, aQ, aR, ab, Pu.w64, Int.toNat_natCast, decide_eq_true_eq, Int.ofNat_lt, Int.ofNat_le, if_true, if_false, Int.natCast_nonneg, decide_true, decide_false, Bool.not_true, Bool.not_false, Bool.false_eq_true, Bool.not_eq_true, Bool.true_and, Bool.and_true, Bool.false_and, Bool.and_false])
    (fun j => by
      rw [bV.dR]
      simp only [↓an, bm, bn, aG, aP, aM, aB, az, aE, bk, aK, aO, ar, au, aN, al, aF, aL, bo, bp, aQ, aR, ab, Pu.w64, Int.toNat_natCast, decide_eq_true_eq, Int.ofNat_lt, Int.ofNat_le, if_true, if_false, Int.natCast_nonneg, decide_true, decide_false, Bool.not_true, Bool.not_false, Bool.false_eq_true, Bool.not_eq_true, Bool.true_and, Bool.and_true, Bool.false_and, Bool.and_false, Nat.lt_irrefl]) q.length k 0 (by omega) hk
  simp only [Int.natCast_zero] at h
  rw [h]
  cases (List.range' 0 q.length).all fun i => decide (q.getD i 0 ≤ p.getD i 0) <;> simp
theorem bV.is {k : Nat} {q p : List Int} (hk : 4194304 + 2 ≤ k) (hq : q.length ≤ 1048576) (hp : p.length ≤ 1048576) : bV k q p = some (Pu.dp q p) := by
  obtain ⟨k, rfl⟩ : ∃ k', k = k' + 1 := ⟨k - 1, by omega⟩
  rw [bV.eq, a6.is (by omega) hq, ab, bV.fB]
  unfold Pu.dp
  cases c1 : Pu.cj q with
  | false => simp only [↓an, bm, bn, aG, aP, aM, aB, az, aE, bk, aK, aO, ar, au, aN, al, aF, aL, bo, bp, aQ, aR, ab, Pu.w64, Int.toNat_natCast, decide_eq_true_eq, Int.ofNat_lt, Int.ofNat_le, if_true, if_false, Int.natCast_nonneg, decide_true, decide_false, Bool.not_true, Bool.not_false, Bool.false_eq_true, Bool.not_eq_true, Bool.true_and, Bool.and_true, Bool.false_and, Bool.and_false]
  | true =>
    simp only [↓an, bm, bn, aG, aP, aM, aB, az, aE, bk, aK, aO, ar, au, aN, al, aF, aL, bo, bp, aQ, aR, ab, Pu.w64, Int.toNat_natCast, decide_eq_true_eq, Int.ofNat_lt, Int.ofNat_le, if_true, if_false, Int.natCast_nonneg, decide_true, decide_false, Bool.not_true, Bool.not_false, Bool.false_eq_true, Bool.not_eq_true, Bool.true_and, Bool.and_true, Bool.false_and, Bool.and_false]
    rw [a6.is (by omega) hp, ab]
    cases c2 : Pu.cj p with
    | false => simp only [↓an, bm, bn, aG, aP, aM, aB, az, aE, bk, aK, aO, ar, au, aN, al, aF, aL, bo, bp, aQ, aR, ab, Pu.w64, Int.toNat_natCast, decide_eq_true_eq, Int.ofNat_lt, Int.ofNat_le, if_true, if_false, Int.natCast_nonneg, decide_true, decide_false, Bool.not_true, Bool.not_false, Bool.false_eq_true, Bool.not_eq_true, Bool.true_and, Bool.and_true, Bool.false_and, Bool.and_false]
    | true =>
      simp only [↓an, bm, bn, aG, aP, aM, aB, az, aE, bk, aK, aO, ar, au, aN, al, aF, aL, bo, bp, aQ, aR, ab, Pu.w64, Int.toNat_natCast, decide_eq_true_eq, Int.ofNat_lt, Int.ofNat_le, if_true, if_false, Int.natCast_nonneg, decide_true, decide_false, Bool.not_true, Bool.not_false, Bool.false_eq_true, Bool.not_eq_true, Bool.true_and, Bool.and_true, Bool.false_and, Bool.and_false]
      by_cases c3 : p.length < q.length
      · have c3' : ¬ q.length ≤ p.length := by omega
        simp only [c3, c3', ↓an, bm, bn, aG, aP, aM, aB, az, aE, bk, aK, aO, ar, au, aN, al, aF, aL, bo, bp, aQ, aR, ab, Pu.w64, Int.toNat_natCast, decide_eq_true_eq, Int.ofNat_lt, Int.ofNat_le, if_true, if_false, Int.natCast_nonneg, decide_true, decide_false, Bool.not_true, Bool.not_false, Bool.false_eq_true, Bool.not_eq_true, Bool.true_and, Bool.and_true, Bool.false_and, Bool.and_false]
      · have c3' : q.length ≤ p.length := by omega
        simp only [c3, c3', ↓an, bm, bn, aG, aP, aM, aB, az, aE, bk, aK, aO, ar, au, aN, al, aF, aL, bo, bp, aQ, aR, ab, Pu.w64, Int.toNat_natCast, decide_eq_true_eq, Int.ofNat_lt, Int.ofNat_le, if_true, if_false, Int.natCast_nonneg, decide_true, decide_false, Bool.not_true, Bool.not_false, Bool.false_eq_true, Bool.not_eq_true, Bool.true_and, Bool.and_true, Bool.false_and, Bool.and_false]
        exact bV.loop hq c3' (by omega)
theorem fI.is {k : Nat} {s : List Int × List Int} (hk : 4194304 + 3 ≤ k) (hq : s.1.length ≤ 1048576) (hp : s.2.length ≤ 1048576) : fI k s = some (Pu.dp s.2 s.1) := by
  obtain ⟨k, rfl⟩ : ∃ k', k = k' + 1 := ⟨k - 1, by omega⟩
  rw [fI.eq, bV.is (by omega) hp hq]
  rfl
theorem bY.loop {k : Nat} {t : Pu.Tab} {x3 x4 : List Int} (hk : 4194304 + 3 ≤ k) (hi : Pu.cj t.1 = true) (h2 : t.2.length ≤ 9) (hr : ∀ x ∈ t.2, x.length ≤ 1048576) : ∀ (m j i : Nat) (acc : List Int), i + m = t.2.length → m < j → acc.length = i →
    bY.L1 k j i t.1 t.2 x3 x4 acc t.1 = some (if Pu.dp t.1 (acc ++ Pu.dZ t.1 i (t.2.drop i)) = true then ((acc ++ Pu.dZ t.1 i (t.2.drop i), t.1), true) else (([], []), false))
  | m, 0, i, acc, _, hj, _ => by omega
  | 0, j + 1, i, acc, hm, _, hacc => by
    rw [bY.dR]
    have e : i = t.2.length := by omega
    have h9 := (Pu.b6 hi).2.2.1
    have hlt : ¬ i < t.2.length := by omega
    rw [fI.is (by omega) (by simp only; omega) (by simp only; omega), e]
    simp only [↓an, bm, bn, aG, aP, aM, aB, az, aE, bk, aK, aO, ar, au, aN, al, aF, aL, bo, bp, aQ, aR, ab, Pu.w64, Int.toNat_natCast, decide_eq_true_eq, Int.ofNat_lt, Int.ofNat_le, if_true, if_false, Int.natCast_nonneg, decide_true, decide_false, Bool.not_true, Bool.not_false, Bool.false_eq_true, Bool.not_eq_true, Bool.true_and, Bool.and_true, Bool.false_and, Bool.and_false, Nat.lt_irrefl, List.drop_length, Pu.dZ, List.append_nil]
    cases Pu.dp t.1 acc <;> simp
  | m + 1, j + 1, i, acc, hm, hj, hacc => by
    rw [bY.dR]
    have hlt : i < t.2.length := by omega
    have hb := Pu.cS hi i
    have hrow := hr t.2[i] (List.getElem_mem hlt)
    rw [← Pu.ay hlt []] at hrow
    rw [da.is (by omega)]
    have ih := bY.loop (x3 := x3) (x4 := x4) hk hi h2 hr m j (i + 1) (acc ++ [Pu.atI t.1 i + (t.2.getD i []).length]) (by omega) (by omega) (by simp [hacc])
    rw [Int.natCast_succ] at ih
    rw [Pu.drop_cons hlt []]
    have hl : (acc ++ [Pu.atI t.1 i + ((t.2.getD i []).length : Int)]).length ≤ 1099511627776 := by simp; omega
    simp (disch := omega) only [↓an, bm, bn, aG, aP, aM, aB, az, aE, bk, aK, aO, ar, au, aN, al, aF, aL, bo, bp, aQ, aR, ab, Pu.w64, Int.toNat_natCast, decide_eq_true_eq, Int.ofNat_lt, Int.ofNat_le, if_true, if_false, Int.natCast_nonneg, decide_true, decide_false, Bool.not_true, Bool.not_false, Bool.false_eq_true, Bool.not_eq_true, Bool.true_and, Bool.and_true, Bool.false_and, Bool.and_false, hlt, hl, ih, Pu.dZ]
    simp only [List.append_assoc, List.singleton_append, Pu.ch]
    rfl
theorem bY.is {k : Nat} {t : Pu.Tab} (hk : 4194304 + 4 ≤ k) (h1 : t.1.length ≤ 1048576) (h2 : t.2.length ≤ 1048576) (hr : ∀ x ∈ t.2, x.length ≤ 1048576) : bY k t = some (Pu.shapeOf t) := by
  obtain ⟨k, rfl⟩ : ∃ k', k = k' + 1 := ⟨k - 1, by omega⟩
  rw [bY.eq, a6.is (by omega) h1, bY.fB]
  have hl : t.1.length ≤ 1099511627776 := by omega
  simp only [↓an, bm, bn, aG, aP, aM, aB, az, aE, bk, aK, aO, ar, au, aN, al, aF, aL, bo, bp, aQ, aR, ab, Pu.w64, Int.toNat_natCast, decide_eq_true_eq, Int.ofNat_lt, Int.ofNat_le, if_true, if_false, Int.natCast_nonneg, decide_true, decide_false, Bool.not_true, Bool.not_false, Bool.false_eq_true, Bool.not_eq_true, Bool.true_and, Bool.and_true, Bool.false_and, Bool.and_false, List.nil_append, hl]
  unfold Pu.shapeOf
  cases c1 : Pu.cj t.1 with
  | false =>
    have : Pu.cU t = false := by unfold Pu.cU; rw [c1]; rfl
    simp only [this, ↓an, bm, bn, aG, aP, aM, aB, az, aE, bk, aK, aO, ar, au, aN, al, aF, aL, bo, bp, aQ, aR, ab, Pu.w64, Int.toNat_natCast, decide_eq_true_eq, Int.ofNat_lt, Int.ofNat_le, if_true, if_false, Int.natCast_nonneg, decide_true, decide_false, Bool.not_true, Bool.not_false, Bool.false_eq_true, Bool.not_eq_true, Bool.true_and, Bool.and_true, Bool.false_and, Bool.and_false]
  | true =>
    by_cases c2 : t.2.length < t.1.length
    · have : Pu.cU t = false := by
        have : ¬ t.1.length ≤ t.2.length := by omega
        unfold Pu.cU; simp [this]
      simp only [this, c2, ↓an, bm, bn, aG, aP, aM, aB, az, aE, bk, aK, aO, ar, au, aN, al, aF, aL, bo, bp, aQ, aR, ab, Pu.w64, Int.toNat_natCast, decide_eq_true_eq, Int.ofNat_lt, Int.ofNat_le, if_true, if_false, Int.natCast_nonneg, decide_true, decide_false, Bool.not_true, Bool.not_false, Bool.false_eq_true, Bool.not_eq_true, Bool.true_and, Bool.and_true, Bool.false_and, Bool.and_false]
    · by_cases c3 : 9 < t.2.length
      · have : Pu.cU t = false := by
          cases h : Pu.cU t with
          | false => rfl
          | true => have := Pu.vh h; omega
        have c3' : (9 : Int) < t.2.length := by omega
        simp only [this, c2, c3', ↓an, bm, bn, aG, aP, aM, aB, az, aE, bk, aK, aO, ar, au, aN, al, aF, aL, bo, bp, aQ, aR, ab, Pu.w64, Int.toNat_natCast, decide_eq_true_eq, Int.ofNat_lt, Int.ofNat_le, if_true, if_false, Int.natCast_nonneg, decide_true, decide_false, Bool.not_true, Bool.not_false, Bool.false_eq_true, Bool.not_eq_true, Bool.true_and, Bool.and_true, Bool.false_and, Bool.and_false]
      · have c3' : ¬ (9 : Int) < t.2.length := by omega
        have c2' : t.1.length ≤ t.2.length := by omega
        have hloop := bY.loop (k := k) (t := t) (x3 := []) (x4 := []) (by omega) c1 (by omega) hr t.2.length k 0 [] (by omega) (by omega) rfl
        rw [Int.natCast_zero] at hloop
        simp only [c2, c3', ↓an, bm, bn, aG, aP, aM, aB, az, aE, bk, aK, aO, ar, au, aN, al, aF, aL, bo, bp, aQ, aR, ab, Pu.w64, Int.toNat_natCast, decide_eq_true_eq, Int.ofNat_lt, Int.ofNat_le, if_true, if_false, Int.natCast_nonneg, decide_true, decide_false, Bool.not_true, Bool.not_false, Bool.false_eq_true, Bool.not_eq_true, Bool.true_and, Bool.and_true, Bool.false_and, Bool.and_false]
        rw [hloop]
        have : Pu.cU t = Pu.dp t.1 (Pu.outer t) := by unfold Pu.cU; simp [c1, c2']
        rw [this]
        rfl
theorem b8.is {k : Nat} {t : Pu.Tab} {r c : Int} (hk : 2 ≤ k) (hi : Pu.cj t.1 = true) (h1 : -1000000000 ≤ c) (h2 : c ≤ 1000000000) : b8 k t r c = some (Pu.entry t r c) := by
  obtain ⟨k, rfl⟩ : ∃ k', k = k' + 1 := ⟨k - 1, by omega⟩
  have hb := Pu.cS hi r
  rw [b8.eq, b8.fB, da.is (by omega)]
  unfold Pu.entry
  by_cases c1 : r < 0
  · simp only [↓an, bm, bn, aG, aP, aM, aB, az, aE, bk, aK, aO, ar, au, aN, al, aF, aL, bo, bp, aQ, aR, ab, Pu.w64, Int.toNat_natCast, decide_eq_true_eq, Int.ofNat_lt, Int.ofNat_le, if_true, if_false, Int.natCast_nonneg, decide_true, decide_false, Bool.not_true, Bool.not_false, Bool.false_eq_true, Bool.not_eq_true, Bool.true_and, Bool.and_true, Bool.false_and, Bool.and_false, c1]
  · by_cases c2 : (t.2.length : Int) ≤ r
    · simp only [↓an, bm, bn, aG, aP, aM, aB, az, aE, bk, aK, aO, ar, au, aN, al, aF, aL, bo, bp, aQ, aR, ab, Pu.w64, Int.toNat_natCast, decide_eq_true_eq, Int.ofNat_lt, Int.ofNat_le, if_true, if_false, Int.natCast_nonneg, decide_true, decide_false, Bool.not_true, Bool.not_false, Bool.false_eq_true, Bool.not_eq_true, Bool.true_and, Bool.and_true, Bool.false_and, Bool.and_false, c1, c2]
    · have c3 : 0 ≤ r := by omega
      have c4 : r.toNat < t.2.length := by omega
      simp (disch := omega) only [↓an, bm, bn, aG, aP, aM, aB, az, aE, bk, aK, aO, ar, au, aN, al, aF, aL, bo, bp, aQ, aR, ab, Pu.w64, Int.toNat_natCast, decide_eq_true_eq, Int.ofNat_lt, Int.ofNat_le, if_true, if_false, Int.natCast_nonneg, decide_true, decide_false, Bool.not_true, Bool.not_false, Bool.false_eq_true, Bool.not_eq_true, Bool.true_and, Bool.and_true, Bool.false_and, Bool.and_false, c1, c2, c3, c4]
      by_cases d1 : c - Pu.atI t.1 r < 0
      · simp only [↓an, bm, bn, aG, aP, aM, aB, az, aE, bk, aK, aO, ar, au, aN, al, aF, aL, bo, bp, aQ, aR, ab, Pu.w64, Int.toNat_natCast, decide_eq_true_eq, Int.ofNat_lt, Int.ofNat_le, if_true, if_false, Int.natCast_nonneg, decide_true, decide_false, Bool.not_true, Bool.not_false, Bool.false_eq_true, Bool.not_eq_true, Bool.true_and, Bool.and_true, Bool.false_and, Bool.and_false, d1, Pu.lP d1]
      · by_cases d2 : ((t.2.getD r.toNat []).length : Int) ≤ c - Pu.atI t.1 r
        · simp only [↓an, bm, bn, aG, aP, aM, aB, az, aE, bk, aK, aO, ar, au, aN, al, aF, aL, bo, bp, aQ, aR, ab, Pu.w64, Int.toNat_natCast, decide_eq_true_eq, Int.ofNat_lt, Int.ofNat_le, if_true, if_false, Int.natCast_nonneg, decide_true, decide_false, Bool.not_true, Bool.not_false, Bool.false_eq_true, Bool.not_eq_true, Bool.true_and, Bool.and_true, Bool.false_and, Bool.and_false, d1, d2, Pu.xf d2]
        · have d3 : 0 ≤ c - Pu.atI t.1 r := by omega
          have d4 : (c - Pu.atI t.1 r).toNat < (t.2.getD r.toNat []).length := by omega
          rw [b8.iw]
          generalize c - Pu.atI t.1 r = z at *
          simp only [↓an, bm, bn, aG, aP, aM, aB, az, aE, bk, aK, aO, ar, au, aN, al, aF, aL, bo, bp, aQ, aR, ab, Pu.w64, Int.toNat_natCast, decide_eq_true_eq, Int.ofNat_lt, Int.ofNat_le, if_true, if_false, Int.natCast_nonneg, decide_true, decide_false, Bool.not_true, Bool.not_false, Bool.false_eq_true, Bool.not_eq_true, Bool.true_and, Bool.and_true, Bool.false_and, Bool.and_false, c3, c4, d1, d2, d3, d4, Pu.atI]
theorem aJ.Bf {k k1 k2 : Nat} {t : Pu.Tab} {r : Nat} {c x v : Int} {o n : List Int} (hk : 3 ≤ k) (hi : Pu.cj t.1 = true) (h1 : 0 ≤ c) (h2 : c ≤ 10000000) (hr : r ≤ 1048576) :
    aJ.J2 k k1 k2 r c x v t.1 t.2 o n = if (Pu.within x 1 9 && (decide (v ≤ x) && decide (Pu.entry t ((r : Int) - 1) c < x))) = true then aJ.L1 k k1 k2 r (c + 1) t.1 t.2 o n else some false := by
  have he := b8.is (k := k) (t := t) (r := (r : Int) - 1) (c := c) (by omega) hi (by omega) (by omega)
  rw [aJ.oz, gE.is (by omega), aJ.mX]
  simp (disch := omega) only [↓an, bm, bn, aG, aP, aM, aB, az, aE, bk, aK, aO, ar, au, aN, al, aF, aL, bo, bp, aQ, aR, ab, Pu.w64, Int.toNat_natCast, decide_eq_true_eq, Int.ofNat_lt, Int.ofNat_le, if_true, if_false, Int.natCast_nonneg, decide_true, decide_false, Bool.not_true, Bool.not_false, Bool.false_eq_true, Bool.not_eq_true, Bool.true_and, Bool.and_true, Bool.false_and, Bool.and_false, he]
  cases Pu.within x 1 9 with
  | false => simp
  | true =>
    by_cases c1 : v ≤ x
    · have c1' : ¬ x < v := by omega
      by_cases c2 : Pu.entry t ((r : Int) - 1) c < x
      · have c2' : ¬ x ≤ Pu.entry t ((r : Int) - 1) c := by omega
        simp [c1, c1', c2, c2']
      · have c2' : x ≤ Pu.entry t ((r : Int) - 1) c := by omega
        simp [c1, c1', c2, c2']
    · have c1' : x < v := by omega
      simp [c1, c1']
theorem aJ.inner {k k1 : Nat} {t : Pu.Tab} {r : Nat} {n : List Int} (hk : 4194304 ≤ k) (hi : Pu.cj t.1 = true) (ht : t.2.length ≤ 1048576) (hr : ∀ x ∈ t.2, x.length ≤ 1048576) (hlt : r < t.2.length) :
    aJ.L1 k k1 k r (t.1.getD r 0) t.1 t.2 (Pu.outer t) n = if ((List.range' 0 (t.2.getD r []).length).all fun q => Pu.eA t r q) = true then aJ.L0 k k1 ((r : Int) + 1) t.1 t.2 (Pu.outer t) n else some false := by
  have hx := hr _ (List.getElem_mem hlt)
  rw [← Pu.ay hlt []] at hx
  have hb := Pu.cS hi r
  rw [Pu.ch] at hb
  have hol : r < (Pu.outer t).length := by unfold Pu.outer; rw [Pu.jy]; exact hlt
  have ho : (Pu.outer t).getD r 0 = t.1.getD r 0 + ((t.2.getD r []).length : Int) := by
    have := Pu.fb t.1 t.2 0 r hlt
    rw [Nat.zero_add] at this
    exact this
  have h := Pu.jF (fun j q => aJ.L1 k k1 j r (t.1.getD r 0 + (q : Int)) t.1 t.2 (Pu.outer t) n) (t.2.getD r []).length (fun q => Pu.eA t r q) (some false) (aJ.L0 k k1 ((r : Int) + 1) t.1 t.2 (Pu.outer t) n)
    (fun j q hq => by
      rw [aJ.dR]
      have hc : t.1.getD r 0 + (q : Int) < (Pu.outer t).getD r 0 := by rw [ho]; omega
      have e1 := b8.is (k := k) (t := t) (r := r) (c := t.1.getD r 0 + q) (by omega) hi (by omega) (by omega)
      have e2 := b8.is (k := k) (t := t) (r := r) (c := t.1.getD r 0 + q - 1) (by omega) hi (by omega) (by omega)
      rw [Pu.vk hlt] at e1
      rw [Pu.xd hlt] at e2
      have ej := fun v => aJ.Bf (k := k) (k1 := k1) (k2 := j) (t := t) (r := r) (c := t.1.getD r 0 + q) (x := (t.2.getD r []).getD q 0) (v := v) (o := Pu.outer t) (n := n) (by omega) hi (by omega) (by omega) (by omega)
      have en : t.1.getD r 0 + (q : Int) + 1 = t.1.getD r 0 + ((q + 1 : Nat) : Int) := by omega
      rw [en] at ej
      have key : ∀ v : Int, v = (if q = 0 then 0 else (t.2.getD r []).getD (q - 1) 0) → (Pu.within ((t.2.getD r []).getD q 0) 1 9 && (decide (v ≤ (t.2.getD r []).getD q 0) && decide (Pu.entry t ((r : Int) - 1) (t.1.getD r 0 + q) < (t.2.getD r []).getD q 0))) = Pu.eA t r q := by
        intro v hv
        unfold Pu.eA
        cases hw : Pu.within ((t.2.getD r []).getD q 0) 1 9 with
        | false => rfl
        | true =>
          have hw1 : 1 ≤ (t.2.getD r []).getD q 0 := by
            simp only [Pu.within, Bool.and_eq_true, decide_eq_true_eq] at hw; exact hw.1
          simp only [Bool.true_and]
          congr 1
          · by_cases e : q = 0
            · have : v ≤ (t.2.getD r []).getD q 0 := by rw [hv, if_pos e]; omega
              simp [e, this]
              simpa [e] using this
            · rw [hv, if_neg e]; simp [e]
          · by_cases e : r = 0
            · subst e
              rw [Pu.yz (by omega), decide_eq_true (show (0 : Int) < (t.2.getD 0 []).getD q 0 by omega)]
              simp only [decide_true, Bool.true_or]
            · simp [e]
      by_cases hc0 : 0 < t.1.getD r 0 + (q : Int)
      · simp (disch := omega) only [↓an, bm, bn, aG, aP, aM, aB, az, aE, bk, aK, aO, ar, au, aN, al, aF, aL, bo, bp, aQ, aR, ab, Pu.w64, Int.toNat_natCast, decide_eq_true_eq, Int.ofNat_lt, Int.ofNat_le, if_true, if_false, Int.natCast_nonneg, decide_true, decide_false, Bool.not_true, Bool.not_false, Bool.false_eq_true, Bool.not_eq_true, Bool.true_and, Bool.and_true, Bool.false_and, Bool.and_false, hol, hc, e1, hc0, e2, ej]
        rw [key _ rfl]
      · simp (disch := omega) only [↓an, bm, bn, aG, aP, aM, aB, az, aE, bk, aK, aO, ar, au, aN, al, aF, aL, bo, bp, aQ, aR, ab, Pu.w64, Int.toNat_natCast, decide_eq_true_eq, Int.ofNat_lt, Int.ofNat_le, if_true, if_false, Int.natCast_nonneg, decide_true, decide_false, Bool.not_true, Bool.not_false, Bool.false_eq_true, Bool.not_eq_true, Bool.true_and, Bool.and_true, Bool.false_and, Bool.and_false, hol, hc, e1, hc0, ej]
        rw [key 0 (by have : q = 0 := by omega
                      rw [if_pos this])])
    (fun j => by
      rw [aJ.dR]
      have hc : ¬ t.1.getD r 0 + ((t.2.getD r []).length : Int) < (Pu.outer t).getD r 0 := by rw [ho]; omega
      simp (disch := omega) only [↓an, bm, bn, aG, aP, aM, aB, az, aE, bk, aK, aO, ar, au, aN, al, aF, aL, bo, bp, aQ, aR, ab, Pu.w64, Int.toNat_natCast, decide_eq_true_eq, Int.ofNat_lt, Int.ofNat_le, if_true, if_false, Int.natCast_nonneg, decide_true, decide_false, Bool.not_true, Bool.not_false, Bool.false_eq_true, Bool.not_eq_true, Bool.true_and, Bool.and_true, Bool.false_and, Bool.and_false, hol, hc]) (t.2.getD r []).length k 0 (by omega) (by omega)
  simp only [Int.natCast_zero, Int.add_zero] at h
  exact h
theorem aJ.is {k : Nat} {t : Pu.Tab} (hk : 4194304 + 5 ≤ k) (h1 : t.1.length ≤ 1048576) (ht : t.2.length ≤ 1048576) (hr : ∀ x ∈ t.2, x.length ≤ 1048576) : aJ k t = some (Pu.dU t) := by
  obtain ⟨k, rfl⟩ : ∃ k', k = k' + 1 := ⟨k - 1, by omega⟩
  rw [aJ.eq, bY.is (by omega) h1 ht hr, ab]
  unfold Pu.dU Pu.shapeOf
  cases hs : Pu.cU t with
  | false => simp [hs]
  | true =>
    have hi : Pu.cj t.1 = true := by
      simp only [Pu.cU, Bool.and_eq_true] at hs; exact hs.1
    have hol : (Pu.outer t).length = t.2.length := by unfold Pu.outer; rw [Pu.jy]
    have h := Pu.jF (fun j r => aJ.L0 k j r t.1 t.2 (Pu.outer t) t.1) t.2.length (fun r => (List.range' 0 (t.2.getD r []).length).all fun q => Pu.eA t r q) (some false) (some true)
      (fun j r hlt => by
        rw [aJ.bu, da.is (by omega), Pu.ch]
        simp (disch := omega) only [↓an, bm, bn, aG, aP, aM, aB, az, aE, bk, aK, aO, ar, au, aN, al, aF, aL, bo, bp, aQ, aR, ab, Pu.w64, Int.toNat_natCast, decide_eq_true_eq, Int.ofNat_lt, Int.ofNat_le, if_true, if_false, Int.natCast_nonneg, decide_true, decide_false, Bool.not_true, Bool.not_false, Bool.false_eq_true, Bool.not_eq_true, Bool.true_and, Bool.and_true, Bool.false_and, Bool.and_false, hol, hlt, aJ.inner (k1 := j) (n := t.1) (show 4194304 ≤ k by omega) hi ht hr hlt, Int.natCast_add, Int.natCast_one])
      (fun j => by
        rw [aJ.bu]
        simp (disch := omega) only [↓an, bm, bn, aG, aP, aM, aB, az, aE, bk, aK, aO, ar, au, aN, al, aF, aL, bo, bp, aQ, aR, ab, Pu.w64, Int.toNat_natCast, decide_eq_true_eq, Int.ofNat_lt, Int.ofNat_le, if_true, if_false, Int.natCast_nonneg, decide_true, decide_false, Bool.not_true, Bool.not_false, Bool.false_eq_true, Bool.not_eq_true, Bool.true_and, Bool.and_true, Bool.false_and, Bool.and_false, hol, Nat.lt_irrefl]) t.2.length k 0 (by omega) (by omega)
    simp only [Int.natCast_zero] at h
    simp only [if_true, ↓an, bm, bn, aG, aP, aM, aB, az, aE, bk, aK, aO, ar, au, aN, al, aF, aL, bo, bp, aQ, aR, ab, Pu.w64, Int.toNat_natCast, decide_eq_true_eq, Int.ofNat_lt, Int.ofNat_le, if_true, if_false, Int.natCast_nonneg, decide_true, decide_false, Bool.not_true, Bool.not_false, Bool.false_eq_true, Bool.not_eq_true, Bool.true_and, Bool.and_true, Bool.false_and, Bool.and_false]
    rw [h]
    cases (List.range' 0 t.2.length).all fun r => (List.range' 0 (t.2.getD r []).length).all fun q => Pu.eA t r q <;> simp
theorem eC.is {k : Nat} {t : Pu.Tab} (hk : 4194304 + 6 ≤ k) (h1 : t.1.length ≤ 1048576) (ht : t.2.length ≤ 1048576) (hr : ∀ x ∈ t.2, x.length ≤ 1048576) : eC k t = some (Pu.bc t) := by
  obtain ⟨k, rfl⟩ : ∃ k', k = k' + 1 := ⟨k - 1, by omega⟩
  rw [eC.eq, aJ.is (by omega) h1 ht hr, ab]
  unfold Pu.bc
  cases Pu.dU t <;> simp
theorem bZ.loop {k : Nat} {t : Pu.Tab} {x2 : List Int} (ht : t.2.length ≤ 1048576) (hf : t.2.flatten.length ≤ 1099511627776) : ∀ (m j i : Nat), i + m = t.2.length → m < j →
    bZ.L0 k j i (t.2.take i).flatten x2 t.2 = some t.2.flatten
  | m, 0, i, _, hj => by omega
  | 0, j + 1, i, hm, _ => by
    rw [bZ.bu]
    have e : i = t.2.length := by omega
    subst e
    simp
  | m + 1, j + 1, i, hm, hj => by
    rw [bZ.bu]
    have hlt : i < t.2.length := by omega
    have ih := bZ.loop (k := k) (x2 := x2) ht hf m j (i + 1) (by omega) (by omega)
    rw [Int.natCast_succ, Pu.take_succ hlt []] at ih
    have hl : ((t.2.take i).flatten ++ t.2.getD i []).length ≤ 1099511627776 := by
      refine Nat.le_trans ?_ hf
      have e : t.2.flatten = (t.2.take i).flatten ++ (t.2.drop i).flatten := by rw [← List.flatten_append, List.take_append_drop]
      rw [e, Pu.drop_cons hlt []]
      simp only [List.flatten_cons, List.length_append]
      omega
    simp only [List.flatten_append, List.flatten_cons, List.flatten_nil, List.append_nil] at ih
    simp (disch := omega) only [↓an, bm, bn, aG, aP, aM, aB, az, aE, bk, aK, aO, ar, au, aN, al, aF, aL, bo, bp, aQ, aR, ab, Pu.w64, Int.toNat_natCast, decide_eq_true_eq, Int.ofNat_lt, Int.ofNat_le, if_true, if_false, Int.natCast_nonneg, decide_true, decide_false, Bool.not_true, Bool.not_false, Bool.false_eq_true, Bool.not_eq_true, Bool.true_and, Bool.and_true, Bool.false_and, Bool.and_false, hlt, hl, ih]
theorem bZ.is {k : Nat} {t : Pu.Tab} (hk : 4194304 + 1 ≤ k) (ht : t.2.length ≤ 1048576) (hf : t.2.flatten.length ≤ 1099511627776) : bZ k t = some t.2.flatten := by
  obtain ⟨k, rfl⟩ : ∃ k', k = k' + 1 := ⟨k - 1, by omega⟩
  rw [bZ.eq]
  exact bZ.loop (k := k) ht hf t.2.length k 0 (by omega) (by omega)
theorem br.loop {k : Nat} {l : List Int} (h1 : ∀ x ∈ l, 1 ≤ x ∧ x ≤ 9) (hl : l.length ≤ 9) : ∀ (m j i : Nat) (seen : List Bool), i + m = l.length → m < j → seen.length = 10 → (∀ v : Nat, v < 10 → seen.getD v false = Pu.has (l.take i) v) →
    br.L0 k j i l seen = some (Pu.jK l.length (l.take i) (l.drop i))
  | m, 0, i, seen, _, hj, _, _ => by omega
  | 0, j + 1, i, seen, hm, _, _, _ => by
    rw [br.bu]
    have e : i = l.length := by omega
    subst e
    simp [Pu.jK]
  | m + 1, j + 1, i, seen, hm, hj, hs, hv => by
    rw [br.bu]
    have hlt : i < l.length := by omega
    have hx := h1 _ (List.getElem_mem hlt)
    rw [← Pu.ay hlt 0] at hx
    rw [Pu.drop_cons hlt 0]
    simp only [Pu.jK]
    have hx10 : (l.getD i 0).toNat < seen.length := by omega
    have hx0 : (0 : Int) ≤ l.getD i 0 := by omega
    have hvx := hv (l.getD i 0).toNat (by omega)
    have ex : (((l.getD i 0).toNat : Nat) : Int) = l.getD i 0 := by omega
    rw [ex] at hvx
    by_cases c : l.getD i 0 ≤ l.length
    · have c' : ¬ (l.length : Int) < l.getD i 0 := by omega
      cases hh : Pu.has (l.take i) (l.getD i 0) with
      | true =>
        rw [hh] at hvx
        simp (disch := omega) only [↓an, bm, bn, aG, aP, aM, aB, az, aE, bk, aK, aO, ar, au, aN, al, aF, aL, bo, bp, aQ, aR, ab, Pu.w64, Int.toNat_natCast, decide_eq_true_eq, Int.ofNat_lt, Int.ofNat_le, if_true, if_false, Int.natCast_nonneg, decide_true, decide_false, Bool.not_true, Bool.not_false, Bool.false_eq_true, Bool.not_eq_true, Bool.true_and, Bool.and_true, Bool.false_and, Bool.and_false, hlt, c, c', hx0, hx10, hvx]
      | false =>
        rw [hh] at hvx
        have ih := br.loop (k := k) h1 hl m j (i + 1) (seen.set (l.getD i 0).toNat true) (by omega) (by omega) (by simpa using hs) (fun v hv10 => by
          rw [Pu.take_succ hlt 0]
          by_cases e : v = (l.getD i 0).toNat
          · subst e
            have : Pu.has (l.take i ++ [l.getD i 0]) (((l.getD i 0).toNat : Nat) : Int) = true := by rw [Pu.oI, ex]; exact List.mem_append.2 (.inr (List.mem_singleton.2 rfl))
            rw [this, Pu.ay (by rw [List.length_set]; omega), List.getElem_set_self]
          · have e1 : (seen.set (l.getD i 0).toNat true).getD v false = seen.getD v false := by
              rw [Pu.ay (by rw [List.length_set]; omega), List.getElem_set_ne (by omega)]
              exact (Pu.ay (by omega) false).symm
            rw [e1, hv v hv10]
            have hne : ¬ (v : Int) = l.getD i 0 := by omega
            unfold Pu.has
            rw [List.any_append]
            simp only [List.any_cons, List.any_nil, hne, decide_false, Bool.or_false])
        rw [Int.natCast_succ, Pu.take_succ hlt 0] at ih
        simp (disch := omega) only [↓an, bm, bn, aG, aP, aM, aB, az, aE, bk, aK, aO, ar, au, aN, al, aF, aL, bo, bp, aQ, aR, ab, Pu.w64, Int.toNat_natCast, decide_eq_true_eq, Int.ofNat_lt, Int.ofNat_le, if_true, if_false, Int.natCast_nonneg, decide_true, decide_false, Bool.not_true, Bool.not_false, Bool.false_eq_true, Bool.not_eq_true, Bool.true_and, Bool.and_true, Bool.false_and, Bool.and_false, hlt, c, c', hx0, hx10, hvx, br.iw, ih]
    · have c' : (l.length : Int) < l.getD i 0 := by omega
      simp (disch := omega) only [↓an, bm, bn, aG, aP, aM, aB, az, aE, bk, aK, aO, ar, au, aN, al, aF, aL, bo, bp, aQ, aR, ab, Pu.w64, Int.toNat_natCast, decide_eq_true_eq, Int.ofNat_lt, Int.ofNat_le, if_true, if_false, Int.natCast_nonneg, decide_true, decide_false, Bool.not_true, Bool.not_false, Bool.false_eq_true, Bool.not_eq_true, Bool.true_and, Bool.and_true, Bool.false_and, Bool.and_false, hlt, c, c']
theorem br.is {k : Nat} {t : Pu.Tab} (hk : 4194304 + 6 ≤ k) (h1 : t.1.length ≤ 1048576) (ht : t.2.length ≤ 1048576) (hr : ∀ x ∈ t.2, x.length ≤ 1048576) : br k t = some (Pu.dv t) := by
  obtain ⟨k, rfl⟩ : ∃ k', k = k' + 1 := ⟨k - 1, by omega⟩
  rw [br.eq, aJ.is (by omega) h1 ht hr, ab]
  unfold Pu.dv
  cases hi : Pu.dU t with
  | false => simp
  | true =>
    have h9 := Pu.vp hi
    have he := Pu.kA hi
    simp only [↓an, bm, bn, aG, aP, aM, aB, az, aE, bk, aK, aO, ar, au, aN, al, aF, aL, bo, bp, aQ, aR, ab, Pu.w64, Int.toNat_natCast, decide_eq_true_eq, Int.ofNat_lt, Int.ofNat_le, if_true, if_false, Int.natCast_nonneg, decide_true, decide_false, Bool.not_true, Bool.not_false, Bool.false_eq_true, Bool.not_eq_true, Bool.true_and, Bool.and_true, Bool.false_and, Bool.and_false]
    rw [bZ.is (by omega) ht (by omega), ab]
    have h := br.loop (k := k) (l := t.2.flatten) he h9 t.2.flatten.length k 0 (List.replicate 10 false) (by omega) (by omega) (by simp) (fun v hv => by
      rw [Pu.ay (by simpa using hv), List.getElem_replicate]; rfl)
    rw [Int.natCast_zero] at h
    rw [if_pos (by omega), if_pos (by omega), if_pos (by decide)]
    show br.L0 k k 0 t.2.flatten (List.replicate 10 false) = _
    rw [h, List.take_zero, List.drop_zero, Pu.wP fun x hx => (he x hx).1]
theorem cD.loop {k : Nat} {t : Pu.Tab} {x3 x4 : List Int} {x5 : List (List Int)} (ht : t.2.length ≤ 1048576) (hr : ∀ x ∈ t.2, x.length ≤ 1048576) : ∀ (m j i : Nat), i + m = t.2.length → m < j →
    cD.L0 k j i t.1 t.2 x3 x5 x4 (t.2.take i) = some (x4, t.2)
  | m, 0, i, _, hj => by omega
  | 0, j + 1, i, hm, _ => by
    rw [cD.bu]
    have e : i = t.2.length := by omega
    subst e
    simp
  | m + 1, j + 1, i, hm, hj => by
    rw [cD.bu]
    have hlt : i < t.2.length := by omega
    have hx := hr _ (List.getElem_mem hlt)
    rw [← Pu.ay hlt []] at hx
    have ih := cD.loop (k := k) (x3 := x3) (x4 := x4) (x5 := x5) ht hr m j (i + 1) (by omega) (by omega)
    rw [Int.natCast_succ, Pu.take_succ hlt []] at ih
    have hl : (t.2.take i ++ [t.2.getD i []]).length ≤ 1099511627776 := by simp; omega
    have hx' : (t.2.getD i []).length ≤ 1099511627776 := by omega
    simp (disch := omega) only [↓an, bm, bn, aG, aP, aM, aB, az, aE, bk, aK, aO, ar, au, aN, al, aF, aL, bo, bp, aQ, aR, ab, Pu.w64, Int.toNat_natCast, decide_eq_true_eq, Int.ofNat_lt, Int.ofNat_le, if_true, if_false, Int.natCast_nonneg, decide_true, decide_false, Bool.not_true, Bool.not_false, Bool.false_eq_true, Bool.not_eq_true, Bool.true_and, Bool.and_true, Bool.false_and, Bool.and_false, hlt, hl, hx', List.nil_append, ih]
theorem cD.is {k : Nat} {t : Pu.Tab} (hk : 4194304 + 1 ≤ k) (h1 : t.1.length ≤ 1048576) (ht : t.2.length ≤ 1048576) (hr : ∀ x ∈ t.2, x.length ≤ 1048576) : cD k t = some t := by
  obtain ⟨k, rfl⟩ : ∃ k', k = k' + 1 := ⟨k - 1, by omega⟩
  rw [cD.eq]
  have h := cD.loop (k := k) (t := t) (x3 := []) (x4 := t.1) (x5 := []) ht hr t.2.length k 0 (by omega) (by omega)
  rw [Int.natCast_zero, List.take_zero] at h
  have hl : t.1.length ≤ 1099511627776 := by omega
  simp only [↓an, bm, bn, aG, aP, aM, aB, az, aE, bk, aK, aO, ar, au, aN, al, aF, aL, bo, bp, aQ, aR, ab, Pu.w64, Int.toNat_natCast, decide_eq_true_eq, Int.ofNat_lt, Int.ofNat_le, if_true, if_false, Int.natCast_nonneg, decide_true, decide_false, Bool.not_true, Bool.not_false, Bool.false_eq_true, Bool.not_eq_true, Bool.true_and, Bool.and_true, Bool.false_and, Bool.and_false, List.nil_append, hl, h]
theorem cu.is {k : Nat} {p : List Int} {n : Nat} (hk : 4194304 + 3 ≤ k) (hp : Pu.cj p = true) (hn : n < p.length) (hc : p.getD (n + 1) 0 < p.getD n 0) : cu k p n = some (Pu.aT p n, true) := by
  obtain ⟨k, rfl⟩ : ∃ k', k = k' + 1 := ⟨k - 1, by omega⟩
  have h9 := (Pu.b6 hp).2.2.1
  have ha := da.is (k := k) (p := p) (i := (n : Int) + 1) (by omega)
  have e : (n : Int) + 1 = ((n + 1 : Nat) : Int) := by omega
  rw [e, Pu.ch] at ha
  have hb := Pu.cS hp n
  rw [Pu.ch] at hb
  have h1 : ¬ (n : Int) < 0 := by omega
  have h2 : ¬ (p.length : Int) ≤ n := by omega
  have h3 : ¬ p.getD n 0 = p.getD (n + 1) 0 := by omega
  have h4 : n ≤ p.length := by omega
  have h5 : p.length ≤ 1099511627776 := by omega
  have hset : (p.set n (p.getD n 0 - 1)).getD n 0 = p.getD n 0 - 1 := by
    rw [Pu.ay (by rw [List.length_set]; exact hn), List.getElem_set_self]
  have hpt := a6.is (k := k) (p := p) (by omega) (by omega)
  rw [cu.eq, hpt, ab, hp]
  unfold Pu.aT
  by_cases c : p.getD n 0 - 1 = 0
  · simp (disch := omega) only [↓an, bm, bn, aG, aP, aM, aB, az, aE, bk, aK, aO, ar, au, aN, al, aF, aL, bo, bp, aQ, aR, ab, Pu.w64, Int.toNat_natCast, decide_eq_true_eq, Int.ofNat_lt, Int.ofNat_le, if_true, if_false, Int.natCast_nonneg, decide_true, decide_false, Bool.not_true, Bool.not_false, Bool.false_eq_true, Bool.not_eq_true, Bool.true_and, Bool.and_true, Bool.false_and, Bool.and_false, h1, h2, h3, h4, h5, hn, cu.fB, e, ha, List.nil_append, List.length_set, hset, c, n9, Nat.sub_zero, List.drop_zero, if_true]
    rw [c] at hset
    simp (disch := omega) only [↓an, bm, bn, aG, aP, aM, aB, az, aE, bk, aK, aO, ar, au, aN, al, aF, aL, bo, bp, aQ, aR, ab, Pu.w64, Int.toNat_natCast, decide_eq_true_eq, Int.ofNat_lt, Int.ofNat_le, if_true, if_false, Int.natCast_nonneg, decide_true, decide_false, Bool.not_true, Bool.not_false, Bool.false_eq_true, Bool.not_eq_true, Bool.true_and, Bool.and_true, Bool.false_and, Bool.and_false, hset, h4, Nat.sub_zero, List.drop_zero, List.take_set_of_le (Nat.le_refl n)]
  · simp (disch := omega) only [↓an, bm, bn, aG, aP, aM, aB, az, aE, bk, aK, aO, ar, au, aN, al, aF, aL, bo, bp, aQ, aR, ab, Pu.w64, Int.toNat_natCast, decide_eq_true_eq, Int.ofNat_lt, Int.ofNat_le, if_true, if_false, Int.natCast_nonneg, decide_true, decide_false, Bool.not_true, Bool.not_false, Bool.false_eq_true, Bool.not_eq_true, Bool.true_and, Bool.and_true, Bool.false_and, Bool.and_false, h1, h2, h3, h4, h5, hn, cu.fB, e, ha, List.nil_append, List.length_set, hset, c, if_false]
theorem bB.row {k k1 : Nat} {t : Pu.Tab} {r : Nat} {acc : List (List Int)} (hk : 3 ≤ k) (hi : Pu.cj t.1 = true) (hr : r ≤ 10) (ha : acc.length ≤ 20) : ∀ (m j i : Nat), i + m = 11 → m < j →
    bB.L1 k k1 j r i acc ((Pu.iU t r).take i ++ List.replicate (11 - i) 0) t.1 t.2 = bB.L0 k k1 ((r + 1 : Nat) : Int) (acc ++ [Pu.iU t r]) t.1 t.2
  | m, 0, i, _, hj => by omega
  | 0, j + 1, i, hm, _ => by
    rw [bB.dR]
    have e : i = 11 := by omega
    subst e
    have hn : ¬ ((11 : Nat) : Int) ≤ 10 := by omega
    have hl : (acc ++ [(Pu.iU t r).take 11 ++ List.replicate (11 - 11) 0]).length ≤ 1099511627776 := by rw [List.length_append, List.length_singleton]; omega
    have et : (Pu.iU t r).take 11 ++ List.replicate (11 - 11) 0 = Pu.iU t r := by
      rw [Nat.sub_self, List.replicate_zero, List.append_nil]
      exact List.take_of_length_le (by rw [Pu.je]; omega)
    rw [et] at hl ⊢
    simp (disch := omega) only [↓an, bm, bn, aG, aP, aM, aB, az, aE, bk, aK, aO, ar, au, aN, al, aF, aL, bo, bp, aQ, aR, ab, Pu.w64, Int.toNat_natCast, decide_eq_true_eq, Int.ofNat_lt, Int.ofNat_le, if_true, if_false, Int.natCast_nonneg, decide_true, decide_false, Bool.not_true, Bool.not_false, Bool.false_eq_true, Bool.not_eq_true, Bool.true_and, Bool.and_true, Bool.false_and, Bool.and_false, hn, hl, Int.natCast_add, Int.natCast_one]
  | m + 1, j + 1, i, hm, hj => by
    rw [bB.dR]
    have ih := bB.row (k := k) (k1 := k1) (t := t) (r := r) (acc := acc) hk hi hr ha m j (i + 1) (by omega) (by omega)
    have hf := Pu.pO (xs := Pu.iU t r) (i := i) (by rw [Pu.je]; omega) 0 0
    rw [Pu.je, Pu.rB (by omega)] at hf
    rw [← hf] at ih
    have he := b8.is (k := k) (t := t) (r := (r : Int)) (c := (i : Int)) (by omega) hi (by omega) (by omega)
    have h1 : (i : Int) ≤ 10 := by omega
    have hlen : ((Pu.iU t r).take i ++ List.replicate (11 - i) 0).length = 11 := by
      rw [List.length_append, List.length_take, List.length_replicate, Pu.je]; omega
    have h2 : i < 11 := by omega
    have e1 : ((i + 1 : Nat) : Int) = (i : Int) + 1 := by omega
    rw [e1] at ih
    rw [show ((t.1, t.2) : Pu.Tab) = t from rfl]
    simp (disch := omega) only [↓an, bm, bn, aG, aP, aM, aB, az, aE, bk, aK, aO, ar, au, aN, al, aF, aL, bo, bp, aQ, aR, ab, Pu.w64, Int.toNat_natCast, decide_eq_true_eq, Int.ofNat_lt, Int.ofNat_le, if_true, if_false, Int.natCast_nonneg, decide_true, decide_false, Bool.not_true, Bool.not_false, Bool.false_eq_true, Bool.not_eq_true, Bool.true_and, Bool.and_true, Bool.false_and, Bool.and_false, h1, he, hlen, h2, ih]
theorem bB.loop {k : Nat} {t : Pu.Tab} (hk : 20 ≤ k) (hi : Pu.cj t.1 = true) : ∀ (m j i : Nat), i + m = 11 → m < j →
    bB.L0 k j i ((Pu.ly t).take i) t.1 t.2 = some (Pu.ly t)
  | m, 0, i, _, hj => by omega
  | 0, j + 1, i, hm, _ => by
    rw [bB.bu]
    have e : i = 11 := by omega
    subst e
    have hn : ¬ ((11 : Nat) : Int) ≤ 10 := by omega
    have et : (Pu.ly t).take 11 = Pu.ly t := List.take_of_length_le (by rw [Pu.oy]; omega)
    rw [et]
    simp only [↓an, bm, bn, aG, aP, aM, aB, az, aE, bk, aK, aO, ar, au, aN, al, aF, aL, bo, bp, aQ, aR, ab, Pu.w64, Int.toNat_natCast, decide_eq_true_eq, Int.ofNat_lt, Int.ofNat_le, if_true, if_false, Int.natCast_nonneg, decide_true, decide_false, Bool.not_true, Bool.not_false, Bool.false_eq_true, Bool.not_eq_true, Bool.true_and, Bool.and_true, Bool.false_and, Bool.and_false, hn]
  | m + 1, j + 1, i, hm, hj => by
    rw [bB.bu]
    have ih := bB.loop (k := k) (t := t) hk hi m j (i + 1) (by omega) (by omega)
    rw [Pu.take_succ (by rw [Pu.oy]; omega) [], Pu.ur (by omega)] at ih
    have hr := bB.row (k := k) (k1 := j) (t := t) (r := i) (acc := (Pu.ly t).take i) (by omega) hi (by omega) (by rw [List.length_take, Pu.oy]; omega) 11 k 0 (by omega) (by omega)
    rw [ih, List.take_zero, List.nil_append, Nat.sub_zero, Int.natCast_zero] at hr
    have h1 : (i : Int) ≤ 10 := by omega
    have h2 : Int.toNat 11 = 11 := rfl
    have h3 : (0 : Int) ≤ 11 := by omega
    have h4 : (11 : Nat) ≤ 1099511627776 := by omega
    simp (disch := omega) only [↓an, bm, bn, aG, aP, aM, aB, az, aE, bk, aK, aO, ar, au, aN, al, aF, aL, bo, bp, aQ, aR, ab, Pu.w64, Int.toNat_natCast, decide_eq_true_eq, Int.ofNat_lt, Int.ofNat_le, if_true, if_false, Int.natCast_nonneg, decide_true, decide_false, Bool.not_true, Bool.not_false, Bool.false_eq_true, Bool.not_eq_true, Bool.true_and, Bool.and_true, Bool.false_and, Bool.and_false, h1, h2, h3, h4, Int.le_refl, hr]
theorem bB.is {k : Nat} {t : Pu.Tab} (hk : 30 ≤ k) (hi : Pu.cj t.1 = true) : bB k t = some (Pu.ly t) := by
  obtain ⟨k, rfl⟩ : ∃ k', k = k' + 1 := ⟨k - 1, by omega⟩
  rw [bB.eq]
  have h := bB.loop (k := k) (t := t) (by omega) hi 11 k 0 (by omega) (by omega)
  rw [Int.natCast_zero, List.take_zero] at h
  exact h
theorem bg.row {k k1 : Nat} {g R : List (List Int)} {q o x6 : List Int} {x7 : List (List Int)} {x8 : List Int} {acc : List (List Int)} {r : Nat} (hro : r < o.length) (hrg : r < g.length) (ha : acc.length ≤ 20) (h0 : 0 ≤ q.getD r 0) (h9 : o.getD r 0 ≤ 20) (hl : o.getD r 0 = q.getD r 0 + (R.getD r []).length)
    (hx : ∀ x, x < (R.getD r []).length → (q.getD r 0).toNat + x < (g.getD r []).length ∧ Pu.cel g r ((q.getD r 0).toNat + x) = (R.getD r []).getD x 0) (hr : (r : Int) ≤ 20) : ∀ (m j x : Nat), x + m = (R.getD r []).length → m < j →
    bg.L1 k k1 j r (((q.getD r 0).toNat + x : Nat) : Int) g q o ((R.getD r []).take x) x6 x7 x8 acc = bg.L0 k k1 ((r + 1 : Nat) : Int) g q o x6 x7 x8 (acc ++ [R.getD r []])
  | m, 0, x, _, hj => by omega
  | 0, j + 1, x, hm, _ => by
    rw [bg.dR]
    have e : x = (R.getD r []).length := by omega
    subst e
    rw [List.take_length]
    have hn : ¬ (((q.getD r 0).toNat + (R.getD r []).length : Nat) : Int) < o.getD r 0 := by omega
    generalize (q.getD r 0).toNat + (R.getD r []).length = y at *
    have hln : (acc ++ [R.getD r []]).length ≤ 1099511627776 := by rw [List.length_append, List.length_singleton]; omega
    simp (disch := omega) only [↓an, bm, bn, aG, aP, aM, aB, az, aE, bk, aK, aO, ar, au, aN, al, aF, aL, bo, bp, aQ, aR, ab, Pu.w64, Int.toNat_natCast, decide_eq_true_eq, Int.ofNat_lt, Int.ofNat_le, if_true, if_false, Int.natCast_nonneg, decide_true, decide_false, Bool.not_true, Bool.not_false, Bool.false_eq_true, Bool.not_eq_true, Bool.true_and, Bool.and_true, Bool.false_and, Bool.and_false, hro, hn, hln, Int.natCast_add, Int.natCast_one]
  | m + 1, j + 1, x, hm, hj => by
    rw [bg.dR]
    have hlt : x < (R.getD r []).length := by omega
    obtain ⟨b1, b2⟩ := hx x hlt
    have ih := bg.row (k := k) (k1 := k1) (q := q) (x6 := x6) (x7 := x7) (x8 := x8) hro hrg ha h0 h9 hl hx hr m j (x + 1) (by omega) (by omega)
    rw [Pu.take_succ hlt 0, ← b2] at ih
    have hc : (((q.getD r 0).toNat + x : Nat) : Int) < o.getD r 0 := by omega
    have e1 : (((q.getD r 0).toNat + (x + 1) : Nat) : Int) = (((q.getD r 0).toNat + x : Nat) : Int) + 1 := by omega
    rw [e1] at ih
    have hln : ((R.getD r []).take x ++ [Pu.cel g r ((q.getD r 0).toNat + x)]).length ≤ 1099511627776 := by
      rw [List.length_append, List.length_take, List.length_singleton]; omega
    have ec : (g.getD r []).getD ((q.getD r 0).toNat + x) 0 = Pu.cel g r ((q.getD r 0).toNat + x) := rfl
    generalize hy : (q.getD r 0).toNat + x = y at *
    simp (maxSteps := 10000000) (disch := omega) only [↓an, bm, bn, aG, aP, aM, aB, az, aE, bk, aK, aO, ar, au, aN, al, aF, aL, bo, bp, aQ, aR, ab, Pu.w64, Int.toNat_natCast, decide_eq_true_eq, Int.ofNat_lt, Int.ofNat_le, if_true, if_false, Int.natCast_nonneg, decide_true, decide_false, Bool.not_true, Bool.not_false, Bool.false_eq_true, Bool.not_eq_true, Bool.true_and, Bool.and_true, Bool.false_and, Bool.and_false, hro, hrg, hc, b1, ec, hln, ih]
theorem bg.loop {k : Nat} {g R : List (List Int)} {q o x4 : List Int} {x5 : List (List Int)} {x6 : List Int} (hk : 40 ≤ k) (hol : o.length ≤ 9) (hg : o.length ≤ g.length) (hR : R.length = o.length)
    (h : ∀ r, r < o.length → 0 ≤ q.getD r 0 ∧ o.getD r 0 ≤ 20 ∧ o.getD r 0 = q.getD r 0 + (R.getD r []).length ∧ ∀ x, x < (R.getD r []).length → (q.getD r 0).toNat + x < (g.getD r []).length ∧ Pu.cel g r ((q.getD r 0).toNat + x) = (R.getD r []).getD x 0) : ∀ (m j i : Nat), i + m = o.length → m < j →
    bg.L0 k j i g q o x4 x5 x6 (R.take i) = some (x6, R)
  | m, 0, i, _, hj => by omega
  | 0, j + 1, i, hm, _ => by
    rw [bg.bu]
    have e : i = o.length := by omega
    subst e
    rw [List.take_of_length_le (by omega)]
    simp only [↓an, bm, bn, aG, aP, aM, aB, az, aE, bk, aK, aO, ar, au, aN, al, aF, aL, bo, bp, aQ, aR, ab, Pu.w64, Int.toNat_natCast, decide_eq_true_eq, Int.ofNat_lt, Int.ofNat_le, if_true, if_false, Int.natCast_nonneg, decide_true, decide_false, Bool.not_true, Bool.not_false, Bool.false_eq_true, Bool.not_eq_true, Bool.true_and, Bool.and_true, Bool.false_and, Bool.and_false, Nat.lt_irrefl]
  | m + 1, j + 1, i, hm, hj => by
    rw [bg.bu]
    have hi : i < o.length := by omega
    obtain ⟨a1, a2, a3, a4⟩ := h i hi
    have ih := bg.loop (q := q) (x4 := x4) (x5 := x5) (x6 := x6) hk hol hg hR h m j (i + 1) (by omega) (by omega)
    rw [Pu.take_succ (by omega) []] at ih
    have hr := bg.row (k := k) (k1 := j) (q := q) (x6 := x4) (x7 := x5) (x8 := x6) (acc := R.take i) hi (by omega) (by rw [List.length_take]; omega) a1 a2 a3 a4 (by omega) (R.getD i []).length k 0 (by omega) (by omega)
    rw [ih, List.take_zero, Nat.add_zero, show (((q.getD i 0).toNat : Nat) : Int) = q.getD i 0 by omega] at hr
    have ha := da.is (k := k) (p := q) (i := (i : Int)) (by omega)
    rw [Pu.ch] at ha
    simp (disch := omega) only [↓an, bm, bn, aG, aP, aM, aB, az, aE, bk, aK, aO, ar, au, aN, al, aF, aL, bo, bp, aQ, aR, ab, Pu.w64, Int.toNat_natCast, decide_eq_true_eq, Int.ofNat_lt, Int.ofNat_le, if_true, if_false, Int.natCast_nonneg, decide_true, decide_false, Bool.not_true, Bool.not_false, Bool.false_eq_true, Bool.not_eq_true, Bool.true_and, Bool.and_true, Bool.false_and, Bool.and_false, hi, ha, hr]
theorem bg.is {k : Nat} {g R : List (List Int)} {q o : List Int} (hk : 50 ≤ k) (hq : q.length ≤ 9) (hol : o.length ≤ 9) (hg : o.length ≤ g.length) (hR : R.length = o.length)
    (h : ∀ r, r < o.length → 0 ≤ q.getD r 0 ∧ o.getD r 0 ≤ 20 ∧ o.getD r 0 = q.getD r 0 + (R.getD r []).length ∧ ∀ x, x < (R.getD r []).length → (q.getD r 0).toNat + x < (g.getD r []).length ∧ Pu.cel g r ((q.getD r 0).toNat + x) = (R.getD r []).getD x 0) :
    bg k g q o = some (q, R) := by
  obtain ⟨k, rfl⟩ : ∃ k', k = k' + 1 := ⟨k - 1, by omega⟩
  rw [bg.eq]
  have hl := bg.loop (k := k) (q := q) (x4 := []) (x5 := []) (x6 := q) (by omega) hol hg hR h o.length k 0 (by omega) (by omega)
  rw [Int.natCast_zero, List.take_zero] at hl
  have hln : q.length ≤ 1099511627776 := by omega
  simp only [↓an, bm, bn, aG, aP, aM, aB, az, aE, bk, aK, aO, ar, au, aN, al, aF, aL, bo, bp, aQ, aR, ab, Pu.w64, Int.toNat_natCast, decide_eq_true_eq, Int.ofNat_lt, Int.ofNat_le, if_true, if_false, Int.natCast_nonneg, decide_true, decide_false, Bool.not_true, Bool.not_false, Bool.false_eq_true, Bool.not_eq_true, Bool.true_and, Bool.and_true, Bool.false_and, Bool.and_false, List.nil_append, hln, hl]
theorem aY.loop {k : Nat} {Q q x4 x6 x7 : List Int} {x5 : List (List Int)} (hk : 4 ≤ k) : ∀ (m j : Nat) (s g : List (List Int)) (i c : Nat), Pu.Sq s g i c → Pu.Sl Q g i c → g.length ≤ 9 → (∀ r, (g.getD r []).length ≤ 9) → m < j →
    Pu.cel (Pu.bL m g i c).1 (Pu.bL m g i c).2.1 ((Pu.bL m g i c).2.2 + 1) = 0 → Pu.cel (Pu.bL m g i c).1 ((Pu.bL m g i c).2.1 + 1) (Pu.bL m g i c).2.2 = 0 →
    ∃ s', Pu.Sq s' (Pu.bL m g i c).1 (Pu.bL m g i c).2.1 (Pu.bL m g i c).2.2 ∧ aY.L0 k j i c q s x4 x5 x6 x7 = aY.J2 k (Pu.bL m g i c).2.1 q s' x4 x5 x6 x7
  | m, 0, s, g, i, c, _, _, _, _, hj, _, _ => by omega
  | 0, j + 1, s, g, i, c, hs, hg, hl, hw, _, s1, s2 => by
    have hi := hg.hi
    have hc := hg.hc
    have hwi := hw i
    refine ⟨s, hs, ?_⟩
    have q1 := hs.row i (by omega)
    have q2 := hs.row (i + 1) (by omega)
    have q0 := hs.len
    have r1 : (s.getD i []).getD (c + 1) 0 = 0 := (hs.at_ i (c + 1) (by omega) (by omega) (by omega)).trans s1
    have r2 : (s.getD (i + 1) []).getD c 0 = 0 := (hs.at_ (i + 1) c (by omega) (by omega) (by omega)).trans s2
    have e1 : (c : Int) + 1 = ((c + 1 : Nat) : Int) := by omega
    have e2 : (i : Int) + 1 = ((i + 1 : Nat) : Int) := by omega
    have g1 : i < 11 := by omega
    have g2 : c + 1 < 11 := by omega
    have g3 : i + 1 < 11 := by omega
    have g4 : c < 11 := by omega
    rw [aY.bu]
    simp (maxSteps := 10000000) (disch := omega) only [↓an, bm, bn, aG, aP, aM, aB, az, aE, bk, aK, aO, ar, au, aN, al, aF, aL, bo, bp, aQ, aR, ab, Pu.w64, Int.toNat_natCast, decide_eq_true_eq, Int.ofNat_lt, Int.ofNat_le, if_true, if_false, Int.natCast_nonneg, decide_true, decide_false, Bool.not_true, Bool.not_false, Bool.false_eq_true, Bool.not_eq_true, Bool.true_and, Bool.and_true, Bool.false_and, Bool.and_false, e1, e2, q0, q1, q2, g1, g2, g3, g4, r1, r2, Int.lt_irrefl, Pu.bL]
  | m + 1, j + 1, s, g, i, c, hs, hg, hl, hw, hj, s1, s2 => by
    have hi := hg.hi
    have hc := hg.hc
    have hwi := hw i
    have q1 := hs.row i (by omega)
    have q2 := hs.row (i + 1) (by omega)
    have q0 := hs.len
    have r1 : (s.getD i []).getD (c + 1) 0 = Pu.cel g i (c + 1) := hs.at_ i (c + 1) (by omega) (by omega) (by omega)
    have r2 : (s.getD (i + 1) []).getD c 0 = Pu.cel g (i + 1) c := hs.at_ (i + 1) c (by omega) (by omega) (by omega)
    have p1 := hg.pos i (c + 1)
    have p2 := hg.pos (i + 1) c
    have e1 : (c : Int) + 1 = ((c + 1 : Nat) : Int) := by omega
    have e2 : (i : Int) + 1 = ((i + 1 : Nat) : Int) := by omega
    have g1 : i < 11 := by omega
    have g2 : c + 1 < 11 := by omega
    have g3 : i + 1 < 11 := by omega
    have g4 : c < 11 := by omega
    have es : ∀ v, s.set i ((s.getD i []).set c v) = Pu.eI s i c v := fun _ => rfl
    have es1 : ∀ v, (Pu.eI s i c v).set (i + 1) (((Pu.eI s i c v).getD (i + 1) []).set c 0) = Pu.eI (Pu.eI s i c v) (i + 1) c 0 := fun _ => rfl
    have es2 : ∀ v, (Pu.eI s i c v).set i (((Pu.eI s i c v).getD i []).set (c + 1) 0) = Pu.eI (Pu.eI s i c v) i (c + 1) 0 := fun _ => rfl
    have z0 : ∀ v, (Pu.eI s i c v).length = 11 := fun v => by rw [Pu.dw]; exact q0
    have z1 : ∀ v, ((Pu.eI s i c v).getD i []).length = 11 := fun v => by rw [Pu.b9]; exact q1
    have z2 : ∀ v, ((Pu.eI s i c v).getD (i + 1) []).length = 11 := fun v => by rw [Pu.b9]; exact q2
    unfold Pu.bL at s1 s2 ⊢
    by_cases c1 : Pu.cel g i (c + 1) = 0 ∧ Pu.cel g (i + 1) c = 0
    · rw [if_pos c1] at s1 s2 ⊢
      refine ⟨s, hs, ?_⟩
      rw [aY.bu]
      simp (maxSteps := 10000000) (disch := omega) only [↓an, bm, bn, aG, aP, aM, aB, az, aE, bk, aK, aO, ar, au, aN, al, aF, aL, bo, bp, aQ, aR, ab, Pu.w64, Int.toNat_natCast, decide_eq_true_eq, Int.ofNat_lt, Int.ofNat_le, if_true, if_false, Int.natCast_nonneg, decide_true, decide_false, Bool.not_true, Bool.not_false, Bool.false_eq_true, Bool.not_eq_true, Bool.true_and, Bool.and_true, Bool.false_and, Bool.and_false, e1, e2, q0, q1, q2, g1, g2, g3, g4, r1, r2, c1.1, c1.2, Int.lt_irrefl]
    · rw [if_neg c1] at s1 s2 ⊢
      by_cases c2 : Pu.cel g i (c + 1) = 0 ∨ (0 < Pu.cel g (i + 1) c ∧ Pu.cel g (i + 1) c ≤ Pu.cel g i (c + 1))
      · rw [if_pos c2] at s1 s2 ⊢
        have hb : Pu.cel g (i + 1) c ≠ 0 := fun e => by
          rcases c2 with c2 | c2
          · exact c1 ⟨c2, e⟩
          · omega
        have hb' : 0 < Pu.cel g (i + 1) c := by omega
        obtain ⟨s', a1, a2⟩ := aY.loop (Q := Q) (q := q) (x4 := x4) (x6 := x6) (x7 := x7) (x5 := x5) hk m j _ _ (i + 1) c (hs.step (i' := i + 1) (c' := c) hi hc g1 g4 g3 g4 (by omega) (Pu.cel g (i + 1) c)) (hg.down hb c2) (by rw [Pu.dw]; exact hl) (fun r => by rw [Pu.b9]; exact hw r) (by omega) s1 s2
        refine ⟨s', a1, ?_⟩
        rw [← a2, aY.bu, aY.iw]
        by_cases c3 : Pu.cel g i (c + 1) = 0
        · simp (maxSteps := 10000000) (disch := omega) only [↓an, bm, bn, aG, aP, aM, aB, az, aE, bk, aK, aO, ar, au, aN, al, aF, aL, bo, bp, aQ, aR, ab, Pu.w64, Int.toNat_natCast, decide_eq_true_eq, Int.ofNat_lt, Int.ofNat_le, if_true, if_false, Int.natCast_nonneg, decide_true, decide_false, Bool.not_true, Bool.not_false, Bool.false_eq_true, Bool.not_eq_true, Bool.true_and, Bool.and_true, Bool.false_and, Bool.and_false, e1, e2, q0, q1, q2, g1, g2, g3, g4, r1, r2, c3, hb', Int.lt_irrefl, es, aY.mX, z0, z1, z2, es1]
        · have c4 : Pu.cel g (i + 1) c ≤ Pu.cel g i (c + 1) := (c2.resolve_left c3).2
          have c5 : 0 < Pu.cel g i (c + 1) := by omega
          simp (maxSteps := 10000000) (disch := omega) only [↓an, bm, bn, aG, aP, aM, aB, az, aE, bk, aK, aO, ar, au, aN, al, aF, aL, bo, bp, aQ, aR, ab, Pu.w64, Int.toNat_natCast, decide_eq_true_eq, Int.ofNat_lt, Int.ofNat_le, if_true, if_false, Int.natCast_nonneg, decide_true, decide_false, Bool.not_true, Bool.not_false, Bool.false_eq_true, Bool.not_eq_true, Bool.true_and, Bool.and_true, Bool.false_and, Bool.and_false, e1, e2, q0, q1, q2, g1, g2, g3, g4, r1, r2, c3, c4, c5, hb', es, aY.mX, z0, z1, z2, es1]
      · rw [if_neg c2] at s1 s2 ⊢
        have c3 : ¬ Pu.cel g i (c + 1) = 0 := fun e => c2 (.inl e)
        have c5 : 0 < Pu.cel g i (c + 1) := by omega
        obtain ⟨s', a1, a2⟩ := aY.loop (Q := Q) (q := q) (x4 := x4) (x6 := x6) (x7 := x7) (x5 := x5) hk m j _ _ i (c + 1) (hs.step (i' := i) (c' := c + 1) hi hc g1 g4 g1 g2 (by omega) (Pu.cel g i (c + 1))) (hg.right c3 (fun e => c2 (.inr e))) (by rw [Pu.dw]; exact hl) (fun r => by rw [Pu.b9]; exact hw r) (by omega) s1 s2
        refine ⟨s', a1, ?_⟩
        rw [← a2, aY.bu, aY.iw]
        by_cases c4 : 0 < Pu.cel g (i + 1) c
        · have c6 : ¬ Pu.cel g (i + 1) c ≤ Pu.cel g i (c + 1) := fun e => c2 (.inr ⟨c4, e⟩)
          simp (maxSteps := 10000000) (disch := omega) only [↓an, bm, bn, aG, aP, aM, aB, az, aE, bk, aK, aO, ar, au, aN, al, aF, aL, bo, bp, aQ, aR, ab, Pu.w64, Int.toNat_natCast, decide_eq_true_eq, Int.ofNat_lt, Int.ofNat_le, if_true, if_false, Int.natCast_nonneg, decide_true, decide_false, Bool.not_true, Bool.not_false, Bool.false_eq_true, Bool.not_eq_true, Bool.true_and, Bool.and_true, Bool.false_and, Bool.and_false, e1, e2, q0, q1, q2, g1, g2, g3, g4, r1, r2, c3, c4, c5, c6, es, aY.mX, z0, z1, z2, es2]
        · simp (maxSteps := 10000000) (disch := omega) only [↓an, bm, bn, aG, aP, aM, aB, az, aE, bk, aK, aO, ar, au, aN, al, aF, aL, bo, bp, aQ, aR, ab, Pu.w64, Int.toNat_natCast, decide_eq_true_eq, Int.ofNat_lt, Int.ofNat_le, if_true, if_false, Int.natCast_nonneg, decide_true, decide_false, Bool.not_true, Bool.not_false, Bool.false_eq_true, Bool.not_eq_true, Bool.true_and, Bool.and_true, Bool.false_and, Bool.and_false, e1, e2, q0, q1, q2, g1, g2, g3, g4, r1, r2, c3, c4, c5, es, aY.mX, z0, z1, z2, es2]
theorem aY.is {k : Nat} {t : Pu.Tab} {n : Nat} (hk : 4194304 + 8 ≤ k) (h : Pu.dU t = true) (hn : n < t.1.length) (hc : t.1.getD (n + 1) 0 < t.1.getD n 0) : aY k t n = some ((Pu.fw t n).1, ((Pu.fw t n).2 : Int)) := by
  obtain ⟨k, rfl⟩ : ∃ k', k = k' + 1 := ⟨k - 1, by omega⟩
  obtain ⟨z1, z2⟩ := Pu.tA h
  obtain ⟨hp, ho, hl, _⟩ := Pu.fQ h
  have hs : Pu.shapeOf t = ((Pu.outer t, t.1), true) := by unfold Pu.shapeOf; rw [if_pos (Pu.nq h)]
  have hsh := bY.is (k := k) (t := t) (by omega) (by omega) (by have := z2.1; omega) (fun r hr => by have := z2.2 r hr; omega)
  rw [hs] at hsh
  have hrb := cu.is (k := k) (p := t.1) (n := n) (by omega) hp hn hc
  have hgr := bB.is (k := k) (t := t) (by omega) hp
  have hb := Pu.cS hp n
  rw [Pu.ch] at hb
  have hpos : 1 ≤ t.1.getD n 0 := by
    rw [Pu.ay hn]
    exact ((Pu.b6 hp).1 _ (List.getElem_mem hn)).1
  obtain ⟨E, s1, s2⟩ := Pu.yU h hn hc
  have hst := Pu.mS h hn hc
  obtain ⟨s', a1, a2⟩ := aY.loop (k := k) (q := Pu.aT t.1 n) (x4 := []) (x6 := Pu.outer t) (x7 := t.1) (x5 := []) (by omega) 18 k (Pu.ly t) (Pu.cf t) n (t.1.getD n 0 - 1).toNat (Pu.zo h hn) hst (by rw [Pu.gu]; exact z2.1) (fun r => by
    have a := Pu.ju hp r
    have b := (Pu.cS ho r).2
    rw [Pu.ch] at b
    omega) (by omega) s1 s2
  rw [show (((t.1.getD n 0 - 1).toNat : Nat) : Int) = t.1.getD n 0 - 1 by omega] at a2
  have hS : Pu.bL 18 (Pu.cf t) n (t.1.getD n 0 - 1).toNat = Pu.eM t n := rfl
  rw [hS] at a1 a2
  rw [aY.eq, show ((t.1, t.2) : Pu.Tab) = t from rfl]
  unfold Pu.fw
  generalize Pu.eM t n = S at *
  obtain ⟨g, i, c⟩ := S
  simp only at E a1 a2 ⊢
  have ho9 := (Pu.b6 ho).2.2.1
  have hdl := Pu.jB (Pu.outer t) i
  have hql := Pu.jB t.1 n
  have hrb2 := cu.is (k := k) (p := Pu.outer t) (n := i) (by omega) ho E.hi E.cor
  have htb := bg.is (k := k) (g := s') (R := Pu.cZ (Pu.aT t.1 n) (Pu.jx g i c) (Pu.aT (Pu.outer t) i).length) (q := Pu.aT t.1 n) (o := Pu.aT (Pu.outer t) i) (by omega) (by omega) (by omega) (by rw [a1.len]; omega) (by rw [Pu.dJ]) (fun r hr => by
    have hq := E.sl.q0 r
    have ho20 : (Pu.aT (Pu.outer t) i).getD r 0 ≤ 20 := by
      have a := E.cutl r
      have b := E.rows.at r
      omega
    refine ⟨hq, ho20, E.xS hr, fun x hx => ?_⟩
    obtain ⟨c1, c2, c3, c4⟩ := E.cell hr hx
    have b := E.rows.at r
    have a := E.cutl r
    have hx11 : ((Pu.aT t.1 n).getD r 0).toNat + x < 11 := by omega
    have hr11 : r < 11 := by omega
    refine ⟨by rw [a1.row r hr11]; exact hx11, ?_⟩
    rw [c4]
    exact a1.at_ r _ hr11 hx11 c3)
  rw [aY.oz, hrb2, ab, htb, ab] at a2
  simp (disch := omega) only [↓an, bm, bn, aG, aP, aM, aB, az, aE, bk, aK, aO, ar, au, aN, al, aF, aL, bo, bp, aQ, aR, ab, Pu.w64, Int.toNat_natCast, decide_eq_true_eq, Int.ofNat_lt, Int.ofNat_le, if_true, if_false, Int.natCast_nonneg, decide_true, decide_false, Bool.not_true, Bool.not_false, Bool.false_eq_true, Bool.not_eq_true, Bool.true_and, Bool.and_true, Bool.false_and, Bool.and_false, hsh, hrb, hgr, hn, a2]
theorem fH.is {k : Nat} {t : Pu.Tab} (hk : 4194304 + 30 ≤ k) (h : Pu.bc t = true) (h0 : 0 < t.2.length) : fH k t = some ((Pu.ba t).1, ((Pu.ba t).2 : Int)) := by
  obtain ⟨k, rfl⟩ : ∃ k', k = k' + 1 := ⟨k - 1, by omega⟩
  have hz := Pu.jg h
  have hi1 := Pu.cN h
  have hr := Pu.gV h h0
  have hcp := cD.is (k := k) (t := t) (by omega) (by rw [hi1]; simp) (by have := hz.1; omega) (fun r hr => by have := hz.2 r hr; omega)
  have hs := aY.is (k := k) (t := Pu.dC t) (n := 0) (by omega) (Pu.lD h h0) (by simp [Pu.dC]) (by simp [Pu.dC])
  rw [Int.natCast_zero] at hs
  have e2 : ((t.2.getD 0 []).drop 1).take ((t.2.getD 0 []).length - 1) = (t.2.getD 0 []).drop 1 := List.take_of_length_le (by rw [List.length_drop]; omega)
  rw [fH.eq, show ((t.1, t.2) : Pu.Tab) = t from rfl, hcp, ab]
  have hg : 1 ≤ (t.2.getD 0 []).length := hr
  simp only [↓an, bm, bn, aG, aP, aM, aB, az, aE, bk, aK, aO, ar, au, aN, al, aF, aL, bo, bp, aQ, aR, ab, Pu.w64, Int.toNat_natCast, decide_eq_true_eq, Int.ofNat_lt, Int.ofNat_le, if_true, if_false, Int.natCast_nonneg, decide_true, decide_false, Bool.not_true, Bool.not_false, Bool.false_eq_true, Bool.not_eq_true, Bool.true_and, Bool.and_true, Bool.false_and, Bool.and_false, n9, Int.toNat_zero, Int.toNat_one, h0, hg, e2, show (0 : Int) ≤ 0 from Int.le_refl _, show (0 : Int) ≤ 1 by omega]
  rw [show ((1 :: [], t.2.set 0 ((t.2.getD 0 []).drop 1)) : Pu.Tab) = Pu.dC t from rfl, hs]
  rfl
theorem aW.inner {k k1 : Nat} {x2 : List Int} {x3 : List (List Int)} {inn : List Int} {i : Nat} (hi9 : i < 1000) {len : Nat} (hl9 : len ≤ 1000) : ∀ (m j q : Nat) (rs : List (List Int)), q + m = len → (rs.getD i []).length = len → m < j → i < rs.length → (∀ p, q ≤ p → -100 ≤ (rs.getD i []).getD p 0 ∧ (rs.getD i []).getD p 0 ≤ 101) →
    aW.L3 k k1 j i q x2 x3 inn rs = aW.L2 k k1 ((i + 1 : Nat) : Int) x2 x3 inn (rs.set i (Pu.fU (-1) q (rs.getD i [])))
  | m, 0, q, rs, _, _, hj, _, _ => by omega
  | 0, j + 1, q, rs, hq, hl, _, hi, _ => by
    rw [aW.rF]
    have hn : ¬ (q : Int) < (rs.getD i []).length := by omega
    have e : q = (rs.getD i []).length := by omega
    rw [show Pu.fU (-1) q (rs.getD i []) = rs.getD i [] by rw [e, Pu.qj], Pu.ay hi, List.set_getElem_self]
    simp (disch := omega) only [↓an, bm, bn, aG, aP, aM, aB, az, aE, bk, aK, aO, ar, au, aN, al, aF, aL, bo, bp, aQ, aR, ab, Pu.w64, Int.toNat_natCast, decide_eq_true_eq, Int.ofNat_lt, Int.ofNat_le, if_true, if_false, Int.natCast_nonneg, decide_true, decide_false, Bool.not_true, Bool.not_false, Bool.false_eq_true, Bool.not_eq_true, Bool.true_and, Bool.and_true, Bool.false_and, Bool.and_false, hn, hi]
    rw [Int.natCast_succ]
  | m + 1, j + 1, q, rs, hq, hl, hj, hi, hb => by
    rw [aW.rF]
    have hn : (q : Int) < (rs.getD i []).length := by omega
    have hql : q < (rs.getD i []).length := by omega
    have hbq := hb q (Nat.le_refl _)
    have er : (rs.set i ((rs.getD i []).set q ((rs.getD i []).getD q 0 + -1))).getD i [] = (rs.getD i []).set q ((rs.getD i []).getD q 0 + -1) := by
      rw [Pu.ay (by rw [List.length_set]; exact hi), List.getElem_set_self]
    have ih := aW.inner (k := k) (k1 := k1) (x2 := x2) (x3 := x3) (inn := inn) hi9 hl9 m j (q + 1) (rs.set i ((rs.getD i []).set q ((rs.getD i []).getD q 0 + -1))) (by omega) (by rw [er, List.length_set]; exact hl) (by omega) (by rw [List.length_set]; exact hi) (fun p hp => by
      rw [er, Pu.getD_set_ne (by omega)]
      exact hb p (by omega))
    rw [er, List.set_set, Pu.oN hql] at ih
    rw [← ih, Int.natCast_succ, show (rs.getD i []).getD q 0 + -1 = (rs.getD i []).getD q 0 - 1 from rfl]
    simp (disch := omega) only [↓an, bm, bn, aG, aP, aM, aB, az, aE, bk, aK, aO, ar, au, aN, al, aF, aL, bo, bp, aQ, aR, ab, Pu.w64, Int.toNat_natCast, decide_eq_true_eq, Int.ofNat_lt, Int.ofNat_le, if_true, if_false, Int.natCast_nonneg, decide_true, decide_false, Bool.not_true, Bool.not_false, Bool.false_eq_true, Bool.not_eq_true, Bool.true_and, Bool.and_true, Bool.false_and, Bool.and_false, hn, hi, hql]
theorem aW.outer {k : Nat} {x2 : List Int} {x3 : List (List Int)} {inn : List Int} (hk : 4194304 ≤ k) : ∀ (m j i : Nat) (rs : List (List Int)), i + m = rs.length → m < j → Pu.dy 999 1000 rs → (∀ a p, -100 ≤ ((rs.drop i).getD a []).getD p 0 ∧ ((rs.drop i).getD a []).getD p 0 ≤ 101) →
    aW.L2 k j i x2 x3 inn rs = some ((inn, Pu.gC (-1) i rs), true)
  | m, 0, i, rs, _, hj, _, _ => by omega
  | 0, j + 1, i, rs, hm, _, _, _ => by
    rw [aW.rL]
    have e : i = rs.length := by omega
    subst e
    have hn : ¬ (rs.length : Int) < rs.length := by omega
    simp only [↓an, bm, bn, aG, aP, aM, aB, az, aE, bk, aK, aO, ar, au, aN, al, aF, aL, bo, bp, aQ, aR, ab, Pu.w64, Int.toNat_natCast, decide_eq_true_eq, Int.ofNat_lt, Int.ofNat_le, if_true, if_false, Int.natCast_nonneg, decide_true, decide_false, Bool.not_true, Bool.not_false, Bool.false_eq_true, Bool.not_eq_true, Bool.true_and, Bool.and_true, Bool.false_and, Bool.and_false, hn, Pu.nB]
  | m + 1, j + 1, i, rs, hm, hj, hr, hs => by
    rw [aW.rL]
    have hi : i < rs.length := by omega
    have hn : (i : Int) < rs.length := by omega
    have h9 := hr.at i
    have h99 := hr.1
    have hg : ∀ p, -100 ≤ (rs.getD i []).getD p 0 ∧ (rs.getD i []).getD p 0 ≤ 101 := fun p => by
      have := hs 0 p
      rw [Pu.gD] at this
      exact this
    have hin := aW.inner (k := k) (k1 := j) (x2 := x2) (x3 := x3) (inn := inn) (i := i) (by omega) (len := (rs.getD i []).length) h9 (rs.getD i []).length k 0 rs (by omega) rfl (by omega) hi (fun p _ => hg p)
    have ih := aW.outer (x2 := x2) (x3 := x3) (inn := inn) hk m j (i + 1) (rs.set i (Pu.fU (-1) 0 (rs.getD i []))) (by rw [List.length_set]; omega) (by omega) (hr.set i (by rw [Pu.qs]; exact h9)) (fun a p => by
      have := hs (a + 1) p
      rw [Pu.gD] at this ⊢
      rw [Pu.getD_set_ne (by omega)]
      rw [show i + 1 + a = i + (a + 1) by omega]
      exact this)
    rw [Pu.mD hi] at ih
    rw [ih] at hin
    rw [Int.natCast_zero] at hin
    simp (disch := omega) only [↓an, bm, bn, aG, aP, aM, aB, az, aE, bk, aK, aO, ar, au, aN, al, aF, aL, bo, bp, aQ, aR, ab, Pu.w64, Int.toNat_natCast, decide_eq_true_eq, Int.ofNat_lt, Int.ofNat_le, if_true, if_false, Int.natCast_nonneg, decide_true, decide_false, Bool.not_true, Bool.not_false, Bool.false_eq_true, Bool.not_eq_true, Bool.true_and, Bool.and_true, Bool.false_and, Bool.and_false, hn, hin]
theorem aW.tail {k : Nat} {x2 : List Int} {x3 : List (List Int)} {inn : List Int} {n i : Nat} {rs : List (List Int)} (hk : 4194304 + 2 ≤ k) (hn : n ≤ 9) (hi : i < rs.length) (hr : Pu.dy 10 9 rs) (hs : Pu.Small rs) :
    aW.J1 k n i x2 x3 inn rs = some ((inn, Pu.cn (-1) (rs.set i (rs.getD i [] ++ [(n : Int) + 1]))), true) := by
  rw [aW.iw]
  have h9 := hr.at i
  have h99 := hr.1
  have hl : (rs.getD i [] ++ [(n : Int) + 1]).length ≤ 1099511627776 := by rw [List.length_append]; simp only [List.length_cons, List.length_nil]; omega
  have ho := aW.outer (k := k) (x2 := x2) (x3 := x3) (inn := inn) (by omega) rs.length k 0 (rs.set i (rs.getD i [] ++ [(n : Int) + 1])) (by rw [List.length_set]; omega) (by omega) ((hr.mono (n' := 999) (m' := 1000) (by omega) (by omega)).set i (by rw [List.length_append]; simp only [List.length_cons, List.length_nil]; omega)) (fun a p => by
    rw [List.drop_zero]
    by_cases e : a = i
    · subst e
      have er : (rs.set a (rs.getD a [] ++ [(n : Int) + 1])).getD a [] = rs.getD a [] ++ [(n : Int) + 1] := by
        rw [Pu.ay (by rw [List.length_set]; exact hi), List.getElem_set_self]
      rw [er]
      by_cases hp : p < (rs.getD a []).length
      · rw [Pu.ay (xs := _ ++ _) (by rw [List.length_append]; omega), List.getElem_append_left hp, ← Pu.ay hp 0]
        have := hs a p
        omega
      · simp only [List.getD_eq_getElem?_getD (l := _ ++ _), List.getElem?_append_right (Nat.le_of_not_lt hp)]
        cases p - (rs.getD a []).length with
        | zero => simp; omega
        | succ q => simp
    · rw [Pu.getD_set_ne (Ne.symm e)]
      have := hs a p
      omega)
  rw [Int.natCast_zero] at ho
  simp only [Pu.gC, List.take_zero, List.drop_zero, List.nil_append] at ho
  simp (disch := omega) only [↓an, bm, bn, aG, aP, aM, aB, az, aE, bk, aK, aO, ar, au, aN, al, aF, aL, bo, bp, aQ, aR, ab, Pu.w64, Int.toNat_natCast, decide_eq_true_eq, Int.ofNat_lt, Int.ofNat_le, if_true, if_false, Int.natCast_nonneg, decide_true, decide_false, Bool.not_true, Bool.not_false, Bool.false_eq_true, Bool.not_eq_true, Bool.true_and, Bool.and_true, Bool.false_and, Bool.and_false, hi, hl, ho]
theorem aW.is {k : Nat} {t : Pu.Tab} (hk : 4194304 + 50 ≤ k) (h1 : t.1.length ≤ 1048576) (ht : t.2.length ≤ 1048576) (hr : ∀ x ∈ t.2, x.length ≤ 1048576) : aW k t = some (Pu.cJ t) := by
  obtain ⟨k, rfl⟩ : ∃ k', k = k' + 1 := ⟨k - 1, by omega⟩
  rw [aW.eq, show ((t.1, t.2) : Pu.Tab) = t from rfl, eC.is (by omega) h1 ht hr, br.is (by omega) h1 ht hr, ab, ab]
  unfold Pu.cJ
  cases hp : Pu.bc t with
  | false => simp
  | true =>
    cases hb : Pu.dv t with
    | false => simp
    | true =>
      have h9 := Pu.j6 hp
      have hnum := bZ.is (k := k) (t := t) (by omega) ht (by omega)
      by_cases c : t.2.flatten.length = 0
      · have hc : (t.2.flatten.length : Int) = 0 := by omega
        rw [if_pos ⟨rfl, rfl⟩, if_pos c]
        simp only [↓an, bm, bn, aG, aP, aM, aB, az, aE, bk, aK, aO, ar, au, aN, al, aF, aL, bo, bp, aQ, aR, ab, Pu.w64, Int.toNat_natCast, decide_eq_true_eq, Int.ofNat_lt, Int.ofNat_le, if_true, if_false, Int.natCast_nonneg, decide_true, decide_false, Bool.not_true, Bool.not_false, Bool.false_eq_true, Bool.not_eq_true, Bool.true_and, Bool.and_true, Bool.false_and, Bool.and_false, aW.fB, hnum, hc]
      · have hc : ¬ (t.2.flatten.length : Int) = 0 := by omega
        have h0 := Pu.gr (t := t) (by omega)
        have htk := fH.is (k := k) (by omega) hp h0
        obtain ⟨w1, w2⟩ := Pu.lZ hp h0
        have w3 := Pu.th hp h0
        have hin := Pu.cN (Pu.dB hp h0).1
        have htl := aW.tail (k := k) (x2 := ([] : List Int)) (x3 := ([] : List (List Int))) (inn := []) (by omega) h9 w1 w2 w3
        rw [Pu.wx _ w1] at htl
        rw [if_pos ⟨rfl, rfl⟩, if_neg c]
        have hle := Pu.uw hp h0
        have hlr := w2.1
        unfold Pu.dT at htl hlr ⊢
        by_cases e : (Pu.ba t).2 = (Pu.ba t).1.2.length
        · have e' : ((Pu.ba t).2 : Int) = (Pu.ba t).1.2.length := by omega
          rw [if_pos e] at htl hlr ⊢
          have hl : ((Pu.ba t).1.2 ++ [[]]).length ≤ 1099511627776 := by omega
          simp only [↓an, bm, bn, aG, aP, aM, aB, az, aE, bk, aK, aO, ar, au, aN, al, aF, aL, bo, bp, aQ, aR, ab, Pu.w64, Int.toNat_natCast, decide_eq_true_eq, Int.ofNat_lt, Int.ofNat_le, if_true, if_false, Int.natCast_nonneg, decide_true, decide_false, Bool.not_true, Bool.not_false, Bool.false_eq_true, Bool.not_eq_true, Bool.true_and, Bool.and_true, Bool.false_and, Bool.and_false, aW.fB, hnum, hc, htk, hin, hl]
          rw [if_pos e', htl]
        · have e' : ¬ ((Pu.ba t).2 : Int) = (Pu.ba t).1.2.length := by omega
          rw [if_neg e] at htl hlr ⊢
          simp only [↓an, bm, bn, aG, aP, aM, aB, az, aE, bk, aK, aO, ar, au, aN, al, aF, aL, bo, bp, aQ, aR, ab, Pu.w64, Int.toNat_natCast, decide_eq_true_eq, Int.ofNat_lt, Int.ofNat_le, if_true, if_false, Int.natCast_nonneg, decide_true, decide_false, Bool.not_true, Bool.not_false, Bool.false_eq_true, Bool.not_eq_true, Bool.true_and, Bool.and_true, Bool.false_and, Bool.and_false, aW.fB, hnum, hc, htk, hin, e', htl]
theorem cE.loop {k : Nat} {a b : List Int} (hl : a.length = b.length) (ha : a.length ≤ 1048576) : ∀ (m j i : Nat), i + m = a.length → m < j → cE.L0 k j i a b = some (decide (a.drop i = b.drop i))
  | m, 0, i, _, hj => by omega
  | 0, j + 1, i, hi, _ => by
    rw [cE.bu]
    have e : i = a.length := by omega
    subst e
    simp [hl]
  | m + 1, j + 1, i, hi, hj => by
    rw [cE.bu]
    have h1 : i < a.length := by omega
    have h2 : i < b.length := by omega
    have ih := cE.loop (k := k) hl ha m j (i + 1) (by omega) (by omega)
    rw [Int.natCast_succ] at ih
    rw [Pu.drop_cons h1 0, Pu.drop_cons h2 0]
    by_cases e : a.getD i 0 = b.getD i 0 <;> simp (disch := omega) only [an, bm, bn, aG, aB, az, aE, bk, al, aF, bo, bp, Pu.w64, Int.toNat_natCast, decide_eq_true_eq, Int.ofNat_lt, h1, h2, if_true, Int.natCast_nonneg, decide_true, ih, e, List.cons.injEq, true_and, false_and, decide_false, Bool.not_true, Bool.not_false, if_false, Bool.false_eq_true]
theorem cE.is {k : Nat} {a b : List Int} (hk : 4194304 + 1 ≤ k) (ha : a.length ≤ 1048576) : cE k a b = some (decide (a = b)) := by
  obtain ⟨k, rfl⟩ : ∃ k', k = k' + 1 := ⟨k - 1, by omega⟩
  rw [cE.eq]
  by_cases hl : a.length = b.length
  · have h := cE.loop (k := k) hl ha a.length k 0 (by omega) (by omega)
    rw [Int.natCast_zero] at h
    simp only [List.drop_zero] at h
    have hl' : (a.length : Int) = b.length := by omega
    simp only [an, bo, bp, az, aB, hl', decide_true, Bool.not_true, Bool.false_eq_true, if_false, h]
  · have hne : a ≠ b := fun e => hl (by rw [e])
    have hl' : ¬ (a.length : Int) = b.length := by omega
    simp [hl', hne]
theorem bq.loop {k : Nat} {p q : List Int} {a b : List (List Int)} (hk : 4194304 + 1 ≤ k) (hl : a.length = b.length) (ha : a.length ≤ 1048576) (hr : ∀ x ∈ a, x.length ≤ 1048576) : ∀ (m j i : Nat), i + m = a.length → m < j → bq.L1 k j i p a q b = some (decide (a.drop i = b.drop i))
  | m, 0, i, _, hj => by omega
  | 0, j + 1, i, hi, _ => by
    rw [bq.dR]
    have e : i = a.length := by omega
    subst e
    simp [hl]
  | m + 1, j + 1, i, hi, hj => by
    rw [bq.dR]
    have h1 : i < a.length := by omega
    have h2 : i < b.length := by omega
    have ih := bq.loop (k := k) (p := p) (q := q) hk hl ha hr m j (i + 1) (by omega) (by omega)
    rw [Int.natCast_succ] at ih
    have hx : (a.getD i []).length ≤ 1048576 := by rw [Pu.ay h1 []]; exact hr _ (List.getElem_mem h1)
    have hs := cE.is (k := k) (b := b.getD i []) hk hx
    rw [Pu.drop_cons h1 [], Pu.drop_cons h2 []]
    by_cases e : a.getD i [] = b.getD i []
    · rw [e] at hs
      simp (disch := omega) only [↓an, bm, bn, aG, aP, aM, aB, az, aE, bk, aK, aO, ar, au, aN, al, aF, aL, bo, bp, aQ, aR, ab, Pu.w64, Int.toNat_natCast, decide_eq_true_eq, Int.ofNat_lt, Int.ofNat_le, if_true, if_false, Int.natCast_nonneg, decide_true, decide_false, Bool.not_true, Bool.not_false, Bool.false_eq_true, Bool.not_eq_true, Bool.true_and, Bool.and_true, Bool.false_and, Bool.and_false, h1, h2, hs, ih, e, List.cons.injEq, true_and, false_and, eq_self]
    · simp (disch := omega) only [↓an, bm, bn, aG, aP, aM, aB, az, aE, bk, aK, aO, ar, au, aN, al, aF, aL, bo, bp, aQ, aR, ab, Pu.w64, Int.toNat_natCast, decide_eq_true_eq, Int.ofNat_lt, Int.ofNat_le, if_true, if_false, Int.natCast_nonneg, decide_true, decide_false, Bool.not_true, Bool.not_false, Bool.false_eq_true, Bool.not_eq_true, Bool.true_and, Bool.and_true, Bool.false_and, Bool.and_false, h1, h2, hs, ih, e, List.cons.injEq, true_and, false_and]
theorem bq.is {k : Nat} {a b : List Int × List (List Int)} (hk : 4194304 + 2 ≤ k) (h1 : a.1.length ≤ 1048576) (ha : a.2.length ≤ 1048576) (hr : ∀ x ∈ a.2, x.length ≤ 1048576) : bq k a b = some (decide (a = b)) := by
  obtain ⟨k, rfl⟩ : ∃ k', k = k' + 1 := ⟨k - 1, by omega⟩
  obtain ⟨a1, a2⟩ := a
  obtain ⟨b1, b2⟩ := b
  have hs := cE.is (k := k) (a := a1) (b := b1) (by omega) h1
  rw [bq.eq, hs, ab, bq.fB]
  by_cases e1 : a1 = b1
  · subst e1
    by_cases hl : a2.length = b2.length
    · have h := bq.loop (k := k) (p := a1) (q := a1) (a := a2) (b := b2) (by omega) hl ha hr a2.length k 0 (by omega) (by simp only at ha; omega)
      rw [Int.natCast_zero] at h
      simp only [List.drop_zero] at h
      have hl' : (a2.length : Int) = b2.length := by omega
      simp only [↓an, bm, bn, aG, aP, aM, aB, az, aE, bk, aK, aO, ar, au, aN, al, aF, aL, bo, bp, aQ, aR, ab, Pu.w64, Int.toNat_natCast, decide_eq_true_eq, Int.ofNat_lt, Int.ofNat_le, if_true, if_false, Int.natCast_nonneg, decide_true, decide_false, Bool.not_true, Bool.not_false, Bool.false_eq_true, Bool.not_eq_true, Bool.true_and, Bool.and_true, Bool.false_and, Bool.and_false, hl', h, Prod.mk.injEq, true_and, eq_self]
    · have hne : a2 ≠ b2 := fun e => hl (by rw [e])
      have hl' : ¬ (a2.length : Int) = b2.length := by omega
      simp [hl', hne]
  · simp [e1]
theorem cq.loop {k : Nat} {t : Pu.Tab} (hk : 4194304 + 100 ≤ k) (ht : Pu.ig t) : ∀ (m j : Nat) (cur : Pu.Tab) (acc : List Pu.Tab), Pu.ig cur → acc.length + m ≤ 1000000000 → m < j → (∃ d, 1 ≤ d ∧ d ≤ m ∧ Pu.iter d cur = t) → cq.L0 k j (acc ++ [cur]) t.1 t.2 = some (Pu.ku m t cur (acc ++ [cur]))
  | m, 0, cur, acc, _, _, hj, _ => by omega
  | 0, j + 1, cur, acc, _, _, _, hd => by obtain ⟨d, h1, h2, _⟩ := hd; omega
  | m + 1, j + 1, cur, acc, hc, hl, hj, hd => by
    have hp := aW.is (k := k) (t := cur) (by omega) hc.1 hc.2.1 hc.2.2
    have hpo := Pu.sj (t := cur)
    have he := bq.is (k := k) (a := Pu.prom cur) (b := t) (by omega) hpo.1 hpo.2.1 hpo.2.2
    have hlen : (acc ++ [cur]).length = acc.length + 1 := by simp
    have hget : (acc ++ [cur]).getD acc.length ([], []) = cur := by simp
    have hlt : acc.length < acc.length + 1 := by omega
    have e1 : ((acc.length + 1 : Nat) : Int) - 1 = (acc.length : Int) := by omega
    have hap : (acc ++ [cur] ++ [Pu.prom cur]).length ≤ 1099511627776 := by simp; omega
    rw [cq.bu]
    unfold Pu.ku
    have e2 : (((Pu.cJ cur).1.1, (Pu.cJ cur).1.2) : Pu.Tab) = Pu.prom cur := rfl
    have e3 : ((cur.1, cur.2) : Pu.Tab) = cur := rfl
    have e4 : ((t.1, t.2) : Pu.Tab) = t := rfl
    simp (disch := omega) only [↓an, bm, bn, aG, aP, aM, aB, az, aE, bk, aK, aO, ar, au, aN, al, aF, aL, bo, bp, aQ, aR, ab, Pu.w64, Int.toNat_natCast, decide_eq_true_eq, Int.ofNat_lt, Int.ofNat_le, if_true, if_false, Int.natCast_nonneg, decide_true, decide_false, Bool.not_true, Bool.not_false, Bool.false_eq_true, Bool.not_eq_true, Bool.true_and, Bool.and_true, Bool.false_and, Bool.and_false, hlen, e1, hget, hlt, hp, e2, e3, e4, he]
    by_cases c : Pu.prom cur = t
    · rw [if_pos c, if_pos c]
    · have ih := cq.loop hk ht m j (Pu.prom cur) (acc ++ [cur]) hpo (by rw [hlen]; omega) (by omega) (by
        obtain ⟨d, h1, h2, h3⟩ := hd
        cases d with
        | zero => omega
        | succ d =>
          have h3 : Pu.iter d (Pu.prom cur) = t := h3
          refine ⟨d, ?_, by omega, h3⟩
          cases d with
          | zero => exact absurd h3 c
          | succ d => omega)
      rw [if_neg c, if_neg c, if_pos hap, ih]
theorem cq.is {k m : Nat} {t : Pu.Tab} (hk : 4194304 + 110 + m ≤ k) (ht : Pu.ig t) (hm : m ≤ 1000000000) (hd : ∃ d, 1 ≤ d ∧ d ≤ m ∧ Pu.iter d t = t) : cq k t = some (Pu.ku m t t [t]) := by
  obtain ⟨k, rfl⟩ : ∃ k', k = k' + 1 := ⟨k - 1, by omega⟩
  have hc := cD.is (k := k) (t := t) (by omega) ht.1 ht.2.1 ht.2.2
  have hl := cq.loop (k := k) (by omega) ht m k t [] ht (by simpa using hm) (by omega) hd
  rw [cq.eq, show ((t.1, t.2) : Pu.Tab) = t from rfl, hc, ab]
  exact hl
theorem du.is {k m : Nat} {t : Pu.Tab} (hk : 4194304 + 120 + m ≤ k) (ht : Pu.ig t) (hm : m ≤ 1000000000) (hd : (Pu.bc t && Pu.dv t) = true → ∃ d, 1 ≤ d ∧ d ≤ m ∧ Pu.iter d t = t) : du k t = some (if (Pu.bc t && Pu.dv t) = true then Pu.ku m t t [t] else []) := by
  obtain ⟨k, rfl⟩ : ∃ k', k = k' + 1 := ⟨k - 1, by omega⟩
  rw [du.eq, show ((t.1, t.2) : Pu.Tab) = t from rfl, eC.is (by omega) ht.1 ht.2.1 ht.2.2, br.is (by omega) ht.1 ht.2.1 ht.2.2, ab, ab]
  cases hp : Pu.bc t with
  | false => simp
  | true =>
    cases hb : Pu.dv t with
    | false => simp
    | true =>
      have ho := cq.is (k := k) (m := m) (by omega) ht hm (hd (by rw [hp, hb]; rfl))
      simp only [↓an, bm, bn, aG, aP, aM, aB, az, aE, bk, aK, aO, ar, au, aN, al, aF, aL, bo, bp, aQ, aR, ab, Pu.w64, Int.toNat_natCast, decide_eq_true_eq, Int.ofNat_lt, Int.ofNat_le, if_true, if_false, Int.natCast_nonneg, decide_true, decide_false, Bool.not_true, Bool.not_false, Bool.false_eq_true, Bool.not_eq_true, Bool.true_and, Bool.and_true, Bool.false_and, Bool.and_false, ho]
theorem cP.is {k : Nat} {x lo hi : Int} (hk : 1 ≤ k) : cP k x lo hi = some (Pu.within x lo hi) := by
  obtain ⟨k, rfl⟩ : ∃ k', k = k' + 1 := ⟨k - 1, by omega⟩
  rw [cP.eq]
  by_cases h : lo ≤ x <;> simp [Pu.within, h]
theorem aZ.loop {k : Nat} {p : List Int} (hk : 4194304 ≤ k) (hp : p.length ≤ 1048576) : ∀ (m j i : Nat) (s v : Int), i + m = p.length → m < j → (i = 0 → v = 9) → (0 < i → v = p.getD (i - 1) 0) → v ≤ 9 → 0 ≤ s → s ≤ 9 →
    aZ.L0 k j s p.length i p = some (Pu.fF (p.drop i) v s)
  | m, 0, i, s, v, _, hj, _, _, _, _, _ => by omega
  | 0, j + 1, i, s, v, hi, _, _, _, _, _, _ => by
    rw [aZ.bu]
    have e : i = p.length := by omega
    subst e
    simp [Pu.fF]
  | m + 1, j + 1, i, s, v, hi, hj, h0, h1, hv, hs, hs9 => by
    rw [aZ.bu]
    have hlt : i < p.length := by omega
    have hj1 : ∀ x : Int, x = p.getD i 0 → 1 ≤ x → x ≤ v → aZ.J1 k j s x p.length i p = some (decide (s + x ≤ 9) && Pu.fF (p.drop (i + 1)) x (s + x)) := by
      intro x hx hx1 hx2
      rw [aZ.iw]
      simp (disch := omega) only [↓an, bm, bn, aG, aP, aM, aB, az, aE, bk, aK, aO, ar, au, aN, al, aF, aL, bo, bp, aQ, aR, ab, Pu.w64, Int.toNat_natCast, decide_eq_true_eq, Int.ofNat_lt, Int.ofNat_le, if_true, if_false, Int.natCast_nonneg, decide_true, decide_false, Bool.not_true, Bool.not_false, Bool.false_eq_true, Bool.not_eq_true, Bool.true_and, Bool.and_true, Bool.false_and, Bool.and_false]
      by_cases c : 9 < s + x
      · have : ¬ s + x ≤ 9 := by omega
        simp [c, this]
      · have c' : s + x ≤ 9 := by omega
        have ih := aZ.loop hk hp m j (i + 1) (s + x) x (by omega) (by omega) (by omega) (by simp [hx]) (by omega) (by omega) c'
        rw [Int.natCast_succ] at ih
        simp [c, c', ih]
    rw [Pu.drop_cons hlt 0]
    simp (disch := omega) only [↓an, bm, bn, aG, aP, aM, aB, az, aE, bk, aK, aO, ar, au, aN, al, aF, aL, bo, bp, aQ, aR, ab, Pu.w64, Int.toNat_natCast, decide_eq_true_eq, Int.ofNat_lt, Int.ofNat_le, if_true, if_false, Int.natCast_nonneg, decide_true, decide_false, Bool.not_true, Bool.not_false, Bool.false_eq_true, Bool.not_eq_true, Bool.true_and, Bool.and_true, Bool.false_and, Bool.and_false, hlt, cP.is, Pu.fF]
    generalize hx : p.getD i 0 = x at *
    unfold Pu.within
    by_cases c1 : 1 ≤ x
    · by_cases c2 : x ≤ v
      · have c3 : x ≤ 9 := by omega
        have hj := hj1 x rfl c1 c2
        by_cases hi0 : i = 0
        · have hpos : ¬ (0 : Int) < i := by omega
          simp (disch := omega) only [↓an, bm, bn, aG, aP, aM, aB, az, aE, bk, aK, aO, ar, au, aN, al, aF, aL, bo, bp, aQ, aR, ab, Pu.w64, Int.toNat_natCast, decide_eq_true_eq, Int.ofNat_lt, Int.ofNat_le, if_true, if_false, Int.natCast_nonneg, decide_true, decide_false, Bool.not_true, Bool.not_false, Bool.false_eq_true, Bool.not_eq_true, Bool.true_and, Bool.and_true, Bool.false_and, Bool.and_false, c1, c2, c3, hpos, hj]
        · have hv' := h1 (by omega)
          have e : ((i : Int) - 1) = ((i - 1 : Nat) : Int) := by omega
          have hlt' : i - 1 < p.length := by omega
          have hge : ¬ p.getD (i - 1) 0 < x := by rw [← hv']; omega
          have hpos : (0 : Int) < i := by omega
          simp (disch := omega) only [e, ↓an, bm, bn, aG, aP, aM, aB, az, aE, bk, aK, aO, ar, au, aN, al, aF, aL, bo, bp, aQ, aR, ab, Pu.w64, Int.toNat_natCast, decide_eq_true_eq, Int.ofNat_lt, Int.ofNat_le, if_true, if_false, Int.natCast_nonneg, decide_true, decide_false, Bool.not_true, Bool.not_false, Bool.false_eq_true, Bool.not_eq_true, Bool.true_and, Bool.and_true, Bool.false_and, Bool.and_false, hlt', c1, c2, c3, hj, hpos, hge]
      · simp only [c1, c2, ↓an, bm, bn, aG, aP, aM, aB, az, aE, bk, aK, aO, ar, au, aN, al, aF, aL, bo, bp, aQ, aR, ab, Pu.w64, Int.toNat_natCast, decide_eq_true_eq, Int.ofNat_lt, Int.ofNat_le, if_true, if_false, Int.natCast_nonneg, decide_true, decide_false, Bool.not_true, Bool.not_false, Bool.false_eq_true, Bool.not_eq_true, Bool.true_and, Bool.and_true, Bool.false_and, Bool.and_false]
        by_cases c3 : x ≤ 9
        · have hi0 : 0 < i := by
            rcases Nat.eq_zero_or_pos i with h | h
            · have := h0 h; omega
            · exact h
          have hv' := h1 hi0
          have e : ((i : Int) - 1) = ((i - 1 : Nat) : Int) := by omega
          have hlt' : i - 1 < p.length := by omega
          have hge : p.getD (i - 1) 0 < x := by rw [← hv']; omega
          have hpos : (0 : Int) < i := by omega
          simp (disch := omega) only [e, ↓an, bm, bn, aG, aP, aM, aB, az, aE, bk, aK, aO, ar, au, aN, al, aF, aL, bo, bp, aQ, aR, ab, Pu.w64, Int.toNat_natCast, decide_eq_true_eq, Int.ofNat_lt, Int.ofNat_le, if_true, if_false, Int.natCast_nonneg, decide_true, decide_false, Bool.not_true, Bool.not_false, Bool.false_eq_true, Bool.not_eq_true, Bool.true_and, Bool.and_true, Bool.false_and, Bool.and_false, hlt', c3, hpos, hge]
        · simp only [c3, ↓an, bm, bn, aG, aP, aM, aB, az, aE, bk, aK, aO, ar, au, aN, al, aF, aL, bo, bp, aQ, aR, ab, Pu.w64, Int.toNat_natCast, decide_eq_true_eq, Int.ofNat_lt, Int.ofNat_le, if_true, if_false, Int.natCast_nonneg, decide_true, decide_false, Bool.not_true, Bool.not_false, Bool.false_eq_true, Bool.not_eq_true, Bool.true_and, Bool.and_true, Bool.false_and, Bool.and_false]
    · simp only [c1, ↓an, bm, bn, aG, aP, aM, aB, az, aE, bk, aK, aO, ar, au, aN, al, aF, aL, bo, bp, aQ, aR, ab, Pu.w64, Int.toNat_natCast, decide_eq_true_eq, Int.ofNat_lt, Int.ofNat_le, if_true, if_false, Int.natCast_nonneg, decide_true, decide_false, Bool.not_true, Bool.not_false, Bool.false_eq_true, Bool.not_eq_true, Bool.true_and, Bool.and_true, Bool.false_and, Bool.and_false]
theorem aZ.is {k : Nat} {p : List Int} (hk : 4194304 + 1 ≤ k) (hp : p.length ≤ 1048576) : aZ k p = some (Pu.cj p) := by
  obtain ⟨k, rfl⟩ : ∃ k', k = k' + 1 := ⟨k - 1, by omega⟩
  rw [aZ.eq]
  exact aZ.loop (k := k) (by omega) hp p.length k 0 0 9 (by omega) (by omega) (fun _ => rfl) (by omega) (by omega) (by omega) (by omega)
theorem bF.is {k : Nat} {a : List Int} (hk : 1 ≤ k) (ha : a.length ≤ 1099511627776) : bF k a = some a := by
  obtain ⟨k, rfl⟩ : ∃ k', k = k' + 1 := ⟨k - 1, by omega⟩
  rw [bF.eq]
  by_cases h : a.length = 0
  · have : a = [] := List.eq_nil_of_length_eq_zero h
    subst this
    simp [Ay, yE]
  · simp [h, ha]
theorem dF.is {k : Nat} {p : List Int} {i : Int} (hk : 2 ≤ k) (hp : p.length ≤ 1048576) : dF k p i = some (Pu.atI p i) := by
  obtain ⟨k, rfl⟩ : ∃ k', k = k' + 1 := ⟨k - 1, by omega⟩
  rw [dF.eq, cP.is (by omega)]
  unfold Pu.within
  by_cases h1 : 0 ≤ i
  · have h0 : ¬ i < 0 := by omega
    by_cases h2 : i ≤ (p.length : Int) - 1
    · have h4 : i.toNat < p.length := by omega
      simp (disch := omega) only [↓an, bm, bn, aG, aP, aM, aB, az, aE, bk, aK, aO, ar, au, aN, al, aF, aL, bo, bp, aQ, aR, ab, Pu.w64, Int.toNat_natCast, decide_eq_true_eq, Int.ofNat_lt, Int.ofNat_le, if_true, if_false, Int.natCast_nonneg, decide_true, decide_false, Bool.not_true, Bool.not_false, Bool.false_eq_true, Bool.not_eq_true, Bool.true_and, Bool.and_true, Bool.false_and, Bool.and_false, h0, h1, h2, h4, Pu.atI]
    · simp (disch := omega) only [↓an, bm, bn, aG, aP, aM, aB, az, aE, bk, aK, aO, ar, au, aN, al, aF, aL, bo, bp, aQ, aR, ab, Pu.w64, Int.toNat_natCast, decide_eq_true_eq, Int.ofNat_lt, Int.ofNat_le, if_true, if_false, Int.natCast_nonneg, decide_true, decide_false, Bool.not_true, Bool.not_false, Bool.false_eq_true, Bool.not_eq_true, Bool.true_and, Bool.and_true, Bool.false_and, Bool.and_false, h1, h2, Pu.xf (p := p) (i := i) (by omega)]
  · simp (disch := omega) only [↓an, bm, bn, aG, aP, aM, aB, az, aE, bk, aK, aO, ar, au, aN, al, aF, aL, bo, bp, aQ, aR, ab, Pu.w64, Int.toNat_natCast, decide_eq_true_eq, Int.ofNat_lt, Int.ofNat_le, if_true, if_false, Int.natCast_nonneg, decide_true, decide_false, Bool.not_true, Bool.not_false, Bool.false_eq_true, Bool.not_eq_true, Bool.true_and, Bool.and_true, Bool.false_and, Bool.and_false, h1, Pu.lP (p := p) (i := i) (by omega)]
theorem bX.loop {k : Nat} {q p : List Int} (hq : q.length ≤ 1048576) (hp : p.length ≤ 1048576) (hk : 4194304 + 2 ≤ k) : bX.L1 k k q.length 0 p q = some ((List.range' 0 q.length).all fun i => decide (q.getD i 0 ≤ p.getD i 0)) := by
  have h := Pu.jF (fun j i => bX.L1 k j q.length (i : Int) p q) q.length (fun i => decide (q.getD i 0 ≤ p.getD i 0)) (some false) (some true)
    (fun j i hi => by
      rw [bX.dR, dF.is (by omega) hp, Pu.ch]
      simp (disch := omega) only [↓an, bm, bn, aG, aP, aM, aB, az, aE, bk, aK, aO, ar, au, aN, al, aF, aL, bo, bp, aQ, aR, ab, Pu.w64, Int.toNat_natCast, decide_eq_true_eq, Int.ofNat_lt, Int.ofNat_le, if_true, if_false, Int.natCast_nonneg, decide_true, decide_false, Bool.not_true, Bool.not_false, Bool.false_eq_true, Bool.not_eq_true, Bool.true_and, Bool.and_true, Bool.false_and, Bool.and_false, hi, Int.natCast_add, Int.natCast_one]
      by_cases c : q.getD i 0 ≤ p.getD i 0
      · have c' : ¬ p.getD i 0 < q.getD i 0 := by omega
        simp only [c, c', ↓an, bm, bn, aG, aP, aM, aB, az, aE, bk, aK, aO, ar, au, aN, al, aF, aL, bo, bp, aQ, aR, ab, Pu.w64, Int.toNat_natCast, decide_eq_true_eq, Int.ofNat_lt, Int.ofNat_le, if_true, if_false, Int.natCast_nonneg, decide_true, decide_false, Bool.not_true, Bool.not_false, Bool.false_eq_true, Bool.not_eq_true, Bool.true_and, Bool.and_true, Bool.false_and, Bool.and_false]
      · have c' : p.getD i 0 < q.getD i 0 := by omega
        simp only [c, c', ↓an, bm, bn, aG, aP, aM, aB, az, aE, bk, aK, aO, ar, au, aN, al, aF, aL, bo, bp, aQ, aR, ab, Pu.w64, Int.toNat_natCast, decide_eq_true_eq, Int.ofNat_lt, Int.ofNat_le, if_true, if_false, Int.natCast_nonneg, decide_true, decide_false, Bool.not_true, Bool.not_false, Bool.false_eq_true, Bool.not_eq_true, Bool.true_and, Bool.and_true, Bool.false_and, Bool.and_false])
    (fun j => by
      rw [bX.dR]
      simp only [↓an, bm, bn, aG, aP, aM, aB, az, aE, bk, aK, aO, ar, au, aN, al, aF, aL, bo, bp, aQ, aR, ab, Pu.w64, Int.toNat_natCast, decide_eq_true_eq, Int.ofNat_lt, Int.ofNat_le, if_true, if_false, Int.natCast_nonneg, decide_true, decide_false, Bool.not_true, Bool.not_false, Bool.false_eq_true, Bool.not_eq_true, Bool.true_and, Bool.and_true, Bool.false_and, Bool.and_false, Nat.lt_irrefl]) q.length k 0 (by omega) (by omega)
  simp only [Int.natCast_zero] at h
  rw [h]
  cases (List.range' 0 q.length).all fun i => decide (q.getD i 0 ≤ p.getD i 0) <;> simp
theorem bX.is {k : Nat} {q p : List Int} (hk : 4194304 + 3 ≤ k) (hq : q.length ≤ 1048576) (hp : p.length ≤ 1048576) : bX k q p = some (Pu.dp q p) := by
  obtain ⟨k, rfl⟩ : ∃ k', k = k' + 1 := ⟨k - 1, by omega⟩
  rw [bX.eq, aZ.is (by omega) hq, ab, bX.fB, Pu.vH]
  cases c1 : Pu.cj q with
  | false => simp only [↓an, bm, bn, aG, aP, aM, aB, az, aE, bk, aK, aO, ar, au, aN, al, aF, aL, bo, bp, aQ, aR, ab, Pu.w64, Int.toNat_natCast, decide_eq_true_eq, Int.ofNat_lt, Int.ofNat_le, if_true, if_false, Int.natCast_nonneg, decide_true, decide_false, Bool.not_true, Bool.not_false, Bool.false_eq_true, Bool.not_eq_true, Bool.true_and, Bool.and_true, Bool.false_and, Bool.and_false]
  | true =>
    simp only [↓an, bm, bn, aG, aP, aM, aB, az, aE, bk, aK, aO, ar, au, aN, al, aF, aL, bo, bp, aQ, aR, ab, Pu.w64, Int.toNat_natCast, decide_eq_true_eq, Int.ofNat_lt, Int.ofNat_le, if_true, if_false, Int.natCast_nonneg, decide_true, decide_false, Bool.not_true, Bool.not_false, Bool.false_eq_true, Bool.not_eq_true, Bool.true_and, Bool.and_true, Bool.false_and, Bool.and_false]
    rw [aZ.is (by omega) hp, ab]
    cases c2 : Pu.cj p with
    | false => simp only [↓an, bm, bn, aG, aP, aM, aB, az, aE, bk, aK, aO, ar, au, aN, al, aF, aL, bo, bp, aQ, aR, ab, Pu.w64, Int.toNat_natCast, decide_eq_true_eq, Int.ofNat_lt, Int.ofNat_le, if_true, if_false, Int.natCast_nonneg, decide_true, decide_false, Bool.not_true, Bool.not_false, Bool.false_eq_true, Bool.not_eq_true, Bool.true_and, Bool.and_true, Bool.false_and, Bool.and_false]
    | true =>
      simp only [↓an, bm, bn, aG, aP, aM, aB, az, aE, bk, aK, aO, ar, au, aN, al, aF, aL, bo, bp, aQ, aR, ab, Pu.w64, Int.toNat_natCast, decide_eq_true_eq, Int.ofNat_lt, Int.ofNat_le, if_true, if_false, Int.natCast_nonneg, decide_true, decide_false, Bool.not_true, Bool.not_false, Bool.false_eq_true, Bool.not_eq_true, Bool.true_and, Bool.and_true, Bool.false_and, Bool.and_false]
      exact bX.loop hq hp (by omega)
theorem fJ.is {k : Nat} {s : List Int × List Int} (hk : 4194304 + 4 ≤ k) (hq : s.1.length ≤ 1048576) (hp : s.2.length ≤ 1048576) : fJ k s = some (Pu.dp s.2 s.1) := by
  obtain ⟨k, rfl⟩ : ∃ k', k = k' + 1 := ⟨k - 1, by omega⟩
  rw [fJ.eq, bX.is (by omega) hp hq]
  rfl
theorem b7.loop {k : Nat} {t : Pu.Tab} {x3 x4 : List Int} (hk : 4194304 + 4 ≤ k) (hi : Pu.cj t.1 = true) (h2 : t.2.length ≤ 1048576) (hr : ∀ x ∈ t.2, x.length ≤ 1048576) : ∀ (m j i : Nat) (acc : List Int), i + m = t.2.length → m < j → acc.length = i →
    b7.L1 k j t.2.length i t.2 t.1 x3 x4 acc t.1 = some (if Pu.dp t.1 (acc ++ Pu.dZ t.1 i (t.2.drop i)) = true then ((acc ++ Pu.dZ t.1 i (t.2.drop i), t.1), true) else (([], []), false))
  | m, 0, i, acc, _, hj, _ => by omega
  | 0, j + 1, i, acc, hm, _, hacc => by
    rw [b7.dR]
    have e : i = t.2.length := by omega
    have h9 := (Pu.b6 hi).2.2.1
    have hlt : ¬ i < t.2.length := by omega
    rw [fJ.is (by omega) (by simp only; omega) (by simp only; omega), e]
    simp only [↓an, bm, bn, aG, aP, aM, aB, az, aE, bk, aK, aO, ar, au, aN, al, aF, aL, bo, bp, aQ, aR, ab, Pu.w64, Int.toNat_natCast, decide_eq_true_eq, Int.ofNat_lt, Int.ofNat_le, if_true, if_false, Int.natCast_nonneg, decide_true, decide_false, Bool.not_true, Bool.not_false, Bool.false_eq_true, Bool.not_eq_true, Bool.true_and, Bool.and_true, Bool.false_and, Bool.and_false, Nat.lt_irrefl, List.drop_length, Pu.dZ, List.append_nil]
    cases Pu.dp t.1 acc <;> simp
  | m + 1, j + 1, i, acc, hm, hj, hacc => by
    rw [b7.dR]
    have hlt : i < t.2.length := by omega
    have hb := Pu.cS hi i
    have h9 := (Pu.b6 hi).2.2.1
    have hrow := hr t.2[i] (List.getElem_mem hlt)
    rw [← Pu.ay hlt []] at hrow
    rw [dF.is (by omega) (by omega)]
    have ih := b7.loop (x3 := x3) (x4 := x4) hk hi h2 hr m j (i + 1) (acc ++ [Pu.atI t.1 i + (t.2.getD i []).length]) (by omega) (by omega) (by simp [hacc])
    rw [Int.natCast_succ] at ih
    rw [Pu.drop_cons hlt []]
    have hl : (acc ++ [Pu.atI t.1 i + ((t.2.getD i []).length : Int)]).length ≤ 1099511627776 := by simp; omega
    simp (disch := omega) only [↓an, bm, bn, aG, aP, aM, aB, az, aE, bk, aK, aO, ar, au, aN, al, aF, aL, bo, bp, aQ, aR, ab, Pu.w64, Int.toNat_natCast, decide_eq_true_eq, Int.ofNat_lt, Int.ofNat_le, if_true, if_false, Int.natCast_nonneg, decide_true, decide_false, Bool.not_true, Bool.not_false, Bool.false_eq_true, Bool.not_eq_true, Bool.true_and, Bool.and_true, Bool.false_and, Bool.and_false, hlt, hl, ih, Pu.dZ]
    simp only [List.append_assoc, List.singleton_append, Pu.ch]
    rfl
theorem b7.is {k : Nat} {t : Pu.Tab} (hk : 4194304 + 5 ≤ k) (h1 : t.1.length ≤ 1048576) (h2 : t.2.length ≤ 1048576) (hr : ∀ x ∈ t.2, x.length ≤ 1048576) : b7 k t = some (Pu.shapeOf t) := by
  obtain ⟨k, rfl⟩ : ∃ k', k = k' + 1 := ⟨k - 1, by omega⟩
  rw [b7.eq, aZ.is (by omega) h1, b7.fB, bF.is (by omega) (by omega)]
  simp only [↓an, bm, bn, aG, aP, aM, aB, az, aE, bk, aK, aO, ar, au, aN, al, aF, aL, bo, bp, aQ, aR, ab, Pu.w64, Int.toNat_natCast, decide_eq_true_eq, Int.ofNat_lt, Int.ofNat_le, if_true, if_false, Int.natCast_nonneg, decide_true, decide_false, Bool.not_true, Bool.not_false, Bool.false_eq_true, Bool.not_eq_true, Bool.true_and, Bool.and_true, Bool.false_and, Bool.and_false]
  unfold Pu.shapeOf
  cases c1 : Pu.cj t.1 with
  | false =>
    have : Pu.cU t = false := by unfold Pu.cU; rw [c1]; rfl
    simp only [this, ↓an, bm, bn, aG, aP, aM, aB, az, aE, bk, aK, aO, ar, au, aN, al, aF, aL, bo, bp, aQ, aR, ab, Pu.w64, Int.toNat_natCast, decide_eq_true_eq, Int.ofNat_lt, Int.ofNat_le, if_true, if_false, Int.natCast_nonneg, decide_true, decide_false, Bool.not_true, Bool.not_false, Bool.false_eq_true, Bool.not_eq_true, Bool.true_and, Bool.and_true, Bool.false_and, Bool.and_false]
  | true =>
    by_cases c2 : t.2.length < t.1.length
    · have : Pu.cU t = false := by
        have : ¬ t.1.length ≤ t.2.length := by omega
        unfold Pu.cU; simp [this]
      simp only [this, c2, ↓an, bm, bn, aG, aP, aM, aB, az, aE, bk, aK, aO, ar, au, aN, al, aF, aL, bo, bp, aQ, aR, ab, Pu.w64, Int.toNat_natCast, decide_eq_true_eq, Int.ofNat_lt, Int.ofNat_le, if_true, if_false, Int.natCast_nonneg, decide_true, decide_false, Bool.not_true, Bool.not_false, Bool.false_eq_true, Bool.not_eq_true, Bool.true_and, Bool.and_true, Bool.false_and, Bool.and_false]
    · have c2' : t.1.length ≤ t.2.length := by omega
      have hloop := b7.loop (k := k) (t := t) (x3 := []) (x4 := []) (by omega) c1 h2 hr t.2.length k 0 [] (by omega) (by omega) rfl
      rw [Int.natCast_zero] at hloop
      simp only [c2, ↓an, bm, bn, aG, aP, aM, aB, az, aE, bk, aK, aO, ar, au, aN, al, aF, aL, bo, bp, aQ, aR, ab, Pu.w64, Int.toNat_natCast, decide_eq_true_eq, Int.ofNat_lt, Int.ofNat_le, if_true, if_false, Int.natCast_nonneg, decide_true, decide_false, Bool.not_true, Bool.not_false, Bool.false_eq_true, Bool.not_eq_true, Bool.true_and, Bool.and_true, Bool.false_and, Bool.and_false]
      rw [hloop]
      have : Pu.cU t = Pu.dp t.1 (Pu.outer t) := by unfold Pu.cU; simp [c1, c2']
      rw [this]
      rfl
theorem dc.is {k : Nat} {t : Pu.Tab} {r c : Int} (hk : 3 ≤ k) (hi : Pu.cj t.1 = true) (ht : t.2.length ≤ 1048576) (hr : ∀ x ∈ t.2, x.length ≤ 1048576) (h1 : -1000000000 ≤ c) (h2 : c ≤ 1000000000) : dc k t r c = some (Pu.entry t r c) := by
  obtain ⟨k, rfl⟩ : ∃ k', k = k' + 1 := ⟨k - 1, by omega⟩
  have hb := Pu.cS hi r
  have h9 := (Pu.b6 hi).2.2.1
  rw [dc.eq, cP.is (by omega)]
  unfold Pu.entry Pu.within
  by_cases c1 : r < 0
  · have c1' : ¬ 0 ≤ r := by omega
    simp (disch := omega) only [↓an, bm, bn, aG, aP, aM, aB, az, aE, bk, aK, aO, ar, au, aN, al, aF, aL, bo, bp, aQ, aR, ab, Pu.w64, Int.toNat_natCast, decide_eq_true_eq, Int.ofNat_lt, Int.ofNat_le, if_true, if_false, Int.natCast_nonneg, decide_true, decide_false, Bool.not_true, Bool.not_false, Bool.false_eq_true, Bool.not_eq_true, Bool.true_and, Bool.and_true, Bool.false_and, Bool.and_false, c1, c1']
  · have c3 : 0 ≤ r := by omega
    by_cases c2 : (t.2.length : Int) ≤ r
    · have c2' : ¬ r ≤ (t.2.length : Int) - 1 := by omega
      simp (disch := omega) only [↓an, bm, bn, aG, aP, aM, aB, az, aE, bk, aK, aO, ar, au, aN, al, aF, aL, bo, bp, aQ, aR, ab, Pu.w64, Int.toNat_natCast, decide_eq_true_eq, Int.ofNat_lt, Int.ofNat_le, if_true, if_false, Int.natCast_nonneg, decide_true, decide_false, Bool.not_true, Bool.not_false, Bool.false_eq_true, Bool.not_eq_true, Bool.true_and, Bool.and_true, Bool.false_and, Bool.and_false, c1, c3, c2, c2']
    · have c2' : r ≤ (t.2.length : Int) - 1 := by omega
      have c4 : r.toNat < t.2.length := by omega
      have hx := hr _ (List.getElem_mem c4)
      rw [← Pu.ay c4 []] at hx
      simp (disch := omega) only [↓an, bm, bn, aG, aP, aM, aB, az, aE, bk, aK, aO, ar, au, aN, al, aF, aL, bo, bp, aQ, aR, ab, Pu.w64, Int.toNat_natCast, decide_eq_true_eq, Int.ofNat_lt, Int.ofNat_le, if_true, if_false, Int.natCast_nonneg, decide_true, decide_false, Bool.not_true, Bool.not_false, Bool.false_eq_true, Bool.not_eq_true, Bool.true_and, Bool.and_true, Bool.false_and, Bool.and_false, c1, c2, c2', c3, c4, dF.is]
theorem aH.inner {k k1 : Nat} {t : Pu.Tab} {r : Nat} (hk : 4194304 ≤ k) (hi : Pu.cj t.1 = true) (ht : t.2.length ≤ 1048576) (hr : ∀ x ∈ t.2, x.length ≤ 1048576) (hlt : r < t.2.length) (n : Int) :
    aH.L1 k k1 k r r n r r (t.2.getD r []).length 0 t.2 t.1 = if ((List.range' 0 (t.2.getD r []).length).all fun q => Pu.eA t r q) = true then aH.L0 k k1 n ((r : Int) + 1) t.2 t.1 else some false := by
  have hx := hr _ (List.getElem_mem hlt)
  rw [← Pu.ay hlt []] at hx
  have hb := Pu.cS hi r
  have h9 := (Pu.b6 hi).2.2.1
  have h := Pu.jF (fun j q => aH.L1 k k1 j r r n r r (t.2.getD r []).length (q : Int) t.2 t.1) (t.2.getD r []).length (fun q => Pu.eA t r q) (some false) (aH.L0 k k1 n ((r : Int) + 1) t.2 t.1)
    (fun j q hq => by
      have e3 := dc.is (k := k) (t := t) (r := (r : Int) - 1) (c := t.1.getD r 0 + q) (by omega) hi ht hr (by rw [Pu.ch] at hb; omega) (by rw [Pu.ch] at hb; omega)
      have ea := dF.is (k := k) (p := t.1) (i := r) (by omega) (by omega)
      rw [Pu.ch] at ea
      rw [Pu.ch] at hb
      rw [aH.dR]
      simp (maxSteps := 10000000) (disch := omega) only [↓an, bm, bn, aG, aP, aM, aB, az, aE, bk, aK, aO, ar, au, aN, al, aF, aL, bo, bp, aQ, aR, ab, Pu.w64, Int.toNat_natCast, decide_eq_true_eq, Int.ofNat_lt, Int.ofNat_le, if_true, if_false, Int.natCast_nonneg, decide_true, decide_false, Bool.not_true, Bool.not_false, Bool.false_eq_true, Bool.not_eq_true, Bool.true_and, Bool.and_true, Bool.false_and, Bool.and_false, hlt, hq, cP.is, ea, e3, aH.oz, Int.natCast_add, Int.natCast_one]
      unfold Pu.eA
      generalize hx0 : (t.2.getD r []).getD q 0 = x at *
      cases Pu.within x 1 9 with
      | false => simp
      | true =>
        have up : (if (0 : Int) < r then (if x ≤ Pu.entry t ((r : Int) - 1) (t.1.getD r 0 + q) then some false else aH.L1 k k1 j r r n r r (t.2.getD r []).length ((q : Int) + 1) t.2 t.1) else aH.L1 k k1 j r r n r r (t.2.getD r []).length ((q : Int) + 1) t.2 t.1) =
            if (decide (r = 0) || decide (Pu.entry t ((r : Int) - 1) (t.1.getD r 0 + q) < x)) = true then aH.L1 k k1 j r r n r r (t.2.getD r []).length ((q : Int) + 1) t.2 t.1 else some false := by
          by_cases e : r = 0
          · subst e; simp
          · have e' : (0 : Int) < r := by omega
            by_cases c : x ≤ Pu.entry t ((r : Int) - 1) (t.1.getD r 0 + q)
            · have c' : ¬ Pu.entry t ((r : Int) - 1) (t.1.getD r 0 + q) < x := by omega
              simp only [e', c, c', e, if_true, if_false, decide_false, Bool.or_false, Bool.false_eq_true]
            · have c' : Pu.entry t ((r : Int) - 1) (t.1.getD r 0 + q) < x := by omega
              simp only [e', c, c', e, if_true, if_false, decide_true, decide_false, Bool.false_or]
        by_cases e : q = 0
        · have e' : ¬ (0 : Int) < q := by omega
          simp only [e', e, ↓an, bm, bn, aG, aP, aM, aB, az, aE, bk, aK, aO, ar, au, aN, al, aF, aL, bo, bp, aQ, aR, ab, Pu.w64, Int.toNat_natCast, decide_eq_true_eq, Int.ofNat_lt, Int.ofNat_le, if_true, if_false, Int.natCast_nonneg, decide_true, decide_false, Bool.not_true, Bool.not_false, Bool.false_eq_true, Bool.not_eq_true, Bool.true_and, Bool.and_true, Bool.false_and, Bool.and_false, Bool.true_or]
          rw [e] at up
          exact up
        · have e' : (0 : Int) < q := by omega
          have eq : (q : Int) - 1 = ((q - 1 : Nat) : Int) := by omega
          have hq' : q - 1 < (t.2.getD r []).length := by omega
          simp (disch := omega) only [e', e, ↓an, bm, bn, aG, aP, aM, aB, az, aE, bk, aK, aO, ar, au, aN, al, aF, aL, bo, bp, aQ, aR, ab, Pu.w64, Int.toNat_natCast, decide_eq_true_eq, Int.ofNat_lt, Int.ofNat_le, if_true, if_false, Int.natCast_nonneg, decide_true, decide_false, Bool.not_true, Bool.not_false, Bool.false_eq_true, Bool.not_eq_true, Bool.true_and, Bool.and_true, Bool.false_and, Bool.and_false, eq, hq', Bool.false_or]
          by_cases c : x < (t.2.getD r []).getD (q - 1) 0
          · have c' : ¬ (t.2.getD r []).getD (q - 1) 0 ≤ x := by omega
            simp only [c, c', ↓an, bm, bn, aG, aP, aM, aB, az, aE, bk, aK, aO, ar, au, aN, al, aF, aL, bo, bp, aQ, aR, ab, Pu.w64, Int.toNat_natCast, decide_eq_true_eq, Int.ofNat_lt, Int.ofNat_le, if_true, if_false, Int.natCast_nonneg, decide_true, decide_false, Bool.not_true, Bool.not_false, Bool.false_eq_true, Bool.not_eq_true, Bool.true_and, Bool.and_true, Bool.false_and, Bool.and_false]
          · have c' : (t.2.getD r []).getD (q - 1) 0 ≤ x := by omega
            simp only [c, c', ↓an, bm, bn, aG, aP, aM, aB, az, aE, bk, aK, aO, ar, au, aN, al, aF, aL, bo, bp, aQ, aR, ab, Pu.w64, Int.toNat_natCast, decide_eq_true_eq, Int.ofNat_lt, Int.ofNat_le, if_true, if_false, Int.natCast_nonneg, decide_true, decide_false, Bool.not_true, Bool.not_false, Bool.false_eq_true, Bool.not_eq_true, Bool.true_and, Bool.and_true, Bool.false_and, Bool.and_false]
            exact up)
    (fun j => by
      rw [aH.dR]
      simp (maxSteps := 10000000) (disch := omega) only [↓an, bm, bn, aG, aP, aM, aB, az, aE, bk, aK, aO, ar, au, aN, al, aF, aL, bo, bp, aQ, aR, ab, Pu.w64, Int.toNat_natCast, decide_eq_true_eq, Int.ofNat_lt, Int.ofNat_le, if_true, if_false, Int.natCast_nonneg, decide_true, decide_false, Bool.not_true, Bool.not_false, Bool.false_eq_true, Bool.not_eq_true, Bool.true_and, Bool.and_true, Bool.false_and, Bool.and_false, Nat.lt_irrefl]) (t.2.getD r []).length k 0 (by omega) (by omega)
  simp only [Int.natCast_zero] at h
  exact h
theorem aH.is {k : Nat} {t : Pu.Tab} (hk : 4194304 + 6 ≤ k) (h1 : t.1.length ≤ 1048576) (ht : t.2.length ≤ 1048576) (hr : ∀ x ∈ t.2, x.length ≤ 1048576) : aH k t = some (Pu.dU t) := by
  obtain ⟨k, rfl⟩ : ∃ k', k = k' + 1 := ⟨k - 1, by omega⟩
  rw [aH.eq, b7.is (by omega) h1 ht hr, ab]
  unfold Pu.dU Pu.shapeOf
  cases hs : Pu.cU t with
  | false => simp [hs]
  | true =>
    have hi : Pu.cj t.1 = true := by
      simp only [Pu.cU, Bool.and_eq_true] at hs; exact hs.1
    have h := Pu.jF (fun j r => aH.L0 k j t.2.length r t.2 t.1) t.2.length (fun r => (List.range' 0 (t.2.getD r []).length).all fun q => Pu.eA t r q) (some false) (some true)
      (fun j r hlt => by
        rw [aH.bu]
        simp (disch := omega) only [↓an, bm, bn, aG, aP, aM, aB, az, aE, bk, aK, aO, ar, au, aN, al, aF, aL, bo, bp, aQ, aR, ab, Pu.w64, Int.toNat_natCast, decide_eq_true_eq, Int.ofNat_lt, Int.ofNat_le, if_true, if_false, Int.natCast_nonneg, decide_true, decide_false, Bool.not_true, Bool.not_false, Bool.false_eq_true, Bool.not_eq_true, Bool.true_and, Bool.and_true, Bool.false_and, Bool.and_false, hlt, aH.inner (k1 := j) (show 4194304 ≤ k by omega) hi ht hr hlt, Int.natCast_add, Int.natCast_one])
      (fun j => by
        rw [aH.bu]
        simp (disch := omega) only [↓an, bm, bn, aG, aP, aM, aB, az, aE, bk, aK, aO, ar, au, aN, al, aF, aL, bo, bp, aQ, aR, ab, Pu.w64, Int.toNat_natCast, decide_eq_true_eq, Int.ofNat_lt, Int.ofNat_le, if_true, if_false, Int.natCast_nonneg, decide_true, decide_false, Bool.not_true, Bool.not_false, Bool.false_eq_true, Bool.not_eq_true, Bool.true_and, Bool.and_true, Bool.false_and, Bool.and_false, Nat.lt_irrefl]) t.2.length k 0 (by omega) (by omega)
    simp only [Int.natCast_zero] at h
    simp only [if_true, ↓an, bm, bn, aG, aP, aM, aB, az, aE, bk, aK, aO, ar, au, aN, al, aF, aL, bo, bp, aQ, aR, ab, Pu.w64, Int.toNat_natCast, decide_eq_true_eq, Int.ofNat_lt, Int.ofNat_le, if_true, if_false, Int.natCast_nonneg, decide_true, decide_false, Bool.not_true, Bool.not_false, Bool.false_eq_true, Bool.not_eq_true, Bool.true_and, Bool.and_true, Bool.false_and, Bool.and_false]
    rw [h]
    cases (List.range' 0 t.2.length).all fun r => (List.range' 0 (t.2.getD r []).length).all fun q => Pu.eA t r q <;> simp
theorem fE.is {k : Nat} {t : Pu.Tab} (hk : 4194304 + 7 ≤ k) (h1 : t.1.length ≤ 1048576) (ht : t.2.length ≤ 1048576) (hr : ∀ x ∈ t.2, x.length ≤ 1048576) : fE k t = some (Pu.bc t) := by
  obtain ⟨k, rfl⟩ : ∃ k', k = k' + 1 := ⟨k - 1, by omega⟩
  rw [fE.eq, aH.is (by omega) h1 ht hr, ab]
  unfold Pu.bc
  by_cases h : t.1.length = 0 <;> simp [h]
theorem ai.app {k : Nat} {a : List (List Int)} (ha : a.length ≤ 1048576) (hf : a.flatten.length ≤ 1099511627776) : ∀ (m j i : Nat), i + m = a.length → m < j →
    ai.L4 k j a.length i (a.take i).flatten a = some a.flatten
  | m, 0, i, _, hj => by omega
  | 0, j + 1, i, hm, _ => by
    rw [ai.vl]
    have e : i = a.length := by omega
    subst e
    simp
  | m + 1, j + 1, i, hm, hj => by
    rw [ai.vl]
    have hlt : i < a.length := by omega
    have ih := ai.app (k := k) ha hf m j (i + 1) (by omega) (by omega)
    rw [Int.natCast_succ, Pu.take_succ hlt []] at ih
    have hl : ((a.take i).flatten ++ a.getD i []).length ≤ 1099511627776 := by
      refine Nat.le_trans ?_ hf
      have e : a.flatten = (a.take i).flatten ++ (a.drop i).flatten := by rw [← List.flatten_append, List.take_append_drop]
      rw [e, Pu.drop_cons hlt []]
      simp only [List.flatten_cons, List.length_append]
      omega
    simp only [List.flatten_append, List.flatten_cons, List.flatten_nil, List.append_nil] at ih
    simp (disch := omega) only [↓an, bm, bn, aG, aP, aM, aB, az, aE, bk, aK, aO, ar, au, aN, al, aF, aL, bo, bp, aQ, aR, ab, Pu.w64, Int.toNat_natCast, decide_eq_true_eq, Int.ofNat_lt, Int.ofNat_le, if_true, if_false, Int.natCast_nonneg, decide_true, decide_false, Bool.not_true, Bool.not_false, Bool.false_eq_true, Bool.not_eq_true, Bool.true_and, Bool.and_true, Bool.false_and, Bool.and_false, hlt, hl, ih]
theorem ai.tail {k : Nat} {a : List (List Int)} {y : List Int} (hk : 4194304 ≤ k) (ha : a.length ≤ 1048576) (hf : a.flatten.length ≤ 1099511627776) : ai.L3 k (HAdd.hAdd k 1) 0 0 a.length 0 y a = some a.flatten := by
  rw [ai.rF]
  by_cases h0 : a.length = 0
  · have : a = [] := List.eq_nil_of_length_eq_zero h0
    subst this
    simp
  · have hlt : 0 < a.length := by omega
    have h := ai.app (k := k) ha hf (a.length - 1) k 1 (by omega) (by omega)
    have e : (a.take 1).flatten = a.getD 0 [] := by rw [Pu.take_succ hlt []]; simp
    rw [e] at h
    have hl : (a.getD 0 []).length ≤ 1099511627776 := by
      refine Nat.le_trans ?_ hf
      have e2 : a.flatten = (a.take 1).flatten ++ (a.drop 1).flatten := by rw [← List.flatten_append, List.take_append_drop]
      rw [e2, e]
      simp
    have hlt' : (0 : Int) < a.length := by omega
    simp (disch := omega) only [↓an, bm, bn, aG, aP, aM, aB, az, aE, bk, aK, aO, ar, au, aN, al, aF, aL, bo, bp, aQ, aR, ab, Pu.w64, Int.toNat_natCast, decide_eq_true_eq, Int.ofNat_lt, Int.ofNat_le, if_true, if_false, Int.natCast_nonneg, decide_true, decide_false, Bool.not_true, Bool.not_false, Bool.false_eq_true, Bool.not_eq_true, Bool.true_and, Bool.and_true, Bool.false_and, Bool.and_false, hlt, hlt', hl, List.take_zero, List.nil_append, Int.toNat_zero, Int.zero_add]
    simpa using h
theorem ai.loop {k : Nat} {a : List (List Int)} (hk : 4194304 ≤ k) (ha : a.length ≤ 1048576) (hf : a.flatten.length ≤ 1099511627776) : ∀ (m j i : Nat), i + m = a.length → m < j →
    ai.L0 k j (a.take i).flatten.length a.length i a = some a.flatten
  | m, 0, i, _, hj => by omega
  | 0, j + 1, i, hm, _ => by
    rw [ai.bu, ai.oz]
    have e : i = a.length := by omega
    subst e
    rw [List.take_length]
    have hn : ¬ ((a.flatten.length : Nat) : Int) < 0 := by omega
    simp (disch := omega) only [↓an, bm, bn, aG, aP, aM, aB, az, aE, bk, aK, aO, ar, au, aN, al, aF, aL, bo, bp, aQ, aR, ab, Pu.w64, Int.toNat_natCast, decide_eq_true_eq, Int.ofNat_lt, Int.ofNat_le, if_true, if_false, Int.natCast_nonneg, decide_true, decide_false, Bool.not_true, Bool.not_false, Bool.false_eq_true, Bool.not_eq_true, Bool.true_and, Bool.and_true, Bool.false_and, Bool.and_false, Nat.lt_irrefl, hn, Int.sub_zero, Int.sub_self]
    by_cases h0 : a.flatten.length = 0
    · have h0' : ¬ (0 : Int) < (a.flatten.length : Nat) := by omega
      have h := ai.app (k := k) ha hf a.length (k + 1) 0 (by omega) (by omega)
      simp only [h0', ↓an, bm, bn, aG, aP, aM, aB, az, aE, bk, aK, aO, ar, au, aN, al, aF, aL, bo, bp, aQ, aR, ab, Pu.w64, Int.toNat_natCast, decide_eq_true_eq, Int.ofNat_lt, Int.ofNat_le, if_true, if_false, Int.natCast_nonneg, decide_true, decide_false, Bool.not_true, Bool.not_false, Bool.false_eq_true, Bool.not_eq_true, Bool.true_and, Bool.and_true, Bool.false_and, Bool.and_false]
      simpa using h
    · have h0' : (0 : Int) < (a.flatten.length : Nat) := by omega
      have h1 : (1 : Int) ≤ (a.flatten.length : Nat) := by omega
      simp (disch := omega) only [h0', h1, hf, ↓an, bm, bn, aG, aP, aM, aB, az, aE, bk, aK, aO, ar, au, aN, al, aF, aL, bo, bp, aQ, aR, ab, Pu.w64, Int.toNat_natCast, decide_eq_true_eq, Int.ofNat_lt, Int.ofNat_le, if_true, if_false, Int.natCast_nonneg, decide_true, decide_false, Bool.not_true, Bool.not_false, Bool.false_eq_true, Bool.not_eq_true, Bool.true_and, Bool.and_true, Bool.false_and, Bool.and_false, Int.toNat_zero, Nat.le_refl, Int.le_refl, List.length_replicate, Nat.zero_le, n9, Nat.sub_self]
      exact ai.tail hk ha hf
  | m + 1, j + 1, i, hm, hj => by
    rw [ai.bu]
    have hlt : i < a.length := by omega
    have ih := ai.loop (k := k) hk ha hf m j (i + 1) (by omega) (by omega)
    rw [Int.natCast_succ, Pu.take_succ hlt []] at ih
    have hl : ((a.take i).flatten ++ a.getD i []).length ≤ 1099511627776 := by
      refine Nat.le_trans ?_ hf
      have e : a.flatten = (a.take i).flatten ++ (a.drop i).flatten := by rw [← List.flatten_append, List.take_append_drop]
      rw [e, Pu.drop_cons hlt []]
      simp only [List.flatten_cons, List.length_append]
      omega
    simp only [List.flatten_append, List.flatten_cons, List.flatten_nil, List.append_nil, List.length_append, Int.natCast_add] at ih hl
    have hn : ¬ (((a.take i).flatten.length : Int) + (a.getD i []).length < 0) := by omega
    simp (disch := omega) only [↓an, bm, bn, aG, aP, aM, aB, az, aE, bk, aK, aO, ar, au, aN, al, aF, aL, bo, bp, aQ, aR, ab, Pu.w64, Int.toNat_natCast, decide_eq_true_eq, Int.ofNat_lt, Int.ofNat_le, if_true, if_false, Int.natCast_nonneg, decide_true, decide_false, Bool.not_true, Bool.not_false, Bool.false_eq_true, Bool.not_eq_true, Bool.true_and, Bool.and_true, Bool.false_and, Bool.and_false, hlt, hn, ai.iw, ih]
theorem ai.is {k : Nat} {a : List (List Int)} (hk : 4194304 + 2 ≤ k) (ha : a.length ≤ 1048576) (hf : a.flatten.length ≤ 1099511627776) : ai k a = some a.flatten := by
  obtain ⟨k, rfl⟩ : ∃ k', k = k' + 2 := ⟨k - 2, by omega⟩
  rw [ai.eq]
  exact ai.loop (k := k) (by omega) ha hf a.length (k + 1) 0 (by omega) (by omega)
theorem bD.is {k : Nat} {r : List Int} {x : Int} (hk : 4194304 + 1 ≤ k) (hr : r.length ≤ 1048577) : bD k r x = some (Pu.zR (fun y => decide (x = y)) r) := by
  obtain ⟨k, rfl⟩ : ∃ k', k = k' + 1 := ⟨k - 1, by omega⟩
  rw [bD.eq]
  have h := Pu.wk r 0 (fun y => decide (x = y)) (fun j i => bD.L0 k j x r.length i r) (fun i => some (i : Int)) (some (-1))
    (fun j i hi => by
      rw [bD.bu]
      by_cases c : x = r.getD i 0
      · simp (disch := omega) only [↓an, bm, bn, aG, aP, aM, aB, az, aE, bk, aK, aO, ar, au, aN, al, aF, aL, bo, bp, aQ, aR, ab, Pu.w64, Int.toNat_natCast, decide_eq_true_eq, Int.ofNat_lt, Int.ofNat_le, if_true, if_false, Int.natCast_nonneg, decide_true, decide_false, Bool.not_true, Bool.not_false, Bool.false_eq_true, Bool.not_eq_true, Bool.true_and, Bool.and_true, Bool.false_and, Bool.and_false, hi, ← c]
      · simp (disch := omega) only [↓an, bm, bn, aG, aP, aM, aB, az, aE, bk, aK, aO, ar, au, aN, al, aF, aL, bo, bp, aQ, aR, ab, Pu.w64, Int.toNat_natCast, decide_eq_true_eq, Int.ofNat_lt, Int.ofNat_le, if_true, if_false, Int.natCast_nonneg, decide_true, decide_false, Bool.not_true, Bool.not_false, Bool.false_eq_true, Bool.not_eq_true, Bool.true_and, Bool.and_true, Bool.false_and, Bool.and_false, hi, c, Int.natCast_add, Int.natCast_one])
    (fun j => by
      rw [bD.bu]
      simp only [↓an, bm, bn, aG, aP, aM, aB, az, aE, bk, aK, aO, ar, au, aN, al, aF, aL, bo, bp, aQ, aR, ab, Pu.w64, Int.toNat_natCast, decide_eq_true_eq, Int.ofNat_lt, Int.ofNat_le, if_true, if_false, Int.natCast_nonneg, decide_true, decide_false, Bool.not_true, Bool.not_false, Bool.false_eq_true, Bool.not_eq_true, Bool.true_and, Bool.and_true, Bool.false_and, Bool.and_false, Nat.lt_irrefl]) r.length k 0 (by omega) (by omega) (by omega)
  simp only [Int.natCast_zero] at h
  simp only [az, aB]
  rw [h]
  unfold Pu.zR
  split <;> rfl
theorem bW.is {k : Nat} {r : List Int} {x : Int} (hk : 4194304 + 2 ≤ k) (hr : r.length ≤ 1048577) : bW k r x = some (Pu.has r x) := by
  obtain ⟨k, rfl⟩ : ∃ k', k = k' + 1 := ⟨k - 1, by omega⟩
  rw [bW.eq, bD.is (by omega) hr, ab, bn, Pu.zy]
  rfl
theorem cR.is {k : Nat} {l : List Int} (hk : 4194304 + 3 ≤ k) (hl : l.length ≤ 1048576) : cR k l = some (Pu.jm l) := by
  obtain ⟨k, rfl⟩ : ∃ k', k = k' + 1 := ⟨k - 1, by omega⟩
  rw [cR.eq]
  have h := Pu.jF (fun j i => cR.L0 k j ((i : Int) + 1) l) l.length (fun i => Pu.has l ((i : Int) + 1)) (some false) (some true)
    (fun j i hi => by
      rw [cR.bu, bW.is (by omega) (by omega)]
      have c : (i : Int) + 1 ≤ l.length := by omega
      cases hh : Pu.has l ((i : Int) + 1) <;> simp (disch := omega) only [↓an, bm, bn, aG, aP, aM, aB, az, aE, bk, aK, aO, ar, au, aN, al, aF, aL, bo, bp, aQ, aR, ab, Pu.w64, Int.toNat_natCast, decide_eq_true_eq, Int.ofNat_lt, Int.ofNat_le, if_true, if_false, Int.natCast_nonneg, decide_true, decide_false, Bool.not_true, Bool.not_false, Bool.false_eq_true, Bool.not_eq_true, Bool.true_and, Bool.and_true, Bool.false_and, Bool.and_false, c, hh, Int.natCast_add, Int.natCast_one])
    (fun j => by
      rw [cR.bu]
      have c : ¬ (l.length : Int) + 1 ≤ l.length := by omega
      simp only [↓an, bm, bn, aG, aP, aM, aB, az, aE, bk, aK, aO, ar, au, aN, al, aF, aL, bo, bp, aQ, aR, ab, Pu.w64, Int.toNat_natCast, decide_eq_true_eq, Int.ofNat_lt, Int.ofNat_le, if_true, if_false, Int.natCast_nonneg, decide_true, decide_false, Bool.not_true, Bool.not_false, Bool.false_eq_true, Bool.not_eq_true, Bool.true_and, Bool.and_true, Bool.false_and, Bool.and_false, c]) l.length k 0 (by omega) (by omega)
  simp only [Int.natCast_zero, Int.zero_add] at h
  rw [h]
  unfold Pu.jm
  cases (List.range' 0 l.length).all fun i => Pu.has l ((i : Int) + 1) <;> simp
theorem ew.is {k : Nat} {t : Pu.Tab} (hk : 4194304 + 7 ≤ k) (h1 : t.1.length ≤ 1048576) (ht : t.2.length ≤ 1048576) (hr : ∀ x ∈ t.2, x.length ≤ 1048576) : ew k t = some (Pu.dv t) := by
  obtain ⟨k, rfl⟩ : ∃ k', k = k' + 1 := ⟨k - 1, by omega⟩
  rw [ew.eq, aH.is (by omega) h1 ht hr, ab]
  unfold Pu.dv
  cases hi : Pu.dU t with
  | false => simp
  | true =>
    have h9 := Pu.vp hi
    simp only [↓an, bm, bn, aG, aP, aM, aB, az, aE, bk, aK, aO, ar, au, aN, al, aF, aL, bo, bp, aQ, aR, ab, Pu.w64, Int.toNat_natCast, decide_eq_true_eq, Int.ofNat_lt, Int.ofNat_le, if_true, if_false, Int.natCast_nonneg, decide_true, decide_false, Bool.not_true, Bool.not_false, Bool.false_eq_true, Bool.not_eq_true, Bool.true_and, Bool.and_true, Bool.false_and, Bool.and_false]
    rw [ai.is (by omega) ht (by omega), ab, cR.is (by omega) (by omega)]
    rfl
theorem cG.is {k : Nat} {t : Pu.Tab} (hk : 4194304 + 10 ≤ k) (h1 : t.1.length ≤ 1048576) (ht : t.2.length ≤ 1048576) (hr : ∀ x ∈ t.2, x.length ≤ 1048576) : cG k t = some (Pu.bc t && Pu.dv t) := by
  obtain ⟨k, rfl⟩ : ∃ k', k = k' + 1 := ⟨k - 1, by omega⟩
  rw [cG.eq, show ((t.1, t.2) : Pu.Tab) = t from rfl, fE.is (by omega) h1 ht hr, ew.is (by omega) h1 ht hr, ab, ab]
  cases Pu.bc t <;> simp
theorem bH.loop {k : Nat} {t : Pu.Tab} {x3 x4 : List Int} {x5 : List (List Int)} (hk : 1 ≤ k) (ht : t.2.length ≤ 1048576) (hr : ∀ x ∈ t.2, x.length ≤ 1048576) : ∀ (m j i : Nat), i + m = t.2.length → m < j →
    bH.L0 k j t.2.length i t.2 x3 x5 x4 (t.2.take i) = some (x4, t.2)
  | m, 0, i, _, hj => by omega
  | 0, j + 1, i, hm, _ => by
    rw [bH.bu]
    have e : i = t.2.length := by omega
    subst e
    simp
  | m + 1, j + 1, i, hm, hj => by
    rw [bH.bu]
    have hlt : i < t.2.length := by omega
    have hx := hr _ (List.getElem_mem hlt)
    rw [← Pu.ay hlt []] at hx
    have ih := bH.loop (k := k) (x3 := x3) (x4 := x4) (x5 := x5) hk ht hr m j (i + 1) (by omega) (by omega)
    rw [Int.natCast_succ, Pu.take_succ hlt []] at ih
    have hl : (t.2.take i ++ [t.2.getD i []]).length ≤ 1099511627776 := by simp; omega
    simp (disch := omega) only [↓an, bm, bn, aG, aP, aM, aB, az, aE, bk, aK, aO, ar, au, aN, al, aF, aL, bo, bp, aQ, aR, ab, Pu.w64, Int.toNat_natCast, decide_eq_true_eq, Int.ofNat_lt, Int.ofNat_le, if_true, if_false, Int.natCast_nonneg, decide_true, decide_false, Bool.not_true, Bool.not_false, Bool.false_eq_true, Bool.not_eq_true, Bool.true_and, Bool.and_true, Bool.false_and, Bool.and_false, hlt, hl, bF.is, ih]
theorem bH.is {k : Nat} {t : Pu.Tab} (hk : 4194304 + 1 ≤ k) (h1 : t.1.length ≤ 1048576) (ht : t.2.length ≤ 1048576) (hr : ∀ x ∈ t.2, x.length ≤ 1048576) : bH k t = some t := by
  obtain ⟨k, rfl⟩ : ∃ k', k = k' + 1 := ⟨k - 1, by omega⟩
  rw [bH.eq, bF.is (by omega) (by omega)]
  have h := bH.loop (k := k) (t := t) (x3 := []) (x4 := t.1) (x5 := []) (by omega) ht hr t.2.length k 0 (by omega) (by omega)
  rw [Int.natCast_zero, List.take_zero] at h
  exact h
theorem bT.loop {k : Nat} {rs : List (List Int)} (h9 : Pu.dy 1048576 1048576 rs) : ∀ (m j : Nat) (w : List Int), m ≤ rs.length → m < j → w.length + Pu.dk (rs.take m) ≤ 1099511627776 → bT.L0 k j ((m : Int) - 1) rs w = some (w ++ (rs.take m).reverse.flatten)
  | m, 0, w, _, hj, _ => by omega
  | 0, j + 1, w, _, _, _ => by
    rw [bT.bu]
    have hn : ¬ (0 : Int) ≤ ((0 : Nat) : Int) - 1 := by omega
    simp only [↓an, bm, bn, aG, aP, aM, aB, az, aE, bk, aK, aO, ar, au, aN, al, aF, aL, bo, bp, aQ, aR, ab, Pu.w64, Int.toNat_natCast, decide_eq_true_eq, Int.ofNat_lt, Int.ofNat_le, if_true, if_false, Int.natCast_nonneg, decide_true, decide_false, Bool.not_true, Bool.not_false, Bool.false_eq_true, Bool.not_eq_true, Bool.true_and, Bool.and_true, Bool.false_and, Bool.and_false, hn]
    simp
  | m + 1, j + 1, w, hm, hj, hs => by
    rw [bT.bu]
    have e : (((m + 1 : Nat) : Int) - 1) = (m : Int) := by omega
    have hlt : m < rs.length := by omega
    have ht := Pu.take_succ hlt []
    have hsz : ∀ (a b : List (List Int)), Pu.dk (a ++ b) = Pu.dk a + Pu.dk b := by
      intro a b
      induction a with
      | nil => simp [Pu.dk]
      | cons x a ih => simp only [List.cons_append, Pu.dk, ih]; omega
    rw [ht, hsz] at hs
    simp only [Pu.dk] at hs
    have hl : (w ++ rs.getD m []).length ≤ 1099511627776 := by rw [List.length_append]; omega
    have h0 : (0 : Int) ≤ (m : Int) := by omega
    have ih := bT.loop (k := k) h9 m j (w ++ rs.getD m []) (by omega) (by omega) (by rw [List.length_append]; omega)
    have hb := h9.1
    rw [e]
    simp (disch := omega) only [↓an, bm, bn, aG, aP, aM, aB, az, aE, bk, aK, aO, ar, au, aN, al, aF, aL, bo, bp, aQ, aR, ab, Pu.w64, Int.toNat_natCast, decide_eq_true_eq, Int.ofNat_lt, Int.ofNat_le, if_true, if_false, Int.natCast_nonneg, decide_true, decide_false, Bool.not_true, Bool.not_false, Bool.false_eq_true, Bool.not_eq_true, Bool.true_and, Bool.and_true, Bool.false_and, Bool.and_false, h0, hlt, hl, ih]
    rw [ht, List.reverse_append, List.flatten_append]
    simp
theorem bT.is {k : Nat} {t : Pu.Tab} (hk : 4194304 + 10 ≤ k) (h1 : t.1.length ≤ 1048576) (ht : t.2.length ≤ 1048576) (hr : ∀ x ∈ t.2, x.length ≤ 1048576) : bT k t = some (if Pu.dU t = true then t.2.reverse.flatten else []) := by
  obtain ⟨k, rfl⟩ : ∃ k', k = k' + 1 := ⟨k - 1, by omega⟩
  rw [bT.eq, show ((t.1, t.2) : Pu.Tab) = t from rfl, aH.is (by omega) h1 ht hr, ab]
  cases hb : Pu.dU t with
  | false => simp
  | true =>
    have hs := Pu.tK ht hr
    have hl := bT.loop (k := k) (rs := t.2) ⟨ht, hr⟩ t.2.length k [] (Nat.le_refl _) (by omega) (by rw [List.take_length]; simpa using hs)
    rw [List.take_length] at hl
    simp (disch := omega) only [↓an, bm, bn, aG, aP, aM, aB, az, aE, bk, aK, aO, ar, au, aN, al, aF, aL, bo, bp, aQ, aR, ab, Pu.w64, Int.toNat_natCast, decide_eq_true_eq, Int.ofNat_lt, Int.ofNat_le, if_true, if_false, Int.natCast_nonneg, decide_true, decide_false, Bool.not_true, Bool.not_false, Bool.false_eq_true, Bool.not_eq_true, Bool.true_and, Bool.and_true, Bool.false_and, Bool.and_false, hl, List.nil_append]
theorem bN.loop {k : Nat} {p : List Int} (hk : 2 ≤ k) (hp : p.length ≤ 1000000) : ∀ (m j i : Nat) (acc : List Int), i + m = p.length → m < j → acc.length ≤ i → bN.L0 k j p.length i p acc = some (acc ++ Pu.j5 p m i)
  | m, 0, i, acc, _, hj, _ => by omega
  | 0, j + 1, i, acc, hi, _, ha => by
    rw [bN.bu]
    have hn : ¬ ((i : Int) < (p.length : Int)) := by omega
    simp only [↓an, bm, bn, aG, aP, aM, aB, az, aE, bk, aK, aO, ar, au, aN, al, aF, aL, bo, bp, aQ, aR, ab, Pu.w64, Int.toNat_natCast, decide_eq_true_eq, Int.ofNat_lt, Int.ofNat_le, if_true, if_false, Int.natCast_nonneg, decide_true, decide_false, Bool.not_true, Bool.not_false, Bool.false_eq_true, Bool.not_eq_true, Bool.true_and, Bool.and_true, Bool.false_and, Bool.and_false, hn, Pu.j5, List.append_nil]
  | m + 1, j + 1, i, acc, hi, hj, ha => by
    rw [bN.bu]
    have h1 : i < p.length := by omega
    have e : (i : Int) + 1 = ((i + 1 : Nat) : Int) := by omega
    have ih := fun acc h => bN.loop hk hp m j (i + 1) acc (by omega) (by omega) h
    have hl : (acc ++ [(i : Int)]).length ≤ 1099511627776 := by rw [List.length_append, List.length_singleton]; omega
    have h2 := ih (acc ++ [(i : Int)]) (by rw [List.length_append, List.length_singleton]; omega)
    have h3 := ih acc (by omega)
    have ea : dF k p ((i : Int) + 1) = some (p.getD (i + 1) 0) := by rw [dF.is (by omega) (by omega), e, Pu.ch]
    rw [← e] at h2 h3
    unfold Pu.j5
    by_cases c : p.getD (i + 1) 0 < p.getD i 0
    · simp (disch := omega) only [↓an, bm, bn, aG, aP, aM, aB, az, aE, bk, aK, aO, ar, au, aN, al, aF, aL, bo, bp, aQ, aR, ab, Pu.w64, Int.toNat_natCast, decide_eq_true_eq, Int.ofNat_lt, Int.ofNat_le, if_true, if_false, Int.natCast_nonneg, decide_true, decide_false, Bool.not_true, Bool.not_false, Bool.false_eq_true, Bool.not_eq_true, Bool.true_and, Bool.and_true, Bool.false_and, Bool.and_false, h1, ea, c, hl, bN.iw, h2, List.append_assoc, List.cons_append, List.nil_append]
    · simp (disch := omega) only [↓an, bm, bn, aG, aP, aM, aB, az, aE, bk, aK, aO, ar, au, aN, al, aF, aL, bo, bp, aQ, aR, ab, Pu.w64, Int.toNat_natCast, decide_eq_true_eq, Int.ofNat_lt, Int.ofNat_le, if_true, if_false, Int.natCast_nonneg, decide_true, decide_false, Bool.not_true, Bool.not_false, Bool.false_eq_true, Bool.not_eq_true, Bool.true_and, Bool.and_true, Bool.false_and, Bool.and_false, h1, ea, c, bN.iw, h3]
theorem bN.is {k : Nat} {p : List Int} (hk : 4194304 + 3 ≤ k) (hp : p.length ≤ 1000000) : bN k p = some (Pu.kH p) := by
  obtain ⟨k, rfl⟩ : ∃ k', k = k' + 1 := ⟨k - 1, by omega⟩
  rw [bN.eq, aZ.is (by omega) (by omega), ab]
  unfold Pu.kH
  have h := bN.loop (k := k) (p := p) (by omega) hp p.length k 0 [] (by omega) (by omega) (by simp)
  rw [Int.natCast_zero, List.nil_append] at h
  cases hb : Pu.cj p with
  | true => simp only [↓an, bm, bn, aG, aP, aM, aB, az, aE, bk, aK, aO, ar, au, aN, al, aF, aL, bo, bp, aQ, aR, ab, Pu.w64, Int.toNat_natCast, decide_eq_true_eq, Int.ofNat_lt, Int.ofNat_le, if_true, if_false, Int.natCast_nonneg, decide_true, decide_false, Bool.not_true, Bool.not_false, Bool.false_eq_true, Bool.not_eq_true, Bool.true_and, Bool.and_true, Bool.false_and, Bool.and_false, h]
  | false => simp only [↓an, bm, bn, aG, aP, aM, aB, az, aE, bk, aK, aO, ar, au, aN, al, aF, aL, bo, bp, aQ, aR, ab, Pu.w64, Int.toNat_natCast, decide_eq_true_eq, Int.ofNat_lt, Int.ofNat_le, if_true, if_false, Int.natCast_nonneg, decide_true, decide_false, Bool.not_true, Bool.not_false, Bool.false_eq_true, Bool.not_eq_true, Bool.true_and, Bool.and_true, Bool.false_and, Bool.and_false]
theorem a7.stay {k j : Nat} {x0 : Int} {x1 : Bool} {x2 : Int} {x3 x4 : Bool} {x5 : Int} {x6 : Nat} {x7 x8 : Int} {x9 : Nat} {y x11 x12 x13 : List Int} (hl : y.length ≤ 9) (h0 : 0 < y.length) (h : ¬ y.getD (y.length - 1) 0 = 0) :
    a7.L0 k (j + 1) x0 x1 x2 x3 x4 x5 x6 x7 x8 x9 y x11 x12 x13 = some (y, true) := by
  rw [a7.bu]
  have p0 : (0 : Int) < y.length := by omega
  have p1 : (0 : Int) ≤ (y.length : Int) - 1 := by omega
  have p2 : ((y.length : Int) - 1).toNat = y.length - 1 := by omega
  have p3 : y.length - 1 < y.length := by omega
  have p4 : y.take y.length = y := List.take_of_length_le (Nat.le_refl _)
  simp (disch := omega) only [↓an, bm, bn, aG, aP, aM, aB, az, aE, bk, aK, aO, ar, au, aN, al, aF, aL, bo, bp, aQ, aR, ab, Pu.w64, Int.toNat_natCast, decide_eq_true_eq, Int.ofNat_lt, Int.ofNat_le, if_true, if_false, Int.natCast_nonneg, decide_true, decide_false, Bool.not_true, Bool.not_false, Bool.false_eq_true, Bool.not_eq_true, Bool.true_and, Bool.and_true, Bool.false_and, Bool.and_false, p0, p1, p2, p3, p4, h, Int.le_refl, Nat.le_refl]
theorem a7.inner {k j : Nat} {n : Nat} {x2 : Int} {x3 : Bool} {x4 : Int} {x5 x6 : Bool} {x7 : Int} {x8 : Nat} {x9 x10 : Int} {x11 : Nat} {y x13 x14 x15 : List Int} (hn : n ≤ 9) (hl : y.length = n + 1) (h : 0 < n → ¬ y.getD (n - 1) 0 = 0) :
    a7.L2 k (j + 1) 0 n x2 x3 x4 x5 x6 x7 x8 x9 x10 x11 y x13 x14 x15 = some (y.take n, true) := by
  rw [a7.rL]
  have e : (y.take n).take n = y.take n := by rw [List.take_take, Nat.min_self]
  by_cases c : 0 < n
  · have p0 : (0 : Int) < n := by omega
    have p1 : (0 : Int) ≤ (n : Int) - 1 := by omega
    have p2 : ((n : Int) - 1).toNat = n - 1 := by omega
    have p3 : n - 1 < n := by omega
    have p4 : n - 1 < y.length := by omega
    have h' := h c
    simp (disch := omega) only [↓an, bm, bn, aG, aP, aM, aB, az, aE, bk, aK, aO, ar, au, aN, al, aF, aL, bo, bp, aQ, aR, ab, Pu.w64, Int.toNat_natCast, decide_eq_true_eq, Int.ofNat_lt, Int.ofNat_le, if_true, if_false, Int.natCast_nonneg, decide_true, decide_false, Bool.not_true, Bool.not_false, Bool.false_eq_true, Bool.not_eq_true, Bool.true_and, Bool.and_true, Bool.false_and, Bool.and_false, y0, Nat.zero_add, p0, p1, p2, p3, p4, h', Int.le_refl, Nat.le_refl, List.drop_zero, e]
  · have : n = 0 := by omega
    subst this
    simp (disch := omega) only [↓an, bm, bn, aG, aP, aM, aB, az, aE, bk, aK, aO, ar, au, aN, al, aF, aL, bo, bp, aQ, aR, ab, Pu.w64, Int.toNat_natCast, decide_eq_true_eq, Int.ofNat_lt, Int.ofNat_le, if_true, if_false, Int.natCast_nonneg, decide_true, decide_false, Bool.not_true, Bool.not_false, Bool.false_eq_true, Bool.not_eq_true, Bool.true_and, Bool.and_true, Bool.false_and, Bool.and_false, y0, Nat.zero_add, Int.natCast_zero, Int.lt_irrefl, Int.le_refl, Nat.le_refl, List.drop_zero, Int.toNat_zero, List.take_zero]
theorem a7.cut {k j : Nat} {n : Nat} {x0 : Int} {x1 : Bool} {x2 : Int} {x3 x4 : Bool} {x5 : Int} {x6 : Nat} {x7 x8 : Int} {x9 : Nat} {y x11 x12 x13 : List Int} (hn : n ≤ 9) (hl : y.length = n + 1) (h0 : y.getD n 0 = 0) (h : 0 < n → ¬ y.getD (n - 1) 0 = 0) :
    a7.L0 k (j + 1 + 1) x0 x1 x2 x3 x4 x5 x6 x7 x8 x9 y x11 x12 x13 = some (y.take n, true) := by
  rw [a7.bu, a7.iw]
  have p0 : (0 : Int) < ((n + 1 : Nat) : Int) := by omega
  have p2 : ((n + 1 : Nat) : Int) - 1 = (n : Int) := by omega
  have p3 : n < n + 1 := by omega
  have p4 : n ≤ n + 1 := by omega
  have hi := fun x2 x3 x4 x5 x6 x7 x8 x9 x10 x11 x13 x14 x15 => a7.inner (k := k) (j := j) (n := n) (x2 := x2) (x3 := x3) (x4 := x4) (x5 := x5) (x6 := x6) (x7 := x7) (x8 := x8) (x9 := x9) (x10 := x10) (x11 := x11) (y := y) (x13 := x13) (x14 := x14) (x15 := x15) hn hl h
  simp (disch := omega) only [↓an, bm, bn, aG, aP, aM, aB, az, aE, bk, aK, aO, ar, au, aN, al, aF, aL, bo, bp, aQ, aR, ab, Pu.w64, Int.toNat_natCast, decide_eq_true_eq, Int.ofNat_lt, Int.ofNat_le, if_true, if_false, Int.natCast_nonneg, decide_true, decide_false, Bool.not_true, Bool.not_false, Bool.false_eq_true, Bool.not_eq_true, Bool.true_and, Bool.and_true, Bool.false_and, Bool.and_false, hl, p0, p2, p3, p4, h0, n9, Nat.sub_zero, hi]
theorem a7.is {k : Nat} {p : List Int} {n : Nat} (hk : 4194304 + 8 ≤ k) (hp : Pu.cj p = true) (hn : n < p.length) (hc : p.getD (n + 1) 0 < p.getD n 0) : a7 k p n = some (Pu.aT p n, true) := by
  obtain ⟨k, rfl⟩ : ∃ k', k = k' + 3 := ⟨k - 3, by omega⟩
  have h9 := (Pu.b6 hp).2.2.1
  have hb := Pu.cS hp n
  rw [Pu.ch] at hb
  have h1 : ∀ i, i < p.length → 1 ≤ p.getD i 0 := fun i hi => by
    rw [Pu.ay hi]
    exact ((Pu.b6 hp).1 _ (List.getElem_mem hi)).1
  have hco := bN.is (k := k + 2) (p := p) (by omega) (by omega)
  have hct := bW.is (k := k + 2) (x := (n : Int)) (r := Pu.kH p) (by omega) (by have := Pu.qN p; omega)
  rw [Pu.qz hp hn hc] at hct
  have hcl := bF.is (k := k + 2) (a := p) (by omega) (by omega)
  have hyl : (p.set n (p.getD n 0 - 1)).length = p.length := List.length_set
  have key : ∀ x0 x1 x2 x3 x4 x5 x6 x7 x8 x9 x11 x12 x13, a7.L0 k (k + 1) x0 x1 x2 x3 x4 x5 x6 x7 x8 x9 (p.set n (p.getD n 0 - 1)) x11 x12 x13 = some (Pu.aT p n, true) := by
    intro x0 x1 x2 x3 x4 x5 x6 x7 x8 x9 x11 x12 x13
    unfold Pu.aT
    by_cases h : p.getD n 0 - 1 = 0
    · have hl := Pu.pH hp hc h
      rw [if_pos h]
      obtain ⟨k', rfl⟩ : ∃ k', k = k' + 1 := ⟨k - 1, by omega⟩
      rw [a7.cut (n := n) (by omega) (by omega) (by rw [Pu.ay (by omega), List.getElem_set_self, h]) (fun h0 => by
        rw [Pu.getD_set_ne (by omega)]
        have := h1 (n - 1) (by omega)
        omega), List.take_set_of_le (Nat.le_refl n)]
    · rw [if_neg h, a7.stay (by omega) (by omega)]
      rw [hyl]
      by_cases e : p.length - 1 = n
      · rw [e, Pu.ay (by omega), List.getElem_set_self]; exact h
      · rw [Pu.getD_set_ne (Ne.symm e)]
        have := h1 (p.length - 1) (by omega)
        omega
  rw [a7.eq]
  simp (disch := omega) only [↓an, bm, bn, aG, aP, aM, aB, az, aE, bk, aK, aO, ar, au, aN, al, aF, aL, bo, bp, aQ, aR, ab, Pu.w64, Int.toNat_natCast, decide_eq_true_eq, Int.ofNat_lt, Int.ofNat_le, if_true, if_false, Int.natCast_nonneg, decide_true, decide_false, Bool.not_true, Bool.not_false, Bool.false_eq_true, Bool.not_eq_true, Bool.true_and, Bool.and_true, Bool.false_and, Bool.and_false, hco, hct, hcl, hn, key]
theorem bM.loop {k : Nat} {t : Pu.Tab} (hk : 4194304 + 2 ≤ k) (hi : Pu.cj t.1 = true) (ht : Pu.dy 1048576 1048576 t.2) : ∀ (m j i : Nat), i + m = t.2.length → m < j →
    bM.L0 k j t.2.length i ((Pu.cf t).take i) t.2 t.1 = some (Pu.cf t)
  | m, 0, i, _, hj => by omega
  | 0, j + 1, i, hm, _ => by
    rw [bM.bu]
    have e : i = t.2.length := by omega
    subst e
    rw [← Pu.gu t, List.take_length]
    simp only [↓an, bm, bn, aG, aP, aM, aB, az, aE, bk, aK, aO, ar, au, aN, al, aF, aL, bo, bp, aQ, aR, ab, Pu.w64, Int.toNat_natCast, decide_eq_true_eq, Int.ofNat_lt, Int.ofNat_le, if_true, if_false, Int.natCast_nonneg, decide_true, decide_false, Bool.not_true, Bool.not_false, Bool.false_eq_true, Bool.not_eq_true, Bool.true_and, Bool.and_true, Bool.false_and, Bool.and_false, Nat.lt_irrefl]
  | m + 1, j + 1, i, hm, hj => by
    rw [bM.bu]
    have hlt : i < t.2.length := by omega
    have hg : i < (Pu.cf t).length := by rw [Pu.gu]; exact hlt
    have hl := ht.1
    have h9 := (Pu.b6 hi).2.2.1
    have hb := Pu.cS hi i
    rw [Pu.ch] at hb
    have hrow := ht.at i
    have ha := dF.is (k := k) (p := t.1) (i := (i : Int)) (by omega) (by omega)
    rw [Pu.ch] at ha
    have ih := bM.loop (k := k) (t := t) hk hi ht m j (i + 1) (by omega) (by omega)
    rw [Int.natCast_succ, Pu.take_succ hg [], Pu.oE hlt] at ih
    have hc := ai.is (k := k) (a := [List.replicate (t.1.getD i 0).toNat 0, t.2.getD i []]) hk (by simp) (by simp only [List.flatten_cons, List.flatten_nil, List.append_nil, List.length_append, List.length_replicate]; omega)
    simp only [List.flatten_cons, List.flatten_nil, List.append_nil] at hc
    have hn : (t.1.getD i 0).toNat ≤ 1099511627776 := by omega
    have hb1 := hb.1
    have hln : ((Pu.cf t).take i ++ [List.replicate (t.1.getD i 0).toNat 0 ++ t.2.getD i []]).length ≤ 1099511627776 := by
      rw [List.length_append, List.length_take, Pu.gu]; simp; omega
    simp (disch := omega) only [↓an, bm, bn, aG, aP, aM, aB, az, aE, bk, aK, aO, ar, au, aN, al, aF, aL, bo, bp, aQ, aR, ab, Pu.w64, Int.toNat_natCast, decide_eq_true_eq, Int.ofNat_lt, Int.ofNat_le, if_true, if_false, Int.natCast_nonneg, decide_true, decide_false, Bool.not_true, Bool.not_false, Bool.false_eq_true, Bool.not_eq_true, Bool.true_and, Bool.and_true, Bool.false_and, Bool.and_false, hlt, ha, hb1, Int.le_refl, hn, hc, hln, ih]
theorem bM.is {k : Nat} {t : Pu.Tab} (hk : 4194304 + 3 ≤ k) (hi : Pu.cj t.1 = true) (ht : Pu.dy 1048576 1048576 t.2) : bM k t = some (Pu.cf t) := by
  obtain ⟨k, rfl⟩ : ∃ k', k = k' + 1 := ⟨k - 1, by omega⟩
  rw [bM.eq]
  have hl := ht.1
  have h := bM.loop (k := k) (t := t) (by omega) hi ht t.2.length k 0 (by omega) (by omega)
  rw [Int.natCast_zero, List.take_zero] at h
  exact h
theorem fq.is {k : Nat} {a : List (List Int)} {i c : Int} (hk : 3 ≤ k) (ha : Pu.dy 1048576 1048576 a) : fq k a i c = some (Pu.qo a i c) := by
  obtain ⟨k, rfl⟩ : ∃ k', k = k' + 1 := ⟨k - 1, by omega⟩
  have hl := ha.1
  rw [fq.eq]
  by_cases h0 : i < 0
  · have h1 : ¬ 0 ≤ i := by omega
    rw [Pu.xV h0]
    simp (disch := omega) only [↓an, bm, bn, aG, aP, aM, aB, az, aE, bk, aK, aO, ar, au, aN, al, aF, aL, bo, bp, aQ, aR, ab, Pu.w64, Int.toNat_natCast, decide_eq_true_eq, Int.ofNat_lt, Int.ofNat_le, if_true, if_false, Int.natCast_nonneg, decide_true, decide_false, Bool.not_true, Bool.not_false, Bool.false_eq_true, Bool.not_eq_true, Bool.true_and, Bool.and_true, Bool.false_and, Bool.and_false, cP.is, Pu.within, h1]
  · have h1 : 0 ≤ i := by omega
    by_cases h2 : i ≤ (a.length : Int) - 1
    · have h3 : i.toNat < a.length := by omega
      have he := dF.is (k := k) (p := a.getD i.toNat []) (i := c) (by omega) (ha.at _)
      unfold Pu.qo
      simp (disch := omega) only [↓an, bm, bn, aG, aP, aM, aB, az, aE, bk, aK, aO, ar, au, aN, al, aF, aL, bo, bp, aQ, aR, ab, Pu.w64, Int.toNat_natCast, decide_eq_true_eq, Int.ofNat_lt, Int.ofNat_le, if_true, if_false, Int.natCast_nonneg, decide_true, decide_false, Bool.not_true, Bool.not_false, Bool.false_eq_true, Bool.not_eq_true, Bool.true_and, Bool.and_true, Bool.false_and, Bool.and_false, cP.is, Pu.within, h0, h1, h2, h3, he]
    · rw [Pu.zr (by omega)]
      simp (disch := omega) only [↓an, bm, bn, aG, aP, aM, aB, az, aE, bk, aK, aO, ar, au, aN, al, aF, aL, bo, bp, aQ, aR, ab, Pu.w64, Int.toNat_natCast, decide_eq_true_eq, Int.ofNat_lt, Int.ofNat_le, if_true, if_false, Int.natCast_nonneg, decide_true, decide_false, Bool.not_true, Bool.not_false, Bool.false_eq_true, Bool.not_eq_true, Bool.true_and, Bool.and_true, Bool.false_and, Bool.and_false, cP.is, Pu.within, h1, h2]
theorem ao.loop {k : Nat} {q x4 : List Int} {x5 : List (List Int)} (hk : 4 ≤ k) : ∀ (m j : Nat) (g : List (List Int)) (i c : Nat), Pu.dy 9 9 g → i < g.length → c < (g.getD i []).length → m < j →
    Pu.cel (Pu.bL m g i c).1 (Pu.bL m g i c).2.1 ((Pu.bL m g i c).2.2 + 1) = 0 → Pu.cel (Pu.bL m g i c).1 ((Pu.bL m g i c).2.1 + 1) (Pu.bL m g i c).2.2 = 0 →
    ao.L1 k j i c q g x4 x5 = ao.J2 k (Pu.bL m g i c).2.1 (Pu.bL m g i c).2.2 q (Pu.bL m g i c).1 x4 x5
  | m, 0, g, i, c, _, _, _, hj, _, _ => by omega
  | 0, j + 1, g, i, c, hg, hi, hc, _, s1, s2 => by
    have hl := hg.1
    have hw := hg.at i
    have e5 := fq.is (k := k + 1) (a := g) (i := i) (c := (c : Int) + 1) (by omega) (hg.mono (by omega) (by omega))
    have e6 := fq.is (k := k + 1) (a := g) (i := (i : Int) + 1) (c := c) (by omega) (hg.mono (by omega) (by omega))
    rw [show (c : Int) + 1 = ((c + 1 : Nat) : Int) by omega, Pu.nr] at e5
    rw [show (i : Int) + 1 = ((i + 1 : Nat) : Int) by omega, Pu.nr] at e6
    have s1 : (g.getD i []).getD (c + 1) 0 = 0 := s1
    have s2 : (g.getD (i + 1) []).getD c 0 = 0 := s2
    rw [s1] at e5
    rw [s2] at e6
    rw [Int.natCast_succ] at e5 e6
    rw [ao.dR]
    simp (disch := omega) only [↓an, bm, bn, aG, aP, aM, aB, az, aE, bk, aK, aO, ar, au, aN, al, aF, aL, bo, bp, aQ, aR, ab, Pu.w64, Int.toNat_natCast, decide_eq_true_eq, Int.ofNat_lt, Int.ofNat_le, if_true, if_false, Int.natCast_nonneg, decide_true, decide_false, Bool.not_true, Bool.not_false, Bool.false_eq_true, Bool.not_eq_true, Bool.true_and, Bool.and_true, Bool.false_and, Bool.and_false, e5, e6, Pu.bL]
  | m + 1, j + 1, g, i, c, hg, hi, hc, hj, s1, s2 => by
    have hl := hg.1
    have hw := hg.at i
    have e5 := fq.is (k := k + 1) (a := g) (i := i) (c := (c : Int) + 1) (by omega) (hg.mono (by omega) (by omega))
    have e6 := fq.is (k := k + 1) (a := g) (i := (i : Int) + 1) (c := c) (by omega) (hg.mono (by omega) (by omega))
    rw [show (c : Int) + 1 = ((c + 1 : Nat) : Int) by omega, Pu.nr, Int.natCast_succ, show (g.getD i []).getD (c + 1) 0 = Pu.cel g i (c + 1) from rfl] at e5
    rw [show (i : Int) + 1 = ((i + 1 : Nat) : Int) by omega, Pu.nr, Int.natCast_succ, show (g.getD (i + 1) []).getD c 0 = Pu.cel g (i + 1) c from rfl] at e6
    have hs : ∀ v, Pu.dy 9 9 (Pu.eI g i c v) := fun v => hg.set i (by rw [List.length_set]; exact hw)
    have es : ∀ v, g.set i ((g.getD i []).set c v) = Pu.eI g i c v := fun _ => rfl
    rw [ao.dR]
    unfold Pu.bL at s1 s2 ⊢
    by_cases c1 : Pu.cel g i (c + 1) = 0 ∧ Pu.cel g (i + 1) c = 0
    · rw [if_pos c1] at s1 s2 ⊢
      rw [c1.1] at e5
      rw [c1.2] at e6
      simp (disch := omega) only [↓an, bm, bn, aG, aP, aM, aB, az, aE, bk, aK, aO, ar, au, aN, al, aF, aL, bo, bp, aQ, aR, ab, Pu.w64, Int.toNat_natCast, decide_eq_true_eq, Int.ofNat_lt, Int.ofNat_le, if_true, if_false, Int.natCast_nonneg, decide_true, decide_false, Bool.not_true, Bool.not_false, Bool.false_eq_true, Bool.not_eq_true, Bool.true_and, Bool.and_true, Bool.false_and, Bool.and_false, e5, e6]
    · rw [if_neg c1] at s1 s2 ⊢
      by_cases c2 : Pu.cel g i (c + 1) = 0 ∨ (0 < Pu.cel g (i + 1) c ∧ Pu.cel g (i + 1) c ≤ Pu.cel g i (c + 1))
      · rw [if_pos c2] at s1 s2 ⊢
        have hb : Pu.cel g (i + 1) c ≠ 0 := fun e => by
          rcases c2 with c2 | c2
          · exact c1 ⟨c2, e⟩
          · omega
        obtain ⟨b1, b2⟩ := Pu.pG hb
        have ih := ao.loop (q := q) (x4 := x4) (x5 := x5) hk m j (Pu.eI g i c (Pu.cel g (i + 1) c)) (i + 1) c (hs _) (by rw [Pu.dw]; exact b1) (by rw [Pu.b9]; exact b2) (by omega) s1 s2
        rw [Int.natCast_succ] at ih
        by_cases c3 : Pu.cel g i (c + 1) = 0
        · rw [c3] at e5
          simp (disch := omega) only [↓an, bm, bn, aG, aP, aM, aB, az, aE, bk, aK, aO, ar, au, aN, al, aF, aL, bo, bp, aQ, aR, ab, Pu.w64, Int.toNat_natCast, decide_eq_true_eq, Int.ofNat_lt, Int.ofNat_le, if_true, if_false, Int.natCast_nonneg, decide_true, decide_false, Bool.not_true, Bool.not_false, Bool.false_eq_true, Bool.not_eq_true, Bool.true_and, Bool.and_true, Bool.false_and, Bool.and_false, e5, e6, hb, hi, hc, es, ao.mX, ih]
        · have c4 : 0 < Pu.cel g (i + 1) c ∧ Pu.cel g (i + 1) c ≤ Pu.cel g i (c + 1) := c2.resolve_left c3
          simp (disch := omega) only [↓an, bm, bn, aG, aP, aM, aB, az, aE, bk, aK, aO, ar, au, aN, al, aF, aL, bo, bp, aQ, aR, ab, Pu.w64, Int.toNat_natCast, decide_eq_true_eq, Int.ofNat_lt, Int.ofNat_le, if_true, if_false, Int.natCast_nonneg, decide_true, decide_false, Bool.not_true, Bool.not_false, Bool.false_eq_true, Bool.not_eq_true, Bool.true_and, Bool.and_true, Bool.false_and, Bool.and_false, e5, e6, c3, c4.1, c4.2, hi, hc, es, ao.mX, ih]
      · rw [if_neg c2] at s1 s2 ⊢
        have c3 : ¬ Pu.cel g i (c + 1) = 0 := fun e => c2 (.inl e)
        obtain ⟨b1, b2⟩ := Pu.pG c3
        have ih := ao.loop (q := q) (x4 := x4) (x5 := x5) hk m j (Pu.eI g i c (Pu.cel g i (c + 1))) i (c + 1) (hs _) (by rw [Pu.dw]; exact b1) (by rw [Pu.b9]; exact b2) (by omega) s1 s2
        rw [Int.natCast_succ] at ih
        by_cases c4 : 0 < Pu.cel g (i + 1) c
        · have c5 : ¬ Pu.cel g (i + 1) c ≤ Pu.cel g i (c + 1) := fun e => c2 (.inr ⟨c4, e⟩)
          simp (disch := omega) only [↓an, bm, bn, aG, aP, aM, aB, az, aE, bk, aK, aO, ar, au, aN, al, aF, aL, bo, bp, aQ, aR, ab, Pu.w64, Int.toNat_natCast, decide_eq_true_eq, Int.ofNat_lt, Int.ofNat_le, if_true, if_false, Int.natCast_nonneg, decide_true, decide_false, Bool.not_true, Bool.not_false, Bool.false_eq_true, Bool.not_eq_true, Bool.true_and, Bool.and_true, Bool.false_and, Bool.and_false, e5, e6, c3, c4, c5, hi, hc, es, ao.mX, ih]
        · simp (disch := omega) only [↓an, bm, bn, aG, aP, aM, aB, az, aE, bk, aK, aO, ar, au, aN, al, aF, aL, bo, bp, aQ, aR, ab, Pu.w64, Int.toNat_natCast, decide_eq_true_eq, Int.ofNat_lt, Int.ofNat_le, if_true, if_false, Int.natCast_nonneg, decide_true, decide_false, Bool.not_true, Bool.not_false, Bool.false_eq_true, Bool.not_eq_true, Bool.true_and, Bool.and_true, Bool.false_and, Bool.and_false, e5, e6, c3, c4, hi, hc, es, ao.mX, ih]
theorem ao.rows {k : Nat} {q : List Int} {G : List (List Int)} {N : Nat} {x2 x3 x4 x5 : Int} {x6 : Nat} {x7 : Int} {x8 : Nat} {x11 : List Int} {x12 : List (List Int)} {x14 : List Int} {x15 : List (List Int)} (hk : 4 ≤ k) (hG : Pu.dy 9 9 G) (hq : q.length ≤ 9) (hN : N ≤ G.length)
    (h1 : ∀ r, r < N → 0 < (G.getD r []).length ∧ 0 ≤ q.getD r 0 ∧ q.getD r 0 ≤ (G.getD r []).length) (h2 : ∀ r, N ≤ r → (G.getD r []).length = 0) : ∀ (m j i : Nat), i + m = G.length → m < j →
    ao.L4 k j G.length i x2 x3 x4 x5 x6 x7 x8 q G x11 x12 ((Pu.cZ q G N).take i) x14 x15 = some ((q, Pu.cZ q G N), (x2, true))
  | m, 0, i, _, hj => by omega
  | 0, j + 1, i, hm, _ => by
    rw [ao.vl]
    have e : i = G.length := by omega
    subst e
    rw [List.take_of_length_le (by rw [Pu.dJ]; exact hN)]
    simp only [↓an, bm, bn, aG, aP, aM, aB, az, aE, bk, aK, aO, ar, au, aN, al, aF, aL, bo, bp, aQ, aR, ab, Pu.w64, Int.toNat_natCast, decide_eq_true_eq, Int.ofNat_lt, Int.ofNat_le, if_true, if_false, Int.natCast_nonneg, decide_true, decide_false, Bool.not_true, Bool.not_false, Bool.false_eq_true, Bool.not_eq_true, Bool.true_and, Bool.and_true, Bool.false_and, Bool.and_false, Nat.lt_irrefl]
  | m + 1, j + 1, i, hm, hj => by
    have hl := hG.1
    have hw := hG.at i
    have hi : i < G.length := by omega
    have ih := ao.rows (k := k) (x2 := x2) (x3 := x3) (x4 := x4) (x5 := x5) (x6 := x6) (x7 := x7) (x8 := x8) (x11 := x11) (x12 := x12) (x14 := x14) (x15 := x15) hk hG hq hN h1 h2 m j (i + 1) (by omega) (by omega)
    rw [Int.natCast_succ] at ih
    rw [ao.vl]
    by_cases c : i < N
    · obtain ⟨a1, a2, a3⟩ := h1 i c
      rw [Pu.take_succ (by rw [Pu.dJ]; exact c) [], Pu.jj c] at ih
      have ha := dF.is (k := k) (p := q) (i := (i : Int)) (by omega) (by omega)
      rw [Pu.ch] at ha
      have et : (G.getD i []).drop (q.getD i 0).toNat = ((G.getD i []).drop (q.getD i 0).toNat).take ((G.getD i []).length - (q.getD i 0).toNat) := (List.take_of_length_le (by rw [List.length_drop]; exact Nat.le_refl _)).symm
      have hcl := bF.is (k := k) (a := (G.getD i []).drop (q.getD i 0).toNat) (by omega) (by rw [List.length_drop]; omega)
      have hln : ((Pu.cZ q G N).take i ++ [(G.getD i []).drop (q.getD i 0).toNat]).length ≤ 1099511627776 := by
        rw [List.length_append, List.length_take, List.length_singleton]; omega
      have a4 : (0 : Int) < (G.getD i []).length := by omega
      have a5 : (q.getD i 0).toNat ≤ (G.getD i []).length := by omega
      simp (disch := omega) only [↓an, bm, bn, aG, aP, aM, aB, az, aE, bk, aK, aO, ar, au, aN, al, aF, aL, bo, bp, aQ, aR, ab, Pu.w64, Int.toNat_natCast, decide_eq_true_eq, Int.ofNat_lt, Int.ofNat_le, if_true, if_false, Int.natCast_nonneg, decide_true, decide_false, Bool.not_true, Bool.not_false, Bool.false_eq_true, Bool.not_eq_true, Bool.true_and, Bool.and_true, Bool.false_and, Bool.and_false, hi, a2, a4, a5, ha, n9, ← et, hcl, hln, ao.As, ih]
    · have a4 : ¬ (0 : Int) < (G.getD i []).length := by have := h2 i (by omega); omega
      have e1 : (Pu.cZ q G N).take (i + 1) = (Pu.cZ q G N).take i := by
        rw [List.take_of_length_le (by rw [Pu.dJ]; omega), List.take_of_length_le (by rw [Pu.dJ]; omega)]
      rw [e1] at ih
      simp (disch := omega) only [↓an, bm, bn, aG, aP, aM, aB, az, aE, bk, aK, aO, ar, au, aN, al, aF, aL, bo, bp, aQ, aR, ab, Pu.w64, Int.toNat_natCast, decide_eq_true_eq, Int.ofNat_lt, Int.ofNat_le, if_true, if_false, Int.natCast_nonneg, decide_true, decide_false, Bool.not_true, Bool.not_false, Bool.false_eq_true, Bool.not_eq_true, Bool.true_and, Bool.and_true, Bool.false_and, Bool.and_false, hi, a4, ao.As, ih]
theorem ao.is {k : Nat} {t : Pu.Tab} {n : Nat} (hk : 4194304 + 20 ≤ k) (h : Pu.dU t = true) (hn : n < t.1.length) (hc : t.1.getD (n + 1) 0 < t.1.getD n 0) : ao k t n = some ((Pu.fw t n).1, ((Pu.fw t n).2 : Int), true) := by
  obtain ⟨k, rfl⟩ : ∃ k', k = k' + 2 := ⟨k - 2, by omega⟩
  obtain ⟨z1, z2⟩ := Pu.tA h
  obtain ⟨hp, ho, hl, _⟩ := Pu.fQ h
  have hit := aH.is (k := k + 1) (t := t) (by omega) (by omega) (by have := z2.1; omega) (fun r hr => by have := z2.2 r hr; omega)
  rw [h] at hit
  have hco := bN.is (k := k + 1) (p := t.1) (by omega) (by omega)
  have hct := bW.is (k := k + 1) (x := (n : Int)) (r := Pu.kH t.1) (by omega) (by have := Pu.qN t.1; omega)
  rw [Pu.qz hp hn hc] at hct
  have hrb := a7.is (k := k + 1) (p := t.1) (n := n) (by omega) hp hn hc
  have hgr := bM.is (k := k + 1) (t := t) (by omega) hp (z2.mono (by omega) (by omega))
  have hb := Pu.cS hp n
  rw [Pu.ch] at hb
  have hpos : 1 ≤ t.1.getD n 0 := by
    rw [Pu.ay hn]
    exact ((Pu.b6 hp).1 _ (List.getElem_mem hn)).1
  obtain ⟨E, s1, s2⟩ := Pu.yU h hn hc
  have hst := Pu.mS h hn hc
  have a2 := ao.loop (k := k) (q := Pu.aT t.1 n) (x4 := []) (x5 := []) (by omega) 18 (k + 1) (Pu.cf t) n (t.1.getD n 0 - 1).toNat ⟨by rw [Pu.gu]; exact z2.1, fun r hr => by
    obtain ⟨q, hq, rfl⟩ := List.getElem_of_mem hr
    have a := Pu.ju hp q
    have b := (Pu.cS ho q).2
    rw [Pu.ch] at b
    rw [Pu.ay hq] at a
    omega⟩ hst.hi hst.hc (by omega) s1 s2
  rw [show (((t.1.getD n 0 - 1).toNat : Nat) : Int) = t.1.getD n 0 - 1 by omega] at a2
  have hS : Pu.bL 18 (Pu.cf t) n (t.1.getD n 0 - 1).toNat = Pu.eM t n := rfl
  rw [hS] at a2
  rw [ao.eq, ao.fB, show ((t.1, t.2) : Pu.Tab) = t from rfl]
  unfold Pu.fw
  generalize Pu.eM t n = S at *
  obtain ⟨g, i, c⟩ := S
  simp only at E a2 ⊢
  have hdl := Pu.jB (Pu.outer t) i
  have hql := Pu.jB t.1 n
  have hol := Pu.cb t
  have hgl := E.len
  have hcl : (Pu.jx g i c).length = g.length := Pu.lN g i c
  have hi := E.sl.hi
  have hcc := E.sl.hc
  have hR := fun x3 x4 x5 x6 x7 x8 x11 x12 x14 x15 => ao.rows (k := k) (q := Pu.aT t.1 n) (G := Pu.jx g i c) (N := (Pu.aT (Pu.outer t) i).length) (x2 := (i : Int)) (x3 := x3) (x4 := x4) (x5 := x5) (x6 := x6) (x7 := x7) (x8 := x8) (x11 := x11) (x12 := x12) (x14 := x14) (x15 := x15) (by omega) E.rows (by omega) (by omega)
    (fun r hr => by
      have a := E.cutl r
      have b := Pu.sg ho E.hi E.cor hr
      have d := E.ins r
      exact ⟨by omega, E.sl.q0 r, by omega⟩)
    (fun r hr => by
      have a := E.cutl r
      rw [Pu.bU hr] at a
      omega) (Pu.jx g i c).length k 0 (by omega) (by have := E.rows.1; omega)
  simp only [Int.natCast_zero, List.take_zero] at hR
  have ec : g.set i ((g.getD i []).take c) = Pu.jx g i c := rfl
  have hcc' : c ≤ (g.getD i []).length := by omega
  rw [ao.oz] at a2
  simp (disch := omega) only [↓an, bm, bn, aG, aP, aM, aB, az, aE, bk, aK, aO, ar, au, aN, al, aF, aL, bo, bp, aQ, aR, ab, Pu.w64, Int.toNat_natCast, decide_eq_true_eq, Int.ofNat_lt, Int.ofNat_le, if_true, if_false, Int.natCast_nonneg, decide_true, decide_false, Bool.not_true, Bool.not_false, Bool.false_eq_true, Bool.not_eq_true, Bool.true_and, Bool.and_true, Bool.false_and, Bool.and_false, hi, hcc', n9, Nat.sub_zero, List.drop_zero, ec, hR, beq_self_eq_true] at a2
  simp (disch := omega) only [↓an, bm, bn, aG, aP, aM, aB, az, aE, bk, aK, aO, ar, au, aN, al, aF, aL, bo, bp, aQ, aR, ab, Pu.w64, Int.toNat_natCast, decide_eq_true_eq, Int.ofNat_lt, Int.ofNat_le, if_true, if_false, Int.natCast_nonneg, decide_true, decide_false, Bool.not_true, Bool.not_false, Bool.false_eq_true, Bool.not_eq_true, Bool.true_and, Bool.and_true, Bool.false_and, Bool.and_false, hit, hco, hct, hrb, hgr, hn, a2]
theorem dK.is {k : Nat} {t : Pu.Tab} (hk : 4194304 + 30 ≤ k) (h : Pu.bc t = true) (h0 : 0 < t.2.length) : dK k t = some ((Pu.ba t).1, ((Pu.ba t).2 : Int)) := by
  obtain ⟨k, rfl⟩ : ∃ k', k = k' + 1 := ⟨k - 1, by omega⟩
  have hz := Pu.jg h
  have hi1 := Pu.cN h
  have hr := Pu.gV h h0
  have hcp := bH.is (k := k) (t := t) (by omega) (by rw [hi1]; simp) (by have := hz.1; omega) (fun r hr => by have := hz.2 r hr; omega)
  have hs := ao.is (k := k) (t := Pu.dC t) (n := 0) (by omega) (Pu.lD h h0) (by simp [Pu.dC]) (by simp [Pu.dC])
  rw [Int.natCast_zero] at hs
  have e2 : ((t.2.getD 0 []).drop 1).take ((t.2.getD 0 []).length - 1) = (t.2.getD 0 []).drop 1 := List.take_of_length_le (by rw [List.length_drop]; omega)
  rw [dK.eq, show ((t.1, t.2) : Pu.Tab) = t from rfl, hcp, ab]
  have hg : 1 ≤ (t.2.getD 0 []).length := hr
  simp only [↓an, bm, bn, aG, aP, aM, aB, az, aE, bk, aK, aO, ar, au, aN, al, aF, aL, bo, bp, aQ, aR, ab, Pu.w64, Int.toNat_natCast, decide_eq_true_eq, Int.ofNat_lt, Int.ofNat_le, if_true, if_false, Int.natCast_nonneg, decide_true, decide_false, Bool.not_true, Bool.not_false, Bool.false_eq_true, Bool.not_eq_true, Bool.true_and, Bool.and_true, Bool.false_and, Bool.and_false, n9, Int.toNat_zero, Int.toNat_one, h0, hg, e2, show (0 : Int) ≤ 0 from Int.le_refl _, show (0 : Int) ≤ 1 by omega]
  rw [show ((1 :: [], t.2.set 0 ((t.2.getD 0 []).drop 1)) : Pu.Tab) = Pu.dC t from rfl, hs]
  rfl
theorem aw.inner {k k1 : Nat} {d : Int} {n : Nat} {inn : List Int} (hd : -1 ≤ d ∧ d ≤ 1) {i : Nat} (hi9 : i < 1000) {len : Nat} (hl9 : len ≤ 1000) : ∀ (m j q : Nat) (rs : List (List Int)), q + m = len → (rs.getD i []).length = len → m < j → i < rs.length → (∀ p, q ≤ p → -100 ≤ (rs.getD i []).getD p 0 ∧ (rs.getD i []).getD p 0 ≤ 100) →
    aw.L1 k k1 j d i n i len q rs inn = aw.L0 k k1 d n ((i + 1 : Nat) : Int) (rs.set i (Pu.fU d q (rs.getD i []))) inn
  | m, 0, q, rs, _, _, hj, _, _ => by omega
  | 0, j + 1, q, rs, hq, hl, _, hi, _ => by
    rw [aw.dR]
    have hn : ¬ (q : Int) < (len : Int) := by omega
    have e : q = (rs.getD i []).length := by omega
    rw [e, Pu.qj, Pu.ay hi, List.set_getElem_self, ← Pu.ay hi [], ← e]
    simp (disch := omega) only [↓an, bm, bn, aG, aP, aM, aB, az, aE, bk, aK, aO, ar, au, aN, al, aF, aL, bo, bp, aQ, aR, ab, Pu.w64, Int.toNat_natCast, decide_eq_true_eq, Int.ofNat_lt, Int.ofNat_le, if_true, if_false, Int.natCast_nonneg, decide_true, decide_false, Bool.not_true, Bool.not_false, Bool.false_eq_true, Bool.not_eq_true, Bool.true_and, Bool.and_true, Bool.false_and, Bool.and_false, hn]
    rw [Int.natCast_succ]
  | m + 1, j + 1, q, rs, hq, hl, hj, hi, hb => by
    rw [aw.dR]
    have hn : (q : Int) < (len : Int) := by omega
    have hql : q < (rs.getD i []).length := by omega
    have hbq := hb q (Nat.le_refl _)
    have er : (rs.set i ((rs.getD i []).set q ((rs.getD i []).getD q 0 + d))).getD i [] = (rs.getD i []).set q ((rs.getD i []).getD q 0 + d) := by
      rw [Pu.ay (by rw [List.length_set]; exact hi), List.getElem_set_self]
    have ih := aw.inner (k := k) (k1 := k1) (n := n) (inn := inn) hd hi9 hl9 m j (q + 1) (rs.set i ((rs.getD i []).set q ((rs.getD i []).getD q 0 + d))) (by omega) (by rw [er, List.length_set]; exact hl) (by omega) (by rw [List.length_set]; exact hi) (fun p hp => by
      rw [er, Pu.getD_set_ne (by omega)]
      exact hb p (by omega))
    rw [er, List.set_set, Pu.oN hql] at ih
    rw [← ih, Int.natCast_succ]
    simp (disch := omega) only [↓an, bm, bn, aG, aP, aM, aB, az, aE, bk, aK, aO, ar, au, aN, al, aF, aL, bo, bp, aQ, aR, ab, Pu.w64, Int.toNat_natCast, decide_eq_true_eq, Int.ofNat_lt, Int.ofNat_le, if_true, if_false, Int.natCast_nonneg, decide_true, decide_false, Bool.not_true, Bool.not_false, Bool.false_eq_true, Bool.not_eq_true, Bool.true_and, Bool.and_true, Bool.false_and, Bool.and_false, hn, hi, hql]
theorem aw.outer {k : Nat} {d : Int} {inn : List Int} (hk : 4194304 ≤ k) (hd : -1 ≤ d ∧ d ≤ 1) : ∀ (m j i : Nat) (rs : List (List Int)), i + m = rs.length → m < j → Pu.dy 999 1000 rs → Pu.Small (rs.drop i) →
    aw.L0 k j d rs.length i rs inn = some ((), (inn, Pu.gC d i rs))
  | m, 0, i, rs, _, hj, _, _ => by omega
  | 0, j + 1, i, rs, hm, _, _, _ => by
    rw [aw.bu]
    have e : i = rs.length := by omega
    subst e
    have hn : ¬ (rs.length : Int) < rs.length := by omega
    simp only [↓an, bm, bn, aG, aP, aM, aB, az, aE, bk, aK, aO, ar, au, aN, al, aF, aL, bo, bp, aQ, aR, ab, Pu.w64, Int.toNat_natCast, decide_eq_true_eq, Int.ofNat_lt, Int.ofNat_le, if_true, if_false, Int.natCast_nonneg, decide_true, decide_false, Bool.not_true, Bool.not_false, Bool.false_eq_true, Bool.not_eq_true, Bool.true_and, Bool.and_true, Bool.false_and, Bool.and_false, hn, Pu.nB]
  | m + 1, j + 1, i, rs, hm, hj, hr, hs => by
    rw [aw.bu]
    have hi : i < rs.length := by omega
    have hn : (i : Int) < rs.length := by omega
    have h9 := hr.at i
    have h99 := hr.1
    have hg : ∀ p, -100 ≤ (rs.getD i []).getD p 0 ∧ (rs.getD i []).getD p 0 ≤ 100 := fun p => by
      have := hs 0 p
      rw [Pu.gD] at this
      exact this
    have hin := aw.inner (k := k) (k1 := j) (n := rs.length) (inn := inn) hd (i := i) (by omega) (len := (rs.getD i []).length) h9 (rs.getD i []).length k 0 rs (by omega) rfl (by omega) hi (fun p _ => hg p)
    have ih := aw.outer (inn := inn) hk hd m j (i + 1) (rs.set i (Pu.fU d 0 (rs.getD i []))) (by rw [List.length_set]; omega) (by omega) (hr.set i (by rw [Pu.qs]; exact h9)) (fun a p => by
      have := hs (a + 1) p
      rw [Pu.gD] at this ⊢
      rw [Pu.getD_set_ne (by omega)]
      rw [show i + 1 + a = i + (a + 1) by omega]
      exact this)
    rw [List.length_set, Pu.mD hi] at ih
    rw [ih] at hin
    rw [Int.natCast_zero] at hin
    simp (disch := omega) only [↓an, bm, bn, aG, aP, aM, aB, az, aE, bk, aK, aO, ar, au, aN, al, aF, aL, bo, bp, aQ, aR, ab, Pu.w64, Int.toNat_natCast, decide_eq_true_eq, Int.ofNat_lt, Int.ofNat_le, if_true, if_false, Int.natCast_nonneg, decide_true, decide_false, Bool.not_true, Bool.not_false, Bool.false_eq_true, Bool.not_eq_true, Bool.true_and, Bool.and_true, Bool.false_and, Bool.and_false, hn, hi, hin]
theorem aw.is {k : Nat} {d : Int} {inn : List Int} {rs : List (List Int)} (hk : 4194304 + 2 ≤ k) (hd : -1 ≤ d ∧ d ≤ 1) (hr : Pu.dy 999 1000 rs) (hs : Pu.Small rs) : aw k d inn rs = some ((), (inn, Pu.cn d rs)) := by
  obtain ⟨k, rfl⟩ : ∃ k', k = k' + 1 := ⟨k - 1, by omega⟩
  have h99 := hr.1
  have h := aw.outer (k := k) (inn := inn) (by omega) hd rs.length k 0 rs (by omega) (by omega) hr hs
  rw [Int.natCast_zero] at h
  rw [aw.eq]
  simp only [↓an, bm, bn, aG, aP, aM, aB, az, aE, bk, aK, aO, ar, au, aN, al, aF, aL, bo, bp, aQ, aR, ab, Pu.w64, Int.toNat_natCast, decide_eq_true_eq, Int.ofNat_lt, Int.ofNat_le, if_true, if_false, Int.natCast_nonneg, decide_true, decide_false, Bool.not_true, Bool.not_false, Bool.false_eq_true, Bool.not_eq_true, Bool.true_and, Bool.and_true, Bool.false_and, Bool.and_false, h, Pu.gC, List.take_zero, List.drop_zero, List.nil_append]
theorem cL.tail {k : Nat} {x2 : List Int} {x3 : List (List Int)} {inn : List Int} {n i : Nat} {rs : List (List Int)} (hi : i < rs.length) (hr : Pu.dy 10 9 rs) :
    cL.J0 k n i x2 x3 inn rs = some ((inn, rs.set i (rs.getD i [] ++ [(n : Int)])), true) := by
  rw [cL.fB]
  have h9 := hr.at i
  have hl : (rs.getD i [] ++ [(n : Int)]).length ≤ 1099511627776 := by rw [List.length_append]; simp only [List.length_cons, List.length_nil]; omega
  simp (disch := omega) only [↓an, bm, bn, aG, aP, aM, aB, az, aE, bk, aK, aO, ar, au, aN, al, aF, aL, bo, bp, aQ, aR, ab, Pu.w64, Int.toNat_natCast, decide_eq_true_eq, Int.ofNat_lt, Int.ofNat_le, if_true, if_false, Int.natCast_nonneg, decide_true, decide_false, Bool.not_true, Bool.not_false, Bool.false_eq_true, Bool.not_eq_true, Bool.true_and, Bool.and_true, Bool.false_and, Bool.and_false, hi, hl]
theorem cL.is {k : Nat} {t : Pu.Tab} (hk : 4194304 + 50 ≤ k) (h1 : t.1.length ≤ 1048576) (ht : t.2.length ≤ 1048576) (hr : ∀ x ∈ t.2, x.length ≤ 1048576) : cL k t = some (Pu.cJ t) := by
  obtain ⟨k, rfl⟩ : ∃ k', k = k' + 1 := ⟨k - 1, by omega⟩
  rw [cL.eq, show ((t.1, t.2) : Pu.Tab) = t from rfl, cG.is (by omega) h1 ht hr, ab]
  unfold Pu.cJ
  cases hp : Pu.bc t with
  | false => simp
  | true =>
    cases hb : Pu.dv t with
    | false => simp
    | true =>
      have h9 := Pu.j6 hp
      have hit : Pu.dU t = true := by
        have := hp
        simp only [Pu.bc, Bool.and_eq_true] at this
        exact this.1
      have hnum := bT.is (k := k) (t := t) (by omega) h1 ht hr
      rw [if_pos hit] at hnum
      have hrl : t.2.reverse.flatten.length = t.2.flatten.length := by simp [List.length_flatten, List.map_reverse, List.sum_reverse]
      by_cases c : t.2.flatten.length = 0
      · have hc : (t.2.flatten.length : Int) = 0 := by omega
        rw [if_pos ⟨rfl, rfl⟩, if_pos c]
        simp only [↓an, bm, bn, aG, aP, aM, aB, az, aE, bk, aK, aO, ar, au, aN, al, aF, aL, bo, bp, aQ, aR, ab, Pu.w64, Int.toNat_natCast, decide_eq_true_eq, Int.ofNat_lt, Int.ofNat_le, if_true, if_false, Int.natCast_nonneg, decide_true, decide_false, Bool.not_true, Bool.not_false, Bool.false_eq_true, Bool.not_eq_true, Bool.true_and, Bool.and_true, Bool.false_and, Bool.and_false, hnum, hrl, hc]
      · have hc : ¬ (t.2.flatten.length : Int) = 0 := by omega
        have h0 := Pu.gr (t := t) (by omega)
        have htk := dK.is (k := k) (by omega) hp h0
        obtain ⟨w1, w2⟩ := Pu.lZ hp h0
        have hpl := (Pu.dB hp h0).1
        have hin := Pu.cN hpl
        have hsm : Pu.Small (Pu.ba t).1.2 := by
          have := hpl
          simp only [Pu.bc, Bool.and_eq_true] at this
          exact Pu.qL this.1
        have hpr := Pu.jg hpl
        have hsh := aw.is (k := k) (d := -1) (inn := []) (rs := (Pu.ba t).1.2) (by omega) (by omega) (hpr.mono (by omega) (by omega)) hsm
        have hsl : (Pu.cn (-1) (Pu.ba t).1.2).length = (Pu.ba t).1.2.length := Pu.jU _ _
        have htl := cL.tail (k := k) (x2 := ([] : List Int)) (x3 := ([] : List (List Int))) (inn := []) (n := t.2.flatten.length) (i := (Pu.ba t).2) (rs := Pu.cn (-1) (Pu.dT (Pu.ba t))) (by rw [Pu.jU]; exact w1) (Pu.sF w2 _)
        rw [if_pos ⟨rfl, rfl⟩, if_neg c]
        have hlr := w2.1
        unfold Pu.dT at htl hlr ⊢
        by_cases e : (Pu.ba t).2 = (Pu.ba t).1.2.length
        · have e' : ((Pu.ba t).2 : Int) = (Pu.ba t).1.2.length := by omega
          rw [if_pos e] at htl hlr ⊢
          have hap : Pu.cn (-1) ((Pu.ba t).1.2 ++ [[]]) = Pu.cn (-1) (Pu.ba t).1.2 ++ [[]] := by simp [Pu.cn]
          rw [hap] at htl ⊢
          have hl : (Pu.cn (-1) (Pu.ba t).1.2 ++ [[]]).length ≤ 1099511627776 := by rw [List.length_append, hsl]; simp; have := hpr.1; omega
          simp only [↓an, bm, bn, aG, aP, aM, aB, az, aE, bk, aK, aO, ar, au, aN, al, aF, aL, bo, bp, aQ, aR, ab, Pu.w64, Int.toNat_natCast, decide_eq_true_eq, Int.ofNat_lt, Int.ofNat_le, if_true, if_false, Int.natCast_nonneg, decide_true, decide_false, Bool.not_true, Bool.not_false, Bool.false_eq_true, Bool.not_eq_true, Bool.true_and, Bool.and_true, Bool.false_and, Bool.and_false, hnum, hrl, hc, htk, hin, hsh, hsl, hl]
          rw [if_pos e', htl]
        · have e' : ¬ ((Pu.ba t).2 : Int) = (Pu.ba t).1.2.length := by omega
          rw [if_neg e] at htl hlr ⊢
          simp only [↓an, bm, bn, aG, aP, aM, aB, az, aE, bk, aK, aO, ar, au, aN, al, aF, aL, bo, bp, aQ, aR, ab, Pu.w64, Int.toNat_natCast, decide_eq_true_eq, Int.ofNat_lt, Int.ofNat_le, if_true, if_false, Int.natCast_nonneg, decide_true, decide_false, Bool.not_true, Bool.not_false, Bool.false_eq_true, Bool.not_eq_true, Bool.true_and, Bool.and_true, Bool.false_and, Bool.and_false, hnum, hrl, hc, htk, hin, hsh, hsl, e', htl]
theorem bh.loop {k : Nat} {a b : List Int} (hl : a.length = b.length) (ha : a.length ≤ 1048576) : ∀ (m j i : Nat), i + m = a.length → m < j → bh.L0 k j a.length i a b = some (decide (a.drop i = b.drop i))
  | m, 0, i, _, hj => by omega
  | 0, j + 1, i, hi, _ => by
    rw [bh.bu]
    have e : i = a.length := by omega
    subst e
    simp [hl]
  | m + 1, j + 1, i, hi, hj => by
    rw [bh.bu]
    have h1 : i < a.length := by omega
    have h2 : i < b.length := by omega
    have ih := bh.loop (k := k) hl ha m j (i + 1) (by omega) (by omega)
    rw [Int.natCast_succ] at ih
    rw [Pu.drop_cons h1 0, Pu.drop_cons h2 0]
    by_cases e : a.getD i 0 = b.getD i 0 <;> simp (disch := omega) only [↓an, bm, bn, aG, aP, aM, aB, az, aE, bk, aK, aO, ar, au, aN, al, aF, aL, bo, bp, aQ, aR, ab, Pu.w64, Int.toNat_natCast, decide_eq_true_eq, Int.ofNat_lt, Int.ofNat_le, if_true, if_false, Int.natCast_nonneg, decide_true, decide_false, Bool.not_true, Bool.not_false, Bool.false_eq_true, Bool.not_eq_true, Bool.true_and, Bool.and_true, Bool.false_and, Bool.and_false, h1, h2, ih, e, List.cons.injEq, true_and, false_and]
theorem bh.is {k : Nat} {a b : List Int} (hk : 4194304 + 1 ≤ k) (ha : a.length ≤ 1048576) : bh k a b = some (decide (a = b)) := by
  obtain ⟨k, rfl⟩ : ∃ k', k = k' + 1 := ⟨k - 1, by omega⟩
  rw [bh.eq]
  by_cases hl : a.length = b.length
  · have h := bh.loop (k := k) hl ha a.length k 0 (by omega) (by omega)
    rw [Int.natCast_zero] at h
    simp only [List.drop_zero] at h
    have hl' : (a.length : Int) = b.length := by omega
    have e : D.eq (a.length : Int) (b.length : Int) = true := decide_eq_true hl'
    simp only [az, aB, e, bo, Bool.not_true, an, Bool.false_eq_true, if_false, h]
  · have hne : a ≠ b := fun e => hl (by rw [e])
    have hl' : ¬ (a.length : Int) = b.length := by omega
    simp [hl', hne]
theorem af.loop {k : Nat} {a b : List (List Int)} (hk : 4194304 + 1 ≤ k) (hl : a.length = b.length) (ha : a.length ≤ 1048576) (hr : ∀ x ∈ a, x.length ≤ 1048576) : ∀ (m j i : Nat), i + m = a.length → m < j → af.L0 k j a.length i b a = some (decide (a.drop i = b.drop i), ())
  | m, 0, i, _, hj => by omega
  | 0, j + 1, i, hi, _ => by
    rw [af.bu]
    have e : i = a.length := by omega
    subst e
    simp [hl]
  | m + 1, j + 1, i, hi, hj => by
    rw [af.bu]
    have h1 : i < a.length := by omega
    have h2 : i < b.length := by omega
    have ih := af.loop hk hl ha hr m j (i + 1) (by omega) (by omega)
    rw [Int.natCast_succ] at ih
    have hs := bh.is (k := k) (a := a.getD i []) (b := b.getD i []) hk (by rw [Pu.ay h1]; exact hr _ (List.getElem_mem h1))
    rw [Pu.drop_cons h1 [], Pu.drop_cons h2 []]
    simp (disch := omega) only [↓an, bm, bn, aG, aP, aM, aB, az, aE, bk, aK, aO, ar, au, aN, al, aF, aL, bo, bp, aQ, aR, ab, Pu.w64, Int.toNat_natCast, decide_eq_true_eq, Int.ofNat_lt, Int.ofNat_le, if_true, if_false, Int.natCast_nonneg, decide_true, decide_false, Bool.not_true, Bool.not_false, Bool.false_eq_true, Bool.not_eq_true, Bool.true_and, Bool.and_true, Bool.false_and, Bool.and_false, h1, h2, hs, ih]
    generalize a.getD i [] = u
    generalize b.getD i [] = v
    by_cases e : u = v <;> simp [e]
theorem af.is {k : Nat} {a b : List (List Int)} (hk : 4194304 + 2 ≤ k) (ha : a.length ≤ 1048576) (hr : ∀ x ∈ a, x.length ≤ 1048576) : af k a b = some (decide (a = b), ()) := by
  obtain ⟨k, rfl⟩ : ∃ k', k = k' + 1 := ⟨k - 1, by omega⟩
  rw [af.eq]
  by_cases hl : a.length = b.length
  · have h := af.loop (k := k) (by omega) hl ha hr a.length k 0 (by omega) (by omega)
    rw [Int.natCast_zero] at h
    simp only [List.drop_zero] at h
    have hl' : (a.length : Int) = b.length := by omega
    have e : D.eq (a.length : Int) (b.length : Int) = true := decide_eq_true hl'
    simp only [az, aB, e, bo, Bool.not_true, an, Bool.false_eq_true, if_false, h]
  · have hne : a ≠ b := fun e => hl (by rw [e])
    have hl' : ¬ (a.length : Int) = b.length := by omega
    simp [hl', hne]
theorem dO.is {k : Nat} {a b : Pu.Tab} (hk : 4194304 + 3 ≤ k) (h : Pu.ig a) : dO k a b = some (decide (a = b)) := by
  obtain ⟨k, rfl⟩ : ∃ k', k = k' + 1 := ⟨k - 1, by omega⟩
  obtain ⟨a1, a2⟩ := a
  obtain ⟨b1, b2⟩ := b
  rw [dO.eq, bh.is (by omega) h.1, af.is (by omega) h.2.1 h.2.2]
  by_cases e : a1 = b1 <;> simp [e]
theorem bw.loop {k : Nat} {t : Pu.Tab} (hk : 4194304 + 100 ≤ k) (ht : Pu.ig t) : ∀ (m j : Nat) (cur : Pu.Tab) (acc : List Pu.Tab), Pu.ig cur → acc.length + m ≤ 1000000000 → m < j → (∃ d, 1 ≤ d ∧ d ≤ m ∧ Pu.iter d cur = t) → bw.L0 k j (acc ++ [cur]) t.1 t.2 = some (Pu.ku m t cur (acc ++ [cur]))
  | m, 0, cur, acc, _, _, hj, _ => by omega
  | 0, j + 1, cur, acc, _, _, _, hd => by obtain ⟨d, h1, h2, _⟩ := hd; omega
  | m + 1, j + 1, cur, acc, hc, hl, hj, hd => by
    have hp := cL.is (k := k) (t := cur) (by omega) hc.1 hc.2.1 hc.2.2
    have hpo := Pu.sj (t := cur)
    have he := dO.is (k := k) (a := Pu.prom cur) (b := t) (by omega) hpo
    have hlen : (acc ++ [cur]).length = acc.length + 1 := by simp
    have hget : (acc ++ [cur]).getD acc.length ([], []) = cur := by simp
    have hlt : acc.length < acc.length + 1 := by omega
    have e1 : ((acc.length + 1 : Nat) : Int) - 1 = (acc.length : Int) := by omega
    have hap : (acc ++ [cur] ++ [Pu.prom cur]).length ≤ 1099511627776 := by simp; omega
    rw [bw.bu]
    unfold Pu.ku
    have e2 : (((Pu.cJ cur).1.1, (Pu.cJ cur).1.2) : Pu.Tab) = Pu.prom cur := rfl
    have e3 : ((cur.1, cur.2) : Pu.Tab) = cur := rfl
    have e4 : ((t.1, t.2) : Pu.Tab) = t := rfl
    simp (disch := omega) only [↓an, bm, bn, aG, aP, aM, aB, az, aE, bk, aK, aO, ar, au, aN, al, aF, aL, bo, bp, aQ, aR, ab, Pu.w64, Int.toNat_natCast, decide_eq_true_eq, Int.ofNat_lt, Int.ofNat_le, if_true, if_false, Int.natCast_nonneg, decide_true, decide_false, Bool.not_true, Bool.not_false, Bool.false_eq_true, Bool.not_eq_true, Bool.true_and, Bool.and_true, Bool.false_and, Bool.and_false, hlen, e1, hget, hlt, hp, e2, e3, e4, he]
    by_cases c : Pu.prom cur = t
    · rw [if_pos c, if_pos c]
    · have ih := bw.loop hk ht m j (Pu.prom cur) (acc ++ [cur]) hpo (by rw [hlen]; omega) (by omega) (by
        obtain ⟨d, h1, h2, h3⟩ := hd
        cases d with
        | zero => omega
        | succ d =>
          have h3 : Pu.iter d (Pu.prom cur) = t := h3
          refine ⟨d, ?_, by omega, h3⟩
          cases d with
          | zero => exact absurd h3 c
          | succ d => omega)
      rw [if_neg c, if_neg c, if_pos hap, ih]
theorem bw.is {k m : Nat} {t : Pu.Tab} (hk : 4194304 + 110 + m ≤ k) (ht : Pu.ig t) (hm : m ≤ 1000000000) (hd : (Pu.bc t && Pu.dv t) = true → ∃ d, 1 ≤ d ∧ d ≤ m ∧ Pu.iter d t = t) : bw k t = some (if (Pu.bc t && Pu.dv t) = true then Pu.ku m t t [t] else []) := by
  obtain ⟨k, rfl⟩ : ∃ k', k = k' + 1 := ⟨k - 1, by omega⟩
  rw [bw.eq, show ((t.1, t.2) : Pu.Tab) = t from rfl, cG.is (by omega) ht.1 ht.2.1 ht.2.2, ab]
  cases c : (Pu.bc t && Pu.dv t) with
  | false => simp
  | true =>
    have hc := bH.is (k := k) (t := t) (by omega) ht.1 ht.2.1 ht.2.2
    have hl := bw.loop (k := k) (by omega) ht m k t [] ht (by simpa using hm) (by omega) (hd c)
    rw [List.nil_append] at hl
    simp only [↓an, bm, bn, aG, aP, aM, aB, az, aE, bk, aK, aO, ar, au, aN, al, aF, aL, bo, bp, aQ, aR, ab, Pu.w64, Int.toNat_natCast, decide_eq_true_eq, Int.ofNat_lt, Int.ofNat_le, if_true, if_false, Int.natCast_nonneg, decide_true, decide_false, Bool.not_true, Bool.not_false, Bool.false_eq_true, Bool.not_eq_true, Bool.true_and, Bool.and_true, Bool.false_and, Bool.and_false, hc]
    exact hl
theorem cz.loop {k : Nat} {a b : List Int} (hl : a.length = b.length) (ha : a.length ≤ 1048576) : ∀ (m j i : Nat), i + m = a.length → m < j → cz.L0 k j i a b = some (decide (a.drop i = b.drop i))
  | m, 0, i, _, hj => by omega
  | 0, j + 1, i, hi, _ => by
    rw [cz.bu]
    have e : i = a.length := by omega
    subst e
    simp [hl]
  | m + 1, j + 1, i, hi, hj => by
    rw [cz.bu]
    have h1 : i < a.length := by omega
    have h2 : i < b.length := by omega
    have ih := cz.loop (k := k) hl ha m j (i + 1) (by omega) (by omega)
    rw [Int.natCast_succ] at ih
    rw [Pu.drop_cons h1 0, Pu.drop_cons h2 0]
    by_cases e : a.getD i 0 = b.getD i 0 <;> simp (disch := omega) only [an, bm, bn, aG, aB, az, aE, bk, al, aF, bo, bp, Pu.w64, Int.toNat_natCast, decide_eq_true_eq, Int.ofNat_lt, h1, h2, if_true, Int.natCast_nonneg, decide_true, ih, e, List.cons.injEq, true_and, false_and, decide_false, Bool.not_true, Bool.not_false, if_false, Bool.false_eq_true]
theorem cz.is {k : Nat} {a b : List Int} (hk : 4194304 + 1 ≤ k) (ha : a.length ≤ 1048576) : cz k a b = some (decide (a = b)) := by
  obtain ⟨k, rfl⟩ : ∃ k', k = k' + 1 := ⟨k - 1, by omega⟩
  rw [cz.eq]
  by_cases hl : a.length = b.length
  · have h := cz.loop (k := k) hl ha a.length k 0 (by omega) (by omega)
    rw [Int.natCast_zero] at h
    simp only [List.drop_zero] at h
    have hl' : (a.length : Int) = b.length := by omega
    simp only [an, bo, bp, az, aB, hl', decide_true, Bool.not_true, Bool.false_eq_true, if_false, h]
  · have hne : a ≠ b := fun e => hl (by rw [e])
    have hl' : ¬ (a.length : Int) = b.length := by omega
    simp [hl', hne]
theorem cx.loop {k : Nat} {a b : List (List Int)} (hk : 4194304 + 1 ≤ k) (hl : a.length = b.length) (ha : a.length ≤ 1048576) (hr : ∀ x ∈ a, x.length ≤ 1048576) : ∀ (m j i : Nat), i + m = a.length → m < j → cx.L0 k j i a b = some (decide (a.drop i = b.drop i))
  | m, 0, i, _, hj => by omega
  | 0, j + 1, i, hi, _ => by
    rw [cx.bu]
    have e : i = a.length := by omega
    subst e
    simp [hl]
  | m + 1, j + 1, i, hi, hj => by
    rw [cx.bu]
    have h1 : i < a.length := by omega
    have h2 : i < b.length := by omega
    have ih := cx.loop (k := k) hk hl ha hr m j (i + 1) (by omega) (by omega)
    rw [Int.natCast_succ] at ih
    rw [Pu.drop_cons h1 [], Pu.drop_cons h2 []]
    have hq := cz.is (k := k) (a := a.getD i []) (b := b.getD i []) (by omega) (by rw [Pu.ay h1]; exact hr _ (List.getElem_mem h1))
    simp (disch := omega) only [an, bm, bn, aG, aB, az, aE, bk, al, aF, bo, hq, ab, Pu.w64, Int.toNat_natCast, decide_eq_true_eq, Int.ofNat_lt, h1, h2, if_true, Int.natCast_nonneg, decide_true, ih]
    by_cases e : a.getD i [] = b.getD i [] <;> simp only [e, List.cons.injEq, true_and, false_and, decide_false, decide_true, Bool.not_true, Bool.not_false, if_false, if_true, Bool.false_eq_true]
theorem cx.is {k : Nat} {a b : List (List Int)} (hk : 4194304 + 2 ≤ k) (ha : a.length ≤ 1048576) (hr : ∀ x ∈ a, x.length ≤ 1048576) : cx k a b = some (decide (a = b)) := by
  obtain ⟨k, rfl⟩ : ∃ k', k = k' + 1 := ⟨k - 1, by omega⟩
  rw [cx.eq]
  by_cases hl : a.length = b.length
  · have h := cx.loop (k := k) (by omega) hl ha hr a.length k 0 (by omega) (by omega)
    rw [Int.natCast_zero] at h
    simp only [List.drop_zero] at h
    have hl' : (a.length : Int) = b.length := by omega
    simp only [an, bo, bp, az, aB, hl', decide_true, Bool.not_true, Bool.false_eq_true, if_false, h]
  · have hne : a ≠ b := fun e => hl (by rw [e])
    have hl' : ¬ (a.length : Int) = b.length := by omega
    simp [hl', hne]
theorem dM.is {k : Nat} {a b : List Int × List (List Int)} (hk : 4194304 + 3 ≤ k) (h1 : a.1.length ≤ 1048576) (ha : a.2.length ≤ 1048576) (hr : ∀ x ∈ a.2, x.length ≤ 1048576) : dM k a b = some (decide (a = b)) := by
  obtain ⟨k, rfl⟩ : ∃ k', k = k' + 1 := ⟨k - 1, by omega⟩
  obtain ⟨a1, a2⟩ := a
  obtain ⟨b1, b2⟩ := b
  rw [dM.eq, cz.is (by omega) h1, ab, cx.is (by omega) ha hr]
  by_cases e1 : a1 = b1 <;> by_cases e2 : a2 = b2 <;> simp [e1, e2]
theorem bP.loop {k : Nat} {l : List Pu.Tab} (hk : 4194304 + 3 ≤ k) (hl : l.length ≤ 2000000000) (ho : ∀ x ∈ l, Pu.ig x) : ∀ (m j i : Nat), i + m = l.length → m < j → bP.L0 k j i l l = some true
  | m, 0, i, _, hj => by omega
  | 0, j + 1, i, hi, _ => by
    rw [bP.bu]
    have hn : ¬ (i : Int) < l.length := by omega
    exact Pu.tX hn rfl
  | m + 1, j + 1, i, hi, hj => by
    rw [bP.bu]
    have hn : (i : Int) < l.length := by omega
    have hlt : i < l.length := by omega
    have ih := bP.loop hk hl ho m j (i + 1) (by omega) (by omega)
    rw [Int.natCast_succ] at ih
    have hx := ho _ (List.getElem_mem hlt)
    rw [← Pu.ay hlt ([], [])] at hx
    have he := dM.is (k := k) (a := l.getD i ([], [])) (b := l.getD i ([], [])) hk hx.1 hx.2.1 hx.2.2
    rw [decide_eq_true rfl] at he
    have hw : IntKind.i64.wrap ((i : Int) + 1) = (i : Int) + 1 := Pu.w64 (by omega) (by omega)
    simp only [aE, aB, az, bk, aF, al, Int.toNat_natCast, hw]
    refine Pu.tG hn (Pu.tG (Int.natCast_nonneg i) ?_)
    refine Pu.tG hlt (Pu.tG hlt (Pu.tG (Int.natCast_nonneg i) (Pu.tG hlt (Pu.tG hlt (Pu.tG hlt (Pu.tG hlt (Pu.tG hlt (Pu.tG hlt ?_))))))))
    exact Pu.bE he (Pu.tN ih)
theorem bP.refl {k : Nat} {l : List Pu.Tab} (hk : 4194304 + 4 + l.length ≤ k) (hl : l.length ≤ 2000000000) (ho : ∀ x ∈ l, Pu.ig x) : bP k l l = some true := by
  obtain ⟨k, rfl⟩ : ∃ k', k = k' + 1 := ⟨k - 1, by omega⟩
  have h := bP.loop (k := k) (by omega) hl ho l.length k 0 (by omega) (by omega)
  rw [Int.natCast_zero] at h
  rw [bP.eq]
  exact Pu.tE rfl h
theorem bS.loop {k : Nat} : ∀ (m j i : Nat) (q : Int) (a : List Int), i + m = a.length → m < j → a.length ≤ 1048576 → 0 ≤ q → q + m ≤ 4000000000000 → bS.L0 k j q i a = some (q + m, a.take i ++ Pu.mark (a.drop i) q)
  | m, 0, i, q, a, _, hj, _, _, _ => by omega
  | 0, j + 1, i, q, a, hi, _, _, _, _ => by
    rw [bS.bu]
    have e : i = a.length := by omega
    subst e
    simp [Pu.mark]
  | m + 1, j + 1, i, q, a, hi, hj, ha, hq, hq2 => by
    rw [bS.bu]
    have h1 : i < a.length := by omega
    have ih := bS.loop (k := k) m j (i + 1) (q + 1) (a.set i q) (by simp; omega) (by omega) (by simpa using ha) (by omega) (by omega)
    rw [Int.natCast_succ] at ih
    have e1 : (a.set i q).take (i + 1) = a.take i ++ [q] := by
      rw [Pu.take_succ (by simpa using h1) 0, List.take_set_of_le (Nat.le_refl _)]
      simp [h1]
    have e2 : (a.set i q).drop (i + 1) = a.drop (i + 1) := by rw [List.drop_set_of_lt (by omega)]
    rw [e1, e2] at ih
    rw [Pu.drop_cons h1 0]
    simp (disch := omega) only [an, bm, bn, aG, aB, az, aE, aK, al, aF, Pu.w64, Int.toNat_natCast, decide_eq_true_eq, Int.ofNat_lt, h1, if_true, Int.natCast_nonneg, decide_true, ih, Pu.mark]
    simp
    omega
theorem bS.is {k : Nat} {a : List Int} {q : Int} (hk : 4194304 + 1 ≤ k) (ha : a.length ≤ 1048576) (hq : 0 ≤ q) (hq2 : q + a.length ≤ 4000000000000) : bS k q a = some (q + a.length, Pu.mark a q) := by
  obtain ⟨k, rfl⟩ : ∃ k', k = k' + 1 := ⟨k - 1, by omega⟩
  rw [bS.eq]
  have h := bS.loop (k := k) a.length k 0 q a (by omega) (by omega) ha hq hq2
  rw [Int.natCast_zero] at h
  simpa using h
theorem aX.inner {k k1 r : Nat} {x3 x4 x5 x6 x8 x11 : Int} {x7 : Bool} {x9 x10 : Nat} : ∀ (m j i : Nat) (q : Int) (a : List (List Int)), r < a.length → i + m = (a.getD r []).length → m < j → (a.getD r []).length ≤ 1048576 → 0 ≤ q → q + m ≤ 4000000000000 → 0 ≤ x4 → x4 ≤ 4000000000000 →
    aX.L1 k k1 j r q i x3 x4 x5 x6 x7 x8 x9 x10 x11 a = aX.L0 k k1 (q + m) (x4 + 1) (a.set r ((a.getD r []).take i ++ Pu.mark ((a.getD r []).drop i) q))
  | m, 0, i, q, a, _, _, hj, _, _, _, _, _ => by omega
  | 0, j + 1, i, q, a, hr, hi, _, _, _, _, _, _ => by
    rw [aX.dR]
    have e : i = (a.getD r []).length := by omega
    have h1 : ¬ i < (a.getD r []).length := by omega
    have e2 : a.set r ((a.getD r []).take i ++ Pu.mark ((a.getD r []).drop i) q) = a := by
      rw [e, List.take_length, List.drop_length]
      simp only [Pu.mark, List.append_nil]
      rw [Pu.ay hr, List.set_getElem_self]
    rw [e2]
    simp (disch := omega) only [an, bm, aG, aB, az, bk, al, aF, Pu.w64, decide_eq_true_eq, Int.ofNat_lt, hr, h1, if_true, if_false, decide_true]
    simp
  | m + 1, j + 1, i, q, a, hr, hi, hj, ha, hq, hq2, hx, hx2 => by
    rw [aX.dR]
    have h1 : i < (a.getD r []).length := by omega
    have eg : (a.set r ((a.getD r []).set i q)).getD r [] = (a.getD r []).set i q := by
      rw [Pu.ay (by simpa using hr)]; simp
    have ih := aX.inner (k := k) (k1 := k1) (r := r) (x3 := x3) (x4 := x4) (x5 := x5) (x6 := x6) (x7 := x7) (x8 := x8) (x9 := x9) (x10 := x10) (x11 := x11) m j (i + 1) (q + 1) (a.set r ((a.getD r []).set i q)) (by rw [List.length_set]; exact hr) (by rw [eg, List.length_set]; omega) (by omega) (by rw [eg, List.length_set]; exact ha) (by omega) (by omega) hx hx2
    rw [eg, Int.natCast_succ, List.set_set] at ih
    have hl1 : i < ((a.getD r []).set i q).length := by rw [List.length_set]; exact h1
    have e1 : ((a.getD r []).set i q).take (i + 1) = (a.getD r []).take i ++ [q] := by
      rw [Pu.take_succ hl1 0, List.take_set_of_le (Nat.le_refl _), Pu.ay hl1, List.getElem_set_self]
    have e2 : ((a.getD r []).set i q).drop (i + 1) = (a.getD r []).drop (i + 1) := by rw [List.drop_set_of_lt (by omega)]
    rw [e1, e2] at ih
    rw [Pu.drop_cons h1 0]
    simp (disch := omega) only [an, bm, bn, aG, aB, az, aE, aK, bk, al, aF, Pu.w64, Int.toNat_natCast, decide_eq_true_eq, Int.ofNat_lt, hr, h1, if_true, Int.natCast_nonneg, decide_true, ih, Pu.mark]
    simp only [List.append_assoc, List.singleton_append]
    congr 1
    omega
theorem aX.loop {k : Nat} (hk : 4194304 ≤ k) : ∀ (m j i : Nat) (q : Int) (a : List (List Int)), i + m = a.length → m < j → a.length ≤ 1048576 → (∀ x ∈ a, x.length ≤ 1048576) → 0 ≤ q → q + Pu.dk (a.drop i) ≤ 4000000000000 →
    aX.L0 k j q i a = some (q + Pu.dk (a.drop i), a.take i ++ Pu.gJ (a.drop i) q)
  | m, 0, i, q, a, _, hj, _, _, _, _ => by omega
  | 0, j + 1, i, q, a, hi, _, _, _, _, _ => by
    rw [aX.bu]
    have e : i = a.length := by omega
    subst e
    simp [Pu.gJ, Pu.dk]
  | m + 1, j + 1, i, q, a, hi, hj, ha, hr, hq, hq2 => by
    rw [aX.bu]
    have h1 : i < a.length := by omega
    have hx := hr a[i] (List.getElem_mem h1)
    rw [← Pu.ay h1 []] at hx
    rw [Pu.drop_cons h1 []] at hq2 ⊢
    simp only [Pu.dk] at hq2
    simp (disch := omega) only [an, bm, bn, aG, aB, az, aE, bk, al, aF, Pu.w64, Int.toNat_natCast, decide_eq_true_eq, Int.ofNat_lt, h1, if_true, Int.natCast_nonneg, decide_true, Pu.gJ, Pu.dk]
    have hin := fun (x7 : Bool) (x6 : Int) => aX.inner (k := k) (k1 := j) (r := i) (x3 := q) (x4 := i) (x5 := i) (x6 := x6) (x7 := x7) (x8 := i) (x9 := i) (x10 := i) (x11 := q) (a.getD i []).length k 0 q a h1 (by omega) (by omega) hx hq (by omega) (by omega) (by omega)
    simp only [Int.natCast_zero] at hin
    rw [hin]
    have ih := aX.loop (k := k) hk m j (i + 1) (q + (a.getD i []).length) (a.set i (Pu.mark (a.getD i []) q)) (by simp; omega) (by omega) (by simpa using ha) (fun x hx' => by
        rcases List.mem_or_eq_of_mem_set hx' with h | rfl
        · exact hr x h
        · rw [Pu.j9]; exact hx) (by omega) (by rw [List.drop_set_of_lt (by omega)]; omega)
    have e1 : (a.set i (Pu.mark (a.getD i []) q)).take (i + 1) = a.take i ++ [Pu.mark (a.getD i []) q] := by
      rw [Pu.take_succ (by simpa using h1) [], List.take_set_of_le (Nat.le_refl _), Pu.ay (by simpa using h1)]
      simp
    rw [e1, List.drop_set_of_lt (by omega), Int.natCast_succ] at ih
    simp only [List.take_zero, List.drop_zero, List.nil_append]
    rw [ih]
    simp
    omega
theorem aX.is {k : Nat} {a : List (List Int)} {q : Int} (hk : 4194304 + 2 ≤ k) (ha : a.length ≤ 1048576) (hr : ∀ x ∈ a, x.length ≤ 1048576) (hq : 0 ≤ q) (hq2 : q + Pu.dk a ≤ 4000000000000) : aX k q a = some (q + Pu.dk a, Pu.gJ a q) := by
  obtain ⟨k, rfl⟩ : ∃ k', k = k' + 2 := ⟨k - 2, by omega⟩
  rw [aX.eq]
  have h := aX.loop (k := k) (by omega) a.length (k + 1) 0 q a (by omega) (by omega) ha hr hq hq2
  rw [Int.natCast_zero] at h
  simpa using h
theorem dh.is {k : Nat} {a : List Int} {b : List (List Int)} {q : Int} (hk : 4194304 + 3 ≤ k) (h1 : a.length ≤ 1048576) (ha : b.length ≤ 1048576) (hr : ∀ x ∈ b, x.length ≤ 1048576) (hq : 0 ≤ q) (hq2 : q + a.length + Pu.dk b ≤ 4000000000000) :
    dh k q a b = some (q + a.length + Pu.dk b, (Pu.mark a q, Pu.gJ b (q + a.length))) := by
  obtain ⟨k, rfl⟩ : ∃ k', k = k' + 1 := ⟨k - 1, by omega⟩
  rw [dh.eq, bS.is (by omega) h1 hq (by omega), ab, aX.is (by omega) ha hr (by omega) (by omega)]
  rfl
theorem aj.cells {k k1 k2 e r x4 : Nat} {x5 x6 x7 : Int} {x8 : Nat} {x9 : Int} {x10 : Bool} {x11 : Nat} {x12 : Int} {x13 x14 x15 x16 : Nat} {x17 x18 x19 x20 x21 : Int} {x22 : Bool} {x23 : Int} {x24 x25 x26 : Nat} {x27 x28 x29 : Int} {x30 x31 x32 : Nat} {x33 : Int} {a : List Int} (hx6 : 0 ≤ x6 ∧ x6 ≤ 2000000) : ∀ (m j i : Nat) (q : Int) (b : List (List Int)) (l : List Pu.Tab), e < l.length → l.getD e ([], []) = (a, b) → r < b.length → i + m = (b.getD r []).length → m < j → (b.getD r []).length ≤ 1048576 → 0 ≤ q → q + m ≤ 4000000000000 →
    aj.L3 k k1 k2 j e r q i x4 x5 x6 x7 x8 x9 x10 x11 x12 x13 x14 x15 x16 x17 x18 x19 x20 x21 x22 x23 x24 x25 x26 x27 x28 x29 x30 x31 x32 x33 l = aj.L2 k k1 k2 x4 (q + m) (x6 + 1) x18 x19 x20 x21 x22 x23 x24 x25 x26 x27 x28 x29 x30 x31 x32 x33 (l.set e (a, b.set r ((b.getD r []).take i ++ Pu.mark ((b.getD r []).drop i) q)))
  | m, 0, i, q, b, l, _, _, _, _, hj, _, _, _ => by omega
  | 0, j + 1, i, q, b, l, he, hg, hr, hi, _, _, _, _ => by
    rw [aj.rF]
    have e1 : i = (b.getD r []).length := by omega
    have e2 : b.set r ((b.getD r []).take i ++ Pu.mark ((b.getD r []).drop i) q) = b := by
      rw [e1, List.take_length, List.drop_length]
      simp only [Pu.mark, List.append_nil]
      rw [Pu.ay hr, List.set_getElem_self]
    have e3 : l.set e (a, b) = l := by rw [← hg, Pu.ay he, List.set_getElem_self]
    have hn : ¬ (i : Int) < (b.getD r []).length := by omega
    have hw : IntKind.i64.wrap (x6 + 1) = x6 + 1 := Pu.w64 (by omega) (by omega)
    rw [e2, e3]
    simp only [aB, az, bk, aF, al, hg, hw]
    refine Pu.tG he (Pu.tG hr (Pu.tX hn ?_))
    rw [show q + ((0 : Nat) : Int) = q by omega]
  | m + 1, j + 1, i, q, b, l, he, hg, hr, hi, hj, hb, hq, hq2 => by
    rw [aj.rF]
    have h1 : i < (b.getD r []).length := by omega
    have hn : (i : Int) < (b.getD r []).length := by omega
    have eb : (b.set r ((b.getD r []).set i q)).getD r [] = (b.getD r []).set i q := by
      rw [Pu.ay (by rw [List.length_set]; exact hr), List.getElem_set_self]
    have el : (l.set e (a, b.set r ((b.getD r []).set i q))).getD e ([], []) = (a, b.set r ((b.getD r []).set i q)) := by
      rw [Pu.ay (by rw [List.length_set]; exact he), List.getElem_set_self]
    have ih := aj.cells (k := k) (k1 := k1) (k2 := k2) (e := e) (r := r) (x4 := x4) (x5 := x5) (x6 := x6) (x7 := x7) (x8 := x8) (x9 := x9) (x10 := x10) (x11 := x11) (x12 := x12) (x13 := x13) (x14 := x14) (x15 := x15) (x16 := x16) (x17 := x17) (x18 := x18) (x19 := x19) (x20 := x20) (x21 := x21) (x22 := x22) (x23 := x23) (x24 := x24) (x25 := x25) (x26 := x26) (x27 := x27) (x28 := x28) (x29 := x29) (x30 := x30) (x31 := x31) (x32 := x32) (x33 := x33) hx6 m j (i + 1) (q + 1) (b.set r ((b.getD r []).set i q)) (l.set e (a, b.set r ((b.getD r []).set i q))) (by rw [List.length_set]; exact he) el (by rw [List.length_set]; exact hr) (by rw [eb, List.length_set]; omega) (by omega) (by rw [eb, List.length_set]; exact hb) (by omega) (by omega)
    rw [eb, List.set_set, List.set_set, Int.natCast_succ] at ih
    have hl1 : i < ((b.getD r []).set i q).length := by rw [List.length_set]; exact h1
    have e1 : ((b.getD r []).set i q).take (i + 1) = (b.getD r []).take i ++ [q] := by
      rw [Pu.take_succ hl1 0, List.take_set_of_le (Nat.le_refl _), Pu.ay hl1, List.getElem_set_self]
    have e2 : ((b.getD r []).set i q).drop (i + 1) = (b.getD r []).drop (i + 1) := by rw [List.drop_set_of_lt (by omega)]
    rw [e1, e2] at ih
    rw [Pu.drop_cons h1 0, Pu.mark]
    have hwq : IntKind.i64.wrap (q + 1) = q + 1 := Pu.w64 (by omega) (by omega)
    have hwi : IntKind.i64.wrap ((i : Int) + 1) = (i : Int) + 1 := Pu.w64 (by omega) (by omega)
    simp only [aB, az, aE, bk, aK, aF, al, hg, hwq, hwi, Int.toNat_natCast]
    refine Pu.tG he (Pu.tG hr (Pu.tG hn (Pu.tG he (Pu.tG hr (Pu.tG (Int.natCast_nonneg i) (Pu.tG h1 (Pu.tG he (Pu.tG hr (Pu.tG h1 ?_)))))))))
    rw [ih, List.append_assoc, List.singleton_append, show q + 1 + (m : Int) = q + ((m + 1 : Nat) : Int) by omega]
theorem aj.rows {k k1 e : Nat} {x3 x4 x5 x6 : Int} {x7 : Bool} {x8 : Int} {x9 x10 x11 : Nat} {x12 x13 x14 : Int} {x15 x16 x17 : Nat} {x18 : Int} {a : List Int} (hk : 4194304 ≤ k) (hx4 : 0 ≤ x4 ∧ x4 ≤ 4000000000) : ∀ (m j i : Nat) (q : Int) (b : List (List Int)) (l : List Pu.Tab), e < l.length → l.getD e ([], []) = (a, b) → i + m = b.length → m < j → b.length ≤ 1048576 → (∀ x ∈ b, x.length ≤ 1048576) → 0 ≤ q → q + Pu.dk (b.drop i) ≤ 4000000000000 →
    aj.L2 k k1 j e q i x3 x4 x5 x6 x7 x8 x9 x10 x11 x12 x13 x14 x15 x16 x17 x18 l = aj.L0 k k1 (q + Pu.dk (b.drop i)) (x4 + 1) (l.set e (a, b.take i ++ Pu.gJ (b.drop i) q))
  | m, 0, i, q, b, l, _, _, _, hj, _, _, _, _ => by omega
  | 0, j + 1, i, q, b, l, he, hg, hi, _, _, _, _, _ => by
    rw [aj.rL]
    have e1 : i = b.length := by omega
    have hn : ¬ (i : Int) < b.length := by omega
    have hw : IntKind.i64.wrap (x4 + 1) = x4 + 1 := Pu.w64 (by omega) (by omega)
    have e3 : l.set e (a, b) = l := by rw [← hg, Pu.ay he, List.set_getElem_self]
    simp only [aB, az, bk, aF, al, hg, hw]
    refine Pu.tG he (Pu.tX hn ?_)
    rw [e1, List.take_length, List.drop_length]
    simp only [Pu.gJ, Pu.dk, List.append_nil]
    rw [e3, show q + ((0 : Nat) : Int) = q by omega]
  | m + 1, j + 1, i, q, b, l, he, hg, hi, hj, hb, hr, hq, hq2 => by
    rw [aj.rL]
    have h1 : i < b.length := by omega
    have hn : (i : Int) < b.length := by omega
    have hri : (b.getD i []).length ≤ 1048576 := by rw [Pu.ay h1]; exact hr _ (List.getElem_mem h1)
    rw [Pu.drop_cons h1 []] at hq2 ⊢
    simp only [Pu.dk, Pu.gJ] at hq2 ⊢
    have hc := fun y5 y7 y8 y9 y10 y11 y12 y13 y14 y15 y16 y17 => aj.cells (k := k) (k1 := k1) (k2 := j) (e := e) (r := i) (x4 := e) (x5 := y5) (x6 := (i : Int)) (x7 := y7) (x8 := y8) (x9 := y9) (x10 := y10) (x11 := y11) (x12 := y12) (x13 := y13) (x14 := y14) (x15 := y15) (x16 := y16) (x17 := y17) (x18 := x3) (x19 := x4) (x20 := x5) (x21 := x6) (x22 := x7) (x23 := x8) (x24 := x9) (x25 := x10) (x26 := x11) (x27 := x12) (x28 := x13) (x29 := x14) (x30 := x15) (x31 := x16) (x32 := x17) (x33 := x18) (a := a) (by omega) (b.getD i []).length k 0 q b l he hg h1 (by omega) (by omega) hri hq (by omega)
    rw [Int.natCast_zero, List.take_zero, List.drop_zero, List.nil_append] at hc
    have el : (l.set e (a, b.set i (Pu.mark (b.getD i []) q))).getD e ([], []) = (a, b.set i (Pu.mark (b.getD i []) q)) := by
      rw [Pu.ay (by rw [List.length_set]; exact he), List.getElem_set_self]
    have ed : (b.set i (Pu.mark (b.getD i []) q)).drop (i + 1) = b.drop (i + 1) := by rw [List.drop_set_of_lt (by omega)]
    have et : (b.set i (Pu.mark (b.getD i []) q)).take (i + 1) = b.take i ++ [Pu.mark (b.getD i []) q] := Pu.gT h1 _
    have ih := aj.rows (k1 := k1) (x3 := x3) (x4 := x4) (x5 := x5) (x6 := x6) (x7 := x7) (x8 := x8) (x9 := x9) (x10 := x10) (x11 := x11) (x12 := x12) (x13 := x13) (x14 := x14) (x15 := x15) (x16 := x16) (x17 := x17) (x18 := x18) hk hx4 m j (i + 1) (q + (b.getD i []).length) (b.set i (Pu.mark (b.getD i []) q)) (l.set e (a, b.set i (Pu.mark (b.getD i []) q))) (by rw [List.length_set]; exact he) el (by rw [List.length_set]; omega) (by omega) (by rw [List.length_set]; exact hb) (fun x hx => by
      rcases List.mem_or_eq_of_mem_set hx with h | h
      · exact hr x h
      · rw [h, Pu.j9]; exact hri) (by omega) (by rw [ed]; omega)
    rw [ed, et, List.set_set, Int.natCast_succ] at ih
    simp only [aB, az, aE, bk, hg, Int.toNat_natCast]
    refine Pu.tG he (Pu.tG hn (Pu.tG he (Pu.tG (Int.natCast_nonneg i) (Pu.tG h1 (Pu.tG he (Pu.tG h1 ?_))))))
    rw [hc, ih, List.append_assoc, List.singleton_append]
    congr 1
    omega
theorem aj.inner {k k1 e : Nat} {x3 x5 x6 : Int} {x7 : Bool} {x8 : Int} {x9 x10 x11 : Nat} {x12 : Int} {b : List (List Int)} (hk : 4194304 ≤ k) (he9 : e ≤ 2000000000) : ∀ (m j i : Nat) (q : Int) (a : List Int) (l : List Pu.Tab), e < l.length → l.getD e ([], []) = (a, b) → i + m = a.length → m < j → a.length ≤ 1048576 → b.length ≤ 1048576 → (∀ x ∈ b, x.length ≤ 1048576) → 0 ≤ q → q + m + Pu.dk b ≤ 4000000000000 →
    aj.L1 k k1 j e q i x3 e x5 x6 x7 x8 x9 x10 x11 x12 l = aj.L0 k k1 (q + m + Pu.dk b) ((e : Int) + 1) (l.set e (a.take i ++ Pu.mark (a.drop i) q, Pu.gJ b (q + m)))
  | m, 0, i, q, a, l, _, _, _, hj, _, _, _, _, _ => by omega
  | 0, j + 1, i, q, a, l, he, hg, hi, _, _, hb, hr, hq, hq2 => by
    rw [aj.dR]
    have e1 : i = a.length := by omega
    have hn : ¬ (i : Int) < a.length := by omega
    have hR := fun y3 y12 y13 y14 y15 y16 y17 y18 => aj.rows (k := k) (k1 := k1) (e := e) (x3 := y3) (x4 := (e : Int)) (x5 := x5) (x6 := x6) (x7 := x7) (x8 := x8) (x9 := x9) (x10 := x10) (x11 := x11) (x12 := y12) (x13 := y13) (x14 := y14) (x15 := y15) (x16 := y16) (x17 := y17) (x18 := y18) (a := a) hk (by omega) b.length (k + 1) 0 q b l he hg (by omega) (by omega) hb hr hq (by rw [List.drop_zero]; omega)
    simp only [Int.natCast_zero, List.drop_zero, List.take_zero, List.nil_append] at hR
    simp only [aB, az, aE, bk, hg, Int.toNat_natCast]
    refine Pu.tG he (Pu.tX hn (Pu.tG (Int.natCast_nonneg e) (Pu.tG he (Pu.tG he ?_))))
    rw [hR, e1, List.take_length, List.drop_length]
    simp only [Pu.mark, List.append_nil, Int.natCast_zero, Int.add_zero]
  | m + 1, j + 1, i, q, a, l, he, hg, hi, hj, ha, hb, hr, hq, hq2 => by
    rw [aj.dR]
    have h1 : i < a.length := by omega
    have hn : (i : Int) < a.length := by omega
    have el : (l.set e (a.set i q, b)).getD e ([], []) = (a.set i q, b) := by
      rw [Pu.ay (by rw [List.length_set]; exact he), List.getElem_set_self]
    have ih := aj.inner (k1 := k1) (x3 := x3) (x5 := x5) (x6 := x6) (x7 := x7) (x8 := x8) (x9 := x9) (x10 := x10) (x11 := x11) (x12 := x12) hk he9 m j (i + 1) (q + 1) (a.set i q) (l.set e (a.set i q, b)) (by rw [List.length_set]; exact he) el (by rw [List.length_set]; omega) (by omega) (by rw [List.length_set]; exact ha) hb hr (by omega) (by omega)
    have hl1 : i < (a.set i q).length := by rw [List.length_set]; exact h1
    have e1 : (a.set i q).take (i + 1) = a.take i ++ [q] := Pu.gT h1 _
    have e2 : (a.set i q).drop (i + 1) = a.drop (i + 1) := by rw [List.drop_set_of_lt (by omega)]
    rw [e1, e2, List.set_set, Int.natCast_succ] at ih
    rw [Pu.drop_cons h1 0, Pu.mark]
    have hwq : IntKind.i64.wrap (q + 1) = q + 1 := Pu.w64 (by omega) (by omega)
    have hwi : IntKind.i64.wrap ((i : Int) + 1) = (i : Int) + 1 := Pu.w64 (by omega) (by omega)
    simp only [aB, az, aE, bk, aK, aF, al, hg, hwq, hwi, Int.toNat_natCast]
    refine Pu.tG he (Pu.tG hn (Pu.tG he (Pu.tG (Int.natCast_nonneg i) (Pu.tG h1 (Pu.tG he (Pu.tG h1 ?_))))))
    rw [ih, List.append_assoc, List.singleton_append, show q + 1 + (m : Int) = q + ((m + 1 : Nat) : Int) by omega]
theorem aj.loop {k : Nat} (hk : 4194304 ≤ k) : ∀ (r : List Pu.Tab) (j i : Nat) (q : Int) (l : List Pu.Tab), l.drop i = r → i + r.length = l.length → r.length < j → l.length ≤ 2000000000 → (∀ x ∈ r, Pu.ig x) → 0 ≤ q → q + Pu.iK r ≤ 4000000000000 →
    aj.L0 k j q i l = some (q + Pu.iK r, l.take i ++ Pu.kq r q)
  | r, 0, i, q, l, _, _, hj, _, _, _, _ => by omega
  | [], j + 1, i, q, l, hd, hi, _, _, _, _, _ => by
    rw [aj.bu]
    have hi' : i = l.length := by simpa using hi
    have hn : ¬ (i : Int) < l.length := by omega
    refine Pu.tX hn ?_
    rw [hi', List.take_length]
    simp [Pu.iK, Pu.kq]
  | t :: r, j + 1, i, q, l, hd, hi, hj, hl, ho, hq, hq2 => by
    rw [aj.bu]
    have hi' : i + (r.length + 1) = l.length := by simpa using hi
    have hj' : r.length < j := by simp at hj; omega
    have hn : (i : Int) < l.length := by omega
    have hlt : i < l.length := by omega
    have hdc := Pu.drop_cons hlt ([], [])
    rw [hd, List.cons.injEq] at hdc
    obtain ⟨e1, e2⟩ := hdc
    rw [Pu.nW] at hq2 ⊢
    have ht := ho t (List.mem_cons_self ..)
    have hI := fun y3 y5 y6 y7 y8 y9 y10 y11 y12 => aj.inner (k := k) (k1 := j) (e := i) (x3 := y3) (x5 := y5) (x6 := y6) (x7 := y7) (x8 := y8) (x9 := y9) (x10 := y10) (x11 := y11) (x12 := y12) (b := t.2) hk (by omega) t.1.length (k + 1) 0 q t.1 l hlt e1.symm (by omega) (by have := ht.1; omega) ht.1 ht.2.1 ht.2.2 hq (by omega)
    simp only [Int.natCast_zero, List.drop_zero, List.take_zero, List.nil_append] at hI
    have ih := aj.loop hk r j (i + 1) (q + t.1.length + Pu.dk t.2) (l.set i (Pu.mark t.1 q, Pu.gJ t.2 (q + t.1.length))) (by rw [List.drop_set_of_lt (by omega)]; exact e2.symm) (by rw [List.length_set]; omega) hj' (by rw [List.length_set]; exact hl) (fun x hx => ho x (List.mem_cons_of_mem _ hx)) (by omega) (by omega)
    rw [Pu.gT hlt, Int.natCast_succ] at ih
    simp only [aB, az, aE, Int.toNat_natCast]
    refine Pu.tG hn (Pu.tG (Int.natCast_nonneg i) (Pu.tG hlt (Pu.tG hlt ?_)))
    rw [hI, ih, List.append_assoc, List.singleton_append, Pu.kq, show q + (t.1.length : Int) + Pu.dk t.2 + Pu.iK r = q + ((t.1.length + Pu.dk t.2 + Pu.iK r : Nat) : Int) by omega]
theorem aj.is {k : Nat} {l : List Pu.Tab} {q : Int} (hk : 4194304 + 4 + l.length ≤ k) (hl : l.length ≤ 2000000000) (ho : ∀ x ∈ l, Pu.ig x) (hq : 0 ≤ q) (hq2 : q + Pu.iK l ≤ 4000000000000) : aj k q l = some (q + Pu.iK l, Pu.kq l q) := by
  obtain ⟨k, rfl⟩ : ∃ k', k = k' + 3 := ⟨k - 3, by omega⟩
  rw [aj.eq]
  have h := aj.loop (k := k) (by omega) l (k + 2) 0 q l rfl (by omega) (by omega) hl ho hq hq2
  rw [Int.natCast_zero, List.take_zero, List.nil_append] at h
  exact h
theorem ca.loop {k : Nat} {a : List Int} (ha : a.length ≤ 1048576) : ∀ (m j i : Nat) (q : Int), i + m = a.length → m < j → 0 ≤ q → q + m ≤ 4000000000000 → ca.L0 k j q i a = some (Pu.held (a.drop i) q)
  | m, 0, i, q, _, hj, _, _ => by omega
  | 0, j + 1, i, q, hi, _, _, _ => by
    rw [ca.bu]
    have e : i = a.length := by omega
    subst e
    simp [Pu.held]
  | m + 1, j + 1, i, q, hi, hj, hq, hq2 => by
    rw [ca.bu]
    have h1 : i < a.length := by omega
    have ih := ca.loop (k := k) ha m j (i + 1) (q + 1) (by omega) (by omega) (by omega) (by omega)
    rw [Int.natCast_succ] at ih
    rw [Pu.drop_cons h1 0]
    simp (disch := omega) only [an, bm, bn, aG, aB, az, aE, bk, al, aF, bo, bp, Pu.w64, Int.toNat_natCast, decide_eq_true_eq, Int.ofNat_lt, h1, if_true, Int.natCast_nonneg, decide_true, Pu.held, ih]
    by_cases e : a.getD i 0 = q <;> simp only [e, decide_true, decide_false, Bool.not_false, Bool.not_true, if_true, if_false, Bool.false_eq_true]
theorem ca.is {k : Nat} {a : List Int} {q : Int} (hk : 4194304 + 1 ≤ k) (ha : a.length ≤ 1048576) (hq : 0 ≤ q) (hq2 : q + a.length ≤ 4000000000000) : ca k a q = some (Pu.held a q) := by
  obtain ⟨k, rfl⟩ : ∃ k', k = k' + 1 := ⟨k - 1, by omega⟩
  rw [ca.eq]
  have h := ca.loop (k := k) ha a.length k 0 q (by omega) (by omega) hq hq2
  rw [Int.natCast_zero] at h
  exact h
theorem cd.loop {k : Nat} {a : List (List Int)} (hk : 4194304 + 1 ≤ k) (ha : a.length ≤ 1048576) (hr : ∀ x ∈ a, x.length ≤ 1048576) : ∀ (m j i : Nat) (q : Int), i + m = a.length → m < j → 0 ≤ q → q + Pu.dk (a.drop i) ≤ 4000000000000 → cd.L0 k j q i a = some (Pu.qp (a.drop i) q)
  | m, 0, i, q, _, hj, _, _ => by omega
  | 0, j + 1, i, q, hi, _, _, _ => by
    rw [cd.bu]
    have e : i = a.length := by omega
    subst e
    simp [Pu.qp]
  | m + 1, j + 1, i, q, hi, hj, hq, hq2 => by
    rw [cd.bu]
    have h1 : i < a.length := by omega
    rw [Pu.drop_cons h1 []] at hq2 ⊢
    simp only [Pu.dk] at hq2
    have hx := hr a[i] (List.getElem_mem h1)
    rw [← Pu.ay h1 []] at hx
    have hh := ca.is (k := k) (a := a.getD i []) (q := q) (by omega) hx hq (by omega)
    simp (disch := omega) only [an, bm, bn, aG, aB, az, aE, bk, al, aF, bo, bp, Pu.w64, Int.toNat_natCast, decide_eq_true_eq, Int.ofNat_lt, h1, if_true, Int.natCast_nonneg, decide_true, Pu.qp, hh, ab]
    by_cases e : Pu.held (a.getD i []) q < 0
    · simp only [e, if_true]
    · have hle := Pu.xJ (a.getD i []) q hq
      have ih := cd.loop (k := k) hk ha hr m j (i + 1) (Pu.held (a.getD i []) q) (by omega) (by omega) (by omega) (by omega)
      rw [Int.natCast_succ] at ih
      simp only [e, if_false, ih]
theorem cd.is {k : Nat} {a : List (List Int)} {q : Int} (hk : 4194304 + 2 ≤ k) (ha : a.length ≤ 1048576) (hr : ∀ x ∈ a, x.length ≤ 1048576) (hq : 0 ≤ q) (hq2 : q + Pu.dk a ≤ 4000000000000) : cd k a q = some (Pu.qp a q) := by
  obtain ⟨k, rfl⟩ : ∃ k', k = k' + 1 := ⟨k - 1, by omega⟩
  rw [cd.eq]
  have h := cd.loop (k := k) (by omega) ha hr a.length k 0 q (by omega) (by omega) hq hq2
  rw [Int.natCast_zero] at h
  exact h
theorem bG.loop {k : Nat} (hk : 4194304 + 3 ≤ k) {l : List Pu.Tab} (hl : l.length ≤ 2000000000) : ∀ (r : List Pu.Tab) (j i : Nat) (q : Int) (M : List Pu.Tab), (∀ x ∈ r, Pu.ig x) → M.length = l.length → M.drop i = Pu.kq r q → i + r.length = l.length → r.length < j → 0 ≤ q → q + Pu.iK r ≤ 4000000000000 → bG.L0 k j q i M = some (q + Pu.iK r)
  | r, 0, i, q, M, _, _, _, _, hj, _, _ => by omega
  | [], j + 1, i, q, M, _, hM, _, hi, _, _, _ => by
    rw [bG.bu]
    have hn : ¬ (i : Int) < M.length := by simp at hi; omega
    refine Pu.tX hn ?_
    simp [Pu.iK]
  | t :: r, j + 1, i, q, M, ho, hM, hd, hi, hj, hq, hq2 => by
    rw [bG.bu]
    have hi' : i + (r.length + 1) = l.length := by simpa using hi
    have hn : (i : Int) < M.length := by omega
    have hlt : i < M.length := by omega
    have hdc := Pu.drop_cons hlt ([], [])
    rw [hd] at hdc
    simp only [Pu.kq, List.cons.injEq] at hdc
    obtain ⟨e1, e2⟩ := hdc
    rw [Pu.nW] at hq2 ⊢
    have ht := ho t (List.mem_cons_self ..)
    have h1 := ca.is (k := k) (a := Pu.mark t.1 q) (q := q) (by omega) (by rw [Pu.j9]; exact ht.1) hq (by rw [Pu.j9]; omega)
    rw [Pu.pI] at h1
    have h2 := cd.is (k := k) (a := Pu.gJ t.2 (q + t.1.length)) (q := q + t.1.length) (by omega) (by rw [Pu.tB]; exact ht.2.1) (Pu.yp ht.2.2) (by omega) (by rw [Pu.rz]; omega)
    rw [Pu.rR _ _ (by omega)] at h2
    have ih := bG.loop hk hl r j (i + 1) (q + t.1.length + Pu.dk t.2) M (fun x hx => ho x (List.mem_cons_of_mem _ hx)) hM e2.symm (by omega) (by simp at hj; omega) (by omega) (by omega)
    rw [Int.natCast_succ] at ih
    have hw : IntKind.i64.wrap ((i : Int) + 1) = (i : Int) + 1 := Pu.w64 (by omega) (by omega)
    have n1 : ¬ q + (t.1.length : Int) < 0 := by omega
    have n2 : ¬ q + (t.1.length : Int) + Pu.dk t.2 < 0 := by omega
    simp only [aE, aB, az, bk, aF, al, Int.toNat_natCast, hw, ← e1]
    refine Pu.tG hn (Pu.tG (Int.natCast_nonneg i) (Pu.tG hlt (Pu.tG hlt (Pu.tG hlt (Pu.bE h1 (Pu.tX n1 ?_))))))
    refine Pu.tG (Int.natCast_nonneg i) (Pu.tG hlt (Pu.tG hlt (Pu.tG hlt (Pu.bE h2 (Pu.tX n2 ?_)))))
    rw [ih]
    congr 1
    omega
theorem bG.is {k : Nat} {l : List Pu.Tab} {q : Int} (hk : 4194304 + 4 + l.length ≤ k) (hl : l.length ≤ 2000000000) (ho : ∀ x ∈ l, Pu.ig x) (hq : 0 ≤ q) (hq2 : q + Pu.iK l ≤ 4000000000000) : bG k (Pu.kq l q) q = some (q + Pu.iK l) := by
  obtain ⟨k, rfl⟩ : ∃ k', k = k' + 1 := ⟨k - 1, by omega⟩
  have h := bG.loop (k := k) (by omega) hl l k 0 q (Pu.kq l q) ho (Pu.rO l q) rfl (by omega) (by omega) hq hq2
  rw [Int.natCast_zero] at h
  rw [bG.eq]
  exact h
theorem a8.at {k m : Nat} {t : Pu.Tab} (hk : 4194304 + 1000000200 + m ≤ k) (hm : m ≤ 1000000000) (hd : (Pu.bc t && Pu.dv t) = true → ∃ d, 1 ≤ d ∧ d ≤ m ∧ Pu.iter d t = t) (h1 : t.1.length ≤ maxLen) (h2 : t.2.length ≤ maxLen) (h3 : ∀ r ∈ t.2, r.length ≤ maxLen) : a8 (k + 1) t = some true := by
  rw [a8.eq]
  obtain ⟨r, hr0, hr1⟩ := eN.is (k := k) (a := t) (b := 1048576) (by omega) h1 h2 h3 (by omega) (by omega)
  rw [show ((t.1, t.2) : Pu.Tab) = t from rfl]
  refine Pu.bE hr0 ?_
  by_cases c : r < 0
  · exact Pu.tG c rfl
  · obtain ⟨s0, s1, s2, s3⟩ := hr1 (by omega)
    have ht : Pu.ig t := ⟨by omega, by omega, fun y hy => by have := s3 y hy; omega⟩
    have hto := dx.is (k := k) (a := t) (by omega) ht.1 ht.2.1 ht.2.2
    have hs := Pu.tK ht.2.1 ht.2.2
    have hmk := dh.is (k := k) (a := t.1) (b := t.2) (q := 1) (by omega) ht.1 ht.2.1 ht.2.2 (by omega) (by omega)
    have he := dM.is (k := k) (a := t) (b := t) (by omega) ht.1 ht.2.1 ht.2.2
    rw [decide_eq_true rfl] at he
    have n1 : ¬ ((1 : Int) + t.1.length + Pu.dk t.2 < 0) := by omega
    have hsp := du.is (k := k) (m := m) (t := t) (by omega) ht hm hd
    have him := bw.is (k := k) (m := m) (t := t) (by omega) ht hm hd
    have hsm : ∀ x ∈ (if (Pu.bc t && Pu.dv t) = true then Pu.ku m t t [t] else []), Pu.qE x := by
      split
      · next hb =>
        simp only [Bool.and_eq_true] at hb
        refine Pu.zu m t [t] fun x hx => ?_
        rw [List.mem_singleton.1 hx]
        exact ⟨Pu.cN hb.1, (Pu.jg hb.1).mono (by omega) (by omega)⟩
      · intro x hx; cases hx
    have hlen : (if (Pu.bc t && Pu.dv t) = true then Pu.ku m t t [t] else []).length ≤ 1000000001 := by
      split
      · have := Pu.uc m t t [t]
        simp only [List.length_singleton] at this
        omega
      · simp
    generalize (if (Pu.bc t && Pu.dv t) = true then Pu.ku m t t [t] else []) = l at *
    have hok : ∀ x ∈ l, Pu.ig x := fun x hx => (hsm x hx).ok
    have hsz := Pu.vY l hsm
    have heq := bP.refl (k := k) (l := l) (by omega) (by omega) hok
    have hmS := aj.is (k := k) (l := l) (q := 1) (by omega) (by omega) hok (by omega) (by omega)
    have hhS := bG.is (k := k) (l := l) (q := 1) (by omega) (by omega) hok (by omega) (by omega)
    have n2 : ¬ ((1 : Int) + Pu.iK l < 0) := by omega
    have hJ0 : a8.J0 k l l t.1 t.2 = some true := by
      rw [a8.fB]
      exact Pu.bE hmS (Pu.bE hhS (Pu.tX n2 (Pu.tE rfl (Pu.bE hto (Pu.bE him (Pu.bE heq (Pu.tN (Pu.bE hhS (Pu.tX n2 (Pu.tE rfl rfl))))))))))
    exact Pu.tX c (Pu.bE hto (Pu.bE hsp (Pu.bE hto (Pu.bE him (Pu.bE heq (Pu.tN (Pu.bE hto (Pu.bE he (Pu.tN (Pu.bE hmk (Pu.tX n1 (Pu.bE heq (Pu.tN hJ0)))))))))))))
theorem a8.is {t : Pu.Tab} (h1 : t.1.length ≤ maxLen) (h2 : t.2.length ≤ maxLen) (h3 : ∀ r ∈ t.2, r.length ≤ maxLen) : ∃ k, a8 k t = some true := by
  by_cases c : (Pu.bc t && Pu.dv t) = true
  · have c' := c
    simp only [Bool.and_eq_true] at c'
    obtain ⟨d, d1, d2, d3⟩ := Pu.zz c'.1 c'.2
    exact ⟨_, a8.at (k := 4194304 + 1000000200 + d) (Nat.le_refl _) d2 (fun _ => ⟨d, d1, Nat.le_refl _, d3⟩) h1 h2 h3⟩
  · exact ⟨_, a8.at (k := 4194304 + 1000000200 + 0) (Nat.le_refl _) (by omega) (fun h => absurd h c) h1 h2 h3⟩
end Go.Am.Seat
