/- What the functions make of data, as plain words; each holds for all data within the bounds that it names. -/
import Derived.Test.YtilkippgilnhcaaEqsWordOfPair
import Derived.Test.YtilkippgilnhcaaPu
set_option linter.unusedSimpArgs false
set_option linter.unusedVariables false
set_option linter.unnecessarySimpa false
set_option linter.unusedSectionVars false
namespace Go.Am.Seat
open Go Go.Am Go.Am.Pu
attribute [local instance] D.real
set_option linter.unusedSimpArgs false
set_option linter.unusedVariables false
set_option maxRecDepth 4000
theorem eu.is {k : Nat} {a : List Int} {b : Int} (hk : 4194304 + 1 ≤ k) (ha : a.length ≤ maxLen) (h1 : 0 ≤ b) (h2 : b ≤ 1048576) : eu k a b = some (if b - a.length < 0 then -1 else b - a.length) := by
  obtain ⟨k, rfl⟩ : ∃ k', k = k' + 1 := ⟨k - 1, by omega⟩
  have ha : a.length ≤ 9223372036854775807 := ha
  rw [eu.eq]
  simp (disch := omega) only [au, bu, ao, aT, aL, aK, decide_eq_true_eq, Pu.w64]
  split <;> rfl
theorem ca.loop {k : Nat} {a : List (List Int)} (hk : 4194304 + 1 ≤ k) (ha : a.length ≤ 1048576) (hr : ∀ x ∈ a, x.length ≤ maxLen) : ∀ (m j i : Nat) (b : Int), i + m = a.length → m < j → 0 ≤ b → b ≤ 1048576 →
    ∃ r, ca.L0 k j b i a = some r ∧ (0 ≤ r → r ≤ b ∧ ∀ (q : Nat) x, i ≤ q → a[q]? = some x → (x.length : Int) ≤ b)
  | m, 0, i, b, _, hj, _, _ => by omega
  | 0, j + 1, i, b, hi, _, _, _ => by
    rw [ca.bO]
    have e : i = a.length := by omega
    subst e
    exact ⟨b, by simp, fun _ => ⟨Int.le_refl _, fun q x h1 h2 => by have := (List.getElem?_eq_some_iff.1 h2).1; omega⟩⟩
  | m + 1, j + 1, i, b, hi, hj, hb, hb2 => by
    rw [ca.bO]
    have hlt : i < a.length := by omega
    have hx := hr a[i] (List.getElem_mem hlt)
    have hx' : a[i].length ≤ 9223372036854775807 := hx
    have h1 := eu.is (k := k) (a := a[i]) (b := b) (by omega) hx hb hb2
    by_cases hc : b - a[i].length < 0
    · rw [if_pos hc] at h1
      exact ⟨-1, by simp [hlt, h1], fun h => by omega⟩
    · rw [if_neg hc] at h1
      obtain ⟨r, h2, h3⟩ := ca.loop hk ha hr m j (i + 1) (b - a[i].length) (by omega) (by omega) (by omega) (by omega)
      rw [Int.natCast_succ] at h2
      refine ⟨r, by simp (disch := omega) [hlt, h1, hc, Pu.w64, h2], fun h0 => ?_⟩
      obtain ⟨h4, h5⟩ := h3 h0
      refine ⟨by omega, fun q x h6 h7 => ?_⟩
      by_cases e : q = i
      · subst e
        rw [List.getElem?_eq_getElem hlt] at h7
        injection h7 with h7
        subst h7
        omega
      · have := h5 q x (by omega) h7
        omega
theorem ca.is {k : Nat} {a : List (List Int)} {b : Int} (hk : 4194304 + 2 ≤ k) (ha : a.length ≤ maxLen) (hr : ∀ x ∈ a, x.length ≤ maxLen) (h1 : 0 ≤ b) (h2 : b ≤ 1048576) :
    ∃ r, ca k a b = some r ∧ (0 ≤ r → r ≤ b ∧ (a.length : Int) ≤ b ∧ ∀ x ∈ a, (x.length : Int) ≤ b) := by
  obtain ⟨k, rfl⟩ : ∃ k', k = k' + 1 := ⟨k - 1, by omega⟩
  have ha : a.length ≤ 9223372036854775807 := ha
  rw [ca.eq]
  by_cases hc : b - a.length < 0
  · exact ⟨-1, by simp (disch := omega) [Pu.w64, hc], fun h => by omega⟩
  · obtain ⟨r, h3, h4⟩ := ca.loop (k := k) (a := a) (by omega) (by omega) hr a.length k 0 (b - a.length) (by omega) (by omega) (by omega) (by omega)
    rw [Int.natCast_zero] at h3
    refine ⟨r, by simp (disch := omega) [Pu.w64, hc, h3], fun h0 => ?_⟩
    obtain ⟨h5, h6⟩ := h4 h0
    refine ⟨by omega, by omega, fun x hx => ?_⟩
    obtain ⟨q, hq⟩ := List.mem_iff_getElem?.1 hx
    have := h6 q x (by omega) hq
    omega
theorem dj.is {k : Nat} {a : List Int × List (List Int)} {b : Int} (hk : 4194304 + 3 ≤ k) (ha : a.1.length ≤ maxLen) (ha2 : a.2.length ≤ maxLen) (hr : ∀ x ∈ a.2, x.length ≤ maxLen) (h1 : 0 ≤ b) (h2 : b ≤ 1048576) :
    ∃ r, dj k a b = some r ∧ (0 ≤ r → r ≤ b ∧ (a.1.length : Int) ≤ b ∧ (a.2.length : Int) ≤ b ∧ ∀ x ∈ a.2, (x.length : Int) ≤ b) := by
  obtain ⟨k, rfl⟩ : ∃ k', k = k' + 1 := ⟨k - 1, by omega⟩
  rw [dj.eq, eu.is (by omega) ha h1 h2]
  by_cases hc : b - a.1.length < 0
  · exact ⟨-1, by simp [hc], fun h => by omega⟩
  · obtain ⟨r, h3, h4⟩ := ca.is (k := k) (a := a.2) (b := b - a.1.length) (by omega) ha2 hr (by omega) (by omega)
    by_cases hr0 : r < 0
    · exact ⟨-1, by simp [hc, h3, hr0], fun h => by omega⟩
    · refine ⟨r, by simp [hc, h3, hr0], fun h0 => ?_⟩
      obtain ⟨h5, h6, h7⟩ := h4 h0
      refine ⟨by omega, by omega, by omega, fun x hx => ?_⟩
      have := h7 x hx
      omega
theorem cd.loop {k : Nat} {a : List Int} (ha : a.length ≤ 1048576) : ∀ (m j i : Nat), i + m = a.length → m < j → cd.L0 k j i a (a.take i ++ List.replicate (a.length - i) 0) = some a
  | m, 0, i, _, hj => by omega
  | 0, j + 1, i, hi, _ => by
    rw [cd.bO]
    have e : i = a.length := by omega
    subst e
    simp
  | m + 1, j + 1, i, hi, hj => by
    rw [cd.bO]
    have hlt : i < a.length := by omega
    have ih := cd.loop (k := k) ha m j (i + 1) (by omega) (by omega)
    rw [Int.natCast_succ] at ih
    have hl : i < (a.take i ++ List.replicate (a.length - i) (0 : Int)).length := by simp; omega
    have hf := Pu.rQ hlt (0 : Int) 0
    simp (disch := omega) only [au, bu, bw, aP, aK, aL, aM, bp, aS, ao, aN, Pu.w64, Int.toNat_natCast, decide_eq_true_eq, Int.ofNat_lt, hlt, hl, if_true, Int.natCast_nonneg, decide_true, hf, ih]
theorem cd.is {k : Nat} {a : List Int} (hk : 4194304 + 1 ≤ k) (ha : a.length ≤ 1048576) : cd k a = some a := by
  obtain ⟨k, rfl⟩ : ∃ k', k = k' + 1 := ⟨k - 1, by omega⟩
  rw [cd.eq]
  have h := cd.loop (k := k) ha a.length k 0 (by omega) (by omega)
  rw [Int.natCast_zero] at h
  simp only [List.take_zero, List.nil_append, Nat.sub_zero] at h
  have hl : a.length ≤ 1099511627776 := by omega
  simp [h, hl]
theorem cb.loop {k : Nat} {a : List (List Int)} (hk : 4194304 + 1 ≤ k) (ha : a.length ≤ 1048576) (hr : ∀ x ∈ a, x.length ≤ 1048576) : ∀ (m j i : Nat), i + m = a.length → m < j → cb.L0 k j i a (a.take i ++ List.replicate (a.length - i) []) = some a
  | m, 0, i, _, hj => by omega
  | 0, j + 1, i, hi, _ => by
    rw [cb.bO]
    have e : i = a.length := by omega
    subst e
    simp
  | m + 1, j + 1, i, hi, hj => by
    rw [cb.bO]
    have hlt : i < a.length := by omega
    have ih := cb.loop (k := k) hk ha hr m j (i + 1) (by omega) (by omega)
    rw [Int.natCast_succ] at ih
    have hl : i < (a.take i ++ List.replicate (a.length - i) ([] : List Int)).length := by simp; omega
    have hf := Pu.rQ hlt ([] : List Int) []
    have h1 := cd.is (k := k) (a := a.getD i []) (by omega) (by rw [Pu.aW hlt]; exact hr _ (List.getElem_mem hlt))
    simp (disch := omega) only [au, bu, bw, aP, aK, aL, aM, bp, aS, ao, aN, Pu.w64, Int.toNat_natCast, decide_eq_true_eq, Int.ofNat_lt, hlt, hl, if_true, Int.natCast_nonneg, decide_true, h1, ag, hf, ih]
theorem cb.is {k : Nat} {a : List (List Int)} (hk : 4194304 + 2 ≤ k) (ha : a.length ≤ 1048576) (hr : ∀ x ∈ a, x.length ≤ 1048576) : cb k a = some a := by
  obtain ⟨k, rfl⟩ : ∃ k', k = k' + 1 := ⟨k - 1, by omega⟩
  rw [cb.eq]
  have h := cb.loop (k := k) (by omega) ha hr a.length k 0 (by omega) (by omega)
  rw [Int.natCast_zero] at h
  simp only [List.take_zero, List.nil_append, Nat.sub_zero] at h
  have hl : a.length ≤ 1099511627776 := by omega
  simp [h, hl]
theorem b8.is {k : Nat} {a : List Int × List (List Int)} (hk : 4194304 + 3 ≤ k) (h1 : a.1.length ≤ 1048576) (ha : a.2.length ≤ 1048576) (hr : ∀ x ∈ a.2, x.length ≤ 1048576) : b8 k a = some a := by
  obtain ⟨k, rfl⟩ : ∃ k', k = k' + 1 := ⟨k - 1, by omega⟩
  rw [b8.eq, cd.is (by omega) h1, ag, cb.is (by omega) ha hr]
  rfl
theorem fF.is {k : Nat} {x lo hi : Int} (hk : 1 ≤ k) : fF k x lo hi = some (Pu.within x lo hi) := by
  obtain ⟨k, rfl⟩ : ∃ k', k = k' + 1 := ⟨k - 1, by omega⟩
  rw [fF.eq]
  by_cases h : lo ≤ x <;> simp [Pu.within, h]
theorem aR.loop {k : Nat} {p : List Int} (hk : 4194304 ≤ k) (hp : p.length ≤ 1048576) : ∀ (m j i : Nat) (s v : Int), i + m = p.length → m < j → (i = 0 → v = 9) → (0 < i → v = p.getD (i - 1) 0) → v ≤ 9 → 0 ≤ s → s ≤ 9 →
    aR.L0 k j s i p = some (Pu.eP (p.drop i) v s)
  | m, 0, i, s, v, _, hj, _, _, _, _, _ => by omega
  | 0, j + 1, i, s, v, hi, _, _, _, _, _, _ => by
    rw [aR.bO]
    have e : i = p.length := by omega
    subst e
    simp [Pu.eP]
  | m + 1, j + 1, i, s, v, hi, hj, h0, h1, hv, hs, hs9 => by
    rw [aR.bO]
    have hlt : i < p.length := by omega
    have hj1 : ∀ x : Int, x = p.getD i 0 → 1 ≤ x → x ≤ v → aR.J1 k j s i p = some (decide (s + x ≤ 9) && Pu.eP (p.drop (i + 1)) x (s + x)) := by
      intro x hx hx1 hx2
      rw [aR.gq]
      simp (disch := omega) only [↓au, bu, bw, aP, a8, a7, aK, aL, aM, bp, aS, aY, az, aB, aZ, ao, aN, aT, bD, bG, a9, ba, ag, Pu.w64, Int.toNat_natCast, decide_eq_true_eq, Int.ofNat_lt, Int.ofNat_le, if_true, if_false, Int.natCast_nonneg, decide_true, decide_false, Bool.not_true, Bool.not_false, Bool.false_eq_true, Bool.not_eq_true, Bool.true_and, Bool.and_true, Bool.false_and, Bool.and_false, hlt, ← hx]
      by_cases c : 9 < s + x
      · have : ¬ s + x ≤ 9 := by omega
        simp [c, this]
      · have c' : s + x ≤ 9 := by omega
        have ih := aR.loop hk hp m j (i + 1) (s + x) x (by omega) (by omega) (by omega) (by simp [hx]) (by omega) (by omega) c'
        rw [Int.natCast_succ] at ih
        simp [c, c', ih]
    rw [Pu.drop_cons hlt 0]
    simp (disch := omega) only [↓au, bu, bw, aP, a8, a7, aK, aL, aM, bp, aS, aY, az, aB, aZ, ao, aN, aT, bD, bG, a9, ba, ag, Pu.w64, Int.toNat_natCast, decide_eq_true_eq, Int.ofNat_lt, Int.ofNat_le, if_true, if_false, Int.natCast_nonneg, decide_true, decide_false, Bool.not_true, Bool.not_false, Bool.false_eq_true, Bool.not_eq_true, Bool.true_and, Bool.and_true, Bool.false_and, Bool.and_false, hlt, fF.is, Pu.eP]
    generalize hx : p.getD i 0 = x at *
    unfold Pu.within
    by_cases c1 : 1 ≤ x
    · by_cases c2 : x ≤ v
      · have c3 : x ≤ 9 := by omega
        have hj := hj1 x rfl c1 c2
        by_cases hi0 : i = 0
        · have hpos : ¬ (0 : Int) < i := by omega
          simp (disch := omega) only [↓au, bu, bw, aP, a8, a7, aK, aL, aM, bp, aS, aY, az, aB, aZ, ao, aN, aT, bD, bG, a9, ba, ag, Pu.w64, Int.toNat_natCast, decide_eq_true_eq, Int.ofNat_lt, Int.ofNat_le, if_true, if_false, Int.natCast_nonneg, decide_true, decide_false, Bool.not_true, Bool.not_false, Bool.false_eq_true, Bool.not_eq_true, Bool.true_and, Bool.and_true, Bool.false_and, Bool.and_false, c1, c2, c3, hpos, hj]
        · have hv' := h1 (by omega)
          have e : ((i : Int) - 1) = ((i - 1 : Nat) : Int) := by omega
          have hlt' : i - 1 < p.length := by omega
          have hge : ¬ p.getD (i - 1) 0 < x := by rw [← hv']; omega
          have hpos : (0 : Int) < i := by omega
          simp (disch := omega) only [e, ↓au, bu, bw, aP, a8, a7, aK, aL, aM, bp, aS, aY, az, aB, aZ, ao, aN, aT, bD, bG, a9, ba, ag, Pu.w64, Int.toNat_natCast, decide_eq_true_eq, Int.ofNat_lt, Int.ofNat_le, if_true, if_false, Int.natCast_nonneg, decide_true, decide_false, Bool.not_true, Bool.not_false, Bool.false_eq_true, Bool.not_eq_true, Bool.true_and, Bool.and_true, Bool.false_and, Bool.and_false, hlt', c1, c2, c3, hj, hpos, hge]
      · simp only [c1, c2, ↓au, bu, bw, aP, a8, a7, aK, aL, aM, bp, aS, aY, az, aB, aZ, ao, aN, aT, bD, bG, a9, ba, ag, Pu.w64, Int.toNat_natCast, decide_eq_true_eq, Int.ofNat_lt, Int.ofNat_le, if_true, if_false, Int.natCast_nonneg, decide_true, decide_false, Bool.not_true, Bool.not_false, Bool.false_eq_true, Bool.not_eq_true, Bool.true_and, Bool.and_true, Bool.false_and, Bool.and_false]
        by_cases c3 : x ≤ 9
        · have hi0 : 0 < i := by
            rcases Nat.eq_zero_or_pos i with h | h
            · have := h0 h; omega
            · exact h
          have hv' := h1 hi0
          have e : ((i : Int) - 1) = ((i - 1 : Nat) : Int) := by omega
          have hlt' : i - 1 < p.length := by omega
          have hge : p.getD (i - 1) 0 < x := by rw [← hv']; omega
          have hpos : (0 : Int) < i := by omega
          simp (disch := omega) only [e, ↓au, bu, bw, aP, a8, a7, aK, aL, aM, bp, aS, aY, az, aB, aZ, ao, aN, aT, bD, bG, a9, ba, ag, Pu.w64, Int.toNat_natCast, decide_eq_true_eq, Int.ofNat_lt, Int.ofNat_le, if_true, if_false, Int.natCast_nonneg, decide_true, decide_false, Bool.not_true, Bool.not_false, Bool.false_eq_true, Bool.not_eq_true, Bool.true_and, Bool.and_true, Bool.false_and, Bool.and_false, hlt', c3, hpos, hge]
        · simp only [c3, ↓au, bu, bw, aP, a8, a7, aK, aL, aM, bp, aS, aY, az, aB, aZ, ao, aN, aT, bD, bG, a9, ba, ag, Pu.w64, Int.toNat_natCast, decide_eq_true_eq, Int.ofNat_lt, Int.ofNat_le, if_true, if_false, Int.natCast_nonneg, decide_true, decide_false, Bool.not_true, Bool.not_false, Bool.false_eq_true, Bool.not_eq_true, Bool.true_and, Bool.and_true, Bool.false_and, Bool.and_false]
    · simp only [c1, ↓au, bu, bw, aP, a8, a7, aK, aL, aM, bp, aS, aY, az, aB, aZ, ao, aN, aT, bD, bG, a9, ba, ag, Pu.w64, Int.toNat_natCast, decide_eq_true_eq, Int.ofNat_lt, Int.ofNat_le, if_true, if_false, Int.natCast_nonneg, decide_true, decide_false, Bool.not_true, Bool.not_false, Bool.false_eq_true, Bool.not_eq_true, Bool.true_and, Bool.and_true, Bool.false_and, Bool.and_false]
theorem aR.is {k : Nat} {p : List Int} (hk : 4194304 + 1 ≤ k) (hp : p.length ≤ 1048576) : aR k p = some (Pu.cm p) := by
  obtain ⟨k, rfl⟩ : ∃ k', k = k' + 1 := ⟨k - 1, by omega⟩
  rw [aR.eq]
  exact aR.loop (k := k) (by omega) hp p.length k 0 0 9 (by omega) (by omega) (fun _ => rfl) (by omega) (by omega) (by omega) (by omega)
theorem dm.is {k : Nat} {p : List Int} {i : Int} (hk : 1 ≤ k) : dm k p i = some (Pu.atI p i) := by
  obtain ⟨k, rfl⟩ : ∃ k', k = k' + 1 := ⟨k - 1, by omega⟩
  rw [dm.eq, dm.fT]
  by_cases h1 : i < 0
  · simp only [↓au, bu, bw, aP, a8, a7, aK, aL, aM, bp, aS, aY, az, aB, aZ, ao, aN, aT, bD, bG, a9, ba, ag, Pu.w64, Int.toNat_natCast, decide_eq_true_eq, Int.ofNat_lt, Int.ofNat_le, if_true, if_false, Int.natCast_nonneg, decide_true, decide_false, Bool.not_true, Bool.not_false, Bool.false_eq_true, Bool.not_eq_true, Bool.true_and, Bool.and_true, Bool.false_and, Bool.and_false, h1, Pu.o8 h1]
  · by_cases h2 : (p.length : Int) ≤ i
    · simp only [↓au, bu, bw, aP, a8, a7, aK, aL, aM, bp, aS, aY, az, aB, aZ, ao, aN, aT, bD, bG, a9, ba, ag, Pu.w64, Int.toNat_natCast, decide_eq_true_eq, Int.ofNat_lt, Int.ofNat_le, if_true, if_false, Int.natCast_nonneg, decide_true, decide_false, Bool.not_true, Bool.not_false, Bool.false_eq_true, Bool.not_eq_true, Bool.true_and, Bool.and_true, Bool.false_and, Bool.and_false, h1, h2, Pu.uU h2]
    · have h3 : 0 ≤ i := by omega
      have h4 : i.toNat < p.length := by omega
      simp only [↓au, bu, bw, aP, a8, a7, aK, aL, aM, bp, aS, aY, az, aB, aZ, ao, aN, aT, bD, bG, a9, ba, ag, Pu.w64, Int.toNat_natCast, decide_eq_true_eq, Int.ofNat_lt, Int.ofNat_le, if_true, if_false, Int.natCast_nonneg, decide_true, decide_false, Bool.not_true, Bool.not_false, Bool.false_eq_true, Bool.not_eq_true, Bool.true_and, Bool.and_true, Bool.false_and, Bool.and_false, h1, h2, h3, h4, Pu.atI]
theorem bJ.loop {k : Nat} {q p : List Int} (hq : q.length ≤ 1048576) (hl : q.length ≤ p.length) (hk : q.length < k) : bJ.L1 k k 0 q p = some ((List.range' 0 q.length).all fun i => decide (q.getD i 0 ≤ p.getD i 0)) := by
  have h := Pu.iB (fun j i => bJ.L1 k j (i : Int) q p) q.length (fun i => decide (q.getD i 0 ≤ p.getD i 0)) (some false) (some true)
    (fun j i hi => by
      have hi2 : i < p.length := by omega
      rw [bJ.ef]
      simp (disch := omega) only [↓au, bu, bw, aP, a8, a7, aK, aL, aM, bp, aS, aY, az, aB, aZ, ao, aN, aT, bD, bG, a9, ba, ag, Pu.w64, Int.toNat_natCast, decide_eq_true_eq, Int.ofNat_lt, Int.ofNat_le, if_true, if_false, Int.natCast_nonneg, decide_true, decide_false, Bool.not_true, Bool.not_false, Bool.false_eq_true, Bool.not_eq_true, Bool.true_and, Bool.and_true, Bool.false_and, Bool.and_false, hi, hi2, Int.natCast_add, Int.natCast_one]
      by_cases c : q.getD i 0 ≤ p.getD i 0
      · have c' : ¬ p.getD i 0 < q.getD i 0 := by omega
        simp only [c, c', ↓au, bu, bw, aP, a8, a7, aK, aL, aM, bp, aS, aY, az, aB, aZ, ao, aN, aT, bD, bG, a9, ba, ag, Pu.w64, Int.toNat_natCast, decide_eq_true_eq, Int.ofNat_lt, Int.ofNat_le, if_true, if_false, Int.natCast_nonneg, decide_true, decide_false, Bool.not_true, Bool.not_false, Bool.false_eq_true, Bool.not_eq_true, Bool.true_and, Bool.and_true, Bool.false_and, Bool.and_false]
      · have c' : p.getD i 0 < q.getD i 0 := by omega
        simp only [c, c', ↓au, bu, bw, aP, a8, a7, aK, aL, aM, bp, aS, aY, az, aB, aZ, ao, aN, aT, bD, bG, a9, ba, ag, Pu.w64, Int.toNat_natCast, decide_eq_true_eq, Int.ofNat_lt, Int.ofNat_le, if_true, if_false, Int.natCast_nonneg, decide_true, decide_false, Bool.not_true, Bool.not_false, Bool.false_eq_true, Bool.not_eq_true, Bool.true_and, Bool.and_true, Bool.false_and, Bool.and_false])
    (fun j => by
      rw [bJ.ef]
      simp only [↓au, bu, bw, aP, a8, a7, aK, aL, aM, bp, aS, aY, az, aB, aZ, ao, aN, aT, bD, bG, a9, ba, ag, Pu.w64, Int.toNat_natCast, decide_eq_true_eq, Int.ofNat_lt, Int.ofNat_le, if_true, if_false, Int.natCast_nonneg, decide_true, decide_false, Bool.not_true, Bool.not_false, Bool.false_eq_true, Bool.not_eq_true, Bool.true_and, Bool.and_true, Bool.false_and, Bool.and_false, Nat.lt_irrefl]) q.length k 0 (by omega) hk
  simp only [Int.natCast_zero] at h
  rw [h]
  cases (List.range' 0 q.length).all fun i => decide (q.getD i 0 ≤ p.getD i 0) <;> simp
theorem bJ.is {k : Nat} {q p : List Int} (hk : 4194304 + 2 ≤ k) (hq : q.length ≤ 1048576) (hp : p.length ≤ 1048576) : bJ k q p = some (Pu.cY q p) := by
  obtain ⟨k, rfl⟩ : ∃ k', k = k' + 1 := ⟨k - 1, by omega⟩
  rw [bJ.eq, aR.is (by omega) hq, ag, bJ.fT]
  unfold Pu.cY
  cases c1 : Pu.cm q with
  | false => simp only [↓au, bu, bw, aP, a8, a7, aK, aL, aM, bp, aS, aY, az, aB, aZ, ao, aN, aT, bD, bG, a9, ba, ag, Pu.w64, Int.toNat_natCast, decide_eq_true_eq, Int.ofNat_lt, Int.ofNat_le, if_true, if_false, Int.natCast_nonneg, decide_true, decide_false, Bool.not_true, Bool.not_false, Bool.false_eq_true, Bool.not_eq_true, Bool.true_and, Bool.and_true, Bool.false_and, Bool.and_false]
  | true =>
    simp only [↓au, bu, bw, aP, a8, a7, aK, aL, aM, bp, aS, aY, az, aB, aZ, ao, aN, aT, bD, bG, a9, ba, ag, Pu.w64, Int.toNat_natCast, decide_eq_true_eq, Int.ofNat_lt, Int.ofNat_le, if_true, if_false, Int.natCast_nonneg, decide_true, decide_false, Bool.not_true, Bool.not_false, Bool.false_eq_true, Bool.not_eq_true, Bool.true_and, Bool.and_true, Bool.false_and, Bool.and_false]
    rw [aR.is (by omega) hp, ag]
    cases c2 : Pu.cm p with
    | false => simp only [↓au, bu, bw, aP, a8, a7, aK, aL, aM, bp, aS, aY, az, aB, aZ, ao, aN, aT, bD, bG, a9, ba, ag, Pu.w64, Int.toNat_natCast, decide_eq_true_eq, Int.ofNat_lt, Int.ofNat_le, if_true, if_false, Int.natCast_nonneg, decide_true, decide_false, Bool.not_true, Bool.not_false, Bool.false_eq_true, Bool.not_eq_true, Bool.true_and, Bool.and_true, Bool.false_and, Bool.and_false]
    | true =>
      simp only [↓au, bu, bw, aP, a8, a7, aK, aL, aM, bp, aS, aY, az, aB, aZ, ao, aN, aT, bD, bG, a9, ba, ag, Pu.w64, Int.toNat_natCast, decide_eq_true_eq, Int.ofNat_lt, Int.ofNat_le, if_true, if_false, Int.natCast_nonneg, decide_true, decide_false, Bool.not_true, Bool.not_false, Bool.false_eq_true, Bool.not_eq_true, Bool.true_and, Bool.and_true, Bool.false_and, Bool.and_false]
      by_cases c3 : p.length < q.length
      · have c3' : ¬ q.length ≤ p.length := by omega
        simp only [c3, c3', ↓au, bu, bw, aP, a8, a7, aK, aL, aM, bp, aS, aY, az, aB, aZ, ao, aN, aT, bD, bG, a9, ba, ag, Pu.w64, Int.toNat_natCast, decide_eq_true_eq, Int.ofNat_lt, Int.ofNat_le, if_true, if_false, Int.natCast_nonneg, decide_true, decide_false, Bool.not_true, Bool.not_false, Bool.false_eq_true, Bool.not_eq_true, Bool.true_and, Bool.and_true, Bool.false_and, Bool.and_false]
      · have c3' : q.length ≤ p.length := by omega
        simp only [c3, c3', ↓au, bu, bw, aP, a8, a7, aK, aL, aM, bp, aS, aY, az, aB, aZ, ao, aN, aT, bD, bG, a9, ba, ag, Pu.w64, Int.toNat_natCast, decide_eq_true_eq, Int.ofNat_lt, Int.ofNat_le, if_true, if_false, Int.natCast_nonneg, decide_true, decide_false, Bool.not_true, Bool.not_false, Bool.false_eq_true, Bool.not_eq_true, Bool.true_and, Bool.and_true, Bool.false_and, Bool.and_false]
        exact bJ.loop hq c3' (by omega)
theorem eU.is {k : Nat} {s : List Int × List Int} (hk : 4194304 + 3 ≤ k) (hq : s.1.length ≤ 1048576) (hp : s.2.length ≤ 1048576) : eU k s = some (Pu.cY s.2 s.1) := by
  obtain ⟨k, rfl⟩ : ∃ k', k = k' + 1 := ⟨k - 1, by omega⟩
  rw [eU.eq, bJ.is (by omega) hp hq]
  rfl
theorem bC.loop {k : Nat} {t : Pu.Tab} {x3 x4 : List Int} (hk : 4194304 + 3 ≤ k) (hi : Pu.cm t.1 = true) (h2 : t.2.length ≤ 9) (hr : ∀ x ∈ t.2, x.length ≤ 1048576) : ∀ (m j i : Nat) (acc : List Int), i + m = t.2.length → m < j → acc.length = i →
    bC.L1 k j i t.1 t.2 x3 x4 acc t.1 = some (if Pu.cY t.1 (acc ++ Pu.dv t.1 i (t.2.drop i)) = true then ((acc ++ Pu.dv t.1 i (t.2.drop i), t.1), true) else (([], []), false))
  | m, 0, i, acc, _, hj, _ => by omega
  | 0, j + 1, i, acc, hm, _, hacc => by
    rw [bC.ef]
    have e : i = t.2.length := by omega
    have h9 := (Pu.cw hi).2.2.1
    have hlt : ¬ i < t.2.length := by omega
    rw [eU.is (by omega) (by simp only; omega) (by simp only; omega), e]
    simp only [↓au, bu, bw, aP, a8, a7, aK, aL, aM, bp, aS, aY, az, aB, aZ, ao, aN, aT, bD, bG, a9, ba, ag, Pu.w64, Int.toNat_natCast, decide_eq_true_eq, Int.ofNat_lt, Int.ofNat_le, if_true, if_false, Int.natCast_nonneg, decide_true, decide_false, Bool.not_true, Bool.not_false, Bool.false_eq_true, Bool.not_eq_true, Bool.true_and, Bool.and_true, Bool.false_and, Bool.and_false, Nat.lt_irrefl, List.drop_length, Pu.dv, List.append_nil]
    cases Pu.cY t.1 acc <;> simp
  | m + 1, j + 1, i, acc, hm, hj, hacc => by
    rw [bC.ef]
    have hlt : i < t.2.length := by omega
    have hb := Pu.fh hi i
    have hrow := hr t.2[i] (List.getElem_mem hlt)
    rw [← Pu.aW hlt []] at hrow
    rw [dm.is (by omega)]
    have ih := bC.loop (x3 := x3) (x4 := x4) hk hi h2 hr m j (i + 1) (acc ++ [Pu.atI t.1 i + (t.2.getD i []).length]) (by omega) (by omega) (by simp [hacc])
    rw [Int.natCast_succ] at ih
    rw [Pu.drop_cons hlt []]
    have hl : (acc ++ [Pu.atI t.1 i + ((t.2.getD i []).length : Int)]).length ≤ 1099511627776 := by simp; omega
    simp (disch := omega) only [↓au, bu, bw, aP, a8, a7, aK, aL, aM, bp, aS, aY, az, aB, aZ, ao, aN, aT, bD, bG, a9, ba, ag, Pu.w64, Int.toNat_natCast, decide_eq_true_eq, Int.ofNat_lt, Int.ofNat_le, if_true, if_false, Int.natCast_nonneg, decide_true, decide_false, Bool.not_true, Bool.not_false, Bool.false_eq_true, Bool.not_eq_true, Bool.true_and, Bool.and_true, Bool.false_and, Bool.and_false, hlt, hl, ih, Pu.dv]
    simp only [List.append_assoc, List.singleton_append, Pu.dO]
    rfl
theorem bC.is {k : Nat} {t : Pu.Tab} (hk : 4194304 + 4 ≤ k) (h1 : t.1.length ≤ 1048576) (h2 : t.2.length ≤ 1048576) (hr : ∀ x ∈ t.2, x.length ≤ 1048576) : bC k t = some (Pu.shapeOf t) := by
  obtain ⟨k, rfl⟩ : ∃ k', k = k' + 1 := ⟨k - 1, by omega⟩
  rw [bC.eq, aR.is (by omega) h1, bC.fT]
  have hl : t.1.length ≤ 1099511627776 := by omega
  simp only [↓au, bu, bw, aP, a8, a7, aK, aL, aM, bp, aS, aY, az, aB, aZ, ao, aN, aT, bD, bG, a9, ba, ag, Pu.w64, Int.toNat_natCast, decide_eq_true_eq, Int.ofNat_lt, Int.ofNat_le, if_true, if_false, Int.natCast_nonneg, decide_true, decide_false, Bool.not_true, Bool.not_false, Bool.false_eq_true, Bool.not_eq_true, Bool.true_and, Bool.and_true, Bool.false_and, Bool.and_false, List.nil_append, hl]
  unfold Pu.shapeOf
  cases c1 : Pu.cm t.1 with
  | false =>
    have : Pu.cG t = false := by unfold Pu.cG; rw [c1]; rfl
    simp only [this, ↓au, bu, bw, aP, a8, a7, aK, aL, aM, bp, aS, aY, az, aB, aZ, ao, aN, aT, bD, bG, a9, ba, ag, Pu.w64, Int.toNat_natCast, decide_eq_true_eq, Int.ofNat_lt, Int.ofNat_le, if_true, if_false, Int.natCast_nonneg, decide_true, decide_false, Bool.not_true, Bool.not_false, Bool.false_eq_true, Bool.not_eq_true, Bool.true_and, Bool.and_true, Bool.false_and, Bool.and_false]
  | true =>
    by_cases c2 : t.2.length < t.1.length
    · have : Pu.cG t = false := by
        have : ¬ t.1.length ≤ t.2.length := by omega
        unfold Pu.cG; simp [this]
      simp only [this, c2, ↓au, bu, bw, aP, a8, a7, aK, aL, aM, bp, aS, aY, az, aB, aZ, ao, aN, aT, bD, bG, a9, ba, ag, Pu.w64, Int.toNat_natCast, decide_eq_true_eq, Int.ofNat_lt, Int.ofNat_le, if_true, if_false, Int.natCast_nonneg, decide_true, decide_false, Bool.not_true, Bool.not_false, Bool.false_eq_true, Bool.not_eq_true, Bool.true_and, Bool.and_true, Bool.false_and, Bool.and_false]
    · by_cases c3 : 9 < t.2.length
      · have : Pu.cG t = false := by
          cases h : Pu.cG t with
          | false => rfl
          | true => have := Pu.sR h; omega
        have c3' : (9 : Int) < t.2.length := by omega
        simp only [this, c2, c3', ↓au, bu, bw, aP, a8, a7, aK, aL, aM, bp, aS, aY, az, aB, aZ, ao, aN, aT, bD, bG, a9, ba, ag, Pu.w64, Int.toNat_natCast, decide_eq_true_eq, Int.ofNat_lt, Int.ofNat_le, if_true, if_false, Int.natCast_nonneg, decide_true, decide_false, Bool.not_true, Bool.not_false, Bool.false_eq_true, Bool.not_eq_true, Bool.true_and, Bool.and_true, Bool.false_and, Bool.and_false]
      · have c3' : ¬ (9 : Int) < t.2.length := by omega
        have c2' : t.1.length ≤ t.2.length := by omega
        have hloop := bC.loop (k := k) (t := t) (x3 := []) (x4 := []) (by omega) c1 (by omega) hr t.2.length k 0 [] (by omega) (by omega) rfl
        rw [Int.natCast_zero] at hloop
        simp only [c2, c3', ↓au, bu, bw, aP, a8, a7, aK, aL, aM, bp, aS, aY, az, aB, aZ, ao, aN, aT, bD, bG, a9, ba, ag, Pu.w64, Int.toNat_natCast, decide_eq_true_eq, Int.ofNat_lt, Int.ofNat_le, if_true, if_false, Int.natCast_nonneg, decide_true, decide_false, Bool.not_true, Bool.not_false, Bool.false_eq_true, Bool.not_eq_true, Bool.true_and, Bool.and_true, Bool.false_and, Bool.and_false]
        rw [hloop]
        have : Pu.cG t = Pu.cY t.1 (Pu.outer t) := by unfold Pu.cG; simp [c1, c2']
        rw [this]
        rfl
theorem bU.is {k : Nat} {t : Pu.Tab} {r c : Int} (hk : 2 ≤ k) (hi : Pu.cm t.1 = true) (h1 : -1000000000 ≤ c) (h2 : c ≤ 1000000000) : bU k t r c = some (Pu.entry t r c) := by
  obtain ⟨k, rfl⟩ : ∃ k', k = k' + 1 := ⟨k - 1, by omega⟩
  have hb := Pu.fh hi r
  rw [bU.eq, bU.fT, dm.is (by omega)]
  unfold Pu.entry
  by_cases c1 : r < 0
  · simp only [↓au, bu, bw, aP, a8, a7, aK, aL, aM, bp, aS, aY, az, aB, aZ, ao, aN, aT, bD, bG, a9, ba, ag, Pu.w64, Int.toNat_natCast, decide_eq_true_eq, Int.ofNat_lt, Int.ofNat_le, if_true, if_false, Int.natCast_nonneg, decide_true, decide_false, Bool.not_true, Bool.not_false, Bool.false_eq_true, Bool.not_eq_true, Bool.true_and, Bool.and_true, Bool.false_and, Bool.and_false, c1]
  · by_cases c2 : (t.2.length : Int) ≤ r
    · simp only [↓au, bu, bw, aP, a8, a7, aK, aL, aM, bp, aS, aY, az, aB, aZ, ao, aN, aT, bD, bG, a9, ba, ag, Pu.w64, Int.toNat_natCast, decide_eq_true_eq, Int.ofNat_lt, Int.ofNat_le, if_true, if_false, Int.natCast_nonneg, decide_true, decide_false, Bool.not_true, Bool.not_false, Bool.false_eq_true, Bool.not_eq_true, Bool.true_and, Bool.and_true, Bool.false_and, Bool.and_false, c1, c2]
    · have c3 : 0 ≤ r := by omega
      have c4 : r.toNat < t.2.length := by omega
      simp (disch := omega) only [↓au, bu, bw, aP, a8, a7, aK, aL, aM, bp, aS, aY, az, aB, aZ, ao, aN, aT, bD, bG, a9, ba, ag, Pu.w64, Int.toNat_natCast, decide_eq_true_eq, Int.ofNat_lt, Int.ofNat_le, if_true, if_false, Int.natCast_nonneg, decide_true, decide_false, Bool.not_true, Bool.not_false, Bool.false_eq_true, Bool.not_eq_true, Bool.true_and, Bool.and_true, Bool.false_and, Bool.and_false, c1, c2, c3, c4]
      by_cases d1 : c - Pu.atI t.1 r < 0
      · simp only [↓au, bu, bw, aP, a8, a7, aK, aL, aM, bp, aS, aY, az, aB, aZ, ao, aN, aT, bD, bG, a9, ba, ag, Pu.w64, Int.toNat_natCast, decide_eq_true_eq, Int.ofNat_lt, Int.ofNat_le, if_true, if_false, Int.natCast_nonneg, decide_true, decide_false, Bool.not_true, Bool.not_false, Bool.false_eq_true, Bool.not_eq_true, Bool.true_and, Bool.and_true, Bool.false_and, Bool.and_false, d1, Pu.o8 d1]
      · by_cases d2 : ((t.2.getD r.toNat []).length : Int) ≤ c - Pu.atI t.1 r
        · simp only [↓au, bu, bw, aP, a8, a7, aK, aL, aM, bp, aS, aY, az, aB, aZ, ao, aN, aT, bD, bG, a9, ba, ag, Pu.w64, Int.toNat_natCast, decide_eq_true_eq, Int.ofNat_lt, Int.ofNat_le, if_true, if_false, Int.natCast_nonneg, decide_true, decide_false, Bool.not_true, Bool.not_false, Bool.false_eq_true, Bool.not_eq_true, Bool.true_and, Bool.and_true, Bool.false_and, Bool.and_false, d1, d2, Pu.uU d2]
        · have d3 : 0 ≤ c - Pu.atI t.1 r := by omega
          have d4 : (c - Pu.atI t.1 r).toNat < (t.2.getD r.toNat []).length := by omega
          rw [bU.gq]
          generalize c - Pu.atI t.1 r = z at *
          simp only [↓au, bu, bw, aP, a8, a7, aK, aL, aM, bp, aS, aY, az, aB, aZ, ao, aN, aT, bD, bG, a9, ba, ag, Pu.w64, Int.toNat_natCast, decide_eq_true_eq, Int.ofNat_lt, Int.ofNat_le, if_true, if_false, Int.natCast_nonneg, decide_true, decide_false, Bool.not_true, Bool.not_false, Bool.false_eq_true, Bool.not_eq_true, Bool.true_and, Bool.and_true, Bool.false_and, Bool.and_false, c3, c4, d1, d2, d3, d4, Pu.atI]
theorem aw.yX {k k1 k2 : Nat} {t : Pu.Tab} {r : Nat} {c x v : Int} {o n : List Int} (hk : 3 ≤ k) (hi : Pu.cm t.1 = true) (h1 : 0 ≤ c) (h2 : c ≤ 10000000) (hr : r ≤ 1048576) :
    aw.J2 k k1 k2 r c x v t.1 t.2 o n = if (Pu.within x 1 9 && (decide (v ≤ x) && decide (Pu.entry t ((r : Int) - 1) c < x))) = true then aw.L1 k k1 k2 r (c + 1) t.1 t.2 o n else some false := by
  have he := bU.is (k := k) (t := t) (r := (r : Int) - 1) (c := c) (by omega) hi (by omega) (by omega)
  rw [aw.mV, fF.is (by omega), aw.yM]
  simp (disch := omega) only [↓au, bu, bw, aP, a8, a7, aK, aL, aM, bp, aS, aY, az, aB, aZ, ao, aN, aT, bD, bG, a9, ba, ag, Pu.w64, Int.toNat_natCast, decide_eq_true_eq, Int.ofNat_lt, Int.ofNat_le, if_true, if_false, Int.natCast_nonneg, decide_true, decide_false, Bool.not_true, Bool.not_false, Bool.false_eq_true, Bool.not_eq_true, Bool.true_and, Bool.and_true, Bool.false_and, Bool.and_false, he]
  cases Pu.within x 1 9 with
  | false => simp
  | true =>
    by_cases c1 : v ≤ x
    · have c1' : ¬ x < v := by omega
      by_cases c2 : Pu.entry t ((r : Int) - 1) c < x
      · have c2' : ¬ x ≤ Pu.entry t ((r : Int) - 1) c := by omega
        simp [c1, c1', c2, c2']
      · have c2' : x ≤ Pu.entry t ((r : Int) - 1) c := by omega
        simp [c1, c1', c2, c2']
    · have c1' : x < v := by omega
      simp [c1, c1']
theorem aw.inner {k k1 : Nat} {t : Pu.Tab} {r : Nat} {n : List Int} (hk : 4194304 ≤ k) (hi : Pu.cm t.1 = true) (ht : t.2.length ≤ 1048576) (hr : ∀ x ∈ t.2, x.length ≤ 1048576) (hlt : r < t.2.length) :
    aw.L1 k k1 k r (t.1.getD r 0) t.1 t.2 (Pu.outer t) n = if ((List.range' 0 (t.2.getD r []).length).all fun q => Pu.e9 t r q) = true then aw.L0 k k1 ((r : Int) + 1) t.1 t.2 (Pu.outer t) n else some false := by
  have hx := hr _ (List.getElem_mem hlt)
  rw [← Pu.aW hlt []] at hx
  have hb := Pu.fh hi r
  rw [Pu.dO] at hb
  have hol : r < (Pu.outer t).length := by unfold Pu.outer; rw [Pu.iF]; exact hlt
  have ho : (Pu.outer t).getD r 0 = t.1.getD r 0 + ((t.2.getD r []).length : Int) := by
    have := Pu.iz t.1 t.2 0 r hlt
    rw [Nat.zero_add] at this
    exact this
  have h := Pu.iB (fun j q => aw.L1 k k1 j r (t.1.getD r 0 + (q : Int)) t.1 t.2 (Pu.outer t) n) (t.2.getD r []).length (fun q => Pu.e9 t r q) (some false) (aw.L0 k k1 ((r : Int) + 1) t.1 t.2 (Pu.outer t) n)
    (fun j q hq => by
      rw [aw.ef]
      have hc : t.1.getD r 0 + (q : Int) < (Pu.outer t).getD r 0 := by rw [ho]; omega
      have e1 := bU.is (k := k) (t := t) (r := r) (c := t.1.getD r 0 + q) (by omega) hi (by omega) (by omega)
      have e2 := bU.is (k := k) (t := t) (r := r) (c := t.1.getD r 0 + q - 1) (by omega) hi (by omega) (by omega)
      rw [Pu.ux hlt] at e1
      rw [Pu.uA hlt] at e2
      have ej := fun v => aw.yX (k := k) (k1 := k1) (k2 := j) (t := t) (r := r) (c := t.1.getD r 0 + q) (x := (t.2.getD r []).getD q 0) (v := v) (o := Pu.outer t) (n := n) (by omega) hi (by omega) (by omega) (by omega)
      have en : t.1.getD r 0 + (q : Int) + 1 = t.1.getD r 0 + ((q + 1 : Nat) : Int) := by omega
      rw [en] at ej
      have key : ∀ v : Int, v = (if q = 0 then 0 else (t.2.getD r []).getD (q - 1) 0) → (Pu.within ((t.2.getD r []).getD q 0) 1 9 && (decide (v ≤ (t.2.getD r []).getD q 0) && decide (Pu.entry t ((r : Int) - 1) (t.1.getD r 0 + q) < (t.2.getD r []).getD q 0))) = Pu.e9 t r q := by
        intro v hv
        unfold Pu.e9
        cases hw : Pu.within ((t.2.getD r []).getD q 0) 1 9 with
        | false => rfl
        | true =>
          have hw1 : 1 ≤ (t.2.getD r []).getD q 0 := by
            simp only [Pu.within, Bool.and_eq_true, decide_eq_true_eq] at hw; exact hw.1
          simp only [Bool.true_and]
          congr 1
          · by_cases e : q = 0
            · have : v ≤ (t.2.getD r []).getD q 0 := by rw [hv, if_pos e]; omega
              simp [e, this]
              simpa [e] using this
            · rw [hv, if_neg e]; simp [e]
          · by_cases e : r = 0
            · subst e
              rw [Pu.wy (by omega), decide_eq_true (show (0 : Int) < (t.2.getD 0 []).getD q 0 by omega)]
              simp only [decide_true, Bool.true_or]
            · simp [e]
      by_cases hc0 : 0 < t.1.getD r 0 + (q : Int)
      · simp (disch := omega) only [↓au, bu, bw, aP, a8, a7, aK, aL, aM, bp, aS, aY, az, aB, aZ, ao, aN, aT, bD, bG, a9, ba, ag, Pu.w64, Int.toNat_natCast, decide_eq_true_eq, Int.ofNat_lt, Int.ofNat_le, if_true, if_false, Int.natCast_nonneg, decide_true, decide_false, Bool.not_true, Bool.not_false, Bool.false_eq_true, Bool.not_eq_true, Bool.true_and, Bool.and_true, Bool.false_and, Bool.and_false, hol, hc, e1, hc0, e2, ej]
        rw [key _ rfl]
      · simp (disch := omega) only [↓au, bu, bw, aP, a8, a7, aK, aL, aM, bp, aS, aY, az, aB, aZ, ao, aN, aT, bD, bG, a9, ba, ag, Pu.w64, Int.toNat_natCast, decide_eq_true_eq, Int.ofNat_lt, Int.ofNat_le, if_true, if_false, Int.natCast_nonneg, decide_true, decide_false, Bool.not_true, Bool.not_false, Bool.false_eq_true, Bool.not_eq_true, Bool.true_and, Bool.and_true, Bool.false_and, Bool.and_false, hol, hc, e1, hc0, ej]
        rw [key 0 (by have : q = 0 := by omega
                      rw [if_pos this])])
    (fun j => by
      rw [aw.ef]
      have hc : ¬ t.1.getD r 0 + ((t.2.getD r []).length : Int) < (Pu.outer t).getD r 0 := by rw [ho]; omega
      simp (disch := omega) only [↓au, bu, bw, aP, a8, a7, aK, aL, aM, bp, aS, aY, az, aB, aZ, ao, aN, aT, bD, bG, a9, ba, ag, Pu.w64, Int.toNat_natCast, decide_eq_true_eq, Int.ofNat_lt, Int.ofNat_le, if_true, if_false, Int.natCast_nonneg, decide_true, decide_false, Bool.not_true, Bool.not_false, Bool.false_eq_true, Bool.not_eq_true, Bool.true_and, Bool.and_true, Bool.false_and, Bool.and_false, hol, hc]) (t.2.getD r []).length k 0 (by omega) (by omega)
  simp only [Int.natCast_zero, Int.add_zero] at h
  exact h
theorem aw.is {k : Nat} {t : Pu.Tab} (hk : 4194304 + 5 ≤ k) (h1 : t.1.length ≤ 1048576) (ht : t.2.length ≤ 1048576) (hr : ∀ x ∈ t.2, x.length ≤ 1048576) : aw k t = some (Pu.gP t) := by
  obtain ⟨k, rfl⟩ : ∃ k', k = k' + 1 := ⟨k - 1, by omega⟩
  rw [aw.eq, bC.is (by omega) h1 ht hr, ag]
  unfold Pu.gP Pu.shapeOf
  cases hs : Pu.cG t with
  | false => simp [hs]
  | true =>
    have hi : Pu.cm t.1 = true := by
      simp only [Pu.cG, Bool.and_eq_true] at hs; exact hs.1
    have hol : (Pu.outer t).length = t.2.length := by unfold Pu.outer; rw [Pu.iF]
    have h := Pu.iB (fun j r => aw.L0 k j r t.1 t.2 (Pu.outer t) t.1) t.2.length (fun r => (List.range' 0 (t.2.getD r []).length).all fun q => Pu.e9 t r q) (some false) (some true)
      (fun j r hlt => by
        rw [aw.bO, dm.is (by omega), Pu.dO]
        simp (disch := omega) only [↓au, bu, bw, aP, a8, a7, aK, aL, aM, bp, aS, aY, az, aB, aZ, ao, aN, aT, bD, bG, a9, ba, ag, Pu.w64, Int.toNat_natCast, decide_eq_true_eq, Int.ofNat_lt, Int.ofNat_le, if_true, if_false, Int.natCast_nonneg, decide_true, decide_false, Bool.not_true, Bool.not_false, Bool.false_eq_true, Bool.not_eq_true, Bool.true_and, Bool.and_true, Bool.false_and, Bool.and_false, hol, hlt, aw.inner (k1 := j) (n := t.1) (show 4194304 ≤ k by omega) hi ht hr hlt, Int.natCast_add, Int.natCast_one])
      (fun j => by
        rw [aw.bO]
        simp (disch := omega) only [↓au, bu, bw, aP, a8, a7, aK, aL, aM, bp, aS, aY, az, aB, aZ, ao, aN, aT, bD, bG, a9, ba, ag, Pu.w64, Int.toNat_natCast, decide_eq_true_eq, Int.ofNat_lt, Int.ofNat_le, if_true, if_false, Int.natCast_nonneg, decide_true, decide_false, Bool.not_true, Bool.not_false, Bool.false_eq_true, Bool.not_eq_true, Bool.true_and, Bool.and_true, Bool.false_and, Bool.and_false, hol, Nat.lt_irrefl]) t.2.length k 0 (by omega) (by omega)
    simp only [Int.natCast_zero] at h
    simp only [if_true, ↓au, bu, bw, aP, a8, a7, aK, aL, aM, bp, aS, aY, az, aB, aZ, ao, aN, aT, bD, bG, a9, ba, ag, Pu.w64, Int.toNat_natCast, decide_eq_true_eq, Int.ofNat_lt, Int.ofNat_le, if_true, if_false, Int.natCast_nonneg, decide_true, decide_false, Bool.not_true, Bool.not_false, Bool.false_eq_true, Bool.not_eq_true, Bool.true_and, Bool.and_true, Bool.false_and, Bool.and_false]
    rw [h]
    cases (List.range' 0 t.2.length).all fun r => (List.range' 0 (t.2.getD r []).length).all fun q => Pu.e9 t r q <;> simp
theorem dE.is {k : Nat} {t : Pu.Tab} (hk : 4194304 + 6 ≤ k) (h1 : t.1.length ≤ 1048576) (ht : t.2.length ≤ 1048576) (hr : ∀ x ∈ t.2, x.length ≤ 1048576) : dE k t = some (Pu.bL t) := by
  obtain ⟨k, rfl⟩ : ∃ k', k = k' + 1 := ⟨k - 1, by omega⟩
  rw [dE.eq, aw.is (by omega) h1 ht hr, ag]
  unfold Pu.bL
  cases Pu.gP t <;> simp
theorem bQ.loop {k : Nat} {t : Pu.Tab} {x2 : List Int} (ht : t.2.length ≤ 1048576) (hf : t.2.flatten.length ≤ 1099511627776) : ∀ (m j i : Nat), i + m = t.2.length → m < j →
    bQ.L0 k j i (t.2.take i).flatten x2 t.2 = some t.2.flatten
  | m, 0, i, _, hj => by omega
  | 0, j + 1, i, hm, _ => by
    rw [bQ.bO]
    have e : i = t.2.length := by omega
    subst e
    simp
  | m + 1, j + 1, i, hm, hj => by
    rw [bQ.bO]
    have hlt : i < t.2.length := by omega
    have ih := bQ.loop (k := k) (x2 := x2) ht hf m j (i + 1) (by omega) (by omega)
    rw [Int.natCast_succ, Pu.take_succ hlt []] at ih
    have hl : ((t.2.take i).flatten ++ t.2.getD i []).length ≤ 1099511627776 := by
      refine Nat.le_trans ?_ hf
      have e : t.2.flatten = (t.2.take i).flatten ++ (t.2.drop i).flatten := by rw [← List.flatten_append, List.take_append_drop]
      rw [e, Pu.drop_cons hlt []]
      simp only [List.flatten_cons, List.length_append]
      omega
    simp only [List.flatten_append, List.flatten_cons, List.flatten_nil, List.append_nil] at ih
    simp (disch := omega) only [↓au, bu, bw, aP, a8, a7, aK, aL, aM, bp, aS, aY, az, aB, aZ, ao, aN, aT, bD, bG, a9, ba, ag, Pu.w64, Int.toNat_natCast, decide_eq_true_eq, Int.ofNat_lt, Int.ofNat_le, if_true, if_false, Int.natCast_nonneg, decide_true, decide_false, Bool.not_true, Bool.not_false, Bool.false_eq_true, Bool.not_eq_true, Bool.true_and, Bool.and_true, Bool.false_and, Bool.and_false, hlt, hl, ih]
theorem bQ.is {k : Nat} {t : Pu.Tab} (hk : 4194304 + 1 ≤ k) (ht : t.2.length ≤ 1048576) (hf : t.2.flatten.length ≤ 1099511627776) : bQ k t = some t.2.flatten := by
  obtain ⟨k, rfl⟩ : ∃ k', k = k' + 1 := ⟨k - 1, by omega⟩
  rw [bQ.eq]
  exact bQ.loop (k := k) ht hf t.2.length k 0 (by omega) (by omega)
theorem bg.loop {k : Nat} {l : List Int} (h1 : ∀ x ∈ l, 1 ≤ x ∧ x ≤ 9) (hl : l.length ≤ 9) : ∀ (m j i : Nat) (seen : List Bool), i + m = l.length → m < j → seen.length = 10 → (∀ v : Nat, v < 10 → seen.getD v false = Pu.has (l.take i) v) →
    bg.L0 k j i l seen = some (Pu.iM l.length (l.take i) (l.drop i))
  | m, 0, i, seen, _, hj, _, _ => by omega
  | 0, j + 1, i, seen, hm, _, _, _ => by
    rw [bg.bO]
    have e : i = l.length := by omega
    subst e
    simp [Pu.iM]
  | m + 1, j + 1, i, seen, hm, hj, hs, hv => by
    rw [bg.bO]
    have hlt : i < l.length := by omega
    have hx := h1 _ (List.getElem_mem hlt)
    rw [← Pu.aW hlt 0] at hx
    rw [Pu.drop_cons hlt 0]
    simp only [Pu.iM]
    have hx10 : (l.getD i 0).toNat < seen.length := by omega
    have hx0 : (0 : Int) ≤ l.getD i 0 := by omega
    have hvx := hv (l.getD i 0).toNat (by omega)
    have ex : (((l.getD i 0).toNat : Nat) : Int) = l.getD i 0 := by omega
    rw [ex] at hvx
    by_cases c : l.getD i 0 ≤ l.length
    · have c' : ¬ (l.length : Int) < l.getD i 0 := by omega
      cases hh : Pu.has (l.take i) (l.getD i 0) with
      | true =>
        rw [hh] at hvx
        simp (disch := omega) only [↓au, bu, bw, aP, a8, a7, aK, aL, aM, bp, aS, aY, az, aB, aZ, ao, aN, aT, bD, bG, a9, ba, ag, Pu.w64, Int.toNat_natCast, decide_eq_true_eq, Int.ofNat_lt, Int.ofNat_le, if_true, if_false, Int.natCast_nonneg, decide_true, decide_false, Bool.not_true, Bool.not_false, Bool.false_eq_true, Bool.not_eq_true, Bool.true_and, Bool.and_true, Bool.false_and, Bool.and_false, hlt, c, c', hx0, hx10, hvx]
      | false =>
        rw [hh] at hvx
        have ih := bg.loop (k := k) h1 hl m j (i + 1) (seen.set (l.getD i 0).toNat true) (by omega) (by omega) (by simpa using hs) (fun v hv10 => by
          rw [Pu.take_succ hlt 0]
          by_cases e : v = (l.getD i 0).toNat
          · subst e
            have : Pu.has (l.take i ++ [l.getD i 0]) (((l.getD i 0).toNat : Nat) : Int) = true := by rw [Pu.lR, ex]; exact List.mem_append.2 (.inr (List.mem_singleton.2 rfl))
            rw [this, Pu.aW (by rw [List.length_set]; omega), List.getElem_set_self]
          · have e1 : (seen.set (l.getD i 0).toNat true).getD v false = seen.getD v false := by
              rw [Pu.aW (by rw [List.length_set]; omega), List.getElem_set_ne (by omega)]
              exact (Pu.aW (by omega) false).symm
            rw [e1, hv v hv10]
            have hne : ¬ (v : Int) = l.getD i 0 := by omega
            unfold Pu.has
            rw [List.any_append]
            simp only [List.any_cons, List.any_nil, hne, decide_false, Bool.or_false])
        rw [Int.natCast_succ, Pu.take_succ hlt 0] at ih
        simp (disch := omega) only [↓au, bu, bw, aP, a8, a7, aK, aL, aM, bp, aS, aY, az, aB, aZ, ao, aN, aT, bD, bG, a9, ba, ag, Pu.w64, Int.toNat_natCast, decide_eq_true_eq, Int.ofNat_lt, Int.ofNat_le, if_true, if_false, Int.natCast_nonneg, decide_true, decide_false, Bool.not_true, Bool.not_false, Bool.false_eq_true, Bool.not_eq_true, Bool.true_and, Bool.and_true, Bool.false_and, Bool.and_false, hlt, c, c', hx0, hx10, hvx, bg.gq, ih]
    · have c' : (l.length : Int) < l.getD i 0 := by omega
      simp (disch := omega) only [↓au, bu, bw, aP, a8, a7, aK, aL, aM, bp, aS, aY, az, aB, aZ, ao, aN, aT, bD, bG, a9, ba, ag, Pu.w64, Int.toNat_natCast, decide_eq_true_eq, Int.ofNat_lt, Int.ofNat_le, if_true, if_false, Int.natCast_nonneg, decide_true, decide_false, Bool.not_true, Bool.not_false, Bool.false_eq_true, Bool.not_eq_true, Bool.true_and, Bool.and_true, Bool.false_and, Bool.and_false, hlt, c, c']
theorem bg.is {k : Nat} {t : Pu.Tab} (hk : 4194304 + 6 ≤ k) (h1 : t.1.length ≤ 1048576) (ht : t.2.length ≤ 1048576) (hr : ∀ x ∈ t.2, x.length ≤ 1048576) : bg k t = some (Pu.eH t) := by
  obtain ⟨k, rfl⟩ : ∃ k', k = k' + 1 := ⟨k - 1, by omega⟩
  rw [bg.eq, aw.is (by omega) h1 ht hr, ag]
  unfold Pu.eH
  cases hi : Pu.gP t with
  | false => simp
  | true =>
    have h9 := Pu.sJ hi
    have he := Pu.ot hi
    simp only [↓au, bu, bw, aP, a8, a7, aK, aL, aM, bp, aS, aY, az, aB, aZ, ao, aN, aT, bD, bG, a9, ba, ag, Pu.w64, Int.toNat_natCast, decide_eq_true_eq, Int.ofNat_lt, Int.ofNat_le, if_true, if_false, Int.natCast_nonneg, decide_true, decide_false, Bool.not_true, Bool.not_false, Bool.false_eq_true, Bool.not_eq_true, Bool.true_and, Bool.and_true, Bool.false_and, Bool.and_false]
    rw [bQ.is (by omega) ht (by omega), ag]
    have h := bg.loop (k := k) (l := t.2.flatten) he h9 t.2.flatten.length k 0 (List.replicate 10 false) (by omega) (by omega) (by simp) (fun v hv => by
      rw [Pu.aW (by simpa using hv), List.getElem_replicate]; rfl)
    rw [Int.natCast_zero] at h
    rw [if_pos (by omega), if_pos (by omega), if_pos (by decide)]
    show bg.L0 k k 0 t.2.flatten (List.replicate 10 false) = _
    rw [h, List.take_zero, List.drop_zero, Pu.vd fun x hx => (he x hx).1]
theorem cf.loop {k : Nat} {a b : List Int} (hl : a.length = b.length) (ha : a.length ≤ 1048576) : ∀ (m j i : Nat), i + m = a.length → m < j → cf.L0 k j i a b = some (decide (a.drop i = b.drop i))
  | m, 0, i, _, hj => by omega
  | 0, j + 1, i, hi, _ => by
    rw [cf.bO]
    have e : i = a.length := by omega
    subst e
    simp [hl]
  | m + 1, j + 1, i, hi, hj => by
    rw [cf.bO]
    have h1 : i < a.length := by omega
    have h2 : i < b.length := by omega
    have ih := cf.loop (k := k) hl ha m j (i + 1) (by omega) (by omega)
    rw [Int.natCast_succ] at ih
    rw [Pu.drop_cons h1 0, Pu.drop_cons h2 0]
    by_cases e : a.getD i 0 = b.getD i 0 <;> simp (disch := omega) only [au, bu, bw, aP, aK, aL, aM, bp, ao, aN, bD, bG, Pu.w64, Int.toNat_natCast, decide_eq_true_eq, Int.ofNat_lt, h1, h2, if_true, Int.natCast_nonneg, decide_true, ih, e, List.cons.injEq, true_and, false_and, decide_false, Bool.not_true, Bool.not_false, if_false, Bool.false_eq_true]
theorem cf.is {k : Nat} {a b : List Int} (hk : 4194304 + 1 ≤ k) (ha : a.length ≤ 1048576) : cf k a b = some (decide (a = b)) := by
  obtain ⟨k, rfl⟩ : ∃ k', k = k' + 1 := ⟨k - 1, by omega⟩
  rw [cf.eq]
  by_cases hl : a.length = b.length
  · have h := cf.loop (k := k) hl ha a.length k 0 (by omega) (by omega)
    rw [Int.natCast_zero] at h
    simp only [List.drop_zero] at h
    have hl' : (a.length : Int) = b.length := by omega
    simp only [au, bD, bG, aL, aK, hl', decide_true, Bool.not_true, Bool.false_eq_true, if_false, h]
  · have hne : a ≠ b := fun e => hl (by rw [e])
    have hl' : ¬ (a.length : Int) = b.length := by omega
    simp [hl', hne]
theorem dx.is {k : Nat} {a b : List Int × List Int} (hk : 4194304 + 2 ≤ k) (h1 : a.1.length ≤ 1048576) (h2 : a.2.length ≤ 1048576) : dx k a b = some (decide (a = b)) := by
  obtain ⟨k, rfl⟩ : ∃ k', k = k' + 1 := ⟨k - 1, by omega⟩
  obtain ⟨a1, a2⟩ := a
  obtain ⟨b1, b2⟩ := b
  rw [dx.eq, cf.is (by omega) h1, cf.is (by omega) h2]
  by_cases e : a1 = b1 <;> simp [e]
theorem cn.loop {k : Nat} {w : List Int} (hw : w.length ≤ 1048576) (hb : ∀ x ∈ w, -1000000 ≤ x ∧ x ≤ 1000000) : ∀ (m j i : Nat) (s : Int), i + m = w.length → m < j → -1000000 * i ≤ s → s ≤ 1000000 * i → cn.L0 k j s i w = some (s + Pu.eY (w.drop i))
  | m, 0, i, s, _, hj, _, _ => by omega
  | 0, j + 1, i, s, hm, _, _, _ => by
    rw [cn.bO]
    have e : i = w.length := by omega
    subst e
    simp [Pu.eY]
  | m + 1, j + 1, i, s, hm, hj, hs1, hs2 => by
    rw [cn.bO]
    have hlt : i < w.length := by omega
    have hx := hb _ (List.getElem_mem hlt)
    rw [← Pu.aW hlt 0] at hx
    have ih := cn.loop (k := k) hw hb m j (i + 1) (s + w.getD i 0) (by omega) (by omega) (by omega) (by omega)
    rw [Int.natCast_succ] at ih
    rw [Pu.drop_cons hlt 0]
    simp (disch := omega) only [↓au, bu, bw, aP, a8, a7, aK, aL, aM, bp, aS, aY, az, aB, aZ, ao, aN, aT, bD, bG, a9, ba, ag, Pu.w64, Int.toNat_natCast, decide_eq_true_eq, Int.ofNat_lt, Int.ofNat_le, if_true, if_false, Int.natCast_nonneg, decide_true, decide_false, Bool.not_true, Bool.not_false, Bool.false_eq_true, Bool.not_eq_true, Bool.true_and, Bool.and_true, Bool.false_and, Bool.and_false, hlt, ih, Pu.eY, Int.add_assoc]
theorem cn.is {k : Nat} {w : List Int} (hk : 4194304 + 1 ≤ k) (hw : w.length ≤ 1048576) (hb : ∀ x ∈ w, -1000000 ≤ x ∧ x ≤ 1000000) : cn k w = some (Pu.eY w) := by
  obtain ⟨k, rfl⟩ : ∃ k', k = k' + 1 := ⟨k - 1, by omega⟩
  rw [cn.eq]
  have h := cn.loop (k := k) hw hb w.length k 0 0 (by omega) (by omega) (by omega) (by omega)
  rw [Int.natCast_zero] at h
  rw [h, Int.zero_add, List.drop_zero]
theorem aU.inner {k k1 : Nat} {n : Int} {r : Nat} {a : List Int} {rows : List (List Int)} (hlt : r < rows.length) (hx : (rows.getD r []).length ≤ 1048576) (hk : 4194304 ≤ k) (hl : rows.length ≤ 1048576) :
    aU.L1 k k1 k n r 0 a rows = if Pu.has (rows.getD r []) n = true then some (r : Int) else aU.L0 k k1 n ((r : Int) + 1) a rows := by
  have h := Pu.mU (rows.getD r []) 0 (fun y => decide (n = y)) (fun j i => aU.L1 k k1 j n r i a rows) (fun _ => some (r : Int)) (aU.L0 k k1 n ((r : Int) + 1) a rows)
    (fun j i hi => by
      rw [aU.ef]
      by_cases c : n = (rows.getD r []).getD i 0
      · simp (disch := omega) only [↓au, bu, bw, aP, a8, a7, aK, aL, aM, bp, aS, aY, az, aB, aZ, ao, aN, aT, bD, bG, a9, ba, ag, Pu.w64, Int.toNat_natCast, decide_eq_true_eq, Int.ofNat_lt, Int.ofNat_le, if_true, if_false, Int.natCast_nonneg, decide_true, decide_false, Bool.not_true, Bool.not_false, Bool.false_eq_true, Bool.not_eq_true, Bool.true_and, Bool.and_true, Bool.false_and, Bool.and_false, hlt, hi, ← c]
      · have c' : ¬ (rows.getD r []).getD i 0 = n := fun e => c e.symm
        simp (disch := omega) only [↓au, bu, bw, aP, a8, a7, aK, aL, aM, bp, aS, aY, az, aB, aZ, ao, aN, aT, bD, bG, a9, ba, ag, Pu.w64, Int.toNat_natCast, decide_eq_true_eq, Int.ofNat_lt, Int.ofNat_le, if_true, if_false, Int.natCast_nonneg, decide_true, decide_false, Bool.not_true, Bool.not_false, Bool.false_eq_true, Bool.not_eq_true, Bool.true_and, Bool.and_true, Bool.false_and, Bool.and_false, hlt, hi, c, c', Int.natCast_add, Int.natCast_one])
    (fun j => by
      rw [aU.ef]
      simp (disch := omega) only [↓au, bu, bw, aP, a8, a7, aK, aL, aM, bp, aS, aY, az, aB, aZ, ao, aN, aT, bD, bG, a9, ba, ag, Pu.w64, Int.toNat_natCast, decide_eq_true_eq, Int.ofNat_lt, Int.ofNat_le, if_true, if_false, Int.natCast_nonneg, decide_true, decide_false, Bool.not_true, Bool.not_false, Bool.false_eq_true, Bool.not_eq_true, Bool.true_and, Bool.and_true, Bool.false_and, Bool.and_false, hlt, Nat.lt_irrefl]) (rows.getD r []).length k 0 (by omega) (by omega) (by omega)
  simp only [Int.natCast_zero] at h
  rw [h]
  have e : Pu.has (rows.getD r []) n = decide ((rows.getD r []).findIdx (fun y => decide (n = y)) < (rows.getD r []).length) := by
    unfold Pu.has
    exact Pu.xR _ _
  rw [e]
  simp only [decide_eq_true_eq]
theorem aU.is {k : Nat} {t : Pu.Tab} {n : Int} (hk : 4194304 + 7 ≤ k) (h1 : t.1.length ≤ 1048576) (ht : t.2.length ≤ 1048576) (hr : ∀ x ∈ t.2, x.length ≤ 1048576) : aU k t n = some (if Pu.eH t = true then Pu.rowOf t n else -1) := by
  obtain ⟨k, rfl⟩ : ∃ k', k = k' + 1 := ⟨k - 1, by omega⟩
  rw [aU.eq, bg.is (by omega) h1 ht hr, ag]
  cases hs : Pu.eH t with
  | false => simp
  | true =>
    have h := Pu.mU t.2 [] (fun r => Pu.has r n) (fun j i => aU.L0 k j n i t.1 t.2) (fun i => some (i : Int)) (some (-1))
      (fun j i hi => by
        have hx := hr _ (List.getElem_mem hi)
        rw [← Pu.aW hi []] at hx
        rw [aU.bO]
        simp (disch := omega) only [↓au, bu, bw, aP, a8, a7, aK, aL, aM, bp, aS, aY, az, aB, aZ, ao, aN, aT, bD, bG, a9, ba, ag, Pu.w64, Int.toNat_natCast, decide_eq_true_eq, Int.ofNat_lt, Int.ofNat_le, if_true, if_false, Int.natCast_nonneg, decide_true, decide_false, Bool.not_true, Bool.not_false, Bool.false_eq_true, Bool.not_eq_true, Bool.true_and, Bool.and_true, Bool.false_and, Bool.and_false, hi]
        rw [aU.inner hi hx (by omega) ht, Int.natCast_add, Int.natCast_one])
      (fun j => by
        rw [aU.bO]
        simp (disch := omega) only [↓au, bu, bw, aP, a8, a7, aK, aL, aM, bp, aS, aY, az, aB, aZ, ao, aN, aT, bD, bG, a9, ba, ag, Pu.w64, Int.toNat_natCast, decide_eq_true_eq, Int.ofNat_lt, Int.ofNat_le, if_true, if_false, Int.natCast_nonneg, decide_true, decide_false, Bool.not_true, Bool.not_false, Bool.false_eq_true, Bool.not_eq_true, Bool.true_and, Bool.and_true, Bool.false_and, Bool.and_false, Nat.lt_irrefl]) t.2.length k 0 (by omega) (by omega) (by omega)
    simp only [Int.natCast_zero] at h
    simp only [↓au, bu, bw, aP, a8, a7, aK, aL, aM, bp, aS, aY, az, aB, aZ, ao, aN, aT, bD, bG, a9, ba, ag, Pu.w64, Int.toNat_natCast, decide_eq_true_eq, Int.ofNat_lt, Int.ofNat_le, if_true, if_false, Int.natCast_nonneg, decide_true, decide_false, Bool.not_true, Bool.not_false, Bool.false_eq_true, Bool.not_eq_true, Bool.true_and, Bool.and_true, Bool.false_and, Bool.and_false]
    rw [h]
    unfold Pu.rowOf Pu.uj
    split <;> rfl
theorem cp.loop {k : Nat} {t : Pu.Tab} {x3 x4 : List Int} {x5 : List (List Int)} (ht : t.2.length ≤ 1048576) (hr : ∀ x ∈ t.2, x.length ≤ 1048576) : ∀ (m j i : Nat), i + m = t.2.length → m < j →
    cp.L0 k j i t.1 t.2 x3 x5 x4 (t.2.take i) = some (x4, t.2)
  | m, 0, i, _, hj => by omega
  | 0, j + 1, i, hm, _ => by
    rw [cp.bO]
    have e : i = t.2.length := by omega
    subst e
    simp
  | m + 1, j + 1, i, hm, hj => by
    rw [cp.bO]
    have hlt : i < t.2.length := by omega
    have hx := hr _ (List.getElem_mem hlt)
    rw [← Pu.aW hlt []] at hx
    have ih := cp.loop (k := k) (x3 := x3) (x4 := x4) (x5 := x5) ht hr m j (i + 1) (by omega) (by omega)
    rw [Int.natCast_succ, Pu.take_succ hlt []] at ih
    have hl : (t.2.take i ++ [t.2.getD i []]).length ≤ 1099511627776 := by simp; omega
    have hx' : (t.2.getD i []).length ≤ 1099511627776 := by omega
    simp (disch := omega) only [↓au, bu, bw, aP, a8, a7, aK, aL, aM, bp, aS, aY, az, aB, aZ, ao, aN, aT, bD, bG, a9, ba, ag, Pu.w64, Int.toNat_natCast, decide_eq_true_eq, Int.ofNat_lt, Int.ofNat_le, if_true, if_false, Int.natCast_nonneg, decide_true, decide_false, Bool.not_true, Bool.not_false, Bool.false_eq_true, Bool.not_eq_true, Bool.true_and, Bool.and_true, Bool.false_and, Bool.and_false, hlt, hl, hx', List.nil_append, ih]
theorem cp.is {k : Nat} {t : Pu.Tab} (hk : 4194304 + 1 ≤ k) (h1 : t.1.length ≤ 1048576) (ht : t.2.length ≤ 1048576) (hr : ∀ x ∈ t.2, x.length ≤ 1048576) : cp k t = some t := by
  obtain ⟨k, rfl⟩ : ∃ k', k = k' + 1 := ⟨k - 1, by omega⟩
  rw [cp.eq]
  have h := cp.loop (k := k) (t := t) (x3 := []) (x4 := t.1) (x5 := []) ht hr t.2.length k 0 (by omega) (by omega)
  rw [Int.natCast_zero, List.take_zero] at h
  have hl : t.1.length ≤ 1099511627776 := by omega
  simp only [↓au, bu, bw, aP, a8, a7, aK, aL, aM, bp, aS, aY, az, aB, aZ, ao, aN, aT, bD, bG, a9, ba, ag, Pu.w64, Int.toNat_natCast, decide_eq_true_eq, Int.ofNat_lt, Int.ofNat_le, if_true, if_false, Int.natCast_nonneg, decide_true, decide_false, Bool.not_true, Bool.not_false, Bool.false_eq_true, Bool.not_eq_true, Bool.true_and, Bool.and_true, Bool.false_and, Bool.and_false, List.nil_append, hl, h]
theorem al.uy {k k1 : Nat} {y : Int} {r : Nat} {rs d2 : List (List Int)} {inn d1 : List Int} (hr : r < rs.length) (hs : Pu.cP 1000 1000 rs) : ∀ (m j q : Nat), m ≤ (rs.getD r []).length → m < j → Pu.dA (rs.getD r []) y m = some q →
    al.L5 k k1 j y r ((m : Int) - 1) d1 d2 inn rs = al.L3 k k1 ((rs.getD r []).getD q 0) ((r : Int) - 1) d1 d2 inn (rs.set r ((rs.getD r []).set q y))
  | m, 0, _, _, hj, _ => by omega
  | 0, j + 1, q, _, _, hq => by simp [Pu.dA] at hq
  | m + 1, j + 1, q, hm, hj, hq => by
    rw [al.vC]
    have hl := hs.1
    have hx := hs.at r
    have e : ((m + 1 : Nat) : Int) - 1 = (m : Int) := by omega
    have h1 : m < (rs.getD r []).length := by omega
    rw [e]
    unfold Pu.dA at hq
    by_cases c : (rs.getD r []).getD m 0 < y
    · rw [if_pos c] at hq
      injection hq with hq
      subst hq
      have c' : ¬ y ≤ (rs.getD r []).getD m 0 := by omega
      simp (disch := omega) only [↓au, bu, bw, aP, a8, a7, aK, aL, aM, bp, aS, aY, az, aB, aZ, ao, aN, aT, bD, bG, a9, ba, ag, Pu.w64, Int.toNat_natCast, decide_eq_true_eq, Int.ofNat_lt, Int.ofNat_le, if_true, if_false, Int.natCast_nonneg, decide_true, decide_false, Bool.not_true, Bool.not_false, Bool.false_eq_true, Bool.not_eq_true, Bool.true_and, Bool.and_true, Bool.false_and, Bool.and_false, hr, h1, c']
    · rw [if_neg c] at hq
      have c' : y ≤ (rs.getD r []).getD m 0 := by omega
      have ih := al.uy (k := k) (k1 := k1) (y := y) (inn := inn) (d1 := d1) (d2 := d2) hr hs m j q (by omega) (by omega) hq
      simp (disch := omega) only [↓au, bu, bw, aP, a8, a7, aK, aL, aM, bp, aS, aY, az, aB, aZ, ao, aN, aT, bD, bG, a9, ba, ag, Pu.w64, Int.toNat_natCast, decide_eq_true_eq, Int.ofNat_lt, Int.ofNat_le, if_true, if_false, Int.natCast_nonneg, decide_true, decide_false, Bool.not_true, Bool.not_false, Bool.false_eq_true, Bool.not_eq_true, Bool.true_and, Bool.and_true, Bool.false_and, Bool.and_false, hr, h1, c', ih]
theorem al.rP {k : Nat} {inn d1 : List Int} {d2 : List (List Int)} (hk : 2000 ≤ k) : ∀ (r j : Nat) (y : Int) (rs : List (List Int)), r ≤ rs.length → Pu.cP 1000 1000 rs → r < j → Pu.wz r rs y →
    al.L3 k j y ((r : Int) - 1) d1 d2 inn rs = some ((inn, (Pu.dZ r rs y).1), (Pu.dZ r rs y).2)
  | r, 0, _, _, _, _, hj, _ => by omega
  | 0, j + 1, y, rs, _, _, _, _ => by
    rw [al.l0]
    have hn : ¬ ((0 : Int) ≤ ((0 : Nat) : Int) - 1) := by omega
    simp only [↓au, bu, bw, aP, a8, a7, aK, aL, aM, bp, aS, aY, az, aB, aZ, ao, aN, aT, bD, bG, a9, ba, ag, Pu.w64, Int.toNat_natCast, decide_eq_true_eq, Int.ofNat_lt, Int.ofNat_le, if_true, if_false, Int.natCast_nonneg, decide_true, decide_false, Bool.not_true, Bool.not_false, Bool.false_eq_true, Bool.not_eq_true, Bool.true_and, Bool.and_true, Bool.false_and, Bool.and_false, hn, Pu.dZ]
  | r + 1, j + 1, y, rs, hr, hs, hj, hg => by
    rw [al.l0]
    have e : ((r + 1 : Nat) : Int) - 1 = (r : Int) := by omega
    have hlt : r < rs.length := by omega
    have hx := hs.at r
    have hl := hs.1
    obtain ⟨q, hq, hg⟩ := hg
    have h5 := al.uy (k := k) (k1 := j) (y := y) (inn := inn) (d1 := d1) (d2 := d2) hlt hs (rs.getD r []).length k q (by omega) (by omega) hq
    rw [e]
    unfold Pu.dZ
    rw [hq]
    simp (disch := omega) only [↓au, bu, bw, aP, a8, a7, aK, aL, aM, bp, aS, aY, az, aB, aZ, ao, aN, aT, bD, bG, a9, ba, ag, Pu.w64, Int.toNat_natCast, decide_eq_true_eq, Int.ofNat_lt, Int.ofNat_le, if_true, if_false, Int.natCast_nonneg, decide_true, decide_false, Bool.not_true, Bool.not_false, Bool.false_eq_true, Bool.not_eq_true, Bool.true_and, Bool.and_true, Bool.false_and, Bool.and_false, hlt, h5]
    exact al.rP hk r j _ _ (by rw [List.length_set]; omega) (hs.set r (by rw [List.length_set]; exact hx)) (by omega) hg
theorem al.uq {k k1 : Nat} {y : Int} {r : Nat} {n : Nat} {rs d2 : List (List Int)} {inn d1 : List Int} (hr : r < rs.length) (hn : r < n) (hs : Pu.cP 1000 1000 rs) : ∀ (m j q : Nat), m ≤ (rs.getD r []).length → m < j → Pu.dA (rs.getD r []) y m = some q →
    al.L4 k k1 j y r ((m : Int) - 1) 0 n d1 d2 inn rs = al.L2 k k1 ((rs.getD r []).getD q 0) ((r : Int) - 1) 0 n d1 d2 inn (rs.set r ((rs.getD r []).set q y))
  | m, 0, _, _, hj, _ => by omega
  | 0, j + 1, q, _, _, hq => by simp [Pu.dA] at hq
  | m + 1, j + 1, q, hm, hj, hq => by
    rw [al.pI]
    have hl := hs.1
    have hx := hs.at r
    have e : ((m + 1 : Nat) : Int) - 1 = (m : Int) := by omega
    have h1 : m < (rs.getD r []).length := by omega
    rw [e]
    unfold Pu.dA at hq
    by_cases c : (rs.getD r []).getD m 0 < y
    · rw [if_pos c] at hq
      injection hq with hq
      subst hq
      have c' : ¬ y ≤ (rs.getD r []).getD m 0 := by omega
      simp (disch := omega) only [↓au, bu, bw, aP, a8, a7, aK, aL, aM, bp, aS, aY, az, aB, aZ, ao, aN, aT, bD, bG, a9, ba, ag, Pu.w64, Int.toNat_natCast, decide_eq_true_eq, Int.ofNat_lt, Int.ofNat_le, if_true, if_false, Int.natCast_nonneg, decide_true, decide_false, Bool.not_true, Bool.not_false, Bool.false_eq_true, Bool.not_eq_true, Bool.true_and, Bool.and_true, Bool.false_and, Bool.and_false, lD, Nat.zero_add, hr, hn, h1, c']
    · rw [if_neg c] at hq
      have c' : y ≤ (rs.getD r []).getD m 0 := by omega
      have ih := al.uq (k := k) (k1 := k1) (y := y) (inn := inn) (d1 := d1) (d2 := d2) hr hn hs m j q (by omega) (by omega) hq
      simp (disch := omega) only [↓au, bu, bw, aP, a8, a7, aK, aL, aM, bp, aS, aY, az, aB, aZ, ao, aN, aT, bD, bG, a9, ba, ag, Pu.w64, Int.toNat_natCast, decide_eq_true_eq, Int.ofNat_lt, Int.ofNat_le, if_true, if_false, Int.natCast_nonneg, decide_true, decide_false, Bool.not_true, Bool.not_false, Bool.false_eq_true, Bool.not_eq_true, Bool.true_and, Bool.and_true, Bool.false_and, Bool.and_false, lD, Nat.zero_add, hr, hn, h1, c', ih]
theorem al.rF {k : Nat} {n : Nat} {inn d1 : List Int} {d2 : List (List Int)} (hk : 2000 ≤ k) : ∀ (r j : Nat) (y : Int) (rs : List (List Int)), r ≤ rs.length → r ≤ n → Pu.cP 1000 1000 rs → r < j → Pu.wz r rs y →
    al.L2 k j y ((r : Int) - 1) 0 n d1 d2 inn rs = some ((inn, (Pu.dZ r rs y).1.take n), (Pu.dZ r rs y).2)
  | r, 0, _, _, _, _, _, hj, _ => by omega
  | 0, j + 1, y, rs, _, _, _, _, _ => by
    rw [al.mS]
    have hn : ¬ ((0 : Int) ≤ ((0 : Nat) : Int) - 1) := by omega
    simp only [↓au, bu, bw, aP, a8, a7, aK, aL, aM, bp, aS, aY, az, aB, aZ, ao, aN, aT, bD, bG, a9, ba, ag, Pu.w64, Int.toNat_natCast, decide_eq_true_eq, Int.ofNat_lt, Int.ofNat_le, if_true, if_false, Int.natCast_nonneg, decide_true, decide_false, Bool.not_true, Bool.not_false, Bool.false_eq_true, Bool.not_eq_true, Bool.true_and, Bool.and_true, Bool.false_and, Bool.and_false, hn, Pu.dZ, List.drop_zero]
  | r + 1, j + 1, y, rs, hr, hrn, hs, hj, hg => by
    rw [al.mS]
    have e : ((r + 1 : Nat) : Int) - 1 = (r : Int) := by omega
    have hlt : r < rs.length := by omega
    have hn : r < n := by omega
    have hx := hs.at r
    have hl := hs.1
    obtain ⟨q, hq, hg⟩ := hg
    have h5 := al.uq (k := k) (k1 := j) (y := y) (inn := inn) (d1 := d1) (d2 := d2) (n := n) hlt hn hs (rs.getD r []).length k q (by omega) (by omega) hq
    rw [e]
    unfold Pu.dZ
    rw [hq]
    simp (disch := omega) only [↓au, bu, bw, aP, a8, a7, aK, aL, aM, bp, aS, aY, az, aB, aZ, ao, aN, aT, bD, bG, a9, ba, ag, Pu.w64, Int.toNat_natCast, decide_eq_true_eq, Int.ofNat_lt, Int.ofNat_le, if_true, if_false, Int.natCast_nonneg, decide_true, decide_false, Bool.not_true, Bool.not_false, Bool.false_eq_true, Bool.not_eq_true, Bool.true_and, Bool.and_true, Bool.false_and, Bool.and_false, lD, Nat.zero_add, hlt, hn, h5]
    exact al.rF hk r j _ _ (by rw [List.length_set]; omega) (by omega) (hs.set r (by rw [List.length_set]; exact hx)) (by omega) hg
theorem al.is {k : Nat} {t : Pu.Tab} {n : Nat} (hk : 4194304 + 3 ≤ k) (h1 : t.1.length ≤ 1048576) (hs : Pu.cP 9 9 t.2) (hn : n < t.2.length) (hl : 1 ≤ (t.2.getD n []).length)
    (hg : Pu.wz n (t.2.set n ((t.2.getD n []).take ((t.2.getD n []).length - 1))) ((t.2.getD n []).getD ((t.2.getD n []).length - 1) 0)) :
    al k t n = some ((t.1, (Pu.bZ t.2 n).1), (Pu.bZ t.2 n).2) := by
  obtain ⟨k, rfl⟩ : ∃ k', k = k' + 1 := ⟨k - 1, by omega⟩
  have h9 := hs.1
  have hx := hs.at n
  have hcp := cp.is (k := k) (t := t) (by omega) h1 (by omega) (fun r hr => by have := hs.2 r hr; omega)
  rw [al.eq, show ((t.1, t.2) : Pu.Tab) = t from rfl, hcp, ag]
  obtain ⟨inn, rs⟩ := t
  dsimp only at *
  have hs' : Pu.cP 1000 1000 (rs.set n ((rs.getD n []).take ((rs.getD n []).length - 1))) := (hs.mono (by omega) (by omega)).set n (by rw [List.length_take]; omega)
  have ew : IntKind.i64.wrap (((rs.getD n []).length : Int) - 1) = (((rs.getD n []).length - 1 : Nat) : Int) := by rw [Pu.w64 (by omega) (by omega)]; omega
  have h3 := fun d1 d2 => al.rP (k := k) (inn := inn) (d1 := d1) (d2 := d2) (by omega) n k ((rs.getD n []).getD ((rs.getD n []).length - 1) 0) _ (by rw [List.length_set]; omega) hs' (by omega) hg
  have h2 := fun d1 d2 => al.rF (k := k) (n := n) (inn := inn) (d1 := d1) (d2 := d2) (by omega) n k ((rs.getD n []).getD ((rs.getD n []).length - 1) 0) _ (by rw [List.length_set]; omega) (by omega) hs' (by omega) hg
  have q1 : (rs.getD n []).length - 1 < (rs.getD n []).length := by omega
  have q2 : (rs.getD n []).length - 1 ≤ (rs.getD n []).length := by omega
  have q3 : n ≤ (rs.set n ((rs.getD n []).take ((rs.getD n []).length - 1))).length := by rw [List.length_set]; omega
  unfold Pu.bZ
  by_cases c : (rs.getD n []).length = 1
  · have c' : (((rs.getD n []).length - 1 : Nat) : Int) = 0 := by omega
    rw [if_pos c]
    simp (disch := omega) only [↓au, bu, bw, aP, a8, a7, aK, aL, aM, bp, aS, aY, az, aB, aZ, ao, aN, aT, bD, bG, a9, ba, ag, Pu.w64, Int.toNat_natCast, decide_eq_true_eq, Int.ofNat_lt, Int.ofNat_le, if_true, if_false, Int.natCast_nonneg, decide_true, decide_false, Bool.not_true, Bool.not_false, Bool.false_eq_true, Bool.not_eq_true, Bool.true_and, Bool.and_true, Bool.false_and, Bool.and_false, mq, Nat.sub_zero, List.drop_zero, hn, ew, q1, q2, q3, al.fT, h2]
    simp only [c', decide_true, if_true]
  · have c' : ¬ (((rs.getD n []).length - 1 : Nat) : Int) = 0 := by omega
    simp (disch := omega) only [↓au, bu, bw, aP, a8, a7, aK, aL, aM, bp, aS, aY, az, aB, aZ, ao, aN, aT, bD, bG, a9, ba, ag, Pu.w64, Int.toNat_natCast, decide_eq_true_eq, Int.ofNat_lt, Int.ofNat_le, if_true, if_false, Int.natCast_nonneg, decide_true, decide_false, Bool.not_true, Bool.not_false, Bool.false_eq_true, Bool.not_eq_true, Bool.true_and, Bool.and_true, Bool.false_and, Bool.and_false, mq, Nat.sub_zero, List.drop_zero, hn, ew, q1, q2, q3, c, c', al.gq, h3]
theorem aH.yP {k : Nat} {q : Pu.Tab} {inn : List Int} {m : Nat} {P Q : List (List Int)} (hk : 4194304 + 40 ≤ k) (hq : Pu.bL q = true) (hs : Pu.eH q = true) (hin : inn.length ≤ 1048576) (h : Pu.Unr q (m + 1) P Q) :
    ∃ a : Nat, Pu.rowOf q ((m + 1 : Nat) : Int) = a ∧ aU k q ((m + 1 : Nat) : Int) = some (a : Int) ∧ al k (inn, P) a = some ((inn, (Pu.bZ P a).1), (Pu.bZ P a).2) ∧ Pu.Unr q m (Pu.bZ P a).1 (Pu.cr Q a) := by
  obtain ⟨a, a1, a2, a3, _, _, a6⟩ := h.step
  have hz := Pu.gV hq
  have hz1 := hz.1
  have hro := aU.is (k := k) (t := q) (n := ((m + 1 : Nat) : Int)) (by omega) (by rw [Pu.dJ hq]; simp) (by omega) (fun r hr => by have := hz.2 r hr; omega)
  rw [if_pos hs, a1] at hro
  have hP1 : a < P.length := by rw [h.same.1]; exact a2
  have hP2 : 1 ≤ (P.getD a []).length := by rw [h.same.2]; exact a3
  exact ⟨a, a1, hro, al.is (by omega) hin h.p9 hP1 hP2 (Pu.xw h.col hP1 hP2), a6⟩
theorem aH.yq {k : Nat} {q : Pu.Tab} {x1 : List Int} {inn : List Int} (hk : 4194304 + 40 ≤ k) (hq : Pu.bL q = true) (hs : Pu.eH q = true) (hin : inn.length ≤ 1048576) : ∀ (m j : Nat) (out : List Int) (P Q : List (List Int)), Pu.Unr q m P Q → m < j → m ≤ out.length → m ≤ 9 →
    aH.L2 k j m out q.1 q.2 inn P = some (Pu.wop q m P ++ out.drop m, true)
  | m, 0, out, P, Q, _, hj, _, _ => by omega
  | 0, j + 1, out, P, Q, _, _, _, _ => by
    rw [aH.mS]
    have hn : ¬ (1 : Int) ≤ ((0 : Nat) : Int) := by omega
    exact Pu.tX hn rfl
  | m + 1, j + 1, out, P, Q, h, hj, ho, h9 => by
    obtain ⟨a, a1, a2, a3, a4⟩ := aH.yP (inn := inn) hk hq hs hin h
    have ih := aH.yq (x1 := x1) hk hq hs hin m j (out.set m (Pu.bZ P a).2) (Pu.bZ P a).1 (Pu.cr Q a) a4 (by omega) (by rw [List.length_set]; omega) (by omega)
    rw [aH.mS, show ((q.1, q.2) : Pu.Tab) = q from rfl]
    have hn : (1 : Int) ≤ ((m + 1 : Nat) : Int) := by omega
    have hw : IntKind.i64.wrap (((m + 1 : Nat) : Int) - 1) = (m : Int) := by rw [Pu.w64 (by omega) (by omega)]; omega
    have hlt : m < out.length := by omega
    refine Pu.tG hn (Pu.bE a2 (Pu.bE a3 ?_))
    simp only [aM, aK, aT, ao, aS, hw, Int.toNat_natCast]
    refine Pu.tG (Int.natCast_nonneg m) (Pu.tG hlt (Pu.tG hlt ?_))
    rw [ih, show Pu.wop q (m + 1) P = Pu.wop q m (Pu.bZ P (Pu.rowOf q ((m + 1 : Nat) : Int)).toNat).1 ++ [(Pu.bZ P (Pu.rowOf q ((m + 1 : Nat) : Int)).toNat).2] from rfl]
    rw [a1, Int.toNat_natCast, Pu.drop_cons (show m < (out.set m (Pu.bZ P a).2).length by rw [List.length_set]; exact hlt) 0, Pu.aW (by rw [List.length_set]; exact hlt), List.getElem_set_self, List.drop_set_of_lt (by omega), List.append_assoc, List.singleton_append]
theorem aH.yR {k : Nat} {q : Pu.Tab} {inn : List Int} (hk : 4194304 + 40 ≤ k) (hq : Pu.bL q = true) (hs : Pu.eH q = true) (hin : inn.length ≤ 1048576) {m j : Nat} {out : List Int} {P Q : List (List Int)} (h : Pu.Unr q m P Q) (hj : m < j) (ho : m ≤ out.length) (h9 : m ≤ 9) :
    aH.L1 k j m out q.1 q.2 inn P = some (Pu.wop q m P ++ out.drop m, true) := by
  obtain ⟨j, rfl⟩ : ∃ j', j = j' + 1 := ⟨j - 1, by omega⟩
  cases m with
  | zero =>
    rw [aH.ef]
    have hn : ¬ (1 : Int) ≤ ((0 : Nat) : Int) := by omega
    exact Pu.tX hn rfl
  | succ m =>
    have h2 := aH.yq (x1 := []) hk hq hs hin (m + 1) (j + 1) out P Q h hj ho h9
    rw [aH.mS] at h2
    rw [aH.ef]
    exact h2
theorem aH.is {k : Nat} {p q : Pu.Tab} (hk : 4194304 + 50 ≤ k) (hp : Pu.kG p) (hq : Pu.kG q) : aH k p q = some (Pu.fY p q) := by
  obtain ⟨k, rfl⟩ : ∃ k', k = k' + 1 := ⟨k - 1, by omega⟩
  have e1 : ((p.1, p.2) : Pu.Tab) = p := rfl
  have e2 : ((q.1, q.2) : Pu.Tab) = q := rfl
  have hs1 := bC.is (k := k) (t := p) (by omega) hp.1 hp.2.1 hp.2.2
  have hs2 := bC.is (k := k) (t := q) (by omega) hq.1 hq.2.1 hq.2.2
  have hl1 := dE.is (k := k) (t := p) (by omega) hp.1 hp.2.1 hp.2.2
  have hl2 := dE.is (k := k) (t := q) (by omega) hq.1 hq.2.1 hq.2.2
  have hst := bg.is (k := k) (t := q) (by omega) hq.1 hq.2.1 hq.2.2
  have shp : ∀ t : Pu.Tab, Pu.bL t = true → Pu.shapeOf t = ((Pu.outer t, []), true) := fun t h => by
    have h' := h
    simp only [Pu.bL, Bool.and_eq_true] at h'
    unfold Pu.shapeOf
    rw [if_pos (Pu.jU h'.1), Pu.dJ h]
  have shn : ∀ t : Pu.Tab, (Pu.shapeOf t).2 = false → ¬ Pu.bL t = true := fun t h h' => by rw [shp t h'] at h; cases h
  rw [aH.eq, e1, e2]
  refine Pu.bE hs1 (Pu.bE hs2 ?_)
  unfold Pu.fY
  cases c1 : (Pu.shapeOf p).2 with
  | false => rw [if_neg (fun h => shn p c1 h.1)]; exact Pu.tM rfl
  | true =>
    refine Pu.tN ?_
    cases c2 : (Pu.shapeOf q).2 with
    | false => rw [if_neg (fun h => shn q c2 h.2.1)]; exact Pu.tM rfl
    | true =>
      refine Pu.tN (Pu.bE hl1 ?_)
      cases c3 : Pu.bL p with
      | false => rw [if_neg (fun h => by cases h.1)]; exact Pu.tM rfl
      | true =>
        refine Pu.tN (Pu.bE hl2 ?_)
        cases c4 : Pu.bL q with
        | false => rw [if_neg (fun h => by cases h.2.1)]; exact Pu.tM rfl
        | true =>
          refine Pu.tN (Pu.bE hst ?_)
          cases c5 : Pu.eH q with
          | false => rw [if_neg (fun h => by cases h.2.2.1)]; exact Pu.tM rfl
          | true =>
            rw [shp p c3, shp q c4]
            have hpr := Pu.gV c3
            have hpr1 := hpr.1
            have hes := dx.is (k := k) (a := (Pu.outer p, [])) (b := (Pu.outer q, [])) (by omega) (by simp only [Pu.dk]; omega) (by simp)
            refine Pu.tN (Pu.bE hes ?_)
            by_cases c6 : Pu.outer p = Pu.outer q
            · rw [if_pos ⟨rfl, rfl, rfl, c6⟩, decide_eq_true (by rw [c6])]
              refine Pu.tN ?_
              have hpo := Pu.fW c3
              have h9 := Pu.jv c4
              have hsum : Pu.eY (Pu.outer p) = (q.2.flatten.length : Int) := by rw [c6, Pu.nS c4]
              have hsz := cn.is (k := k) (w := Pu.outer p) (by omega) (by rw [Pu.dk]; omega) (fun x hx => by have := (Pu.cw hpo).1 x hx; omega)
              rw [hsum] at hsz
              have hl := aH.yR (k := k) (q := q) (inn := p.1) (by omega) c4 c5 hp.1 (m := q.2.flatten.length) (j := k) (out := List.replicate q.2.flatten.length 0) (Pu.q8 c3 c4 c5 c6) (by omega) (by simp) h9
              rw [aH.fT]
              refine Pu.bE hsz ?_
              have hmx : q.2.flatten.length ≤ 1099511627776 := by omega
              simp only [aM, aZ, Int.toNat_natCast]
              refine Pu.tG (Int.natCast_nonneg _) (Pu.tG (Int.le_refl _) (Pu.tG hmx ?_))
              rw [hl, List.drop_of_length_le (by simp), List.append_nil]
            · rw [if_neg (fun h => c6 h.2.2.2), decide_eq_false (fun h => c6 (congrArg Prod.fst h))]
              exact Pu.tM rfl
theorem cZ.is {k : Nat} {x lo hi : Int} (hk : 1 ≤ k) : cZ k x lo hi = some (Pu.within x lo hi) := by
  obtain ⟨k, rfl⟩ : ∃ k', k = k' + 1 := ⟨k - 1, by omega⟩
  rw [cZ.eq]
  by_cases h : lo ≤ x <;> simp [Pu.within, h]
theorem aQ.loop {k : Nat} {p : List Int} (hk : 4194304 ≤ k) (hp : p.length ≤ 1048576) : ∀ (m j i : Nat) (s v : Int), i + m = p.length → m < j → (i = 0 → v = 9) → (0 < i → v = p.getD (i - 1) 0) → v ≤ 9 → 0 ≤ s → s ≤ 9 →
    aQ.L0 k j s p.length i p = some (Pu.eP (p.drop i) v s)
  | m, 0, i, s, v, _, hj, _, _, _, _, _ => by omega
  | 0, j + 1, i, s, v, hi, _, _, _, _, _, _ => by
    rw [aQ.bO]
    have e : i = p.length := by omega
    subst e
    simp [Pu.eP]
  | m + 1, j + 1, i, s, v, hi, hj, h0, h1, hv, hs, hs9 => by
    rw [aQ.bO]
    have hlt : i < p.length := by omega
    have hj1 : ∀ x : Int, x = p.getD i 0 → 1 ≤ x → x ≤ v → aQ.J1 k j s x p.length i p = some (decide (s + x ≤ 9) && Pu.eP (p.drop (i + 1)) x (s + x)) := by
      intro x hx hx1 hx2
      rw [aQ.gq]
      simp (disch := omega) only [↓au, bu, bw, aP, a8, a7, aK, aL, aM, bp, aS, aY, az, aB, aZ, ao, aN, aT, bD, bG, a9, ba, ag, Pu.w64, Int.toNat_natCast, decide_eq_true_eq, Int.ofNat_lt, Int.ofNat_le, if_true, if_false, Int.natCast_nonneg, decide_true, decide_false, Bool.not_true, Bool.not_false, Bool.false_eq_true, Bool.not_eq_true, Bool.true_and, Bool.and_true, Bool.false_and, Bool.and_false]
      by_cases c : 9 < s + x
      · have : ¬ s + x ≤ 9 := by omega
        simp [c, this]
      · have c' : s + x ≤ 9 := by omega
        have ih := aQ.loop hk hp m j (i + 1) (s + x) x (by omega) (by omega) (by omega) (by simp [hx]) (by omega) (by omega) c'
        rw [Int.natCast_succ] at ih
        simp [c, c', ih]
    rw [Pu.drop_cons hlt 0]
    simp (disch := omega) only [↓au, bu, bw, aP, a8, a7, aK, aL, aM, bp, aS, aY, az, aB, aZ, ao, aN, aT, bD, bG, a9, ba, ag, Pu.w64, Int.toNat_natCast, decide_eq_true_eq, Int.ofNat_lt, Int.ofNat_le, if_true, if_false, Int.natCast_nonneg, decide_true, decide_false, Bool.not_true, Bool.not_false, Bool.false_eq_true, Bool.not_eq_true, Bool.true_and, Bool.and_true, Bool.false_and, Bool.and_false, hlt, cZ.is, Pu.eP]
    generalize hx : p.getD i 0 = x at *
    unfold Pu.within
    by_cases c1 : 1 ≤ x
    · by_cases c2 : x ≤ v
      · have c3 : x ≤ 9 := by omega
        have hj := hj1 x rfl c1 c2
        by_cases hi0 : i = 0
        · have hpos : ¬ (0 : Int) < i := by omega
          simp (disch := omega) only [↓au, bu, bw, aP, a8, a7, aK, aL, aM, bp, aS, aY, az, aB, aZ, ao, aN, aT, bD, bG, a9, ba, ag, Pu.w64, Int.toNat_natCast, decide_eq_true_eq, Int.ofNat_lt, Int.ofNat_le, if_true, if_false, Int.natCast_nonneg, decide_true, decide_false, Bool.not_true, Bool.not_false, Bool.false_eq_true, Bool.not_eq_true, Bool.true_and, Bool.and_true, Bool.false_and, Bool.and_false, c1, c2, c3, hpos, hj]
        · have hv' := h1 (by omega)
          have e : ((i : Int) - 1) = ((i - 1 : Nat) : Int) := by omega
          have hlt' : i - 1 < p.length := by omega
          have hge : ¬ p.getD (i - 1) 0 < x := by rw [← hv']; omega
          have hpos : (0 : Int) < i := by omega
          simp (disch := omega) only [e, ↓au, bu, bw, aP, a8, a7, aK, aL, aM, bp, aS, aY, az, aB, aZ, ao, aN, aT, bD, bG, a9, ba, ag, Pu.w64, Int.toNat_natCast, decide_eq_true_eq, Int.ofNat_lt, Int.ofNat_le, if_true, if_false, Int.natCast_nonneg, decide_true, decide_false, Bool.not_true, Bool.not_false, Bool.false_eq_true, Bool.not_eq_true, Bool.true_and, Bool.and_true, Bool.false_and, Bool.and_false, hlt', c1, c2, c3, hj, hpos, hge]
      · simp only [c1, c2, ↓au, bu, bw, aP, a8, a7, aK, aL, aM, bp, aS, aY, az, aB, aZ, ao, aN, aT, bD, bG, a9, ba, ag, Pu.w64, Int.toNat_natCast, decide_eq_true_eq, Int.ofNat_lt, Int.ofNat_le, if_true, if_false, Int.natCast_nonneg, decide_true, decide_false, Bool.not_true, Bool.not_false, Bool.false_eq_true, Bool.not_eq_true, Bool.true_and, Bool.and_true, Bool.false_and, Bool.and_false]
        by_cases c3 : x ≤ 9
        · have hi0 : 0 < i := by
            rcases Nat.eq_zero_or_pos i with h | h
            · have := h0 h; omega
            · exact h
          have hv' := h1 hi0
          have e : ((i : Int) - 1) = ((i - 1 : Nat) : Int) := by omega
          have hlt' : i - 1 < p.length := by omega
          have hge : p.getD (i - 1) 0 < x := by rw [← hv']; omega
          have hpos : (0 : Int) < i := by omega
          simp (disch := omega) only [e, ↓au, bu, bw, aP, a8, a7, aK, aL, aM, bp, aS, aY, az, aB, aZ, ao, aN, aT, bD, bG, a9, ba, ag, Pu.w64, Int.toNat_natCast, decide_eq_true_eq, Int.ofNat_lt, Int.ofNat_le, if_true, if_false, Int.natCast_nonneg, decide_true, decide_false, Bool.not_true, Bool.not_false, Bool.false_eq_true, Bool.not_eq_true, Bool.true_and, Bool.and_true, Bool.false_and, Bool.and_false, hlt', c3, hpos, hge]
        · simp only [c3, ↓au, bu, bw, aP, a8, a7, aK, aL, aM, bp, aS, aY, az, aB, aZ, ao, aN, aT, bD, bG, a9, ba, ag, Pu.w64, Int.toNat_natCast, decide_eq_true_eq, Int.ofNat_lt, Int.ofNat_le, if_true, if_false, Int.natCast_nonneg, decide_true, decide_false, Bool.not_true, Bool.not_false, Bool.false_eq_true, Bool.not_eq_true, Bool.true_and, Bool.and_true, Bool.false_and, Bool.and_false]
    · simp only [c1, ↓au, bu, bw, aP, a8, a7, aK, aL, aM, bp, aS, aY, az, aB, aZ, ao, aN, aT, bD, bG, a9, ba, ag, Pu.w64, Int.toNat_natCast, decide_eq_true_eq, Int.ofNat_lt, Int.ofNat_le, if_true, if_false, Int.natCast_nonneg, decide_true, decide_false, Bool.not_true, Bool.not_false, Bool.false_eq_true, Bool.not_eq_true, Bool.true_and, Bool.and_true, Bool.false_and, Bool.and_false]
theorem aQ.is {k : Nat} {p : List Int} (hk : 4194304 + 1 ≤ k) (hp : p.length ≤ 1048576) : aQ k p = some (Pu.cm p) := by
  obtain ⟨k, rfl⟩ : ∃ k', k = k' + 1 := ⟨k - 1, by omega⟩
  rw [aQ.eq]
  exact aQ.loop (k := k) (by omega) hp p.length k 0 0 9 (by omega) (by omega) (fun _ => rfl) (by omega) (by omega) (by omega) (by omega)
theorem bP.is {k : Nat} {a : List Int} (hk : 1 ≤ k) (ha : a.length ≤ 1099511627776) : bP k a = some a := by
  obtain ⟨k, rfl⟩ : ∃ k', k = k' + 1 := ⟨k - 1, by omega⟩
  rw [bP.eq]
  by_cases h : a.length = 0
  · have : a = [] := List.eq_nil_of_length_eq_zero h
    subst this
    simp [yH, wN]
  · simp [h, ha]
theorem eO.is {k : Nat} {p : List Int} {i : Int} (hk : 2 ≤ k) (hp : p.length ≤ 1048576) : eO k p i = some (Pu.atI p i) := by
  obtain ⟨k, rfl⟩ : ∃ k', k = k' + 1 := ⟨k - 1, by omega⟩
  rw [eO.eq, cZ.is (by omega)]
  unfold Pu.within
  by_cases h1 : 0 ≤ i
  · have h0 : ¬ i < 0 := by omega
    by_cases h2 : i ≤ (p.length : Int) - 1
    · have h4 : i.toNat < p.length := by omega
      simp (disch := omega) only [↓au, bu, bw, aP, a8, a7, aK, aL, aM, bp, aS, aY, az, aB, aZ, ao, aN, aT, bD, bG, a9, ba, ag, Pu.w64, Int.toNat_natCast, decide_eq_true_eq, Int.ofNat_lt, Int.ofNat_le, if_true, if_false, Int.natCast_nonneg, decide_true, decide_false, Bool.not_true, Bool.not_false, Bool.false_eq_true, Bool.not_eq_true, Bool.true_and, Bool.and_true, Bool.false_and, Bool.and_false, h0, h1, h2, h4, Pu.atI]
    · simp (disch := omega) only [↓au, bu, bw, aP, a8, a7, aK, aL, aM, bp, aS, aY, az, aB, aZ, ao, aN, aT, bD, bG, a9, ba, ag, Pu.w64, Int.toNat_natCast, decide_eq_true_eq, Int.ofNat_lt, Int.ofNat_le, if_true, if_false, Int.natCast_nonneg, decide_true, decide_false, Bool.not_true, Bool.not_false, Bool.false_eq_true, Bool.not_eq_true, Bool.true_and, Bool.and_true, Bool.false_and, Bool.and_false, h1, h2, Pu.uU (p := p) (i := i) (by omega)]
  · simp (disch := omega) only [↓au, bu, bw, aP, a8, a7, aK, aL, aM, bp, aS, aY, az, aB, aZ, ao, aN, aT, bD, bG, a9, ba, ag, Pu.w64, Int.toNat_natCast, decide_eq_true_eq, Int.ofNat_lt, Int.ofNat_le, if_true, if_false, Int.natCast_nonneg, decide_true, decide_false, Bool.not_true, Bool.not_false, Bool.false_eq_true, Bool.not_eq_true, Bool.true_and, Bool.and_true, Bool.false_and, Bool.and_false, h1, Pu.o8 (p := p) (i := i) (by omega)]
theorem bK.loop {k : Nat} {q p : List Int} (hq : q.length ≤ 1048576) (hp : p.length ≤ 1048576) (hk : 4194304 + 2 ≤ k) : bK.L1 k k q.length 0 p q = some ((List.range' 0 q.length).all fun i => decide (q.getD i 0 ≤ p.getD i 0)) := by
  have h := Pu.iB (fun j i => bK.L1 k j q.length (i : Int) p q) q.length (fun i => decide (q.getD i 0 ≤ p.getD i 0)) (some false) (some true)
    (fun j i hi => by
      rw [bK.ef, eO.is (by omega) hp, Pu.dO]
      simp (disch := omega) only [↓au, bu, bw, aP, a8, a7, aK, aL, aM, bp, aS, aY, az, aB, aZ, ao, aN, aT, bD, bG, a9, ba, ag, Pu.w64, Int.toNat_natCast, decide_eq_true_eq, Int.ofNat_lt, Int.ofNat_le, if_true, if_false, Int.natCast_nonneg, decide_true, decide_false, Bool.not_true, Bool.not_false, Bool.false_eq_true, Bool.not_eq_true, Bool.true_and, Bool.and_true, Bool.false_and, Bool.and_false, hi, Int.natCast_add, Int.natCast_one]
      by_cases c : q.getD i 0 ≤ p.getD i 0
      · have c' : ¬ p.getD i 0 < q.getD i 0 := by omega
        simp only [c, c', ↓au, bu, bw, aP, a8, a7, aK, aL, aM, bp, aS, aY, az, aB, aZ, ao, aN, aT, bD, bG, a9, ba, ag, Pu.w64, Int.toNat_natCast, decide_eq_true_eq, Int.ofNat_lt, Int.ofNat_le, if_true, if_false, Int.natCast_nonneg, decide_true, decide_false, Bool.not_true, Bool.not_false, Bool.false_eq_true, Bool.not_eq_true, Bool.true_and, Bool.and_true, Bool.false_and, Bool.and_false]
      · have c' : p.getD i 0 < q.getD i 0 := by omega
        simp only [c, c', ↓au, bu, bw, aP, a8, a7, aK, aL, aM, bp, aS, aY, az, aB, aZ, ao, aN, aT, bD, bG, a9, ba, ag, Pu.w64, Int.toNat_natCast, decide_eq_true_eq, Int.ofNat_lt, Int.ofNat_le, if_true, if_false, Int.natCast_nonneg, decide_true, decide_false, Bool.not_true, Bool.not_false, Bool.false_eq_true, Bool.not_eq_true, Bool.true_and, Bool.and_true, Bool.false_and, Bool.and_false])
    (fun j => by
      rw [bK.ef]
      simp only [↓au, bu, bw, aP, a8, a7, aK, aL, aM, bp, aS, aY, az, aB, aZ, ao, aN, aT, bD, bG, a9, ba, ag, Pu.w64, Int.toNat_natCast, decide_eq_true_eq, Int.ofNat_lt, Int.ofNat_le, if_true, if_false, Int.natCast_nonneg, decide_true, decide_false, Bool.not_true, Bool.not_false, Bool.false_eq_true, Bool.not_eq_true, Bool.true_and, Bool.and_true, Bool.false_and, Bool.and_false, Nat.lt_irrefl]) q.length k 0 (by omega) (by omega)
  simp only [Int.natCast_zero] at h
  rw [h]
  cases (List.range' 0 q.length).all fun i => decide (q.getD i 0 ≤ p.getD i 0) <;> simp
theorem bK.is {k : Nat} {q p : List Int} (hk : 4194304 + 3 ≤ k) (hq : q.length ≤ 1048576) (hp : p.length ≤ 1048576) : bK k q p = some (Pu.cY q p) := by
  obtain ⟨k, rfl⟩ : ∃ k', k = k' + 1 := ⟨k - 1, by omega⟩
  rw [bK.eq, aQ.is (by omega) hq, ag, bK.fT, Pu.sN]
  cases c1 : Pu.cm q with
  | false => simp only [↓au, bu, bw, aP, a8, a7, aK, aL, aM, bp, aS, aY, az, aB, aZ, ao, aN, aT, bD, bG, a9, ba, ag, Pu.w64, Int.toNat_natCast, decide_eq_true_eq, Int.ofNat_lt, Int.ofNat_le, if_true, if_false, Int.natCast_nonneg, decide_true, decide_false, Bool.not_true, Bool.not_false, Bool.false_eq_true, Bool.not_eq_true, Bool.true_and, Bool.and_true, Bool.false_and, Bool.and_false]
  | true =>
    simp only [↓au, bu, bw, aP, a8, a7, aK, aL, aM, bp, aS, aY, az, aB, aZ, ao, aN, aT, bD, bG, a9, ba, ag, Pu.w64, Int.toNat_natCast, decide_eq_true_eq, Int.ofNat_lt, Int.ofNat_le, if_true, if_false, Int.natCast_nonneg, decide_true, decide_false, Bool.not_true, Bool.not_false, Bool.false_eq_true, Bool.not_eq_true, Bool.true_and, Bool.and_true, Bool.false_and, Bool.and_false]
    rw [aQ.is (by omega) hp, ag]
    cases c2 : Pu.cm p with
    | false => simp only [↓au, bu, bw, aP, a8, a7, aK, aL, aM, bp, aS, aY, az, aB, aZ, ao, aN, aT, bD, bG, a9, ba, ag, Pu.w64, Int.toNat_natCast, decide_eq_true_eq, Int.ofNat_lt, Int.ofNat_le, if_true, if_false, Int.natCast_nonneg, decide_true, decide_false, Bool.not_true, Bool.not_false, Bool.false_eq_true, Bool.not_eq_true, Bool.true_and, Bool.and_true, Bool.false_and, Bool.and_false]
    | true =>
      simp only [↓au, bu, bw, aP, a8, a7, aK, aL, aM, bp, aS, aY, az, aB, aZ, ao, aN, aT, bD, bG, a9, ba, ag, Pu.w64, Int.toNat_natCast, decide_eq_true_eq, Int.ofNat_lt, Int.ofNat_le, if_true, if_false, Int.natCast_nonneg, decide_true, decide_false, Bool.not_true, Bool.not_false, Bool.false_eq_true, Bool.not_eq_true, Bool.true_and, Bool.and_true, Bool.false_and, Bool.and_false]
      exact bK.loop hq hp (by omega)
theorem eQ.is {k : Nat} {s : List Int × List Int} (hk : 4194304 + 4 ≤ k) (hq : s.1.length ≤ 1048576) (hp : s.2.length ≤ 1048576) : eQ k s = some (Pu.cY s.2 s.1) := by
  obtain ⟨k, rfl⟩ : ∃ k', k = k' + 1 := ⟨k - 1, by omega⟩
  rw [eQ.eq, bK.is (by omega) hp hq]
  rfl
theorem bz.loop {k : Nat} {t : Pu.Tab} {x3 x4 : List Int} (hk : 4194304 + 4 ≤ k) (hi : Pu.cm t.1 = true) (h2 : t.2.length ≤ 1048576) (hr : ∀ x ∈ t.2, x.length ≤ 1048576) : ∀ (m j i : Nat) (acc : List Int), i + m = t.2.length → m < j → acc.length = i →
    bz.L1 k j t.2.length i t.2 t.1 x3 x4 acc t.1 = some (if Pu.cY t.1 (acc ++ Pu.dv t.1 i (t.2.drop i)) = true then ((acc ++ Pu.dv t.1 i (t.2.drop i), t.1), true) else (([], []), false))
  | m, 0, i, acc, _, hj, _ => by omega
  | 0, j + 1, i, acc, hm, _, hacc => by
    rw [bz.ef]
    have e : i = t.2.length := by omega
    have h9 := (Pu.cw hi).2.2.1
    have hlt : ¬ i < t.2.length := by omega
    rw [eQ.is (by omega) (by simp only; omega) (by simp only; omega), e]
    simp only [↓au, bu, bw, aP, a8, a7, aK, aL, aM, bp, aS, aY, az, aB, aZ, ao, aN, aT, bD, bG, a9, ba, ag, Pu.w64, Int.toNat_natCast, decide_eq_true_eq, Int.ofNat_lt, Int.ofNat_le, if_true, if_false, Int.natCast_nonneg, decide_true, decide_false, Bool.not_true, Bool.not_false, Bool.false_eq_true, Bool.not_eq_true, Bool.true_and, Bool.and_true, Bool.false_and, Bool.and_false, Nat.lt_irrefl, List.drop_length, Pu.dv, List.append_nil]
    cases Pu.cY t.1 acc <;> simp
  | m + 1, j + 1, i, acc, hm, hj, hacc => by
    rw [bz.ef]
    have hlt : i < t.2.length := by omega
    have hb := Pu.fh hi i
    have h9 := (Pu.cw hi).2.2.1
    have hrow := hr t.2[i] (List.getElem_mem hlt)
    rw [← Pu.aW hlt []] at hrow
    rw [eO.is (by omega) (by omega)]
    have ih := bz.loop (x3 := x3) (x4 := x4) hk hi h2 hr m j (i + 1) (acc ++ [Pu.atI t.1 i + (t.2.getD i []).length]) (by omega) (by omega) (by simp [hacc])
    rw [Int.natCast_succ] at ih
    rw [Pu.drop_cons hlt []]
    have hl : (acc ++ [Pu.atI t.1 i + ((t.2.getD i []).length : Int)]).length ≤ 1099511627776 := by simp; omega
    simp (disch := omega) only [↓au, bu, bw, aP, a8, a7, aK, aL, aM, bp, aS, aY, az, aB, aZ, ao, aN, aT, bD, bG, a9, ba, ag, Pu.w64, Int.toNat_natCast, decide_eq_true_eq, Int.ofNat_lt, Int.ofNat_le, if_true, if_false, Int.natCast_nonneg, decide_true, decide_false, Bool.not_true, Bool.not_false, Bool.false_eq_true, Bool.not_eq_true, Bool.true_and, Bool.and_true, Bool.false_and, Bool.and_false, hlt, hl, ih, Pu.dv]
    simp only [List.append_assoc, List.singleton_append, Pu.dO]
    rfl
theorem bz.is {k : Nat} {t : Pu.Tab} (hk : 4194304 + 5 ≤ k) (h1 : t.1.length ≤ 1048576) (h2 : t.2.length ≤ 1048576) (hr : ∀ x ∈ t.2, x.length ≤ 1048576) : bz k t = some (Pu.shapeOf t) := by
  obtain ⟨k, rfl⟩ : ∃ k', k = k' + 1 := ⟨k - 1, by omega⟩
  rw [bz.eq, aQ.is (by omega) h1, bz.fT, bP.is (by omega) (by omega)]
  simp only [↓au, bu, bw, aP, a8, a7, aK, aL, aM, bp, aS, aY, az, aB, aZ, ao, aN, aT, bD, bG, a9, ba, ag, Pu.w64, Int.toNat_natCast, decide_eq_true_eq, Int.ofNat_lt, Int.ofNat_le, if_true, if_false, Int.natCast_nonneg, decide_true, decide_false, Bool.not_true, Bool.not_false, Bool.false_eq_true, Bool.not_eq_true, Bool.true_and, Bool.and_true, Bool.false_and, Bool.and_false]
  unfold Pu.shapeOf
  cases c1 : Pu.cm t.1 with
  | false =>
    have : Pu.cG t = false := by unfold Pu.cG; rw [c1]; rfl
    simp only [this, ↓au, bu, bw, aP, a8, a7, aK, aL, aM, bp, aS, aY, az, aB, aZ, ao, aN, aT, bD, bG, a9, ba, ag, Pu.w64, Int.toNat_natCast, decide_eq_true_eq, Int.ofNat_lt, Int.ofNat_le, if_true, if_false, Int.natCast_nonneg, decide_true, decide_false, Bool.not_true, Bool.not_false, Bool.false_eq_true, Bool.not_eq_true, Bool.true_and, Bool.and_true, Bool.false_and, Bool.and_false]
  | true =>
    by_cases c2 : t.2.length < t.1.length
    · have : Pu.cG t = false := by
        have : ¬ t.1.length ≤ t.2.length := by omega
        unfold Pu.cG; simp [this]
      simp only [this, c2, ↓au, bu, bw, aP, a8, a7, aK, aL, aM, bp, aS, aY, az, aB, aZ, ao, aN, aT, bD, bG, a9, ba, ag, Pu.w64, Int.toNat_natCast, decide_eq_true_eq, Int.ofNat_lt, Int.ofNat_le, if_true, if_false, Int.natCast_nonneg, decide_true, decide_false, Bool.not_true, Bool.not_false, Bool.false_eq_true, Bool.not_eq_true, Bool.true_and, Bool.and_true, Bool.false_and, Bool.and_false]
    · have c2' : t.1.length ≤ t.2.length := by omega
      have hloop := bz.loop (k := k) (t := t) (x3 := []) (x4 := []) (by omega) c1 h2 hr t.2.length k 0 [] (by omega) (by omega) rfl
      rw [Int.natCast_zero] at hloop
      simp only [c2, ↓au, bu, bw, aP, a8, a7, aK, aL, aM, bp, aS, aY, az, aB, aZ, ao, aN, aT, bD, bG, a9, ba, ag, Pu.w64, Int.toNat_natCast, decide_eq_true_eq, Int.ofNat_lt, Int.ofNat_le, if_true, if_false, Int.natCast_nonneg, decide_true, decide_false, Bool.not_true, Bool.not_false, Bool.false_eq_true, Bool.not_eq_true, Bool.true_and, Bool.and_true, Bool.false_and, Bool.and_false]
      rw [hloop]
      have : Pu.cG t = Pu.cY t.1 (Pu.outer t) := by unfold Pu.cG; simp [c1, c2']
      rw [this]
      rfl
theorem cI.is {k : Nat} {t : Pu.Tab} {r c : Int} (hk : 3 ≤ k) (hi : Pu.cm t.1 = true) (ht : t.2.length ≤ 1048576) (hr : ∀ x ∈ t.2, x.length ≤ 1048576) (h1 : -1000000000 ≤ c) (h2 : c ≤ 1000000000) : cI k t r c = some (Pu.entry t r c) := by
  obtain ⟨k, rfl⟩ : ∃ k', k = k' + 1 := ⟨k - 1, by omega⟩
  have hb := Pu.fh hi r
  have h9 := (Pu.cw hi).2.2.1
  rw [cI.eq, cZ.is (by omega)]
  unfold Pu.entry Pu.within
  by_cases c1 : r < 0
  · have c1' : ¬ 0 ≤ r := by omega
    simp (disch := omega) only [↓au, bu, bw, aP, a8, a7, aK, aL, aM, bp, aS, aY, az, aB, aZ, ao, aN, aT, bD, bG, a9, ba, ag, Pu.w64, Int.toNat_natCast, decide_eq_true_eq, Int.ofNat_lt, Int.ofNat_le, if_true, if_false, Int.natCast_nonneg, decide_true, decide_false, Bool.not_true, Bool.not_false, Bool.false_eq_true, Bool.not_eq_true, Bool.true_and, Bool.and_true, Bool.false_and, Bool.and_false, c1, c1']
  · have c3 : 0 ≤ r := by omega
    by_cases c2 : (t.2.length : Int) ≤ r
    · have c2' : ¬ r ≤ (t.2.length : Int) - 1 := by omega
      simp (disch := omega) only [↓au, bu, bw, aP, a8, a7, aK, aL, aM, bp, aS, aY, az, aB, aZ, ao, aN, aT, bD, bG, a9, ba, ag, Pu.w64, Int.toNat_natCast, decide_eq_true_eq, Int.ofNat_lt, Int.ofNat_le, if_true, if_false, Int.natCast_nonneg, decide_true, decide_false, Bool.not_true, Bool.not_false, Bool.false_eq_true, Bool.not_eq_true, Bool.true_and, Bool.and_true, Bool.false_and, Bool.and_false, c1, c3, c2, c2']
    · have c2' : r ≤ (t.2.length : Int) - 1 := by omega
      have c4 : r.toNat < t.2.length := by omega
      have hx := hr _ (List.getElem_mem c4)
      rw [← Pu.aW c4 []] at hx
      simp (disch := omega) only [↓au, bu, bw, aP, a8, a7, aK, aL, aM, bp, aS, aY, az, aB, aZ, ao, aN, aT, bD, bG, a9, ba, ag, Pu.w64, Int.toNat_natCast, decide_eq_true_eq, Int.ofNat_lt, Int.ofNat_le, if_true, if_false, Int.natCast_nonneg, decide_true, decide_false, Bool.not_true, Bool.not_false, Bool.false_eq_true, Bool.not_eq_true, Bool.true_and, Bool.and_true, Bool.false_and, Bool.and_false, c1, c2, c2', c3, c4, eO.is]
theorem aF.inner {k k1 : Nat} {t : Pu.Tab} {r : Nat} (hk : 4194304 ≤ k) (hi : Pu.cm t.1 = true) (ht : t.2.length ≤ 1048576) (hr : ∀ x ∈ t.2, x.length ≤ 1048576) (hlt : r < t.2.length) (n : Int) :
    aF.L1 k k1 k r r n r r (t.2.getD r []).length 0 t.2 t.1 = if ((List.range' 0 (t.2.getD r []).length).all fun q => Pu.e9 t r q) = true then aF.L0 k k1 n ((r : Int) + 1) t.2 t.1 else some false := by
  have hx := hr _ (List.getElem_mem hlt)
  rw [← Pu.aW hlt []] at hx
  have hb := Pu.fh hi r
  have h9 := (Pu.cw hi).2.2.1
  have h := Pu.iB (fun j q => aF.L1 k k1 j r r n r r (t.2.getD r []).length (q : Int) t.2 t.1) (t.2.getD r []).length (fun q => Pu.e9 t r q) (some false) (aF.L0 k k1 n ((r : Int) + 1) t.2 t.1)
    (fun j q hq => by
      have e3 := cI.is (k := k) (t := t) (r := (r : Int) - 1) (c := t.1.getD r 0 + q) (by omega) hi ht hr (by rw [Pu.dO] at hb; omega) (by rw [Pu.dO] at hb; omega)
      have ea := eO.is (k := k) (p := t.1) (i := r) (by omega) (by omega)
      rw [Pu.dO] at ea
      rw [Pu.dO] at hb
      rw [aF.ef]
      simp (maxSteps := 10000000) (disch := omega) only [↓au, bu, bw, aP, a8, a7, aK, aL, aM, bp, aS, aY, az, aB, aZ, ao, aN, aT, bD, bG, a9, ba, ag, Pu.w64, Int.toNat_natCast, decide_eq_true_eq, Int.ofNat_lt, Int.ofNat_le, if_true, if_false, Int.natCast_nonneg, decide_true, decide_false, Bool.not_true, Bool.not_false, Bool.false_eq_true, Bool.not_eq_true, Bool.true_and, Bool.and_true, Bool.false_and, Bool.and_false, hlt, hq, cZ.is, ea, e3, aF.mV, Int.natCast_add, Int.natCast_one]
      unfold Pu.e9
      generalize hx0 : (t.2.getD r []).getD q 0 = x at *
      cases Pu.within x 1 9 with
      | false => simp
      | true =>
        have up : (if (0 : Int) < r then (if x ≤ Pu.entry t ((r : Int) - 1) (t.1.getD r 0 + q) then some false else aF.L1 k k1 j r r n r r (t.2.getD r []).length ((q : Int) + 1) t.2 t.1) else aF.L1 k k1 j r r n r r (t.2.getD r []).length ((q : Int) + 1) t.2 t.1) =
            if (decide (r = 0) || decide (Pu.entry t ((r : Int) - 1) (t.1.getD r 0 + q) < x)) = true then aF.L1 k k1 j r r n r r (t.2.getD r []).length ((q : Int) + 1) t.2 t.1 else some false := by
          by_cases e : r = 0
          · subst e; simp
          · have e' : (0 : Int) < r := by omega
            by_cases c : x ≤ Pu.entry t ((r : Int) - 1) (t.1.getD r 0 + q)
            · have c' : ¬ Pu.entry t ((r : Int) - 1) (t.1.getD r 0 + q) < x := by omega
              simp only [e', c, c', e, if_true, if_false, decide_false, Bool.or_false, Bool.false_eq_true]
            · have c' : Pu.entry t ((r : Int) - 1) (t.1.getD r 0 + q) < x := by omega
              simp only [e', c, c', e, if_true, if_false, decide_true, decide_false, Bool.false_or]
        by_cases e : q = 0
        · have e' : ¬ (0 : Int) < q := by omega
          simp only [e', e, ↓au, bu, bw, aP, a8, a7, aK, aL, aM, bp, aS, aY, az, aB, aZ, ao, aN, aT, bD, bG, a9, ba, ag, Pu.w64, Int.toNat_natCast, decide_eq_true_eq, Int.ofNat_lt, Int.ofNat_le, if_true, if_false, Int.natCast_nonneg, decide_true, decide_false, Bool.not_true, Bool.not_false, Bool.false_eq_true, Bool.not_eq_true, Bool.true_and, Bool.and_true, Bool.false_and, Bool.and_false, Bool.true_or]
          rw [e] at up
          exact up
        · have e' : (0 : Int) < q := by omega
          have eq : (q : Int) - 1 = ((q - 1 : Nat) : Int) := by omega
          have hq' : q - 1 < (t.2.getD r []).length := by omega
          simp (disch := omega) only [e', e, ↓au, bu, bw, aP, a8, a7, aK, aL, aM, bp, aS, aY, az, aB, aZ, ao, aN, aT, bD, bG, a9, ba, ag, Pu.w64, Int.toNat_natCast, decide_eq_true_eq, Int.ofNat_lt, Int.ofNat_le, if_true, if_false, Int.natCast_nonneg, decide_true, decide_false, Bool.not_true, Bool.not_false, Bool.false_eq_true, Bool.not_eq_true, Bool.true_and, Bool.and_true, Bool.false_and, Bool.and_false, eq, hq', Bool.false_or]
          by_cases c : x < (t.2.getD r []).getD (q - 1) 0
          · have c' : ¬ (t.2.getD r []).getD (q - 1) 0 ≤ x := by omega
            simp only [c, c', ↓au, bu, bw, aP, a8, a7, aK, aL, aM, bp, aS, aY, az, aB, aZ, ao, aN, aT, bD, bG, a9, ba, ag, Pu.w64, Int.toNat_natCast, decide_eq_true_eq, Int.ofNat_lt, Int.ofNat_le, if_true, if_false, Int.natCast_nonneg, decide_true, decide_false, Bool.not_true, Bool.not_false, Bool.false_eq_true, Bool.not_eq_true, Bool.true_and, Bool.and_true, Bool.false_and, Bool.and_false]
          · have c' : (t.2.getD r []).getD (q - 1) 0 ≤ x := by omega
            simp only [c, c', ↓au, bu, bw, aP, a8, a7, aK, aL, aM, bp, aS, aY, az, aB, aZ, ao, aN, aT, bD, bG, a9, ba, ag, Pu.w64, Int.toNat_natCast, decide_eq_true_eq, Int.ofNat_lt, Int.ofNat_le, if_true, if_false, Int.natCast_nonneg, decide_true, decide_false, Bool.not_true, Bool.not_false, Bool.false_eq_true, Bool.not_eq_true, Bool.true_and, Bool.and_true, Bool.false_and, Bool.and_false]
            exact up)
    (fun j => by
      rw [aF.ef]
      simp (maxSteps := 10000000) (disch := omega) only [↓au, bu, bw, aP, a8, a7, aK, aL, aM, bp, aS, aY, az, aB, aZ, ao, aN, aT, bD, bG, a9, ba, ag, Pu.w64, Int.toNat_natCast, decide_eq_true_eq, Int.ofNat_lt, Int.ofNat_le, if_true, if_false, Int.natCast_nonneg, decide_true, decide_false, Bool.not_true, Bool.not_false, Bool.false_eq_true, Bool.not_eq_true, Bool.true_and, Bool.and_true, Bool.false_and, Bool.and_false, Nat.lt_irrefl]) (t.2.getD r []).length k 0 (by omega) (by omega)
  simp only [Int.natCast_zero] at h
  exact h
theorem aF.is {k : Nat} {t : Pu.Tab} (hk : 4194304 + 6 ≤ k) (h1 : t.1.length ≤ 1048576) (ht : t.2.length ≤ 1048576) (hr : ∀ x ∈ t.2, x.length ≤ 1048576) : aF k t = some (Pu.gP t) := by
  obtain ⟨k, rfl⟩ : ∃ k', k = k' + 1 := ⟨k - 1, by omega⟩
  rw [aF.eq, bz.is (by omega) h1 ht hr, ag]
  unfold Pu.gP Pu.shapeOf
  cases hs : Pu.cG t with
  | false => simp [hs]
  | true =>
    have hi : Pu.cm t.1 = true := by
      simp only [Pu.cG, Bool.and_eq_true] at hs; exact hs.1
    have h := Pu.iB (fun j r => aF.L0 k j t.2.length r t.2 t.1) t.2.length (fun r => (List.range' 0 (t.2.getD r []).length).all fun q => Pu.e9 t r q) (some false) (some true)
      (fun j r hlt => by
        rw [aF.bO]
        simp (disch := omega) only [↓au, bu, bw, aP, a8, a7, aK, aL, aM, bp, aS, aY, az, aB, aZ, ao, aN, aT, bD, bG, a9, ba, ag, Pu.w64, Int.toNat_natCast, decide_eq_true_eq, Int.ofNat_lt, Int.ofNat_le, if_true, if_false, Int.natCast_nonneg, decide_true, decide_false, Bool.not_true, Bool.not_false, Bool.false_eq_true, Bool.not_eq_true, Bool.true_and, Bool.and_true, Bool.false_and, Bool.and_false, hlt, aF.inner (k1 := j) (show 4194304 ≤ k by omega) hi ht hr hlt, Int.natCast_add, Int.natCast_one])
      (fun j => by
        rw [aF.bO]
        simp (disch := omega) only [↓au, bu, bw, aP, a8, a7, aK, aL, aM, bp, aS, aY, az, aB, aZ, ao, aN, aT, bD, bG, a9, ba, ag, Pu.w64, Int.toNat_natCast, decide_eq_true_eq, Int.ofNat_lt, Int.ofNat_le, if_true, if_false, Int.natCast_nonneg, decide_true, decide_false, Bool.not_true, Bool.not_false, Bool.false_eq_true, Bool.not_eq_true, Bool.true_and, Bool.and_true, Bool.false_and, Bool.and_false, Nat.lt_irrefl]) t.2.length k 0 (by omega) (by omega)
    simp only [Int.natCast_zero] at h
    simp only [if_true, ↓au, bu, bw, aP, a8, a7, aK, aL, aM, bp, aS, aY, az, aB, aZ, ao, aN, aT, bD, bG, a9, ba, ag, Pu.w64, Int.toNat_natCast, decide_eq_true_eq, Int.ofNat_lt, Int.ofNat_le, if_true, if_false, Int.natCast_nonneg, decide_true, decide_false, Bool.not_true, Bool.not_false, Bool.false_eq_true, Bool.not_eq_true, Bool.true_and, Bool.and_true, Bool.false_and, Bool.and_false]
    rw [h]
    cases (List.range' 0 t.2.length).all fun r => (List.range' 0 (t.2.getD r []).length).all fun q => Pu.e9 t r q <;> simp
theorem dF.is {k : Nat} {t : Pu.Tab} (hk : 4194304 + 7 ≤ k) (h1 : t.1.length ≤ 1048576) (ht : t.2.length ≤ 1048576) (hr : ∀ x ∈ t.2, x.length ≤ 1048576) : dF k t = some (Pu.bL t) := by
  obtain ⟨k, rfl⟩ : ∃ k', k = k' + 1 := ⟨k - 1, by omega⟩
  rw [dF.eq, aF.is (by omega) h1 ht hr, ag]
  unfold Pu.bL
  by_cases h : t.1.length = 0 <;> simp [h]
theorem aj.app {k : Nat} {a : List (List Int)} (ha : a.length ≤ 1048576) (hf : a.flatten.length ≤ 1099511627776) : ∀ (m j i : Nat), i + m = a.length → m < j →
    aj.L4 k j a.length i (a.take i).flatten a = some a.flatten
  | m, 0, i, _, hj => by omega
  | 0, j + 1, i, hm, _ => by
    rw [aj.pI]
    have e : i = a.length := by omega
    subst e
    simp
  | m + 1, j + 1, i, hm, hj => by
    rw [aj.pI]
    have hlt : i < a.length := by omega
    have ih := aj.app (k := k) ha hf m j (i + 1) (by omega) (by omega)
    rw [Int.natCast_succ, Pu.take_succ hlt []] at ih
    have hl : ((a.take i).flatten ++ a.getD i []).length ≤ 1099511627776 := by
      refine Nat.le_trans ?_ hf
      have e : a.flatten = (a.take i).flatten ++ (a.drop i).flatten := by rw [← List.flatten_append, List.take_append_drop]
      rw [e, Pu.drop_cons hlt []]
      simp only [List.flatten_cons, List.length_append]
      omega
    simp only [List.flatten_append, List.flatten_cons, List.flatten_nil, List.append_nil] at ih
    simp (disch := omega) only [↓au, bu, bw, aP, a8, a7, aK, aL, aM, bp, aS, aY, az, aB, aZ, ao, aN, aT, bD, bG, a9, ba, ag, Pu.w64, Int.toNat_natCast, decide_eq_true_eq, Int.ofNat_lt, Int.ofNat_le, if_true, if_false, Int.natCast_nonneg, decide_true, decide_false, Bool.not_true, Bool.not_false, Bool.false_eq_true, Bool.not_eq_true, Bool.true_and, Bool.and_true, Bool.false_and, Bool.and_false, hlt, hl, ih]
theorem aj.tail {k : Nat} {a : List (List Int)} {y : List Int} (hk : 4194304 ≤ k) (ha : a.length ≤ 1048576) (hf : a.flatten.length ≤ 1099511627776) : aj.L3 k (HAdd.hAdd k 1) 0 0 a.length 0 y a = some a.flatten := by
  rw [aj.l0]
  by_cases h0 : a.length = 0
  · have : a = [] := List.eq_nil_of_length_eq_zero h0
    subst this
    simp
  · have hlt : 0 < a.length := by omega
    have h := aj.app (k := k) ha hf (a.length - 1) k 1 (by omega) (by omega)
    have e : (a.take 1).flatten = a.getD 0 [] := by rw [Pu.take_succ hlt []]; simp
    rw [e] at h
    have hl : (a.getD 0 []).length ≤ 1099511627776 := by
      refine Nat.le_trans ?_ hf
      have e2 : a.flatten = (a.take 1).flatten ++ (a.drop 1).flatten := by rw [← List.flatten_append, List.take_append_drop]
      rw [e2, e]
      simp
    have hlt' : (0 : Int) < a.length := by omega
    simp (disch := omega) only [↓au, bu, bw, aP, a8, a7, aK, aL, aM, bp, aS, aY, az, aB, aZ, ao, aN, aT, bD, bG, a9, ba, ag, Pu.w64, Int.toNat_natCast, decide_eq_true_eq, Int.ofNat_lt, Int.ofNat_le, if_true, if_false, Int.natCast_nonneg, decide_true, decide_false, Bool.not_true, Bool.not_false, Bool.false_eq_true, Bool.not_eq_true, Bool.true_and, Bool.and_true, Bool.false_and, Bool.and_false, hlt, hlt', hl, List.take_zero, List.nil_append, Int.toNat_zero, Int.zero_add]
    simpa using h
theorem aj.loop {k : Nat} {a : List (List Int)} (hk : 4194304 ≤ k) (ha : a.length ≤ 1048576) (hf : a.flatten.length ≤ 1099511627776) : ∀ (m j i : Nat), i + m = a.length → m < j →
    aj.L0 k j (a.take i).flatten.length a.length i a = some a.flatten
  | m, 0, i, _, hj => by omega
  | 0, j + 1, i, hm, _ => by
    rw [aj.bO, aj.mV]
    have e : i = a.length := by omega
    subst e
    rw [List.take_length]
    have hn : ¬ ((a.flatten.length : Nat) : Int) < 0 := by omega
    simp (disch := omega) only [↓au, bu, bw, aP, a8, a7, aK, aL, aM, bp, aS, aY, az, aB, aZ, ao, aN, aT, bD, bG, a9, ba, ag, Pu.w64, Int.toNat_natCast, decide_eq_true_eq, Int.ofNat_lt, Int.ofNat_le, if_true, if_false, Int.natCast_nonneg, decide_true, decide_false, Bool.not_true, Bool.not_false, Bool.false_eq_true, Bool.not_eq_true, Bool.true_and, Bool.and_true, Bool.false_and, Bool.and_false, Nat.lt_irrefl, hn, Int.sub_zero, Int.sub_self]
    by_cases h0 : a.flatten.length = 0
    · have h0' : ¬ (0 : Int) < (a.flatten.length : Nat) := by omega
      have h := aj.app (k := k) ha hf a.length (k + 1) 0 (by omega) (by omega)
      simp only [h0', ↓au, bu, bw, aP, a8, a7, aK, aL, aM, bp, aS, aY, az, aB, aZ, ao, aN, aT, bD, bG, a9, ba, ag, Pu.w64, Int.toNat_natCast, decide_eq_true_eq, Int.ofNat_lt, Int.ofNat_le, if_true, if_false, Int.natCast_nonneg, decide_true, decide_false, Bool.not_true, Bool.not_false, Bool.false_eq_true, Bool.not_eq_true, Bool.true_and, Bool.and_true, Bool.false_and, Bool.and_false]
      simpa using h
    · have h0' : (0 : Int) < (a.flatten.length : Nat) := by omega
      have h1 : (1 : Int) ≤ (a.flatten.length : Nat) := by omega
      simp (disch := omega) only [h0', h1, hf, ↓au, bu, bw, aP, a8, a7, aK, aL, aM, bp, aS, aY, az, aB, aZ, ao, aN, aT, bD, bG, a9, ba, ag, Pu.w64, Int.toNat_natCast, decide_eq_true_eq, Int.ofNat_lt, Int.ofNat_le, if_true, if_false, Int.natCast_nonneg, decide_true, decide_false, Bool.not_true, Bool.not_false, Bool.false_eq_true, Bool.not_eq_true, Bool.true_and, Bool.and_true, Bool.false_and, Bool.and_false, Int.toNat_zero, Nat.le_refl, Int.le_refl, List.length_replicate, Nat.zero_le, mq, Nat.sub_self]
      exact aj.tail hk ha hf
  | m + 1, j + 1, i, hm, hj => by
    rw [aj.bO]
    have hlt : i < a.length := by omega
    have ih := aj.loop (k := k) hk ha hf m j (i + 1) (by omega) (by omega)
    rw [Int.natCast_succ, Pu.take_succ hlt []] at ih
    have hl : ((a.take i).flatten ++ a.getD i []).length ≤ 1099511627776 := by
      refine Nat.le_trans ?_ hf
      have e : a.flatten = (a.take i).flatten ++ (a.drop i).flatten := by rw [← List.flatten_append, List.take_append_drop]
      rw [e, Pu.drop_cons hlt []]
      simp only [List.flatten_cons, List.length_append]
      omega
    simp only [List.flatten_append, List.flatten_cons, List.flatten_nil, List.append_nil, List.length_append, Int.natCast_add] at ih hl
    have hn : ¬ (((a.take i).flatten.length : Int) + (a.getD i []).length < 0) := by omega
    simp (disch := omega) only [↓au, bu, bw, aP, a8, a7, aK, aL, aM, bp, aS, aY, az, aB, aZ, ao, aN, aT, bD, bG, a9, ba, ag, Pu.w64, Int.toNat_natCast, decide_eq_true_eq, Int.ofNat_lt, Int.ofNat_le, if_true, if_false, Int.natCast_nonneg, decide_true, decide_false, Bool.not_true, Bool.not_false, Bool.false_eq_true, Bool.not_eq_true, Bool.true_and, Bool.and_true, Bool.false_and, Bool.and_false, hlt, hn, aj.gq, ih]
theorem aj.is {k : Nat} {a : List (List Int)} (hk : 4194304 + 2 ≤ k) (ha : a.length ≤ 1048576) (hf : a.flatten.length ≤ 1099511627776) : aj k a = some a.flatten := by
  obtain ⟨k, rfl⟩ : ∃ k', k = k' + 2 := ⟨k - 2, by omega⟩
  rw [aj.eq]
  exact aj.loop (k := k) (by omega) ha hf a.length (k + 1) 0 (by omega) (by omega)
theorem bm.is {k : Nat} {r : List Int} {x : Int} (hk : 4194304 + 1 ≤ k) (hr : r.length ≤ 1048577) : bm k r x = some (Pu.uj (fun y => decide (x = y)) r) := by
  obtain ⟨k, rfl⟩ : ∃ k', k = k' + 1 := ⟨k - 1, by omega⟩
  rw [bm.eq]
  have h := Pu.mU r 0 (fun y => decide (x = y)) (fun j i => bm.L0 k j x r.length i r) (fun i => some (i : Int)) (some (-1))
    (fun j i hi => by
      rw [bm.bO]
      by_cases c : x = r.getD i 0
      · simp (disch := omega) only [↓au, bu, bw, aP, a8, a7, aK, aL, aM, bp, aS, aY, az, aB, aZ, ao, aN, aT, bD, bG, a9, ba, ag, Pu.w64, Int.toNat_natCast, decide_eq_true_eq, Int.ofNat_lt, Int.ofNat_le, if_true, if_false, Int.natCast_nonneg, decide_true, decide_false, Bool.not_true, Bool.not_false, Bool.false_eq_true, Bool.not_eq_true, Bool.true_and, Bool.and_true, Bool.false_and, Bool.and_false, hi, ← c]
      · simp (disch := omega) only [↓au, bu, bw, aP, a8, a7, aK, aL, aM, bp, aS, aY, az, aB, aZ, ao, aN, aT, bD, bG, a9, ba, ag, Pu.w64, Int.toNat_natCast, decide_eq_true_eq, Int.ofNat_lt, Int.ofNat_le, if_true, if_false, Int.natCast_nonneg, decide_true, decide_false, Bool.not_true, Bool.not_false, Bool.false_eq_true, Bool.not_eq_true, Bool.true_and, Bool.and_true, Bool.false_and, Bool.and_false, hi, c, Int.natCast_add, Int.natCast_one])
    (fun j => by
      rw [bm.bO]
      simp only [↓au, bu, bw, aP, a8, a7, aK, aL, aM, bp, aS, aY, az, aB, aZ, ao, aN, aT, bD, bG, a9, ba, ag, Pu.w64, Int.toNat_natCast, decide_eq_true_eq, Int.ofNat_lt, Int.ofNat_le, if_true, if_false, Int.natCast_nonneg, decide_true, decide_false, Bool.not_true, Bool.not_false, Bool.false_eq_true, Bool.not_eq_true, Bool.true_and, Bool.and_true, Bool.false_and, Bool.and_false, Nat.lt_irrefl]) r.length k 0 (by omega) (by omega) (by omega)
  simp only [Int.natCast_zero] at h
  simp only [aL, aK]
  rw [h]
  unfold Pu.uj
  split <;> rfl
theorem cj.is {k : Nat} {r : List Int} {x : Int} (hk : 4194304 + 2 ≤ k) (hr : r.length ≤ 1048577) : cj k r x = some (Pu.has r x) := by
  obtain ⟨k, rfl⟩ : ∃ k', k = k' + 1 := ⟨k - 1, by omega⟩
  rw [cj.eq, bm.is (by omega) hr, ag, bw, Pu.tv]
  rfl
theorem cx.is {k : Nat} {l : List Int} (hk : 4194304 + 3 ≤ k) (hl : l.length ≤ 1048576) : cx k l = some (Pu.im l) := by
  obtain ⟨k, rfl⟩ : ∃ k', k = k' + 1 := ⟨k - 1, by omega⟩
  rw [cx.eq]
  have h := Pu.iB (fun j i => cx.L0 k j ((i : Int) + 1) l) l.length (fun i => Pu.has l ((i : Int) + 1)) (some false) (some true)
    (fun j i hi => by
      rw [cx.bO, cj.is (by omega) (by omega)]
      have c : (i : Int) + 1 ≤ l.length := by omega
      cases hh : Pu.has l ((i : Int) + 1) <;> simp (disch := omega) only [↓au, bu, bw, aP, a8, a7, aK, aL, aM, bp, aS, aY, az, aB, aZ, ao, aN, aT, bD, bG, a9, ba, ag, Pu.w64, Int.toNat_natCast, decide_eq_true_eq, Int.ofNat_lt, Int.ofNat_le, if_true, if_false, Int.natCast_nonneg, decide_true, decide_false, Bool.not_true, Bool.not_false, Bool.false_eq_true, Bool.not_eq_true, Bool.true_and, Bool.and_true, Bool.false_and, Bool.and_false, c, hh, Int.natCast_add, Int.natCast_one])
    (fun j => by
      rw [cx.bO]
      have c : ¬ (l.length : Int) + 1 ≤ l.length := by omega
      simp only [↓au, bu, bw, aP, a8, a7, aK, aL, aM, bp, aS, aY, az, aB, aZ, ao, aN, aT, bD, bG, a9, ba, ag, Pu.w64, Int.toNat_natCast, decide_eq_true_eq, Int.ofNat_lt, Int.ofNat_le, if_true, if_false, Int.natCast_nonneg, decide_true, decide_false, Bool.not_true, Bool.not_false, Bool.false_eq_true, Bool.not_eq_true, Bool.true_and, Bool.and_true, Bool.false_and, Bool.and_false, c]) l.length k 0 (by omega) (by omega)
  simp only [Int.natCast_zero, Int.zero_add] at h
  rw [h]
  unfold Pu.im
  cases (List.range' 0 l.length).all fun i => Pu.has l ((i : Int) + 1) <;> simp
theorem dw.is {k : Nat} {t : Pu.Tab} (hk : 4194304 + 7 ≤ k) (h1 : t.1.length ≤ 1048576) (ht : t.2.length ≤ 1048576) (hr : ∀ x ∈ t.2, x.length ≤ 1048576) : dw k t = some (Pu.eH t) := by
  obtain ⟨k, rfl⟩ : ∃ k', k = k' + 1 := ⟨k - 1, by omega⟩
  rw [dw.eq, aF.is (by omega) h1 ht hr, ag]
  unfold Pu.eH
  cases hi : Pu.gP t with
  | false => simp
  | true =>
    have h9 := Pu.sJ hi
    simp only [↓au, bu, bw, aP, a8, a7, aK, aL, aM, bp, aS, aY, az, aB, aZ, ao, aN, aT, bD, bG, a9, ba, ag, Pu.w64, Int.toNat_natCast, decide_eq_true_eq, Int.ofNat_lt, Int.ofNat_le, if_true, if_false, Int.natCast_nonneg, decide_true, decide_false, Bool.not_true, Bool.not_false, Bool.false_eq_true, Bool.not_eq_true, Bool.true_and, Bool.and_true, Bool.false_and, Bool.and_false]
    rw [aj.is (by omega) ht (by omega), ag, cx.is (by omega) (by omega)]
    rfl
theorem aX.loop {k : Nat} {a b : List Int} (hl : a.length = b.length) (ha : a.length ≤ 1048576) : ∀ (m j i : Nat), i + m = a.length → m < j → aX.L0 k j a.length i a b = some (decide (a.drop i = b.drop i))
  | m, 0, i, _, hj => by omega
  | 0, j + 1, i, hi, _ => by
    rw [aX.bO]
    have e : i = a.length := by omega
    subst e
    simp [hl]
  | m + 1, j + 1, i, hi, hj => by
    rw [aX.bO]
    have h1 : i < a.length := by omega
    have h2 : i < b.length := by omega
    have ih := aX.loop (k := k) hl ha m j (i + 1) (by omega) (by omega)
    rw [Int.natCast_succ] at ih
    rw [Pu.drop_cons h1 0, Pu.drop_cons h2 0]
    by_cases e : a.getD i 0 = b.getD i 0 <;> simp (disch := omega) only [↓au, bu, bw, aP, a8, a7, aK, aL, aM, bp, aS, aY, az, aB, aZ, ao, aN, aT, bD, bG, a9, ba, ag, Pu.w64, Int.toNat_natCast, decide_eq_true_eq, Int.ofNat_lt, Int.ofNat_le, if_true, if_false, Int.natCast_nonneg, decide_true, decide_false, Bool.not_true, Bool.not_false, Bool.false_eq_true, Bool.not_eq_true, Bool.true_and, Bool.and_true, Bool.false_and, Bool.and_false, h1, h2, ih, e, List.cons.injEq, true_and, false_and]
theorem aX.is {k : Nat} {a b : List Int} (hk : 4194304 + 1 ≤ k) (ha : a.length ≤ 1048576) : aX k a b = some (decide (a = b)) := by
  obtain ⟨k, rfl⟩ : ∃ k', k = k' + 1 := ⟨k - 1, by omega⟩
  rw [aX.eq]
  by_cases hl : a.length = b.length
  · have h := aX.loop (k := k) hl ha a.length k 0 (by omega) (by omega)
    rw [Int.natCast_zero] at h
    simp only [List.drop_zero] at h
    have hl' : (a.length : Int) = b.length := by omega
    have e : D.eq (a.length : Int) (b.length : Int) = true := decide_eq_true hl'
    simp only [aL, aK, e, bD, Bool.not_true, au, Bool.false_eq_true, if_false, h]
  · have hne : a ≠ b := fun e => hl (by rw [e])
    have hl' : ¬ (a.length : Int) = b.length := by omega
    simp [hl', hne]
theorem dy.is {k : Nat} {a b : List Int × List Int} (hk : 4194304 + 2 ≤ k) (h1 : a.1.length ≤ 1048576) (h2 : a.2.length ≤ 1048576) : dy k a b = some (decide (a = b)) := by
  obtain ⟨k, rfl⟩ : ∃ k', k = k' + 1 := ⟨k - 1, by omega⟩
  obtain ⟨a1, a2⟩ := a
  obtain ⟨b1, b2⟩ := b
  rw [dy.eq, aX.is (by omega) h1, aX.is (by omega) h2]
  by_cases e : a1 = b1 <;> simp [e]
theorem dg.is {k : Nat} {a b : Pu.Tab} (hk : 4194304 + 10 ≤ k) (ha : Pu.kG a) (hb : Pu.kG b) : dg k a b = some (decide ((Pu.shapeOf a).1 = (Pu.shapeOf b).1)) := by
  obtain ⟨k, rfl⟩ : ∃ k', k = k' + 1 := ⟨k - 1, by omega⟩
  have hs : (Pu.shapeOf a).1.1.length ≤ 1048576 ∧ (Pu.shapeOf a).1.2.length ≤ 1048576 := by
    unfold Pu.shapeOf
    split
    · exact ⟨by rw [Pu.dk]; exact ha.2.1, ha.1⟩
    · simp
  rw [dg.eq, show ((a.1, a.2) : Pu.Tab) = a from rfl, show ((b.1, b.2) : Pu.Tab) = b from rfl, bz.is (by omega) ha.1 ha.2.1 ha.2.2, bz.is (by omega) hb.1 hb.2.1 hb.2.2, ag, ag]
  rw [show (((Pu.shapeOf a).1.1, (Pu.shapeOf a).1.2) : List Int × List Int) = (Pu.shapeOf a).1 from rfl, show (((Pu.shapeOf b).1.1, (Pu.shapeOf b).1.2) : List Int × List Int) = (Pu.shapeOf b).1 from rfl, dy.is (by omega) hs.1 hs.2, ag]
theorem bn.loop {k : Nat} {t : Pu.Tab} {x3 x4 : List Int} {x5 : List (List Int)} (hk : 1 ≤ k) (ht : t.2.length ≤ 1048576) (hr : ∀ x ∈ t.2, x.length ≤ 1048576) : ∀ (m j i : Nat), i + m = t.2.length → m < j →
    bn.L0 k j t.2.length i t.2 x3 x5 x4 (t.2.take i) = some (x4, t.2)
  | m, 0, i, _, hj => by omega
  | 0, j + 1, i, hm, _ => by
    rw [bn.bO]
    have e : i = t.2.length := by omega
    subst e
    simp
  | m + 1, j + 1, i, hm, hj => by
    rw [bn.bO]
    have hlt : i < t.2.length := by omega
    have hx := hr _ (List.getElem_mem hlt)
    rw [← Pu.aW hlt []] at hx
    have ih := bn.loop (k := k) (x3 := x3) (x4 := x4) (x5 := x5) hk ht hr m j (i + 1) (by omega) (by omega)
    rw [Int.natCast_succ, Pu.take_succ hlt []] at ih
    have hl : (t.2.take i ++ [t.2.getD i []]).length ≤ 1099511627776 := by simp; omega
    simp (disch := omega) only [↓au, bu, bw, aP, a8, a7, aK, aL, aM, bp, aS, aY, az, aB, aZ, ao, aN, aT, bD, bG, a9, ba, ag, Pu.w64, Int.toNat_natCast, decide_eq_true_eq, Int.ofNat_lt, Int.ofNat_le, if_true, if_false, Int.natCast_nonneg, decide_true, decide_false, Bool.not_true, Bool.not_false, Bool.false_eq_true, Bool.not_eq_true, Bool.true_and, Bool.and_true, Bool.false_and, Bool.and_false, hlt, hl, bP.is, ih]
theorem bn.is {k : Nat} {t : Pu.Tab} (hk : 4194304 + 1 ≤ k) (h1 : t.1.length ≤ 1048576) (ht : t.2.length ≤ 1048576) (hr : ∀ x ∈ t.2, x.length ≤ 1048576) : bn k t = some t := by
  obtain ⟨k, rfl⟩ : ∃ k', k = k' + 1 := ⟨k - 1, by omega⟩
  rw [bn.eq, bP.is (by omega) (by omega)]
  have h := bn.loop (k := k) (t := t) (x3 := []) (x4 := t.1) (x5 := []) (by omega) ht hr t.2.length k 0 (by omega) (by omega)
  rw [Int.natCast_zero, List.take_zero] at h
  exact h
theorem bI.loop {k : Nat} {Q : List (List Int)} {inn : List Int} {a : Nat} {K : Int} (h9 : Pu.cP 9 9 Q) (hp : ∀ r, r < Q.length → 1 ≤ (Q.getD r []).length) (ha : a < Q.length) (htop : (Q.getD a []).getD ((Q.getD a []).length - 1) 0 = K)
    (hlt : ∀ r, r < Q.length → r ≠ a → (Q.getD r []).getD ((Q.getD r []).length - 1) 0 < K) : ∀ (m j i b : Nat), i + m = Q.length → m < j → b < Q.length → (b = a ∨ i ≤ a) → bI.L0 k j b Q.length i Q inn = some (a : Int)
  | m, 0, i, b, _, hj, _, _ => by omega
  | 0, j + 1, i, b, hi, _, hb, hinv => by
    rw [bI.bO]
    have e : i = Q.length := by omega
    have hn : ¬ (i : Int) < Q.length := by omega
    have hba : b = a := hinv.resolve_right (by omega)
    exact Pu.tX hn (by rw [hba])
  | m + 1, j + 1, i, b, hi, hj, hb, hinv => by
    have hl9 := h9.1
    have hn : (i : Int) < Q.length := by omega
    have hil : i < Q.length := by omega
    have hri := hp i hil
    have hrb := hp b hb
    have hi9 := h9.at i
    have hb9 := h9.at b
    have wi : IntKind.i64.wrap (((Q.getD i []).length : Int) - 1) = (((Q.getD i []).length - 1 : Nat) : Int) := by rw [Pu.w64 (by omega) (by omega)]; omega
    have wb : IntKind.i64.wrap (((Q.getD b []).length : Int) - 1) = (((Q.getD b []).length - 1 : Nat) : Int) := by rw [Pu.w64 (by omega) (by omega)]; omega
    have ws : IntKind.i64.wrap ((i : Int) + 1) = ((i + 1 : Nat) : Int) := by rw [Pu.w64 (by omega) (by omega)]; omega
    have li : (Q.getD i []).length - 1 < (Q.getD i []).length := by omega
    have lb : (Q.getD b []).length - 1 < (Q.getD b []).length := by omega
    have hnext : ∀ b' : Nat, b' < Q.length → (b' = a ∨ i + 1 ≤ a) → bI.J1 k j b' Q.length i Q inn = some (a : Int) := fun b' h1 h2 => by
      rw [bI.gq, aN, ao, ws]
      exact bI.loop h9 hp ha htop hlt m j (i + 1) b' (by omega) (by omega) h1 h2
    rw [bI.bO]
    simp only [aM, aK, aL, bp, aT, ao, Int.toNat_natCast, wi, wb]
    refine Pu.tG hn (Pu.tG (Int.natCast_nonneg i) (Pu.tG hil (Pu.tG hil (Pu.tG (Int.natCast_nonneg b) (Pu.tG hb (Pu.tG hb (Pu.tG hil (Pu.tG hil ?_))))))))
    refine Pu.tG (Int.natCast_nonneg _) (Pu.tG li (Pu.tG hil (Pu.tG li (Pu.tG hb (Pu.tG hb (Pu.tG (Int.natCast_nonneg _) (Pu.tG lb (Pu.tG hb (Pu.tG lb ?_)))))))))
    by_cases eb : b = a
    · subst eb
      by_cases ei : i = b
      · subst ei
        refine Pu.tX (Int.lt_irrefl _) (Pu.tG rfl (Pu.tG hil (Pu.tG hb (Pu.tX (Int.lt_irrefl _) (hnext i hb (.inl rfl))))))
      · have := hlt i hil ei
        exact Pu.tX (by omega) (Pu.tX (by omega) (hnext b hb (.inl rfl)))
    · have hia : i ≤ a := hinv.resolve_left eb
      have hbK := hlt b hb eb
      by_cases ei : i = a
      · subst ei
        exact Pu.tG (by omega) (hnext i hil (.inl rfl))
      · by_cases c1 : (Q.getD b []).getD ((Q.getD b []).length - 1) 0 < (Q.getD i []).getD ((Q.getD i []).length - 1) 0
        · exact Pu.tG c1 (hnext i hil (.inr (by omega)))
        · refine Pu.tX c1 ?_
          by_cases c2 : (Q.getD i []).getD ((Q.getD i []).length - 1) 0 = (Q.getD b []).getD ((Q.getD b []).length - 1) 0
          · refine Pu.tG c2 (Pu.tG hil (Pu.tG hb ?_))
            by_cases c3 : ((Q.getD b []).length : Int) < (Q.getD i []).length
            · exact Pu.tG c3 (hnext i hil (.inr (by omega)))
            · exact Pu.tX c3 (hnext b hb (.inr (by omega)))
          · exact Pu.tX c2 (hnext b hb (.inr (by omega)))
theorem bI.is {k : Nat} {Q : List (List Int)} {inn : List Int} {a : Nat} {K : Int} (hk : 4194304 + 1 ≤ k) (h9 : Pu.cP 9 9 Q) (hp : ∀ r, r < Q.length → 1 ≤ (Q.getD r []).length) (ha : a < Q.length) (htop : (Q.getD a []).getD ((Q.getD a []).length - 1) 0 = K)
    (hlt : ∀ r, r < Q.length → r ≠ a → (Q.getD r []).getD ((Q.getD r []).length - 1) 0 < K) : bI k (inn, Q) = some (a : Int) := by
  obtain ⟨k, rfl⟩ : ∃ k', k = k' + 1 := ⟨k - 1, by omega⟩
  have hl9 := h9.1
  have h := bI.loop (k := k) (inn := inn) h9 hp ha htop hlt Q.length k 0 0 (by omega) (by omega) (by omega) (.inr (Nat.zero_le _))
  rw [bI.eq]
  exact h
theorem ay.loop {k : Nat} : ∀ (m j i n : Nat) (l : List (Int × Int)), n ≤ i + 2 * m → m < j → n ≤ l.length → l.length ≤ 1000 → i ≤ n → ∃ l', ay.L0 k j i ((n : Int) - 1) l = some ((), l') ∧ l'.length = l.length ∧ ∀ c, l'.getD c (0, 0) = if i ≤ c ∧ c < n then l.getD (i + n - 1 - c) (0, 0) else l.getD c (0, 0)
  | m, 0, i, n, l, _, hj, _, _, _ => by omega
  | m, j + 1, i, n, l, hm, hj, hn, hl, hin => by
    rw [ay.bO]
    by_cases c : i + 1 < n
    · have hc : (i : Int) < (n : Int) - 1 := by omega
      obtain ⟨e, he⟩ : ∃ e : Nat, n = e + 1 := ⟨n - 1, by omega⟩
      subst he
      have e1 : ((e + 1 : Nat) : Int) - 1 = (e : Int) := by omega
      rw [e1] at hc ⊢
      have hi : i < l.length := by omega
      have hel : e < l.length := by omega
      have ws : IntKind.i64.wrap ((i : Int) + 1) = ((i + 1 : Nat) : Int) := by rw [Pu.w64 (by omega) (by omega)]; omega
      have we : IntKind.i64.wrap ((e : Int) - 1) = (e : Int) - 1 := Pu.w64 (by omega) (by omega)
      have hel2 : e < (l.set i (l.getD e (0, 0))).length := by rw [List.length_set]; exact hel
      obtain ⟨m, rfl⟩ : ∃ m', m = m' + 1 := ⟨m - 1, by omega⟩
      obtain ⟨l', q1, q2, q3⟩ := ay.loop (k := k) m j (i + 1) e ((l.set i (l.getD e (0, 0))).set e (l.getD i (0, 0))) (by omega) (by omega) (by rw [List.length_set, List.length_set]; omega) (by rw [List.length_set, List.length_set]; exact hl) (by omega)
      refine ⟨l', ?_, by rw [q2, List.length_set, List.length_set], fun c => ?_⟩
      · simp only [aM, aK, bp, aS, aN, aT, ao, Int.toNat_natCast, ws, we]
        rw [show (((l.getD e (0, 0)).1, (l.getD e (0, 0)).2) : Int × Int) = l.getD e (0, 0) from rfl, show (((l.getD i (0, 0)).1, (l.getD i (0, 0)).2) : Int × Int) = l.getD i (0, 0) from rfl]
        exact Pu.tG hc (Pu.tG (Int.natCast_nonneg e) (Pu.tG hel (Pu.tG hel (Pu.tG (Int.natCast_nonneg i) (Pu.tG hi (Pu.tG hi (Pu.tG (Int.natCast_nonneg i) (Pu.tG hi (Pu.tG hi (Pu.tG (Int.natCast_nonneg e) (Pu.tG hel2 (Pu.tG hel2 q1))))))))))))
      · have hget : ∀ c, ((l.set i (l.getD e (0, 0))).set e (l.getD i (0, 0))).getD c (0, 0) = if c = e then l.getD i (0, 0) else if c = i then l.getD e (0, 0) else l.getD c (0, 0) := by
          intro c
          by_cases a1 : c = e
          · subst a1; rw [if_pos rfl, Pu.aW (by rw [List.length_set]; exact hel2), List.getElem_set_self]
          · rw [if_neg a1, Pu.getD_set_ne (Ne.symm a1)]
            by_cases a2 : c = i
            · subst a2; rw [if_pos rfl, Pu.aW (by rw [List.length_set]; exact hi), List.getElem_set_self]
            · rw [if_neg a2, Pu.getD_set_ne (Ne.symm a2)]
        rw [q3]
        by_cases d1 : i + 1 ≤ c ∧ c < e
        · rw [if_pos d1, if_pos (by omega), hget, if_neg (by omega), if_neg (by omega)]
          congr 1; omega
        · rw [if_neg d1, hget]
          by_cases d2 : c = e
          · subst d2; rw [if_pos rfl, if_pos (by omega)]; congr 1; omega
          · rw [if_neg d2]
            by_cases d3 : c = i
            · subst d3; rw [if_pos rfl, if_pos (by omega)]; congr 1; omega
            · rw [if_neg d3, if_neg (by omega)]
    · have hc : ¬ (i : Int) < (n : Int) - 1 := by omega
      refine ⟨l, Pu.tX hc rfl, rfl, fun c => ?_⟩
      split
      · congr 1; omega
      · rfl
theorem ay.is {k : Nat} {l : List (Int × Int)} (hk : 4194304 + 1 ≤ k) (hl : l.length ≤ 1000) : ay k l = some ((), l.reverse) := by
  obtain ⟨k, rfl⟩ : ∃ k', k = k' + 1 := ⟨k - 1, by omega⟩
  obtain ⟨l', q1, q2, q3⟩ := ay.loop (k := k) l.length k 0 l.length l (by omega) (by omega) (Nat.le_refl _) hl (Nat.zero_le _)
  have e : l' = l.reverse := by
    refine List.ext_getElem (by rw [q2, List.length_reverse]) fun c h1 h2 => ?_
    have := q3 c
    rw [if_pos (by omega), Pu.aW h1, Pu.aW (show 0 + l.length - 1 - c < l.length by omega)] at this
    rw [this, List.getElem_reverse]
    congr 1; omega
  have hw : IntKind.i64.wrap ((l.length : Int) - 1) = (l.length : Int) - 1 := Pu.w64 (by omega) (by omega)
  rw [ay.eq, aL, aK, aT, ao, hw, ← e]
  exact q1
theorem ae.uy {k k1 : Nat} {y : Int} {r : Nat} {rs : List (List Int)} {inn : List Int} (hr : r < rs.length) (hs : Pu.cP 1000 1000 rs) : ∀ (m j : Nat), m ≤ (rs.getD r []).length → m < j →
    ae.L5 k k1 j ((m : Int) - 1) r y r rs inn = match Pu.dA (rs.getD r []) y m with
      | some q => ae.L3 k k1 ((rs.getD r []).getD q 0) ((r : Int) - 1) inn (rs.set r ((rs.getD r []).set q y))
      | none => ae.L3 k k1 y ((r : Int) - 1) inn rs
  | m, 0, _, hj => by omega
  | 0, j + 1, _, _ => by
    rw [ae.vC]
    have hl := hs.1
    have hn : ¬ ((0 : Int) ≤ ((0 : Nat) : Int) - 1) := by omega
    simp (disch := omega) only [↓au, bu, bw, aP, a8, a7, aK, aL, aM, bp, aS, aY, az, aB, aZ, ao, aN, aT, bD, bG, a9, ba, ag, Pu.w64, Int.toNat_natCast, decide_eq_true_eq, Int.ofNat_lt, Int.ofNat_le, if_true, if_false, Int.natCast_nonneg, decide_true, decide_false, Bool.not_true, Bool.not_false, Bool.false_eq_true, Bool.not_eq_true, Bool.true_and, Bool.and_true, Bool.false_and, Bool.and_false, hn, Pu.dA, ae.yr]
  | m + 1, j + 1, hm, hj => by
    rw [ae.vC]
    have hl := hs.1
    have hx := hs.at r
    have e : ((m + 1 : Nat) : Int) - 1 = (m : Int) := by omega
    have h1 : m < (rs.getD r []).length := by omega
    have ih := ae.uy (k := k) (k1 := k1) (y := y) (inn := inn) hr hs m j (by omega) (by omega)
    rw [e]
    unfold Pu.dA
    by_cases c : (rs.getD r []).getD m 0 < y
    · simp (disch := omega) only [↓au, bu, bw, aP, a8, a7, aK, aL, aM, bp, aS, aY, az, aB, aZ, ao, aN, aT, bD, bG, a9, ba, ag, Pu.w64, Int.toNat_natCast, decide_eq_true_eq, Int.ofNat_lt, Int.ofNat_le, if_true, if_false, Int.natCast_nonneg, decide_true, decide_false, Bool.not_true, Bool.not_false, Bool.false_eq_true, Bool.not_eq_true, Bool.true_and, Bool.and_true, Bool.false_and, Bool.and_false, hr, h1, c, ae.yr]
    · simp (disch := omega) only [↓au, bu, bw, aP, a8, a7, aK, aL, aM, bp, aS, aY, az, aB, aZ, ao, aN, aT, bD, bG, a9, ba, ag, Pu.w64, Int.toNat_natCast, decide_eq_true_eq, Int.ofNat_lt, Int.ofNat_le, if_true, if_false, Int.natCast_nonneg, decide_true, decide_false, Bool.not_true, Bool.not_false, Bool.false_eq_true, Bool.not_eq_true, Bool.true_and, Bool.and_true, Bool.false_and, Bool.and_false, hr, h1, c, ih]
theorem ae.rP {k : Nat} {inn : List Int} (hk : 2000 ≤ k) : ∀ (r j : Nat) (y : Int) (rs : List (List Int)), r ≤ rs.length → Pu.cP 1000 1000 rs → r < j →
    ae.L3 k j y ((r : Int) - 1) inn rs = some ((Pu.dZ r rs y).2, (inn, (Pu.dZ r rs y).1))
  | r, 0, _, _, _, _, hj => by omega
  | 0, j + 1, y, rs, _, _, _ => by
    rw [ae.l0]
    have hn : ¬ ((0 : Int) ≤ ((0 : Nat) : Int) - 1) := by omega
    simp only [↓au, bu, bw, aP, a8, a7, aK, aL, aM, bp, aS, aY, az, aB, aZ, ao, aN, aT, bD, bG, a9, ba, ag, Pu.w64, Int.toNat_natCast, decide_eq_true_eq, Int.ofNat_lt, Int.ofNat_le, if_true, if_false, Int.natCast_nonneg, decide_true, decide_false, Bool.not_true, Bool.not_false, Bool.false_eq_true, Bool.not_eq_true, Bool.true_and, Bool.and_true, Bool.false_and, Bool.and_false, hn, Pu.dZ]
  | r + 1, j + 1, y, rs, hr, hs, hj => by
    rw [ae.l0]
    have e : ((r + 1 : Nat) : Int) - 1 = (r : Int) := by omega
    have hlt : r < rs.length := by omega
    have hx := hs.at r
    have hl := hs.1
    have h5 := ae.uy (k := k) (k1 := j) (y := y) (inn := inn) hlt hs (rs.getD r []).length k (by omega) (by omega)
    rw [e]
    unfold Pu.dZ
    cases hq : Pu.dA (rs.getD r []) y (rs.getD r []).length with
    | some q =>
      rw [hq] at h5
      simp (disch := omega) only [↓au, bu, bw, aP, a8, a7, aK, aL, aM, bp, aS, aY, az, aB, aZ, ao, aN, aT, bD, bG, a9, ba, ag, Pu.w64, Int.toNat_natCast, decide_eq_true_eq, Int.ofNat_lt, Int.ofNat_le, if_true, if_false, Int.natCast_nonneg, decide_true, decide_false, Bool.not_true, Bool.not_false, Bool.false_eq_true, Bool.not_eq_true, Bool.true_and, Bool.and_true, Bool.false_and, Bool.and_false, hlt, h5]
      exact ae.rP hk r j _ _ (by rw [List.length_set]; omega) (hs.set r (by rw [List.length_set]; exact hx)) (by omega)
    | none =>
      rw [hq] at h5
      simp (disch := omega) only [↓au, bu, bw, aP, a8, a7, aK, aL, aM, bp, aS, aY, az, aB, aZ, ao, aN, aT, bD, bG, a9, ba, ag, Pu.w64, Int.toNat_natCast, decide_eq_true_eq, Int.ofNat_lt, Int.ofNat_le, if_true, if_false, Int.natCast_nonneg, decide_true, decide_false, Bool.not_true, Bool.not_false, Bool.false_eq_true, Bool.not_eq_true, Bool.true_and, Bool.and_true, Bool.false_and, Bool.and_false, hlt, h5]
      exact ae.rP hk r j _ _ (by omega) hs (by omega)
theorem ae.uq {k k1 : Nat} {y : Int} {r n : Nat} {rs : List (List Int)} {inn : List Int} (hr : r < rs.length) (hn : r < n) (hs : Pu.cP 1000 1000 rs) : ∀ (m j : Nat), m ≤ (rs.getD r []).length → m < j →
    ae.L4 k k1 j ((m : Int) - 1) r y r 0 n rs inn = match Pu.dA (rs.getD r []) y m with
      | some q => ae.L2 k k1 ((rs.getD r []).getD q 0) ((r : Int) - 1) 0 n inn (rs.set r ((rs.getD r []).set q y))
      | none => ae.L2 k k1 y ((r : Int) - 1) 0 n inn rs
  | m, 0, _, hj => by omega
  | 0, j + 1, _, _ => by
    rw [ae.pI]
    have hl := hs.1
    have hn : ¬ ((0 : Int) ≤ ((0 : Nat) : Int) - 1) := by omega
    simp (disch := omega) only [↓au, bu, bw, aP, a8, a7, aK, aL, aM, bp, aS, aY, az, aB, aZ, ao, aN, aT, bD, bG, a9, ba, ag, Pu.w64, Int.toNat_natCast, decide_eq_true_eq, Int.ofNat_lt, Int.ofNat_le, if_true, if_false, Int.natCast_nonneg, decide_true, decide_false, Bool.not_true, Bool.not_false, Bool.false_eq_true, Bool.not_eq_true, Bool.true_and, Bool.and_true, Bool.false_and, Bool.and_false, hn, Pu.dA, ae.yw]
  | m + 1, j + 1, hm, hj => by
    rw [ae.pI]
    have hl := hs.1
    have hx := hs.at r
    have e : ((m + 1 : Nat) : Int) - 1 = (m : Int) := by omega
    have h1 : m < (rs.getD r []).length := by omega
    have ih := ae.uq (k := k) (k1 := k1) (y := y) (inn := inn) hr hn hs m j (by omega) (by omega)
    rw [e]
    unfold Pu.dA
    by_cases c : (rs.getD r []).getD m 0 < y
    · simp (disch := omega) only [↓au, bu, bw, aP, a8, a7, aK, aL, aM, bp, aS, aY, az, aB, aZ, ao, aN, aT, bD, bG, a9, ba, ag, Pu.w64, Int.toNat_natCast, decide_eq_true_eq, Int.ofNat_lt, Int.ofNat_le, if_true, if_false, Int.natCast_nonneg, decide_true, decide_false, Bool.not_true, Bool.not_false, Bool.false_eq_true, Bool.not_eq_true, Bool.true_and, Bool.and_true, Bool.false_and, Bool.and_false, lD, Nat.zero_add, hr, hn, h1, c, ae.yw]
    · simp (disch := omega) only [↓au, bu, bw, aP, a8, a7, aK, aL, aM, bp, aS, aY, az, aB, aZ, ao, aN, aT, bD, bG, a9, ba, ag, Pu.w64, Int.toNat_natCast, decide_eq_true_eq, Int.ofNat_lt, Int.ofNat_le, if_true, if_false, Int.natCast_nonneg, decide_true, decide_false, Bool.not_true, Bool.not_false, Bool.false_eq_true, Bool.not_eq_true, Bool.true_and, Bool.and_true, Bool.false_and, Bool.and_false, lD, Nat.zero_add, hr, hn, h1, c, ih]
theorem ae.rF {k : Nat} {n : Nat} {inn : List Int} (hk : 2000 ≤ k) : ∀ (r j : Nat) (y : Int) (rs : List (List Int)), r ≤ rs.length → r ≤ n → Pu.cP 1000 1000 rs → r < j →
    ae.L2 k j y ((r : Int) - 1) 0 n inn rs = some ((Pu.dZ r rs y).2, (inn, (Pu.dZ r rs y).1.take n))
  | r, 0, _, _, _, _, _, hj => by omega
  | 0, j + 1, y, rs, _, _, _, _ => by
    rw [ae.mS]
    have hn : ¬ ((0 : Int) ≤ ((0 : Nat) : Int) - 1) := by omega
    simp only [↓au, bu, bw, aP, a8, a7, aK, aL, aM, bp, aS, aY, az, aB, aZ, ao, aN, aT, bD, bG, a9, ba, ag, Pu.w64, Int.toNat_natCast, decide_eq_true_eq, Int.ofNat_lt, Int.ofNat_le, if_true, if_false, Int.natCast_nonneg, decide_true, decide_false, Bool.not_true, Bool.not_false, Bool.false_eq_true, Bool.not_eq_true, Bool.true_and, Bool.and_true, Bool.false_and, Bool.and_false, hn, Pu.dZ, List.drop_zero]
  | r + 1, j + 1, y, rs, hr, hrn, hs, hj => by
    rw [ae.mS]
    have e : ((r + 1 : Nat) : Int) - 1 = (r : Int) := by omega
    have hlt : r < rs.length := by omega
    have hn : r < n := by omega
    have hx := hs.at r
    have hl := hs.1
    have h5 := ae.uq (k := k) (k1 := j) (y := y) (n := n) (inn := inn) hlt hn hs (rs.getD r []).length k (by omega) (by omega)
    rw [e]
    unfold Pu.dZ
    cases hq : Pu.dA (rs.getD r []) y (rs.getD r []).length with
    | some q =>
      rw [hq] at h5
      simp (disch := omega) only [↓au, bu, bw, aP, a8, a7, aK, aL, aM, bp, aS, aY, az, aB, aZ, ao, aN, aT, bD, bG, a9, ba, ag, Pu.w64, Int.toNat_natCast, decide_eq_true_eq, Int.ofNat_lt, Int.ofNat_le, if_true, if_false, Int.natCast_nonneg, decide_true, decide_false, Bool.not_true, Bool.not_false, Bool.false_eq_true, Bool.not_eq_true, Bool.true_and, Bool.and_true, Bool.false_and, Bool.and_false, lD, Nat.zero_add, hlt, hn, h5]
      exact ae.rF hk r j _ _ (by rw [List.length_set]; omega) (by omega) (hs.set r (by rw [List.length_set]; exact hx)) (by omega)
    | none =>
      rw [hq] at h5
      simp (disch := omega) only [↓au, bu, bw, aP, a8, a7, aK, aL, aM, bp, aS, aY, az, aB, aZ, ao, aN, aT, bD, bG, a9, ba, ag, Pu.w64, Int.toNat_natCast, decide_eq_true_eq, Int.ofNat_lt, Int.ofNat_le, if_true, if_false, Int.natCast_nonneg, decide_true, decide_false, Bool.not_true, Bool.not_false, Bool.false_eq_true, Bool.not_eq_true, Bool.true_and, Bool.and_true, Bool.false_and, Bool.and_false, lD, Nat.zero_add, hlt, hn, h5]
      exact ae.rF hk r j _ _ (by omega) (by omega) hs (by omega)
theorem ae.is {k : Nat} {rs : List (List Int)} {n : Nat} {inn : List Int} (hk : 4194304 + 1 ≤ k) (hs : Pu.cP 9 9 rs) (hn : n < rs.length) (hl : 1 ≤ (rs.getD n []).length) :
    ae k n inn rs = some ((Pu.bZ rs n).2, (inn, (Pu.bZ rs n).1)) := by
  obtain ⟨k, rfl⟩ : ∃ k', k = k' + 1 := ⟨k - 1, by omega⟩
  rw [ae.eq]
  have h9 := hs.1
  have hx := hs.at n
  have hs' : Pu.cP 1000 1000 (rs.set n ((rs.getD n []).take ((rs.getD n []).length - 1))) := (hs.mono (by omega) (by omega)).set n (by rw [List.length_take]; omega)
  have ew : IntKind.i64.wrap (((rs.getD n []).length : Int) - 1) = (((rs.getD n []).length - 1 : Nat) : Int) := by rw [Pu.w64 (by omega) (by omega)]; omega
  have h3 := ae.rP (k := k) (inn := inn) (by omega) n k ((rs.getD n []).getD ((rs.getD n []).length - 1) 0) _ (by rw [List.length_set]; omega) hs' (by omega)
  have h2 := ae.rF (k := k) (n := n) (inn := inn) (by omega) n k ((rs.getD n []).getD ((rs.getD n []).length - 1) 0) _ (by rw [List.length_set]; omega) (by omega) hs' (by omega)
  have q1 : (rs.getD n []).length - 1 < (rs.getD n []).length := by omega
  have q2 : (rs.getD n []).length - 1 ≤ (rs.getD n []).length := by omega
  have q3 : n ≤ (rs.set n ((rs.getD n []).take ((rs.getD n []).length - 1))).length := by rw [List.length_set]; omega
  unfold Pu.bZ
  by_cases c : (rs.getD n []).length = 1
  · have c' : (((rs.getD n []).length - 1 : Nat) : Int) = 0 := by omega
    rw [if_pos c]
    simp (disch := omega) only [↓au, bu, bw, aP, a8, a7, aK, aL, aM, bp, aS, aY, az, aB, aZ, ao, aN, aT, bD, bG, a9, ba, ag, Pu.w64, Int.toNat_natCast, decide_eq_true_eq, Int.ofNat_lt, Int.ofNat_le, if_true, if_false, Int.natCast_nonneg, decide_true, decide_false, Bool.not_true, Bool.not_false, Bool.false_eq_true, Bool.not_eq_true, Bool.true_and, Bool.and_true, Bool.false_and, Bool.and_false, mq, Nat.sub_zero, List.drop_zero, hn, ew, q1, q2, q3, ae.fT, h2]
    simp only [c', decide_true, if_true]
  · have c' : ¬ (((rs.getD n []).length - 1 : Nat) : Int) = 0 := by omega
    simp (disch := omega) only [↓au, bu, bw, aP, a8, a7, aK, aL, aM, bp, aS, aY, az, aB, aZ, ao, aN, aT, bD, bG, a9, ba, ag, Pu.w64, Int.toNat_natCast, decide_eq_true_eq, Int.ofNat_lt, Int.ofNat_le, if_true, if_false, Int.natCast_nonneg, decide_true, decide_false, Bool.not_true, Bool.not_false, Bool.false_eq_true, Bool.not_eq_true, Bool.true_and, Bool.and_true, Bool.false_and, Bool.and_false, mq, Nat.sub_zero, List.drop_zero, hn, ew, q1, q2, q3, c, c', ae.gq, h3]
theorem aE.top {q : Pu.Tab} {m : Nat} {P Q : List (List Int)} (h : Pu.Unr q (m + 1) P Q) {a : Nat} (ha : a < Q.length) (htop : Pu.cel Q a ((Q.getD a []).length - 1) = ((m + 1 : Nat) : Int)) :
    (∀ r, r < Q.length → 1 ≤ (Q.getD r []).length) ∧ (∀ r, r < Q.length → r ≠ a → (Q.getD r []).getD ((Q.getD r []).length - 1) 0 < ((m + 1 : Nat) : Int)) := by
  have hp := fun r hr => Pu.ph h.pl (r := r) hr
  refine ⟨hp, fun r hr hne => ?_⟩
  have h1 := hp r hr
  have h2 := hp a ha
  simp only at h1 h2
  have hb := ((Pu.mG h.pl h.st).2 _ (Pu.lP (rs := Q) hr (show (Q.getD r []).length - 1 < (Q.getD r []).length by omega))).2
  have hf := h.fl
  simp only at hb
  rw [hf] at hb
  unfold Pu.cel at hb
  have hx : (Q.getD r []).getD ((Q.getD r []).length - 1) 0 ≠ ((m + 1 : Nat) : Int) := fun e => hne (Pu.qS h.pl h.st (a := r) (b := a) (x := (Q.getD r []).length - 1) (y := (Q.getD a []).length - 1) hr (show _ < (Q.getD r []).length by omega) ha (show _ < (Q.getD a []).length by omega) (by rw [htop]; exact e)).1
  omega
theorem aE.yp {k : Nat} {q : Pu.Tab} {inn qin : List Int} (hk : 4194304 + 40 ≤ k) : ∀ (m j n : Nat) (acc : List (Int × Int)) (P F : List (List Int)), Pu.Unr q m P (F.take n) → n ≤ F.length → m < j → m ≤ 9 → acc.length + m ≤ 9 → n ≤ 9 →
    aE.L3 k j 0 n acc inn P qin F = some (acc ++ Pu.prs q m P).reverse
  | m, 0, n, acc, P, F, _, _, hj, _, _, _ => by omega
  | 0, j + 1, n, acc, P, F, h, hn, _, _, ha, _ => by
    have h0 : n = 0 := by
      have hlen : (F.take n).length = n := by rw [List.length_take]; omega
      refine Nat.eq_zero_of_not_pos fun hp => ?_
      have h1 := Pu.ph h.pl (r := 0) (by simp only; omega)
      have h2 := Pu.lP (rs := F.take n) (r := 0) (x := 0) (by omega) h1
      have := h.fl
      rw [List.eq_nil_of_length_eq_zero this] at h2
      cases h2
    rw [aE.l0]
    have hr := ay.is (k := k) (l := acc) (by omega) (by omega)
    have hn0 : ¬ (0 : Int) < ((n : Nat) : Int) := by omega
    refine Pu.tX hn0 (Pu.bE hr ?_)
    simp [Pu.prs]
  | m + 1, j + 1, n, acc, P, F, h, hn, hj, h9, ha, hn9 => by
    obtain ⟨a, a1, a2, a3, a4, a5, a6⟩ := h.step
    have hlen : (F.take n).length = n := by rw [List.length_take]; omega
    obtain ⟨t1, t2⟩ := aE.top h a2 a4
    have hQ9 := Pu.gV h.pl
    have hlo := bI.is (k := k) (Q := F.take n) (inn := qin) (a := a) (K := ((m + 1 : Nat) : Int)) (by omega) hQ9 t1 a2 a4 t2
    rw [hlen] at a2
    have haF : a < F.length := by omega
    have hget : (F.take n).getD a [] = F.getD a [] := Pu.fL a2 []
    rw [hget] at a3
    have a4' : (F.getD a []).getD ((F.getD a []).length - 1) 0 = ((m + 1 : Nat) : Int) := by
      have := a4
      unfold Pu.cel at this
      rw [hget] at this
      exact this
    have hr9 := hQ9.at a
    simp only [hget] at hr9
    have hP1 : a < P.length := by rw [h.same.1, hlen]; exact a2
    have hP2 : 1 ≤ (P.getD a []).length := by rw [h.same.2, hget]; exact a3
    have hrm := ae.is (k := k) (inn := inn) (by omega) h.p9 hP1 hP2
    have hw : IntKind.i64.wrap (((F.getD a []).length : Int) - 1) = (((F.getD a []).length - 1 : Nat) : Int) := by rw [Pu.w64 (by omega) (by omega)]; omega
    have hlt : (F.getD a []).length - 1 < (F.getD a []).length := by omega
    have hap : (acc ++ [(((m + 1 : Nat) : Int), (Pu.bZ P a).2)]).length ≤ 1099511627776 := by rw [List.length_append, List.length_singleton]; omega
    have hJ1 : ∀ (n' : Nat) (F' : List (List Int)), F'.take n' = Pu.cr (F.take n) a → n' ≤ F'.length → n' ≤ 9 → aE.J1 k j a ((m + 1 : Nat) : Int) 0 n' acc inn P qin F' = some (acc ++ Pu.prs q (m + 1) P).reverse := by
      intro n' F' e1 e2 e3
      have ih := aE.yp (inn := inn) (qin := qin) hk m j n' (acc ++ [(((m + 1 : Nat) : Int), (Pu.bZ P a).2)]) (Pu.bZ P a).1 F' (by rw [e1]; exact a6) e2 (by omega) (by omega) (by rw [List.length_append, List.length_singleton]; omega) e3
      rw [aE.gq]
      refine Pu.bE hrm ?_
      refine Pu.tG hap ?_
      simp only [aY]
      rw [ih, show Pu.prs q (m + 1) P = (((m + 1 : Nat) : Int), (Pu.bZ P (Pu.rowOf q ((m + 1 : Nat) : Int)).toNat).2) :: Pu.prs q m (Pu.bZ P (Pu.rowOf q ((m + 1 : Nat) : Int)).toNat).1 from rfl]
      rw [a1, Int.toNat_natCast, List.append_assoc, List.singleton_append]
    rw [aE.l0]
    have hn0 : (0 : Int) < ((n : Nat) : Int) := by omega
    simp only [aM, aK, aL, bp, aT, ao, az, aB, lD, mq, aS, List.drop_zero, Nat.zero_add, Nat.sub_zero]
    refine Pu.tG hn0 (Pu.bE hlo ?_)
    simp only [Int.toNat_natCast, hw, a4']
    have i0 := Int.natCast_nonneg a
    have i1 := Int.natCast_nonneg ((F.getD a []).length - 1)
    refine Pu.tG i0 (Pu.tG a2 (Pu.tG haF (Pu.tG haF (Pu.tG i0 (Pu.tG a2 (Pu.tG haF (Pu.tG haF (Pu.tG i1 (Pu.tG hlt (Pu.tG haF (Pu.tG hlt (Pu.tG i0 (Pu.tG a2 (Pu.tG haF (Pu.tG haF (Pu.tG i1 (Pu.tG (Nat.le_of_lt hlt) (Pu.tG i0 (Pu.tG a2 (Pu.tG haF (Pu.tG haF (Pu.tG rfl ?_))))))))))))))))))))))
    have hts : (F.set a ((F.getD a []).take ((F.getD a []).length - 1))).take n = (F.take n).set a ((F.getD a []).take ((F.getD a []).length - 1)) := List.take_set
    by_cases c : (F.getD a []).length = 1
    · have c' : (((F.getD a []).length - 1 : Nat) : Int) = 0 := by omega
      refine Pu.tG c' (Pu.tG i0 (Pu.tG (Nat.le_of_lt a2) (hJ1 a _ ?_ (by rw [List.length_set]; omega) (by omega))))
      unfold Pu.cr
      rw [hget, if_pos c, ← hts, List.take_take, Nat.min_eq_left (by omega)]
    · have c' : ¬ (((F.getD a []).length - 1 : Nat) : Int) = 0 := by omega
      refine Pu.tX c' (hJ1 n _ ?_ (by rw [List.length_set]; omega) hn9)
      unfold Pu.cr
      rw [hget, if_neg c, hts]
theorem aE.yl {k : Nat} {q : Pu.Tab} {inn qin : List Int} (hk : 4194304 + 40 ≤ k) : ∀ (m j : Nat) (acc : List (Int × Int)) (P Q : List (List Int)), Pu.Unr q m P Q → m < j → m ≤ 9 → acc.length + m ≤ 9 →
    aE.L0 k j acc inn P qin Q = some (acc ++ Pu.prs q m P).reverse
  | m, 0, acc, P, Q, _, hj, _, _ => by omega
  | 0, j + 1, acc, P, Q, h, _, _, ha => by
    have h0 : Q.length = 0 := by
      refine Nat.eq_zero_of_not_pos fun hp => ?_
      have h1 := Pu.ph h.pl (r := 0) hp
      have h2 := Pu.lP (rs := Q) (r := 0) (x := 0) hp h1
      have := h.fl
      rw [List.eq_nil_of_length_eq_zero this] at h2
      cases h2
    rw [aE.bO]
    have hr := ay.is (k := k) (l := acc) (by omega) (by omega)
    have hn0 : ¬ (0 : Int) < (Q.length : Int) := by omega
    refine Pu.tX hn0 (Pu.bE hr ?_)
    simp [Pu.prs]
  | m + 1, j + 1, acc, P, F, h, hj, h9, ha => by
    obtain ⟨a, a1, a2, a3, a4, a5, a6⟩ := h.step
    obtain ⟨t1, t2⟩ := aE.top h a2 a4
    have hQ9 := Pu.gV h.pl
    have hlo := bI.is (k := k) (Q := F) (inn := qin) (a := a) (K := ((m + 1 : Nat) : Int)) (by omega) hQ9 t1 a2 a4 t2
    have hF9 : F.length ≤ 9 := hQ9.1
    have a4' : (F.getD a []).getD ((F.getD a []).length - 1) 0 = ((m + 1 : Nat) : Int) := a4
    have hr9 : (F.getD a []).length ≤ 9 := hQ9.at a
    have hP1 : a < P.length := by rw [h.same.1]; exact a2
    have hP2 : 1 ≤ (P.getD a []).length := by rw [h.same.2]; exact a3
    have hrm := ae.is (k := k) (inn := inn) (by omega) h.p9 hP1 hP2
    have hw : IntKind.i64.wrap (((F.getD a []).length : Int) - 1) = (((F.getD a []).length - 1 : Nat) : Int) := by rw [Pu.w64 (by omega) (by omega)]; omega
    have hlt : (F.getD a []).length - 1 < (F.getD a []).length := by omega
    have hap : (acc ++ [(((m + 1 : Nat) : Int), (Pu.bZ P a).2)]).length ≤ 1099511627776 := by rw [List.length_append, List.length_singleton]; omega
    have hfin : (acc ++ [(((m + 1 : Nat) : Int), (Pu.bZ P a).2)] ++ Pu.prs q m (Pu.bZ P a).1) = acc ++ Pu.prs q (m + 1) P := by
      rw [show Pu.prs q (m + 1) P = (((m + 1 : Nat) : Int), (Pu.bZ P (Pu.rowOf q ((m + 1 : Nat) : Int)).toNat).2) :: Pu.prs q m (Pu.bZ P (Pu.rowOf q ((m + 1 : Nat) : Int)).toNat).1 from rfl, a1, Int.toNat_natCast, List.append_assoc, List.singleton_append]
    rw [aE.bO]
    have hn0 : (0 : Int) < (F.length : Int) := by omega
    simp only [aM, aK, aL, bp, aT, ao, az, aB, mq, aS, List.drop_zero, Nat.sub_zero]
    refine Pu.tG hn0 (Pu.bE hlo ?_)
    simp only [Int.toNat_natCast, hw, a4']
    have i0 := Int.natCast_nonneg a
    have i1 := Int.natCast_nonneg ((F.getD a []).length - 1)
    refine Pu.tG i0 (Pu.tG a2 (Pu.tG a2 (Pu.tG a2 (Pu.tG i0 (Pu.tG a2 (Pu.tG a2 (Pu.tG a2 (Pu.tG i1 (Pu.tG hlt (Pu.tG a2 (Pu.tG hlt (Pu.tG i0 (Pu.tG a2 (Pu.tG a2 (Pu.tG a2 (Pu.tG i1 (Pu.tG (Nat.le_of_lt hlt) (Pu.tG i0 (Pu.tG a2 (Pu.tG a2 (Pu.tG a2 (Pu.tG rfl ?_))))))))))))))))))))))
    by_cases c : (F.getD a []).length = 1
    · have c' : (((F.getD a []).length - 1 : Nat) : Int) = 0 := by omega
      have a2' : a ≤ (F.set a ((F.getD a []).take ((F.getD a []).length - 1))).length := by rw [List.length_set]; omega
      refine Pu.tG c' (Pu.tG i0 (Pu.tG a2' ?_))
      have ih := aE.yp (inn := inn) (qin := qin) hk m j a (acc ++ [(((m + 1 : Nat) : Int), (Pu.bZ P a).2)]) (Pu.bZ P a).1 (F.set a ((F.getD a []).take ((F.getD a []).length - 1))) (by
        have e : (F.set a ((F.getD a []).take ((F.getD a []).length - 1))).take a = Pu.cr F a := by unfold Pu.cr; rw [if_pos c]
        rw [e]; exact a6) a2' (by omega) (by omega) (by rw [List.length_append, List.length_singleton]; omega) (by omega)
      rw [hfin] at ih
      rw [aE.gq]
      exact Pu.bE hrm (Pu.tG hap ih)
    · have c' : ¬ (((F.getD a []).length - 1 : Nat) : Int) = 0 := by omega
      refine Pu.tX c' ?_
      have ih := aE.yl (inn := inn) (qin := qin) hk m j (acc ++ [(((m + 1 : Nat) : Int), (Pu.bZ P a).2)]) (Pu.bZ P a).1 (F.set a ((F.getD a []).take ((F.getD a []).length - 1))) (by
        have e : F.set a ((F.getD a []).take ((F.getD a []).length - 1)) = Pu.cr F a := by unfold Pu.cr; rw [if_neg c]
        rw [e]; exact a6) (by omega) (by omega) (by rw [List.length_append, List.length_singleton]; omega)
      rw [hfin] at ih
      rw [aE.mV]
      exact Pu.bE hrm (Pu.tG hap ih)
theorem aE.is {k : Nat} {p q : Pu.Tab} (hk : 4194304 + 50 ≤ k) (hp : Pu.bL p = true) (hq : Pu.bL q = true) (hs : Pu.eH q = true) (ho : Pu.outer p = Pu.outer q) : aE k p q = some (Pu.prs q q.2.flatten.length p.2).reverse := by
  obtain ⟨k, rfl⟩ : ∃ k', k = k' + 1 := ⟨k - 1, by omega⟩
  have okT : ∀ t : Pu.Tab, Pu.bL t = true → Pu.kG t := fun t h => by
    have hr := Pu.gV h
    exact ⟨by rw [Pu.dJ h]; simp, by have := hr.1; omega, fun r hm => by have := hr.2 r hm; omega⟩
  have o1 := okT p hp
  have o2 := okT q hq
  have h1 := bn.is (k := k) (t := p) (by omega) o1.1 o1.2.1 o1.2.2
  have h2 := bn.is (k := k) (t := q) (by omega) o2.1 o2.2.1 o2.2.2
  have h9 := Pu.jv hq
  rw [aE.eq, show ((p.1, p.2) : Pu.Tab) = p from rfl, show ((q.1, q.2) : Pu.Tab) = q from rfl]
  refine Pu.bE h1 (Pu.bE h2 ?_)
  have := aE.yl (k := k) (inn := p.1) (qin := q.1) (by omega) q.2.flatten.length k [] p.2 q.2 (Pu.q8 hp hq hs ho) (by omega) h9 (by simpa using h9)
  rw [List.nil_append] at this
  exact this
theorem bj.loop {k : Nat} {l : List (Int × Int)} (h9 : l.length ≤ 1000) : ∀ (m j i : Nat) (acc : List Int), i + m = l.length → m < j → acc.length = i → bj.L1 k j l.length i acc l = some (acc ++ (l.drop i).map Prod.snd, true)
  | m, 0, i, acc, _, hj, _ => by omega
  | 0, j + 1, i, acc, hi, _, _ => by
    rw [bj.ef]
    have hn : ¬ (i : Int) < l.length := by omega
    refine Pu.tX hn ?_
    rw [List.drop_of_length_le (by omega)]
    simp
  | m + 1, j + 1, i, acc, hi, hj, ha => by
    have hlt : i < l.length := by omega
    have hn : (i : Int) < l.length := by omega
    have hw : IntKind.i64.wrap ((i : Int) + 1) = ((i + 1 : Nat) : Int) := by rw [Pu.w64 (by omega) (by omega)]; omega
    have ih := bj.loop (k := k) h9 m j (i + 1) (acc ++ [(l.getD i (0, 0)).2]) (by omega) (by omega) (by rw [List.length_append, List.length_singleton]; omega)
    have hap : (acc ++ [(l.getD i (0, 0)).2]).length ≤ 1099511627776 := by rw [List.length_append, List.length_singleton]; omega
    rw [bj.ef]
    simp only [aM, aK, aL, bp, aN, ao, aY, Int.toNat_natCast, hw]
    refine Pu.tG hn (Pu.tG (Int.natCast_nonneg i) (Pu.tG hlt (Pu.tG hlt (Pu.tG (show (0 : Int) ≤ 1 by omega) (Pu.tG (show (1 : Int) < ((2 : Nat) : Int) by omega) (Pu.tG hap ?_))))))
    rw [ih, Pu.drop_cons hlt (0, 0), List.map_cons, List.append_assoc, List.singleton_append]
theorem bj.is {k : Nat} {p q : Pu.Tab} (hk : 4194304 + 60 ≤ k) (hp : Pu.kG p) (hq : Pu.kG q) : bj k p q = some (Pu.fY p q) := by
  obtain ⟨k, rfl⟩ : ∃ k', k = k' + 1 := ⟨k - 1, by omega⟩
  have h1 := dF.is (k := k) (t := p) (by omega) hp.1 hp.2.1 hp.2.2
  have h2 := dF.is (k := k) (t := q) (by omega) hq.1 hq.2.1 hq.2.2
  have h3 := dw.is (k := k) (t := q) (by omega) hq.1 hq.2.1 hq.2.2
  have h4 := dg.is (k := k) (a := p) (b := q) (by omega) hp hq
  have shp : ∀ t : Pu.Tab, Pu.bL t = true → Pu.shapeOf t = ((Pu.outer t, []), true) := fun t h => by
    have h' := h
    simp only [Pu.bL, Bool.and_eq_true] at h'
    unfold Pu.shapeOf
    rw [if_pos (Pu.jU h'.1), Pu.dJ h]
  rw [bj.eq, show ((p.1, p.2) : Pu.Tab) = p from rfl, show ((q.1, q.2) : Pu.Tab) = q from rfl]
  unfold Pu.fY
  refine Pu.bE h1 ?_
  cases c3 : Pu.bL p with
  | false => rw [if_neg (fun h => by cases h.1)]; exact Pu.tM rfl
  | true =>
    refine Pu.tN (Pu.bE h2 ?_)
    cases c4 : Pu.bL q with
    | false => rw [if_neg (fun h => by cases h.2.1)]; exact Pu.tM rfl
    | true =>
      refine Pu.tN (Pu.bE h3 ?_)
      cases c5 : Pu.eH q with
      | false => rw [if_neg (fun h => by cases h.2.2.1)]; exact Pu.tM rfl
      | true =>
        rw [shp p c3, shp q c4] at h4
        refine Pu.tN (Pu.bE h4 ?_)
        by_cases c6 : Pu.outer p = Pu.outer q
        · rw [if_pos ⟨rfl, rfl, rfl, c6⟩, decide_eq_true (by simp only [c6])]
          refine Pu.tN ?_
          have hu := aE.is (k := k) (by omega) c3 c4 c5 c6
          have h9 := Pu.jv c4
          have hl := bj.loop (k := k) (l := (Pu.prs q q.2.flatten.length p.2).reverse) (by rw [List.length_reverse, Pu.sn]; omega) q.2.flatten.length k 0 [] (by rw [List.length_reverse, Pu.sn]; omega) (by omega) rfl
          rw [bj.fT]
          refine Pu.bE hu ?_
          rw [List.drop_zero, List.nil_append, Pu.vE] at hl
          exact hl
        · rw [if_neg (fun h => c6 h.2.2.2), decide_eq_false (fun h => c6 (congrArg Prod.fst h))]
          exact Pu.tM rfl
theorem bR.loop {k : Nat} {a b : List Int} (hl : a.length = b.length) (ha : a.length ≤ 1048576) : ∀ (m j i : Nat), i + m = a.length → m < j → bR.L0 k j i a b = some (decide (a.drop i = b.drop i))
  | m, 0, i, _, hj => by omega
  | 0, j + 1, i, hi, _ => by
    rw [bR.bO]
    have e : i = a.length := by omega
    subst e
    simp [hl]
  | m + 1, j + 1, i, hi, hj => by
    rw [bR.bO]
    have h1 : i < a.length := by omega
    have h2 : i < b.length := by omega
    have ih := bR.loop (k := k) hl ha m j (i + 1) (by omega) (by omega)
    rw [Int.natCast_succ] at ih
    rw [Pu.drop_cons h1 0, Pu.drop_cons h2 0]
    by_cases e : a.getD i 0 = b.getD i 0 <;> simp (disch := omega) only [au, bu, bw, aP, aK, aL, aM, bp, ao, aN, bD, bG, Pu.w64, Int.toNat_natCast, decide_eq_true_eq, Int.ofNat_lt, h1, h2, if_true, Int.natCast_nonneg, decide_true, ih, e, List.cons.injEq, true_and, false_and, decide_false, Bool.not_true, Bool.not_false, if_false, Bool.false_eq_true]
theorem bR.is {k : Nat} {a b : List Int} (hk : 4194304 + 1 ≤ k) (ha : a.length ≤ 1048576) : bR k a b = some (decide (a = b)) := by
  obtain ⟨k, rfl⟩ : ∃ k', k = k' + 1 := ⟨k - 1, by omega⟩
  rw [bR.eq]
  by_cases hl : a.length = b.length
  · have h := bR.loop (k := k) hl ha a.length k 0 (by omega) (by omega)
    rw [Int.natCast_zero] at h
    simp only [List.drop_zero] at h
    have hl' : (a.length : Int) = b.length := by omega
    simp only [au, bD, bG, aL, aK, hl', decide_true, Bool.not_true, Bool.false_eq_true, if_false, h]
  · have hne : a ≠ b := fun e => hl (by rw [e])
    have hl' : ¬ (a.length : Int) = b.length := by omega
    simp [hl', hne]
theorem b9.loop {k : Nat} {a b : List (List Int)} (hk : 4194304 + 1 ≤ k) (hl : a.length = b.length) (ha : a.length ≤ 1048576) (hr : ∀ x ∈ a, x.length ≤ 1048576) : ∀ (m j i : Nat), i + m = a.length → m < j → b9.L0 k j i a b = some (decide (a.drop i = b.drop i))
  | m, 0, i, _, hj => by omega
  | 0, j + 1, i, hi, _ => by
    rw [b9.bO]
    have e : i = a.length := by omega
    subst e
    simp [hl]
  | m + 1, j + 1, i, hi, hj => by
    rw [b9.bO]
    have h1 : i < a.length := by omega
    have h2 : i < b.length := by omega
    have ih := b9.loop (k := k) hk hl ha hr m j (i + 1) (by omega) (by omega)
    rw [Int.natCast_succ] at ih
    rw [Pu.drop_cons h1 [], Pu.drop_cons h2 []]
    have hq := bR.is (k := k) (a := a.getD i []) (b := b.getD i []) (by omega) (by rw [Pu.aW h1]; exact hr _ (List.getElem_mem h1))
    simp (disch := omega) only [au, bu, bw, aP, aK, aL, aM, bp, ao, aN, bD, hq, ag, Pu.w64, Int.toNat_natCast, decide_eq_true_eq, Int.ofNat_lt, h1, h2, if_true, Int.natCast_nonneg, decide_true, ih]
    by_cases e : a.getD i [] = b.getD i [] <;> simp only [e, List.cons.injEq, true_and, false_and, decide_false, decide_true, Bool.not_true, Bool.not_false, if_false, if_true, Bool.false_eq_true]
theorem b9.is {k : Nat} {a b : List (List Int)} (hk : 4194304 + 2 ≤ k) (ha : a.length ≤ 1048576) (hr : ∀ x ∈ a, x.length ≤ 1048576) : b9 k a b = some (decide (a = b)) := by
  obtain ⟨k, rfl⟩ : ∃ k', k = k' + 1 := ⟨k - 1, by omega⟩
  rw [b9.eq]
  by_cases hl : a.length = b.length
  · have h := b9.loop (k := k) (by omega) hl ha hr a.length k 0 (by omega) (by omega)
    rw [Int.natCast_zero] at h
    simp only [List.drop_zero] at h
    have hl' : (a.length : Int) = b.length := by omega
    simp only [au, bD, bG, aL, aK, hl', decide_true, Bool.not_true, Bool.false_eq_true, if_false, h]
  · have hne : a ≠ b := fun e => hl (by rw [e])
    have hl' : ¬ (a.length : Int) = b.length := by omega
    simp [hl', hne]
theorem dh.is {k : Nat} {a b : List Int × List (List Int)} (hk : 4194304 + 3 ≤ k) (h1 : a.1.length ≤ 1048576) (ha : a.2.length ≤ 1048576) (hr : ∀ x ∈ a.2, x.length ≤ 1048576) : dh k a b = some (decide (a = b)) := by
  obtain ⟨k, rfl⟩ : ∃ k', k = k' + 1 := ⟨k - 1, by omega⟩
  obtain ⟨a1, a2⟩ := a
  obtain ⟨b1, b2⟩ := b
  rw [dh.eq, bR.is (by omega) h1, ag, b9.is (by omega) ha hr]
  by_cases e1 : a1 = b1 <;> by_cases e2 : a2 = b2 <;> simp [e1, e2]
theorem bo.loop {k : Nat} : ∀ (m j i : Nat) (q : Int) (a : List Int), i + m = a.length → m < j → a.length ≤ 1048576 → 0 ≤ q → q + m ≤ 4000000000000 → bo.L0 k j q i a = some (q + m, a.take i ++ Pu.mark (a.drop i) q)
  | m, 0, i, q, a, _, hj, _, _, _ => by omega
  | 0, j + 1, i, q, a, hi, _, _, _, _ => by
    rw [bo.bO]
    have e : i = a.length := by omega
    subst e
    simp [Pu.mark]
  | m + 1, j + 1, i, q, a, hi, hj, ha, hq, hq2 => by
    rw [bo.bO]
    have h1 : i < a.length := by omega
    have ih := bo.loop (k := k) m j (i + 1) (q + 1) (a.set i q) (by simp; omega) (by omega) (by simpa using ha) (by omega) (by omega)
    rw [Int.natCast_succ] at ih
    have e1 : (a.set i q).take (i + 1) = a.take i ++ [q] := by
      rw [Pu.take_succ (by simpa using h1) 0, List.take_set_of_le (Nat.le_refl _)]
      simp [h1]
    have e2 : (a.set i q).drop (i + 1) = a.drop (i + 1) := by rw [List.drop_set_of_lt (by omega)]
    rw [e1, e2] at ih
    rw [Pu.drop_cons h1 0]
    simp (disch := omega) only [au, bu, bw, aP, aK, aL, aM, aS, ao, aN, Pu.w64, Int.toNat_natCast, decide_eq_true_eq, Int.ofNat_lt, h1, if_true, Int.natCast_nonneg, decide_true, ih, Pu.mark]
    simp
    omega
theorem bo.is {k : Nat} {a : List Int} {q : Int} (hk : 4194304 + 1 ≤ k) (ha : a.length ≤ 1048576) (hq : 0 ≤ q) (hq2 : q + a.length ≤ 4000000000000) : bo k q a = some (q + a.length, Pu.mark a q) := by
  obtain ⟨k, rfl⟩ : ∃ k', k = k' + 1 := ⟨k - 1, by omega⟩
  rw [bo.eq]
  have h := bo.loop (k := k) a.length k 0 q a (by omega) (by omega) ha hq hq2
  rw [Int.natCast_zero] at h
  simpa using h
theorem aJ.inner {k k1 r : Nat} {x3 x4 x5 x6 x8 x11 : Int} {x7 : Bool} {x9 x10 : Nat} : ∀ (m j i : Nat) (q : Int) (a : List (List Int)), r < a.length → i + m = (a.getD r []).length → m < j → (a.getD r []).length ≤ 1048576 → 0 ≤ q → q + m ≤ 4000000000000 → 0 ≤ x4 → x4 ≤ 4000000000000 →
    aJ.L1 k k1 j r q i x3 x4 x5 x6 x7 x8 x9 x10 x11 a = aJ.L0 k k1 (q + m) (x4 + 1) (a.set r ((a.getD r []).take i ++ Pu.mark ((a.getD r []).drop i) q))
  | m, 0, i, q, a, _, _, hj, _, _, _, _, _ => by omega
  | 0, j + 1, i, q, a, hr, hi, _, _, _, _, _, _ => by
    rw [aJ.ef]
    have e : i = (a.getD r []).length := by omega
    have h1 : ¬ i < (a.getD r []).length := by omega
    have e2 : a.set r ((a.getD r []).take i ++ Pu.mark ((a.getD r []).drop i) q) = a := by
      rw [e, List.take_length, List.drop_length]
      simp only [Pu.mark, List.append_nil]
      rw [Pu.aW hr, List.set_getElem_self]
    rw [e2]
    simp (disch := omega) only [au, bu, aP, aK, aL, bp, ao, aN, Pu.w64, decide_eq_true_eq, Int.ofNat_lt, hr, h1, if_true, if_false, decide_true]
    simp
  | m + 1, j + 1, i, q, a, hr, hi, hj, ha, hq, hq2, hx, hx2 => by
    rw [aJ.ef]
    have h1 : i < (a.getD r []).length := by omega
    have eg : (a.set r ((a.getD r []).set i q)).getD r [] = (a.getD r []).set i q := by
      rw [Pu.aW (by simpa using hr)]; simp
    have ih := aJ.inner (k := k) (k1 := k1) (r := r) (x3 := x3) (x4 := x4) (x5 := x5) (x6 := x6) (x7 := x7) (x8 := x8) (x9 := x9) (x10 := x10) (x11 := x11) m j (i + 1) (q + 1) (a.set r ((a.getD r []).set i q)) (by rw [List.length_set]; exact hr) (by rw [eg, List.length_set]; omega) (by omega) (by rw [eg, List.length_set]; exact ha) (by omega) (by omega) hx hx2
    rw [eg, Int.natCast_succ, List.set_set] at ih
    have hl1 : i < ((a.getD r []).set i q).length := by rw [List.length_set]; exact h1
    have e1 : ((a.getD r []).set i q).take (i + 1) = (a.getD r []).take i ++ [q] := by
      rw [Pu.take_succ hl1 0, List.take_set_of_le (Nat.le_refl _), Pu.aW hl1, List.getElem_set_self]
    have e2 : ((a.getD r []).set i q).drop (i + 1) = (a.getD r []).drop (i + 1) := by rw [List.drop_set_of_lt (by omega)]
    rw [e1, e2] at ih
    rw [Pu.drop_cons h1 0]
    simp (disch := omega) only [au, bu, bw, aP, aK, aL, aM, aS, bp, ao, aN, Pu.w64, Int.toNat_natCast, decide_eq_true_eq, Int.ofNat_lt, hr, h1, if_true, Int.natCast_nonneg, decide_true, ih, Pu.mark]
    simp only [List.append_assoc, List.singleton_append]
    congr 1
    omega
theorem aJ.loop {k : Nat} (hk : 4194304 ≤ k) : ∀ (m j i : Nat) (q : Int) (a : List (List Int)), i + m = a.length → m < j → a.length ≤ 1048576 → (∀ x ∈ a, x.length ≤ 1048576) → 0 ≤ q → q + Pu.gT (a.drop i) ≤ 4000000000000 →
    aJ.L0 k j q i a = some (q + Pu.gT (a.drop i), a.take i ++ Pu.rU (a.drop i) q)
  | m, 0, i, q, a, _, hj, _, _, _, _ => by omega
  | 0, j + 1, i, q, a, hi, _, _, _, _, _ => by
    rw [aJ.bO]
    have e : i = a.length := by omega
    subst e
    simp [Pu.rU, Pu.gT]
  | m + 1, j + 1, i, q, a, hi, hj, ha, hr, hq, hq2 => by
    rw [aJ.bO]
    have h1 : i < a.length := by omega
    have hx := hr a[i] (List.getElem_mem h1)
    rw [← Pu.aW h1 []] at hx
    rw [Pu.drop_cons h1 []] at hq2 ⊢
    simp only [Pu.gT] at hq2
    simp (disch := omega) only [au, bu, bw, aP, aK, aL, aM, bp, ao, aN, Pu.w64, Int.toNat_natCast, decide_eq_true_eq, Int.ofNat_lt, h1, if_true, Int.natCast_nonneg, decide_true, Pu.rU, Pu.gT]
    have hin := fun (x7 : Bool) (x6 : Int) => aJ.inner (k := k) (k1 := j) (r := i) (x3 := q) (x4 := i) (x5 := i) (x6 := x6) (x7 := x7) (x8 := i) (x9 := i) (x10 := i) (x11 := q) (a.getD i []).length k 0 q a h1 (by omega) (by omega) hx hq (by omega) (by omega) (by omega)
    simp only [Int.natCast_zero] at hin
    rw [hin]
    have ih := aJ.loop (k := k) hk m j (i + 1) (q + (a.getD i []).length) (a.set i (Pu.mark (a.getD i []) q)) (by simp; omega) (by omega) (by simpa using ha) (fun x hx' => by
        rcases List.mem_or_eq_of_mem_set hx' with h | rfl
        · exact hr x h
        · rw [Pu.nh]; exact hx) (by omega) (by rw [List.drop_set_of_lt (by omega)]; omega)
    have e1 : (a.set i (Pu.mark (a.getD i []) q)).take (i + 1) = a.take i ++ [Pu.mark (a.getD i []) q] := by
      rw [Pu.take_succ (by simpa using h1) [], List.take_set_of_le (Nat.le_refl _), Pu.aW (by simpa using h1)]
      simp
    rw [e1, List.drop_set_of_lt (by omega), Int.natCast_succ] at ih
    simp only [List.take_zero, List.drop_zero, List.nil_append]
    rw [ih]
    simp
    omega
theorem aJ.is {k : Nat} {a : List (List Int)} {q : Int} (hk : 4194304 + 2 ≤ k) (ha : a.length ≤ 1048576) (hr : ∀ x ∈ a, x.length ≤ 1048576) (hq : 0 ≤ q) (hq2 : q + Pu.gT a ≤ 4000000000000) : aJ k q a = some (q + Pu.gT a, Pu.rU a q) := by
  obtain ⟨k, rfl⟩ : ∃ k', k = k' + 2 := ⟨k - 2, by omega⟩
  rw [aJ.eq]
  have h := aJ.loop (k := k) (by omega) a.length (k + 1) 0 q a (by omega) (by omega) ha hr hq hq2
  rw [Int.natCast_zero] at h
  simpa using h
theorem cg.is {k : Nat} {a : List Int} {b : List (List Int)} {q : Int} (hk : 4194304 + 3 ≤ k) (h1 : a.length ≤ 1048576) (ha : b.length ≤ 1048576) (hr : ∀ x ∈ b, x.length ≤ 1048576) (hq : 0 ≤ q) (hq2 : q + a.length + Pu.gT b ≤ 4000000000000) :
    cg k q a b = some (q + a.length + Pu.gT b, (Pu.mark a q, Pu.rU b (q + a.length))) := by
  obtain ⟨k, rfl⟩ : ∃ k', k = k' + 1 := ⟨k - 1, by omega⟩
  rw [cg.eq, bo.is (by omega) h1 hq (by omega), ag, aJ.is (by omega) ha hr (by omega) (by omega)]
  rfl
theorem bT.loop {k : Nat} {a : List Int} (ha : a.length ≤ 1048576) : ∀ (m j i : Nat) (q : Int), i + m = a.length → m < j → 0 ≤ q → q + m ≤ 4000000000000 → bT.L0 k j q i a = some (Pu.held (a.drop i) q)
  | m, 0, i, q, _, hj, _, _ => by omega
  | 0, j + 1, i, q, hi, _, _, _ => by
    rw [bT.bO]
    have e : i = a.length := by omega
    subst e
    simp [Pu.held]
  | m + 1, j + 1, i, q, hi, hj, hq, hq2 => by
    rw [bT.bO]
    have h1 : i < a.length := by omega
    have ih := bT.loop (k := k) ha m j (i + 1) (q + 1) (by omega) (by omega) (by omega) (by omega)
    rw [Int.natCast_succ] at ih
    rw [Pu.drop_cons h1 0]
    simp (disch := omega) only [au, bu, bw, aP, aK, aL, aM, bp, ao, aN, bD, bG, Pu.w64, Int.toNat_natCast, decide_eq_true_eq, Int.ofNat_lt, h1, if_true, Int.natCast_nonneg, decide_true, Pu.held, ih]
    by_cases e : a.getD i 0 = q <;> simp only [e, decide_true, decide_false, Bool.not_false, Bool.not_true, if_true, if_false, Bool.false_eq_true]
theorem bT.is {k : Nat} {a : List Int} {q : Int} (hk : 4194304 + 1 ≤ k) (ha : a.length ≤ 1048576) (hq : 0 ≤ q) (hq2 : q + a.length ≤ 4000000000000) : bT k a q = some (Pu.held a q) := by
  obtain ⟨k, rfl⟩ : ∃ k', k = k' + 1 := ⟨k - 1, by omega⟩
  rw [bT.eq]
  have h := bT.loop (k := k) ha a.length k 0 q (by omega) (by omega) hq hq2
  rw [Int.natCast_zero] at h
  exact h
theorem aD.is {p q : Pu.Tab} (h1 : p.1.length ≤ maxLen) (h2 : p.2.length ≤ maxLen) (h3 : ∀ r ∈ p.2, r.length ≤ maxLen) (g1 : q.1.length ≤ maxLen) (g2 : q.2.length ≤ maxLen) (g3 : ∀ r ∈ q.2, r.length ≤ maxLen) : ∃ k, aD k p q = some true := by
  refine ⟨4194304 + 80 + 1, ?_⟩
  generalize hkk : (4194304 + 80 : Nat) = k
  have hk : 4194304 + 80 ≤ k := by omega
  clear hkk
  rw [aD.eq]
  obtain ⟨r, hr0, hr1⟩ := dj.is (k := k) (a := p) (b := 1048576) (by omega) h1 h2 h3 (by omega) (by omega)
  rw [show ((p.1, p.2) : Pu.Tab) = p from rfl, show ((q.1, q.2) : Pu.Tab) = q from rfl]
  refine Pu.bE hr0 ?_
  by_cases c : r < 0
  · exact Pu.tG c rfl
  · obtain ⟨s0, s1, s2, s3⟩ := hr1 (by omega)
    have hp : Pu.kG p := ⟨by omega, by omega, fun y hy => by have := s3 y hy; omega⟩
    obtain ⟨r', hq0, hq1⟩ := dj.is (k := k) (a := q) (b := r) (by omega) g1 g2 g3 (by omega) (by omega)
    refine Pu.tX c (Pu.bE hq0 ?_)
    by_cases c2 : r' < 0
    · exact Pu.tG c2 rfl
    · obtain ⟨t0, t1, t2, t3⟩ := hq1 (by omega)
      have hq : Pu.kG q := ⟨by omega, by omega, fun y hy => by have := t3 y hy; omega⟩
      have hto1 := b8.is (k := k) (a := p) (by omega) hp.1 hp.2.1 hp.2.2
      have hto2 := b8.is (k := k) (a := q) (by omega) hq.1 hq.2.1 hq.2.2
      have hs1 := Pu.rV hp.2.1 hp.2.2
      have hs2 := Pu.rV hq.2.1 hq.2.2
      have hmk1 := cg.is (k := k) (a := p.1) (b := p.2) (q := 1) (by omega) hp.1 hp.2.1 hp.2.2 (by omega) (by omega)
      have hmk2 := cg.is (k := k) (a := q.1) (b := q.2) (q := 1 + p.1.length + Pu.gT p.2) (by omega) hq.1 hq.2.1 hq.2.2 (by omega) (by omega)
      have he1 := dh.is (k := k) (a := p) (b := p) (by omega) hp.1 hp.2.1 hp.2.2
      have he2 := dh.is (k := k) (a := q) (b := q) (by omega) hq.1 hq.2.1 hq.2.2
      rw [decide_eq_true rfl] at he1 he2
      have n1 : ¬ ((1 : Int) + p.1.length + Pu.gT p.2 + q.1.length + Pu.gT q.2 < 0) := by omega
      have hsp := aH.is (k := k) (p := p) (q := q) (by omega) hp hq
      have him := bj.is (k := k) (p := p) (q := q) (by omega) hp hq
      have hlen := Pu.pB (p := p) (q := q)
      generalize Pu.fY p q = G at *
      obtain ⟨g, b⟩ := G
      simp only at hlen
      have heg := bR.is (k := k) (a := g) (b := g) (by omega) (by omega)
      rw [decide_eq_true rfl] at heg
      have hmg := bo.is (k := k) (a := g) (q := 1) (by omega) (by omega) (by omega) (by omega)
      have hhg := bT.is (k := k) (a := Pu.mark g 1) (q := 1) (by omega) (by rw [Pu.nh]; omega) (by omega) (by rw [Pu.nh]; omega)
      rw [Pu.rR] at hhg
      have n2 : ¬ ((1 : Int) + g.length < 0) := by omega
      have hJ2 : aD.J2 k ((1 : Int) + g.length) (Pu.mark g 1) = some true := by
        rw [aD.mV]
        exact Pu.bE hhg (Pu.tX n2 (Pu.tE rfl rfl))
      have hJ1 : aD.J1 k b g g p.1 p.2 q.1 q.2 = some true := by
        rw [aD.gq]
        exact Pu.bE hmg (Pu.bE hhg (Pu.tX n2 (Pu.tE rfl (Pu.bE hto1 (Pu.bE hto2 (Pu.bE him (Pu.bE heg (Pu.tN (Pu.tB hJ2)))))))))
      have hJ0 : aD.J0 k b b g g p.1 p.2 q.1 q.2 p.1 p.2 q.1 q.2 = some true := by
        rw [aD.fT]
        exact Pu.bE hto1 (Pu.bE he1 (Pu.tN (Pu.bE hto2 (Pu.bE he2 (Pu.tN (Pu.bE hmk1 (Pu.bE hmk2 (Pu.tX n1 (Pu.bE heg (Pu.tN (Pu.tB hJ1)))))))))))
      exact Pu.tX c2 (Pu.bE hto1 (Pu.bE hto2 (Pu.bE hsp (Pu.bE hto1 (Pu.bE hto2 (Pu.bE him (Pu.bE heg (Pu.tN (Pu.tB hJ0)))))))))
end Go.Am.Seat
