/- What the functions make of data, as plain words; each holds for all data within the bounds that it names. -/
import Derived.Test.YtjembjngimmfmaaEqsDemote
import Derived.Test.YtjembjngimmfmaaPu
set_option linter.unusedSimpArgs false
set_option linter.unusedVariables false
set_option linter.unnecessarySimpa false
set_option linter.unusedSectionVars false
namespace Go.Am.Seat
open Go Go.Am Go.Am.Pu
attribute [local instance] D.real
set_option linter.unusedSimpArgs false
set_option linter.unusedVariables false
set_option maxRecDepth 4000
-- laws_szIntS
theorem laws_szIntS.is {k : Nat} {a : List Int} {b : Int} (hk : 4194304 + 1 ≤ k) (ha : a.length ≤ maxLen) (h1 : 0 ≤ b) (h2 : b ≤ 1048576) : laws_szIntS k a b = some (if b - a.length < 0 then -1 else b - a.length) := by
  obtain ⟨k, rfl⟩ : ∃ k', k = k' + 1 := ⟨k - 1, by omega⟩
  have ha : a.length ≤ 9223372036854775807 := ha
  rw [laws_szIntS.eq]
  simp (disch := omega) only [p_test, p_lt, p_wrap, p_sub, p_ofN, p_len, decide_eq_true_eq, Pu.w64]
  split <;> rfl
-- laws_szIntSS
theorem laws_szIntSS.loop {k : Nat} {a : List (List Int)} (hk : 4194304 + 1 ≤ k) (ha : a.length ≤ 1048576) (hr : ∀ x ∈ a, x.length ≤ maxLen) : ∀ (m j i : Nat) (b : Int), i + m = a.length → m < j → 0 ≤ b → b ≤ 1048576 →
    ∃ r, laws_szIntSS.L0 k j b i a = some r ∧ (0 ≤ r → r ≤ b ∧ ∀ (q : Nat) x, i ≤ q → a[q]? = some x → (x.length : Int) ≤ b)
  | m, 0, i, b, _, hj, _, _ => by omega
  | 0, j + 1, i, b, hi, _, _, _ => by
    rw [laws_szIntSS.L0_eq]
    have e : i = a.length := by omega
    subst e
    exact ⟨b, by simp, fun _ => ⟨Int.le_refl _, fun q x h1 h2 => by have := (List.getElem?_eq_some_iff.1 h2).1; omega⟩⟩
  | m + 1, j + 1, i, b, hi, hj, hb, hb2 => by
    rw [laws_szIntSS.L0_eq]
    have hlt : i < a.length := by omega
    have hx := hr a[i] (List.getElem_mem hlt)
    have hx' : a[i].length ≤ 9223372036854775807 := hx
    have h1 := laws_szIntS.is (k := k) (a := a[i]) (b := b) (by omega) hx hb hb2
    by_cases hc : b - a[i].length < 0
    · rw [if_pos hc] at h1
      exact ⟨-1, by simp [hlt, h1], fun h => by omega⟩
    · rw [if_neg hc] at h1
      obtain ⟨r, h2, h3⟩ := laws_szIntSS.loop hk ha hr m j (i + 1) (b - a[i].length) (by omega) (by omega) (by omega) (by omega)
      rw [Int.natCast_succ] at h2
      refine ⟨r, by simp (disch := omega) [hlt, h1, hc, Pu.w64, h2], fun h0 => ?_⟩
      obtain ⟨h4, h5⟩ := h3 h0
      refine ⟨by omega, fun q x h6 h7 => ?_⟩
      by_cases e : q = i
      · subst e
        rw [List.getElem?_eq_getElem hlt] at h7
        injection h7 with h7
        subst h7
        omega
      · have := h5 q x (by omega) h7
        omega
theorem laws_szIntSS.is {k : Nat} {a : List (List Int)} {b : Int} (hk : 4194304 + 2 ≤ k) (ha : a.length ≤ maxLen) (hr : ∀ x ∈ a, x.length ≤ maxLen) (h1 : 0 ≤ b) (h2 : b ≤ 1048576) :
    ∃ r, laws_szIntSS k a b = some r ∧ (0 ≤ r → r ≤ b ∧ (a.length : Int) ≤ b ∧ ∀ x ∈ a, (x.length : Int) ≤ b) := by
  obtain ⟨k, rfl⟩ : ∃ k', k = k' + 1 := ⟨k - 1, by omega⟩
  have ha : a.length ≤ 9223372036854775807 := ha
  rw [laws_szIntSS.eq]
  by_cases hc : b - a.length < 0
  · exact ⟨-1, by simp (disch := omega) [Pu.w64, hc], fun h => by omega⟩
  · obtain ⟨r, h3, h4⟩ := laws_szIntSS.loop (k := k) (a := a) (by omega) (by omega) hr a.length k 0 (b - a.length) (by omega) (by omega) (by omega) (by omega)
    rw [Int.natCast_zero] at h3
    refine ⟨r, by simp (disch := omega) [Pu.w64, hc, h3], fun h0 => ?_⟩
    obtain ⟨h5, h6⟩ := h4 h0
    refine ⟨by omega, by omega, fun x hx => ?_⟩
    obtain ⟨q, hq⟩ := List.mem_iff_getElem?.1 hx
    have := h6 q x (by omega) hq
    omega
-- laws_szTableau
theorem laws_szTableau.is {k : Nat} {a : List Int × List (List Int)} {b : Int} (hk : 4194304 + 3 ≤ k) (ha : a.1.length ≤ maxLen) (ha2 : a.2.length ≤ maxLen) (hr : ∀ x ∈ a.2, x.length ≤ maxLen) (h1 : 0 ≤ b) (h2 : b ≤ 1048576) :
    ∃ r, laws_szTableau k a b = some r ∧ (0 ≤ r → r ≤ b ∧ (a.1.length : Int) ≤ b ∧ (a.2.length : Int) ≤ b ∧ ∀ x ∈ a.2, (x.length : Int) ≤ b) := by
  obtain ⟨k, rfl⟩ : ∃ k', k = k' + 1 := ⟨k - 1, by omega⟩
  rw [laws_szTableau.eq, laws_szIntS.is (by omega) ha h1 h2]
  by_cases hc : b - a.1.length < 0
  · exact ⟨-1, by simp [hc], fun h => by omega⟩
  · obtain ⟨r, h3, h4⟩ := laws_szIntSS.is (k := k) (a := a.2) (b := b - a.1.length) (by omega) ha2 hr (by omega) (by omega)
    by_cases hr0 : r < 0
    · exact ⟨-1, by simp [hc, h3, hr0], fun h => by omega⟩
    · refine ⟨r, by simp [hc, h3, hr0], fun h0 => ?_⟩
      obtain ⟨h5, h6, h7⟩ := h4 h0
      refine ⟨by omega, by omega, by omega, fun x hx => ?_⟩
      have := h7 x hx
      omega
-- laws_toIntS
theorem laws_toIntS.loop {k : Nat} {a : List Int} (ha : a.length ≤ 1048576) : ∀ (m j i : Nat), i + m = a.length → m < j → laws_toIntS.L0 k j i a (a.take i ++ List.replicate (a.length - i) 0) = some a
  | m, 0, i, _, hj => by omega
  | 0, j + 1, i, hi, _ => by
    rw [laws_toIntS.L0_eq]
    have e : i = a.length := by omega
    subst e
    simp
  | m + 1, j + 1, i, hi, hj => by
    rw [laws_toIntS.L0_eq]
    have hlt : i < a.length := by omega
    have ih := laws_toIntS.loop (k := k) ha m j (i + 1) (by omega) (by omega)
    rw [Int.natCast_succ] at ih
    have hl : i < (a.take i ++ List.replicate (a.length - i) (0 : Int)).length := by simp; omega
    have hf := Pu.fill_step hlt (0 : Int) 0
    simp (disch := omega) only [p_test, p_lt, p_le, p_ltN, p_len, p_ofN, p_nat, p_rd, p_set, p_wrap, p_add, Pu.w64, Int.toNat_natCast, decide_eq_true_eq, Int.ofNat_lt, hlt, hl, if_true, Int.natCast_nonneg, decide_true, hf, ih]
theorem laws_toIntS.is {k : Nat} {a : List Int} (hk : 4194304 + 1 ≤ k) (ha : a.length ≤ 1048576) : laws_toIntS k a = some a := by
  obtain ⟨k, rfl⟩ : ∃ k', k = k' + 1 := ⟨k - 1, by omega⟩
  rw [laws_toIntS.eq]
  have h := laws_toIntS.loop (k := k) ha a.length k 0 (by omega) (by omega)
  rw [Int.natCast_zero] at h
  simp only [List.take_zero, List.nil_append, Nat.sub_zero] at h
  have hl : a.length ≤ 1099511627776 := by omega
  simp [h, hl]
-- laws_toIntSS
theorem laws_toIntSS.loop {k : Nat} {a : List (List Int)} (hk : 4194304 + 1 ≤ k) (ha : a.length ≤ 1048576) (hr : ∀ x ∈ a, x.length ≤ 1048576) : ∀ (m j i : Nat), i + m = a.length → m < j → laws_toIntSS.L0 k j i a (a.take i ++ List.replicate (a.length - i) []) = some a
  | m, 0, i, _, hj => by omega
  | 0, j + 1, i, hi, _ => by
    rw [laws_toIntSS.L0_eq]
    have e : i = a.length := by omega
    subst e
    simp
  | m + 1, j + 1, i, hi, hj => by
    rw [laws_toIntSS.L0_eq]
    have hlt : i < a.length := by omega
    have ih := laws_toIntSS.loop (k := k) hk ha hr m j (i + 1) (by omega) (by omega)
    rw [Int.natCast_succ] at ih
    have hl : i < (a.take i ++ List.replicate (a.length - i) ([] : List Int)).length := by simp; omega
    have hf := Pu.fill_step hlt ([] : List Int) []
    have h1 := laws_toIntS.is (k := k) (a := a.getD i []) (by omega) (by rw [Pu.getD_lt hlt]; exact hr _ (List.getElem_mem hlt))
    simp (disch := omega) only [p_test, p_lt, p_le, p_ltN, p_len, p_ofN, p_nat, p_rd, p_set, p_wrap, p_add, Pu.w64, Int.toNat_natCast, decide_eq_true_eq, Int.ofNat_lt, hlt, hl, if_true, Int.natCast_nonneg, decide_true, h1, p_bnd_some, hf, ih]
theorem laws_toIntSS.is {k : Nat} {a : List (List Int)} (hk : 4194304 + 2 ≤ k) (ha : a.length ≤ 1048576) (hr : ∀ x ∈ a, x.length ≤ 1048576) : laws_toIntSS k a = some a := by
  obtain ⟨k, rfl⟩ : ∃ k', k = k' + 1 := ⟨k - 1, by omega⟩
  rw [laws_toIntSS.eq]
  have h := laws_toIntSS.loop (k := k) (by omega) ha hr a.length k 0 (by omega) (by omega)
  rw [Int.natCast_zero] at h
  simp only [List.take_zero, List.nil_append, Nat.sub_zero] at h
  have hl : a.length ≤ 1099511627776 := by omega
  simp [h, hl]
-- laws_toTableau
theorem laws_toTableau.is {k : Nat} {a : List Int × List (List Int)} (hk : 4194304 + 3 ≤ k) (h1 : a.1.length ≤ 1048576) (ha : a.2.length ≤ 1048576) (hr : ∀ x ∈ a.2, x.length ≤ 1048576) : laws_toTableau k a = some a := by
  obtain ⟨k, rfl⟩ : ∃ k', k = k' + 1 := ⟨k - 1, by omega⟩
  rw [laws_toTableau.eq, laws_toIntS.is (by omega) h1, p_bnd_some, laws_toIntSS.is (by omega) ha hr]
  rfl
-- spec_l1In
theorem spec_l1In.is {k : Nat} {x lo hi : Int} (hk : 1 ≤ k) : spec_l1In k x lo hi = some (Pu.within x lo hi) := by
  obtain ⟨k, rfl⟩ : ∃ k', k = k' + 1 := ⟨k - 1, by omega⟩
  rw [spec_l1In.eq]
  by_cases h : lo ≤ x <;> simp [Pu.within, h]
-- spec_IsPartition
theorem spec_IsPartition.loop {k : Nat} {p : List Int} (hk : 4194304 ≤ k) (hp : p.length ≤ 1048576) : ∀ (m j i : Nat) (s v : Int), i + m = p.length → m < j → (i = 0 → v = 9) → (0 < i → v = p.getD (i - 1) 0) → v ≤ 9 → 0 ≤ s → s ≤ 9 →
    spec_IsPartition.L0 k j s i p = some (Pu.partGo (p.drop i) v s)
  | m, 0, i, s, v, _, hj, _, _, _, _, _ => by omega
  | 0, j + 1, i, s, v, hi, _, _, _, _, _, _ => by
    rw [spec_IsPartition.L0_eq]
    have e : i = p.length := by omega
    subst e
    simp [Pu.partGo]
  | m + 1, j + 1, i, s, v, hi, hj, h0, h1, hv, hs, hs9 => by
    rw [spec_IsPartition.L0_eq]
    have hlt : i < p.length := by omega
    have hj1 : ∀ x : Int, x = p.getD i 0 → 1 ≤ x → x ≤ v → spec_IsPartition.J1 k j s i p = some (decide (s + x ≤ 9) && Pu.partGo (p.drop (i + 1)) x (s + x)) := by
      intro x hx hx1 hx2
      rw [spec_IsPartition.J1_eq]
      simp (disch := omega) only [↓p_test, p_lt, p_le, p_ltN, p_leN, p_eqN, p_len, p_ofN, p_nat, p_rd, p_set, p_app, p_take, p_drop, p_rep, p_wrap, p_add, p_sub, p_no, p_eq, p_eqB, p_eqP, p_bnd_some, Pu.w64, Int.toNat_natCast, decide_eq_true_eq, Int.ofNat_lt, Int.ofNat_le, if_true, if_false, Int.natCast_nonneg, decide_true, decide_false, Bool.not_true, Bool.not_false, Bool.false_eq_true, Bool.not_eq_true, Bool.true_and, Bool.and_true, Bool.false_and, Bool.and_false, hlt, ← hx]
      by_cases c : 9 < s + x
      · have : ¬ s + x ≤ 9 := by omega
        simp [c, this]
      · have c' : s + x ≤ 9 := by omega
        have ih := spec_IsPartition.loop hk hp m j (i + 1) (s + x) x (by omega) (by omega) (by omega) (by simp [hx]) (by omega) (by omega) c'
        rw [Int.natCast_succ] at ih
        simp [c, c', ih]
    rw [Pu.drop_cons hlt 0]
    simp (disch := omega) only [↓p_test, p_lt, p_le, p_ltN, p_leN, p_eqN, p_len, p_ofN, p_nat, p_rd, p_set, p_app, p_take, p_drop, p_rep, p_wrap, p_add, p_sub, p_no, p_eq, p_eqB, p_eqP, p_bnd_some, Pu.w64, Int.toNat_natCast, decide_eq_true_eq, Int.ofNat_lt, Int.ofNat_le, if_true, if_false, Int.natCast_nonneg, decide_true, decide_false, Bool.not_true, Bool.not_false, Bool.false_eq_true, Bool.not_eq_true, Bool.true_and, Bool.and_true, Bool.false_and, Bool.and_false, hlt, spec_l1In.is, Pu.partGo]
    generalize hx : p.getD i 0 = x at *
    unfold Pu.within
    by_cases c1 : 1 ≤ x
    · by_cases c2 : x ≤ v
      · have c3 : x ≤ 9 := by omega
        have hj := hj1 x rfl c1 c2
        by_cases hi0 : i = 0
        · have hpos : ¬ (0 : Int) < i := by omega
          simp (disch := omega) only [↓p_test, p_lt, p_le, p_ltN, p_leN, p_eqN, p_len, p_ofN, p_nat, p_rd, p_set, p_app, p_take, p_drop, p_rep, p_wrap, p_add, p_sub, p_no, p_eq, p_eqB, p_eqP, p_bnd_some, Pu.w64, Int.toNat_natCast, decide_eq_true_eq, Int.ofNat_lt, Int.ofNat_le, if_true, if_false, Int.natCast_nonneg, decide_true, decide_false, Bool.not_true, Bool.not_false, Bool.false_eq_true, Bool.not_eq_true, Bool.true_and, Bool.and_true, Bool.false_and, Bool.and_false, c1, c2, c3, hpos, hj]
        · have hv' := h1 (by omega)
          have e : ((i : Int) - 1) = ((i - 1 : Nat) : Int) := by omega
          have hlt' : i - 1 < p.length := by omega
          have hge : ¬ p.getD (i - 1) 0 < x := by rw [← hv']; omega
          have hpos : (0 : Int) < i := by omega
          simp (disch := omega) only [e, ↓p_test, p_lt, p_le, p_ltN, p_leN, p_eqN, p_len, p_ofN, p_nat, p_rd, p_set, p_app, p_take, p_drop, p_rep, p_wrap, p_add, p_sub, p_no, p_eq, p_eqB, p_eqP, p_bnd_some, Pu.w64, Int.toNat_natCast, decide_eq_true_eq, Int.ofNat_lt, Int.ofNat_le, if_true, if_false, Int.natCast_nonneg, decide_true, decide_false, Bool.not_true, Bool.not_false, Bool.false_eq_true, Bool.not_eq_true, Bool.true_and, Bool.and_true, Bool.false_and, Bool.and_false, hlt', c1, c2, c3, hj, hpos, hge]
      · simp only [c1, c2, ↓p_test, p_lt, p_le, p_ltN, p_leN, p_eqN, p_len, p_ofN, p_nat, p_rd, p_set, p_app, p_take, p_drop, p_rep, p_wrap, p_add, p_sub, p_no, p_eq, p_eqB, p_eqP, p_bnd_some, Pu.w64, Int.toNat_natCast, decide_eq_true_eq, Int.ofNat_lt, Int.ofNat_le, if_true, if_false, Int.natCast_nonneg, decide_true, decide_false, Bool.not_true, Bool.not_false, Bool.false_eq_true, Bool.not_eq_true, Bool.true_and, Bool.and_true, Bool.false_and, Bool.and_false]
        by_cases c3 : x ≤ 9
        · have hi0 : 0 < i := by
            rcases Nat.eq_zero_or_pos i with h | h
            · have := h0 h; omega
            · exact h
          have hv' := h1 hi0
          have e : ((i : Int) - 1) = ((i - 1 : Nat) : Int) := by omega
          have hlt' : i - 1 < p.length := by omega
          have hge : p.getD (i - 1) 0 < x := by rw [← hv']; omega
          have hpos : (0 : Int) < i := by omega
          simp (disch := omega) only [e, ↓p_test, p_lt, p_le, p_ltN, p_leN, p_eqN, p_len, p_ofN, p_nat, p_rd, p_set, p_app, p_take, p_drop, p_rep, p_wrap, p_add, p_sub, p_no, p_eq, p_eqB, p_eqP, p_bnd_some, Pu.w64, Int.toNat_natCast, decide_eq_true_eq, Int.ofNat_lt, Int.ofNat_le, if_true, if_false, Int.natCast_nonneg, decide_true, decide_false, Bool.not_true, Bool.not_false, Bool.false_eq_true, Bool.not_eq_true, Bool.true_and, Bool.and_true, Bool.false_and, Bool.and_false, hlt', c3, hpos, hge]
        · simp only [c3, ↓p_test, p_lt, p_le, p_ltN, p_leN, p_eqN, p_len, p_ofN, p_nat, p_rd, p_set, p_app, p_take, p_drop, p_rep, p_wrap, p_add, p_sub, p_no, p_eq, p_eqB, p_eqP, p_bnd_some, Pu.w64, Int.toNat_natCast, decide_eq_true_eq, Int.ofNat_lt, Int.ofNat_le, if_true, if_false, Int.natCast_nonneg, decide_true, decide_false, Bool.not_true, Bool.not_false, Bool.false_eq_true, Bool.not_eq_true, Bool.true_and, Bool.and_true, Bool.false_and, Bool.and_false]
    · simp only [c1, ↓p_test, p_lt, p_le, p_ltN, p_leN, p_eqN, p_len, p_ofN, p_nat, p_rd, p_set, p_app, p_take, p_drop, p_rep, p_wrap, p_add, p_sub, p_no, p_eq, p_eqB, p_eqP, p_bnd_some, Pu.w64, Int.toNat_natCast, decide_eq_true_eq, Int.ofNat_lt, Int.ofNat_le, if_true, if_false, Int.natCast_nonneg, decide_true, decide_false, Bool.not_true, Bool.not_false, Bool.false_eq_true, Bool.not_eq_true, Bool.true_and, Bool.and_true, Bool.false_and, Bool.and_false]
theorem spec_IsPartition.is {k : Nat} {p : List Int} (hk : 4194304 + 1 ≤ k) (hp : p.length ≤ 1048576) : spec_IsPartition k p = some (Pu.isPart p) := by
  obtain ⟨k, rfl⟩ : ∃ k', k = k' + 1 := ⟨k - 1, by omega⟩
  rw [spec_IsPartition.eq]
  exact spec_IsPartition.loop (k := k) (by omega) hp p.length k 0 0 9 (by omega) (by omega) (fun _ => rfl) (by omega) (by omega) (by omega) (by omega)
-- spec_l2At
theorem spec_l2At.is {k : Nat} {p : List Int} {i : Int} (hk : 1 ≤ k) : spec_l2At k p i = some (Pu.atI p i) := by
  obtain ⟨k, rfl⟩ : ∃ k', k = k' + 1 := ⟨k - 1, by omega⟩
  rw [spec_l2At.eq, spec_l2At.J0_eq]
  by_cases h1 : i < 0
  · simp only [↓p_test, p_lt, p_le, p_ltN, p_leN, p_eqN, p_len, p_ofN, p_nat, p_rd, p_set, p_app, p_take, p_drop, p_rep, p_wrap, p_add, p_sub, p_no, p_eq, p_eqB, p_eqP, p_bnd_some, Pu.w64, Int.toNat_natCast, decide_eq_true_eq, Int.ofNat_lt, Int.ofNat_le, if_true, if_false, Int.natCast_nonneg, decide_true, decide_false, Bool.not_true, Bool.not_false, Bool.false_eq_true, Bool.not_eq_true, Bool.true_and, Bool.and_true, Bool.false_and, Bool.and_false, h1, Pu.atI_neg h1]
  · by_cases h2 : (p.length : Int) ≤ i
    · simp only [↓p_test, p_lt, p_le, p_ltN, p_leN, p_eqN, p_len, p_ofN, p_nat, p_rd, p_set, p_app, p_take, p_drop, p_rep, p_wrap, p_add, p_sub, p_no, p_eq, p_eqB, p_eqP, p_bnd_some, Pu.w64, Int.toNat_natCast, decide_eq_true_eq, Int.ofNat_lt, Int.ofNat_le, if_true, if_false, Int.natCast_nonneg, decide_true, decide_false, Bool.not_true, Bool.not_false, Bool.false_eq_true, Bool.not_eq_true, Bool.true_and, Bool.and_true, Bool.false_and, Bool.and_false, h1, h2, Pu.atI_ge h2]
    · have h3 : 0 ≤ i := by omega
      have h4 : i.toNat < p.length := by omega
      simp only [↓p_test, p_lt, p_le, p_ltN, p_leN, p_eqN, p_len, p_ofN, p_nat, p_rd, p_set, p_app, p_take, p_drop, p_rep, p_wrap, p_add, p_sub, p_no, p_eq, p_eqB, p_eqP, p_bnd_some, Pu.w64, Int.toNat_natCast, decide_eq_true_eq, Int.ofNat_lt, Int.ofNat_le, if_true, if_false, Int.natCast_nonneg, decide_true, decide_false, Bool.not_true, Bool.not_false, Bool.false_eq_true, Bool.not_eq_true, Bool.true_and, Bool.and_true, Bool.false_and, Bool.and_false, h1, h2, h3, h4, Pu.atI]
-- spec_IsInside
theorem spec_IsInside.loop {k : Nat} {q p : List Int} (hq : q.length ≤ 1048576) (hl : q.length ≤ p.length) (hk : q.length < k) : spec_IsInside.L1 k k 0 q p = some ((List.range' 0 q.length).all fun i => decide (q.getD i 0 ≤ p.getD i 0)) := by
  have h := Pu.loop_all (fun j i => spec_IsInside.L1 k j (i : Int) q p) q.length (fun i => decide (q.getD i 0 ≤ p.getD i 0)) (some false) (some true)
    (fun j i hi => by
      have hi2 : i < p.length := by omega
      rw [spec_IsInside.L1_eq]
      simp (disch := omega) only [↓p_test, p_lt, p_le, p_ltN, p_leN, p_eqN, p_len, p_ofN, p_nat, p_rd, p_set, p_app, p_take, p_drop, p_rep, p_wrap, p_add, p_sub, p_no, p_eq, p_eqB, p_eqP, p_bnd_some, Pu.w64, Int.toNat_natCast, decide_eq_true_eq, Int.ofNat_lt, Int.ofNat_le, if_true, if_false, Int.natCast_nonneg, decide_true, decide_false, Bool.not_true, Bool.not_false, Bool.false_eq_true, Bool.not_eq_true, Bool.true_and, Bool.and_true, Bool.false_and, Bool.and_false, hi, hi2, Int.natCast_add, Int.natCast_one]
      by_cases c : q.getD i 0 ≤ p.getD i 0
      · have c' : ¬ p.getD i 0 < q.getD i 0 := by omega
        simp only [c, c', ↓p_test, p_lt, p_le, p_ltN, p_leN, p_eqN, p_len, p_ofN, p_nat, p_rd, p_set, p_app, p_take, p_drop, p_rep, p_wrap, p_add, p_sub, p_no, p_eq, p_eqB, p_eqP, p_bnd_some, Pu.w64, Int.toNat_natCast, decide_eq_true_eq, Int.ofNat_lt, Int.ofNat_le, if_true, if_false, Int.natCast_nonneg, decide_true, decide_false, Bool.not_true, Bool.not_false, Bool.false_eq_true, Bool.not_eq_true, Bool.true_and, Bool.and_true, Bool.false_and, Bool.and_false]
      · have c' : p.getD i 0 < q.getD i 0 := by omega
        simp only [c, c', ↓p_test, p_lt, p_le, p_ltN, p_leN, p_eqN, p_len, p_ofN, p_nat, p_rd, p_set, p_app, p_take, p_drop, p_rep, p_wrap, p_add, p_sub, p_no, p_eq, p_eqB, p_eqP, p_bnd_some, Pu.w64, Int.toNat_natCast, decide_eq_true_eq, Int.ofNat_lt, Int.ofNat_le, if_true, if_false, Int.natCast_nonneg, decide_true, decide_false, Bool.not_true, Bool.not_false, Bool.false_eq_true, Bool.not_eq_true, Bool.true_and, Bool.and_true, Bool.false_and, Bool.and_false])
    (fun j => by
      rw [spec_IsInside.L1_eq]
      simp only [↓p_test, p_lt, p_le, p_ltN, p_leN, p_eqN, p_len, p_ofN, p_nat, p_rd, p_set, p_app, p_take, p_drop, p_rep, p_wrap, p_add, p_sub, p_no, p_eq, p_eqB, p_eqP, p_bnd_some, Pu.w64, Int.toNat_natCast, decide_eq_true_eq, Int.ofNat_lt, Int.ofNat_le, if_true, if_false, Int.natCast_nonneg, decide_true, decide_false, Bool.not_true, Bool.not_false, Bool.false_eq_true, Bool.not_eq_true, Bool.true_and, Bool.and_true, Bool.false_and, Bool.and_false, Nat.lt_irrefl]) q.length k 0 (by omega) hk
  simp only [Int.natCast_zero] at h
  rw [h]
  cases (List.range' 0 q.length).all fun i => decide (q.getD i 0 ≤ p.getD i 0) <;> simp
theorem spec_IsInside.is {k : Nat} {q p : List Int} (hk : 4194304 + 2 ≤ k) (hq : q.length ≤ 1048576) (hp : p.length ≤ 1048576) : spec_IsInside k q p = some (Pu.isInside q p) := by
  obtain ⟨k, rfl⟩ : ∃ k', k = k' + 1 := ⟨k - 1, by omega⟩
  rw [spec_IsInside.eq, spec_IsPartition.is (by omega) hq, p_bnd_some, spec_IsInside.J0_eq]
  unfold Pu.isInside
  cases c1 : Pu.isPart q with
  | false => simp only [↓p_test, p_lt, p_le, p_ltN, p_leN, p_eqN, p_len, p_ofN, p_nat, p_rd, p_set, p_app, p_take, p_drop, p_rep, p_wrap, p_add, p_sub, p_no, p_eq, p_eqB, p_eqP, p_bnd_some, Pu.w64, Int.toNat_natCast, decide_eq_true_eq, Int.ofNat_lt, Int.ofNat_le, if_true, if_false, Int.natCast_nonneg, decide_true, decide_false, Bool.not_true, Bool.not_false, Bool.false_eq_true, Bool.not_eq_true, Bool.true_and, Bool.and_true, Bool.false_and, Bool.and_false]
  | true =>
    simp only [↓p_test, p_lt, p_le, p_ltN, p_leN, p_eqN, p_len, p_ofN, p_nat, p_rd, p_set, p_app, p_take, p_drop, p_rep, p_wrap, p_add, p_sub, p_no, p_eq, p_eqB, p_eqP, p_bnd_some, Pu.w64, Int.toNat_natCast, decide_eq_true_eq, Int.ofNat_lt, Int.ofNat_le, if_true, if_false, Int.natCast_nonneg, decide_true, decide_false, Bool.not_true, Bool.not_false, Bool.false_eq_true, Bool.not_eq_true, Bool.true_and, Bool.and_true, Bool.false_and, Bool.and_false]
    rw [spec_IsPartition.is (by omega) hp, p_bnd_some]
    cases c2 : Pu.isPart p with
    | false => simp only [↓p_test, p_lt, p_le, p_ltN, p_leN, p_eqN, p_len, p_ofN, p_nat, p_rd, p_set, p_app, p_take, p_drop, p_rep, p_wrap, p_add, p_sub, p_no, p_eq, p_eqB, p_eqP, p_bnd_some, Pu.w64, Int.toNat_natCast, decide_eq_true_eq, Int.ofNat_lt, Int.ofNat_le, if_true, if_false, Int.natCast_nonneg, decide_true, decide_false, Bool.not_true, Bool.not_false, Bool.false_eq_true, Bool.not_eq_true, Bool.true_and, Bool.and_true, Bool.false_and, Bool.and_false]
    | true =>
      simp only [↓p_test, p_lt, p_le, p_ltN, p_leN, p_eqN, p_len, p_ofN, p_nat, p_rd, p_set, p_app, p_take, p_drop, p_rep, p_wrap, p_add, p_sub, p_no, p_eq, p_eqB, p_eqP, p_bnd_some, Pu.w64, Int.toNat_natCast, decide_eq_true_eq, Int.ofNat_lt, Int.ofNat_le, if_true, if_false, Int.natCast_nonneg, decide_true, decide_false, Bool.not_true, Bool.not_false, Bool.false_eq_true, Bool.not_eq_true, Bool.true_and, Bool.and_true, Bool.false_and, Bool.and_false]
      by_cases c3 : p.length < q.length
      · have c3' : ¬ q.length ≤ p.length := by omega
        simp only [c3, c3', ↓p_test, p_lt, p_le, p_ltN, p_leN, p_eqN, p_len, p_ofN, p_nat, p_rd, p_set, p_app, p_take, p_drop, p_rep, p_wrap, p_add, p_sub, p_no, p_eq, p_eqB, p_eqP, p_bnd_some, Pu.w64, Int.toNat_natCast, decide_eq_true_eq, Int.ofNat_lt, Int.ofNat_le, if_true, if_false, Int.natCast_nonneg, decide_true, decide_false, Bool.not_true, Bool.not_false, Bool.false_eq_true, Bool.not_eq_true, Bool.true_and, Bool.and_true, Bool.false_and, Bool.and_false]
      · have c3' : q.length ≤ p.length := by omega
        simp only [c3, c3', ↓p_test, p_lt, p_le, p_ltN, p_leN, p_eqN, p_len, p_ofN, p_nat, p_rd, p_set, p_app, p_take, p_drop, p_rep, p_wrap, p_add, p_sub, p_no, p_eq, p_eqB, p_eqP, p_bnd_some, Pu.w64, Int.toNat_natCast, decide_eq_true_eq, Int.ofNat_lt, Int.ofNat_le, if_true, if_false, Int.natCast_nonneg, decide_true, decide_false, Bool.not_true, Bool.not_false, Bool.false_eq_true, Bool.not_eq_true, Bool.true_and, Bool.and_true, Bool.false_and, Bool.and_false]
        exact spec_IsInside.loop hq c3' (by omega)
-- spec_IsShape
theorem spec_IsShape.is {k : Nat} {s : List Int × List Int} (hk : 4194304 + 3 ≤ k) (hq : s.1.length ≤ 1048576) (hp : s.2.length ≤ 1048576) : spec_IsShape k s = some (Pu.isInside s.2 s.1) := by
  obtain ⟨k, rfl⟩ : ∃ k', k = k' + 1 := ⟨k - 1, by omega⟩
  rw [spec_IsShape.eq, spec_IsInside.is (by omega) hp hq]
  rfl
-- spec_ShapeOf
theorem spec_ShapeOf.loop {k : Nat} {t : Pu.Tab} {x3 x4 : List Int} (hk : 4194304 + 3 ≤ k) (hi : Pu.isPart t.1 = true) (h2 : t.2.length ≤ 9) (hr : ∀ x ∈ t.2, x.length ≤ 1048576) : ∀ (m j i : Nat) (acc : List Int), i + m = t.2.length → m < j → acc.length = i →
    spec_ShapeOf.L1 k j i t.1 t.2 x3 x4 acc t.1 = some (if Pu.isInside t.1 (acc ++ Pu.outerGo t.1 i (t.2.drop i)) = true then ((acc ++ Pu.outerGo t.1 i (t.2.drop i), t.1), true) else (([], []), false))
  | m, 0, i, acc, _, hj, _ => by omega
  | 0, j + 1, i, acc, hm, _, hacc => by
    rw [spec_ShapeOf.L1_eq]
    have e : i = t.2.length := by omega
    have h9 := (Pu.isPart_spec hi).2.2.1
    have hlt : ¬ i < t.2.length := by omega
    rw [spec_IsShape.is (by omega) (by simp only; omega) (by simp only; omega), e]
    simp only [↓p_test, p_lt, p_le, p_ltN, p_leN, p_eqN, p_len, p_ofN, p_nat, p_rd, p_set, p_app, p_take, p_drop, p_rep, p_wrap, p_add, p_sub, p_no, p_eq, p_eqB, p_eqP, p_bnd_some, Pu.w64, Int.toNat_natCast, decide_eq_true_eq, Int.ofNat_lt, Int.ofNat_le, if_true, if_false, Int.natCast_nonneg, decide_true, decide_false, Bool.not_true, Bool.not_false, Bool.false_eq_true, Bool.not_eq_true, Bool.true_and, Bool.and_true, Bool.false_and, Bool.and_false, Nat.lt_irrefl, List.drop_length, Pu.outerGo, List.append_nil]
    cases Pu.isInside t.1 acc <;> simp
  | m + 1, j + 1, i, acc, hm, hj, hacc => by
    rw [spec_ShapeOf.L1_eq]
    have hlt : i < t.2.length := by omega
    have hb := Pu.part_atI hi i
    have hrow := hr t.2[i] (List.getElem_mem hlt)
    rw [← Pu.getD_lt hlt []] at hrow
    rw [spec_l2At.is (by omega)]
    have ih := spec_ShapeOf.loop (x3 := x3) (x4 := x4) hk hi h2 hr m j (i + 1) (acc ++ [Pu.atI t.1 i + (t.2.getD i []).length]) (by omega) (by omega) (by simp [hacc])
    rw [Int.natCast_succ] at ih
    rw [Pu.drop_cons hlt []]
    have hl : (acc ++ [Pu.atI t.1 i + ((t.2.getD i []).length : Int)]).length ≤ 1099511627776 := by simp; omega
    simp (disch := omega) only [↓p_test, p_lt, p_le, p_ltN, p_leN, p_eqN, p_len, p_ofN, p_nat, p_rd, p_set, p_app, p_take, p_drop, p_rep, p_wrap, p_add, p_sub, p_no, p_eq, p_eqB, p_eqP, p_bnd_some, Pu.w64, Int.toNat_natCast, decide_eq_true_eq, Int.ofNat_lt, Int.ofNat_le, if_true, if_false, Int.natCast_nonneg, decide_true, decide_false, Bool.not_true, Bool.not_false, Bool.false_eq_true, Bool.not_eq_true, Bool.true_and, Bool.and_true, Bool.false_and, Bool.and_false, hlt, hl, ih, Pu.outerGo]
    simp only [List.append_assoc, List.singleton_append, Pu.atI_nat]
    rfl
theorem spec_ShapeOf.is {k : Nat} {t : Pu.Tab} (hk : 4194304 + 4 ≤ k) (h1 : t.1.length ≤ 1048576) (h2 : t.2.length ≤ 1048576) (hr : ∀ x ∈ t.2, x.length ≤ 1048576) : spec_ShapeOf k t = some (Pu.shapeOf t) := by
  obtain ⟨k, rfl⟩ : ∃ k', k = k' + 1 := ⟨k - 1, by omega⟩
  rw [spec_ShapeOf.eq, spec_IsPartition.is (by omega) h1, spec_ShapeOf.J0_eq]
  have hl : t.1.length ≤ 1099511627776 := by omega
  simp only [↓p_test, p_lt, p_le, p_ltN, p_leN, p_eqN, p_len, p_ofN, p_nat, p_rd, p_set, p_app, p_take, p_drop, p_rep, p_wrap, p_add, p_sub, p_no, p_eq, p_eqB, p_eqP, p_bnd_some, Pu.w64, Int.toNat_natCast, decide_eq_true_eq, Int.ofNat_lt, Int.ofNat_le, if_true, if_false, Int.natCast_nonneg, decide_true, decide_false, Bool.not_true, Bool.not_false, Bool.false_eq_true, Bool.not_eq_true, Bool.true_and, Bool.and_true, Bool.false_and, Bool.and_false, List.nil_append, hl]
  unfold Pu.shapeOf
  cases c1 : Pu.isPart t.1 with
  | false =>
    have : Pu.shapeOK t = false := by unfold Pu.shapeOK; rw [c1]; rfl
    simp only [this, ↓p_test, p_lt, p_le, p_ltN, p_leN, p_eqN, p_len, p_ofN, p_nat, p_rd, p_set, p_app, p_take, p_drop, p_rep, p_wrap, p_add, p_sub, p_no, p_eq, p_eqB, p_eqP, p_bnd_some, Pu.w64, Int.toNat_natCast, decide_eq_true_eq, Int.ofNat_lt, Int.ofNat_le, if_true, if_false, Int.natCast_nonneg, decide_true, decide_false, Bool.not_true, Bool.not_false, Bool.false_eq_true, Bool.not_eq_true, Bool.true_and, Bool.and_true, Bool.false_and, Bool.and_false]
  | true =>
    by_cases c2 : t.2.length < t.1.length
    · have : Pu.shapeOK t = false := by
        have : ¬ t.1.length ≤ t.2.length := by omega
        unfold Pu.shapeOK; simp [this]
      simp only [this, c2, ↓p_test, p_lt, p_le, p_ltN, p_leN, p_eqN, p_len, p_ofN, p_nat, p_rd, p_set, p_app, p_take, p_drop, p_rep, p_wrap, p_add, p_sub, p_no, p_eq, p_eqB, p_eqP, p_bnd_some, Pu.w64, Int.toNat_natCast, decide_eq_true_eq, Int.ofNat_lt, Int.ofNat_le, if_true, if_false, Int.natCast_nonneg, decide_true, decide_false, Bool.not_true, Bool.not_false, Bool.false_eq_true, Bool.not_eq_true, Bool.true_and, Bool.and_true, Bool.false_and, Bool.and_false]
    · by_cases c3 : 9 < t.2.length
      · have : Pu.shapeOK t = false := by
          cases h : Pu.shapeOK t with
          | false => rfl
          | true => have := Pu.shapeOK_len h; omega
        have c3' : (9 : Int) < t.2.length := by omega
        simp only [this, c2, c3', ↓p_test, p_lt, p_le, p_ltN, p_leN, p_eqN, p_len, p_ofN, p_nat, p_rd, p_set, p_app, p_take, p_drop, p_rep, p_wrap, p_add, p_sub, p_no, p_eq, p_eqB, p_eqP, p_bnd_some, Pu.w64, Int.toNat_natCast, decide_eq_true_eq, Int.ofNat_lt, Int.ofNat_le, if_true, if_false, Int.natCast_nonneg, decide_true, decide_false, Bool.not_true, Bool.not_false, Bool.false_eq_true, Bool.not_eq_true, Bool.true_and, Bool.and_true, Bool.false_and, Bool.and_false]
      · have c3' : ¬ (9 : Int) < t.2.length := by omega
        have c2' : t.1.length ≤ t.2.length := by omega
        have hloop := spec_ShapeOf.loop (k := k) (t := t) (x3 := []) (x4 := []) (by omega) c1 (by omega) hr t.2.length k 0 [] (by omega) (by omega) rfl
        rw [Int.natCast_zero] at hloop
        simp only [c2, c3', ↓p_test, p_lt, p_le, p_ltN, p_leN, p_eqN, p_len, p_ofN, p_nat, p_rd, p_set, p_app, p_take, p_drop, p_rep, p_wrap, p_add, p_sub, p_no, p_eq, p_eqB, p_eqP, p_bnd_some, Pu.w64, Int.toNat_natCast, decide_eq_true_eq, Int.ofNat_lt, Int.ofNat_le, if_true, if_false, Int.natCast_nonneg, decide_true, decide_false, Bool.not_true, Bool.not_false, Bool.false_eq_true, Bool.not_eq_true, Bool.true_and, Bool.and_true, Bool.false_and, Bool.and_false]
        rw [hloop]
        have : Pu.shapeOK t = Pu.isInside t.1 (Pu.outer t) := by unfold Pu.shapeOK; simp [c1, c2']
        rw [this]
        rfl
-- spec_l5Entry
theorem spec_l5Entry.is {k : Nat} {t : Pu.Tab} {r c : Int} (hk : 2 ≤ k) (hi : Pu.isPart t.1 = true) (h1 : -1000000000 ≤ c) (h2 : c ≤ 1000000000) : spec_l5Entry k t r c = some (Pu.entry t r c) := by
  obtain ⟨k, rfl⟩ : ∃ k', k = k' + 1 := ⟨k - 1, by omega⟩
  have hb := Pu.part_atI hi r
  rw [spec_l5Entry.eq, spec_l5Entry.J0_eq, spec_l2At.is (by omega)]
  unfold Pu.entry
  by_cases c1 : r < 0
  · simp only [↓p_test, p_lt, p_le, p_ltN, p_leN, p_eqN, p_len, p_ofN, p_nat, p_rd, p_set, p_app, p_take, p_drop, p_rep, p_wrap, p_add, p_sub, p_no, p_eq, p_eqB, p_eqP, p_bnd_some, Pu.w64, Int.toNat_natCast, decide_eq_true_eq, Int.ofNat_lt, Int.ofNat_le, if_true, if_false, Int.natCast_nonneg, decide_true, decide_false, Bool.not_true, Bool.not_false, Bool.false_eq_true, Bool.not_eq_true, Bool.true_and, Bool.and_true, Bool.false_and, Bool.and_false, c1]
  · by_cases c2 : (t.2.length : Int) ≤ r
    · simp only [↓p_test, p_lt, p_le, p_ltN, p_leN, p_eqN, p_len, p_ofN, p_nat, p_rd, p_set, p_app, p_take, p_drop, p_rep, p_wrap, p_add, p_sub, p_no, p_eq, p_eqB, p_eqP, p_bnd_some, Pu.w64, Int.toNat_natCast, decide_eq_true_eq, Int.ofNat_lt, Int.ofNat_le, if_true, if_false, Int.natCast_nonneg, decide_true, decide_false, Bool.not_true, Bool.not_false, Bool.false_eq_true, Bool.not_eq_true, Bool.true_and, Bool.and_true, Bool.false_and, Bool.and_false, c1, c2]
    · have c3 : 0 ≤ r := by omega
      have c4 : r.toNat < t.2.length := by omega
      simp (disch := omega) only [↓p_test, p_lt, p_le, p_ltN, p_leN, p_eqN, p_len, p_ofN, p_nat, p_rd, p_set, p_app, p_take, p_drop, p_rep, p_wrap, p_add, p_sub, p_no, p_eq, p_eqB, p_eqP, p_bnd_some, Pu.w64, Int.toNat_natCast, decide_eq_true_eq, Int.ofNat_lt, Int.ofNat_le, if_true, if_false, Int.natCast_nonneg, decide_true, decide_false, Bool.not_true, Bool.not_false, Bool.false_eq_true, Bool.not_eq_true, Bool.true_and, Bool.and_true, Bool.false_and, Bool.and_false, c1, c2, c3, c4]
      by_cases d1 : c - Pu.atI t.1 r < 0
      · simp only [↓p_test, p_lt, p_le, p_ltN, p_leN, p_eqN, p_len, p_ofN, p_nat, p_rd, p_set, p_app, p_take, p_drop, p_rep, p_wrap, p_add, p_sub, p_no, p_eq, p_eqB, p_eqP, p_bnd_some, Pu.w64, Int.toNat_natCast, decide_eq_true_eq, Int.ofNat_lt, Int.ofNat_le, if_true, if_false, Int.natCast_nonneg, decide_true, decide_false, Bool.not_true, Bool.not_false, Bool.false_eq_true, Bool.not_eq_true, Bool.true_and, Bool.and_true, Bool.false_and, Bool.and_false, d1, Pu.atI_neg d1]
      · by_cases d2 : ((t.2.getD r.toNat []).length : Int) ≤ c - Pu.atI t.1 r
        · simp only [↓p_test, p_lt, p_le, p_ltN, p_leN, p_eqN, p_len, p_ofN, p_nat, p_rd, p_set, p_app, p_take, p_drop, p_rep, p_wrap, p_add, p_sub, p_no, p_eq, p_eqB, p_eqP, p_bnd_some, Pu.w64, Int.toNat_natCast, decide_eq_true_eq, Int.ofNat_lt, Int.ofNat_le, if_true, if_false, Int.natCast_nonneg, decide_true, decide_false, Bool.not_true, Bool.not_false, Bool.false_eq_true, Bool.not_eq_true, Bool.true_and, Bool.and_true, Bool.false_and, Bool.and_false, d1, d2, Pu.atI_ge d2]
        · have d3 : 0 ≤ c - Pu.atI t.1 r := by omega
          have d4 : (c - Pu.atI t.1 r).toNat < (t.2.getD r.toNat []).length := by omega
          rw [spec_l5Entry.J1_eq]
          generalize c - Pu.atI t.1 r = z at *
          simp only [↓p_test, p_lt, p_le, p_ltN, p_leN, p_eqN, p_len, p_ofN, p_nat, p_rd, p_set, p_app, p_take, p_drop, p_rep, p_wrap, p_add, p_sub, p_no, p_eq, p_eqB, p_eqP, p_bnd_some, Pu.w64, Int.toNat_natCast, decide_eq_true_eq, Int.ofNat_lt, Int.ofNat_le, if_true, if_false, Int.natCast_nonneg, decide_true, decide_false, Bool.not_true, Bool.not_false, Bool.false_eq_true, Bool.not_eq_true, Bool.true_and, Bool.and_true, Bool.false_and, Bool.and_false, c3, c4, d1, d2, d3, d4, Pu.atI]
-- spec_IsTableau
theorem spec_IsTableau.J2_is {k k1 k2 : Nat} {t : Pu.Tab} {r : Nat} {c x v : Int} {o n : List Int} (hk : 3 ≤ k) (hi : Pu.isPart t.1 = true) (h1 : 0 ≤ c) (h2 : c ≤ 10000000) (hr : r ≤ 1048576) :
    spec_IsTableau.J2 k k1 k2 r c x v t.1 t.2 o n = if (Pu.within x 1 9 && (decide (v ≤ x) && decide (Pu.entry t ((r : Int) - 1) c < x))) = true then spec_IsTableau.L1 k k1 k2 r (c + 1) t.1 t.2 o n else some false := by
  have he := spec_l5Entry.is (k := k) (t := t) (r := (r : Int) - 1) (c := c) (by omega) hi (by omega) (by omega)
  rw [spec_IsTableau.J2_eq, spec_l1In.is (by omega), spec_IsTableau.J3_eq]
  simp (disch := omega) only [↓p_test, p_lt, p_le, p_ltN, p_leN, p_eqN, p_len, p_ofN, p_nat, p_rd, p_set, p_app, p_take, p_drop, p_rep, p_wrap, p_add, p_sub, p_no, p_eq, p_eqB, p_eqP, p_bnd_some, Pu.w64, Int.toNat_natCast, decide_eq_true_eq, Int.ofNat_lt, Int.ofNat_le, if_true, if_false, Int.natCast_nonneg, decide_true, decide_false, Bool.not_true, Bool.not_false, Bool.false_eq_true, Bool.not_eq_true, Bool.true_and, Bool.and_true, Bool.false_and, Bool.and_false, he]
  cases Pu.within x 1 9 with
  | false => simp
  | true =>
    by_cases c1 : v ≤ x
    · have c1' : ¬ x < v := by omega
      by_cases c2 : Pu.entry t ((r : Int) - 1) c < x
      · have c2' : ¬ x ≤ Pu.entry t ((r : Int) - 1) c := by omega
        simp [c1, c1', c2, c2']
      · have c2' : x ≤ Pu.entry t ((r : Int) - 1) c := by omega
        simp [c1, c1', c2, c2']
    · have c1' : x < v := by omega
      simp [c1, c1']
theorem spec_IsTableau.inner {k k1 : Nat} {t : Pu.Tab} {r : Nat} {n : List Int} (hk : 4194304 ≤ k) (hi : Pu.isPart t.1 = true) (ht : t.2.length ≤ 1048576) (hr : ∀ x ∈ t.2, x.length ≤ 1048576) (hlt : r < t.2.length) :
    spec_IsTableau.L1 k k1 k r (t.1.getD r 0) t.1 t.2 (Pu.outer t) n = if ((List.range' 0 (t.2.getD r []).length).all fun q => Pu.cellOK t r q) = true then spec_IsTableau.L0 k k1 ((r : Int) + 1) t.1 t.2 (Pu.outer t) n else some false := by
  have hx := hr _ (List.getElem_mem hlt)
  rw [← Pu.getD_lt hlt []] at hx
  have hb := Pu.part_atI hi r
  rw [Pu.atI_nat] at hb
  have hol : r < (Pu.outer t).length := by unfold Pu.outer; rw [Pu.outerGo_len]; exact hlt
  have ho : (Pu.outer t).getD r 0 = t.1.getD r 0 + ((t.2.getD r []).length : Int) := by
    have := Pu.outerGo_get t.1 t.2 0 r hlt
    rw [Nat.zero_add] at this
    exact this
  have h := Pu.loop_all (fun j q => spec_IsTableau.L1 k k1 j r (t.1.getD r 0 + (q : Int)) t.1 t.2 (Pu.outer t) n) (t.2.getD r []).length (fun q => Pu.cellOK t r q) (some false) (spec_IsTableau.L0 k k1 ((r : Int) + 1) t.1 t.2 (Pu.outer t) n)
    (fun j q hq => by
      rw [spec_IsTableau.L1_eq]
      have hc : t.1.getD r 0 + (q : Int) < (Pu.outer t).getD r 0 := by rw [ho]; omega
      have e1 := spec_l5Entry.is (k := k) (t := t) (r := r) (c := t.1.getD r 0 + q) (by omega) hi (by omega) (by omega)
      have e2 := spec_l5Entry.is (k := k) (t := t) (r := r) (c := t.1.getD r 0 + q - 1) (by omega) hi (by omega) (by omega)
      rw [Pu.entry_at hlt] at e1
      rw [Pu.entry_left hlt] at e2
      have ej := fun v => spec_IsTableau.J2_is (k := k) (k1 := k1) (k2 := j) (t := t) (r := r) (c := t.1.getD r 0 + q) (x := (t.2.getD r []).getD q 0) (v := v) (o := Pu.outer t) (n := n) (by omega) hi (by omega) (by omega) (by omega)
      have en : t.1.getD r 0 + (q : Int) + 1 = t.1.getD r 0 + ((q + 1 : Nat) : Int) := by omega
      rw [en] at ej
      -- the cell's test
      have key : ∀ v : Int, v = (if q = 0 then 0 else (t.2.getD r []).getD (q - 1) 0) → (Pu.within ((t.2.getD r []).getD q 0) 1 9 && (decide (v ≤ (t.2.getD r []).getD q 0) && decide (Pu.entry t ((r : Int) - 1) (t.1.getD r 0 + q) < (t.2.getD r []).getD q 0))) = Pu.cellOK t r q := by
        intro v hv
        unfold Pu.cellOK
        cases hw : Pu.within ((t.2.getD r []).getD q 0) 1 9 with
        | false => rfl
        | true =>
          have hw1 : 1 ≤ (t.2.getD r []).getD q 0 := by
            simp only [Pu.within, Bool.and_eq_true, decide_eq_true_eq] at hw; exact hw.1
          simp only [Bool.true_and]
          congr 1
          · by_cases e : q = 0
            · have : v ≤ (t.2.getD r []).getD q 0 := by rw [hv, if_pos e]; omega
              simp [e, this]
              simpa [e] using this
            · rw [hv, if_neg e]; simp [e]
          · by_cases e : r = 0
            · subst e
              rw [Pu.entry_neg (by omega), decide_eq_true (show (0 : Int) < (t.2.getD 0 []).getD q 0 by omega)]
              simp only [decide_true, Bool.true_or]
            · simp [e]
      by_cases hc0 : 0 < t.1.getD r 0 + (q : Int)
      · simp (disch := omega) only [↓p_test, p_lt, p_le, p_ltN, p_leN, p_eqN, p_len, p_ofN, p_nat, p_rd, p_set, p_app, p_take, p_drop, p_rep, p_wrap, p_add, p_sub, p_no, p_eq, p_eqB, p_eqP, p_bnd_some, Pu.w64, Int.toNat_natCast, decide_eq_true_eq, Int.ofNat_lt, Int.ofNat_le, if_true, if_false, Int.natCast_nonneg, decide_true, decide_false, Bool.not_true, Bool.not_false, Bool.false_eq_true, Bool.not_eq_true, Bool.true_and, Bool.and_true, Bool.false_and, Bool.and_false, hol, hc, e1, hc0, e2, ej]
        rw [key _ rfl]
      · simp (disch := omega) only [↓p_test, p_lt, p_le, p_ltN, p_leN, p_eqN, p_len, p_ofN, p_nat, p_rd, p_set, p_app, p_take, p_drop, p_rep, p_wrap, p_add, p_sub, p_no, p_eq, p_eqB, p_eqP, p_bnd_some, Pu.w64, Int.toNat_natCast, decide_eq_true_eq, Int.ofNat_lt, Int.ofNat_le, if_true, if_false, Int.natCast_nonneg, decide_true, decide_false, Bool.not_true, Bool.not_false, Bool.false_eq_true, Bool.not_eq_true, Bool.true_and, Bool.and_true, Bool.false_and, Bool.and_false, hol, hc, e1, hc0, ej]
        rw [key 0 (by have : q = 0 := by omega
                      rw [if_pos this])])
    (fun j => by
      rw [spec_IsTableau.L1_eq]
      have hc : ¬ t.1.getD r 0 + ((t.2.getD r []).length : Int) < (Pu.outer t).getD r 0 := by rw [ho]; omega
      simp (disch := omega) only [↓p_test, p_lt, p_le, p_ltN, p_leN, p_eqN, p_len, p_ofN, p_nat, p_rd, p_set, p_app, p_take, p_drop, p_rep, p_wrap, p_add, p_sub, p_no, p_eq, p_eqB, p_eqP, p_bnd_some, Pu.w64, Int.toNat_natCast, decide_eq_true_eq, Int.ofNat_lt, Int.ofNat_le, if_true, if_false, Int.natCast_nonneg, decide_true, decide_false, Bool.not_true, Bool.not_false, Bool.false_eq_true, Bool.not_eq_true, Bool.true_and, Bool.and_true, Bool.false_and, Bool.and_false, hol, hc]) (t.2.getD r []).length k 0 (by omega) (by omega)
  simp only [Int.natCast_zero, Int.add_zero] at h
  exact h
theorem spec_IsTableau.is {k : Nat} {t : Pu.Tab} (hk : 4194304 + 5 ≤ k) (h1 : t.1.length ≤ 1048576) (ht : t.2.length ≤ 1048576) (hr : ∀ x ∈ t.2, x.length ≤ 1048576) : spec_IsTableau k t = some (Pu.isTab t) := by
  obtain ⟨k, rfl⟩ : ∃ k', k = k' + 1 := ⟨k - 1, by omega⟩
  rw [spec_IsTableau.eq, spec_ShapeOf.is (by omega) h1 ht hr, p_bnd_some]
  unfold Pu.isTab Pu.shapeOf
  cases hs : Pu.shapeOK t with
  | false => simp [hs]
  | true =>
    have hi : Pu.isPart t.1 = true := by
      simp only [Pu.shapeOK, Bool.and_eq_true] at hs; exact hs.1
    have hol : (Pu.outer t).length = t.2.length := by unfold Pu.outer; rw [Pu.outerGo_len]
    have h := Pu.loop_all (fun j r => spec_IsTableau.L0 k j r t.1 t.2 (Pu.outer t) t.1) t.2.length (fun r => (List.range' 0 (t.2.getD r []).length).all fun q => Pu.cellOK t r q) (some false) (some true)
      (fun j r hlt => by
        rw [spec_IsTableau.L0_eq, spec_l2At.is (by omega), Pu.atI_nat]
        simp (disch := omega) only [↓p_test, p_lt, p_le, p_ltN, p_leN, p_eqN, p_len, p_ofN, p_nat, p_rd, p_set, p_app, p_take, p_drop, p_rep, p_wrap, p_add, p_sub, p_no, p_eq, p_eqB, p_eqP, p_bnd_some, Pu.w64, Int.toNat_natCast, decide_eq_true_eq, Int.ofNat_lt, Int.ofNat_le, if_true, if_false, Int.natCast_nonneg, decide_true, decide_false, Bool.not_true, Bool.not_false, Bool.false_eq_true, Bool.not_eq_true, Bool.true_and, Bool.and_true, Bool.false_and, Bool.and_false, hol, hlt, spec_IsTableau.inner (k1 := j) (n := t.1) (show 4194304 ≤ k by omega) hi ht hr hlt, Int.natCast_add, Int.natCast_one])
      (fun j => by
        rw [spec_IsTableau.L0_eq]
        simp (disch := omega) only [↓p_test, p_lt, p_le, p_ltN, p_leN, p_eqN, p_len, p_ofN, p_nat, p_rd, p_set, p_app, p_take, p_drop, p_rep, p_wrap, p_add, p_sub, p_no, p_eq, p_eqB, p_eqP, p_bnd_some, Pu.w64, Int.toNat_natCast, decide_eq_true_eq, Int.ofNat_lt, Int.ofNat_le, if_true, if_false, Int.natCast_nonneg, decide_true, decide_false, Bool.not_true, Bool.not_false, Bool.false_eq_true, Bool.not_eq_true, Bool.true_and, Bool.and_true, Bool.false_and, Bool.and_false, hol, Nat.lt_irrefl]) t.2.length k 0 (by omega) (by omega)
    simp only [Int.natCast_zero] at h
    simp only [if_true, ↓p_test, p_lt, p_le, p_ltN, p_leN, p_eqN, p_len, p_ofN, p_nat, p_rd, p_set, p_app, p_take, p_drop, p_rep, p_wrap, p_add, p_sub, p_no, p_eq, p_eqB, p_eqP, p_bnd_some, Pu.w64, Int.toNat_natCast, decide_eq_true_eq, Int.ofNat_lt, Int.ofNat_le, if_true, if_false, Int.natCast_nonneg, decide_true, decide_false, Bool.not_true, Bool.not_false, Bool.false_eq_true, Bool.not_eq_true, Bool.true_and, Bool.and_true, Bool.false_and, Bool.and_false]
    rw [h]
    cases (List.range' 0 t.2.length).all fun r => (List.range' 0 (t.2.getD r []).length).all fun q => Pu.cellOK t r q <;> simp
-- spec_l9Plain
theorem spec_l9Plain.is {k : Nat} {t : Pu.Tab} (hk : 4194304 + 6 ≤ k) (h1 : t.1.length ≤ 1048576) (ht : t.2.length ≤ 1048576) (hr : ∀ x ∈ t.2, x.length ≤ 1048576) : spec_l9Plain k t = some (Pu.isPlain t) := by
  obtain ⟨k, rfl⟩ : ∃ k', k = k' + 1 := ⟨k - 1, by omega⟩
  rw [spec_l9Plain.eq, spec_IsTableau.is (by omega) h1 ht hr, p_bnd_some]
  unfold Pu.isPlain
  cases Pu.isTab t <;> simp
-- impl_within
theorem impl_within.is {k : Nat} {x lo hi : Int} (hk : 1 ≤ k) : impl_within k x lo hi = some (Pu.within x lo hi) := by
  obtain ⟨k, rfl⟩ : ∃ k', k = k' + 1 := ⟨k - 1, by omega⟩
  rw [impl_within.eq]
  by_cases h : lo ≤ x <;> simp [Pu.within, h]
-- impl_IsPartition
theorem impl_IsPartition.loop {k : Nat} {p : List Int} (hk : 4194304 ≤ k) (hp : p.length ≤ 1048576) : ∀ (m j i : Nat) (s v : Int), i + m = p.length → m < j → (i = 0 → v = 9) → (0 < i → v = p.getD (i - 1) 0) → v ≤ 9 → 0 ≤ s → s ≤ 9 →
    impl_IsPartition.L0 k j s p.length i p = some (Pu.partGo (p.drop i) v s)
  | m, 0, i, s, v, _, hj, _, _, _, _, _ => by omega
  | 0, j + 1, i, s, v, hi, _, _, _, _, _, _ => by
    rw [impl_IsPartition.L0_eq]
    have e : i = p.length := by omega
    subst e
    simp [Pu.partGo]
  | m + 1, j + 1, i, s, v, hi, hj, h0, h1, hv, hs, hs9 => by
    rw [impl_IsPartition.L0_eq]
    have hlt : i < p.length := by omega
    have hj1 : ∀ x : Int, x = p.getD i 0 → 1 ≤ x → x ≤ v → impl_IsPartition.J1 k j s x p.length i p = some (decide (s + x ≤ 9) && Pu.partGo (p.drop (i + 1)) x (s + x)) := by
      intro x hx hx1 hx2
      rw [impl_IsPartition.J1_eq]
      simp (disch := omega) only [↓p_test, p_lt, p_le, p_ltN, p_leN, p_eqN, p_len, p_ofN, p_nat, p_rd, p_set, p_app, p_take, p_drop, p_rep, p_wrap, p_add, p_sub, p_no, p_eq, p_eqB, p_eqP, p_bnd_some, Pu.w64, Int.toNat_natCast, decide_eq_true_eq, Int.ofNat_lt, Int.ofNat_le, if_true, if_false, Int.natCast_nonneg, decide_true, decide_false, Bool.not_true, Bool.not_false, Bool.false_eq_true, Bool.not_eq_true, Bool.true_and, Bool.and_true, Bool.false_and, Bool.and_false]
      by_cases c : 9 < s + x
      · have : ¬ s + x ≤ 9 := by omega
        simp [c, this]
      · have c' : s + x ≤ 9 := by omega
        have ih := impl_IsPartition.loop hk hp m j (i + 1) (s + x) x (by omega) (by omega) (by omega) (by simp [hx]) (by omega) (by omega) c'
        rw [Int.natCast_succ] at ih
        simp [c, c', ih]
    rw [Pu.drop_cons hlt 0]
    simp (disch := omega) only [↓p_test, p_lt, p_le, p_ltN, p_leN, p_eqN, p_len, p_ofN, p_nat, p_rd, p_set, p_app, p_take, p_drop, p_rep, p_wrap, p_add, p_sub, p_no, p_eq, p_eqB, p_eqP, p_bnd_some, Pu.w64, Int.toNat_natCast, decide_eq_true_eq, Int.ofNat_lt, Int.ofNat_le, if_true, if_false, Int.natCast_nonneg, decide_true, decide_false, Bool.not_true, Bool.not_false, Bool.false_eq_true, Bool.not_eq_true, Bool.true_and, Bool.and_true, Bool.false_and, Bool.and_false, hlt, impl_within.is, Pu.partGo]
    generalize hx : p.getD i 0 = x at *
    unfold Pu.within
    by_cases c1 : 1 ≤ x
    · by_cases c2 : x ≤ v
      · have c3 : x ≤ 9 := by omega
        have hj := hj1 x rfl c1 c2
        by_cases hi0 : i = 0
        · have hpos : ¬ (0 : Int) < i := by omega
          simp (disch := omega) only [↓p_test, p_lt, p_le, p_ltN, p_leN, p_eqN, p_len, p_ofN, p_nat, p_rd, p_set, p_app, p_take, p_drop, p_rep, p_wrap, p_add, p_sub, p_no, p_eq, p_eqB, p_eqP, p_bnd_some, Pu.w64, Int.toNat_natCast, decide_eq_true_eq, Int.ofNat_lt, Int.ofNat_le, if_true, if_false, Int.natCast_nonneg, decide_true, decide_false, Bool.not_true, Bool.not_false, Bool.false_eq_true, Bool.not_eq_true, Bool.true_and, Bool.and_true, Bool.false_and, Bool.and_false, c1, c2, c3, hpos, hj]
        · have hv' := h1 (by omega)
          have e : ((i : Int) - 1) = ((i - 1 : Nat) : Int) := by omega
          have hlt' : i - 1 < p.length := by omega
          have hge : ¬ p.getD (i - 1) 0 < x := by rw [← hv']; omega
          have hpos : (0 : Int) < i := by omega
          simp (disch := omega) only [e, ↓p_test, p_lt, p_le, p_ltN, p_leN, p_eqN, p_len, p_ofN, p_nat, p_rd, p_set, p_app, p_take, p_drop, p_rep, p_wrap, p_add, p_sub, p_no, p_eq, p_eqB, p_eqP, p_bnd_some, Pu.w64, Int.toNat_natCast, decide_eq_true_eq, Int.ofNat_lt, Int.ofNat_le, if_true, if_false, Int.natCast_nonneg, decide_true, decide_false, Bool.not_true, Bool.not_false, Bool.false_eq_true, Bool.not_eq_true, Bool.true_and, Bool.and_true, Bool.false_and, Bool.and_false, hlt', c1, c2, c3, hj, hpos, hge]
      · simp only [c1, c2, ↓p_test, p_lt, p_le, p_ltN, p_leN, p_eqN, p_len, p_ofN, p_nat, p_rd, p_set, p_app, p_take, p_drop, p_rep, p_wrap, p_add, p_sub, p_no, p_eq, p_eqB, p_eqP, p_bnd_some, Pu.w64, Int.toNat_natCast, decide_eq_true_eq, Int.ofNat_lt, Int.ofNat_le, if_true, if_false, Int.natCast_nonneg, decide_true, decide_false, Bool.not_true, Bool.not_false, Bool.false_eq_true, Bool.not_eq_true, Bool.true_and, Bool.and_true, Bool.false_and, Bool.and_false]
        by_cases c3 : x ≤ 9
        · have hi0 : 0 < i := by
            rcases Nat.eq_zero_or_pos i with h | h
            · have := h0 h; omega
            · exact h
          have hv' := h1 hi0
          have e : ((i : Int) - 1) = ((i - 1 : Nat) : Int) := by omega
          have hlt' : i - 1 < p.length := by omega
          have hge : p.getD (i - 1) 0 < x := by rw [← hv']; omega
          have hpos : (0 : Int) < i := by omega
          simp (disch := omega) only [e, ↓p_test, p_lt, p_le, p_ltN, p_leN, p_eqN, p_len, p_ofN, p_nat, p_rd, p_set, p_app, p_take, p_drop, p_rep, p_wrap, p_add, p_sub, p_no, p_eq, p_eqB, p_eqP, p_bnd_some, Pu.w64, Int.toNat_natCast, decide_eq_true_eq, Int.ofNat_lt, Int.ofNat_le, if_true, if_false, Int.natCast_nonneg, decide_true, decide_false, Bool.not_true, Bool.not_false, Bool.false_eq_true, Bool.not_eq_true, Bool.true_and, Bool.and_true, Bool.false_and, Bool.and_false, hlt', c3, hpos, hge]
        · simp only [c3, ↓p_test, p_lt, p_le, p_ltN, p_leN, p_eqN, p_len, p_ofN, p_nat, p_rd, p_set, p_app, p_take, p_drop, p_rep, p_wrap, p_add, p_sub, p_no, p_eq, p_eqB, p_eqP, p_bnd_some, Pu.w64, Int.toNat_natCast, decide_eq_true_eq, Int.ofNat_lt, Int.ofNat_le, if_true, if_false, Int.natCast_nonneg, decide_true, decide_false, Bool.not_true, Bool.not_false, Bool.false_eq_true, Bool.not_eq_true, Bool.true_and, Bool.and_true, Bool.false_and, Bool.and_false]
    · simp only [c1, ↓p_test, p_lt, p_le, p_ltN, p_leN, p_eqN, p_len, p_ofN, p_nat, p_rd, p_set, p_app, p_take, p_drop, p_rep, p_wrap, p_add, p_sub, p_no, p_eq, p_eqB, p_eqP, p_bnd_some, Pu.w64, Int.toNat_natCast, decide_eq_true_eq, Int.ofNat_lt, Int.ofNat_le, if_true, if_false, Int.natCast_nonneg, decide_true, decide_false, Bool.not_true, Bool.not_false, Bool.false_eq_true, Bool.not_eq_true, Bool.true_and, Bool.and_true, Bool.false_and, Bool.and_false]
theorem impl_IsPartition.is {k : Nat} {p : List Int} (hk : 4194304 + 1 ≤ k) (hp : p.length ≤ 1048576) : impl_IsPartition k p = some (Pu.isPart p) := by
  obtain ⟨k, rfl⟩ : ∃ k', k = k' + 1 := ⟨k - 1, by omega⟩
  rw [impl_IsPartition.eq]
  exact impl_IsPartition.loop (k := k) (by omega) hp p.length k 0 0 9 (by omega) (by omega) (fun _ => rfl) (by omega) (by omega) (by omega) (by omega)
-- slices_Clone__int_int
theorem slices_Clone__int_int.is {k : Nat} {a : List Int} (hk : 1 ≤ k) (ha : a.length ≤ 1099511627776) : slices_Clone__int_int k a = some a := by
  obtain ⟨k, rfl⟩ : ∃ k', k = k' + 1 := ⟨k - 1, by omega⟩
  rw [slices_Clone__int_int.eq]
  by_cases h : a.length = 0
  · have : a = [] := List.eq_nil_of_length_eq_zero h
    subst this
    simp [p_both, ways_self]
  · simp [h, ha]
-- impl_at
theorem impl_at.is {k : Nat} {p : List Int} {i : Int} (hk : 2 ≤ k) (hp : p.length ≤ 1048576) : impl_at k p i = some (Pu.atI p i) := by
  obtain ⟨k, rfl⟩ : ∃ k', k = k' + 1 := ⟨k - 1, by omega⟩
  rw [impl_at.eq, impl_within.is (by omega)]
  unfold Pu.within
  by_cases h1 : 0 ≤ i
  · have h0 : ¬ i < 0 := by omega
    by_cases h2 : i ≤ (p.length : Int) - 1
    · have h4 : i.toNat < p.length := by omega
      simp (disch := omega) only [↓p_test, p_lt, p_le, p_ltN, p_leN, p_eqN, p_len, p_ofN, p_nat, p_rd, p_set, p_app, p_take, p_drop, p_rep, p_wrap, p_add, p_sub, p_no, p_eq, p_eqB, p_eqP, p_bnd_some, Pu.w64, Int.toNat_natCast, decide_eq_true_eq, Int.ofNat_lt, Int.ofNat_le, if_true, if_false, Int.natCast_nonneg, decide_true, decide_false, Bool.not_true, Bool.not_false, Bool.false_eq_true, Bool.not_eq_true, Bool.true_and, Bool.and_true, Bool.false_and, Bool.and_false, h0, h1, h2, h4, Pu.atI]
    · simp (disch := omega) only [↓p_test, p_lt, p_le, p_ltN, p_leN, p_eqN, p_len, p_ofN, p_nat, p_rd, p_set, p_app, p_take, p_drop, p_rep, p_wrap, p_add, p_sub, p_no, p_eq, p_eqB, p_eqP, p_bnd_some, Pu.w64, Int.toNat_natCast, decide_eq_true_eq, Int.ofNat_lt, Int.ofNat_le, if_true, if_false, Int.natCast_nonneg, decide_true, decide_false, Bool.not_true, Bool.not_false, Bool.false_eq_true, Bool.not_eq_true, Bool.true_and, Bool.and_true, Bool.false_and, Bool.and_false, h1, h2, Pu.atI_ge (p := p) (i := i) (by omega)]
  · simp (disch := omega) only [↓p_test, p_lt, p_le, p_ltN, p_leN, p_eqN, p_len, p_ofN, p_nat, p_rd, p_set, p_app, p_take, p_drop, p_rep, p_wrap, p_add, p_sub, p_no, p_eq, p_eqB, p_eqP, p_bnd_some, Pu.w64, Int.toNat_natCast, decide_eq_true_eq, Int.ofNat_lt, Int.ofNat_le, if_true, if_false, Int.natCast_nonneg, decide_true, decide_false, Bool.not_true, Bool.not_false, Bool.false_eq_true, Bool.not_eq_true, Bool.true_and, Bool.and_true, Bool.false_and, Bool.and_false, h1, Pu.atI_neg (p := p) (i := i) (by omega)]
-- impl_IsInside
theorem impl_IsInside.loop {k : Nat} {q p : List Int} (hq : q.length ≤ 1048576) (hp : p.length ≤ 1048576) (hk : 4194304 + 2 ≤ k) : impl_IsInside.L1 k k q.length 0 p q = some ((List.range' 0 q.length).all fun i => decide (q.getD i 0 ≤ p.getD i 0)) := by
  have h := Pu.loop_all (fun j i => impl_IsInside.L1 k j q.length (i : Int) p q) q.length (fun i => decide (q.getD i 0 ≤ p.getD i 0)) (some false) (some true)
    (fun j i hi => by
      rw [impl_IsInside.L1_eq, impl_at.is (by omega) hp, Pu.atI_nat]
      simp (disch := omega) only [↓p_test, p_lt, p_le, p_ltN, p_leN, p_eqN, p_len, p_ofN, p_nat, p_rd, p_set, p_app, p_take, p_drop, p_rep, p_wrap, p_add, p_sub, p_no, p_eq, p_eqB, p_eqP, p_bnd_some, Pu.w64, Int.toNat_natCast, decide_eq_true_eq, Int.ofNat_lt, Int.ofNat_le, if_true, if_false, Int.natCast_nonneg, decide_true, decide_false, Bool.not_true, Bool.not_false, Bool.false_eq_true, Bool.not_eq_true, Bool.true_and, Bool.and_true, Bool.false_and, Bool.and_false, hi, Int.natCast_add, Int.natCast_one]
      by_cases c : q.getD i 0 ≤ p.getD i 0
      · have c' : ¬ p.getD i 0 < q.getD i 0 := by omega
        simp only [c, c', ↓p_test, p_lt, p_le, p_ltN, p_leN, p_eqN, p_len, p_ofN, p_nat, p_rd, p_set, p_app, p_take, p_drop, p_rep, p_wrap, p_add, p_sub, p_no, p_eq, p_eqB, p_eqP, p_bnd_some, Pu.w64, Int.toNat_natCast, decide_eq_true_eq, Int.ofNat_lt, Int.ofNat_le, if_true, if_false, Int.natCast_nonneg, decide_true, decide_false, Bool.not_true, Bool.not_false, Bool.false_eq_true, Bool.not_eq_true, Bool.true_and, Bool.and_true, Bool.false_and, Bool.and_false]
      · have c' : p.getD i 0 < q.getD i 0 := by omega
        simp only [c, c', ↓p_test, p_lt, p_le, p_ltN, p_leN, p_eqN, p_len, p_ofN, p_nat, p_rd, p_set, p_app, p_take, p_drop, p_rep, p_wrap, p_add, p_sub, p_no, p_eq, p_eqB, p_eqP, p_bnd_some, Pu.w64, Int.toNat_natCast, decide_eq_true_eq, Int.ofNat_lt, Int.ofNat_le, if_true, if_false, Int.natCast_nonneg, decide_true, decide_false, Bool.not_true, Bool.not_false, Bool.false_eq_true, Bool.not_eq_true, Bool.true_and, Bool.and_true, Bool.false_and, Bool.and_false])
    (fun j => by
      rw [impl_IsInside.L1_eq]
      simp only [↓p_test, p_lt, p_le, p_ltN, p_leN, p_eqN, p_len, p_ofN, p_nat, p_rd, p_set, p_app, p_take, p_drop, p_rep, p_wrap, p_add, p_sub, p_no, p_eq, p_eqB, p_eqP, p_bnd_some, Pu.w64, Int.toNat_natCast, decide_eq_true_eq, Int.ofNat_lt, Int.ofNat_le, if_true, if_false, Int.natCast_nonneg, decide_true, decide_false, Bool.not_true, Bool.not_false, Bool.false_eq_true, Bool.not_eq_true, Bool.true_and, Bool.and_true, Bool.false_and, Bool.and_false, Nat.lt_irrefl]) q.length k 0 (by omega) (by omega)
  simp only [Int.natCast_zero] at h
  rw [h]
  cases (List.range' 0 q.length).all fun i => decide (q.getD i 0 ≤ p.getD i 0) <;> simp
theorem impl_IsInside.is {k : Nat} {q p : List Int} (hk : 4194304 + 3 ≤ k) (hq : q.length ≤ 1048576) (hp : p.length ≤ 1048576) : impl_IsInside k q p = some (Pu.isInside q p) := by
  obtain ⟨k, rfl⟩ : ∃ k', k = k' + 1 := ⟨k - 1, by omega⟩
  rw [impl_IsInside.eq, impl_IsPartition.is (by omega) hq, p_bnd_some, impl_IsInside.J0_eq, Pu.isInside_eq]
  cases c1 : Pu.isPart q with
  | false => simp only [↓p_test, p_lt, p_le, p_ltN, p_leN, p_eqN, p_len, p_ofN, p_nat, p_rd, p_set, p_app, p_take, p_drop, p_rep, p_wrap, p_add, p_sub, p_no, p_eq, p_eqB, p_eqP, p_bnd_some, Pu.w64, Int.toNat_natCast, decide_eq_true_eq, Int.ofNat_lt, Int.ofNat_le, if_true, if_false, Int.natCast_nonneg, decide_true, decide_false, Bool.not_true, Bool.not_false, Bool.false_eq_true, Bool.not_eq_true, Bool.true_and, Bool.and_true, Bool.false_and, Bool.and_false]
  | true =>
    simp only [↓p_test, p_lt, p_le, p_ltN, p_leN, p_eqN, p_len, p_ofN, p_nat, p_rd, p_set, p_app, p_take, p_drop, p_rep, p_wrap, p_add, p_sub, p_no, p_eq, p_eqB, p_eqP, p_bnd_some, Pu.w64, Int.toNat_natCast, decide_eq_true_eq, Int.ofNat_lt, Int.ofNat_le, if_true, if_false, Int.natCast_nonneg, decide_true, decide_false, Bool.not_true, Bool.not_false, Bool.false_eq_true, Bool.not_eq_true, Bool.true_and, Bool.and_true, Bool.false_and, Bool.and_false]
    rw [impl_IsPartition.is (by omega) hp, p_bnd_some]
    cases c2 : Pu.isPart p with
    | false => simp only [↓p_test, p_lt, p_le, p_ltN, p_leN, p_eqN, p_len, p_ofN, p_nat, p_rd, p_set, p_app, p_take, p_drop, p_rep, p_wrap, p_add, p_sub, p_no, p_eq, p_eqB, p_eqP, p_bnd_some, Pu.w64, Int.toNat_natCast, decide_eq_true_eq, Int.ofNat_lt, Int.ofNat_le, if_true, if_false, Int.natCast_nonneg, decide_true, decide_false, Bool.not_true, Bool.not_false, Bool.false_eq_true, Bool.not_eq_true, Bool.true_and, Bool.and_true, Bool.false_and, Bool.and_false]
    | true =>
      simp only [↓p_test, p_lt, p_le, p_ltN, p_leN, p_eqN, p_len, p_ofN, p_nat, p_rd, p_set, p_app, p_take, p_drop, p_rep, p_wrap, p_add, p_sub, p_no, p_eq, p_eqB, p_eqP, p_bnd_some, Pu.w64, Int.toNat_natCast, decide_eq_true_eq, Int.ofNat_lt, Int.ofNat_le, if_true, if_false, Int.natCast_nonneg, decide_true, decide_false, Bool.not_true, Bool.not_false, Bool.false_eq_true, Bool.not_eq_true, Bool.true_and, Bool.and_true, Bool.false_and, Bool.and_false]
      exact impl_IsInside.loop hq hp (by omega)
-- impl_IsShape
theorem impl_IsShape.is {k : Nat} {s : List Int × List Int} (hk : 4194304 + 4 ≤ k) (hq : s.1.length ≤ 1048576) (hp : s.2.length ≤ 1048576) : impl_IsShape k s = some (Pu.isInside s.2 s.1) := by
  obtain ⟨k, rfl⟩ : ∃ k', k = k' + 1 := ⟨k - 1, by omega⟩
  rw [impl_IsShape.eq, impl_IsInside.is (by omega) hp hq]
  rfl
-- impl_ShapeOf
theorem impl_ShapeOf.loop {k : Nat} {t : Pu.Tab} {x3 x4 : List Int} (hk : 4194304 + 4 ≤ k) (hi : Pu.isPart t.1 = true) (h2 : t.2.length ≤ 1048576) (hr : ∀ x ∈ t.2, x.length ≤ 1048576) : ∀ (m j i : Nat) (acc : List Int), i + m = t.2.length → m < j → acc.length = i →
    impl_ShapeOf.L1 k j t.2.length i t.2 t.1 x3 x4 acc t.1 = some (if Pu.isInside t.1 (acc ++ Pu.outerGo t.1 i (t.2.drop i)) = true then ((acc ++ Pu.outerGo t.1 i (t.2.drop i), t.1), true) else (([], []), false))
  | m, 0, i, acc, _, hj, _ => by omega
  | 0, j + 1, i, acc, hm, _, hacc => by
    rw [impl_ShapeOf.L1_eq]
    have e : i = t.2.length := by omega
    have h9 := (Pu.isPart_spec hi).2.2.1
    have hlt : ¬ i < t.2.length := by omega
    rw [impl_IsShape.is (by omega) (by simp only; omega) (by simp only; omega), e]
    simp only [↓p_test, p_lt, p_le, p_ltN, p_leN, p_eqN, p_len, p_ofN, p_nat, p_rd, p_set, p_app, p_take, p_drop, p_rep, p_wrap, p_add, p_sub, p_no, p_eq, p_eqB, p_eqP, p_bnd_some, Pu.w64, Int.toNat_natCast, decide_eq_true_eq, Int.ofNat_lt, Int.ofNat_le, if_true, if_false, Int.natCast_nonneg, decide_true, decide_false, Bool.not_true, Bool.not_false, Bool.false_eq_true, Bool.not_eq_true, Bool.true_and, Bool.and_true, Bool.false_and, Bool.and_false, Nat.lt_irrefl, List.drop_length, Pu.outerGo, List.append_nil]
    cases Pu.isInside t.1 acc <;> simp
  | m + 1, j + 1, i, acc, hm, hj, hacc => by
    rw [impl_ShapeOf.L1_eq]
    have hlt : i < t.2.length := by omega
    have hb := Pu.part_atI hi i
    have h9 := (Pu.isPart_spec hi).2.2.1
    have hrow := hr t.2[i] (List.getElem_mem hlt)
    rw [← Pu.getD_lt hlt []] at hrow
    rw [impl_at.is (by omega) (by omega)]
    have ih := impl_ShapeOf.loop (x3 := x3) (x4 := x4) hk hi h2 hr m j (i + 1) (acc ++ [Pu.atI t.1 i + (t.2.getD i []).length]) (by omega) (by omega) (by simp [hacc])
    rw [Int.natCast_succ] at ih
    rw [Pu.drop_cons hlt []]
    have hl : (acc ++ [Pu.atI t.1 i + ((t.2.getD i []).length : Int)]).length ≤ 1099511627776 := by simp; omega
    simp (disch := omega) only [↓p_test, p_lt, p_le, p_ltN, p_leN, p_eqN, p_len, p_ofN, p_nat, p_rd, p_set, p_app, p_take, p_drop, p_rep, p_wrap, p_add, p_sub, p_no, p_eq, p_eqB, p_eqP, p_bnd_some, Pu.w64, Int.toNat_natCast, decide_eq_true_eq, Int.ofNat_lt, Int.ofNat_le, if_true, if_false, Int.natCast_nonneg, decide_true, decide_false, Bool.not_true, Bool.not_false, Bool.false_eq_true, Bool.not_eq_true, Bool.true_and, Bool.and_true, Bool.false_and, Bool.and_false, hlt, hl, ih, Pu.outerGo]
    simp only [List.append_assoc, List.singleton_append, Pu.atI_nat]
    rfl
theorem impl_ShapeOf.is {k : Nat} {t : Pu.Tab} (hk : 4194304 + 5 ≤ k) (h1 : t.1.length ≤ 1048576) (h2 : t.2.length ≤ 1048576) (hr : ∀ x ∈ t.2, x.length ≤ 1048576) : impl_ShapeOf k t = some (Pu.shapeOf t) := by
  obtain ⟨k, rfl⟩ : ∃ k', k = k' + 1 := ⟨k - 1, by omega⟩
  rw [impl_ShapeOf.eq, impl_IsPartition.is (by omega) h1, impl_ShapeOf.J0_eq, slices_Clone__int_int.is (by omega) (by omega)]
  simp only [↓p_test, p_lt, p_le, p_ltN, p_leN, p_eqN, p_len, p_ofN, p_nat, p_rd, p_set, p_app, p_take, p_drop, p_rep, p_wrap, p_add, p_sub, p_no, p_eq, p_eqB, p_eqP, p_bnd_some, Pu.w64, Int.toNat_natCast, decide_eq_true_eq, Int.ofNat_lt, Int.ofNat_le, if_true, if_false, Int.natCast_nonneg, decide_true, decide_false, Bool.not_true, Bool.not_false, Bool.false_eq_true, Bool.not_eq_true, Bool.true_and, Bool.and_true, Bool.false_and, Bool.and_false]
  unfold Pu.shapeOf
  cases c1 : Pu.isPart t.1 with
  | false =>
    have : Pu.shapeOK t = false := by unfold Pu.shapeOK; rw [c1]; rfl
    simp only [this, ↓p_test, p_lt, p_le, p_ltN, p_leN, p_eqN, p_len, p_ofN, p_nat, p_rd, p_set, p_app, p_take, p_drop, p_rep, p_wrap, p_add, p_sub, p_no, p_eq, p_eqB, p_eqP, p_bnd_some, Pu.w64, Int.toNat_natCast, decide_eq_true_eq, Int.ofNat_lt, Int.ofNat_le, if_true, if_false, Int.natCast_nonneg, decide_true, decide_false, Bool.not_true, Bool.not_false, Bool.false_eq_true, Bool.not_eq_true, Bool.true_and, Bool.and_true, Bool.false_and, Bool.and_false]
  | true =>
    by_cases c2 : t.2.length < t.1.length
    · have : Pu.shapeOK t = false := by
        have : ¬ t.1.length ≤ t.2.length := by omega
        unfold Pu.shapeOK; simp [this]
      simp only [this, c2, ↓p_test, p_lt, p_le, p_ltN, p_leN, p_eqN, p_len, p_ofN, p_nat, p_rd, p_set, p_app, p_take, p_drop, p_rep, p_wrap, p_add, p_sub, p_no, p_eq, p_eqB, p_eqP, p_bnd_some, Pu.w64, Int.toNat_natCast, decide_eq_true_eq, Int.ofNat_lt, Int.ofNat_le, if_true, if_false, Int.natCast_nonneg, decide_true, decide_false, Bool.not_true, Bool.not_false, Bool.false_eq_true, Bool.not_eq_true, Bool.true_and, Bool.and_true, Bool.false_and, Bool.and_false]
    · have c2' : t.1.length ≤ t.2.length := by omega
      have hloop := impl_ShapeOf.loop (k := k) (t := t) (x3 := []) (x4 := []) (by omega) c1 h2 hr t.2.length k 0 [] (by omega) (by omega) rfl
      rw [Int.natCast_zero] at hloop
      simp only [c2, ↓p_test, p_lt, p_le, p_ltN, p_leN, p_eqN, p_len, p_ofN, p_nat, p_rd, p_set, p_app, p_take, p_drop, p_rep, p_wrap, p_add, p_sub, p_no, p_eq, p_eqB, p_eqP, p_bnd_some, Pu.w64, Int.toNat_natCast, decide_eq_true_eq, Int.ofNat_lt, Int.ofNat_le, if_true, if_false, Int.natCast_nonneg, decide_true, decide_false, Bool.not_true, Bool.not_false, Bool.false_eq_true, Bool.not_eq_true, Bool.true_and, Bool.and_true, Bool.false_and, Bool.and_false]
      rw [hloop]
      have : Pu.shapeOK t = Pu.isInside t.1 (Pu.outer t) := by unfold Pu.shapeOK; simp [c1, c2']
      rw [this]
      rfl
-- impl_Tableau_entry
theorem impl_Tableau_entry.is {k : Nat} {t : Pu.Tab} {r c : Int} (hk : 3 ≤ k) (hi : Pu.isPart t.1 = true) (ht : t.2.length ≤ 1048576) (hr : ∀ x ∈ t.2, x.length ≤ 1048576) (h1 : -1000000000 ≤ c) (h2 : c ≤ 1000000000) : impl_Tableau_entry k t r c = some (Pu.entry t r c) := by
  obtain ⟨k, rfl⟩ : ∃ k', k = k' + 1 := ⟨k - 1, by omega⟩
  have hb := Pu.part_atI hi r
  have h9 := (Pu.isPart_spec hi).2.2.1
  rw [impl_Tableau_entry.eq, impl_within.is (by omega)]
  unfold Pu.entry Pu.within
  by_cases c1 : r < 0
  · have c1' : ¬ 0 ≤ r := by omega
    simp (disch := omega) only [↓p_test, p_lt, p_le, p_ltN, p_leN, p_eqN, p_len, p_ofN, p_nat, p_rd, p_set, p_app, p_take, p_drop, p_rep, p_wrap, p_add, p_sub, p_no, p_eq, p_eqB, p_eqP, p_bnd_some, Pu.w64, Int.toNat_natCast, decide_eq_true_eq, Int.ofNat_lt, Int.ofNat_le, if_true, if_false, Int.natCast_nonneg, decide_true, decide_false, Bool.not_true, Bool.not_false, Bool.false_eq_true, Bool.not_eq_true, Bool.true_and, Bool.and_true, Bool.false_and, Bool.and_false, c1, c1']
  · have c3 : 0 ≤ r := by omega
    by_cases c2 : (t.2.length : Int) ≤ r
    · have c2' : ¬ r ≤ (t.2.length : Int) - 1 := by omega
      simp (disch := omega) only [↓p_test, p_lt, p_le, p_ltN, p_leN, p_eqN, p_len, p_ofN, p_nat, p_rd, p_set, p_app, p_take, p_drop, p_rep, p_wrap, p_add, p_sub, p_no, p_eq, p_eqB, p_eqP, p_bnd_some, Pu.w64, Int.toNat_natCast, decide_eq_true_eq, Int.ofNat_lt, Int.ofNat_le, if_true, if_false, Int.natCast_nonneg, decide_true, decide_false, Bool.not_true, Bool.not_false, Bool.false_eq_true, Bool.not_eq_true, Bool.true_and, Bool.and_true, Bool.false_and, Bool.and_false, c1, c3, c2, c2']
    · have c2' : r ≤ (t.2.length : Int) - 1 := by omega
      have c4 : r.toNat < t.2.length := by omega
      have hx := hr _ (List.getElem_mem c4)
      rw [← Pu.getD_lt c4 []] at hx
      simp (disch := omega) only [↓p_test, p_lt, p_le, p_ltN, p_leN, p_eqN, p_len, p_ofN, p_nat, p_rd, p_set, p_app, p_take, p_drop, p_rep, p_wrap, p_add, p_sub, p_no, p_eq, p_eqB, p_eqP, p_bnd_some, Pu.w64, Int.toNat_natCast, decide_eq_true_eq, Int.ofNat_lt, Int.ofNat_le, if_true, if_false, Int.natCast_nonneg, decide_true, decide_false, Bool.not_true, Bool.not_false, Bool.false_eq_true, Bool.not_eq_true, Bool.true_and, Bool.and_true, Bool.false_and, Bool.and_false, c1, c2, c2', c3, c4, impl_at.is]
-- impl_IsTableau
theorem impl_IsTableau.inner {k k1 : Nat} {t : Pu.Tab} {r : Nat} (hk : 4194304 ≤ k) (hi : Pu.isPart t.1 = true) (ht : t.2.length ≤ 1048576) (hr : ∀ x ∈ t.2, x.length ≤ 1048576) (hlt : r < t.2.length) (n : Int) :
    impl_IsTableau.L1 k k1 k r r n r r (t.2.getD r []).length 0 t.2 t.1 = if ((List.range' 0 (t.2.getD r []).length).all fun q => Pu.cellOK t r q) = true then impl_IsTableau.L0 k k1 n ((r : Int) + 1) t.2 t.1 else some false := by
  have hx := hr _ (List.getElem_mem hlt)
  rw [← Pu.getD_lt hlt []] at hx
  have hb := Pu.part_atI hi r
  have h9 := (Pu.isPart_spec hi).2.2.1
  have h := Pu.loop_all (fun j q => impl_IsTableau.L1 k k1 j r r n r r (t.2.getD r []).length (q : Int) t.2 t.1) (t.2.getD r []).length (fun q => Pu.cellOK t r q) (some false) (impl_IsTableau.L0 k k1 n ((r : Int) + 1) t.2 t.1)
    (fun j q hq => by
      have e3 := impl_Tableau_entry.is (k := k) (t := t) (r := (r : Int) - 1) (c := t.1.getD r 0 + q) (by omega) hi ht hr (by rw [Pu.atI_nat] at hb; omega) (by rw [Pu.atI_nat] at hb; omega)
      have ea := impl_at.is (k := k) (p := t.1) (i := r) (by omega) (by omega)
      rw [Pu.atI_nat] at ea
      rw [Pu.atI_nat] at hb
      rw [impl_IsTableau.L1_eq]
      simp (maxSteps := 10000000) (disch := omega) only [↓p_test, p_lt, p_le, p_ltN, p_leN, p_eqN, p_len, p_ofN, p_nat, p_rd, p_set, p_app, p_take, p_drop, p_rep, p_wrap, p_add, p_sub, p_no, p_eq, p_eqB, p_eqP, p_bnd_some, Pu.w64, Int.toNat_natCast, decide_eq_true_eq, Int.ofNat_lt, Int.ofNat_le, if_true, if_false, Int.natCast_nonneg, decide_true, decide_false, Bool.not_true, Bool.not_false, Bool.false_eq_true, Bool.not_eq_true, Bool.true_and, Bool.and_true, Bool.false_and, Bool.and_false, hlt, hq, impl_within.is, ea, e3, impl_IsTableau.J2_eq, Int.natCast_add, Int.natCast_one]
      unfold Pu.cellOK
      generalize hx0 : (t.2.getD r []).getD q 0 = x at *
      cases Pu.within x 1 9 with
      | false => simp
      | true =>
        -- above
        have up : (if (0 : Int) < r then (if x ≤ Pu.entry t ((r : Int) - 1) (t.1.getD r 0 + q) then some false else impl_IsTableau.L1 k k1 j r r n r r (t.2.getD r []).length ((q : Int) + 1) t.2 t.1) else impl_IsTableau.L1 k k1 j r r n r r (t.2.getD r []).length ((q : Int) + 1) t.2 t.1) =
            if (decide (r = 0) || decide (Pu.entry t ((r : Int) - 1) (t.1.getD r 0 + q) < x)) = true then impl_IsTableau.L1 k k1 j r r n r r (t.2.getD r []).length ((q : Int) + 1) t.2 t.1 else some false := by
          by_cases e : r = 0
          · subst e; simp
          · have e' : (0 : Int) < r := by omega
            by_cases c : x ≤ Pu.entry t ((r : Int) - 1) (t.1.getD r 0 + q)
            · have c' : ¬ Pu.entry t ((r : Int) - 1) (t.1.getD r 0 + q) < x := by omega
              simp only [e', c, c', e, if_true, if_false, decide_false, Bool.or_false, Bool.false_eq_true]
            · have c' : Pu.entry t ((r : Int) - 1) (t.1.getD r 0 + q) < x := by omega
              simp only [e', c, c', e, if_true, if_false, decide_true, decide_false, Bool.false_or]
        by_cases e : q = 0
        · have e' : ¬ (0 : Int) < q := by omega
          simp only [e', e, ↓p_test, p_lt, p_le, p_ltN, p_leN, p_eqN, p_len, p_ofN, p_nat, p_rd, p_set, p_app, p_take, p_drop, p_rep, p_wrap, p_add, p_sub, p_no, p_eq, p_eqB, p_eqP, p_bnd_some, Pu.w64, Int.toNat_natCast, decide_eq_true_eq, Int.ofNat_lt, Int.ofNat_le, if_true, if_false, Int.natCast_nonneg, decide_true, decide_false, Bool.not_true, Bool.not_false, Bool.false_eq_true, Bool.not_eq_true, Bool.true_and, Bool.and_true, Bool.false_and, Bool.and_false, Bool.true_or]
          rw [e] at up
          exact up
        · have e' : (0 : Int) < q := by omega
          have eq : (q : Int) - 1 = ((q - 1 : Nat) : Int) := by omega
          have hq' : q - 1 < (t.2.getD r []).length := by omega
          simp (disch := omega) only [e', e, ↓p_test, p_lt, p_le, p_ltN, p_leN, p_eqN, p_len, p_ofN, p_nat, p_rd, p_set, p_app, p_take, p_drop, p_rep, p_wrap, p_add, p_sub, p_no, p_eq, p_eqB, p_eqP, p_bnd_some, Pu.w64, Int.toNat_natCast, decide_eq_true_eq, Int.ofNat_lt, Int.ofNat_le, if_true, if_false, Int.natCast_nonneg, decide_true, decide_false, Bool.not_true, Bool.not_false, Bool.false_eq_true, Bool.not_eq_true, Bool.true_and, Bool.and_true, Bool.false_and, Bool.and_false, eq, hq', Bool.false_or]
          by_cases c : x < (t.2.getD r []).getD (q - 1) 0
          · have c' : ¬ (t.2.getD r []).getD (q - 1) 0 ≤ x := by omega
            simp only [c, c', ↓p_test, p_lt, p_le, p_ltN, p_leN, p_eqN, p_len, p_ofN, p_nat, p_rd, p_set, p_app, p_take, p_drop, p_rep, p_wrap, p_add, p_sub, p_no, p_eq, p_eqB, p_eqP, p_bnd_some, Pu.w64, Int.toNat_natCast, decide_eq_true_eq, Int.ofNat_lt, Int.ofNat_le, if_true, if_false, Int.natCast_nonneg, decide_true, decide_false, Bool.not_true, Bool.not_false, Bool.false_eq_true, Bool.not_eq_true, Bool.true_and, Bool.and_true, Bool.false_and, Bool.and_false]
          · have c' : (t.2.getD r []).getD (q - 1) 0 ≤ x := by omega
            simp only [c, c', ↓p_test, p_lt, p_le, p_ltN, p_leN, p_eqN, p_len, p_ofN, p_nat, p_rd, p_set, p_app, p_take, p_drop, p_rep, p_wrap, p_add, p_sub, p_no, p_eq, p_eqB, p_eqP, p_bnd_some, Pu.w64, Int.toNat_natCast, decide_eq_true_eq, Int.ofNat_lt, Int.ofNat_le, if_true, if_false, Int.natCast_nonneg, decide_true, decide_false, Bool.not_true, Bool.not_false, Bool.false_eq_true, Bool.not_eq_true, Bool.true_and, Bool.and_true, Bool.false_and, Bool.and_false]
            exact up)
    (fun j => by
      rw [impl_IsTableau.L1_eq]
      simp (maxSteps := 10000000) (disch := omega) only [↓p_test, p_lt, p_le, p_ltN, p_leN, p_eqN, p_len, p_ofN, p_nat, p_rd, p_set, p_app, p_take, p_drop, p_rep, p_wrap, p_add, p_sub, p_no, p_eq, p_eqB, p_eqP, p_bnd_some, Pu.w64, Int.toNat_natCast, decide_eq_true_eq, Int.ofNat_lt, Int.ofNat_le, if_true, if_false, Int.natCast_nonneg, decide_true, decide_false, Bool.not_true, Bool.not_false, Bool.false_eq_true, Bool.not_eq_true, Bool.true_and, Bool.and_true, Bool.false_and, Bool.and_false, Nat.lt_irrefl]) (t.2.getD r []).length k 0 (by omega) (by omega)
  simp only [Int.natCast_zero] at h
  exact h
theorem impl_IsTableau.is {k : Nat} {t : Pu.Tab} (hk : 4194304 + 6 ≤ k) (h1 : t.1.length ≤ 1048576) (ht : t.2.length ≤ 1048576) (hr : ∀ x ∈ t.2, x.length ≤ 1048576) : impl_IsTableau k t = some (Pu.isTab t) := by
  obtain ⟨k, rfl⟩ : ∃ k', k = k' + 1 := ⟨k - 1, by omega⟩
  rw [impl_IsTableau.eq, impl_ShapeOf.is (by omega) h1 ht hr, p_bnd_some]
  unfold Pu.isTab Pu.shapeOf
  cases hs : Pu.shapeOK t with
  | false => simp [hs]
  | true =>
    have hi : Pu.isPart t.1 = true := by
      simp only [Pu.shapeOK, Bool.and_eq_true] at hs; exact hs.1
    have h := Pu.loop_all (fun j r => impl_IsTableau.L0 k j t.2.length r t.2 t.1) t.2.length (fun r => (List.range' 0 (t.2.getD r []).length).all fun q => Pu.cellOK t r q) (some false) (some true)
      (fun j r hlt => by
        rw [impl_IsTableau.L0_eq]
        simp (disch := omega) only [↓p_test, p_lt, p_le, p_ltN, p_leN, p_eqN, p_len, p_ofN, p_nat, p_rd, p_set, p_app, p_take, p_drop, p_rep, p_wrap, p_add, p_sub, p_no, p_eq, p_eqB, p_eqP, p_bnd_some, Pu.w64, Int.toNat_natCast, decide_eq_true_eq, Int.ofNat_lt, Int.ofNat_le, if_true, if_false, Int.natCast_nonneg, decide_true, decide_false, Bool.not_true, Bool.not_false, Bool.false_eq_true, Bool.not_eq_true, Bool.true_and, Bool.and_true, Bool.false_and, Bool.and_false, hlt, impl_IsTableau.inner (k1 := j) (show 4194304 ≤ k by omega) hi ht hr hlt, Int.natCast_add, Int.natCast_one])
      (fun j => by
        rw [impl_IsTableau.L0_eq]
        simp (disch := omega) only [↓p_test, p_lt, p_le, p_ltN, p_leN, p_eqN, p_len, p_ofN, p_nat, p_rd, p_set, p_app, p_take, p_drop, p_rep, p_wrap, p_add, p_sub, p_no, p_eq, p_eqB, p_eqP, p_bnd_some, Pu.w64, Int.toNat_natCast, decide_eq_true_eq, Int.ofNat_lt, Int.ofNat_le, if_true, if_false, Int.natCast_nonneg, decide_true, decide_false, Bool.not_true, Bool.not_false, Bool.false_eq_true, Bool.not_eq_true, Bool.true_and, Bool.and_true, Bool.false_and, Bool.and_false, Nat.lt_irrefl]) t.2.length k 0 (by omega) (by omega)
    simp only [Int.natCast_zero] at h
    simp only [if_true, ↓p_test, p_lt, p_le, p_ltN, p_leN, p_eqN, p_len, p_ofN, p_nat, p_rd, p_set, p_app, p_take, p_drop, p_rep, p_wrap, p_add, p_sub, p_no, p_eq, p_eqB, p_eqP, p_bnd_some, Pu.w64, Int.toNat_natCast, decide_eq_true_eq, Int.ofNat_lt, Int.ofNat_le, if_true, if_false, Int.natCast_nonneg, decide_true, decide_false, Bool.not_true, Bool.not_false, Bool.false_eq_true, Bool.not_eq_true, Bool.true_and, Bool.and_true, Bool.false_and, Bool.and_false]
    rw [h]
    cases (List.range' 0 t.2.length).all fun r => (List.range' 0 (t.2.getD r []).length).all fun q => Pu.cellOK t r q <;> simp
-- impl_isPlain
theorem impl_isPlain.is {k : Nat} {t : Pu.Tab} (hk : 4194304 + 7 ≤ k) (h1 : t.1.length ≤ 1048576) (ht : t.2.length ≤ 1048576) (hr : ∀ x ∈ t.2, x.length ≤ 1048576) : impl_isPlain k t = some (Pu.isPlain t) := by
  obtain ⟨k, rfl⟩ : ∃ k', k = k' + 1 := ⟨k - 1, by omega⟩
  rw [impl_isPlain.eq, impl_IsTableau.is (by omega) h1 ht hr, p_bnd_some]
  unfold Pu.isPlain
  by_cases h : t.1.length = 0 <;> simp [h]
-- slices_Concat__int_int
theorem slices_Concat__int_int.app {k : Nat} {a : List (List Int)} (ha : a.length ≤ 1048576) (hf : a.flatten.length ≤ 1099511627776) : ∀ (m j i : Nat), i + m = a.length → m < j →
    slices_Concat__int_int.L4 k j a.length i (a.take i).flatten a = some a.flatten
  | m, 0, i, _, hj => by omega
  | 0, j + 1, i, hm, _ => by
    rw [slices_Concat__int_int.L4_eq]
    have e : i = a.length := by omega
    subst e
    simp
  | m + 1, j + 1, i, hm, hj => by
    rw [slices_Concat__int_int.L4_eq]
    have hlt : i < a.length := by omega
    have ih := slices_Concat__int_int.app (k := k) ha hf m j (i + 1) (by omega) (by omega)
    rw [Int.natCast_succ, Pu.take_succ hlt []] at ih
    have hl : ((a.take i).flatten ++ a.getD i []).length ≤ 1099511627776 := by
      refine Nat.le_trans ?_ hf
      have e : a.flatten = (a.take i).flatten ++ (a.drop i).flatten := by rw [← List.flatten_append, List.take_append_drop]
      rw [e, Pu.drop_cons hlt []]
      simp only [List.flatten_cons, List.length_append]
      omega
    simp only [List.flatten_append, List.flatten_cons, List.flatten_nil, List.append_nil] at ih
    simp (disch := omega) only [↓p_test, p_lt, p_le, p_ltN, p_leN, p_eqN, p_len, p_ofN, p_nat, p_rd, p_set, p_app, p_take, p_drop, p_rep, p_wrap, p_add, p_sub, p_no, p_eq, p_eqB, p_eqP, p_bnd_some, Pu.w64, Int.toNat_natCast, decide_eq_true_eq, Int.ofNat_lt, Int.ofNat_le, if_true, if_false, Int.natCast_nonneg, decide_true, decide_false, Bool.not_true, Bool.not_false, Bool.false_eq_true, Bool.not_eq_true, Bool.true_and, Bool.and_true, Bool.false_and, Bool.and_false, hlt, hl, ih]
theorem slices_Concat__int_int.tail {k : Nat} {a : List (List Int)} {y : List Int} (hk : 4194304 ≤ k) (ha : a.length ≤ 1048576) (hf : a.flatten.length ≤ 1099511627776) : slices_Concat__int_int.L3 k (HAdd.hAdd k 1) 0 0 a.length 0 y a = some a.flatten := by
  rw [slices_Concat__int_int.L3_eq]
  by_cases h0 : a.length = 0
  · have : a = [] := List.eq_nil_of_length_eq_zero h0
    subst this
    simp
  · have hlt : 0 < a.length := by omega
    have h := slices_Concat__int_int.app (k := k) ha hf (a.length - 1) k 1 (by omega) (by omega)
    have e : (a.take 1).flatten = a.getD 0 [] := by rw [Pu.take_succ hlt []]; simp
    rw [e] at h
    have hl : (a.getD 0 []).length ≤ 1099511627776 := by
      refine Nat.le_trans ?_ hf
      have e2 : a.flatten = (a.take 1).flatten ++ (a.drop 1).flatten := by rw [← List.flatten_append, List.take_append_drop]
      rw [e2, e]
      simp
    have hlt' : (0 : Int) < a.length := by omega
    simp (disch := omega) only [↓p_test, p_lt, p_le, p_ltN, p_leN, p_eqN, p_len, p_ofN, p_nat, p_rd, p_set, p_app, p_take, p_drop, p_rep, p_wrap, p_add, p_sub, p_no, p_eq, p_eqB, p_eqP, p_bnd_some, Pu.w64, Int.toNat_natCast, decide_eq_true_eq, Int.ofNat_lt, Int.ofNat_le, if_true, if_false, Int.natCast_nonneg, decide_true, decide_false, Bool.not_true, Bool.not_false, Bool.false_eq_true, Bool.not_eq_true, Bool.true_and, Bool.and_true, Bool.false_and, Bool.and_false, hlt, hlt', hl, List.take_zero, List.nil_append, Int.toNat_zero, Int.zero_add]
    simpa using h
theorem slices_Concat__int_int.loop {k : Nat} {a : List (List Int)} (hk : 4194304 ≤ k) (ha : a.length ≤ 1048576) (hf : a.flatten.length ≤ 1099511627776) : ∀ (m j i : Nat), i + m = a.length → m < j →
    slices_Concat__int_int.L0 k j (a.take i).flatten.length a.length i a = some a.flatten
  | m, 0, i, _, hj => by omega
  | 0, j + 1, i, hm, _ => by
    rw [slices_Concat__int_int.L0_eq, slices_Concat__int_int.J2_eq]
    have e : i = a.length := by omega
    subst e
    rw [List.take_length]
    have hn : ¬ ((a.flatten.length : Nat) : Int) < 0 := by omega
    simp (disch := omega) only [↓p_test, p_lt, p_le, p_ltN, p_leN, p_eqN, p_len, p_ofN, p_nat, p_rd, p_set, p_app, p_take, p_drop, p_rep, p_wrap, p_add, p_sub, p_no, p_eq, p_eqB, p_eqP, p_bnd_some, Pu.w64, Int.toNat_natCast, decide_eq_true_eq, Int.ofNat_lt, Int.ofNat_le, if_true, if_false, Int.natCast_nonneg, decide_true, decide_false, Bool.not_true, Bool.not_false, Bool.false_eq_true, Bool.not_eq_true, Bool.true_and, Bool.and_true, Bool.false_and, Bool.and_false, Nat.lt_irrefl, hn, Int.sub_zero, Int.sub_self]
    by_cases h0 : a.flatten.length = 0
    · have h0' : ¬ (0 : Int) < (a.flatten.length : Nat) := by omega
      have h := slices_Concat__int_int.app (k := k) ha hf a.length (k + 1) 0 (by omega) (by omega)
      simp only [h0', ↓p_test, p_lt, p_le, p_ltN, p_leN, p_eqN, p_len, p_ofN, p_nat, p_rd, p_set, p_app, p_take, p_drop, p_rep, p_wrap, p_add, p_sub, p_no, p_eq, p_eqB, p_eqP, p_bnd_some, Pu.w64, Int.toNat_natCast, decide_eq_true_eq, Int.ofNat_lt, Int.ofNat_le, if_true, if_false, Int.natCast_nonneg, decide_true, decide_false, Bool.not_true, Bool.not_false, Bool.false_eq_true, Bool.not_eq_true, Bool.true_and, Bool.and_true, Bool.false_and, Bool.and_false]
      simpa using h
    · have h0' : (0 : Int) < (a.flatten.length : Nat) := by omega
      have h1 : (1 : Int) ≤ (a.flatten.length : Nat) := by omega
      simp (disch := omega) only [h0', h1, hf, ↓p_test, p_lt, p_le, p_ltN, p_leN, p_eqN, p_len, p_ofN, p_nat, p_rd, p_set, p_app, p_take, p_drop, p_rep, p_wrap, p_add, p_sub, p_no, p_eq, p_eqB, p_eqP, p_bnd_some, Pu.w64, Int.toNat_natCast, decide_eq_true_eq, Int.ofNat_lt, Int.ofNat_le, if_true, if_false, Int.natCast_nonneg, decide_true, decide_false, Bool.not_true, Bool.not_false, Bool.false_eq_true, Bool.not_eq_true, Bool.true_and, Bool.and_true, Bool.false_and, Bool.and_false, Int.toNat_zero, Nat.le_refl, Int.le_refl, List.length_replicate, Nat.zero_le, p_subN, Nat.sub_self]
      exact slices_Concat__int_int.tail hk ha hf
  | m + 1, j + 1, i, hm, hj => by
    rw [slices_Concat__int_int.L0_eq]
    have hlt : i < a.length := by omega
    have ih := slices_Concat__int_int.loop (k := k) hk ha hf m j (i + 1) (by omega) (by omega)
    rw [Int.natCast_succ, Pu.take_succ hlt []] at ih
    have hl : ((a.take i).flatten ++ a.getD i []).length ≤ 1099511627776 := by
      refine Nat.le_trans ?_ hf
      have e : a.flatten = (a.take i).flatten ++ (a.drop i).flatten := by rw [← List.flatten_append, List.take_append_drop]
      rw [e, Pu.drop_cons hlt []]
      simp only [List.flatten_cons, List.length_append]
      omega
    simp only [List.flatten_append, List.flatten_cons, List.flatten_nil, List.append_nil, List.length_append, Int.natCast_add] at ih hl
    have hn : ¬ (((a.take i).flatten.length : Int) + (a.getD i []).length < 0) := by omega
    simp (disch := omega) only [↓p_test, p_lt, p_le, p_ltN, p_leN, p_eqN, p_len, p_ofN, p_nat, p_rd, p_set, p_app, p_take, p_drop, p_rep, p_wrap, p_add, p_sub, p_no, p_eq, p_eqB, p_eqP, p_bnd_some, Pu.w64, Int.toNat_natCast, decide_eq_true_eq, Int.ofNat_lt, Int.ofNat_le, if_true, if_false, Int.natCast_nonneg, decide_true, decide_false, Bool.not_true, Bool.not_false, Bool.false_eq_true, Bool.not_eq_true, Bool.true_and, Bool.and_true, Bool.false_and, Bool.and_false, hlt, hn, slices_Concat__int_int.J1_eq, ih]
theorem slices_Concat__int_int.is {k : Nat} {a : List (List Int)} (hk : 4194304 + 2 ≤ k) (ha : a.length ≤ 1048576) (hf : a.flatten.length ≤ 1099511627776) : slices_Concat__int_int k a = some a.flatten := by
  obtain ⟨k, rfl⟩ : ∃ k', k = k' + 2 := ⟨k - 2, by omega⟩
  rw [slices_Concat__int_int.eq]
  exact slices_Concat__int_int.loop (k := k) (by omega) ha hf a.length (k + 1) 0 (by omega) (by omega)
-- slices_Index__int_int
theorem slices_Index__int_int.is {k : Nat} {r : List Int} {x : Int} (hk : 4194304 + 1 ≤ k) (hr : r.length ≤ 1048577) : slices_Index__int_int k r x = some (Pu.idxI (fun y => decide (x = y)) r) := by
  obtain ⟨k, rfl⟩ : ∃ k', k = k' + 1 := ⟨k - 1, by omega⟩
  rw [slices_Index__int_int.eq]
  have h := Pu.loop_idx r 0 (fun y => decide (x = y)) (fun j i => slices_Index__int_int.L0 k j x r.length i r) (fun i => some (i : Int)) (some (-1))
    (fun j i hi => by
      rw [slices_Index__int_int.L0_eq]
      by_cases c : x = r.getD i 0
      · simp (disch := omega) only [↓p_test, p_lt, p_le, p_ltN, p_leN, p_eqN, p_len, p_ofN, p_nat, p_rd, p_set, p_app, p_take, p_drop, p_rep, p_wrap, p_add, p_sub, p_no, p_eq, p_eqB, p_eqP, p_bnd_some, Pu.w64, Int.toNat_natCast, decide_eq_true_eq, Int.ofNat_lt, Int.ofNat_le, if_true, if_false, Int.natCast_nonneg, decide_true, decide_false, Bool.not_true, Bool.not_false, Bool.false_eq_true, Bool.not_eq_true, Bool.true_and, Bool.and_true, Bool.false_and, Bool.and_false, hi, ← c]
      · simp (disch := omega) only [↓p_test, p_lt, p_le, p_ltN, p_leN, p_eqN, p_len, p_ofN, p_nat, p_rd, p_set, p_app, p_take, p_drop, p_rep, p_wrap, p_add, p_sub, p_no, p_eq, p_eqB, p_eqP, p_bnd_some, Pu.w64, Int.toNat_natCast, decide_eq_true_eq, Int.ofNat_lt, Int.ofNat_le, if_true, if_false, Int.natCast_nonneg, decide_true, decide_false, Bool.not_true, Bool.not_false, Bool.false_eq_true, Bool.not_eq_true, Bool.true_and, Bool.and_true, Bool.false_and, Bool.and_false, hi, c, Int.natCast_add, Int.natCast_one])
    (fun j => by
      rw [slices_Index__int_int.L0_eq]
      simp only [↓p_test, p_lt, p_le, p_ltN, p_leN, p_eqN, p_len, p_ofN, p_nat, p_rd, p_set, p_app, p_take, p_drop, p_rep, p_wrap, p_add, p_sub, p_no, p_eq, p_eqB, p_eqP, p_bnd_some, Pu.w64, Int.toNat_natCast, decide_eq_true_eq, Int.ofNat_lt, Int.ofNat_le, if_true, if_false, Int.natCast_nonneg, decide_true, decide_false, Bool.not_true, Bool.not_false, Bool.false_eq_true, Bool.not_eq_true, Bool.true_and, Bool.and_true, Bool.false_and, Bool.and_false, Nat.lt_irrefl]) r.length k 0 (by omega) (by omega) (by omega)
  simp only [Int.natCast_zero] at h
  simp only [p_ofN, p_len]
  rw [h]
  unfold Pu.idxI
  split <;> rfl
-- slices_Contains__int_int
theorem slices_Contains__int_int.is {k : Nat} {r : List Int} {x : Int} (hk : 4194304 + 2 ≤ k) (hr : r.length ≤ 1048577) : slices_Contains__int_int k r x = some (Pu.has r x) := by
  obtain ⟨k, rfl⟩ : ∃ k', k = k' + 1 := ⟨k - 1, by omega⟩
  rw [slices_Contains__int_int.eq, slices_Index__int_int.is (by omega) hr, p_bnd_some, p_le, Pu.idxI_any]
  rfl
-- impl_areOnce
theorem impl_areOnce.is {k : Nat} {l : List Int} (hk : 4194304 + 3 ≤ k) (hl : l.length ≤ 1048576) : impl_areOnce k l = some (Pu.areOnce l) := by
  obtain ⟨k, rfl⟩ : ∃ k', k = k' + 1 := ⟨k - 1, by omega⟩
  rw [impl_areOnce.eq]
  have h := Pu.loop_all (fun j i => impl_areOnce.L0 k j ((i : Int) + 1) l) l.length (fun i => Pu.has l ((i : Int) + 1)) (some false) (some true)
    (fun j i hi => by
      rw [impl_areOnce.L0_eq, slices_Contains__int_int.is (by omega) (by omega)]
      have c : (i : Int) + 1 ≤ l.length := by omega
      cases hh : Pu.has l ((i : Int) + 1) <;> simp (disch := omega) only [↓p_test, p_lt, p_le, p_ltN, p_leN, p_eqN, p_len, p_ofN, p_nat, p_rd, p_set, p_app, p_take, p_drop, p_rep, p_wrap, p_add, p_sub, p_no, p_eq, p_eqB, p_eqP, p_bnd_some, Pu.w64, Int.toNat_natCast, decide_eq_true_eq, Int.ofNat_lt, Int.ofNat_le, if_true, if_false, Int.natCast_nonneg, decide_true, decide_false, Bool.not_true, Bool.not_false, Bool.false_eq_true, Bool.not_eq_true, Bool.true_and, Bool.and_true, Bool.false_and, Bool.and_false, c, hh, Int.natCast_add, Int.natCast_one])
    (fun j => by
      rw [impl_areOnce.L0_eq]
      have c : ¬ (l.length : Int) + 1 ≤ l.length := by omega
      simp only [↓p_test, p_lt, p_le, p_ltN, p_leN, p_eqN, p_len, p_ofN, p_nat, p_rd, p_set, p_app, p_take, p_drop, p_rep, p_wrap, p_add, p_sub, p_no, p_eq, p_eqB, p_eqP, p_bnd_some, Pu.w64, Int.toNat_natCast, decide_eq_true_eq, Int.ofNat_lt, Int.ofNat_le, if_true, if_false, Int.natCast_nonneg, decide_true, decide_false, Bool.not_true, Bool.not_false, Bool.false_eq_true, Bool.not_eq_true, Bool.true_and, Bool.and_true, Bool.false_and, Bool.and_false, c]) l.length k 0 (by omega) (by omega)
  simp only [Int.natCast_zero, Int.zero_add] at h
  rw [h]
  unfold Pu.areOnce
  cases (List.range' 0 l.length).all fun i => Pu.has l ((i : Int) + 1) <;> simp
-- impl_IsStandard
theorem impl_IsStandard.is {k : Nat} {t : Pu.Tab} (hk : 4194304 + 7 ≤ k) (h1 : t.1.length ≤ 1048576) (ht : t.2.length ≤ 1048576) (hr : ∀ x ∈ t.2, x.length ≤ 1048576) : impl_IsStandard k t = some (Pu.isStd t) := by
  obtain ⟨k, rfl⟩ : ∃ k', k = k' + 1 := ⟨k - 1, by omega⟩
  rw [impl_IsStandard.eq, impl_IsTableau.is (by omega) h1 ht hr, p_bnd_some]
  unfold Pu.isStd
  cases hi : Pu.isTab t with
  | false => simp
  | true =>
    have h9 := Pu.tab_nine hi
    simp only [↓p_test, p_lt, p_le, p_ltN, p_leN, p_eqN, p_len, p_ofN, p_nat, p_rd, p_set, p_app, p_take, p_drop, p_rep, p_wrap, p_add, p_sub, p_no, p_eq, p_eqB, p_eqP, p_bnd_some, Pu.w64, Int.toNat_natCast, decide_eq_true_eq, Int.ofNat_lt, Int.ofNat_le, if_true, if_false, Int.natCast_nonneg, decide_true, decide_false, Bool.not_true, Bool.not_false, Bool.false_eq_true, Bool.not_eq_true, Bool.true_and, Bool.and_true, Bool.false_and, Bool.and_false]
    rw [slices_Concat__int_int.is (by omega) ht (by omega), p_bnd_some, impl_areOnce.is (by omega) (by omega)]
    rfl
-- impl_isPlainStandard
theorem impl_isPlainStandard.is {k : Nat} {t : Pu.Tab} (hk : 4194304 + 10 ≤ k) (h1 : t.1.length ≤ 1048576) (ht : t.2.length ≤ 1048576) (hr : ∀ x ∈ t.2, x.length ≤ 1048576) : impl_isPlainStandard k t = some (Pu.isPlain t && Pu.isStd t) := by
  obtain ⟨k, rfl⟩ : ∃ k', k = k' + 1 := ⟨k - 1, by omega⟩
  rw [impl_isPlainStandard.eq, show ((t.1, t.2) : Pu.Tab) = t from rfl, impl_isPlain.is (by omega) h1 ht hr, impl_IsStandard.is (by omega) h1 ht hr, p_bnd_some, p_bnd_some]
  cases Pu.isPlain t <;> simp
-- impl_ReadingWord
theorem impl_ReadingWord.loop {k : Nat} {rs : List (List Int)} (h9 : Pu.RowsLe 1048576 1048576 rs) : ∀ (m j : Nat) (w : List Int), m ≤ rs.length → m < j → w.length + Pu.size2 (rs.take m) ≤ 1099511627776 → impl_ReadingWord.L0 k j ((m : Int) - 1) rs w = some (w ++ (rs.take m).reverse.flatten)
  | m, 0, w, _, hj, _ => by omega
  | 0, j + 1, w, _, _, _ => by
    rw [impl_ReadingWord.L0_eq]
    have hn : ¬ (0 : Int) ≤ ((0 : Nat) : Int) - 1 := by omega
    simp only [↓p_test, p_lt, p_le, p_ltN, p_leN, p_eqN, p_len, p_ofN, p_nat, p_rd, p_set, p_app, p_take, p_drop, p_rep, p_wrap, p_add, p_sub, p_no, p_eq, p_eqB, p_eqP, p_bnd_some, Pu.w64, Int.toNat_natCast, decide_eq_true_eq, Int.ofNat_lt, Int.ofNat_le, if_true, if_false, Int.natCast_nonneg, decide_true, decide_false, Bool.not_true, Bool.not_false, Bool.false_eq_true, Bool.not_eq_true, Bool.true_and, Bool.and_true, Bool.false_and, Bool.and_false, hn]
    simp
  | m + 1, j + 1, w, hm, hj, hs => by
    rw [impl_ReadingWord.L0_eq]
    have e : (((m + 1 : Nat) : Int) - 1) = (m : Int) := by omega
    have hlt : m < rs.length := by omega
    have ht := Pu.take_succ hlt []
    have hsz : ∀ (a b : List (List Int)), Pu.size2 (a ++ b) = Pu.size2 a + Pu.size2 b := by
      intro a b
      induction a with
      | nil => simp [Pu.size2]
      | cons x a ih => simp only [List.cons_append, Pu.size2, ih]; omega
    rw [ht, hsz] at hs
    simp only [Pu.size2] at hs
    have hl : (w ++ rs.getD m []).length ≤ 1099511627776 := by rw [List.length_append]; omega
    have h0 : (0 : Int) ≤ (m : Int) := by omega
    have ih := impl_ReadingWord.loop (k := k) h9 m j (w ++ rs.getD m []) (by omega) (by omega) (by rw [List.length_append]; omega)
    have hb := h9.1
    rw [e]
    simp (disch := omega) only [↓p_test, p_lt, p_le, p_ltN, p_leN, p_eqN, p_len, p_ofN, p_nat, p_rd, p_set, p_app, p_take, p_drop, p_rep, p_wrap, p_add, p_sub, p_no, p_eq, p_eqB, p_eqP, p_bnd_some, Pu.w64, Int.toNat_natCast, decide_eq_true_eq, Int.ofNat_lt, Int.ofNat_le, if_true, if_false, Int.natCast_nonneg, decide_true, decide_false, Bool.not_true, Bool.not_false, Bool.false_eq_true, Bool.not_eq_true, Bool.true_and, Bool.and_true, Bool.false_and, Bool.and_false, h0, hlt, hl, ih]
    rw [ht, List.reverse_append, List.flatten_append]
    simp
theorem impl_ReadingWord.is {k : Nat} {t : Pu.Tab} (hk : 4194304 + 10 ≤ k) (h1 : t.1.length ≤ 1048576) (ht : t.2.length ≤ 1048576) (hr : ∀ x ∈ t.2, x.length ≤ 1048576) : impl_ReadingWord k t = some (if Pu.isTab t = true then t.2.reverse.flatten else []) := by
  obtain ⟨k, rfl⟩ : ∃ k', k = k' + 1 := ⟨k - 1, by omega⟩
  rw [impl_ReadingWord.eq, show ((t.1, t.2) : Pu.Tab) = t from rfl, impl_IsTableau.is (by omega) h1 ht hr, p_bnd_some]
  cases hb : Pu.isTab t with
  | false => simp
  | true =>
    have hs := Pu.size2_lim ht hr
    have hl := impl_ReadingWord.loop (k := k) (rs := t.2) ⟨ht, hr⟩ t.2.length k [] (Nat.le_refl _) (by omega) (by rw [List.take_length]; simpa using hs)
    rw [List.take_length] at hl
    simp (disch := omega) only [↓p_test, p_lt, p_le, p_ltN, p_leN, p_eqN, p_len, p_ofN, p_nat, p_rd, p_set, p_app, p_take, p_drop, p_rep, p_wrap, p_add, p_sub, p_no, p_eq, p_eqB, p_eqP, p_bnd_some, Pu.w64, Int.toNat_natCast, decide_eq_true_eq, Int.ofNat_lt, Int.ofNat_le, if_true, if_false, Int.natCast_nonneg, decide_true, decide_false, Bool.not_true, Bool.not_false, Bool.false_eq_true, Bool.not_eq_true, Bool.true_and, Bool.and_true, Bool.false_and, Bool.and_false, hl, List.nil_append]
-- impl_Tableau_own
theorem impl_Tableau_own.loop {k : Nat} {t : Pu.Tab} {x3 x4 : List Int} {x5 : List (List Int)} (hk : 1 ≤ k) (ht : t.2.length ≤ 1048576) (hr : ∀ x ∈ t.2, x.length ≤ 1048576) : ∀ (m j i : Nat), i + m = t.2.length → m < j →
    impl_Tableau_own.L0 k j t.2.length i t.2 x3 x5 x4 (t.2.take i) = some (x4, t.2)
  | m, 0, i, _, hj => by omega
  | 0, j + 1, i, hm, _ => by
    rw [impl_Tableau_own.L0_eq]
    have e : i = t.2.length := by omega
    subst e
    simp
  | m + 1, j + 1, i, hm, hj => by
    rw [impl_Tableau_own.L0_eq]
    have hlt : i < t.2.length := by omega
    have hx := hr _ (List.getElem_mem hlt)
    rw [← Pu.getD_lt hlt []] at hx
    have ih := impl_Tableau_own.loop (k := k) (x3 := x3) (x4 := x4) (x5 := x5) hk ht hr m j (i + 1) (by omega) (by omega)
    rw [Int.natCast_succ, Pu.take_succ hlt []] at ih
    have hl : (t.2.take i ++ [t.2.getD i []]).length ≤ 1099511627776 := by simp; omega
    simp (disch := omega) only [↓p_test, p_lt, p_le, p_ltN, p_leN, p_eqN, p_len, p_ofN, p_nat, p_rd, p_set, p_app, p_take, p_drop, p_rep, p_wrap, p_add, p_sub, p_no, p_eq, p_eqB, p_eqP, p_bnd_some, Pu.w64, Int.toNat_natCast, decide_eq_true_eq, Int.ofNat_lt, Int.ofNat_le, if_true, if_false, Int.natCast_nonneg, decide_true, decide_false, Bool.not_true, Bool.not_false, Bool.false_eq_true, Bool.not_eq_true, Bool.true_and, Bool.and_true, Bool.false_and, Bool.and_false, hlt, hl, slices_Clone__int_int.is, ih]
theorem impl_Tableau_own.is {k : Nat} {t : Pu.Tab} (hk : 4194304 + 1 ≤ k) (h1 : t.1.length ≤ 1048576) (ht : t.2.length ≤ 1048576) (hr : ∀ x ∈ t.2, x.length ≤ 1048576) : impl_Tableau_own k t = some t := by
  obtain ⟨k, rfl⟩ : ∃ k', k = k' + 1 := ⟨k - 1, by omega⟩
  rw [impl_Tableau_own.eq, slices_Clone__int_int.is (by omega) (by omega)]
  have h := impl_Tableau_own.loop (k := k) (t := t) (x3 := []) (x4 := t.1) (x5 := []) (by omega) ht hr t.2.length k 0 (by omega) (by omega)
  rw [Int.natCast_zero, List.take_zero] at h
  exact h
-- impl_RowOfEntry_1_rpi
theorem impl_RowOfEntry_1_rpi.is {k : Nat} {n : Int} {r : List Int} (hk : 4194304 + 3 ≤ k) (hr : r.length ≤ 1048577) : impl_RowOfEntry_1_rpi k n r = some (Pu.has r n, n) := by
  obtain ⟨k, rfl⟩ : ∃ k', k = k' + 1 := ⟨k - 1, by omega⟩
  rw [impl_RowOfEntry_1_rpi.eq, slices_Contains__int_int.is (by omega) hr]
  rfl
-- slices_IndexFunc___int__int_rFimpl_RowOfEntry_1pi
theorem slices_IndexFunc___int__int_rFimpl_RowOfEntry_1pi.is {k : Nat} {r : List (List Int)} {n : Int} (hk : 4194304 + 4 ≤ k) (hl : r.length ≤ 1048577) (hr : ∀ x ∈ r, x.length ≤ 1048577) : slices_IndexFunc___int__int_rFimpl_RowOfEntry_1pi k n r = some (Pu.idxI (fun x => Pu.has x n) r, n) := by
  obtain ⟨k, rfl⟩ : ∃ k', k = k' + 1 := ⟨k - 1, by omega⟩
  rw [slices_IndexFunc___int__int_rFimpl_RowOfEntry_1pi.eq]
  have h := Pu.loop_idx r [] (fun x => Pu.has x n) (fun j i => slices_IndexFunc___int__int_rFimpl_RowOfEntry_1pi.L0 k j r.length i r n) (fun i => some ((i : Int), n)) (some (-1, n))
    (fun j i hi => by
      have hx := hr _ (List.getElem_mem hi)
      rw [← Pu.getD_lt hi []] at hx
      rw [slices_IndexFunc___int__int_rFimpl_RowOfEntry_1pi.L0_eq]
      have e1 := impl_RowOfEntry_1_rpi.is (k := k) (n := n) (by omega) hx
      cases c : Pu.has (r.getD i []) n <;> simp (disch := omega) only [↓p_test, p_lt, p_le, p_ltN, p_leN, p_eqN, p_len, p_ofN, p_nat, p_rd, p_set, p_app, p_take, p_drop, p_rep, p_wrap, p_add, p_sub, p_no, p_eq, p_eqB, p_eqP, p_bnd_some, Pu.w64, Int.toNat_natCast, decide_eq_true_eq, Int.ofNat_lt, Int.ofNat_le, if_true, if_false, Int.natCast_nonneg, decide_true, decide_false, Bool.not_true, Bool.not_false, Bool.false_eq_true, Bool.not_eq_true, Bool.true_and, Bool.and_true, Bool.false_and, Bool.and_false, hi, e1, c, Int.natCast_add, Int.natCast_one])
    (fun j => by
      rw [slices_IndexFunc___int__int_rFimpl_RowOfEntry_1pi.L0_eq]
      simp only [↓p_test, p_lt, p_le, p_ltN, p_leN, p_eqN, p_len, p_ofN, p_nat, p_rd, p_set, p_app, p_take, p_drop, p_rep, p_wrap, p_add, p_sub, p_no, p_eq, p_eqB, p_eqP, p_bnd_some, Pu.w64, Int.toNat_natCast, decide_eq_true_eq, Int.ofNat_lt, Int.ofNat_le, if_true, if_false, Int.natCast_nonneg, decide_true, decide_false, Bool.not_true, Bool.not_false, Bool.false_eq_true, Bool.not_eq_true, Bool.true_and, Bool.and_true, Bool.false_and, Bool.and_false, Nat.lt_irrefl]) r.length k 0 (by omega) (by omega) (by omega)
  simp only [Int.natCast_zero] at h
  simp only [p_ofN, p_len]
  rw [h]
  unfold Pu.idxI
  split <;> rfl
-- impl_RowOfEntry
theorem impl_RowOfEntry.is {k : Nat} {t : Pu.Tab} {n : Int} (hk : 4194304 + 8 ≤ k) (h1 : t.1.length ≤ 1048576) (ht : t.2.length ≤ 1048576) (hr : ∀ x ∈ t.2, x.length ≤ 1048576) : impl_RowOfEntry k t n = some (if Pu.isStd t = true then Pu.rowOf t n else -1) := by
  obtain ⟨k, rfl⟩ : ∃ k', k = k' + 1 := ⟨k - 1, by omega⟩
  rw [impl_RowOfEntry.eq, impl_IsStandard.is (by omega) h1 ht hr, p_bnd_some, slices_IndexFunc___int__int_rFimpl_RowOfEntry_1pi.is (by omega) (by omega) (fun x hx => by have := hr x hx; omega)]
  cases Pu.isStd t <;> simp [Pu.rowOf]
-- impl_AddBox
theorem impl_AddBox.tail {k : Nat} {o p : List Int} {r : Int} (hk : 4194304 + 1 ≤ k) (hp : p.length ≤ 1048576) (hb : ∀ x ∈ p, x ≤ 1000000000 ∧ -1000000000 ≤ x) (h0 : 0 ≤ r) (h1 : r < p.length) :
    impl_AddBox.J1 k r p = some (if Pu.isPart (p.set r.toNat (p.getD r.toNat 0 + 1)) = true then (p.set r.toNat (p.getD r.toNat 0 + 1), true) else ([], false)) := by
  rw [impl_AddBox.J1_eq]
  have hn : r.toNat < p.length := by omega
  have hx := hb _ (List.getElem_mem hn)
  rw [← Pu.getD_lt hn 0] at hx
  have ew : IntKind.i64.wrap (p.getD r.toNat 0 + 1) = p.getD r.toNat 0 + 1 := Pu.w64 (by omega) (by omega)
  have hi := impl_IsPartition.is (k := k) (p := p.set r.toNat (p.getD r.toNat 0 + 1)) hk (by rw [List.length_set]; exact hp)
  by_cases hq : Pu.isPart (p.set r.toNat (p.getD r.toNat 0 + 1)) = true
  · simp only [↓p_test, p_lt, p_le, p_ltN, p_leN, p_eqN, p_len, p_ofN, p_nat, p_rd, p_set, p_app, p_take, p_drop, p_rep, p_wrap, p_add, p_sub, p_no, p_eq, p_eqB, p_eqP, p_bnd_some, Pu.w64, Int.toNat_natCast, decide_eq_true_eq, Int.ofNat_lt, Int.ofNat_le, if_true, if_false, Int.natCast_nonneg, decide_true, decide_false, Bool.not_true, Bool.not_false, Bool.false_eq_true, Bool.not_eq_true, Bool.true_and, Bool.and_true, Bool.false_and, Bool.and_false, h0, hn, ew, hi, hq]
  · simp only [Bool.not_eq_true] at hq
    simp only [↓p_test, p_lt, p_le, p_ltN, p_leN, p_eqN, p_len, p_ofN, p_nat, p_rd, p_set, p_app, p_take, p_drop, p_rep, p_wrap, p_add, p_sub, p_no, p_eq, p_eqB, p_eqP, p_bnd_some, Pu.w64, Int.toNat_natCast, decide_eq_true_eq, Int.ofNat_lt, Int.ofNat_le, if_true, if_false, Int.natCast_nonneg, decide_true, decide_false, Bool.not_true, Bool.not_false, Bool.false_eq_true, Bool.not_eq_true, Bool.true_and, Bool.and_true, Bool.false_and, Bool.and_false, h0, hn, ew, hi, hq]
theorem impl_AddBox.is {k : Nat} {p : List Int} {r : Int} (hk : 4194304 + 3 ≤ k) (hp : p.length ≤ 1000000) : impl_AddBox k p r = some (Pu.addBox p r) := by
  obtain ⟨k, rfl⟩ : ∃ k', k = k' + 1 := ⟨k - 1, by omega⟩
  rw [impl_AddBox.eq, impl_IsPartition.is (by omega) (by omega), p_bnd_some]
  unfold Pu.addBox
  by_cases h1 : Pu.isPart p = true
  · have hb : ∀ x ∈ p, x ≤ 1000000000 ∧ -1000000000 ≤ x := fun x hx => by
      have := (Pu.isPart_spec h1).1 x hx
      omega
    rw [p_len, p_ofN, impl_within.is (by omega), p_bnd_some]
    by_cases h2 : 0 ≤ r ∧ r ≤ p.length
    · obtain ⟨h2, h3⟩ := h2
      rw [impl_AddBox.J0_eq, slices_Clone__int_int.is (by omega) (by omega), p_bnd_some]
      by_cases e : r = p.length
      · have hr : r < (p ++ [0]).length := by rw [List.length_append]; simp; omega
        have ht := impl_AddBox.tail (o := p) (k := k) (p := p ++ [0]) (r := r) (by omega) (by rw [List.length_append]; simp; omega) (fun x hx => by
          rcases List.mem_append.1 hx with h | h
          · exact hb x h
          · simp at h; omega) h2 hr
        have hlim : (p ++ [(0 : Int)]).length ≤ 1099511627776 := by rw [List.length_append]; simp; omega
        have e' : (r = (p.length : Int)) = True := eq_true e
        have hw : Pu.within r 0 p.length = true := by simp [Pu.within, h2, h3]
        simp only [↓p_test, p_lt, p_le, p_ltN, p_leN, p_eqN, p_len, p_ofN, p_nat, p_rd, p_set, p_app, p_take, p_drop, p_rep, p_wrap, p_add, p_sub, p_no, p_eq, p_eqB, p_eqP, p_bnd_some, Pu.w64, Int.toNat_natCast, decide_eq_true_eq, Int.ofNat_lt, Int.ofNat_le, if_true, if_false, Int.natCast_nonneg, decide_true, decide_false, Bool.not_true, Bool.not_false, Bool.false_eq_true, Bool.not_eq_true, Bool.true_and, Bool.and_true, Bool.false_and, Bool.and_false, h1, hw, e', hlim]
        rw [ht]; simp only [h2, h3, and_self, if_true]
      · have ht := impl_AddBox.tail (o := p) (k := k) (p := p) (r := r) (by omega) (by omega) hb h2 (by omega)
        have hw : Pu.within r 0 p.length = true := by simp [Pu.within, h2, h3]
        simp only [↓p_test, p_lt, p_le, p_ltN, p_leN, p_eqN, p_len, p_ofN, p_nat, p_rd, p_set, p_app, p_take, p_drop, p_rep, p_wrap, p_add, p_sub, p_no, p_eq, p_eqB, p_eqP, p_bnd_some, Pu.w64, Int.toNat_natCast, decide_eq_true_eq, Int.ofNat_lt, Int.ofNat_le, if_true, if_false, Int.natCast_nonneg, decide_true, decide_false, Bool.not_true, Bool.not_false, Bool.false_eq_true, Bool.not_eq_true, Bool.true_and, Bool.and_true, Bool.false_and, Bool.and_false, h1, hw, e]
        rw [ht]; simp only [h2, h3, and_self, if_true]
    · simp only [↓p_test, p_lt, p_le, p_ltN, p_leN, p_eqN, p_len, p_ofN, p_nat, p_rd, p_set, p_app, p_take, p_drop, p_rep, p_wrap, p_add, p_sub, p_no, p_eq, p_eqB, p_eqP, p_bnd_some, Pu.w64, Int.toNat_natCast, decide_eq_true_eq, Int.ofNat_lt, Int.ofNat_le, if_true, if_false, Int.natCast_nonneg, decide_true, decide_false, Bool.not_true, Bool.not_false, Bool.false_eq_true, Bool.not_eq_true, Bool.true_and, Bool.and_true, Bool.false_and, Bool.and_false, h1, Pu.within]
      by_cases h3 : 0 ≤ r
      · have h4 : ¬ r ≤ p.length := fun h => h2 ⟨h3, h⟩
        simp [h1, h3, h4]
      · simp [h1, h3]
  · simp only [Bool.not_eq_true] at h1
    simp [h1]
-- impl_Tableau_grid
theorem impl_Tableau_grid.loop {k : Nat} {t : Pu.Tab} (hk : 4194304 + 2 ≤ k) (hi : Pu.isPart t.1 = true) (ht : Pu.RowsLe 1048576 1048576 t.2) : ∀ (m j i : Nat), i + m = t.2.length → m < j →
    impl_Tableau_grid.L0 k j t.2.length i ((Pu.gridOf t).take i) t.2 t.1 = some (Pu.gridOf t)
  | m, 0, i, _, hj => by omega
  | 0, j + 1, i, hm, _ => by
    rw [impl_Tableau_grid.L0_eq]
    have e : i = t.2.length := by omega
    subst e
    rw [← Pu.grid_len t, List.take_length]
    simp only [↓p_test, p_lt, p_le, p_ltN, p_leN, p_eqN, p_len, p_ofN, p_nat, p_rd, p_set, p_app, p_take, p_drop, p_rep, p_wrap, p_add, p_sub, p_no, p_eq, p_eqB, p_eqP, p_bnd_some, Pu.w64, Int.toNat_natCast, decide_eq_true_eq, Int.ofNat_lt, Int.ofNat_le, if_true, if_false, Int.natCast_nonneg, decide_true, decide_false, Bool.not_true, Bool.not_false, Bool.false_eq_true, Bool.not_eq_true, Bool.true_and, Bool.and_true, Bool.false_and, Bool.and_false, Nat.lt_irrefl]
  | m + 1, j + 1, i, hm, hj => by
    rw [impl_Tableau_grid.L0_eq]
    have hlt : i < t.2.length := by omega
    have hg : i < (Pu.gridOf t).length := by rw [Pu.grid_len]; exact hlt
    have hl := ht.1
    have h9 := (Pu.isPart_spec hi).2.2.1
    have hb := Pu.part_atI hi i
    rw [Pu.atI_nat] at hb
    have hrow := ht.at i
    have ha := impl_at.is (k := k) (p := t.1) (i := (i : Int)) (by omega) (by omega)
    rw [Pu.atI_nat] at ha
    have ih := impl_Tableau_grid.loop (k := k) (t := t) hk hi ht m j (i + 1) (by omega) (by omega)
    rw [Int.natCast_succ, Pu.take_succ hg [], Pu.grid_get hlt] at ih
    have hc := slices_Concat__int_int.is (k := k) (a := [List.replicate (t.1.getD i 0).toNat 0, t.2.getD i []]) hk (by simp) (by simp only [List.flatten_cons, List.flatten_nil, List.append_nil, List.length_append, List.length_replicate]; omega)
    simp only [List.flatten_cons, List.flatten_nil, List.append_nil] at hc
    have hn : (t.1.getD i 0).toNat ≤ 1099511627776 := by omega
    have hb1 := hb.1
    have hln : ((Pu.gridOf t).take i ++ [List.replicate (t.1.getD i 0).toNat 0 ++ t.2.getD i []]).length ≤ 1099511627776 := by
      rw [List.length_append, List.length_take, Pu.grid_len]; simp; omega
    simp (disch := omega) only [↓p_test, p_lt, p_le, p_ltN, p_leN, p_eqN, p_len, p_ofN, p_nat, p_rd, p_set, p_app, p_take, p_drop, p_rep, p_wrap, p_add, p_sub, p_no, p_eq, p_eqB, p_eqP, p_bnd_some, Pu.w64, Int.toNat_natCast, decide_eq_true_eq, Int.ofNat_lt, Int.ofNat_le, if_true, if_false, Int.natCast_nonneg, decide_true, decide_false, Bool.not_true, Bool.not_false, Bool.false_eq_true, Bool.not_eq_true, Bool.true_and, Bool.and_true, Bool.false_and, Bool.and_false, hlt, ha, hb1, Int.le_refl, hn, hc, hln, ih]
theorem impl_Tableau_grid.is {k : Nat} {t : Pu.Tab} (hk : 4194304 + 3 ≤ k) (hi : Pu.isPart t.1 = true) (ht : Pu.RowsLe 1048576 1048576 t.2) : impl_Tableau_grid k t = some (Pu.gridOf t) := by
  obtain ⟨k, rfl⟩ : ∃ k', k = k' + 1 := ⟨k - 1, by omega⟩
  rw [impl_Tableau_grid.eq]
  have hl := ht.1
  have h := impl_Tableau_grid.loop (k := k) (t := t) (by omega) hi ht t.2.length k 0 (by omega) (by omega)
  rw [Int.natCast_zero, List.take_zero] at h
  exact h
-- impl_cell
theorem impl_cell.is {k : Nat} {a : List (List Int)} {i c : Int} (hk : 3 ≤ k) (ha : Pu.RowsLe 1048576 1048576 a) : impl_cell k a i c = some (Pu.cellI a i c) := by
  obtain ⟨k, rfl⟩ : ∃ k', k = k' + 1 := ⟨k - 1, by omega⟩
  have hl := ha.1
  rw [impl_cell.eq]
  by_cases h0 : i < 0
  · have h1 : ¬ 0 ≤ i := by omega
    rw [Pu.cellI_neg h0]
    simp (disch := omega) only [↓p_test, p_lt, p_le, p_ltN, p_leN, p_eqN, p_len, p_ofN, p_nat, p_rd, p_set, p_app, p_take, p_drop, p_rep, p_wrap, p_add, p_sub, p_no, p_eq, p_eqB, p_eqP, p_bnd_some, Pu.w64, Int.toNat_natCast, decide_eq_true_eq, Int.ofNat_lt, Int.ofNat_le, if_true, if_false, Int.natCast_nonneg, decide_true, decide_false, Bool.not_true, Bool.not_false, Bool.false_eq_true, Bool.not_eq_true, Bool.true_and, Bool.and_true, Bool.false_and, Bool.and_false, impl_within.is, Pu.within, h1]
  · have h1 : 0 ≤ i := by omega
    by_cases h2 : i ≤ (a.length : Int) - 1
    · have h3 : i.toNat < a.length := by omega
      have he := impl_at.is (k := k) (p := a.getD i.toNat []) (i := c) (by omega) (ha.at _)
      unfold Pu.cellI
      simp (disch := omega) only [↓p_test, p_lt, p_le, p_ltN, p_leN, p_eqN, p_len, p_ofN, p_nat, p_rd, p_set, p_app, p_take, p_drop, p_rep, p_wrap, p_add, p_sub, p_no, p_eq, p_eqB, p_eqP, p_bnd_some, Pu.w64, Int.toNat_natCast, decide_eq_true_eq, Int.ofNat_lt, Int.ofNat_le, if_true, if_false, Int.natCast_nonneg, decide_true, decide_false, Bool.not_true, Bool.not_false, Bool.false_eq_true, Bool.not_eq_true, Bool.true_and, Bool.and_true, Bool.false_and, Bool.and_false, impl_within.is, Pu.within, h0, h1, h2, h3, he]
    · rw [Pu.cellI_ge (by omega)]
      simp (disch := omega) only [↓p_test, p_lt, p_le, p_ltN, p_leN, p_eqN, p_len, p_ofN, p_nat, p_rd, p_set, p_app, p_take, p_drop, p_rep, p_wrap, p_add, p_sub, p_no, p_eq, p_eqB, p_eqP, p_bnd_some, Pu.w64, Int.toNat_natCast, decide_eq_true_eq, Int.ofNat_lt, Int.ofNat_le, if_true, if_false, Int.natCast_nonneg, decide_true, decide_false, Bool.not_true, Bool.not_false, Bool.false_eq_true, Bool.not_eq_true, Bool.true_and, Bool.and_true, Bool.false_and, Bool.and_false, impl_within.is, Pu.within, h1, h2]
-- impl_SlideOut
theorem impl_SlideOut.loop {k : Nat} {x3 : List Int} {x4 : List (List Int)} {x5 : List Int} {x6 : List (List Int)} (hk : 4 ≤ k) : ∀ (m j : Nat) (g : List (List Int)) (i c : Nat), Pu.RowsLe 10 10 g → (∀ r x, 0 ≤ Pu.cel g r x) → i < g.length → c < (g.getD i []).length → m < j →
    Pu.leftOf (Pu.backGo m g i c).1 (Pu.backGo m g i c).2.1 (Pu.backGo m g i c).2.2 = 0 → Pu.upOf (Pu.backGo m g i c).1 (Pu.backGo m g i c).2.1 (Pu.backGo m g i c).2.2 = 0 →
    impl_SlideOut.L2 k j i c g x3 x4 x5 x6 = impl_SlideOut.J3 k (Pu.backGo m g i c).2.1 (Pu.backGo m g i c).2.2 (Pu.backGo m g i c).1 x3 x4 x5 x6
  | m, 0, g, i, c, _, _, _, _, hj, _, _ => by omega
  | 0, j + 1, g, i, c, hg, hpos, hi, hc, _, s1, s2 => by
    have hl := hg.1
    have hw := hg.at i
    have e5 := impl_cell.is (k := k + 1) (a := g) (i := i) (c := (c : Int) - 1) (by omega) (hg.mono (by omega) (by omega))
    have e6 := impl_cell.is (k := k + 1) (a := g) (i := (i : Int) - 1) (c := c) (by omega) (hg.mono (by omega) (by omega))
    have s1 : Pu.leftOf g i c = 0 := s1
    have s2 : Pu.upOf g i c = 0 := s2
    rw [Pu.cell_left, s1] at e5
    rw [Pu.cell_up, s2] at e6
    rw [impl_SlideOut.L2_eq]
    simp (disch := omega) only [↓p_test, p_lt, p_le, p_ltN, p_leN, p_eqN, p_len, p_ofN, p_nat, p_rd, p_set, p_app, p_take, p_drop, p_rep, p_wrap, p_add, p_sub, p_no, p_eq, p_eqB, p_eqP, p_bnd_some, Pu.w64, Int.toNat_natCast, decide_eq_true_eq, Int.ofNat_lt, Int.ofNat_le, if_true, if_false, Int.natCast_nonneg, decide_true, decide_false, Bool.not_true, Bool.not_false, Bool.false_eq_true, Bool.not_eq_true, Bool.true_and, Bool.and_true, Bool.false_and, Bool.and_false, e5, e6, Pu.backGo]
  | m + 1, j + 1, g, i, c, hg, hpos, hi, hc, hj, s1, s2 => by
    have hl := hg.1
    have hw := hg.at i
    have e5 := impl_cell.is (k := k + 1) (a := g) (i := i) (c := (c : Int) - 1) (by omega) (hg.mono (by omega) (by omega))
    have e6 := impl_cell.is (k := k + 1) (a := g) (i := (i : Int) - 1) (c := c) (by omega) (hg.mono (by omega) (by omega))
    rw [Pu.cell_left] at e5
    rw [Pu.cell_up] at e6
    have hs : ∀ v, Pu.RowsLe 10 10 (Pu.setc g i c v) := fun v => hg.set i (by rw [List.length_set]; exact hw)
    have es : ∀ v, g.set i ((g.getD i []).set c v) = Pu.setc g i c v := fun _ => rfl
    have pl : 0 ≤ Pu.leftOf g i c := Pu.left_val (V := fun v => 0 ≤ v) (Int.le_refl 0) hpos i c
    have pu : 0 ≤ Pu.upOf g i c := Pu.up_val (V := fun v => 0 ≤ v) (Int.le_refl 0) hpos i c
    rw [impl_SlideOut.L2_eq]
    unfold Pu.backGo at s1 s2 ⊢
    by_cases c1 : Pu.leftOf g i c = 0 ∧ Pu.upOf g i c = 0
    · rw [if_pos c1] at s1 s2 ⊢
      rw [c1.1] at e5
      rw [c1.2] at e6
      simp (disch := omega) only [↓p_test, p_lt, p_le, p_ltN, p_leN, p_eqN, p_len, p_ofN, p_nat, p_rd, p_set, p_app, p_take, p_drop, p_rep, p_wrap, p_add, p_sub, p_no, p_eq, p_eqB, p_eqP, p_bnd_some, Pu.w64, Int.toNat_natCast, decide_eq_true_eq, Int.ofNat_lt, Int.ofNat_le, if_true, if_false, Int.natCast_nonneg, decide_true, decide_false, Bool.not_true, Bool.not_false, Bool.false_eq_true, Bool.not_eq_true, Bool.true_and, Bool.and_true, Bool.false_and, Bool.and_false, e5, e6]
    · rw [if_neg c1] at s1 s2 ⊢
      by_cases c2 : Pu.leftOf g i c ≤ Pu.upOf g i c
      · rw [if_pos c2] at s1 s2 ⊢
        have hb : Pu.upOf g i c ≠ 0 := fun e => c1 ⟨by omega, e⟩
        obtain ⟨b0, b1, b2⟩ := Pu.up_in hb
        have ih := impl_SlideOut.loop (x3 := x3) (x4 := x4) (x5 := x5) (x6 := x6) hk m j (Pu.setc g i c (Pu.upOf g i c)) (i - 1) c (hs _) (Pu.set_pos hpos i c pu) (by rw [Pu.setc_len]; exact b1) (by rw [Pu.setc_row]; exact b2) (by omega) s1 s2
        rw [show ((i - 1 : Nat) : Int) = (i : Int) - 1 by omega] at ih
        by_cases c3 : Pu.leftOf g i c = 0
        · simp (disch := omega) only [↓p_test, p_lt, p_le, p_ltN, p_leN, p_eqN, p_len, p_ofN, p_nat, p_rd, p_set, p_app, p_take, p_drop, p_rep, p_wrap, p_add, p_sub, p_no, p_eq, p_eqB, p_eqP, p_bnd_some, Pu.w64, Int.toNat_natCast, decide_eq_true_eq, Int.ofNat_lt, Int.ofNat_le, if_true, if_false, Int.natCast_nonneg, decide_true, decide_false, Bool.not_true, Bool.not_false, Bool.false_eq_true, Bool.not_eq_true, Bool.true_and, Bool.and_true, Bool.false_and, Bool.and_false, e5, e6, c3, hb, c2, hi, hc, es, impl_SlideOut.J4_eq, pu, ih]
        · simp (disch := omega) only [↓p_test, p_lt, p_le, p_ltN, p_leN, p_eqN, p_len, p_ofN, p_nat, p_rd, p_set, p_app, p_take, p_drop, p_rep, p_wrap, p_add, p_sub, p_no, p_eq, p_eqB, p_eqP, p_bnd_some, Pu.w64, Int.toNat_natCast, decide_eq_true_eq, Int.ofNat_lt, Int.ofNat_le, if_true, if_false, Int.natCast_nonneg, decide_true, decide_false, Bool.not_true, Bool.not_false, Bool.false_eq_true, Bool.not_eq_true, Bool.true_and, Bool.and_true, Bool.false_and, Bool.and_false, e5, e6, c3, c2, hi, hc, es, impl_SlideOut.J4_eq, ih]
      · rw [if_neg c2] at s1 s2 ⊢
        have c3 : ¬ Pu.leftOf g i c = 0 := fun e => c2 (by omega)
        obtain ⟨b0, b1, b2⟩ := Pu.left_in c3
        have ih := impl_SlideOut.loop (x3 := x3) (x4 := x4) (x5 := x5) (x6 := x6) hk m j (Pu.setc g i c (Pu.leftOf g i c)) i (c - 1) (hs _) (Pu.set_pos hpos i c pl) (by rw [Pu.setc_len]; exact b1) (by rw [Pu.setc_row]; exact b2) (by omega) s1 s2
        rw [show ((c - 1 : Nat) : Int) = (c : Int) - 1 by omega] at ih
        simp (disch := omega) only [↓p_test, p_lt, p_le, p_ltN, p_leN, p_eqN, p_len, p_ofN, p_nat, p_rd, p_set, p_app, p_take, p_drop, p_rep, p_wrap, p_add, p_sub, p_no, p_eq, p_eqB, p_eqP, p_bnd_some, Pu.w64, Int.toNat_natCast, decide_eq_true_eq, Int.ofNat_lt, Int.ofNat_le, if_true, if_false, Int.natCast_nonneg, decide_true, decide_false, Bool.not_true, Bool.not_false, Bool.false_eq_true, Bool.not_eq_true, Bool.true_and, Bool.and_true, Bool.false_and, Bool.and_false, e5, e6, c3, c2, hi, hc, es, impl_SlideOut.J4_eq, ih]
theorem impl_SlideOut.rows {k : Nat} {q : List Int} {G : List (List Int)} {x2 : Int} {x5 : List Int} {x6 : List (List Int)} {x8 : List Int} {x9 : List (List Int)} (hk : 4 ≤ k) (hG : Pu.RowsLe 10 10 G) (hq : q.length ≤ 100)
    (h1 : ∀ r, r < G.length → 0 < (G.getD r []).length → 0 ≤ q.getD r 0 ∧ q.getD r 0 ≤ (G.getD r []).length) : ∀ (m j i : Nat) (acc : List (List Int)), i + m = G.length → m < j → acc.length ≤ i →
    impl_SlideOut.L6 k j G.length i x2 q G x5 x6 acc x8 x9 = some ((q, acc ++ Pu.ofGo q i (G.drop i)), (x2, true))
  | m, 0, i, acc, _, hj, _ => by omega
  | 0, j + 1, i, acc, hm, _, _ => by
    rw [impl_SlideOut.L6_eq]
    have e : i = G.length := by omega
    subst e
    simp only [↓p_test, p_lt, p_le, p_ltN, p_leN, p_eqN, p_len, p_ofN, p_nat, p_rd, p_set, p_app, p_take, p_drop, p_rep, p_wrap, p_add, p_sub, p_no, p_eq, p_eqB, p_eqP, p_bnd_some, Pu.w64, Int.toNat_natCast, decide_eq_true_eq, Int.ofNat_lt, Int.ofNat_le, if_true, if_false, Int.natCast_nonneg, decide_true, decide_false, Bool.not_true, Bool.not_false, Bool.false_eq_true, Bool.not_eq_true, Bool.true_and, Bool.and_true, Bool.false_and, Bool.and_false, Nat.lt_irrefl, List.drop_length, Pu.ofGo, List.append_nil]
  | m + 1, j + 1, i, acc, hm, hj, ha => by
    have hl := hG.1
    have hw := hG.at i
    have hi : i < G.length := by omega
    rw [impl_SlideOut.L6_eq, Pu.drop_cons hi []]
    unfold Pu.ofGo
    by_cases c : 0 < (G.getD i []).length
    · obtain ⟨a2, a3⟩ := h1 i hi c
      have ih := impl_SlideOut.rows (x2 := x2) (x5 := x5) (x6 := x6) (x8 := x8) (x9 := x9) hk hG hq h1 m j (i + 1) (acc ++ [(G.getD i []).drop (q.getD i 0).toNat]) (by omega) (by omega) (by rw [List.length_append, List.length_singleton]; omega)
      rw [Int.natCast_succ] at ih
      have hat := impl_at.is (k := k) (p := q) (i := (i : Int)) (by omega) (by omega)
      rw [Pu.atI_nat] at hat
      have et : (G.getD i []).drop (q.getD i 0).toNat = ((G.getD i []).drop (q.getD i 0).toNat).take ((G.getD i []).length - (q.getD i 0).toNat) := (List.take_of_length_le (by rw [List.length_drop]; exact Nat.le_refl _)).symm
      have hcl := slices_Clone__int_int.is (k := k) (a := (G.getD i []).drop (q.getD i 0).toNat) (by omega) (by rw [List.length_drop]; omega)
      have hln : (acc ++ [(G.getD i []).drop (q.getD i 0).toNat]).length ≤ 1099511627776 := by
        rw [List.length_append, List.length_singleton]; omega
      have a4 : (0 : Int) < (G.getD i []).length := by omega
      have a5 : (q.getD i 0).toNat ≤ (G.getD i []).length := by omega
      rw [if_pos c]
      simp (disch := omega) only [↓p_test, p_lt, p_le, p_ltN, p_leN, p_eqN, p_len, p_ofN, p_nat, p_rd, p_set, p_app, p_take, p_drop, p_rep, p_wrap, p_add, p_sub, p_no, p_eq, p_eqB, p_eqP, p_bnd_some, Pu.w64, Int.toNat_natCast, decide_eq_true_eq, Int.ofNat_lt, Int.ofNat_le, if_true, if_false, Int.natCast_nonneg, decide_true, decide_false, Bool.not_true, Bool.not_false, Bool.false_eq_true, Bool.not_eq_true, Bool.true_and, Bool.and_true, Bool.false_and, Bool.and_false, hi, a2, a4, a5, hat, p_subN, ← et, hcl, hln, impl_SlideOut.J7_eq, ih, List.append_assoc, List.cons_append, List.nil_append]
    · have a4 : ¬ (0 : Int) < (G.getD i []).length := by omega
      have ih := impl_SlideOut.rows (x2 := x2) (x5 := x5) (x6 := x6) (x8 := x8) (x9 := x9) hk hG hq h1 m j (i + 1) acc (by omega) (by omega) (by omega)
      rw [Int.natCast_succ] at ih
      rw [if_neg c]
      simp (disch := omega) only [↓p_test, p_lt, p_le, p_ltN, p_leN, p_eqN, p_len, p_ofN, p_nat, p_rd, p_set, p_app, p_take, p_drop, p_rep, p_wrap, p_add, p_sub, p_no, p_eq, p_eqB, p_eqP, p_bnd_some, Pu.w64, Int.toNat_natCast, decide_eq_true_eq, Int.ofNat_lt, Int.ofNat_le, if_true, if_false, Int.natCast_nonneg, decide_true, decide_false, Bool.not_true, Bool.not_false, Bool.false_eq_true, Bool.not_eq_true, Bool.true_and, Bool.and_true, Bool.false_and, Bool.and_false, hi, a4, impl_SlideOut.J7_eq, ih]
theorem impl_SlideOut.is {k : Nat} {t : Pu.Tab} {n i c : Nat} {p q : List Int} {g : List (List Int)} (hk : 4194304 + 30 ≤ k) (h : Pu.isTab t = true) (hp : Pu.addBox (Pu.outer t) n = (p, true)) (hpos : ∀ r x, 0 ≤ Pu.cel (Pu.outGrid t n) r x)
    (hs : Pu.backGo 18 (Pu.outGrid t n) n (p.getD n 0 - 1).toNat = (g, (i, c))) (h1 : Pu.leftOf g i c = 0) (h2 : Pu.upOf g i c = 0) (hg : Pu.RowsLe 10 10 g) (hq : Pu.addBox t.1 i = (q, true)) (hc : q.getD i 0 = c + 1)
    (hin : ∀ r, r < g.length → 0 < (g.getD r []).length → 0 ≤ q.getD r 0 ∧ q.getD r 0 ≤ (g.getD r []).length) : impl_SlideOut k t n = some ((q, Pu.ofGo q 0 g), ((i : Int), true)) := by
  obtain ⟨k, rfl⟩ : ∃ k', k = k' + 2 := ⟨k - 2, by omega⟩
  obtain ⟨z1, z2⟩ := Pu.tab_small h
  obtain ⟨hp1, ho, hl, _⟩ := Pu.tab_parts h
  have zl := z2.1
  have hit := impl_IsTableau.is (k := k + 1) (t := t) (by omega) (by omega) (by omega) (fun r hr => by have := z2.2 r hr; omega)
  rw [h] at hit
  have hsh := impl_ShapeOf.is (k := k + 1) (t := t) (by omega) (by omega) (by omega) (fun r hr => by have := z2.2 r hr; omega)
  have hso : Pu.shapeOf t = ((Pu.outer t, t.1), true) := by unfold Pu.shapeOf; rw [if_pos (Pu.tab_shape h)]
  rw [hso] at hsh
  have hol := Pu.outer_len t
  have hab := impl_AddBox.is (k := k + 1) (p := Pu.outer t) (r := (n : Int)) (by omega) (by omega)
  rw [hp] at hab
  have hab2 := impl_AddBox.is (k := k + 1) (p := t.1) (r := (i : Int)) (by omega) (by omega)
  rw [hq] at hab2
  have hgr := impl_Tableau_grid.is (k := k + 1) (t := t) (by omega) hp1 (z2.mono (by omega) (by omega))
  obtain ⟨b1, b2, b3, b4, b5⟩ := Pu.addBox_lt hp
  obtain ⟨d1, d2, d3, d4, d5⟩ := Pu.addBox_lt hq
  rw [hol] at b1 b3
  have hpn := b4 n
  rw [if_pos rfl] at hpn
  have hon := Pu.grid_out hp1 n
  have hrn := Pu.out_row b1 n
  rw [if_pos rfl] at hrn
  have hoL := Pu.out_len (t := t) (n := n)
  have hnL : n < (Pu.outGrid t n).length := by rw [hoL]; split <;> omega
  have hrl : ∀ r, ((Pu.gridOf t).getD r []).length ≤ 9 := fun r => by
    have a := Pu.grid_out hp1 r
    have b := (Pu.part_atI ho r).2
    rw [Pu.atI_nat] at b
    omega
  have hR : Pu.RowsLe 10 10 (Pu.outGrid t n) := by
    refine ⟨by rw [hoL]; split <;> omega, fun r hr => ?_⟩
    obtain ⟨y, hy, rfl⟩ := List.getElem_of_mem hr
    rw [← Pu.getD_lt hy [], Pu.out_row b1]
    have := hrl y
    have := hrl n
    split
    · rw [List.length_append, List.length_singleton]; omega
    · omega
  have hcc : (p.getD n 0 - 1).toNat < ((Pu.outGrid t n).getD n []).length := by
    rw [hrn, List.length_append, List.length_singleton]; omega
  have a2 := impl_SlideOut.loop (k := k) (x3 := t.1) (x4 := t.2) (x5 := []) (x6 := []) (by omega) 18 (k + 1) (Pu.outGrid t n) n (p.getD n 0 - 1).toNat hR hpos hnL hcc (by omega) (by rw [hs]; exact h1) (by rw [hs]; exact h2)
  rw [hs, show (((p.getD n 0 - 1).toNat : Nat) : Int) = p.getD n 0 - 1 by omega] at a2
  simp only at a2
  have hrw := impl_SlideOut.rows (k := k) (q := q) (G := g) (x2 := (i : Int)) (x5 := []) (x6 := []) (x8 := []) (x9 := []) (by omega) hg (by omega) hin g.length k 0 [] (by omega) (by have := hg.1; omega) (by simp)
  rw [Int.natCast_zero, List.drop_zero, List.nil_append] at hrw
  have hp9 : p.getD n 0 ≤ 9 := by
    have := (Pu.part_atI b5 n).2
    rw [Pu.atI_nat] at this
    exact this
  have hJ3 : impl_SlideOut.J3 k i c g t.1 t.2 [] [] = some ((q, Pu.ofGo q 0 g), ((i : Int), true)) := by
    have hc9 : (c : Int) + 1 ≤ 9 := by
      have := (Pu.part_atI d5 i).2
      rw [Pu.atI_nat] at this
      omega
    rw [impl_SlideOut.J3_eq]
    simp (disch := omega) only [↓p_test, p_lt, p_le, p_ltN, p_leN, p_eqN, p_len, p_ofN, p_nat, p_rd, p_set, p_app, p_take, p_drop, p_rep, p_wrap, p_add, p_sub, p_no, p_eq, p_eqB, p_eqP, p_bnd_some, Pu.w64, Int.toNat_natCast, decide_eq_true_eq, Int.ofNat_lt, Int.ofNat_le, if_true, if_false, Int.natCast_nonneg, decide_true, decide_false, Bool.not_true, Bool.not_false, Bool.false_eq_true, Bool.not_eq_true, Bool.true_and, Bool.and_true, Bool.false_and, Bool.and_false, hab2, d2, hc, impl_SlideOut.J5_eq, hrw]
  rw [hJ3] at a2
  have hJ1 : ∀ G0 : List (List Int), G0 = (if n = t.2.length then Pu.gridOf t ++ [[]] else Pu.gridOf t) → impl_SlideOut.J1 k n p G0 t.1 t.2 [] [] = some ((q, Pu.ofGo q 0 g), ((i : Int), true)) := by
    intro G0 hG0
    have hnG : n < G0.length := by
      have : (Pu.outGrid t n).length = G0.length := by unfold Pu.outGrid; rw [List.length_set, ← hG0]
      omega
    have hset : G0.set n (G0.getD n [] ++ [0]) = Pu.outGrid t n := by unfold Pu.outGrid; rw [← hG0]
    have hap : (G0.getD n [] ++ [0]).length ≤ 1099511627776 := by
      have := hR.at n
      have hgg : (Pu.outGrid t n).getD n [] = G0.getD n [] ++ [0] := by
        rw [← hset, Pu.getD_lt (by rw [List.length_set]; exact hnG), List.getElem_set_self]
      rw [hgg] at this
      omega
    rw [impl_SlideOut.J1_eq]
    simp (disch := omega) only [↓p_test, p_lt, p_le, p_ltN, p_leN, p_eqN, p_len, p_ofN, p_nat, p_rd, p_set, p_app, p_take, p_drop, p_rep, p_wrap, p_add, p_sub, p_no, p_eq, p_eqB, p_eqP, p_bnd_some, Pu.w64, Int.toNat_natCast, decide_eq_true_eq, Int.ofNat_lt, Int.ofNat_le, if_true, if_false, Int.natCast_nonneg, decide_true, decide_false, Bool.not_true, Bool.not_false, Bool.false_eq_true, Bool.not_eq_true, Bool.true_and, Bool.and_true, Bool.false_and, Bool.and_false, hnG, hap, hset, b2, a2]
  have hgl := Pu.grid_len t
  rw [impl_SlideOut.eq, show ((t.1, t.2) : Pu.Tab) = t from rfl, hsh, p_bnd_some, hab, p_bnd_some, hit, p_bnd_some]
  have e2 : ∀ (x : Option (Pu.Tab × (Int × Bool))) y, D.test (!true) y x = x := fun _ _ => rfl
  rw [show D.no true = !true from rfl, e2, e2, impl_SlideOut.J0_eq, show ((t.1, t.2) : Pu.Tab) = t from rfl, hgr, p_bnd_some]
  by_cases e : n = t.2.length
  · have e' : (n : Int) = (t.2.length : Int) := by omega
    have hap : (Pu.gridOf t ++ [[]]).length ≤ 1099511627776 := by rw [List.length_append, List.length_singleton]; omega
    have := hJ1 (Pu.gridOf t ++ [[]]) (by rw [if_pos e])
    simp only [↓p_test, p_lt, p_le, p_ltN, p_leN, p_eqN, p_len, p_ofN, p_nat, p_rd, p_set, p_app, p_take, p_drop, p_rep, p_wrap, p_add, p_sub, p_no, p_eq, p_eqB, p_eqP, p_bnd_some, Pu.w64, Int.toNat_natCast, decide_eq_true_eq, Int.ofNat_lt, Int.ofNat_le, if_true, if_false, Int.natCast_nonneg, decide_true, decide_false, Bool.not_true, Bool.not_false, Bool.false_eq_true, Bool.not_eq_true, Bool.true_and, Bool.and_true, Bool.false_and, Bool.and_false, hgl, hap, this]
    rw [if_pos e']
  · have e' : ¬ (n : Int) = (t.2.length : Int) := by omega
    have := hJ1 (Pu.gridOf t) (by rw [if_neg e])
    simp only [↓p_test, p_lt, p_le, p_ltN, p_leN, p_eqN, p_len, p_ofN, p_nat, p_rd, p_set, p_app, p_take, p_drop, p_rep, p_wrap, p_add, p_sub, p_no, p_eq, p_eqB, p_eqP, p_bnd_some, Pu.w64, Int.toNat_natCast, decide_eq_true_eq, Int.ofNat_lt, Int.ofNat_le, if_true, if_false, Int.natCast_nonneg, decide_true, decide_false, Bool.not_true, Bool.not_false, Bool.false_eq_true, Bool.not_eq_true, Bool.true_and, Bool.and_true, Bool.false_and, Bool.and_false, hgl, e', this]
-- impl_Tableau_shifted_wwi
theorem impl_Tableau_shifted_wwi.inner {k k1 : Nat} {d : Int} {n : Nat} {inn : List Int} (hd : -1 ≤ d ∧ d ≤ 1) {i : Nat} (hi9 : i < 1000) {len : Nat} (hl9 : len ≤ 1000) : ∀ (m j q : Nat) (rs : List (List Int)), q + m = len → (rs.getD i []).length = len → m < j → i < rs.length → (∀ p, q ≤ p → -100 ≤ (rs.getD i []).getD p 0 ∧ (rs.getD i []).getD p 0 ≤ 100) →
    impl_Tableau_shifted_wwi.L1 k k1 j d i n i len q rs inn = impl_Tableau_shifted_wwi.L0 k k1 d n ((i + 1 : Nat) : Int) (rs.set i (Pu.mapFrom d q (rs.getD i []))) inn
  | m, 0, q, rs, _, _, hj, _, _ => by omega
  | 0, j + 1, q, rs, hq, hl, _, hi, _ => by
    rw [impl_Tableau_shifted_wwi.L1_eq]
    have hn : ¬ (q : Int) < (len : Int) := by omega
    have e : q = (rs.getD i []).length := by omega
    rw [e, Pu.mapFrom_all, Pu.getD_lt hi, List.set_getElem_self, ← Pu.getD_lt hi [], ← e]
    simp (disch := omega) only [↓p_test, p_lt, p_le, p_ltN, p_leN, p_eqN, p_len, p_ofN, p_nat, p_rd, p_set, p_app, p_take, p_drop, p_rep, p_wrap, p_add, p_sub, p_no, p_eq, p_eqB, p_eqP, p_bnd_some, Pu.w64, Int.toNat_natCast, decide_eq_true_eq, Int.ofNat_lt, Int.ofNat_le, if_true, if_false, Int.natCast_nonneg, decide_true, decide_false, Bool.not_true, Bool.not_false, Bool.false_eq_true, Bool.not_eq_true, Bool.true_and, Bool.and_true, Bool.false_and, Bool.and_false, hn]
    rw [Int.natCast_succ]
  | m + 1, j + 1, q, rs, hq, hl, hj, hi, hb => by
    rw [impl_Tableau_shifted_wwi.L1_eq]
    have hn : (q : Int) < (len : Int) := by omega
    have hql : q < (rs.getD i []).length := by omega
    have hbq := hb q (Nat.le_refl _)
    have er : (rs.set i ((rs.getD i []).set q ((rs.getD i []).getD q 0 + d))).getD i [] = (rs.getD i []).set q ((rs.getD i []).getD q 0 + d) := by
      rw [Pu.getD_lt (by rw [List.length_set]; exact hi), List.getElem_set_self]
    have ih := impl_Tableau_shifted_wwi.inner (k := k) (k1 := k1) (n := n) (inn := inn) hd hi9 hl9 m j (q + 1) (rs.set i ((rs.getD i []).set q ((rs.getD i []).getD q 0 + d))) (by omega) (by rw [er, List.length_set]; exact hl) (by omega) (by rw [List.length_set]; exact hi) (fun p hp => by
      rw [er, Pu.getD_set_ne (by omega)]
      exact hb p (by omega))
    rw [er, List.set_set, Pu.mapFrom_step hql] at ih
    rw [← ih, Int.natCast_succ]
    simp (disch := omega) only [↓p_test, p_lt, p_le, p_ltN, p_leN, p_eqN, p_len, p_ofN, p_nat, p_rd, p_set, p_app, p_take, p_drop, p_rep, p_wrap, p_add, p_sub, p_no, p_eq, p_eqB, p_eqP, p_bnd_some, Pu.w64, Int.toNat_natCast, decide_eq_true_eq, Int.ofNat_lt, Int.ofNat_le, if_true, if_false, Int.natCast_nonneg, decide_true, decide_false, Bool.not_true, Bool.not_false, Bool.false_eq_true, Bool.not_eq_true, Bool.true_and, Bool.and_true, Bool.false_and, Bool.and_false, hn, hi, hql]
theorem impl_Tableau_shifted_wwi.outer {k : Nat} {d : Int} {inn : List Int} (hk : 4194304 ≤ k) (hd : -1 ≤ d ∧ d ≤ 1) : ∀ (m j i : Nat) (rs : List (List Int)), i + m = rs.length → m < j → Pu.RowsLe 999 1000 rs → Pu.Small (rs.drop i) →
    impl_Tableau_shifted_wwi.L0 k j d rs.length i rs inn = some ((), (inn, Pu.shiftFrom d i rs))
  | m, 0, i, rs, _, hj, _, _ => by omega
  | 0, j + 1, i, rs, hm, _, _, _ => by
    rw [impl_Tableau_shifted_wwi.L0_eq]
    have e : i = rs.length := by omega
    subst e
    have hn : ¬ (rs.length : Int) < rs.length := by omega
    simp only [↓p_test, p_lt, p_le, p_ltN, p_leN, p_eqN, p_len, p_ofN, p_nat, p_rd, p_set, p_app, p_take, p_drop, p_rep, p_wrap, p_add, p_sub, p_no, p_eq, p_eqB, p_eqP, p_bnd_some, Pu.w64, Int.toNat_natCast, decide_eq_true_eq, Int.ofNat_lt, Int.ofNat_le, if_true, if_false, Int.natCast_nonneg, decide_true, decide_false, Bool.not_true, Bool.not_false, Bool.false_eq_true, Bool.not_eq_true, Bool.true_and, Bool.and_true, Bool.false_and, Bool.and_false, hn, Pu.shiftFrom_all]
  | m + 1, j + 1, i, rs, hm, hj, hr, hs => by
    rw [impl_Tableau_shifted_wwi.L0_eq]
    have hi : i < rs.length := by omega
    have hn : (i : Int) < rs.length := by omega
    have h9 := hr.at i
    have h99 := hr.1
    have hg : ∀ p, -100 ≤ (rs.getD i []).getD p 0 ∧ (rs.getD i []).getD p 0 ≤ 100 := fun p => by
      have := hs 0 p
      rw [Pu.getD_drop] at this
      exact this
    have hin := impl_Tableau_shifted_wwi.inner (k := k) (k1 := j) (n := rs.length) (inn := inn) hd (i := i) (by omega) (len := (rs.getD i []).length) h9 (rs.getD i []).length k 0 rs (by omega) rfl (by omega) hi (fun p _ => hg p)
    have ih := impl_Tableau_shifted_wwi.outer (inn := inn) hk hd m j (i + 1) (rs.set i (Pu.mapFrom d 0 (rs.getD i []))) (by rw [List.length_set]; omega) (by omega) (hr.set i (by rw [Pu.mapFrom_len]; exact h9)) (fun a p => by
      have := hs (a + 1) p
      rw [Pu.getD_drop] at this ⊢
      rw [Pu.getD_set_ne (by omega)]
      rw [show i + 1 + a = i + (a + 1) by omega]
      exact this)
    rw [List.length_set, Pu.shiftFrom_step hi] at ih
    rw [ih] at hin
    rw [Int.natCast_zero] at hin
    simp (disch := omega) only [↓p_test, p_lt, p_le, p_ltN, p_leN, p_eqN, p_len, p_ofN, p_nat, p_rd, p_set, p_app, p_take, p_drop, p_rep, p_wrap, p_add, p_sub, p_no, p_eq, p_eqB, p_eqP, p_bnd_some, Pu.w64, Int.toNat_natCast, decide_eq_true_eq, Int.ofNat_lt, Int.ofNat_le, if_true, if_false, Int.natCast_nonneg, decide_true, decide_false, Bool.not_true, Bool.not_false, Bool.false_eq_true, Bool.not_eq_true, Bool.true_and, Bool.and_true, Bool.false_and, Bool.and_false, hn, hi, hin]
theorem impl_Tableau_shifted_wwi.is {k : Nat} {d : Int} {inn : List Int} {rs : List (List Int)} (hk : 4194304 + 2 ≤ k) (hd : -1 ≤ d ∧ d ≤ 1) (hr : Pu.RowsLe 999 1000 rs) (hs : Pu.Small rs) : impl_Tableau_shifted_wwi k d inn rs = some ((), (inn, Pu.shiftRows d rs)) := by
  obtain ⟨k, rfl⟩ : ∃ k', k = k' + 1 := ⟨k - 1, by omega⟩
  have h99 := hr.1
  have h := impl_Tableau_shifted_wwi.outer (k := k) (inn := inn) (by omega) hd rs.length k 0 rs (by omega) (by omega) hr hs
  rw [Int.natCast_zero] at h
  rw [impl_Tableau_shifted_wwi.eq]
  simp only [↓p_test, p_lt, p_le, p_ltN, p_leN, p_eqN, p_len, p_ofN, p_nat, p_rd, p_set, p_app, p_take, p_drop, p_rep, p_wrap, p_add, p_sub, p_no, p_eq, p_eqB, p_eqP, p_bnd_some, Pu.w64, Int.toNat_natCast, decide_eq_true_eq, Int.ofNat_lt, Int.ofNat_le, if_true, if_false, Int.natCast_nonneg, decide_true, decide_false, Bool.not_true, Bool.not_false, Bool.false_eq_true, Bool.not_eq_true, Bool.true_and, Bool.and_true, Bool.false_and, Bool.and_false, h, Pu.shiftFrom, List.take_zero, List.drop_zero, List.nil_append]
-- impl_Demote
theorem impl_Demote.tail {k : Nat} {u : Pu.Tab} (hk : 4194304 + 40 ≤ k) (h : Pu.Good u) : ∃ r4, impl_SlideOut k (Pu.dropT u) ((Pu.takeT u).2 : Int) = some r4 ∧ ∃ r5, impl_Tableau_shifted_wwi k 1 r4.1.1 r4.1.2 = some r5 ∧ 0 < r5.2.2.length ∧ (1 :: r5.2.2.getD 0 []).length ≤ 1099511627776 ∧ r5.2.2.set 0 (1 :: r5.2.2.getD 0 []) = u.2 := by
  obtain ⟨hp, hs, hn⟩ := h
  have h0 := Pu.plain_ne (t := u) (by omega)
  obtain ⟨g, g1, g2⟩ := Pu.undo_core hp hs h0
  obtain ⟨s1, s2, s3, s4⟩ := Pu.take_spec hp h0
  obtain ⟨c1, c2, c3⟩ := Pu.undo_rows ⟨hp, hs, hn⟩ g2
  have hD := Pu.dropT_plain hp hs h0
  have hD' := hD
  simp only [Pu.isPlain, Bool.and_eq_true] at hD'
  have hout := Pu.dropT_outer hp h0
  have hadd := Pu.add_drop (Pu.plain_part hp) (show (Pu.takeT u).2 < (Pu.outer u).length by rw [Pu.outer_len]; exact s3) s4
  rw [← hout] at hadd
  have hle := Pu.take_le hp h0
  have hDl : (Pu.dropT u).2.length = (Pu.takeT u).1.2.length := Pu.shift_len _ _
  have hg9 : Pu.RowsLe 9 9 g := by
    have := Pu.plain_rows hp
    refine ⟨by rw [c2]; exact this.1, fun r hr => ?_⟩
    obtain ⟨y, hy, rfl⟩ := List.getElem_of_mem hr
    rw [← Pu.getD_lt hy [], g2.row, Pu.open_grow hp h0]
    exact this.at y
  have hpos : ∀ r x, 0 ≤ Pu.cel (Pu.outGrid (Pu.dropT u) (Pu.takeT u).2) r x := by
    intro r x
    have hgr : Pu.gridOf (Pu.dropT u) = (Pu.dropT u).2 := Pu.plain_grid rfl
    have hcel : ∀ r x, 0 ≤ ((Pu.dropT u).2.getD r []).getD x 0 := fun r x => by
      by_cases hr : r < (Pu.dropT u).2.length
      · by_cases hx : x < ((Pu.dropT u).2.getD r []).length
        · have := (Pu.plain_cells hD).1 r x hr hx
          unfold Pu.cel at this
          omega
        · rw [Pu.getD_ge (by omega)]; omega
      · rw [Pu.getD_ge (xs := (Pu.dropT u).2) (by omega)]; simp
    unfold Pu.cel
    rw [Pu.out_row (by omega), hgr]
    split
    · by_cases hx : x < ((Pu.dropT u).2.getD (Pu.takeT u).2 []).length
      · rw [Pu.getD_appL hx]; exact hcel _ _
      · rw [Pu.getD_appR (by omega)]
        cases x - ((Pu.dropT u).2.getD (Pu.takeT u).2 []).length <;> simp
    · exact hcel _ _
  have hso := impl_SlideOut.is (k := k) (t := Pu.dropT u) (n := (Pu.takeT u).2) (i := 0) (c := 0) (p := Pu.outer u) (q := [1]) (g := g) (by omega) hD'.1 hadd hpos g1 rfl rfl (hg9.mono (by omega) (by omega)) rfl rfl (fun r hr hr2 => by
    rw [Pu.one_get]
    split <;> omega)
  have hsm2 : Pu.RowsLe 9 9 (Pu.ofGo [1] 0 g) := by
    have key : ∀ (rs : List (List Int)) (i : Nat), Pu.RowsLe 9 9 rs → Pu.RowsLe 9 9 (Pu.ofGo [1] i rs) ∧ (Pu.ofGo [1] i rs).length ≤ rs.length := by
      intro rs
      induction rs with
      | nil => intro i _; exact ⟨⟨by simp [Pu.ofGo], fun r hr => by simp [Pu.ofGo] at hr⟩, Nat.le_refl _⟩
      | cons x xs ih =>
        intro i hr
        have hl := hr.1
        simp only [List.length_cons] at hl
        obtain ⟨b, c⟩ := ih (i + 1) ⟨by omega, fun r hm => hr.2 r (List.mem_cons_of_mem _ hm)⟩
        unfold Pu.ofGo
        split
        · refine ⟨⟨by simp only [List.length_cons]; omega, fun r hm => ?_⟩, by simp only [List.length_cons]; omega⟩
          rcases List.mem_cons.1 hm with rfl | hm
          · have := hr.2 x (List.mem_cons_self ..)
            rw [List.length_drop]; omega
          · exact b.2 r hm
        · exact ⟨b, by simp only [List.length_cons]; omega⟩
    exact (key g 0 hg9).1
  have hpu := hp
  simp only [Pu.isPlain, Bool.and_eq_true] at hpu
  have hnum : ∀ r x, 0 ≤ (u.2.getD r []).getD x 0 ∧ (u.2.getD r []).getD x 0 ≤ 9 := fun r x => by
    by_cases hr : r < u.2.length
    · by_cases hx : x < (u.2.getD r []).length
      · have := (Pu.plain_cells hp).1 r x hr hx
        unfold Pu.cel at this
        omega
      · rw [Pu.getD_ge (by omega)]; omega
    · rw [Pu.getD_ge (xs := u.2) (by omega)]; simp
  have hlen3 := congrArg List.length c3
  rw [List.length_set, Pu.shift_len] at hlen3
  have hsm1 : Pu.Small (Pu.ofGo [1] 0 g) := by
    intro r x
    by_cases hx : x < ((Pu.ofGo [1] 0 g).getD r []).length
    · have hm := Pu.map_get (d := 1) hx
      rw [← Pu.shift_get] at hm
      by_cases e : r = 0
      · subst e
        have hrow : u.2.getD 0 [] = 1 :: (Pu.shiftRows 1 (Pu.ofGo [1] 0 g)).getD 0 [] := by
          rw [← c3, Pu.getD_lt (by rw [List.length_set, Pu.shift_len]; omega), List.getElem_set_self]
        have h1 := hnum 0 (x + 1)
        rw [hrow, show (1 :: (Pu.shiftRows 1 (Pu.ofGo [1] 0 g)).getD 0 []).getD (x + 1) 0 = ((Pu.shiftRows 1 (Pu.ofGo [1] 0 g)).getD 0 []).getD x 0 from rfl] at h1
        constructor <;> omega
      · have h1 := hnum r x
        rw [← c3, Pu.getD_set_ne (Ne.symm e)] at h1
        constructor <;> omega
    · rw [Pu.getD_ge (by omega)]; omega
  have hsm : Pu.Small (Pu.ofGo [1] 0 g) ∧ Pu.RowsLe 9 9 (Pu.ofGo [1] 0 g) := ⟨hsm1, hsm2⟩
  have hsh := impl_Tableau_shifted_wwi.is (k := k) (d := 1) (inn := [1]) (rs := Pu.ofGo [1] 0 g) (by omega) (by omega) (hsm.2.mono (by omega) (by omega)) hsm.1
  have hl9 := (Pu.shift_rows hsm.2 1).at 0
  refine ⟨_, hso, _, hsh, ?_, by simp only [List.length_cons]; omega, c3⟩
  have := congrArg List.length c3
  rw [List.length_set] at this
  simp only
  omega
theorem impl_Demote.undo {k : Nat} {u : Pu.Tab} (hk : 4194304 + 50 ≤ k) (h : Pu.Good u) : impl_Demote k (Pu.prom u) = some (u, true) := by
  obtain ⟨k, rfl⟩ : ∃ k', k = k' + 1 := ⟨k - 1, by omega⟩
  have hP := h.prom
  obtain ⟨hp, hs, hn⟩ := h
  have h0 := Pu.plain_ne (t := u) (by omega)
  have hok := Pu.promote_ok (t := u)
  have h9 := Pu.plain_nine hP.pl
  have hPin : (Pu.prom u).1 = [] := Pu.promote_in
  have hfl : (Pu.prom u).2.flatten.length = u.2.flatten.length := Pu.promote_flat hp hs hn
  have hipl := impl_isPlainStandard.is (k := k) (t := Pu.prom u) (by omega) hok.1 hok.2.1 hok.2.2
  rw [hP.pl, hP.st] at hipl
  have hrw := impl_ReadingWord.is (k := k) (t := Pu.prom u) (by omega) hok.1 hok.2.1 hok.2.2
  have hit := hP.pl
  simp only [Pu.isPlain, Bool.and_eq_true] at hit
  rw [if_pos hit.1] at hrw
  have hrl : (Pu.prom u).2.reverse.flatten.length = u.2.flatten.length := by rw [← hfl]; simp [List.length_flatten, List.map_reverse, List.sum_reverse]
  have hown := impl_Tableau_own.is (k := k) (t := Pu.prom u) (by omega) hok.1 hok.2.1 hok.2.2
  have hroe := impl_RowOfEntry.is (k := k) (t := Pu.prom u) (n := (u.2.flatten.length : Int)) (by omega) hok.1 hok.2.1 hok.2.2
  rw [if_pos hP.st, Pu.promote_rowOf ⟨hp, hs, hn⟩] at hroe
  obtain ⟨s1, s2, s3, s4⟩ := Pu.take_spec hp h0
  have hlen : (Pu.prom u).2.length = u.2.length := Pu.promote_len hp hs hn
  have hi : (Pu.takeT u).2 < (Pu.prom u).2.length := by omega
  have hcut := Pu.promote_cut ⟨hp, hs, hn⟩
  have hcut2 := Pu.promote_cut2 ⟨hp, hs, hn⟩
  have hrlen : ((Pu.prom u).2.getD (Pu.takeT u).2 []).length = (u.2.getD (Pu.takeT u).2 []).length := Pu.promote_rlen hp hs hn _
  have hrp := Pu.row_pos hp s3
  have hr9 := (Pu.plain_rows hP.pl).at (Pu.takeT u).2
  obtain ⟨r4, t1, r5, t2, t3, t4, t5⟩ := impl_Demote.tail (k := k) (by omega) ⟨hp, hs, hn⟩
  have hrows := Pu.take_rows hp h0 (Pu.takeT u).2
  rw [if_pos rfl] at hrows
  have hnz : ¬ (u.2.flatten.length : Int) = 0 := by omega
  have e1 : (((Pu.prom u).2.getD (Pu.takeT u).2 []).length : Int) - 1 = ((((Pu.prom u).2.getD (Pu.takeT u).2 []).length - 1 : Nat) : Int) := by omega
  have g1 : ((Pu.prom u).2.getD (Pu.takeT u).2 []).length - 1 ≤ ((Pu.prom u).2.getD (Pu.takeT u).2 []).length := by omega
  have hsl : (Pu.shiftRows (-1) (Pu.withRow (Pu.takeT u))).length = (Pu.prom u).2.length := by rw [Pu.shift_len, Pu.withRow_len hp h0, hlen]
  have hsr : ((Pu.shiftRows (-1) (Pu.withRow (Pu.takeT u))).getD (Pu.takeT u).2 []).length = ((Pu.takeT u).1.2.getD (Pu.takeT u).2 []).length := by rw [Pu.shift_get, List.length_map, Pu.withRow_get]
  have hi2 : (Pu.takeT u).2 ≤ (Pu.prom u).2.length := by omega
  have hu1 := Pu.plain_inner hp
  have ho1 : (1 : Int) :: ([] : List Int) = [1] := rfl
  have hfin : ∀ w : List Int × List (List Int), w = Pu.dropT u → (D.bnd (impl_SlideOut k w ((Pu.takeT u).2 : Int)) fun r6 => D.bnd (impl_Tableau_shifted_wwi k 1 r6.1.1 r6.1.2) fun r7 => D.test (D.le 0 0) (D.test (D.ltN (D.nat 0) (D.len r7.2.2)) (D.test (D.ltN (D.nat 0) (D.len r7.2.2)) (D.test (D.ltN (D.nat 0) (D.len r7.2.2)) (D.test (D.leN (D.len (D.app (1 :: ([] : List Int)) (D.rd r7.2.2 (D.nat 0) []))) 1099511627776) (D.test (D.le 0 0) (D.test (D.ltN (D.nat 0) (D.len r7.2.2)) (D.test (D.ltN (D.nat 0) (D.len r7.2.2)) (some ((([] : List Int), (D.set r7.2.2 (D.nat 0) (D.app (1 :: ([] : List Int)) (D.rd r7.2.2 (D.nat 0) [])))), true)) none) none) none) none) none) none) none) none) = some (u, true) := by
    intro w hw
    subst hw
    rw [t1, p_bnd_some, t2, p_bnd_some]
    have h00 : (0 : Int) ≤ 0 := Int.le_refl _
    simp only [↓p_test, p_lt, p_le, p_ltN, p_leN, p_eqN, p_len, p_ofN, p_nat, p_rd, p_set, p_app, p_take, p_drop, p_rep, p_wrap, p_add, p_sub, p_no, p_eq, p_eqB, p_eqP, p_bnd_some, Pu.w64, Int.toNat_natCast, decide_eq_true_eq, Int.ofNat_lt, Int.ofNat_le, if_true, if_false, Int.natCast_nonneg, decide_true, decide_false, Bool.not_true, Bool.not_false, Bool.false_eq_true, Bool.not_eq_true, Bool.true_and, Bool.and_true, Bool.false_and, Bool.and_false, Int.toNat_zero, h00, t3, List.cons_append, List.nil_append, t4, t5]
    rw [show (([] : List Int), u.2) = u from Prod.ext hu1.symm rfl]
  have ew : IntKind.i64.wrap ((((Pu.prom u).2.getD (Pu.takeT u).2 []).length : Int) - 1) = ((((Pu.prom u).2.getD (Pu.takeT u).2 []).length - 1 : Nat) : Int) := by rw [e1]; exact Pu.w64 (by omega) (by omega)
  suffices hO : Pu.Ok (impl_Demote (k + 1) (Pu.prom u)) (fun y => y = (u, true)) by
    obtain ⟨y, e, rfl⟩ := hO
    exact e
  rw [impl_Demote.eq, show (((Pu.prom u).1, (Pu.prom u).2) : Pu.Tab) = Pu.prom u from rfl, hipl, p_bnd_some, hrw, p_bnd_some]
  refine Pu.Ok.tn (fun h => by cases h) fun _ => ?_
  simp only [p_ofN, p_len, hrl]
  refine Pu.Ok.no hnz (Pu.Ok.bndE hown (Pu.Ok.bndE hroe ?_))
  simp only [p_nat, p_len, p_ofN, p_rd, p_sub, p_wrap, Int.toNat_natCast, ew, p_take, p_drop, p_subN, p_set, List.drop_zero, Nat.sub_zero, hcut, hsl, hsr]
  repeat (refine Pu.Ok.g (by first | omega | exact rfl) ?_)
  by_cases c : ((Pu.takeT u).1.2.getD (Pu.takeT u).2 []).length = 0
  · have c' : (((Pu.takeT u).1.2.getD (Pu.takeT u).2 []).length : Int) = 0 := by omega
    rw [if_pos c] at hcut2
    refine Pu.Ok.g c' (Pu.Ok.g (by omega) (Pu.Ok.g hi2 ?_))
    rw [impl_Demote.J0_eq]
    refine ⟨_, hfin _ ?_, rfl⟩
    simp only [p_take, p_drop, List.drop_zero]
    exact Prod.ext hPin hcut2
  · have c' : ¬ (((Pu.takeT u).1.2.getD (Pu.takeT u).2 []).length : Int) = 0 := by omega
    rw [if_neg c] at hcut2
    refine Pu.Ok.no c' ?_
    rw [impl_Demote.J1_eq]
    exact ⟨_, hfin _ (Prod.ext hPin hcut2), rfl⟩
theorem impl_Demote.no {k : Nat} {t : Pu.Tab} (hk : 4194304 + 50 ≤ k) (ht : Pu.TabOK t) (h : (Pu.isPlain t && Pu.isStd t) = false) : impl_Demote k t = some (([], []), false) := by
  obtain ⟨k, rfl⟩ : ∃ k', k = k' + 1 := ⟨k - 1, by omega⟩
  rw [impl_Demote.eq, show ((t.1, t.2) : Pu.Tab) = t from rfl, impl_isPlainStandard.is (by omega) ht.1 ht.2.1 ht.2.2, h, p_bnd_some]
  rfl
theorem impl_Demote.zero {k : Nat} {t : Pu.Tab} (hk : 4194304 + 50 ≤ k) (hp : Pu.isPlain t = true) (hs : Pu.isStd t = true) (hn : t.2.flatten.length = 0) : impl_Demote k t = some (([], []), true) := by
  obtain ⟨k, rfl⟩ : ∃ k', k = k' + 1 := ⟨k - 1, by omega⟩
  have ht := Pu.empty_std hp hn
  subst ht
  have hrw := impl_ReadingWord.is (k := k) (t := ([], [])) (by omega) (by simp) (by simp) (fun x hx => by simp at hx)
  have e : (if Pu.isTab ([], []) = true then (([] : List (List Int)).reverse.flatten) else []) = ([] : List Int) := by split <;> rfl
  rw [show (([], []) : Pu.Tab).2 = [] from rfl, e] at hrw
  rw [impl_Demote.eq, show (((([], []) : Pu.Tab).1, (([], []) : Pu.Tab).2) : Pu.Tab) = ([], []) from rfl, impl_isPlainStandard.is (by omega) (by simp) (by simp) (fun x hx => by simp at hx), hp, hs, p_bnd_some, hrw, p_bnd_some]
  rfl
-- laws_eqIntS
theorem laws_eqIntS.loop {k : Nat} {a b : List Int} (hl : a.length = b.length) (ha : a.length ≤ 1048576) : ∀ (m j i : Nat), i + m = a.length → m < j → laws_eqIntS.L0 k j i a b = some (decide (a.drop i = b.drop i))
  | m, 0, i, _, hj => by omega
  | 0, j + 1, i, hi, _ => by
    rw [laws_eqIntS.L0_eq]
    have e : i = a.length := by omega
    subst e
    simp [hl]
  | m + 1, j + 1, i, hi, hj => by
    rw [laws_eqIntS.L0_eq]
    have h1 : i < a.length := by omega
    have h2 : i < b.length := by omega
    have ih := laws_eqIntS.loop (k := k) hl ha m j (i + 1) (by omega) (by omega)
    rw [Int.natCast_succ] at ih
    rw [Pu.drop_cons h1 0, Pu.drop_cons h2 0]
    by_cases e : a.getD i 0 = b.getD i 0 <;> simp (disch := omega) only [p_test, p_lt, p_le, p_ltN, p_len, p_ofN, p_nat, p_rd, p_wrap, p_add, p_no, p_eq, Pu.w64, Int.toNat_natCast, decide_eq_true_eq, Int.ofNat_lt, h1, h2, if_true, Int.natCast_nonneg, decide_true, ih, e, List.cons.injEq, true_and, false_and, decide_false, Bool.not_true, Bool.not_false, if_false, Bool.false_eq_true]
theorem laws_eqIntS.is {k : Nat} {a b : List Int} (hk : 4194304 + 1 ≤ k) (ha : a.length ≤ 1048576) : laws_eqIntS k a b = some (decide (a = b)) := by
  obtain ⟨k, rfl⟩ : ∃ k', k = k' + 1 := ⟨k - 1, by omega⟩
  rw [laws_eqIntS.eq]
  by_cases hl : a.length = b.length
  · have h := laws_eqIntS.loop (k := k) hl ha a.length k 0 (by omega) (by omega)
    rw [Int.natCast_zero] at h
    simp only [List.drop_zero] at h
    have hl' : (a.length : Int) = b.length := by omega
    simp only [p_test, p_no, p_eq, p_ofN, p_len, hl', decide_true, Bool.not_true, Bool.false_eq_true, if_false, h]
  · have hne : a ≠ b := fun e => hl (by rw [e])
    have hl' : ¬ (a.length : Int) = b.length := by omega
    simp [hl', hne]
-- laws_eqIntSS
theorem laws_eqIntSS.loop {k : Nat} {a b : List (List Int)} (hk : 4194304 + 1 ≤ k) (hl : a.length = b.length) (ha : a.length ≤ 1048576) (hr : ∀ x ∈ a, x.length ≤ 1048576) : ∀ (m j i : Nat), i + m = a.length → m < j → laws_eqIntSS.L0 k j i a b = some (decide (a.drop i = b.drop i))
  | m, 0, i, _, hj => by omega
  | 0, j + 1, i, hi, _ => by
    rw [laws_eqIntSS.L0_eq]
    have e : i = a.length := by omega
    subst e
    simp [hl]
  | m + 1, j + 1, i, hi, hj => by
    rw [laws_eqIntSS.L0_eq]
    have h1 : i < a.length := by omega
    have h2 : i < b.length := by omega
    have ih := laws_eqIntSS.loop (k := k) hk hl ha hr m j (i + 1) (by omega) (by omega)
    rw [Int.natCast_succ] at ih
    rw [Pu.drop_cons h1 [], Pu.drop_cons h2 []]
    have hq := laws_eqIntS.is (k := k) (a := a.getD i []) (b := b.getD i []) (by omega) (by rw [Pu.getD_lt h1]; exact hr _ (List.getElem_mem h1))
    simp (disch := omega) only [p_test, p_lt, p_le, p_ltN, p_len, p_ofN, p_nat, p_rd, p_wrap, p_add, p_no, hq, p_bnd_some, Pu.w64, Int.toNat_natCast, decide_eq_true_eq, Int.ofNat_lt, h1, h2, if_true, Int.natCast_nonneg, decide_true, ih]
    by_cases e : a.getD i [] = b.getD i [] <;> simp only [e, List.cons.injEq, true_and, false_and, decide_false, decide_true, Bool.not_true, Bool.not_false, if_false, if_true, Bool.false_eq_true]
theorem laws_eqIntSS.is {k : Nat} {a b : List (List Int)} (hk : 4194304 + 2 ≤ k) (ha : a.length ≤ 1048576) (hr : ∀ x ∈ a, x.length ≤ 1048576) : laws_eqIntSS k a b = some (decide (a = b)) := by
  obtain ⟨k, rfl⟩ : ∃ k', k = k' + 1 := ⟨k - 1, by omega⟩
  rw [laws_eqIntSS.eq]
  by_cases hl : a.length = b.length
  · have h := laws_eqIntSS.loop (k := k) (by omega) hl ha hr a.length k 0 (by omega) (by omega)
    rw [Int.natCast_zero] at h
    simp only [List.drop_zero] at h
    have hl' : (a.length : Int) = b.length := by omega
    simp only [p_test, p_no, p_eq, p_ofN, p_len, hl', decide_true, Bool.not_true, Bool.false_eq_true, if_false, h]
  · have hne : a ≠ b := fun e => hl (by rw [e])
    have hl' : ¬ (a.length : Int) = b.length := by omega
    simp [hl', hne]
-- laws_eqTableau
theorem laws_eqTableau.is {k : Nat} {a b : List Int × List (List Int)} (hk : 4194304 + 3 ≤ k) (h1 : a.1.length ≤ 1048576) (ha : a.2.length ≤ 1048576) (hr : ∀ x ∈ a.2, x.length ≤ 1048576) : laws_eqTableau k a b = some (decide (a = b)) := by
  obtain ⟨k, rfl⟩ : ∃ k', k = k' + 1 := ⟨k - 1, by omega⟩
  obtain ⟨a1, a2⟩ := a
  obtain ⟨b1, b2⟩ := b
  rw [laws_eqTableau.eq, laws_eqIntS.is (by omega) h1, p_bnd_some, laws_eqIntSS.is (by omega) ha hr]
  by_cases e1 : a1 = b1 <;> by_cases e2 : a2 = b2 <;> simp [e1, e2]
-- spec_l5Numbers
theorem spec_l5Numbers.loop {k : Nat} {t : Pu.Tab} {x2 : List Int} (ht : t.2.length ≤ 1048576) (hf : t.2.flatten.length ≤ 1099511627776) : ∀ (m j i : Nat), i + m = t.2.length → m < j →
    spec_l5Numbers.L0 k j i (t.2.take i).flatten x2 t.2 = some t.2.flatten
  | m, 0, i, _, hj => by omega
  | 0, j + 1, i, hm, _ => by
    rw [spec_l5Numbers.L0_eq]
    have e : i = t.2.length := by omega
    subst e
    simp
  | m + 1, j + 1, i, hm, hj => by
    rw [spec_l5Numbers.L0_eq]
    have hlt : i < t.2.length := by omega
    have ih := spec_l5Numbers.loop (k := k) (x2 := x2) ht hf m j (i + 1) (by omega) (by omega)
    rw [Int.natCast_succ, Pu.take_succ hlt []] at ih
    have hl : ((t.2.take i).flatten ++ t.2.getD i []).length ≤ 1099511627776 := by
      refine Nat.le_trans ?_ hf
      have e : t.2.flatten = (t.2.take i).flatten ++ (t.2.drop i).flatten := by rw [← List.flatten_append, List.take_append_drop]
      rw [e, Pu.drop_cons hlt []]
      simp only [List.flatten_cons, List.length_append]
      omega
    simp only [List.flatten_append, List.flatten_cons, List.flatten_nil, List.append_nil] at ih
    simp (disch := omega) only [↓p_test, p_lt, p_le, p_ltN, p_leN, p_eqN, p_len, p_ofN, p_nat, p_rd, p_set, p_app, p_take, p_drop, p_rep, p_wrap, p_add, p_sub, p_no, p_eq, p_eqB, p_eqP, p_bnd_some, Pu.w64, Int.toNat_natCast, decide_eq_true_eq, Int.ofNat_lt, Int.ofNat_le, if_true, if_false, Int.natCast_nonneg, decide_true, decide_false, Bool.not_true, Bool.not_false, Bool.false_eq_true, Bool.not_eq_true, Bool.true_and, Bool.and_true, Bool.false_and, Bool.and_false, hlt, hl, ih]
theorem spec_l5Numbers.is {k : Nat} {t : Pu.Tab} (hk : 4194304 + 1 ≤ k) (ht : t.2.length ≤ 1048576) (hf : t.2.flatten.length ≤ 1099511627776) : spec_l5Numbers k t = some t.2.flatten := by
  obtain ⟨k, rfl⟩ : ∃ k', k = k' + 1 := ⟨k - 1, by omega⟩
  rw [spec_l5Numbers.eq]
  exact spec_l5Numbers.loop (k := k) ht hf t.2.length k 0 (by omega) (by omega)
-- spec_IsStandard
theorem spec_IsStandard.loop {k : Nat} {l : List Int} (h1 : ∀ x ∈ l, 1 ≤ x ∧ x ≤ 9) (hl : l.length ≤ 9) : ∀ (m j i : Nat) (seen : List Bool), i + m = l.length → m < j → seen.length = 10 → (∀ v : Nat, v < 10 → seen.getD v false = Pu.has (l.take i) v) →
    spec_IsStandard.L0 k j i l seen = some (Pu.freshGo l.length (l.take i) (l.drop i))
  | m, 0, i, seen, _, hj, _, _ => by omega
  | 0, j + 1, i, seen, hm, _, _, _ => by
    rw [spec_IsStandard.L0_eq]
    have e : i = l.length := by omega
    subst e
    simp [Pu.freshGo]
  | m + 1, j + 1, i, seen, hm, hj, hs, hv => by
    rw [spec_IsStandard.L0_eq]
    have hlt : i < l.length := by omega
    have hx := h1 _ (List.getElem_mem hlt)
    rw [← Pu.getD_lt hlt 0] at hx
    rw [Pu.drop_cons hlt 0]
    simp only [Pu.freshGo]
    have hx10 : (l.getD i 0).toNat < seen.length := by omega
    have hx0 : (0 : Int) ≤ l.getD i 0 := by omega
    have hvx := hv (l.getD i 0).toNat (by omega)
    have ex : (((l.getD i 0).toNat : Nat) : Int) = l.getD i 0 := by omega
    rw [ex] at hvx
    by_cases c : l.getD i 0 ≤ l.length
    · have c' : ¬ (l.length : Int) < l.getD i 0 := by omega
      cases hh : Pu.has (l.take i) (l.getD i 0) with
      | true =>
        rw [hh] at hvx
        simp (disch := omega) only [↓p_test, p_lt, p_le, p_ltN, p_leN, p_eqN, p_len, p_ofN, p_nat, p_rd, p_set, p_app, p_take, p_drop, p_rep, p_wrap, p_add, p_sub, p_no, p_eq, p_eqB, p_eqP, p_bnd_some, Pu.w64, Int.toNat_natCast, decide_eq_true_eq, Int.ofNat_lt, Int.ofNat_le, if_true, if_false, Int.natCast_nonneg, decide_true, decide_false, Bool.not_true, Bool.not_false, Bool.false_eq_true, Bool.not_eq_true, Bool.true_and, Bool.and_true, Bool.false_and, Bool.and_false, hlt, c, c', hx0, hx10, hvx]
      | false =>
        rw [hh] at hvx
        have ih := spec_IsStandard.loop (k := k) h1 hl m j (i + 1) (seen.set (l.getD i 0).toNat true) (by omega) (by omega) (by simpa using hs) (fun v hv10 => by
          rw [Pu.take_succ hlt 0]
          by_cases e : v = (l.getD i 0).toNat
          · subst e
            have : Pu.has (l.take i ++ [l.getD i 0]) (((l.getD i 0).toNat : Nat) : Int) = true := by rw [Pu.has_iff, ex]; exact List.mem_append.2 (.inr (List.mem_singleton.2 rfl))
            rw [this, Pu.getD_lt (by rw [List.length_set]; omega), List.getElem_set_self]
          · have e1 : (seen.set (l.getD i 0).toNat true).getD v false = seen.getD v false := by
              rw [Pu.getD_lt (by rw [List.length_set]; omega), List.getElem_set_ne (by omega)]
              exact (Pu.getD_lt (by omega) false).symm
            rw [e1, hv v hv10]
            have hne : ¬ (v : Int) = l.getD i 0 := by omega
            unfold Pu.has
            rw [List.any_append]
            simp only [List.any_cons, List.any_nil, hne, decide_false, Bool.or_false])
        rw [Int.natCast_succ, Pu.take_succ hlt 0] at ih
        simp (disch := omega) only [↓p_test, p_lt, p_le, p_ltN, p_leN, p_eqN, p_len, p_ofN, p_nat, p_rd, p_set, p_app, p_take, p_drop, p_rep, p_wrap, p_add, p_sub, p_no, p_eq, p_eqB, p_eqP, p_bnd_some, Pu.w64, Int.toNat_natCast, decide_eq_true_eq, Int.ofNat_lt, Int.ofNat_le, if_true, if_false, Int.natCast_nonneg, decide_true, decide_false, Bool.not_true, Bool.not_false, Bool.false_eq_true, Bool.not_eq_true, Bool.true_and, Bool.and_true, Bool.false_and, Bool.and_false, hlt, c, c', hx0, hx10, hvx, spec_IsStandard.J1_eq, ih]
    · have c' : (l.length : Int) < l.getD i 0 := by omega
      simp (disch := omega) only [↓p_test, p_lt, p_le, p_ltN, p_leN, p_eqN, p_len, p_ofN, p_nat, p_rd, p_set, p_app, p_take, p_drop, p_rep, p_wrap, p_add, p_sub, p_no, p_eq, p_eqB, p_eqP, p_bnd_some, Pu.w64, Int.toNat_natCast, decide_eq_true_eq, Int.ofNat_lt, Int.ofNat_le, if_true, if_false, Int.natCast_nonneg, decide_true, decide_false, Bool.not_true, Bool.not_false, Bool.false_eq_true, Bool.not_eq_true, Bool.true_and, Bool.and_true, Bool.false_and, Bool.and_false, hlt, c, c']
theorem spec_IsStandard.is {k : Nat} {t : Pu.Tab} (hk : 4194304 + 6 ≤ k) (h1 : t.1.length ≤ 1048576) (ht : t.2.length ≤ 1048576) (hr : ∀ x ∈ t.2, x.length ≤ 1048576) : spec_IsStandard k t = some (Pu.isStd t) := by
  obtain ⟨k, rfl⟩ : ∃ k', k = k' + 1 := ⟨k - 1, by omega⟩
  rw [spec_IsStandard.eq, spec_IsTableau.is (by omega) h1 ht hr, p_bnd_some]
  unfold Pu.isStd
  cases hi : Pu.isTab t with
  | false => simp
  | true =>
    have h9 := Pu.tab_nine hi
    have he := Pu.tab_entries hi
    simp only [↓p_test, p_lt, p_le, p_ltN, p_leN, p_eqN, p_len, p_ofN, p_nat, p_rd, p_set, p_app, p_take, p_drop, p_rep, p_wrap, p_add, p_sub, p_no, p_eq, p_eqB, p_eqP, p_bnd_some, Pu.w64, Int.toNat_natCast, decide_eq_true_eq, Int.ofNat_lt, Int.ofNat_le, if_true, if_false, Int.natCast_nonneg, decide_true, decide_false, Bool.not_true, Bool.not_false, Bool.false_eq_true, Bool.not_eq_true, Bool.true_and, Bool.and_true, Bool.false_and, Bool.and_false]
    rw [spec_l5Numbers.is (by omega) ht (by omega), p_bnd_some]
    have h := spec_IsStandard.loop (k := k) (l := t.2.flatten) he h9 t.2.flatten.length k 0 (List.replicate 10 false) (by omega) (by omega) (by simp) (fun v hv => by
      rw [Pu.getD_lt (by simpa using hv), List.getElem_replicate]; rfl)
    rw [Int.natCast_zero] at h
    rw [if_pos (by omega), if_pos (by omega), if_pos (by decide)]
    show spec_IsStandard.L0 k k 0 t.2.flatten (List.replicate 10 false) = _
    rw [h, List.take_zero, List.drop_zero, Pu.once_fresh fun x hx => (he x hx).1]
-- laws_markIntS_wi
theorem laws_markIntS_wi.loop {k : Nat} : ∀ (m j i : Nat) (q : Int) (a : List Int), i + m = a.length → m < j → a.length ≤ 1048576 → 0 ≤ q → q + m ≤ 4000000000000 → laws_markIntS_wi.L0 k j q i a = some (q + m, a.take i ++ Pu.mark (a.drop i) q)
  | m, 0, i, q, a, _, hj, _, _, _ => by omega
  | 0, j + 1, i, q, a, hi, _, _, _, _ => by
    rw [laws_markIntS_wi.L0_eq]
    have e : i = a.length := by omega
    subst e
    simp [Pu.mark]
  | m + 1, j + 1, i, q, a, hi, hj, ha, hq, hq2 => by
    rw [laws_markIntS_wi.L0_eq]
    have h1 : i < a.length := by omega
    have ih := laws_markIntS_wi.loop (k := k) m j (i + 1) (q + 1) (a.set i q) (by simp; omega) (by omega) (by simpa using ha) (by omega) (by omega)
    rw [Int.natCast_succ] at ih
    have e1 : (a.set i q).take (i + 1) = a.take i ++ [q] := by
      rw [Pu.take_succ (by simpa using h1) 0, List.take_set_of_le (Nat.le_refl _)]
      simp [h1]
    have e2 : (a.set i q).drop (i + 1) = a.drop (i + 1) := by rw [List.drop_set_of_lt (by omega)]
    rw [e1, e2] at ih
    rw [Pu.drop_cons h1 0]
    simp (disch := omega) only [p_test, p_lt, p_le, p_ltN, p_len, p_ofN, p_nat, p_set, p_wrap, p_add, Pu.w64, Int.toNat_natCast, decide_eq_true_eq, Int.ofNat_lt, h1, if_true, Int.natCast_nonneg, decide_true, ih, Pu.mark]
    simp
    omega
theorem laws_markIntS_wi.is {k : Nat} {a : List Int} {q : Int} (hk : 4194304 + 1 ≤ k) (ha : a.length ≤ 1048576) (hq : 0 ≤ q) (hq2 : q + a.length ≤ 4000000000000) : laws_markIntS_wi k q a = some (q + a.length, Pu.mark a q) := by
  obtain ⟨k, rfl⟩ : ∃ k', k = k' + 1 := ⟨k - 1, by omega⟩
  rw [laws_markIntS_wi.eq]
  have h := laws_markIntS_wi.loop (k := k) a.length k 0 q a (by omega) (by omega) ha hq hq2
  rw [Int.natCast_zero] at h
  simpa using h
-- laws_markIntSS_wi
theorem laws_markIntSS_wi.inner {k k1 r : Nat} {x3 x4 x5 x6 x8 x11 : Int} {x7 : Bool} {x9 x10 : Nat} : ∀ (m j i : Nat) (q : Int) (a : List (List Int)), r < a.length → i + m = (a.getD r []).length → m < j → (a.getD r []).length ≤ 1048576 → 0 ≤ q → q + m ≤ 4000000000000 → 0 ≤ x4 → x4 ≤ 4000000000000 →
    laws_markIntSS_wi.L1 k k1 j r q i x3 x4 x5 x6 x7 x8 x9 x10 x11 a = laws_markIntSS_wi.L0 k k1 (q + m) (x4 + 1) (a.set r ((a.getD r []).take i ++ Pu.mark ((a.getD r []).drop i) q))
  | m, 0, i, q, a, _, _, hj, _, _, _, _, _ => by omega
  | 0, j + 1, i, q, a, hr, hi, _, _, _, _, _, _ => by
    rw [laws_markIntSS_wi.L1_eq]
    have e : i = (a.getD r []).length := by omega
    have h1 : ¬ i < (a.getD r []).length := by omega
    have e2 : a.set r ((a.getD r []).take i ++ Pu.mark ((a.getD r []).drop i) q) = a := by
      rw [e, List.take_length, List.drop_length]
      simp only [Pu.mark, List.append_nil]
      rw [Pu.getD_lt hr, List.set_getElem_self]
    rw [e2]
    simp (disch := omega) only [p_test, p_lt, p_ltN, p_len, p_ofN, p_rd, p_wrap, p_add, Pu.w64, decide_eq_true_eq, Int.ofNat_lt, hr, h1, if_true, if_false, decide_true]
    simp
  | m + 1, j + 1, i, q, a, hr, hi, hj, ha, hq, hq2, hx, hx2 => by
    rw [laws_markIntSS_wi.L1_eq]
    have h1 : i < (a.getD r []).length := by omega
    have eg : (a.set r ((a.getD r []).set i q)).getD r [] = (a.getD r []).set i q := by
      rw [Pu.getD_lt (by simpa using hr)]; simp
    have ih := laws_markIntSS_wi.inner (k := k) (k1 := k1) (r := r) (x3 := x3) (x4 := x4) (x5 := x5) (x6 := x6) (x7 := x7) (x8 := x8) (x9 := x9) (x10 := x10) (x11 := x11) m j (i + 1) (q + 1) (a.set r ((a.getD r []).set i q)) (by rw [List.length_set]; exact hr) (by rw [eg, List.length_set]; omega) (by omega) (by rw [eg, List.length_set]; exact ha) (by omega) (by omega) hx hx2
    rw [eg, Int.natCast_succ, List.set_set] at ih
    have hl1 : i < ((a.getD r []).set i q).length := by rw [List.length_set]; exact h1
    have e1 : ((a.getD r []).set i q).take (i + 1) = (a.getD r []).take i ++ [q] := by
      rw [Pu.take_succ hl1 0, List.take_set_of_le (Nat.le_refl _), Pu.getD_lt hl1, List.getElem_set_self]
    have e2 : ((a.getD r []).set i q).drop (i + 1) = (a.getD r []).drop (i + 1) := by rw [List.drop_set_of_lt (by omega)]
    rw [e1, e2] at ih
    rw [Pu.drop_cons h1 0]
    simp (disch := omega) only [p_test, p_lt, p_le, p_ltN, p_len, p_ofN, p_nat, p_set, p_rd, p_wrap, p_add, Pu.w64, Int.toNat_natCast, decide_eq_true_eq, Int.ofNat_lt, hr, h1, if_true, Int.natCast_nonneg, decide_true, ih, Pu.mark]
    simp only [List.append_assoc, List.singleton_append]
    congr 1
    omega
theorem laws_markIntSS_wi.loop {k : Nat} (hk : 4194304 ≤ k) : ∀ (m j i : Nat) (q : Int) (a : List (List Int)), i + m = a.length → m < j → a.length ≤ 1048576 → (∀ x ∈ a, x.length ≤ 1048576) → 0 ≤ q → q + Pu.size2 (a.drop i) ≤ 4000000000000 →
    laws_markIntSS_wi.L0 k j q i a = some (q + Pu.size2 (a.drop i), a.take i ++ Pu.mark2 (a.drop i) q)
  | m, 0, i, q, a, _, hj, _, _, _, _ => by omega
  | 0, j + 1, i, q, a, hi, _, _, _, _, _ => by
    rw [laws_markIntSS_wi.L0_eq]
    have e : i = a.length := by omega
    subst e
    simp [Pu.mark2, Pu.size2]
  | m + 1, j + 1, i, q, a, hi, hj, ha, hr, hq, hq2 => by
    rw [laws_markIntSS_wi.L0_eq]
    have h1 : i < a.length := by omega
    have hx := hr a[i] (List.getElem_mem h1)
    rw [← Pu.getD_lt h1 []] at hx
    rw [Pu.drop_cons h1 []] at hq2 ⊢
    simp only [Pu.size2] at hq2
    simp (disch := omega) only [p_test, p_lt, p_le, p_ltN, p_len, p_ofN, p_nat, p_rd, p_wrap, p_add, Pu.w64, Int.toNat_natCast, decide_eq_true_eq, Int.ofNat_lt, h1, if_true, Int.natCast_nonneg, decide_true, Pu.mark2, Pu.size2]
    have hin := fun (x7 : Bool) (x6 : Int) => laws_markIntSS_wi.inner (k := k) (k1 := j) (r := i) (x3 := q) (x4 := i) (x5 := i) (x6 := x6) (x7 := x7) (x8 := i) (x9 := i) (x10 := i) (x11 := q) (a.getD i []).length k 0 q a h1 (by omega) (by omega) hx hq (by omega) (by omega) (by omega)
    simp only [Int.natCast_zero] at hin
    rw [hin]
    have ih := laws_markIntSS_wi.loop (k := k) hk m j (i + 1) (q + (a.getD i []).length) (a.set i (Pu.mark (a.getD i []) q)) (by simp; omega) (by omega) (by simpa using ha) (fun x hx' => by
        rcases List.mem_or_eq_of_mem_set hx' with h | rfl
        · exact hr x h
        · rw [Pu.mark_len]; exact hx) (by omega) (by rw [List.drop_set_of_lt (by omega)]; omega)
    have e1 : (a.set i (Pu.mark (a.getD i []) q)).take (i + 1) = a.take i ++ [Pu.mark (a.getD i []) q] := by
      rw [Pu.take_succ (by simpa using h1) [], List.take_set_of_le (Nat.le_refl _), Pu.getD_lt (by simpa using h1)]
      simp
    rw [e1, List.drop_set_of_lt (by omega), Int.natCast_succ] at ih
    simp only [List.take_zero, List.drop_zero, List.nil_append]
    rw [ih]
    simp
    omega
theorem laws_markIntSS_wi.is {k : Nat} {a : List (List Int)} {q : Int} (hk : 4194304 + 2 ≤ k) (ha : a.length ≤ 1048576) (hr : ∀ x ∈ a, x.length ≤ 1048576) (hq : 0 ≤ q) (hq2 : q + Pu.size2 a ≤ 4000000000000) : laws_markIntSS_wi k q a = some (q + Pu.size2 a, Pu.mark2 a q) := by
  obtain ⟨k, rfl⟩ : ∃ k', k = k' + 2 := ⟨k - 2, by omega⟩
  rw [laws_markIntSS_wi.eq]
  have h := laws_markIntSS_wi.loop (k := k) (by omega) a.length (k + 1) 0 q a (by omega) (by omega) ha hr hq hq2
  rw [Int.natCast_zero] at h
  simpa using h
-- laws_markTableau_wwi
theorem laws_markTableau_wwi.is {k : Nat} {a : List Int} {b : List (List Int)} {q : Int} (hk : 4194304 + 3 ≤ k) (h1 : a.length ≤ 1048576) (ha : b.length ≤ 1048576) (hr : ∀ x ∈ b, x.length ≤ 1048576) (hq : 0 ≤ q) (hq2 : q + a.length + Pu.size2 b ≤ 4000000000000) :
    laws_markTableau_wwi k q a b = some (q + a.length + Pu.size2 b, (Pu.mark a q, Pu.mark2 b (q + a.length))) := by
  obtain ⟨k, rfl⟩ : ∃ k', k = k' + 1 := ⟨k - 1, by omega⟩
  rw [laws_markTableau_wwi.eq, laws_markIntS_wi.is (by omega) h1 hq (by omega), p_bnd_some, laws_markIntSS_wi.is (by omega) ha hr (by omega) (by omega)]
  rfl
-- spec_l5Copy
theorem spec_l5Copy.loop {k : Nat} {t : Pu.Tab} {x3 x4 : List Int} {x5 : List (List Int)} (ht : t.2.length ≤ 1048576) (hr : ∀ x ∈ t.2, x.length ≤ 1048576) : ∀ (m j i : Nat), i + m = t.2.length → m < j →
    spec_l5Copy.L0 k j i t.1 t.2 x3 x5 x4 (t.2.take i) = some (x4, t.2)
  | m, 0, i, _, hj => by omega
  | 0, j + 1, i, hm, _ => by
    rw [spec_l5Copy.L0_eq]
    have e : i = t.2.length := by omega
    subst e
    simp
  | m + 1, j + 1, i, hm, hj => by
    rw [spec_l5Copy.L0_eq]
    have hlt : i < t.2.length := by omega
    have hx := hr _ (List.getElem_mem hlt)
    rw [← Pu.getD_lt hlt []] at hx
    have ih := spec_l5Copy.loop (k := k) (x3 := x3) (x4 := x4) (x5 := x5) ht hr m j (i + 1) (by omega) (by omega)
    rw [Int.natCast_succ, Pu.take_succ hlt []] at ih
    have hl : (t.2.take i ++ [t.2.getD i []]).length ≤ 1099511627776 := by simp; omega
    have hx' : (t.2.getD i []).length ≤ 1099511627776 := by omega
    simp (disch := omega) only [↓p_test, p_lt, p_le, p_ltN, p_leN, p_eqN, p_len, p_ofN, p_nat, p_rd, p_set, p_app, p_take, p_drop, p_rep, p_wrap, p_add, p_sub, p_no, p_eq, p_eqB, p_eqP, p_bnd_some, Pu.w64, Int.toNat_natCast, decide_eq_true_eq, Int.ofNat_lt, Int.ofNat_le, if_true, if_false, Int.natCast_nonneg, decide_true, decide_false, Bool.not_true, Bool.not_false, Bool.false_eq_true, Bool.not_eq_true, Bool.true_and, Bool.and_true, Bool.false_and, Bool.and_false, hlt, hl, hx', List.nil_append, ih]
theorem spec_l5Copy.is {k : Nat} {t : Pu.Tab} (hk : 4194304 + 1 ≤ k) (h1 : t.1.length ≤ 1048576) (ht : t.2.length ≤ 1048576) (hr : ∀ x ∈ t.2, x.length ≤ 1048576) : spec_l5Copy k t = some t := by
  obtain ⟨k, rfl⟩ : ∃ k', k = k' + 1 := ⟨k - 1, by omega⟩
  rw [spec_l5Copy.eq]
  have h := spec_l5Copy.loop (k := k) (t := t) (x3 := []) (x4 := t.1) (x5 := []) ht hr t.2.length k 0 (by omega) (by omega)
  rw [Int.natCast_zero, List.take_zero] at h
  have hl : t.1.length ≤ 1099511627776 := by omega
  simp only [↓p_test, p_lt, p_le, p_ltN, p_leN, p_eqN, p_len, p_ofN, p_nat, p_rd, p_set, p_app, p_take, p_drop, p_rep, p_wrap, p_add, p_sub, p_no, p_eq, p_eqB, p_eqP, p_bnd_some, Pu.w64, Int.toNat_natCast, decide_eq_true_eq, Int.ofNat_lt, Int.ofNat_le, if_true, if_false, Int.natCast_nonneg, decide_true, decide_false, Bool.not_true, Bool.not_false, Bool.false_eq_true, Bool.not_eq_true, Bool.true_and, Bool.and_true, Bool.false_and, Bool.and_false, List.nil_append, hl, h]
-- spec_RemoveBox
theorem spec_RemoveBox.is {k : Nat} {p : List Int} {n : Nat} (hk : 4194304 + 3 ≤ k) (hp : Pu.isPart p = true) (hn : n < p.length) (hc : p.getD (n + 1) 0 < p.getD n 0) : spec_RemoveBox k p n = some (Pu.dropBox p n, true) := by
  obtain ⟨k, rfl⟩ : ∃ k', k = k' + 1 := ⟨k - 1, by omega⟩
  have h9 := (Pu.isPart_spec hp).2.2.1
  have ha := spec_l2At.is (k := k) (p := p) (i := (n : Int) + 1) (by omega)
  have e : (n : Int) + 1 = ((n + 1 : Nat) : Int) := by omega
  rw [e, Pu.atI_nat] at ha
  have hb := Pu.part_atI hp n
  rw [Pu.atI_nat] at hb
  have h1 : ¬ (n : Int) < 0 := by omega
  have h2 : ¬ (p.length : Int) ≤ n := by omega
  have h3 : ¬ p.getD n 0 = p.getD (n + 1) 0 := by omega
  have h4 : n ≤ p.length := by omega
  have h5 : p.length ≤ 1099511627776 := by omega
  have hset : (p.set n (p.getD n 0 - 1)).getD n 0 = p.getD n 0 - 1 := by
    rw [Pu.getD_lt (by rw [List.length_set]; exact hn), List.getElem_set_self]
  have hpt := spec_IsPartition.is (k := k) (p := p) (by omega) (by omega)
  rw [spec_RemoveBox.eq, hpt, p_bnd_some, hp]
  unfold Pu.dropBox
  by_cases c : p.getD n 0 - 1 = 0
  · simp (disch := omega) only [↓p_test, p_lt, p_le, p_ltN, p_leN, p_eqN, p_len, p_ofN, p_nat, p_rd, p_set, p_app, p_take, p_drop, p_rep, p_wrap, p_add, p_sub, p_no, p_eq, p_eqB, p_eqP, p_bnd_some, Pu.w64, Int.toNat_natCast, decide_eq_true_eq, Int.ofNat_lt, Int.ofNat_le, if_true, if_false, Int.natCast_nonneg, decide_true, decide_false, Bool.not_true, Bool.not_false, Bool.false_eq_true, Bool.not_eq_true, Bool.true_and, Bool.and_true, Bool.false_and, Bool.and_false, h1, h2, h3, h4, h5, hn, spec_RemoveBox.J0_eq, e, ha, List.nil_append, List.length_set, hset, c, p_subN, Nat.sub_zero, List.drop_zero, if_true]
    rw [c] at hset
    simp (disch := omega) only [↓p_test, p_lt, p_le, p_ltN, p_leN, p_eqN, p_len, p_ofN, p_nat, p_rd, p_set, p_app, p_take, p_drop, p_rep, p_wrap, p_add, p_sub, p_no, p_eq, p_eqB, p_eqP, p_bnd_some, Pu.w64, Int.toNat_natCast, decide_eq_true_eq, Int.ofNat_lt, Int.ofNat_le, if_true, if_false, Int.natCast_nonneg, decide_true, decide_false, Bool.not_true, Bool.not_false, Bool.false_eq_true, Bool.not_eq_true, Bool.true_and, Bool.and_true, Bool.false_and, Bool.and_false, hset, h4, Nat.sub_zero, List.drop_zero, List.take_set_of_le (Nat.le_refl n)]
  · simp (disch := omega) only [↓p_test, p_lt, p_le, p_ltN, p_leN, p_eqN, p_len, p_ofN, p_nat, p_rd, p_set, p_app, p_take, p_drop, p_rep, p_wrap, p_add, p_sub, p_no, p_eq, p_eqB, p_eqP, p_bnd_some, Pu.w64, Int.toNat_natCast, decide_eq_true_eq, Int.ofNat_lt, Int.ofNat_le, if_true, if_false, Int.natCast_nonneg, decide_true, decide_false, Bool.not_true, Bool.not_false, Bool.false_eq_true, Bool.not_eq_true, Bool.true_and, Bool.and_true, Bool.false_and, Bool.and_false, h1, h2, h3, h4, h5, hn, spec_RemoveBox.J0_eq, e, ha, List.nil_append, List.length_set, hset, c, if_false]
-- spec_l13Grid
theorem spec_l13Grid.row {k k1 : Nat} {t : Pu.Tab} {r : Nat} {acc : List (List Int)} (hk : 3 ≤ k) (hi : Pu.isPart t.1 = true) (hr : r ≤ 10) (ha : acc.length ≤ 20) : ∀ (m j i : Nat), i + m = 11 → m < j →
    spec_l13Grid.L1 k k1 j r i acc ((Pu.entRow t r).take i ++ List.replicate (11 - i) 0) t.1 t.2 = spec_l13Grid.L0 k k1 ((r + 1 : Nat) : Int) (acc ++ [Pu.entRow t r]) t.1 t.2
  | m, 0, i, _, hj => by omega
  | 0, j + 1, i, hm, _ => by
    rw [spec_l13Grid.L1_eq]
    have e : i = 11 := by omega
    subst e
    have hn : ¬ ((11 : Nat) : Int) ≤ 10 := by omega
    have hl : (acc ++ [(Pu.entRow t r).take 11 ++ List.replicate (11 - 11) 0]).length ≤ 1099511627776 := by rw [List.length_append, List.length_singleton]; omega
    have et : (Pu.entRow t r).take 11 ++ List.replicate (11 - 11) 0 = Pu.entRow t r := by
      rw [Nat.sub_self, List.replicate_zero, List.append_nil]
      exact List.take_of_length_le (by rw [Pu.entRow_len]; omega)
    rw [et] at hl ⊢
    simp (disch := omega) only [↓p_test, p_lt, p_le, p_ltN, p_leN, p_eqN, p_len, p_ofN, p_nat, p_rd, p_set, p_app, p_take, p_drop, p_rep, p_wrap, p_add, p_sub, p_no, p_eq, p_eqB, p_eqP, p_bnd_some, Pu.w64, Int.toNat_natCast, decide_eq_true_eq, Int.ofNat_lt, Int.ofNat_le, if_true, if_false, Int.natCast_nonneg, decide_true, decide_false, Bool.not_true, Bool.not_false, Bool.false_eq_true, Bool.not_eq_true, Bool.true_and, Bool.and_true, Bool.false_and, Bool.and_false, hn, hl, Int.natCast_add, Int.natCast_one]
  | m + 1, j + 1, i, hm, hj => by
    rw [spec_l13Grid.L1_eq]
    have ih := spec_l13Grid.row (k := k) (k1 := k1) (t := t) (r := r) (acc := acc) hk hi hr ha m j (i + 1) (by omega) (by omega)
    have hf := Pu.fill_step (xs := Pu.entRow t r) (i := i) (by rw [Pu.entRow_len]; omega) 0 0
    rw [Pu.entRow_len, Pu.entRow_get (by omega)] at hf
    rw [← hf] at ih
    have he := spec_l5Entry.is (k := k) (t := t) (r := (r : Int)) (c := (i : Int)) (by omega) hi (by omega) (by omega)
    have h1 : (i : Int) ≤ 10 := by omega
    have hlen : ((Pu.entRow t r).take i ++ List.replicate (11 - i) 0).length = 11 := by
      rw [List.length_append, List.length_take, List.length_replicate, Pu.entRow_len]; omega
    have h2 : i < 11 := by omega
    have e1 : ((i + 1 : Nat) : Int) = (i : Int) + 1 := by omega
    rw [e1] at ih
    rw [show ((t.1, t.2) : Pu.Tab) = t from rfl]
    simp (disch := omega) only [↓p_test, p_lt, p_le, p_ltN, p_leN, p_eqN, p_len, p_ofN, p_nat, p_rd, p_set, p_app, p_take, p_drop, p_rep, p_wrap, p_add, p_sub, p_no, p_eq, p_eqB, p_eqP, p_bnd_some, Pu.w64, Int.toNat_natCast, decide_eq_true_eq, Int.ofNat_lt, Int.ofNat_le, if_true, if_false, Int.natCast_nonneg, decide_true, decide_false, Bool.not_true, Bool.not_false, Bool.false_eq_true, Bool.not_eq_true, Bool.true_and, Bool.and_true, Bool.false_and, Bool.and_false, h1, he, hlen, h2, ih]
theorem spec_l13Grid.loop {k : Nat} {t : Pu.Tab} (hk : 20 ≤ k) (hi : Pu.isPart t.1 = true) : ∀ (m j i : Nat), i + m = 11 → m < j →
    spec_l13Grid.L0 k j i ((Pu.ent11 t).take i) t.1 t.2 = some (Pu.ent11 t)
  | m, 0, i, _, hj => by omega
  | 0, j + 1, i, hm, _ => by
    rw [spec_l13Grid.L0_eq]
    have e : i = 11 := by omega
    subst e
    have hn : ¬ ((11 : Nat) : Int) ≤ 10 := by omega
    have et : (Pu.ent11 t).take 11 = Pu.ent11 t := List.take_of_length_le (by rw [Pu.ent_len]; omega)
    rw [et]
    simp only [↓p_test, p_lt, p_le, p_ltN, p_leN, p_eqN, p_len, p_ofN, p_nat, p_rd, p_set, p_app, p_take, p_drop, p_rep, p_wrap, p_add, p_sub, p_no, p_eq, p_eqB, p_eqP, p_bnd_some, Pu.w64, Int.toNat_natCast, decide_eq_true_eq, Int.ofNat_lt, Int.ofNat_le, if_true, if_false, Int.natCast_nonneg, decide_true, decide_false, Bool.not_true, Bool.not_false, Bool.false_eq_true, Bool.not_eq_true, Bool.true_and, Bool.and_true, Bool.false_and, Bool.and_false, hn]
  | m + 1, j + 1, i, hm, hj => by
    rw [spec_l13Grid.L0_eq]
    have ih := spec_l13Grid.loop (k := k) (t := t) hk hi m j (i + 1) (by omega) (by omega)
    rw [Pu.take_succ (by rw [Pu.ent_len]; omega) [], Pu.ent_get (by omega)] at ih
    have hr := spec_l13Grid.row (k := k) (k1 := j) (t := t) (r := i) (acc := (Pu.ent11 t).take i) (by omega) hi (by omega) (by rw [List.length_take, Pu.ent_len]; omega) 11 k 0 (by omega) (by omega)
    rw [ih, List.take_zero, List.nil_append, Nat.sub_zero, Int.natCast_zero] at hr
    have h1 : (i : Int) ≤ 10 := by omega
    have h2 : Int.toNat 11 = 11 := rfl
    have h3 : (0 : Int) ≤ 11 := by omega
    have h4 : (11 : Nat) ≤ 1099511627776 := by omega
    simp (disch := omega) only [↓p_test, p_lt, p_le, p_ltN, p_leN, p_eqN, p_len, p_ofN, p_nat, p_rd, p_set, p_app, p_take, p_drop, p_rep, p_wrap, p_add, p_sub, p_no, p_eq, p_eqB, p_eqP, p_bnd_some, Pu.w64, Int.toNat_natCast, decide_eq_true_eq, Int.ofNat_lt, Int.ofNat_le, if_true, if_false, Int.natCast_nonneg, decide_true, decide_false, Bool.not_true, Bool.not_false, Bool.false_eq_true, Bool.not_eq_true, Bool.true_and, Bool.and_true, Bool.false_and, Bool.and_false, h1, h2, h3, h4, Int.le_refl, hr]
theorem spec_l13Grid.is {k : Nat} {t : Pu.Tab} (hk : 30 ≤ k) (hi : Pu.isPart t.1 = true) : spec_l13Grid k t = some (Pu.ent11 t) := by
  obtain ⟨k, rfl⟩ : ∃ k', k = k' + 1 := ⟨k - 1, by omega⟩
  rw [spec_l13Grid.eq]
  have h := spec_l13Grid.loop (k := k) (t := t) (by omega) hi 11 k 0 (by omega) (by omega)
  rw [Int.natCast_zero, List.take_zero] at h
  exact h
-- spec_l13Tableau
theorem spec_l13Tableau.row {k k1 : Nat} {g R : List (List Int)} {q o x6 : List Int} {x7 : List (List Int)} {x8 : List Int} {acc : List (List Int)} {r : Nat} (hro : r < o.length) (hrg : r < g.length) (ha : acc.length ≤ 20) (h0 : 0 ≤ q.getD r 0) (h9 : o.getD r 0 ≤ 20) (hl : o.getD r 0 = q.getD r 0 + (R.getD r []).length)
    (hx : ∀ x, x < (R.getD r []).length → (q.getD r 0).toNat + x < (g.getD r []).length ∧ Pu.cel g r ((q.getD r 0).toNat + x) = (R.getD r []).getD x 0) (hr : (r : Int) ≤ 20) : ∀ (m j x : Nat), x + m = (R.getD r []).length → m < j →
    spec_l13Tableau.L1 k k1 j r (((q.getD r 0).toNat + x : Nat) : Int) g q o ((R.getD r []).take x) x6 x7 x8 acc = spec_l13Tableau.L0 k k1 ((r + 1 : Nat) : Int) g q o x6 x7 x8 (acc ++ [R.getD r []])
  | m, 0, x, _, hj => by omega
  | 0, j + 1, x, hm, _ => by
    rw [spec_l13Tableau.L1_eq]
    have e : x = (R.getD r []).length := by omega
    subst e
    rw [List.take_length]
    have hn : ¬ (((q.getD r 0).toNat + (R.getD r []).length : Nat) : Int) < o.getD r 0 := by omega
    generalize (q.getD r 0).toNat + (R.getD r []).length = y at *
    have hln : (acc ++ [R.getD r []]).length ≤ 1099511627776 := by rw [List.length_append, List.length_singleton]; omega
    simp (disch := omega) only [↓p_test, p_lt, p_le, p_ltN, p_leN, p_eqN, p_len, p_ofN, p_nat, p_rd, p_set, p_app, p_take, p_drop, p_rep, p_wrap, p_add, p_sub, p_no, p_eq, p_eqB, p_eqP, p_bnd_some, Pu.w64, Int.toNat_natCast, decide_eq_true_eq, Int.ofNat_lt, Int.ofNat_le, if_true, if_false, Int.natCast_nonneg, decide_true, decide_false, Bool.not_true, Bool.not_false, Bool.false_eq_true, Bool.not_eq_true, Bool.true_and, Bool.and_true, Bool.false_and, Bool.and_false, hro, hn, hln, Int.natCast_add, Int.natCast_one]
  | m + 1, j + 1, x, hm, hj => by
    rw [spec_l13Tableau.L1_eq]
    have hlt : x < (R.getD r []).length := by omega
    obtain ⟨b1, b2⟩ := hx x hlt
    have ih := spec_l13Tableau.row (k := k) (k1 := k1) (q := q) (x6 := x6) (x7 := x7) (x8 := x8) hro hrg ha h0 h9 hl hx hr m j (x + 1) (by omega) (by omega)
    rw [Pu.take_succ hlt 0, ← b2] at ih
    have hc : (((q.getD r 0).toNat + x : Nat) : Int) < o.getD r 0 := by omega
    have e1 : (((q.getD r 0).toNat + (x + 1) : Nat) : Int) = (((q.getD r 0).toNat + x : Nat) : Int) + 1 := by omega
    rw [e1] at ih
    have hln : ((R.getD r []).take x ++ [Pu.cel g r ((q.getD r 0).toNat + x)]).length ≤ 1099511627776 := by
      rw [List.length_append, List.length_take, List.length_singleton]; omega
    have ec : (g.getD r []).getD ((q.getD r 0).toNat + x) 0 = Pu.cel g r ((q.getD r 0).toNat + x) := rfl
    generalize hy : (q.getD r 0).toNat + x = y at *
    simp (maxSteps := 10000000) (disch := omega) only [↓p_test, p_lt, p_le, p_ltN, p_leN, p_eqN, p_len, p_ofN, p_nat, p_rd, p_set, p_app, p_take, p_drop, p_rep, p_wrap, p_add, p_sub, p_no, p_eq, p_eqB, p_eqP, p_bnd_some, Pu.w64, Int.toNat_natCast, decide_eq_true_eq, Int.ofNat_lt, Int.ofNat_le, if_true, if_false, Int.natCast_nonneg, decide_true, decide_false, Bool.not_true, Bool.not_false, Bool.false_eq_true, Bool.not_eq_true, Bool.true_and, Bool.and_true, Bool.false_and, Bool.and_false, hro, hrg, hc, b1, ec, hln, ih]
theorem spec_l13Tableau.loop {k : Nat} {g R : List (List Int)} {q o x4 : List Int} {x5 : List (List Int)} {x6 : List Int} (hk : 40 ≤ k) (hol : o.length ≤ 9) (hg : o.length ≤ g.length) (hR : R.length = o.length)
    (h : ∀ r, r < o.length → 0 ≤ q.getD r 0 ∧ o.getD r 0 ≤ 20 ∧ o.getD r 0 = q.getD r 0 + (R.getD r []).length ∧ ∀ x, x < (R.getD r []).length → (q.getD r 0).toNat + x < (g.getD r []).length ∧ Pu.cel g r ((q.getD r 0).toNat + x) = (R.getD r []).getD x 0) : ∀ (m j i : Nat), i + m = o.length → m < j →
    spec_l13Tableau.L0 k j i g q o x4 x5 x6 (R.take i) = some (x6, R)
  | m, 0, i, _, hj => by omega
  | 0, j + 1, i, hm, _ => by
    rw [spec_l13Tableau.L0_eq]
    have e : i = o.length := by omega
    subst e
    rw [List.take_of_length_le (by omega)]
    simp only [↓p_test, p_lt, p_le, p_ltN, p_leN, p_eqN, p_len, p_ofN, p_nat, p_rd, p_set, p_app, p_take, p_drop, p_rep, p_wrap, p_add, p_sub, p_no, p_eq, p_eqB, p_eqP, p_bnd_some, Pu.w64, Int.toNat_natCast, decide_eq_true_eq, Int.ofNat_lt, Int.ofNat_le, if_true, if_false, Int.natCast_nonneg, decide_true, decide_false, Bool.not_true, Bool.not_false, Bool.false_eq_true, Bool.not_eq_true, Bool.true_and, Bool.and_true, Bool.false_and, Bool.and_false, Nat.lt_irrefl]
  | m + 1, j + 1, i, hm, hj => by
    rw [spec_l13Tableau.L0_eq]
    have hi : i < o.length := by omega
    obtain ⟨a1, a2, a3, a4⟩ := h i hi
    have ih := spec_l13Tableau.loop (q := q) (x4 := x4) (x5 := x5) (x6 := x6) hk hol hg hR h m j (i + 1) (by omega) (by omega)
    rw [Pu.take_succ (by omega) []] at ih
    have hr := spec_l13Tableau.row (k := k) (k1 := j) (q := q) (x6 := x4) (x7 := x5) (x8 := x6) (acc := R.take i) hi (by omega) (by rw [List.length_take]; omega) a1 a2 a3 a4 (by omega) (R.getD i []).length k 0 (by omega) (by omega)
    rw [ih, List.take_zero, Nat.add_zero, show (((q.getD i 0).toNat : Nat) : Int) = q.getD i 0 by omega] at hr
    have ha := spec_l2At.is (k := k) (p := q) (i := (i : Int)) (by omega)
    rw [Pu.atI_nat] at ha
    simp (disch := omega) only [↓p_test, p_lt, p_le, p_ltN, p_leN, p_eqN, p_len, p_ofN, p_nat, p_rd, p_set, p_app, p_take, p_drop, p_rep, p_wrap, p_add, p_sub, p_no, p_eq, p_eqB, p_eqP, p_bnd_some, Pu.w64, Int.toNat_natCast, decide_eq_true_eq, Int.ofNat_lt, Int.ofNat_le, if_true, if_false, Int.natCast_nonneg, decide_true, decide_false, Bool.not_true, Bool.not_false, Bool.false_eq_true, Bool.not_eq_true, Bool.true_and, Bool.and_true, Bool.false_and, Bool.and_false, hi, ha, hr]
theorem spec_l13Tableau.is {k : Nat} {g R : List (List Int)} {q o : List Int} (hk : 50 ≤ k) (hq : q.length ≤ 9) (hol : o.length ≤ 9) (hg : o.length ≤ g.length) (hR : R.length = o.length)
    (h : ∀ r, r < o.length → 0 ≤ q.getD r 0 ∧ o.getD r 0 ≤ 20 ∧ o.getD r 0 = q.getD r 0 + (R.getD r []).length ∧ ∀ x, x < (R.getD r []).length → (q.getD r 0).toNat + x < (g.getD r []).length ∧ Pu.cel g r ((q.getD r 0).toNat + x) = (R.getD r []).getD x 0) :
    spec_l13Tableau k g q o = some (q, R) := by
  obtain ⟨k, rfl⟩ : ∃ k', k = k' + 1 := ⟨k - 1, by omega⟩
  rw [spec_l13Tableau.eq]
  have hl := spec_l13Tableau.loop (k := k) (q := q) (x4 := []) (x5 := []) (x6 := q) (by omega) hol hg hR h o.length k 0 (by omega) (by omega)
  rw [Int.natCast_zero, List.take_zero] at hl
  have hln : q.length ≤ 1099511627776 := by omega
  simp only [↓p_test, p_lt, p_le, p_ltN, p_leN, p_eqN, p_len, p_ofN, p_nat, p_rd, p_set, p_app, p_take, p_drop, p_rep, p_wrap, p_add, p_sub, p_no, p_eq, p_eqB, p_eqP, p_bnd_some, Pu.w64, Int.toNat_natCast, decide_eq_true_eq, Int.ofNat_lt, Int.ofNat_le, if_true, if_false, Int.natCast_nonneg, decide_true, decide_false, Bool.not_true, Bool.not_false, Bool.false_eq_true, Bool.not_eq_true, Bool.true_and, Bool.and_true, Bool.false_and, Bool.and_false, List.nil_append, hln, hl]
-- spec_l13Into
theorem spec_l13Into.loop {k : Nat} {Q q x4 x6 x7 : List Int} {x5 : List (List Int)} (hk : 4 ≤ k) : ∀ (m j : Nat) (s g : List (List Int)) (i c : Nat), Pu.Sq s g i c → Pu.Sl Q g i c → g.length ≤ 9 → (∀ r, (g.getD r []).length ≤ 9) → m < j →
    Pu.cel (Pu.slideGo m g i c).1 (Pu.slideGo m g i c).2.1 ((Pu.slideGo m g i c).2.2 + 1) = 0 → Pu.cel (Pu.slideGo m g i c).1 ((Pu.slideGo m g i c).2.1 + 1) (Pu.slideGo m g i c).2.2 = 0 →
    ∃ s', Pu.Sq s' (Pu.slideGo m g i c).1 (Pu.slideGo m g i c).2.1 (Pu.slideGo m g i c).2.2 ∧ spec_l13Into.L0 k j i c q s x4 x5 x6 x7 = spec_l13Into.J2 k (Pu.slideGo m g i c).2.1 q s' x4 x5 x6 x7
  | m, 0, s, g, i, c, _, _, _, _, hj, _, _ => by omega
  | 0, j + 1, s, g, i, c, hs, hg, hl, hw, _, s1, s2 => by
    have hi := hg.hi
    have hc := hg.hc
    have hwi := hw i
    refine ⟨s, hs, ?_⟩
    have q1 := hs.row i (by omega)
    have q2 := hs.row (i + 1) (by omega)
    have q0 := hs.len
    have r1 : (s.getD i []).getD (c + 1) 0 = 0 := (hs.at_ i (c + 1) (by omega) (by omega) (by omega)).trans s1
    have r2 : (s.getD (i + 1) []).getD c 0 = 0 := (hs.at_ (i + 1) c (by omega) (by omega) (by omega)).trans s2
    have e1 : (c : Int) + 1 = ((c + 1 : Nat) : Int) := by omega
    have e2 : (i : Int) + 1 = ((i + 1 : Nat) : Int) := by omega
    have g1 : i < 11 := by omega
    have g2 : c + 1 < 11 := by omega
    have g3 : i + 1 < 11 := by omega
    have g4 : c < 11 := by omega
    rw [spec_l13Into.L0_eq]
    simp (maxSteps := 10000000) (disch := omega) only [↓p_test, p_lt, p_le, p_ltN, p_leN, p_eqN, p_len, p_ofN, p_nat, p_rd, p_set, p_app, p_take, p_drop, p_rep, p_wrap, p_add, p_sub, p_no, p_eq, p_eqB, p_eqP, p_bnd_some, Pu.w64, Int.toNat_natCast, decide_eq_true_eq, Int.ofNat_lt, Int.ofNat_le, if_true, if_false, Int.natCast_nonneg, decide_true, decide_false, Bool.not_true, Bool.not_false, Bool.false_eq_true, Bool.not_eq_true, Bool.true_and, Bool.and_true, Bool.false_and, Bool.and_false, e1, e2, q0, q1, q2, g1, g2, g3, g4, r1, r2, Int.lt_irrefl, Pu.slideGo]
  | m + 1, j + 1, s, g, i, c, hs, hg, hl, hw, hj, s1, s2 => by
    have hi := hg.hi
    have hc := hg.hc
    have hwi := hw i
    have q1 := hs.row i (by omega)
    have q2 := hs.row (i + 1) (by omega)
    have q0 := hs.len
    have r1 : (s.getD i []).getD (c + 1) 0 = Pu.cel g i (c + 1) := hs.at_ i (c + 1) (by omega) (by omega) (by omega)
    have r2 : (s.getD (i + 1) []).getD c 0 = Pu.cel g (i + 1) c := hs.at_ (i + 1) c (by omega) (by omega) (by omega)
    have p1 := hg.pos i (c + 1)
    have p2 := hg.pos (i + 1) c
    have e1 : (c : Int) + 1 = ((c + 1 : Nat) : Int) := by omega
    have e2 : (i : Int) + 1 = ((i + 1 : Nat) : Int) := by omega
    have g1 : i < 11 := by omega
    have g2 : c + 1 < 11 := by omega
    have g3 : i + 1 < 11 := by omega
    have g4 : c < 11 := by omega
    -- a step is one of the two
    have es : ∀ v, s.set i ((s.getD i []).set c v) = Pu.setc s i c v := fun _ => rfl
    have es1 : ∀ v, (Pu.setc s i c v).set (i + 1) (((Pu.setc s i c v).getD (i + 1) []).set c 0) = Pu.setc (Pu.setc s i c v) (i + 1) c 0 := fun _ => rfl
    have es2 : ∀ v, (Pu.setc s i c v).set i (((Pu.setc s i c v).getD i []).set (c + 1) 0) = Pu.setc (Pu.setc s i c v) i (c + 1) 0 := fun _ => rfl
    have z0 : ∀ v, (Pu.setc s i c v).length = 11 := fun v => by rw [Pu.setc_len]; exact q0
    have z1 : ∀ v, ((Pu.setc s i c v).getD i []).length = 11 := fun v => by rw [Pu.setc_row]; exact q1
    have z2 : ∀ v, ((Pu.setc s i c v).getD (i + 1) []).length = 11 := fun v => by rw [Pu.setc_row]; exact q2
    unfold Pu.slideGo at s1 s2 ⊢
    by_cases c1 : Pu.cel g i (c + 1) = 0 ∧ Pu.cel g (i + 1) c = 0
    · rw [if_pos c1] at s1 s2 ⊢
      refine ⟨s, hs, ?_⟩
      rw [spec_l13Into.L0_eq]
      simp (maxSteps := 10000000) (disch := omega) only [↓p_test, p_lt, p_le, p_ltN, p_leN, p_eqN, p_len, p_ofN, p_nat, p_rd, p_set, p_app, p_take, p_drop, p_rep, p_wrap, p_add, p_sub, p_no, p_eq, p_eqB, p_eqP, p_bnd_some, Pu.w64, Int.toNat_natCast, decide_eq_true_eq, Int.ofNat_lt, Int.ofNat_le, if_true, if_false, Int.natCast_nonneg, decide_true, decide_false, Bool.not_true, Bool.not_false, Bool.false_eq_true, Bool.not_eq_true, Bool.true_and, Bool.and_true, Bool.false_and, Bool.and_false, e1, e2, q0, q1, q2, g1, g2, g3, g4, r1, r2, c1.1, c1.2, Int.lt_irrefl]
    · rw [if_neg c1] at s1 s2 ⊢
      by_cases c2 : Pu.cel g i (c + 1) = 0 ∨ (0 < Pu.cel g (i + 1) c ∧ Pu.cel g (i + 1) c ≤ Pu.cel g i (c + 1))
      · rw [if_pos c2] at s1 s2 ⊢
        have hb : Pu.cel g (i + 1) c ≠ 0 := fun e => by
          rcases c2 with c2 | c2
          · exact c1 ⟨c2, e⟩
          · omega
        have hb' : 0 < Pu.cel g (i + 1) c := by omega
        obtain ⟨s', a1, a2⟩ := spec_l13Into.loop (Q := Q) (q := q) (x4 := x4) (x6 := x6) (x7 := x7) (x5 := x5) hk m j _ _ (i + 1) c (hs.step (i' := i + 1) (c' := c) hi hc g1 g4 g3 g4 (by omega) (Pu.cel g (i + 1) c)) (hg.down hb c2) (by rw [Pu.setc_len]; exact hl) (fun r => by rw [Pu.setc_row]; exact hw r) (by omega) s1 s2
        refine ⟨s', a1, ?_⟩
        rw [← a2, spec_l13Into.L0_eq, spec_l13Into.J1_eq]
        by_cases c3 : Pu.cel g i (c + 1) = 0
        · simp (maxSteps := 10000000) (disch := omega) only [↓p_test, p_lt, p_le, p_ltN, p_leN, p_eqN, p_len, p_ofN, p_nat, p_rd, p_set, p_app, p_take, p_drop, p_rep, p_wrap, p_add, p_sub, p_no, p_eq, p_eqB, p_eqP, p_bnd_some, Pu.w64, Int.toNat_natCast, decide_eq_true_eq, Int.ofNat_lt, Int.ofNat_le, if_true, if_false, Int.natCast_nonneg, decide_true, decide_false, Bool.not_true, Bool.not_false, Bool.false_eq_true, Bool.not_eq_true, Bool.true_and, Bool.and_true, Bool.false_and, Bool.and_false, e1, e2, q0, q1, q2, g1, g2, g3, g4, r1, r2, c3, hb', Int.lt_irrefl, es, spec_l13Into.J3_eq, z0, z1, z2, es1]
        · have c4 : Pu.cel g (i + 1) c ≤ Pu.cel g i (c + 1) := (c2.resolve_left c3).2
          have c5 : 0 < Pu.cel g i (c + 1) := by omega
          simp (maxSteps := 10000000) (disch := omega) only [↓p_test, p_lt, p_le, p_ltN, p_leN, p_eqN, p_len, p_ofN, p_nat, p_rd, p_set, p_app, p_take, p_drop, p_rep, p_wrap, p_add, p_sub, p_no, p_eq, p_eqB, p_eqP, p_bnd_some, Pu.w64, Int.toNat_natCast, decide_eq_true_eq, Int.ofNat_lt, Int.ofNat_le, if_true, if_false, Int.natCast_nonneg, decide_true, decide_false, Bool.not_true, Bool.not_false, Bool.false_eq_true, Bool.not_eq_true, Bool.true_and, Bool.and_true, Bool.false_and, Bool.and_false, e1, e2, q0, q1, q2, g1, g2, g3, g4, r1, r2, c3, c4, c5, hb', es, spec_l13Into.J3_eq, z0, z1, z2, es1]
      · rw [if_neg c2] at s1 s2 ⊢
        have c3 : ¬ Pu.cel g i (c + 1) = 0 := fun e => c2 (.inl e)
        have c5 : 0 < Pu.cel g i (c + 1) := by omega
        obtain ⟨s', a1, a2⟩ := spec_l13Into.loop (Q := Q) (q := q) (x4 := x4) (x6 := x6) (x7 := x7) (x5 := x5) hk m j _ _ i (c + 1) (hs.step (i' := i) (c' := c + 1) hi hc g1 g4 g1 g2 (by omega) (Pu.cel g i (c + 1))) (hg.right c3 (fun e => c2 (.inr e))) (by rw [Pu.setc_len]; exact hl) (fun r => by rw [Pu.setc_row]; exact hw r) (by omega) s1 s2
        refine ⟨s', a1, ?_⟩
        rw [← a2, spec_l13Into.L0_eq, spec_l13Into.J1_eq]
        by_cases c4 : 0 < Pu.cel g (i + 1) c
        · have c6 : ¬ Pu.cel g (i + 1) c ≤ Pu.cel g i (c + 1) := fun e => c2 (.inr ⟨c4, e⟩)
          simp (maxSteps := 10000000) (disch := omega) only [↓p_test, p_lt, p_le, p_ltN, p_leN, p_eqN, p_len, p_ofN, p_nat, p_rd, p_set, p_app, p_take, p_drop, p_rep, p_wrap, p_add, p_sub, p_no, p_eq, p_eqB, p_eqP, p_bnd_some, Pu.w64, Int.toNat_natCast, decide_eq_true_eq, Int.ofNat_lt, Int.ofNat_le, if_true, if_false, Int.natCast_nonneg, decide_true, decide_false, Bool.not_true, Bool.not_false, Bool.false_eq_true, Bool.not_eq_true, Bool.true_and, Bool.and_true, Bool.false_and, Bool.and_false, e1, e2, q0, q1, q2, g1, g2, g3, g4, r1, r2, c3, c4, c5, c6, es, spec_l13Into.J3_eq, z0, z1, z2, es2]
        · simp (maxSteps := 10000000) (disch := omega) only [↓p_test, p_lt, p_le, p_ltN, p_leN, p_eqN, p_len, p_ofN, p_nat, p_rd, p_set, p_app, p_take, p_drop, p_rep, p_wrap, p_add, p_sub, p_no, p_eq, p_eqB, p_eqP, p_bnd_some, Pu.w64, Int.toNat_natCast, decide_eq_true_eq, Int.ofNat_lt, Int.ofNat_le, if_true, if_false, Int.natCast_nonneg, decide_true, decide_false, Bool.not_true, Bool.not_false, Bool.false_eq_true, Bool.not_eq_true, Bool.true_and, Bool.and_true, Bool.false_and, Bool.and_false, e1, e2, q0, q1, q2, g1, g2, g3, g4, r1, r2, c3, c4, c5, es, spec_l13Into.J3_eq, z0, z1, z2, es2]
theorem spec_l13Into.is {k : Nat} {t : Pu.Tab} {n : Nat} (hk : 4194304 + 8 ≤ k) (h : Pu.isTab t = true) (hn : n < t.1.length) (hc : t.1.getD (n + 1) 0 < t.1.getD n 0) : spec_l13Into k t n = some ((Pu.slideTab t n).1, ((Pu.slideTab t n).2 : Int)) := by
  obtain ⟨k, rfl⟩ : ∃ k', k = k' + 1 := ⟨k - 1, by omega⟩
  obtain ⟨z1, z2⟩ := Pu.tab_small h
  obtain ⟨hp, ho, hl, _⟩ := Pu.tab_parts h
  have hs : Pu.shapeOf t = ((Pu.outer t, t.1), true) := by unfold Pu.shapeOf; rw [if_pos (Pu.tab_shape h)]
  have hsh := spec_ShapeOf.is (k := k) (t := t) (by omega) (by omega) (by have := z2.1; omega) (fun r hr => by have := z2.2 r hr; omega)
  rw [hs] at hsh
  have hrb := spec_RemoveBox.is (k := k) (p := t.1) (n := n) (by omega) hp hn hc
  have hgr := spec_l13Grid.is (k := k) (t := t) (by omega) hp
  have hb := Pu.part_atI hp n
  rw [Pu.atI_nat] at hb
  have hpos : 1 ≤ t.1.getD n 0 := by
    rw [Pu.getD_lt hn]
    exact ((Pu.isPart_spec hp).1 _ (List.getElem_mem hn)).1
  obtain ⟨E, s1, s2⟩ := Pu.endP h hn hc
  have hst := Pu.sl_start h hn hc
  obtain ⟨s', a1, a2⟩ := spec_l13Into.loop (k := k) (q := Pu.dropBox t.1 n) (x4 := []) (x6 := Pu.outer t) (x7 := t.1) (x5 := []) (by omega) 18 k (Pu.ent11 t) (Pu.gridOf t) n (t.1.getD n 0 - 1).toNat (Pu.sq_start h hn) hst (by rw [Pu.grid_len]; exact z2.1) (fun r => by
    have a := Pu.grid_out hp r
    have b := (Pu.part_atI ho r).2
    rw [Pu.atI_nat] at b
    omega) (by omega) s1 s2
  rw [show (((t.1.getD n 0 - 1).toNat : Nat) : Int) = t.1.getD n 0 - 1 by omega] at a2
  have hS : Pu.slideGo 18 (Pu.gridOf t) n (t.1.getD n 0 - 1).toNat = Pu.slideEnd t n := rfl
  rw [hS] at a1 a2
  rw [spec_l13Into.eq, show ((t.1, t.2) : Pu.Tab) = t from rfl]
  unfold Pu.slideTab
  generalize Pu.slideEnd t n = S at *
  obtain ⟨g, i, c⟩ := S
  simp only at E a1 a2 ⊢
  have ho9 := (Pu.isPart_spec ho).2.2.1
  have hdl := Pu.dropBox_len (Pu.outer t) i
  have hql := Pu.dropBox_len t.1 n
  have hrb2 := spec_RemoveBox.is (k := k) (p := Pu.outer t) (n := i) (by omega) ho E.hi E.cor
  have htb := spec_l13Tableau.is (k := k) (g := s') (R := Pu.slideRows (Pu.dropBox t.1 n) (Pu.cutG g i c) (Pu.dropBox (Pu.outer t) i).length) (q := Pu.dropBox t.1 n) (o := Pu.dropBox (Pu.outer t) i) (by omega) (by omega) (by omega) (by rw [a1.len]; omega) (by rw [Pu.slideRows_len]) (fun r hr => by
    have hq := E.sl.q0 r
    have ho20 : (Pu.dropBox (Pu.outer t) i).getD r 0 ≤ 20 := by
      have a := E.cutl r
      have b := E.rows.at r
      omega
    refine ⟨hq, ho20, E.rlen hr, fun x hx => ?_⟩
    obtain ⟨c1, c2, c3, c4⟩ := E.cell hr hx
    have b := E.rows.at r
    have a := E.cutl r
    have hx11 : ((Pu.dropBox t.1 n).getD r 0).toNat + x < 11 := by omega
    have hr11 : r < 11 := by omega
    refine ⟨by rw [a1.row r hr11]; exact hx11, ?_⟩
    rw [c4]
    exact a1.at_ r _ hr11 hx11 c3)
  rw [spec_l13Into.J2_eq, hrb2, p_bnd_some, htb, p_bnd_some] at a2
  simp (disch := omega) only [↓p_test, p_lt, p_le, p_ltN, p_leN, p_eqN, p_len, p_ofN, p_nat, p_rd, p_set, p_app, p_take, p_drop, p_rep, p_wrap, p_add, p_sub, p_no, p_eq, p_eqB, p_eqP, p_bnd_some, Pu.w64, Int.toNat_natCast, decide_eq_true_eq, Int.ofNat_lt, Int.ofNat_le, if_true, if_false, Int.natCast_nonneg, decide_true, decide_false, Bool.not_true, Bool.not_false, Bool.false_eq_true, Bool.not_eq_true, Bool.true_and, Bool.and_true, Bool.false_and, Bool.and_false, hsh, hrb, hgr, hn, a2]
-- spec_l14Take
theorem spec_l14Take.is {k : Nat} {t : Pu.Tab} (hk : 4194304 + 30 ≤ k) (h : Pu.isPlain t = true) (h0 : 0 < t.2.length) : spec_l14Take k t = some ((Pu.takeT t).1, ((Pu.takeT t).2 : Int)) := by
  obtain ⟨k, rfl⟩ : ∃ k', k = k' + 1 := ⟨k - 1, by omega⟩
  have hz := Pu.plain_rows h
  have hi1 := Pu.plain_inner h
  have hr := Pu.row_pos h h0
  have hcp := spec_l5Copy.is (k := k) (t := t) (by omega) (by rw [hi1]; simp) (by have := hz.1; omega) (fun r hr => by have := hz.2 r hr; omega)
  have hs := spec_l13Into.is (k := k) (t := Pu.openT t) (n := 0) (by omega) (Pu.open_tab h h0) (by simp [Pu.openT]) (by simp [Pu.openT])
  rw [Int.natCast_zero] at hs
  have e2 : ((t.2.getD 0 []).drop 1).take ((t.2.getD 0 []).length - 1) = (t.2.getD 0 []).drop 1 := List.take_of_length_le (by rw [List.length_drop]; omega)
  rw [spec_l14Take.eq, show ((t.1, t.2) : Pu.Tab) = t from rfl, hcp, p_bnd_some]
  have hg : 1 ≤ (t.2.getD 0 []).length := hr
  simp only [↓p_test, p_lt, p_le, p_ltN, p_leN, p_eqN, p_len, p_ofN, p_nat, p_rd, p_set, p_app, p_take, p_drop, p_rep, p_wrap, p_add, p_sub, p_no, p_eq, p_eqB, p_eqP, p_bnd_some, Pu.w64, Int.toNat_natCast, decide_eq_true_eq, Int.ofNat_lt, Int.ofNat_le, if_true, if_false, Int.natCast_nonneg, decide_true, decide_false, Bool.not_true, Bool.not_false, Bool.false_eq_true, Bool.not_eq_true, Bool.true_and, Bool.and_true, Bool.false_and, Bool.and_false, p_subN, Int.toNat_zero, Int.toNat_one, h0, hg, e2, show (0 : Int) ≤ 0 from Int.le_refl _, show (0 : Int) ≤ 1 by omega]
  rw [show ((1 :: [], t.2.set 0 ((t.2.getD 0 []).drop 1)) : Pu.Tab) = Pu.openT t from rfl, hs]
  rfl
-- spec_Promote
theorem spec_Promote.inner {k k1 : Nat} {x2 : List Int} {x3 : List (List Int)} {inn : List Int} {i : Nat} (hi9 : i < 1000) {len : Nat} (hl9 : len ≤ 1000) : ∀ (m j q : Nat) (rs : List (List Int)), q + m = len → (rs.getD i []).length = len → m < j → i < rs.length → (∀ p, q ≤ p → -100 ≤ (rs.getD i []).getD p 0 ∧ (rs.getD i []).getD p 0 ≤ 101) →
    spec_Promote.L3 k k1 j i q x2 x3 inn rs = spec_Promote.L2 k k1 ((i + 1 : Nat) : Int) x2 x3 inn (rs.set i (Pu.mapFrom (-1) q (rs.getD i [])))
  | m, 0, q, rs, _, _, hj, _, _ => by omega
  | 0, j + 1, q, rs, hq, hl, _, hi, _ => by
    rw [spec_Promote.L3_eq]
    have hn : ¬ (q : Int) < (rs.getD i []).length := by omega
    have e : q = (rs.getD i []).length := by omega
    rw [show Pu.mapFrom (-1) q (rs.getD i []) = rs.getD i [] by rw [e, Pu.mapFrom_all], Pu.getD_lt hi, List.set_getElem_self]
    simp (disch := omega) only [↓p_test, p_lt, p_le, p_ltN, p_leN, p_eqN, p_len, p_ofN, p_nat, p_rd, p_set, p_app, p_take, p_drop, p_rep, p_wrap, p_add, p_sub, p_no, p_eq, p_eqB, p_eqP, p_bnd_some, Pu.w64, Int.toNat_natCast, decide_eq_true_eq, Int.ofNat_lt, Int.ofNat_le, if_true, if_false, Int.natCast_nonneg, decide_true, decide_false, Bool.not_true, Bool.not_false, Bool.false_eq_true, Bool.not_eq_true, Bool.true_and, Bool.and_true, Bool.false_and, Bool.and_false, hn, hi]
    rw [Int.natCast_succ]
  | m + 1, j + 1, q, rs, hq, hl, hj, hi, hb => by
    rw [spec_Promote.L3_eq]
    have hn : (q : Int) < (rs.getD i []).length := by omega
    have hql : q < (rs.getD i []).length := by omega
    have hbq := hb q (Nat.le_refl _)
    have er : (rs.set i ((rs.getD i []).set q ((rs.getD i []).getD q 0 + -1))).getD i [] = (rs.getD i []).set q ((rs.getD i []).getD q 0 + -1) := by
      rw [Pu.getD_lt (by rw [List.length_set]; exact hi), List.getElem_set_self]
    have ih := spec_Promote.inner (k := k) (k1 := k1) (x2 := x2) (x3 := x3) (inn := inn) hi9 hl9 m j (q + 1) (rs.set i ((rs.getD i []).set q ((rs.getD i []).getD q 0 + -1))) (by omega) (by rw [er, List.length_set]; exact hl) (by omega) (by rw [List.length_set]; exact hi) (fun p hp => by
      rw [er, Pu.getD_set_ne (by omega)]
      exact hb p (by omega))
    rw [er, List.set_set, Pu.mapFrom_step hql] at ih
    rw [← ih, Int.natCast_succ, show (rs.getD i []).getD q 0 + -1 = (rs.getD i []).getD q 0 - 1 from rfl]
    simp (disch := omega) only [↓p_test, p_lt, p_le, p_ltN, p_leN, p_eqN, p_len, p_ofN, p_nat, p_rd, p_set, p_app, p_take, p_drop, p_rep, p_wrap, p_add, p_sub, p_no, p_eq, p_eqB, p_eqP, p_bnd_some, Pu.w64, Int.toNat_natCast, decide_eq_true_eq, Int.ofNat_lt, Int.ofNat_le, if_true, if_false, Int.natCast_nonneg, decide_true, decide_false, Bool.not_true, Bool.not_false, Bool.false_eq_true, Bool.not_eq_true, Bool.true_and, Bool.and_true, Bool.false_and, Bool.and_false, hn, hi, hql]
theorem spec_Promote.outer {k : Nat} {x2 : List Int} {x3 : List (List Int)} {inn : List Int} (hk : 4194304 ≤ k) : ∀ (m j i : Nat) (rs : List (List Int)), i + m = rs.length → m < j → Pu.RowsLe 999 1000 rs → (∀ a p, -100 ≤ ((rs.drop i).getD a []).getD p 0 ∧ ((rs.drop i).getD a []).getD p 0 ≤ 101) →
    spec_Promote.L2 k j i x2 x3 inn rs = some ((inn, Pu.shiftFrom (-1) i rs), true)
  | m, 0, i, rs, _, hj, _, _ => by omega
  | 0, j + 1, i, rs, hm, _, _, _ => by
    rw [spec_Promote.L2_eq]
    have e : i = rs.length := by omega
    subst e
    have hn : ¬ (rs.length : Int) < rs.length := by omega
    simp only [↓p_test, p_lt, p_le, p_ltN, p_leN, p_eqN, p_len, p_ofN, p_nat, p_rd, p_set, p_app, p_take, p_drop, p_rep, p_wrap, p_add, p_sub, p_no, p_eq, p_eqB, p_eqP, p_bnd_some, Pu.w64, Int.toNat_natCast, decide_eq_true_eq, Int.ofNat_lt, Int.ofNat_le, if_true, if_false, Int.natCast_nonneg, decide_true, decide_false, Bool.not_true, Bool.not_false, Bool.false_eq_true, Bool.not_eq_true, Bool.true_and, Bool.and_true, Bool.false_and, Bool.and_false, hn, Pu.shiftFrom_all]
  | m + 1, j + 1, i, rs, hm, hj, hr, hs => by
    rw [spec_Promote.L2_eq]
    have hi : i < rs.length := by omega
    have hn : (i : Int) < rs.length := by omega
    have h9 := hr.at i
    have h99 := hr.1
    have hg : ∀ p, -100 ≤ (rs.getD i []).getD p 0 ∧ (rs.getD i []).getD p 0 ≤ 101 := fun p => by
      have := hs 0 p
      rw [Pu.getD_drop] at this
      exact this
    have hin := spec_Promote.inner (k := k) (k1 := j) (x2 := x2) (x3 := x3) (inn := inn) (i := i) (by omega) (len := (rs.getD i []).length) h9 (rs.getD i []).length k 0 rs (by omega) rfl (by omega) hi (fun p _ => hg p)
    have ih := spec_Promote.outer (x2 := x2) (x3 := x3) (inn := inn) hk m j (i + 1) (rs.set i (Pu.mapFrom (-1) 0 (rs.getD i []))) (by rw [List.length_set]; omega) (by omega) (hr.set i (by rw [Pu.mapFrom_len]; exact h9)) (fun a p => by
      have := hs (a + 1) p
      rw [Pu.getD_drop] at this ⊢
      rw [Pu.getD_set_ne (by omega)]
      rw [show i + 1 + a = i + (a + 1) by omega]
      exact this)
    rw [Pu.shiftFrom_step hi] at ih
    rw [ih] at hin
    rw [Int.natCast_zero] at hin
    simp (disch := omega) only [↓p_test, p_lt, p_le, p_ltN, p_leN, p_eqN, p_len, p_ofN, p_nat, p_rd, p_set, p_app, p_take, p_drop, p_rep, p_wrap, p_add, p_sub, p_no, p_eq, p_eqB, p_eqP, p_bnd_some, Pu.w64, Int.toNat_natCast, decide_eq_true_eq, Int.ofNat_lt, Int.ofNat_le, if_true, if_false, Int.natCast_nonneg, decide_true, decide_false, Bool.not_true, Bool.not_false, Bool.false_eq_true, Bool.not_eq_true, Bool.true_and, Bool.and_true, Bool.false_and, Bool.and_false, hn, hin]
theorem spec_Promote.tail {k : Nat} {x2 : List Int} {x3 : List (List Int)} {inn : List Int} {n i : Nat} {rs : List (List Int)} (hk : 4194304 + 2 ≤ k) (hn : n ≤ 9) (hi : i < rs.length) (hr : Pu.RowsLe 10 9 rs) (hs : Pu.Small rs) :
    spec_Promote.J1 k n i x2 x3 inn rs = some ((inn, Pu.shiftRows (-1) (rs.set i (rs.getD i [] ++ [(n : Int) + 1]))), true) := by
  rw [spec_Promote.J1_eq]
  have h9 := hr.at i
  have h99 := hr.1
  have hl : (rs.getD i [] ++ [(n : Int) + 1]).length ≤ 1099511627776 := by rw [List.length_append]; simp only [List.length_cons, List.length_nil]; omega
  have ho := spec_Promote.outer (k := k) (x2 := x2) (x3 := x3) (inn := inn) (by omega) rs.length k 0 (rs.set i (rs.getD i [] ++ [(n : Int) + 1])) (by rw [List.length_set]; omega) (by omega) ((hr.mono (n' := 999) (m' := 1000) (by omega) (by omega)).set i (by rw [List.length_append]; simp only [List.length_cons, List.length_nil]; omega)) (fun a p => by
    rw [List.drop_zero]
    by_cases e : a = i
    · subst e
      have er : (rs.set a (rs.getD a [] ++ [(n : Int) + 1])).getD a [] = rs.getD a [] ++ [(n : Int) + 1] := by
        rw [Pu.getD_lt (by rw [List.length_set]; exact hi), List.getElem_set_self]
      rw [er]
      by_cases hp : p < (rs.getD a []).length
      · rw [Pu.getD_lt (xs := _ ++ _) (by rw [List.length_append]; omega), List.getElem_append_left hp, ← Pu.getD_lt hp 0]
        have := hs a p
        omega
      · simp only [List.getD_eq_getElem?_getD (l := _ ++ _), List.getElem?_append_right (Nat.le_of_not_lt hp)]
        cases p - (rs.getD a []).length with
        | zero => simp; omega
        | succ q => simp
    · rw [Pu.getD_set_ne (Ne.symm e)]
      have := hs a p
      omega)
  rw [Int.natCast_zero] at ho
  simp only [Pu.shiftFrom, List.take_zero, List.drop_zero, List.nil_append] at ho
  simp (disch := omega) only [↓p_test, p_lt, p_le, p_ltN, p_leN, p_eqN, p_len, p_ofN, p_nat, p_rd, p_set, p_app, p_take, p_drop, p_rep, p_wrap, p_add, p_sub, p_no, p_eq, p_eqB, p_eqP, p_bnd_some, Pu.w64, Int.toNat_natCast, decide_eq_true_eq, Int.ofNat_lt, Int.ofNat_le, if_true, if_false, Int.natCast_nonneg, decide_true, decide_false, Bool.not_true, Bool.not_false, Bool.false_eq_true, Bool.not_eq_true, Bool.true_and, Bool.and_true, Bool.false_and, Bool.and_false, hi, hl, ho]
theorem spec_Promote.is {k : Nat} {t : Pu.Tab} (hk : 4194304 + 50 ≤ k) (h1 : t.1.length ≤ 1048576) (ht : t.2.length ≤ 1048576) (hr : ∀ x ∈ t.2, x.length ≤ 1048576) : spec_Promote k t = some (Pu.promote t) := by
  obtain ⟨k, rfl⟩ : ∃ k', k = k' + 1 := ⟨k - 1, by omega⟩
  rw [spec_Promote.eq, show ((t.1, t.2) : Pu.Tab) = t from rfl, spec_l9Plain.is (by omega) h1 ht hr, spec_IsStandard.is (by omega) h1 ht hr, p_bnd_some, p_bnd_some]
  unfold Pu.promote
  cases hp : Pu.isPlain t with
  | false => simp
  | true =>
    cases hb : Pu.isStd t with
    | false => simp
    | true =>
      have h9 := Pu.plain_nine hp
      have hnum := spec_l5Numbers.is (k := k) (t := t) (by omega) ht (by omega)
      by_cases c : t.2.flatten.length = 0
      · have hc : (t.2.flatten.length : Int) = 0 := by omega
        rw [if_pos ⟨rfl, rfl⟩, if_pos c]
        simp only [↓p_test, p_lt, p_le, p_ltN, p_leN, p_eqN, p_len, p_ofN, p_nat, p_rd, p_set, p_app, p_take, p_drop, p_rep, p_wrap, p_add, p_sub, p_no, p_eq, p_eqB, p_eqP, p_bnd_some, Pu.w64, Int.toNat_natCast, decide_eq_true_eq, Int.ofNat_lt, Int.ofNat_le, if_true, if_false, Int.natCast_nonneg, decide_true, decide_false, Bool.not_true, Bool.not_false, Bool.false_eq_true, Bool.not_eq_true, Bool.true_and, Bool.and_true, Bool.false_and, Bool.and_false, spec_Promote.J0_eq, hnum, hc]
      · have hc : ¬ (t.2.flatten.length : Int) = 0 := by omega
        have h0 := Pu.plain_ne (t := t) (by omega)
        have htk := spec_l14Take.is (k := k) (by omega) hp h0
        obtain ⟨w1, w2⟩ := Pu.withRow_lt hp h0
        have w3 := Pu.withRow_small hp h0
        have hin := Pu.plain_inner (Pu.take_spec hp h0).1
        have htl := spec_Promote.tail (k := k) (x2 := ([] : List Int)) (x3 := ([] : List (List Int))) (inn := []) (by omega) h9 w1 w2 w3
        rw [Pu.promote_ref _ w1] at htl
        rw [if_pos ⟨rfl, rfl⟩, if_neg c]
        have hle := Pu.take_le hp h0
        have hlr := w2.1
        unfold Pu.withRow at htl hlr ⊢
        by_cases e : (Pu.takeT t).2 = (Pu.takeT t).1.2.length
        · have e' : ((Pu.takeT t).2 : Int) = (Pu.takeT t).1.2.length := by omega
          rw [if_pos e] at htl hlr ⊢
          have hl : ((Pu.takeT t).1.2 ++ [[]]).length ≤ 1099511627776 := by omega
          simp only [↓p_test, p_lt, p_le, p_ltN, p_leN, p_eqN, p_len, p_ofN, p_nat, p_rd, p_set, p_app, p_take, p_drop, p_rep, p_wrap, p_add, p_sub, p_no, p_eq, p_eqB, p_eqP, p_bnd_some, Pu.w64, Int.toNat_natCast, decide_eq_true_eq, Int.ofNat_lt, Int.ofNat_le, if_true, if_false, Int.natCast_nonneg, decide_true, decide_false, Bool.not_true, Bool.not_false, Bool.false_eq_true, Bool.not_eq_true, Bool.true_and, Bool.and_true, Bool.false_and, Bool.and_false, spec_Promote.J0_eq, hnum, hc, htk, hin, hl]
          rw [if_pos e', htl]
        · have e' : ¬ ((Pu.takeT t).2 : Int) = (Pu.takeT t).1.2.length := by omega
          rw [if_neg e] at htl hlr ⊢
          simp only [↓p_test, p_lt, p_le, p_ltN, p_leN, p_eqN, p_len, p_ofN, p_nat, p_rd, p_set, p_app, p_take, p_drop, p_rep, p_wrap, p_add, p_sub, p_no, p_eq, p_eqB, p_eqP, p_bnd_some, Pu.w64, Int.toNat_natCast, decide_eq_true_eq, Int.ofNat_lt, Int.ofNat_le, if_true, if_false, Int.natCast_nonneg, decide_true, decide_false, Bool.not_true, Bool.not_false, Bool.false_eq_true, Bool.not_eq_true, Bool.true_and, Bool.and_true, Bool.false_and, Bool.and_false, spec_Promote.J0_eq, hnum, hc, htk, hin, e', htl]
-- spec_l2Same
theorem spec_l2Same.loop {k : Nat} {a b : List Int} (hl : a.length = b.length) (ha : a.length ≤ 1048576) : ∀ (m j i : Nat), i + m = a.length → m < j → spec_l2Same.L0 k j i a b = some (decide (a.drop i = b.drop i))
  | m, 0, i, _, hj => by omega
  | 0, j + 1, i, hi, _ => by
    rw [spec_l2Same.L0_eq]
    have e : i = a.length := by omega
    subst e
    simp [hl]
  | m + 1, j + 1, i, hi, hj => by
    rw [spec_l2Same.L0_eq]
    have h1 : i < a.length := by omega
    have h2 : i < b.length := by omega
    have ih := spec_l2Same.loop (k := k) hl ha m j (i + 1) (by omega) (by omega)
    rw [Int.natCast_succ] at ih
    rw [Pu.drop_cons h1 0, Pu.drop_cons h2 0]
    by_cases e : a.getD i 0 = b.getD i 0 <;> simp (disch := omega) only [p_test, p_lt, p_le, p_ltN, p_len, p_ofN, p_nat, p_rd, p_wrap, p_add, p_no, p_eq, Pu.w64, Int.toNat_natCast, decide_eq_true_eq, Int.ofNat_lt, h1, h2, if_true, Int.natCast_nonneg, decide_true, ih, e, List.cons.injEq, true_and, false_and, decide_false, Bool.not_true, Bool.not_false, if_false, Bool.false_eq_true]
theorem spec_l2Same.is {k : Nat} {a b : List Int} (hk : 4194304 + 1 ≤ k) (ha : a.length ≤ 1048576) : spec_l2Same k a b = some (decide (a = b)) := by
  obtain ⟨k, rfl⟩ : ∃ k', k = k' + 1 := ⟨k - 1, by omega⟩
  rw [spec_l2Same.eq]
  by_cases hl : a.length = b.length
  · have h := spec_l2Same.loop (k := k) hl ha a.length k 0 (by omega) (by omega)
    rw [Int.natCast_zero] at h
    simp only [List.drop_zero] at h
    have hl' : (a.length : Int) = b.length := by omega
    simp only [p_test, p_no, p_eq, p_ofN, p_len, hl', decide_true, Bool.not_true, Bool.false_eq_true, if_false, h]
  · have hne : a ≠ b := fun e => hl (by rw [e])
    have hl' : ¬ (a.length : Int) = b.length := by omega
    simp [hl', hne]
-- spec_EqualTableau
theorem spec_EqualTableau.loop {k : Nat} {p q : List Int} {a b : List (List Int)} (hk : 4194304 + 1 ≤ k) (hl : a.length = b.length) (ha : a.length ≤ 1048576) (hr : ∀ x ∈ a, x.length ≤ 1048576) : ∀ (m j i : Nat), i + m = a.length → m < j → spec_EqualTableau.L1 k j i p a q b = some (decide (a.drop i = b.drop i))
  | m, 0, i, _, hj => by omega
  | 0, j + 1, i, hi, _ => by
    rw [spec_EqualTableau.L1_eq]
    have e : i = a.length := by omega
    subst e
    simp [hl]
  | m + 1, j + 1, i, hi, hj => by
    rw [spec_EqualTableau.L1_eq]
    have h1 : i < a.length := by omega
    have h2 : i < b.length := by omega
    have ih := spec_EqualTableau.loop (k := k) (p := p) (q := q) hk hl ha hr m j (i + 1) (by omega) (by omega)
    rw [Int.natCast_succ] at ih
    have hx : (a.getD i []).length ≤ 1048576 := by rw [Pu.getD_lt h1 []]; exact hr _ (List.getElem_mem h1)
    have hs := spec_l2Same.is (k := k) (b := b.getD i []) hk hx
    rw [Pu.drop_cons h1 [], Pu.drop_cons h2 []]
    by_cases e : a.getD i [] = b.getD i []
    · rw [e] at hs
      simp (disch := omega) only [↓p_test, p_lt, p_le, p_ltN, p_leN, p_eqN, p_len, p_ofN, p_nat, p_rd, p_set, p_app, p_take, p_drop, p_rep, p_wrap, p_add, p_sub, p_no, p_eq, p_eqB, p_eqP, p_bnd_some, Pu.w64, Int.toNat_natCast, decide_eq_true_eq, Int.ofNat_lt, Int.ofNat_le, if_true, if_false, Int.natCast_nonneg, decide_true, decide_false, Bool.not_true, Bool.not_false, Bool.false_eq_true, Bool.not_eq_true, Bool.true_and, Bool.and_true, Bool.false_and, Bool.and_false, h1, h2, hs, ih, e, List.cons.injEq, true_and, false_and, eq_self]
    · simp (disch := omega) only [↓p_test, p_lt, p_le, p_ltN, p_leN, p_eqN, p_len, p_ofN, p_nat, p_rd, p_set, p_app, p_take, p_drop, p_rep, p_wrap, p_add, p_sub, p_no, p_eq, p_eqB, p_eqP, p_bnd_some, Pu.w64, Int.toNat_natCast, decide_eq_true_eq, Int.ofNat_lt, Int.ofNat_le, if_true, if_false, Int.natCast_nonneg, decide_true, decide_false, Bool.not_true, Bool.not_false, Bool.false_eq_true, Bool.not_eq_true, Bool.true_and, Bool.and_true, Bool.false_and, Bool.and_false, h1, h2, hs, ih, e, List.cons.injEq, true_and, false_and]
theorem spec_EqualTableau.is {k : Nat} {a b : List Int × List (List Int)} (hk : 4194304 + 2 ≤ k) (h1 : a.1.length ≤ 1048576) (ha : a.2.length ≤ 1048576) (hr : ∀ x ∈ a.2, x.length ≤ 1048576) : spec_EqualTableau k a b = some (decide (a = b)) := by
  obtain ⟨k, rfl⟩ : ∃ k', k = k' + 1 := ⟨k - 1, by omega⟩
  obtain ⟨a1, a2⟩ := a
  obtain ⟨b1, b2⟩ := b
  have hs := spec_l2Same.is (k := k) (a := a1) (b := b1) (by omega) h1
  rw [spec_EqualTableau.eq, hs, p_bnd_some, spec_EqualTableau.J0_eq]
  by_cases e1 : a1 = b1
  · subst e1
    by_cases hl : a2.length = b2.length
    · have h := spec_EqualTableau.loop (k := k) (p := a1) (q := a1) (a := a2) (b := b2) (by omega) hl ha hr a2.length k 0 (by omega) (by simp only at ha; omega)
      rw [Int.natCast_zero] at h
      simp only [List.drop_zero] at h
      have hl' : (a2.length : Int) = b2.length := by omega
      simp only [↓p_test, p_lt, p_le, p_ltN, p_leN, p_eqN, p_len, p_ofN, p_nat, p_rd, p_set, p_app, p_take, p_drop, p_rep, p_wrap, p_add, p_sub, p_no, p_eq, p_eqB, p_eqP, p_bnd_some, Pu.w64, Int.toNat_natCast, decide_eq_true_eq, Int.ofNat_lt, Int.ofNat_le, if_true, if_false, Int.natCast_nonneg, decide_true, decide_false, Bool.not_true, Bool.not_false, Bool.false_eq_true, Bool.not_eq_true, Bool.true_and, Bool.and_true, Bool.false_and, Bool.and_false, hl', h, Prod.mk.injEq, true_and, eq_self]
    · have hne : a2 ≠ b2 := fun e => hl (by rw [e])
      have hl' : ¬ (a2.length : Int) = b2.length := by omega
      simp [hl', hne]
  · simp [e1]
-- spec_l15Orbit
theorem spec_l15Orbit.loop {k : Nat} {t : Pu.Tab} (hk : 4194304 + 100 ≤ k) (ht : Pu.TabOK t) : ∀ (m j : Nat) (cur : Pu.Tab) (acc : List Pu.Tab), Pu.TabOK cur → acc.length + m ≤ 1000000000 → m < j → (∃ d, 1 ≤ d ∧ d ≤ m ∧ Pu.iter d cur = t) → spec_l15Orbit.L0 k j (acc ++ [cur]) t.1 t.2 = some (Pu.orbGo m t cur (acc ++ [cur]))
  | m, 0, cur, acc, _, _, hj, _ => by omega
  | 0, j + 1, cur, acc, _, _, _, hd => by obtain ⟨d, h1, h2, _⟩ := hd; omega
  | m + 1, j + 1, cur, acc, hc, hl, hj, hd => by
    have hp := spec_Promote.is (k := k) (t := cur) (by omega) hc.1 hc.2.1 hc.2.2
    have hpo := Pu.promote_ok (t := cur)
    have he := spec_EqualTableau.is (k := k) (a := Pu.prom cur) (b := t) (by omega) hpo.1 hpo.2.1 hpo.2.2
    have hlen : (acc ++ [cur]).length = acc.length + 1 := by simp
    have hget : (acc ++ [cur]).getD acc.length ([], []) = cur := by simp
    have hlt : acc.length < acc.length + 1 := by omega
    have e1 : ((acc.length + 1 : Nat) : Int) - 1 = (acc.length : Int) := by omega
    have hap : (acc ++ [cur] ++ [Pu.prom cur]).length ≤ 1099511627776 := by simp; omega
    rw [spec_l15Orbit.L0_eq]
    unfold Pu.orbGo
    have e2 : (((Pu.promote cur).1.1, (Pu.promote cur).1.2) : Pu.Tab) = Pu.prom cur := rfl
    have e3 : ((cur.1, cur.2) : Pu.Tab) = cur := rfl
    have e4 : ((t.1, t.2) : Pu.Tab) = t := rfl
    simp (disch := omega) only [↓p_test, p_lt, p_le, p_ltN, p_leN, p_eqN, p_len, p_ofN, p_nat, p_rd, p_set, p_app, p_take, p_drop, p_rep, p_wrap, p_add, p_sub, p_no, p_eq, p_eqB, p_eqP, p_bnd_some, Pu.w64, Int.toNat_natCast, decide_eq_true_eq, Int.ofNat_lt, Int.ofNat_le, if_true, if_false, Int.natCast_nonneg, decide_true, decide_false, Bool.not_true, Bool.not_false, Bool.false_eq_true, Bool.not_eq_true, Bool.true_and, Bool.and_true, Bool.false_and, Bool.and_false, hlen, e1, hget, hlt, hp, e2, e3, e4, he]
    by_cases c : Pu.prom cur = t
    · rw [if_pos c, if_pos c]
    · have ih := spec_l15Orbit.loop hk ht m j (Pu.prom cur) (acc ++ [cur]) hpo (by rw [hlen]; omega) (by omega) (by
        obtain ⟨d, h1, h2, h3⟩ := hd
        cases d with
        | zero => omega
        | succ d =>
          have h3 : Pu.iter d (Pu.prom cur) = t := h3
          refine ⟨d, ?_, by omega, h3⟩
          cases d with
          | zero => exact absurd h3 c
          | succ d => omega)
      rw [if_neg c, if_neg c, if_pos hap, ih]
theorem spec_l15Orbit.is {k m : Nat} {t : Pu.Tab} (hk : 4194304 + 110 + m ≤ k) (ht : Pu.TabOK t) (hm : m ≤ 1000000000) (hd : ∃ d, 1 ≤ d ∧ d ≤ m ∧ Pu.iter d t = t) : spec_l15Orbit k t = some (Pu.orbGo m t t [t]) := by
  obtain ⟨k, rfl⟩ : ∃ k', k = k' + 1 := ⟨k - 1, by omega⟩
  have hc := spec_l5Copy.is (k := k) (t := t) (by omega) ht.1 ht.2.1 ht.2.2
  have hl := spec_l15Orbit.loop (k := k) (by omega) ht m k t [] ht (by simpa using hm) (by omega) hd
  rw [spec_l15Orbit.eq, show ((t.1, t.2) : Pu.Tab) = t from rfl, hc, p_bnd_some]
  exact hl
-- laws_heldIntS
theorem laws_heldIntS.loop {k : Nat} {a : List Int} (ha : a.length ≤ 1048576) : ∀ (m j i : Nat) (q : Int), i + m = a.length → m < j → 0 ≤ q → q + m ≤ 4000000000000 → laws_heldIntS.L0 k j q i a = some (Pu.held (a.drop i) q)
  | m, 0, i, q, _, hj, _, _ => by omega
  | 0, j + 1, i, q, hi, _, _, _ => by
    rw [laws_heldIntS.L0_eq]
    have e : i = a.length := by omega
    subst e
    simp [Pu.held]
  | m + 1, j + 1, i, q, hi, hj, hq, hq2 => by
    rw [laws_heldIntS.L0_eq]
    have h1 : i < a.length := by omega
    have ih := laws_heldIntS.loop (k := k) ha m j (i + 1) (q + 1) (by omega) (by omega) (by omega) (by omega)
    rw [Int.natCast_succ] at ih
    rw [Pu.drop_cons h1 0]
    simp (disch := omega) only [p_test, p_lt, p_le, p_ltN, p_len, p_ofN, p_nat, p_rd, p_wrap, p_add, p_no, p_eq, Pu.w64, Int.toNat_natCast, decide_eq_true_eq, Int.ofNat_lt, h1, if_true, Int.natCast_nonneg, decide_true, Pu.held, ih]
    by_cases e : a.getD i 0 = q <;> simp only [e, decide_true, decide_false, Bool.not_false, Bool.not_true, if_true, if_false, Bool.false_eq_true]
theorem laws_heldIntS.is {k : Nat} {a : List Int} {q : Int} (hk : 4194304 + 1 ≤ k) (ha : a.length ≤ 1048576) (hq : 0 ≤ q) (hq2 : q + a.length ≤ 4000000000000) : laws_heldIntS k a q = some (Pu.held a q) := by
  obtain ⟨k, rfl⟩ : ∃ k', k = k' + 1 := ⟨k - 1, by omega⟩
  rw [laws_heldIntS.eq]
  have h := laws_heldIntS.loop (k := k) ha a.length k 0 q (by omega) (by omega) hq hq2
  rw [Int.natCast_zero] at h
  exact h
-- laws_heldIntSS
theorem laws_heldIntSS.loop {k : Nat} {a : List (List Int)} (hk : 4194304 + 1 ≤ k) (ha : a.length ≤ 1048576) (hr : ∀ x ∈ a, x.length ≤ 1048576) : ∀ (m j i : Nat) (q : Int), i + m = a.length → m < j → 0 ≤ q → q + Pu.size2 (a.drop i) ≤ 4000000000000 → laws_heldIntSS.L0 k j q i a = some (Pu.held2 (a.drop i) q)
  | m, 0, i, q, _, hj, _, _ => by omega
  | 0, j + 1, i, q, hi, _, _, _ => by
    rw [laws_heldIntSS.L0_eq]
    have e : i = a.length := by omega
    subst e
    simp [Pu.held2]
  | m + 1, j + 1, i, q, hi, hj, hq, hq2 => by
    rw [laws_heldIntSS.L0_eq]
    have h1 : i < a.length := by omega
    rw [Pu.drop_cons h1 []] at hq2 ⊢
    simp only [Pu.size2] at hq2
    have hx := hr a[i] (List.getElem_mem h1)
    rw [← Pu.getD_lt h1 []] at hx
    have hh := laws_heldIntS.is (k := k) (a := a.getD i []) (q := q) (by omega) hx hq (by omega)
    simp (disch := omega) only [p_test, p_lt, p_le, p_ltN, p_len, p_ofN, p_nat, p_rd, p_wrap, p_add, p_no, p_eq, Pu.w64, Int.toNat_natCast, decide_eq_true_eq, Int.ofNat_lt, h1, if_true, Int.natCast_nonneg, decide_true, Pu.held2, hh, p_bnd_some]
    by_cases e : Pu.held (a.getD i []) q < 0
    · simp only [e, if_true]
    · have hle := Pu.held_le (a.getD i []) q hq
      have ih := laws_heldIntSS.loop (k := k) hk ha hr m j (i + 1) (Pu.held (a.getD i []) q) (by omega) (by omega) (by omega) (by omega)
      rw [Int.natCast_succ] at ih
      simp only [e, if_false, ih]
theorem laws_heldIntSS.is {k : Nat} {a : List (List Int)} {q : Int} (hk : 4194304 + 2 ≤ k) (ha : a.length ≤ 1048576) (hr : ∀ x ∈ a, x.length ≤ 1048576) (hq : 0 ≤ q) (hq2 : q + Pu.size2 a ≤ 4000000000000) : laws_heldIntSS k a q = some (Pu.held2 a q) := by
  obtain ⟨k, rfl⟩ : ∃ k', k = k' + 1 := ⟨k - 1, by omega⟩
  rw [laws_heldIntSS.eq]
  have h := laws_heldIntSS.loop (k := k) (by omega) ha hr a.length k 0 q (by omega) (by omega) hq hq2
  rw [Int.natCast_zero] at h
  exact h
-- laws_heldTableau
theorem laws_heldTableau.is {k : Nat} {a : List Int × List (List Int)} {q : Int} (hk : 4194304 + 3 ≤ k) (h1 : a.1.length ≤ 1048576) (ha : a.2.length ≤ 1048576) (hr : ∀ x ∈ a.2, x.length ≤ 1048576) (hq : 0 ≤ q) (hq2 : q + a.1.length + Pu.size2 a.2 ≤ 4000000000000) :
    laws_heldTableau k a q = some (Pu.held2 (a.1 :: a.2) q) := by
  obtain ⟨k, rfl⟩ : ∃ k', k = k' + 1 := ⟨k - 1, by omega⟩
  rw [laws_heldTableau.eq, laws_heldIntS.is (by omega) h1 hq (by omega), p_bnd_some]
  simp only [Pu.held2, p_test, p_lt, decide_eq_true_eq]
  by_cases e : Pu.held a.1 q < 0
  · simp only [e, if_true]
  · have hle := Pu.held_le a.1 q hq
    simp only [e, if_false]
    rw [laws_heldIntSS.is (by omega) ha hr (by omega) (by omega), p_bnd_some]
    by_cases e2 : Pu.held2 a.2 (Pu.held a.1 q) < 0
    · rw [if_pos e2]
      congr 1
      exact (Pu.held2_neg _ _ (by omega) e2).symm
    · rw [if_neg e2]
-- laws_FnExactDemote
theorem laws_FnExactDemote.at {k m : Nat} {t : Pu.Tab} (hk : 4194304 + 130 + m ≤ k) (hm : m ≤ 1000000000) (hd : (Pu.isPlain t && Pu.isStd t) = true → ∃ d, 1 ≤ d ∧ d ≤ m ∧ Pu.iter d t = t) (h1 : t.1.length ≤ maxLen) (h2 : t.2.length ≤ maxLen) (h3 : ∀ r ∈ t.2, r.length ≤ maxLen) : laws_FnExactDemote (k + 2) t = some true := by
  rw [laws_FnExactDemote.eq]
  obtain ⟨r, hr0, hr1⟩ := laws_szTableau.is (k := k + 1) (a := t) (b := 1048576) (by omega) h1 h2 h3 (by omega) (by omega)
  rw [show ((t.1, t.2) : Pu.Tab) = t from rfl, hr0, p_bnd_some]
  by_cases c : r < 0
  · simp [c]
  · obtain ⟨s0, s1, s2, s3⟩ := hr1 (by omega)
    have ht : Pu.TabOK t := ⟨by omega, by omega, fun y hy => by have := s3 y hy; omega⟩
    have hto := laws_toTableau.is (k := k + 1) (a := t) (by omega) ht.1 ht.2.1 ht.2.2
    have hpl := spec_l9Plain.is (k := k) (t := t) (by omega) ht.1 ht.2.1 ht.2.2
    have hst := spec_IsStandard.is (k := k) (t := t) (by omega) ht.1 ht.2.1 ht.2.2
    have hs := Pu.size2_lim ht.2.1 ht.2.2
    have hmk := laws_markTableau_wwi.is (k := k + 1) (a := t.1) (b := t.2) (q := 1) (by omega) ht.1 ht.2.1 ht.2.2 (by omega) (by omega)
    have he := laws_eqTableau.is (k := k + 1) (a := t) (b := t) (by omega) ht.1 ht.2.1 ht.2.2
    have n1 : ¬ (1 + (t.1.length : Int) + Pu.size2 t.2 < 0) := by omega
    -- what holds of the value that comes back
    have key : ∀ (a : List Int) (b : List (List Int)), Pu.TabOK (a, b) → laws_eqTableau (k + 1) (a, b) (a, b) = some true ∧ laws_markTableau_wwi (k + 1) 1 a b = some ((1 : Int) + a.length + Pu.size2 b, (Pu.mark a 1, Pu.mark2 b (1 + a.length))) ∧ laws_heldTableau (k + 1) (Pu.mark a 1, Pu.mark2 b (1 + a.length)) 1 = some ((1 : Int) + a.length + Pu.size2 b) ∧ ¬ ((1 : Int) + a.length + Pu.size2 b < 0) := by
      intro a b hg
      have g1 : a.length ≤ 1048576 := hg.1
      have hgs : Pu.size2 b ≤ 1099511627776 := Pu.size2_lim hg.2.1 hg.2.2
      have hhg := laws_heldTableau.is (k := k + 1) (a := (Pu.mark a 1, Pu.mark2 b (1 + a.length))) (q := 1) (by omega) (by simp only [Pu.mark_len]; exact hg.1) (by simp only [Pu.mark2_len]; exact hg.2.1) (Pu.mark2_mem hg.2.2) (by omega)
        (by simp only [Pu.mark_len, Pu.size2_mark]; omega)
      have hv : Pu.held2 (Pu.mark a 1 :: Pu.mark2 b (1 + a.length)) 1 = (1 : Int) + a.length + Pu.size2 b := by
        simp only [Pu.held2]
        rw [Pu.held_mark, if_neg (by omega), Pu.held2_mark _ _ (by omega)]
      simp only [hv] at hhg
      have he := laws_eqTableau.is (k := k + 1) (a := (a, b)) (b := (a, b)) (by omega) hg.1 hg.2.1 hg.2.2
      rw [decide_eq_true rfl] at he
      exact ⟨he, laws_markTableau_wwi.is (by omega) hg.1 hg.2.1 hg.2.2 (by omega) (by omega), hhg, by omega⟩
    cases hb : (Pu.isPlain t && Pu.isStd t) with
    | false =>
      have him := impl_Demote.no (k := k + 1) (t := t) (by omega) ht hb
      obtain ⟨k1, k2, k3, k4⟩ := key [] [] Pu.TabOK.nil
      cases hp : Pu.isPlain t with
      | false =>
        rw [hp] at hpl
        simp only [↓p_test, p_lt, p_le, p_ltN, p_leN, p_eqN, p_len, p_ofN, p_nat, p_rd, p_set, p_app, p_take, p_drop, p_rep, p_wrap, p_add, p_sub, p_no, p_eq, p_eqB, p_eqP, p_bnd_some, Pu.w64, Int.toNat_natCast, decide_eq_true_eq, Int.ofNat_lt, Int.ofNat_le, if_true, if_false, Int.natCast_nonneg, decide_true, decide_false, Bool.not_true, Bool.not_false, Bool.false_eq_true, Bool.not_eq_true, Bool.true_and, Bool.and_true, Bool.false_and, Bool.and_false, c, hto, hpl, him, k1, k2, k3, k4, laws_FnExactDemote.J0_eq, laws_FnExactDemote.J2_eq, laws_FnExactDemote.J4_eq, he, hmk, n1, Prod.eta, beq_self_eq_true]
      | true =>
        rw [hp] at hpl hb
        rw [Bool.true_and] at hb
        rw [hb] at hst
        simp only [↓p_test, p_lt, p_le, p_ltN, p_leN, p_eqN, p_len, p_ofN, p_nat, p_rd, p_set, p_app, p_take, p_drop, p_rep, p_wrap, p_add, p_sub, p_no, p_eq, p_eqB, p_eqP, p_bnd_some, Pu.w64, Int.toNat_natCast, decide_eq_true_eq, Int.ofNat_lt, Int.ofNat_le, if_true, if_false, Int.natCast_nonneg, decide_true, decide_false, Bool.not_true, Bool.not_false, Bool.false_eq_true, Bool.not_eq_true, Bool.true_and, Bool.and_true, Bool.false_and, Bool.and_false, c, hto, hpl, hst, him, k1, k2, k3, k4, laws_FnExactDemote.J0_eq, laws_FnExactDemote.J2_eq, laws_FnExactDemote.J4_eq, he, hmk, n1, Prod.eta, beq_self_eq_true]
    | true =>
      have hd' := hd hb
      have hb' := hb
      simp only [Bool.and_eq_true] at hb'
      obtain ⟨hp, hs'⟩ := hb'
      rw [hp] at hpl
      rw [hs'] at hst
      have ho := spec_l15Orbit.is (k := k) (m := m) (by omega) ht hm hd'
      obtain ⟨l, u, e1, e2, e3⟩ := Pu.orbit_end hp hs' hd'
      have hll := Pu.orbGo_len m t t [t]
      rw [e1] at ho hll
      have hul : (l ++ [u]).length = l.length + 1 := by simp
      rw [hul] at hll
      simp only [List.length_singleton] at hll
      have him : impl_Demote (k + 1) t = some (u, true) := by
        rcases e3 with ⟨g1, g2⟩ | ⟨g1, g2⟩
        · rw [← g2]; exact impl_Demote.undo (by omega) g1
        · rw [g2]; exact impl_Demote.zero (by omega) hp hs' g1
      obtain ⟨ua, ub⟩ := u
      obtain ⟨k1, k2, k3, k4⟩ := key ua ub e2
      have i1 : ((l.length + 1 : Nat) : Int) - 1 = (l.length : Int) := by omega
      have i2 : l.length < l.length + 1 := by omega
      have hget : (l ++ [(ua, ub)]).getD l.length ([], []) = (ua, ub) := by simp
      have hix : D.nat (D.wrap .i64 (D.sub (D.ofN (D.len (l ++ [(ua, ub)]))) 1)) = l.length := by
        simp (disch := omega) only [p_nat, p_wrap, p_sub, p_ofN, p_len, hul, i1, Pu.w64, Int.toNat_natCast]
      have hi0 : (0 : Int) ≤ D.wrap .i64 (D.sub (D.ofN (D.len (l ++ [(ua, ub)]))) 1) := by
        simp (disch := omega) only [p_wrap, p_sub, p_ofN, p_len, hul, i1, Pu.w64]; omega
      have hlt : l.length < (l ++ [(ua, ub)]).length := by omega
      have hE : D.rd (l ++ [(ua, ub)]) l.length ([], []) = (ua, ub) := hget
      have he' := he
      rw [decide_eq_true rfl] at he'
      have g1 : ∀ {x y v : Option Bool}, x = v → D.test (D.ltN l.length (D.len (l ++ [(ua, ub)]))) x y = v := fun h => Pu.tG hlt h
      have hJ4 : laws_FnExactDemote.J4 k ((1 : Int) + ua.length + Pu.size2 ub) (Pu.mark ua 1) (Pu.mark2 ub (1 + ua.length)) = some true := by
        rw [laws_FnExactDemote.J4_eq]
        exact Pu.bE k3 (Pu.tX k4 (Pu.tE rfl rfl))
      have hJ5 : laws_FnExactDemote.J5 k true l.length l.length t.1 t.2 (l ++ [(ua, ub)]) ua ub = some true := by
        rw [laws_FnExactDemote.J5_eq]
        refine Pu.bE k2 (Pu.bE k3 (Pu.tX k4 (Pu.tE rfl (Pu.bE hto (Pu.bE him (g1 (g1 ?_)))))))
        rw [hE]
        exact Pu.bE k1 (Pu.tN (Pu.tB hJ4))
      have hJ3 : laws_FnExactDemote.J3 k true true l.length l.length t.1 t.2 (l ++ [(ua, ub)]) t.1 t.2 ua ub = some true := by
        rw [laws_FnExactDemote.J3_eq]
        refine Pu.bE hto (Pu.bE he' (Pu.tN (Pu.bE hmk (Pu.tX n1 (g1 (g1 ?_))))))
        rw [hE]
        exact Pu.bE k1 (Pu.tN (Pu.tB hJ5))
      have hJ1 : ∀ x0 x1 x2 x3 x4 x5, laws_FnExactDemote.J1 k x0 x1 x2 x3 x4 x5 t.1 t.2 t.1 t.2 [] [] = some true := by
        intro x0 x1 x2 x3 x4 x5
        rw [laws_FnExactDemote.J1_eq]
        refine Pu.bE ho ?_
        rw [hix]
        refine Pu.tG hi0 (g1 (g1 (Pu.bE hto (Pu.bE him (g1 (g1 ?_))))))
        rw [hE]
        exact Pu.bE k1 (Pu.tN (Pu.tB hJ3))
      exact Pu.tX c (Pu.bE hto (Pu.bE hpl (Pu.tN (Pu.bE hst (Pu.tN (hJ1 _ _ _ _ _ _))))))
theorem laws_FnExactDemote.is {t : Pu.Tab} (h1 : t.1.length ≤ maxLen) (h2 : t.2.length ≤ maxLen) (h3 : ∀ r ∈ t.2, r.length ≤ maxLen) : ∃ k, laws_FnExactDemote k t = some true := by
  by_cases c : (Pu.isPlain t && Pu.isStd t) = true
  · have c' := c
    simp only [Bool.and_eq_true] at c'
    obtain ⟨d, d1, d2, d3⟩ := Pu.std_back c'.1 c'.2
    exact ⟨_, laws_FnExactDemote.at (k := 4194304 + 130 + d) (Nat.le_refl _) d2 (fun _ => ⟨d, d1, Nat.le_refl _, d3⟩) h1 h2 h3⟩
  · exact ⟨_, laws_FnExactDemote.at (k := 4194304 + 130 + 0) (Nat.le_refl _) (by omega) (fun h => absurd h c) h1 h2 h3⟩
end Go.Am.Seat
