/- What the functions make of data, as plain words; each holds for all data within the bounds that it names. -/
import Derived.Test.YtcpijhganagenaaEqsRemoveCell
import Derived.Test.YtcpijhganagenaaPu
set_option linter.unusedSimpArgs false
set_option linter.unusedVariables false
set_option linter.unnecessarySimpa false
set_option linter.unusedSectionVars false
namespace Go.Am.Seat
open Go Go.Am Go.Am.Pu
attribute [local instance] D.real
set_option linter.unusedSimpArgs false
set_option linter.unusedVariables false
set_option maxRecDepth 4000
-- laws_szIntS
theorem laws_szIntS.is {k : Nat} {a : List Int} {b : Int} (hk : 4194304 + 1 ≤ k) (ha : a.length ≤ maxLen) (h1 : 0 ≤ b) (h2 : b ≤ 1048576) : laws_szIntS k a b = some (if b - a.length < 0 then -1 else b - a.length) := by
  obtain ⟨k, rfl⟩ : ∃ k', k = k' + 1 := ⟨k - 1, by omega⟩
  have ha : a.length ≤ 9223372036854775807 := ha
  rw [laws_szIntS.eq]
  simp (disch := omega) only [p_test, p_lt, p_wrap, p_sub, p_ofN, p_len, decide_eq_true_eq, Pu.w64]
  split <;> rfl
-- laws_szIntSS
theorem laws_szIntSS.loop {k : Nat} {a : List (List Int)} (hk : 4194304 + 1 ≤ k) (ha : a.length ≤ 1048576) (hr : ∀ x ∈ a, x.length ≤ maxLen) : ∀ (m j i : Nat) (b : Int), i + m = a.length → m < j → 0 ≤ b → b ≤ 1048576 →
    ∃ r, laws_szIntSS.L0 k j b i a = some r ∧ (0 ≤ r → r ≤ b ∧ ∀ (q : Nat) x, i ≤ q → a[q]? = some x → (x.length : Int) ≤ b)
  | m, 0, i, b, _, hj, _, _ => by omega
  | 0, j + 1, i, b, hi, _, _, _ => by
    rw [laws_szIntSS.L0_eq]
    have e : i = a.length := by omega
    subst e
    exact ⟨b, by simp, fun _ => ⟨Int.le_refl _, fun q x h1 h2 => by have := (List.getElem?_eq_some_iff.1 h2).1; omega⟩⟩
  | m + 1, j + 1, i, b, hi, hj, hb, hb2 => by
    rw [laws_szIntSS.L0_eq]
    have hlt : i < a.length := by omega
    have hx := hr a[i] (List.getElem_mem hlt)
    have hx' : a[i].length ≤ 9223372036854775807 := hx
    have h1 := laws_szIntS.is (k := k) (a := a[i]) (b := b) (by omega) hx hb hb2
    by_cases hc : b - a[i].length < 0
    · rw [if_pos hc] at h1
      exact ⟨-1, by simp [hlt, h1], fun h => by omega⟩
    · rw [if_neg hc] at h1
      obtain ⟨r, h2, h3⟩ := laws_szIntSS.loop hk ha hr m j (i + 1) (b - a[i].length) (by omega) (by omega) (by omega) (by omega)
      rw [Int.natCast_succ] at h2
      refine ⟨r, by simp (disch := omega) [hlt, h1, hc, Pu.w64, h2], fun h0 => ?_⟩
      obtain ⟨h4, h5⟩ := h3 h0
      refine ⟨by omega, fun q x h6 h7 => ?_⟩
      by_cases e : q = i
      · subst e
        rw [List.getElem?_eq_getElem hlt] at h7
        injection h7 with h7
        subst h7
        omega
      · have := h5 q x (by omega) h7
        omega
theorem laws_szIntSS.is {k : Nat} {a : List (List Int)} {b : Int} (hk : 4194304 + 2 ≤ k) (ha : a.length ≤ maxLen) (hr : ∀ x ∈ a, x.length ≤ maxLen) (h1 : 0 ≤ b) (h2 : b ≤ 1048576) :
    ∃ r, laws_szIntSS k a b = some r ∧ (0 ≤ r → r ≤ b ∧ (a.length : Int) ≤ b ∧ ∀ x ∈ a, (x.length : Int) ≤ b) := by
  obtain ⟨k, rfl⟩ : ∃ k', k = k' + 1 := ⟨k - 1, by omega⟩
  have ha : a.length ≤ 9223372036854775807 := ha
  rw [laws_szIntSS.eq]
  by_cases hc : b - a.length < 0
  · exact ⟨-1, by simp (disch := omega) [Pu.w64, hc], fun h => by omega⟩
  · obtain ⟨r, h3, h4⟩ := laws_szIntSS.loop (k := k) (a := a) (by omega) (by omega) hr a.length k 0 (b - a.length) (by omega) (by omega) (by omega) (by omega)
    rw [Int.natCast_zero] at h3
    refine ⟨r, by simp (disch := omega) [Pu.w64, hc, h3], fun h0 => ?_⟩
    obtain ⟨h5, h6⟩ := h4 h0
    refine ⟨by omega, by omega, fun x hx => ?_⟩
    obtain ⟨q, hq⟩ := List.mem_iff_getElem?.1 hx
    have := h6 q x (by omega) hq
    omega
-- laws_szTableau
theorem laws_szTableau.is {k : Nat} {a : List Int × List (List Int)} {b : Int} (hk : 4194304 + 3 ≤ k) (ha : a.1.length ≤ maxLen) (ha2 : a.2.length ≤ maxLen) (hr : ∀ x ∈ a.2, x.length ≤ maxLen) (h1 : 0 ≤ b) (h2 : b ≤ 1048576) :
    ∃ r, laws_szTableau k a b = some r ∧ (0 ≤ r → r ≤ b ∧ (a.1.length : Int) ≤ b ∧ (a.2.length : Int) ≤ b ∧ ∀ x ∈ a.2, (x.length : Int) ≤ b) := by
  obtain ⟨k, rfl⟩ : ∃ k', k = k' + 1 := ⟨k - 1, by omega⟩
  rw [laws_szTableau.eq, laws_szIntS.is (by omega) ha h1 h2]
  by_cases hc : b - a.1.length < 0
  · exact ⟨-1, by simp [hc], fun h => by omega⟩
  · obtain ⟨r, h3, h4⟩ := laws_szIntSS.is (k := k) (a := a.2) (b := b - a.1.length) (by omega) ha2 hr (by omega) (by omega)
    by_cases hr0 : r < 0
    · exact ⟨-1, by simp [hc, h3, hr0], fun h => by omega⟩
    · refine ⟨r, by simp [hc, h3, hr0], fun h0 => ?_⟩
      obtain ⟨h5, h6, h7⟩ := h4 h0
      refine ⟨by omega, by omega, by omega, fun x hx => ?_⟩
      have := h7 x hx
      omega
-- laws_toIntS
theorem laws_toIntS.loop {k : Nat} {a : List Int} (ha : a.length ≤ 1048576) : ∀ (m j i : Nat), i + m = a.length → m < j → laws_toIntS.L0 k j i a (a.take i ++ List.replicate (a.length - i) 0) = some a
  | m, 0, i, _, hj => by omega
  | 0, j + 1, i, hi, _ => by
    rw [laws_toIntS.L0_eq]
    have e : i = a.length := by omega
    subst e
    simp
  | m + 1, j + 1, i, hi, hj => by
    rw [laws_toIntS.L0_eq]
    have hlt : i < a.length := by omega
    have ih := laws_toIntS.loop (k := k) ha m j (i + 1) (by omega) (by omega)
    rw [Int.natCast_succ] at ih
    have hl : i < (a.take i ++ List.replicate (a.length - i) (0 : Int)).length := by simp; omega
    have hf := Pu.fill_step hlt (0 : Int) 0
    simp (disch := omega) only [p_test, p_lt, p_le, p_ltN, p_len, p_ofN, p_nat, p_rd, p_set, p_wrap, p_add, Pu.w64, Int.toNat_natCast, decide_eq_true_eq, Int.ofNat_lt, hlt, hl, if_true, Int.natCast_nonneg, decide_true, hf, ih]
theorem laws_toIntS.is {k : Nat} {a : List Int} (hk : 4194304 + 1 ≤ k) (ha : a.length ≤ 1048576) : laws_toIntS k a = some a := by
  obtain ⟨k, rfl⟩ : ∃ k', k = k' + 1 := ⟨k - 1, by omega⟩
  rw [laws_toIntS.eq]
  have h := laws_toIntS.loop (k := k) ha a.length k 0 (by omega) (by omega)
  rw [Int.natCast_zero] at h
  simp only [List.take_zero, List.nil_append, Nat.sub_zero] at h
  have hl : a.length ≤ 1099511627776 := by omega
  simp [h, hl]
-- laws_toIntSS
theorem laws_toIntSS.loop {k : Nat} {a : List (List Int)} (hk : 4194304 + 1 ≤ k) (ha : a.length ≤ 1048576) (hr : ∀ x ∈ a, x.length ≤ 1048576) : ∀ (m j i : Nat), i + m = a.length → m < j → laws_toIntSS.L0 k j i a (a.take i ++ List.replicate (a.length - i) []) = some a
  | m, 0, i, _, hj => by omega
  | 0, j + 1, i, hi, _ => by
    rw [laws_toIntSS.L0_eq]
    have e : i = a.length := by omega
    subst e
    simp
  | m + 1, j + 1, i, hi, hj => by
    rw [laws_toIntSS.L0_eq]
    have hlt : i < a.length := by omega
    have ih := laws_toIntSS.loop (k := k) hk ha hr m j (i + 1) (by omega) (by omega)
    rw [Int.natCast_succ] at ih
    have hl : i < (a.take i ++ List.replicate (a.length - i) ([] : List Int)).length := by simp; omega
    have hf := Pu.fill_step hlt ([] : List Int) []
    have h1 := laws_toIntS.is (k := k) (a := a.getD i []) (by omega) (by rw [Pu.getD_lt hlt]; exact hr _ (List.getElem_mem hlt))
    simp (disch := omega) only [p_test, p_lt, p_le, p_ltN, p_len, p_ofN, p_nat, p_rd, p_set, p_wrap, p_add, Pu.w64, Int.toNat_natCast, decide_eq_true_eq, Int.ofNat_lt, hlt, hl, if_true, Int.natCast_nonneg, decide_true, h1, p_bnd_some, hf, ih]
theorem laws_toIntSS.is {k : Nat} {a : List (List Int)} (hk : 4194304 + 2 ≤ k) (ha : a.length ≤ 1048576) (hr : ∀ x ∈ a, x.length ≤ 1048576) : laws_toIntSS k a = some a := by
  obtain ⟨k, rfl⟩ : ∃ k', k = k' + 1 := ⟨k - 1, by omega⟩
  rw [laws_toIntSS.eq]
  have h := laws_toIntSS.loop (k := k) (by omega) ha hr a.length k 0 (by omega) (by omega)
  rw [Int.natCast_zero] at h
  simp only [List.take_zero, List.nil_append, Nat.sub_zero] at h
  have hl : a.length ≤ 1099511627776 := by omega
  simp [h, hl]
-- laws_toTableau
theorem laws_toTableau.is {k : Nat} {a : List Int × List (List Int)} (hk : 4194304 + 3 ≤ k) (h1 : a.1.length ≤ 1048576) (ha : a.2.length ≤ 1048576) (hr : ∀ x ∈ a.2, x.length ≤ 1048576) : laws_toTableau k a = some a := by
  obtain ⟨k, rfl⟩ : ∃ k', k = k' + 1 := ⟨k - 1, by omega⟩
  rw [laws_toTableau.eq, laws_toIntS.is (by omega) h1, p_bnd_some, laws_toIntSS.is (by omega) ha hr]
  rfl
-- spec_l1In
theorem spec_l1In.is {k : Nat} {x lo hi : Int} (hk : 1 ≤ k) : spec_l1In k x lo hi = some (Pu.within x lo hi) := by
  obtain ⟨k, rfl⟩ : ∃ k', k = k' + 1 := ⟨k - 1, by omega⟩
  rw [spec_l1In.eq]
  by_cases h : lo ≤ x <;> simp [Pu.within, h]
-- spec_IsPartition
theorem spec_IsPartition.loop {k : Nat} {p : List Int} (hk : 4194304 ≤ k) (hp : p.length ≤ 1048576) : ∀ (m j i : Nat) (s v : Int), i + m = p.length → m < j → (i = 0 → v = 9) → (0 < i → v = p.getD (i - 1) 0) → v ≤ 9 → 0 ≤ s → s ≤ 9 →
    spec_IsPartition.L0 k j s i p = some (Pu.partGo (p.drop i) v s)
  | m, 0, i, s, v, _, hj, _, _, _, _, _ => by omega
  | 0, j + 1, i, s, v, hi, _, _, _, _, _, _ => by
    rw [spec_IsPartition.L0_eq]
    have e : i = p.length := by omega
    subst e
    simp [Pu.partGo]
  | m + 1, j + 1, i, s, v, hi, hj, h0, h1, hv, hs, hs9 => by
    rw [spec_IsPartition.L0_eq]
    have hlt : i < p.length := by omega
    have hj1 : ∀ x : Int, x = p.getD i 0 → 1 ≤ x → x ≤ v → spec_IsPartition.J1 k j s i p = some (decide (s + x ≤ 9) && Pu.partGo (p.drop (i + 1)) x (s + x)) := by
      intro x hx hx1 hx2
      rw [spec_IsPartition.J1_eq]
      simp (disch := omega) only [↓p_test, p_lt, p_le, p_ltN, p_leN, p_eqN, p_len, p_ofN, p_nat, p_rd, p_set, p_app, p_take, p_drop, p_rep, p_wrap, p_add, p_sub, p_no, p_eq, p_eqB, p_eqP, p_bnd_some, Pu.w64, Int.toNat_natCast, decide_eq_true_eq, Int.ofNat_lt, Int.ofNat_le, if_true, if_false, Int.natCast_nonneg, decide_true, decide_false, Bool.not_true, Bool.not_false, Bool.false_eq_true, Bool.not_eq_true, Bool.true_and, Bool.and_true, Bool.false_and, Bool.and_false, hlt, ← hx]
      by_cases c : 9 < s + x
      · have : ¬ s + x ≤ 9 := by omega
        simp [c, this]
      · have c' : s + x ≤ 9 := by omega
        have ih := spec_IsPartition.loop hk hp m j (i + 1) (s + x) x (by omega) (by omega) (by omega) (by simp [hx]) (by omega) (by omega) c'
        rw [Int.natCast_succ] at ih
        simp [c, c', ih]
    rw [Pu.drop_cons hlt 0]
    simp (disch := omega) only [↓p_test, p_lt, p_le, p_ltN, p_leN, p_eqN, p_len, p_ofN, p_nat, p_rd, p_set, p_app, p_take, p_drop, p_rep, p_wrap, p_add, p_sub, p_no, p_eq, p_eqB, p_eqP, p_bnd_some, Pu.w64, Int.toNat_natCast, decide_eq_true_eq, Int.ofNat_lt, Int.ofNat_le, if_true, if_false, Int.natCast_nonneg, decide_true, decide_false, Bool.not_true, Bool.not_false, Bool.false_eq_true, Bool.not_eq_true, Bool.true_and, Bool.and_true, Bool.false_and, Bool.and_false, hlt, spec_l1In.is, Pu.partGo]
    generalize hx : p.getD i 0 = x at *
    unfold Pu.within
    by_cases c1 : 1 ≤ x
    · by_cases c2 : x ≤ v
      · have c3 : x ≤ 9 := by omega
        have hj := hj1 x rfl c1 c2
        by_cases hi0 : i = 0
        · have hpos : ¬ (0 : Int) < i := by omega
          simp (disch := omega) only [↓p_test, p_lt, p_le, p_ltN, p_leN, p_eqN, p_len, p_ofN, p_nat, p_rd, p_set, p_app, p_take, p_drop, p_rep, p_wrap, p_add, p_sub, p_no, p_eq, p_eqB, p_eqP, p_bnd_some, Pu.w64, Int.toNat_natCast, decide_eq_true_eq, Int.ofNat_lt, Int.ofNat_le, if_true, if_false, Int.natCast_nonneg, decide_true, decide_false, Bool.not_true, Bool.not_false, Bool.false_eq_true, Bool.not_eq_true, Bool.true_and, Bool.and_true, Bool.false_and, Bool.and_false, c1, c2, c3, hpos, hj]
        · have hv' := h1 (by omega)
          have e : ((i : Int) - 1) = ((i - 1 : Nat) : Int) := by omega
          have hlt' : i - 1 < p.length := by omega
          have hge : ¬ p.getD (i - 1) 0 < x := by rw [← hv']; omega
          have hpos : (0 : Int) < i := by omega
          simp (disch := omega) only [e, ↓p_test, p_lt, p_le, p_ltN, p_leN, p_eqN, p_len, p_ofN, p_nat, p_rd, p_set, p_app, p_take, p_drop, p_rep, p_wrap, p_add, p_sub, p_no, p_eq, p_eqB, p_eqP, p_bnd_some, Pu.w64, Int.toNat_natCast, decide_eq_true_eq, Int.ofNat_lt, Int.ofNat_le, if_true, if_false, Int.natCast_nonneg, decide_true, decide_false, Bool.not_true, Bool.not_false, Bool.false_eq_true, Bool.not_eq_true, Bool.true_and, Bool.and_true, Bool.false_and, Bool.and_false, hlt', c1, c2, c3, hj, hpos, hge]
      · simp only [c1, c2, ↓p_test, p_lt, p_le, p_ltN, p_leN, p_eqN, p_len, p_ofN, p_nat, p_rd, p_set, p_app, p_take, p_drop, p_rep, p_wrap, p_add, p_sub, p_no, p_eq, p_eqB, p_eqP, p_bnd_some, Pu.w64, Int.toNat_natCast, decide_eq_true_eq, Int.ofNat_lt, Int.ofNat_le, if_true, if_false, Int.natCast_nonneg, decide_true, decide_false, Bool.not_true, Bool.not_false, Bool.false_eq_true, Bool.not_eq_true, Bool.true_and, Bool.and_true, Bool.false_and, Bool.and_false]
        by_cases c3 : x ≤ 9
        · have hi0 : 0 < i := by
            rcases Nat.eq_zero_or_pos i with h | h
            · have := h0 h; omega
            · exact h
          have hv' := h1 hi0
          have e : ((i : Int) - 1) = ((i - 1 : Nat) : Int) := by omega
          have hlt' : i - 1 < p.length := by omega
          have hge : p.getD (i - 1) 0 < x := by rw [← hv']; omega
          have hpos : (0 : Int) < i := by omega
          simp (disch := omega) only [e, ↓p_test, p_lt, p_le, p_ltN, p_leN, p_eqN, p_len, p_ofN, p_nat, p_rd, p_set, p_app, p_take, p_drop, p_rep, p_wrap, p_add, p_sub, p_no, p_eq, p_eqB, p_eqP, p_bnd_some, Pu.w64, Int.toNat_natCast, decide_eq_true_eq, Int.ofNat_lt, Int.ofNat_le, if_true, if_false, Int.natCast_nonneg, decide_true, decide_false, Bool.not_true, Bool.not_false, Bool.false_eq_true, Bool.not_eq_true, Bool.true_and, Bool.and_true, Bool.false_and, Bool.and_false, hlt', c3, hpos, hge]
        · simp only [c3, ↓p_test, p_lt, p_le, p_ltN, p_leN, p_eqN, p_len, p_ofN, p_nat, p_rd, p_set, p_app, p_take, p_drop, p_rep, p_wrap, p_add, p_sub, p_no, p_eq, p_eqB, p_eqP, p_bnd_some, Pu.w64, Int.toNat_natCast, decide_eq_true_eq, Int.ofNat_lt, Int.ofNat_le, if_true, if_false, Int.natCast_nonneg, decide_true, decide_false, Bool.not_true, Bool.not_false, Bool.false_eq_true, Bool.not_eq_true, Bool.true_and, Bool.and_true, Bool.false_and, Bool.and_false]
    · simp only [c1, ↓p_test, p_lt, p_le, p_ltN, p_leN, p_eqN, p_len, p_ofN, p_nat, p_rd, p_set, p_app, p_take, p_drop, p_rep, p_wrap, p_add, p_sub, p_no, p_eq, p_eqB, p_eqP, p_bnd_some, Pu.w64, Int.toNat_natCast, decide_eq_true_eq, Int.ofNat_lt, Int.ofNat_le, if_true, if_false, Int.natCast_nonneg, decide_true, decide_false, Bool.not_true, Bool.not_false, Bool.false_eq_true, Bool.not_eq_true, Bool.true_and, Bool.and_true, Bool.false_and, Bool.and_false]
theorem spec_IsPartition.is {k : Nat} {p : List Int} (hk : 4194304 + 1 ≤ k) (hp : p.length ≤ 1048576) : spec_IsPartition k p = some (Pu.isPart p) := by
  obtain ⟨k, rfl⟩ : ∃ k', k = k' + 1 := ⟨k - 1, by omega⟩
  rw [spec_IsPartition.eq]
  exact spec_IsPartition.loop (k := k) (by omega) hp p.length k 0 0 9 (by omega) (by omega) (fun _ => rfl) (by omega) (by omega) (by omega) (by omega)
-- spec_l2At
theorem spec_l2At.is {k : Nat} {p : List Int} {i : Int} (hk : 1 ≤ k) : spec_l2At k p i = some (Pu.atI p i) := by
  obtain ⟨k, rfl⟩ : ∃ k', k = k' + 1 := ⟨k - 1, by omega⟩
  rw [spec_l2At.eq, spec_l2At.J0_eq]
  by_cases h1 : i < 0
  · simp only [↓p_test, p_lt, p_le, p_ltN, p_leN, p_eqN, p_len, p_ofN, p_nat, p_rd, p_set, p_app, p_take, p_drop, p_rep, p_wrap, p_add, p_sub, p_no, p_eq, p_eqB, p_eqP, p_bnd_some, Pu.w64, Int.toNat_natCast, decide_eq_true_eq, Int.ofNat_lt, Int.ofNat_le, if_true, if_false, Int.natCast_nonneg, decide_true, decide_false, Bool.not_true, Bool.not_false, Bool.false_eq_true, Bool.not_eq_true, Bool.true_and, Bool.and_true, Bool.false_and, Bool.and_false, h1, Pu.atI_neg h1]
  · by_cases h2 : (p.length : Int) ≤ i
    · simp only [↓p_test, p_lt, p_le, p_ltN, p_leN, p_eqN, p_len, p_ofN, p_nat, p_rd, p_set, p_app, p_take, p_drop, p_rep, p_wrap, p_add, p_sub, p_no, p_eq, p_eqB, p_eqP, p_bnd_some, Pu.w64, Int.toNat_natCast, decide_eq_true_eq, Int.ofNat_lt, Int.ofNat_le, if_true, if_false, Int.natCast_nonneg, decide_true, decide_false, Bool.not_true, Bool.not_false, Bool.false_eq_true, Bool.not_eq_true, Bool.true_and, Bool.and_true, Bool.false_and, Bool.and_false, h1, h2, Pu.atI_ge h2]
    · have h3 : 0 ≤ i := by omega
      have h4 : i.toNat < p.length := by omega
      simp only [↓p_test, p_lt, p_le, p_ltN, p_leN, p_eqN, p_len, p_ofN, p_nat, p_rd, p_set, p_app, p_take, p_drop, p_rep, p_wrap, p_add, p_sub, p_no, p_eq, p_eqB, p_eqP, p_bnd_some, Pu.w64, Int.toNat_natCast, decide_eq_true_eq, Int.ofNat_lt, Int.ofNat_le, if_true, if_false, Int.natCast_nonneg, decide_true, decide_false, Bool.not_true, Bool.not_false, Bool.false_eq_true, Bool.not_eq_true, Bool.true_and, Bool.and_true, Bool.false_and, Bool.and_false, h1, h2, h3, h4, Pu.atI]
-- spec_IsInside
theorem spec_IsInside.loop {k : Nat} {q p : List Int} (hq : q.length ≤ 1048576) (hl : q.length ≤ p.length) (hk : q.length < k) : spec_IsInside.L1 k k 0 q p = some ((List.range' 0 q.length).all fun i => decide (q.getD i 0 ≤ p.getD i 0)) := by
  have h := Pu.loop_all (fun j i => spec_IsInside.L1 k j (i : Int) q p) q.length (fun i => decide (q.getD i 0 ≤ p.getD i 0)) (some false) (some true)
    (fun j i hi => by
      have hi2 : i < p.length := by omega
      rw [spec_IsInside.L1_eq]
      simp (disch := omega) only [↓p_test, p_lt, p_le, p_ltN, p_leN, p_eqN, p_len, p_ofN, p_nat, p_rd, p_set, p_app, p_take, p_drop, p_rep, p_wrap, p_add, p_sub, p_no, p_eq, p_eqB, p_eqP, p_bnd_some, Pu.w64, Int.toNat_natCast, decide_eq_true_eq, Int.ofNat_lt, Int.ofNat_le, if_true, if_false, Int.natCast_nonneg, decide_true, decide_false, Bool.not_true, Bool.not_false, Bool.false_eq_true, Bool.not_eq_true, Bool.true_and, Bool.and_true, Bool.false_and, Bool.and_false, hi, hi2, Int.natCast_add, Int.natCast_one]
      by_cases c : q.getD i 0 ≤ p.getD i 0
      · have c' : ¬ p.getD i 0 < q.getD i 0 := by omega
        simp only [c, c', ↓p_test, p_lt, p_le, p_ltN, p_leN, p_eqN, p_len, p_ofN, p_nat, p_rd, p_set, p_app, p_take, p_drop, p_rep, p_wrap, p_add, p_sub, p_no, p_eq, p_eqB, p_eqP, p_bnd_some, Pu.w64, Int.toNat_natCast, decide_eq_true_eq, Int.ofNat_lt, Int.ofNat_le, if_true, if_false, Int.natCast_nonneg, decide_true, decide_false, Bool.not_true, Bool.not_false, Bool.false_eq_true, Bool.not_eq_true, Bool.true_and, Bool.and_true, Bool.false_and, Bool.and_false]
      · have c' : p.getD i 0 < q.getD i 0 := by omega
        simp only [c, c', ↓p_test, p_lt, p_le, p_ltN, p_leN, p_eqN, p_len, p_ofN, p_nat, p_rd, p_set, p_app, p_take, p_drop, p_rep, p_wrap, p_add, p_sub, p_no, p_eq, p_eqB, p_eqP, p_bnd_some, Pu.w64, Int.toNat_natCast, decide_eq_true_eq, Int.ofNat_lt, Int.ofNat_le, if_true, if_false, Int.natCast_nonneg, decide_true, decide_false, Bool.not_true, Bool.not_false, Bool.false_eq_true, Bool.not_eq_true, Bool.true_and, Bool.and_true, Bool.false_and, Bool.and_false])
    (fun j => by
      rw [spec_IsInside.L1_eq]
      simp only [↓p_test, p_lt, p_le, p_ltN, p_leN, p_eqN, p_len, p_ofN, p_nat, p_rd, p_set, p_app, p_take, p_drop, p_rep, p_wrap, p_add, p_sub, p_no, p_eq, p_eqB, p_eqP, p_bnd_some, Pu.w64, Int.toNat_natCast, decide_eq_true_eq, Int.ofNat_lt, Int.ofNat_le, if_true, if_false, Int.natCast_nonneg, decide_true, decide_false, Bool.not_true, Bool.not_false, Bool.false_eq_true, Bool.not_eq_true, Bool.true_and, Bool.and_true, Bool.false_and, Bool.and_false, Nat.lt_irrefl]) q.length k 0 (by omega) hk
  simp only [Int.natCast_zero] at h
  rw [h]
  cases (List.range' 0 q.length).all fun i => decide (q.getD i 0 ≤ p.getD i 0) <;> simp
theorem spec_IsInside.is {k : Nat} {q p : List Int} (hk : 4194304 + 2 ≤ k) (hq : q.length ≤ 1048576) (hp : p.length ≤ 1048576) : spec_IsInside k q p = some (Pu.isInside q p) := by
  obtain ⟨k, rfl⟩ : ∃ k', k = k' + 1 := ⟨k - 1, by omega⟩
  rw [spec_IsInside.eq, spec_IsPartition.is (by omega) hq, p_bnd_some, spec_IsInside.J0_eq]
  unfold Pu.isInside
  cases c1 : Pu.isPart q with
  | false => simp only [↓p_test, p_lt, p_le, p_ltN, p_leN, p_eqN, p_len, p_ofN, p_nat, p_rd, p_set, p_app, p_take, p_drop, p_rep, p_wrap, p_add, p_sub, p_no, p_eq, p_eqB, p_eqP, p_bnd_some, Pu.w64, Int.toNat_natCast, decide_eq_true_eq, Int.ofNat_lt, Int.ofNat_le, if_true, if_false, Int.natCast_nonneg, decide_true, decide_false, Bool.not_true, Bool.not_false, Bool.false_eq_true, Bool.not_eq_true, Bool.true_and, Bool.and_true, Bool.false_and, Bool.and_false]
  | true =>
    simp only [↓p_test, p_lt, p_le, p_ltN, p_leN, p_eqN, p_len, p_ofN, p_nat, p_rd, p_set, p_app, p_take, p_drop, p_rep, p_wrap, p_add, p_sub, p_no, p_eq, p_eqB, p_eqP, p_bnd_some, Pu.w64, Int.toNat_natCast, decide_eq_true_eq, Int.ofNat_lt, Int.ofNat_le, if_true, if_false, Int.natCast_nonneg, decide_true, decide_false, Bool.not_true, Bool.not_false, Bool.false_eq_true, Bool.not_eq_true, Bool.true_and, Bool.and_true, Bool.false_and, Bool.and_false]
    rw [spec_IsPartition.is (by omega) hp, p_bnd_some]
    cases c2 : Pu.isPart p with
    | false => simp only [↓p_test, p_lt, p_le, p_ltN, p_leN, p_eqN, p_len, p_ofN, p_nat, p_rd, p_set, p_app, p_take, p_drop, p_rep, p_wrap, p_add, p_sub, p_no, p_eq, p_eqB, p_eqP, p_bnd_some, Pu.w64, Int.toNat_natCast, decide_eq_true_eq, Int.ofNat_lt, Int.ofNat_le, if_true, if_false, Int.natCast_nonneg, decide_true, decide_false, Bool.not_true, Bool.not_false, Bool.false_eq_true, Bool.not_eq_true, Bool.true_and, Bool.and_true, Bool.false_and, Bool.and_false]
    | true =>
      simp only [↓p_test, p_lt, p_le, p_ltN, p_leN, p_eqN, p_len, p_ofN, p_nat, p_rd, p_set, p_app, p_take, p_drop, p_rep, p_wrap, p_add, p_sub, p_no, p_eq, p_eqB, p_eqP, p_bnd_some, Pu.w64, Int.toNat_natCast, decide_eq_true_eq, Int.ofNat_lt, Int.ofNat_le, if_true, if_false, Int.natCast_nonneg, decide_true, decide_false, Bool.not_true, Bool.not_false, Bool.false_eq_true, Bool.not_eq_true, Bool.true_and, Bool.and_true, Bool.false_and, Bool.and_false]
      by_cases c3 : p.length < q.length
      · have c3' : ¬ q.length ≤ p.length := by omega
        simp only [c3, c3', ↓p_test, p_lt, p_le, p_ltN, p_leN, p_eqN, p_len, p_ofN, p_nat, p_rd, p_set, p_app, p_take, p_drop, p_rep, p_wrap, p_add, p_sub, p_no, p_eq, p_eqB, p_eqP, p_bnd_some, Pu.w64, Int.toNat_natCast, decide_eq_true_eq, Int.ofNat_lt, Int.ofNat_le, if_true, if_false, Int.natCast_nonneg, decide_true, decide_false, Bool.not_true, Bool.not_false, Bool.false_eq_true, Bool.not_eq_true, Bool.true_and, Bool.and_true, Bool.false_and, Bool.and_false]
      · have c3' : q.length ≤ p.length := by omega
        simp only [c3, c3', ↓p_test, p_lt, p_le, p_ltN, p_leN, p_eqN, p_len, p_ofN, p_nat, p_rd, p_set, p_app, p_take, p_drop, p_rep, p_wrap, p_add, p_sub, p_no, p_eq, p_eqB, p_eqP, p_bnd_some, Pu.w64, Int.toNat_natCast, decide_eq_true_eq, Int.ofNat_lt, Int.ofNat_le, if_true, if_false, Int.natCast_nonneg, decide_true, decide_false, Bool.not_true, Bool.not_false, Bool.false_eq_true, Bool.not_eq_true, Bool.true_and, Bool.and_true, Bool.false_and, Bool.and_false]
        exact spec_IsInside.loop hq c3' (by omega)
-- spec_IsShape
theorem spec_IsShape.is {k : Nat} {s : List Int × List Int} (hk : 4194304 + 3 ≤ k) (hq : s.1.length ≤ 1048576) (hp : s.2.length ≤ 1048576) : spec_IsShape k s = some (Pu.isInside s.2 s.1) := by
  obtain ⟨k, rfl⟩ : ∃ k', k = k' + 1 := ⟨k - 1, by omega⟩
  rw [spec_IsShape.eq, spec_IsInside.is (by omega) hp hq]
  rfl
-- spec_ShapeOf
theorem spec_ShapeOf.loop {k : Nat} {t : Pu.Tab} {x3 x4 : List Int} (hk : 4194304 + 3 ≤ k) (hi : Pu.isPart t.1 = true) (h2 : t.2.length ≤ 9) (hr : ∀ x ∈ t.2, x.length ≤ 1048576) : ∀ (m j i : Nat) (acc : List Int), i + m = t.2.length → m < j → acc.length = i →
    spec_ShapeOf.L1 k j i t.1 t.2 x3 x4 acc t.1 = some (if Pu.isInside t.1 (acc ++ Pu.outerGo t.1 i (t.2.drop i)) = true then ((acc ++ Pu.outerGo t.1 i (t.2.drop i), t.1), true) else (([], []), false))
  | m, 0, i, acc, _, hj, _ => by omega
  | 0, j + 1, i, acc, hm, _, hacc => by
    rw [spec_ShapeOf.L1_eq]
    have e : i = t.2.length := by omega
    have h9 := (Pu.isPart_spec hi).2.2.1
    have hlt : ¬ i < t.2.length := by omega
    rw [spec_IsShape.is (by omega) (by simp only; omega) (by simp only; omega), e]
    simp only [↓p_test, p_lt, p_le, p_ltN, p_leN, p_eqN, p_len, p_ofN, p_nat, p_rd, p_set, p_app, p_take, p_drop, p_rep, p_wrap, p_add, p_sub, p_no, p_eq, p_eqB, p_eqP, p_bnd_some, Pu.w64, Int.toNat_natCast, decide_eq_true_eq, Int.ofNat_lt, Int.ofNat_le, if_true, if_false, Int.natCast_nonneg, decide_true, decide_false, Bool.not_true, Bool.not_false, Bool.false_eq_true, Bool.not_eq_true, Bool.true_and, Bool.and_true, Bool.false_and, Bool.and_false, Nat.lt_irrefl, List.drop_length, Pu.outerGo, List.append_nil]
    cases Pu.isInside t.1 acc <;> simp
  | m + 1, j + 1, i, acc, hm, hj, hacc => by
    rw [spec_ShapeOf.L1_eq]
    have hlt : i < t.2.length := by omega
    have hb := Pu.part_atI hi i
    have hrow := hr t.2[i] (List.getElem_mem hlt)
    rw [← Pu.getD_lt hlt []] at hrow
    rw [spec_l2At.is (by omega)]
    have ih := spec_ShapeOf.loop (x3 := x3) (x4 := x4) hk hi h2 hr m j (i + 1) (acc ++ [Pu.atI t.1 i + (t.2.getD i []).length]) (by omega) (by omega) (by simp [hacc])
    rw [Int.natCast_succ] at ih
    rw [Pu.drop_cons hlt []]
    have hl : (acc ++ [Pu.atI t.1 i + ((t.2.getD i []).length : Int)]).length ≤ 1099511627776 := by simp; omega
    simp (disch := omega) only [↓p_test, p_lt, p_le, p_ltN, p_leN, p_eqN, p_len, p_ofN, p_nat, p_rd, p_set, p_app, p_take, p_drop, p_rep, p_wrap, p_add, p_sub, p_no, p_eq, p_eqB, p_eqP, p_bnd_some, Pu.w64, Int.toNat_natCast, decide_eq_true_eq, Int.ofNat_lt, Int.ofNat_le, if_true, if_false, Int.natCast_nonneg, decide_true, decide_false, Bool.not_true, Bool.not_false, Bool.false_eq_true, Bool.not_eq_true, Bool.true_and, Bool.and_true, Bool.false_and, Bool.and_false, hlt, hl, ih, Pu.outerGo]
    simp only [List.append_assoc, List.singleton_append, Pu.atI_nat]
    rfl
theorem spec_ShapeOf.is {k : Nat} {t : Pu.Tab} (hk : 4194304 + 4 ≤ k) (h1 : t.1.length ≤ 1048576) (h2 : t.2.length ≤ 1048576) (hr : ∀ x ∈ t.2, x.length ≤ 1048576) : spec_ShapeOf k t = some (Pu.shapeOf t) := by
  obtain ⟨k, rfl⟩ : ∃ k', k = k' + 1 := ⟨k - 1, by omega⟩
  rw [spec_ShapeOf.eq, spec_IsPartition.is (by omega) h1, spec_ShapeOf.J0_eq]
  have hl : t.1.length ≤ 1099511627776 := by omega
  simp only [↓p_test, p_lt, p_le, p_ltN, p_leN, p_eqN, p_len, p_ofN, p_nat, p_rd, p_set, p_app, p_take, p_drop, p_rep, p_wrap, p_add, p_sub, p_no, p_eq, p_eqB, p_eqP, p_bnd_some, Pu.w64, Int.toNat_natCast, decide_eq_true_eq, Int.ofNat_lt, Int.ofNat_le, if_true, if_false, Int.natCast_nonneg, decide_true, decide_false, Bool.not_true, Bool.not_false, Bool.false_eq_true, Bool.not_eq_true, Bool.true_and, Bool.and_true, Bool.false_and, Bool.and_false, List.nil_append, hl]
  unfold Pu.shapeOf
  cases c1 : Pu.isPart t.1 with
  | false =>
    have : Pu.shapeOK t = false := by unfold Pu.shapeOK; rw [c1]; rfl
    simp only [this, ↓p_test, p_lt, p_le, p_ltN, p_leN, p_eqN, p_len, p_ofN, p_nat, p_rd, p_set, p_app, p_take, p_drop, p_rep, p_wrap, p_add, p_sub, p_no, p_eq, p_eqB, p_eqP, p_bnd_some, Pu.w64, Int.toNat_natCast, decide_eq_true_eq, Int.ofNat_lt, Int.ofNat_le, if_true, if_false, Int.natCast_nonneg, decide_true, decide_false, Bool.not_true, Bool.not_false, Bool.false_eq_true, Bool.not_eq_true, Bool.true_and, Bool.and_true, Bool.false_and, Bool.and_false]
  | true =>
    by_cases c2 : t.2.length < t.1.length
    · have : Pu.shapeOK t = false := by
        have : ¬ t.1.length ≤ t.2.length := by omega
        unfold Pu.shapeOK; simp [this]
      simp only [this, c2, ↓p_test, p_lt, p_le, p_ltN, p_leN, p_eqN, p_len, p_ofN, p_nat, p_rd, p_set, p_app, p_take, p_drop, p_rep, p_wrap, p_add, p_sub, p_no, p_eq, p_eqB, p_eqP, p_bnd_some, Pu.w64, Int.toNat_natCast, decide_eq_true_eq, Int.ofNat_lt, Int.ofNat_le, if_true, if_false, Int.natCast_nonneg, decide_true, decide_false, Bool.not_true, Bool.not_false, Bool.false_eq_true, Bool.not_eq_true, Bool.true_and, Bool.and_true, Bool.false_and, Bool.and_false]
    · by_cases c3 : 9 < t.2.length
      · have : Pu.shapeOK t = false := by
          cases h : Pu.shapeOK t with
          | false => rfl
          | true => have := Pu.shapeOK_len h; omega
        have c3' : (9 : Int) < t.2.length := by omega
        simp only [this, c2, c3', ↓p_test, p_lt, p_le, p_ltN, p_leN, p_eqN, p_len, p_ofN, p_nat, p_rd, p_set, p_app, p_take, p_drop, p_rep, p_wrap, p_add, p_sub, p_no, p_eq, p_eqB, p_eqP, p_bnd_some, Pu.w64, Int.toNat_natCast, decide_eq_true_eq, Int.ofNat_lt, Int.ofNat_le, if_true, if_false, Int.natCast_nonneg, decide_true, decide_false, Bool.not_true, Bool.not_false, Bool.false_eq_true, Bool.not_eq_true, Bool.true_and, Bool.and_true, Bool.false_and, Bool.and_false]
      · have c3' : ¬ (9 : Int) < t.2.length := by omega
        have c2' : t.1.length ≤ t.2.length := by omega
        have hloop := spec_ShapeOf.loop (k := k) (t := t) (x3 := []) (x4 := []) (by omega) c1 (by omega) hr t.2.length k 0 [] (by omega) (by omega) rfl
        rw [Int.natCast_zero] at hloop
        simp only [c2, c3', ↓p_test, p_lt, p_le, p_ltN, p_leN, p_eqN, p_len, p_ofN, p_nat, p_rd, p_set, p_app, p_take, p_drop, p_rep, p_wrap, p_add, p_sub, p_no, p_eq, p_eqB, p_eqP, p_bnd_some, Pu.w64, Int.toNat_natCast, decide_eq_true_eq, Int.ofNat_lt, Int.ofNat_le, if_true, if_false, Int.natCast_nonneg, decide_true, decide_false, Bool.not_true, Bool.not_false, Bool.false_eq_true, Bool.not_eq_true, Bool.true_and, Bool.and_true, Bool.false_and, Bool.and_false]
        rw [hloop]
        have : Pu.shapeOK t = Pu.isInside t.1 (Pu.outer t) := by unfold Pu.shapeOK; simp [c1, c2']
        rw [this]
        rfl
-- spec_l5Entry
theorem spec_l5Entry.is {k : Nat} {t : Pu.Tab} {r c : Int} (hk : 2 ≤ k) (hi : Pu.isPart t.1 = true) (h1 : -1000000000 ≤ c) (h2 : c ≤ 1000000000) : spec_l5Entry k t r c = some (Pu.entry t r c) := by
  obtain ⟨k, rfl⟩ : ∃ k', k = k' + 1 := ⟨k - 1, by omega⟩
  have hb := Pu.part_atI hi r
  rw [spec_l5Entry.eq, spec_l5Entry.J0_eq, spec_l2At.is (by omega)]
  unfold Pu.entry
  by_cases c1 : r < 0
  · simp only [↓p_test, p_lt, p_le, p_ltN, p_leN, p_eqN, p_len, p_ofN, p_nat, p_rd, p_set, p_app, p_take, p_drop, p_rep, p_wrap, p_add, p_sub, p_no, p_eq, p_eqB, p_eqP, p_bnd_some, Pu.w64, Int.toNat_natCast, decide_eq_true_eq, Int.ofNat_lt, Int.ofNat_le, if_true, if_false, Int.natCast_nonneg, decide_true, decide_false, Bool.not_true, Bool.not_false, Bool.false_eq_true, Bool.not_eq_true, Bool.true_and, Bool.and_true, Bool.false_and, Bool.and_false, c1]
  · by_cases c2 : (t.2.length : Int) ≤ r
    · simp only [↓p_test, p_lt, p_le, p_ltN, p_leN, p_eqN, p_len, p_ofN, p_nat, p_rd, p_set, p_app, p_take, p_drop, p_rep, p_wrap, p_add, p_sub, p_no, p_eq, p_eqB, p_eqP, p_bnd_some, Pu.w64, Int.toNat_natCast, decide_eq_true_eq, Int.ofNat_lt, Int.ofNat_le, if_true, if_false, Int.natCast_nonneg, decide_true, decide_false, Bool.not_true, Bool.not_false, Bool.false_eq_true, Bool.not_eq_true, Bool.true_and, Bool.and_true, Bool.false_and, Bool.and_false, c1, c2]
    · have c3 : 0 ≤ r := by omega
      have c4 : r.toNat < t.2.length := by omega
      simp (disch := omega) only [↓p_test, p_lt, p_le, p_ltN, p_leN, p_eqN, p_len, p_ofN, p_nat, p_rd, p_set, p_app, p_take, p_drop, p_rep, p_wrap, p_add, p_sub, p_no, p_eq, p_eqB, p_eqP, p_bnd_some, Pu.w64, Int.toNat_natCast, decide_eq_true_eq, Int.ofNat_lt, Int.ofNat_le, if_true, if_false, Int.natCast_nonneg, decide_true, decide_false, Bool.not_true, Bool.not_false, Bool.false_eq_true, Bool.not_eq_true, Bool.true_and, Bool.and_true, Bool.false_and, Bool.and_false, c1, c2, c3, c4]
      by_cases d1 : c - Pu.atI t.1 r < 0
      · simp only [↓p_test, p_lt, p_le, p_ltN, p_leN, p_eqN, p_len, p_ofN, p_nat, p_rd, p_set, p_app, p_take, p_drop, p_rep, p_wrap, p_add, p_sub, p_no, p_eq, p_eqB, p_eqP, p_bnd_some, Pu.w64, Int.toNat_natCast, decide_eq_true_eq, Int.ofNat_lt, Int.ofNat_le, if_true, if_false, Int.natCast_nonneg, decide_true, decide_false, Bool.not_true, Bool.not_false, Bool.false_eq_true, Bool.not_eq_true, Bool.true_and, Bool.and_true, Bool.false_and, Bool.and_false, d1, Pu.atI_neg d1]
      · by_cases d2 : ((t.2.getD r.toNat []).length : Int) ≤ c - Pu.atI t.1 r
        · simp only [↓p_test, p_lt, p_le, p_ltN, p_leN, p_eqN, p_len, p_ofN, p_nat, p_rd, p_set, p_app, p_take, p_drop, p_rep, p_wrap, p_add, p_sub, p_no, p_eq, p_eqB, p_eqP, p_bnd_some, Pu.w64, Int.toNat_natCast, decide_eq_true_eq, Int.ofNat_lt, Int.ofNat_le, if_true, if_false, Int.natCast_nonneg, decide_true, decide_false, Bool.not_true, Bool.not_false, Bool.false_eq_true, Bool.not_eq_true, Bool.true_and, Bool.and_true, Bool.false_and, Bool.and_false, d1, d2, Pu.atI_ge d2]
        · have d3 : 0 ≤ c - Pu.atI t.1 r := by omega
          have d4 : (c - Pu.atI t.1 r).toNat < (t.2.getD r.toNat []).length := by omega
          rw [spec_l5Entry.J1_eq]
          generalize c - Pu.atI t.1 r = z at *
          simp only [↓p_test, p_lt, p_le, p_ltN, p_leN, p_eqN, p_len, p_ofN, p_nat, p_rd, p_set, p_app, p_take, p_drop, p_rep, p_wrap, p_add, p_sub, p_no, p_eq, p_eqB, p_eqP, p_bnd_some, Pu.w64, Int.toNat_natCast, decide_eq_true_eq, Int.ofNat_lt, Int.ofNat_le, if_true, if_false, Int.natCast_nonneg, decide_true, decide_false, Bool.not_true, Bool.not_false, Bool.false_eq_true, Bool.not_eq_true, Bool.true_and, Bool.and_true, Bool.false_and, Bool.and_false, c3, c4, d1, d2, d3, d4, Pu.atI]
-- spec_IsTableau
theorem spec_IsTableau.J2_is {k k1 k2 : Nat} {t : Pu.Tab} {r : Nat} {c x v : Int} {o n : List Int} (hk : 3 ≤ k) (hi : Pu.isPart t.1 = true) (h1 : 0 ≤ c) (h2 : c ≤ 10000000) (hr : r ≤ 1048576) :
    spec_IsTableau.J2 k k1 k2 r c x v t.1 t.2 o n = if (Pu.within x 1 9 && (decide (v ≤ x) && decide (Pu.entry t ((r : Int) - 1) c < x))) = true then spec_IsTableau.L1 k k1 k2 r (c + 1) t.1 t.2 o n else some false := by
  have he := spec_l5Entry.is (k := k) (t := t) (r := (r : Int) - 1) (c := c) (by omega) hi (by omega) (by omega)
  rw [spec_IsTableau.J2_eq, spec_l1In.is (by omega), spec_IsTableau.J3_eq]
  simp (disch := omega) only [↓p_test, p_lt, p_le, p_ltN, p_leN, p_eqN, p_len, p_ofN, p_nat, p_rd, p_set, p_app, p_take, p_drop, p_rep, p_wrap, p_add, p_sub, p_no, p_eq, p_eqB, p_eqP, p_bnd_some, Pu.w64, Int.toNat_natCast, decide_eq_true_eq, Int.ofNat_lt, Int.ofNat_le, if_true, if_false, Int.natCast_nonneg, decide_true, decide_false, Bool.not_true, Bool.not_false, Bool.false_eq_true, Bool.not_eq_true, Bool.true_and, Bool.and_true, Bool.false_and, Bool.and_false, he]
  cases Pu.within x 1 9 with
  | false => simp
  | true =>
    by_cases c1 : v ≤ x
    · have c1' : ¬ x < v := by omega
      by_cases c2 : Pu.entry t ((r : Int) - 1) c < x
      · have c2' : ¬ x ≤ Pu.entry t ((r : Int) - 1) c := by omega
        simp [c1, c1', c2, c2']
      · have c2' : x ≤ Pu.entry t ((r : Int) - 1) c := by omega
        simp [c1, c1', c2, c2']
    · have c1' : x < v := by omega
      simp [c1, c1']
theorem spec_IsTableau.inner {k k1 : Nat} {t : Pu.Tab} {r : Nat} {n : List Int} (hk : 4194304 ≤ k) (hi : Pu.isPart t.1 = true) (ht : t.2.length ≤ 1048576) (hr : ∀ x ∈ t.2, x.length ≤ 1048576) (hlt : r < t.2.length) :
    spec_IsTableau.L1 k k1 k r (t.1.getD r 0) t.1 t.2 (Pu.outer t) n = if ((List.range' 0 (t.2.getD r []).length).all fun q => Pu.cellOK t r q) = true then spec_IsTableau.L0 k k1 ((r : Int) + 1) t.1 t.2 (Pu.outer t) n else some false := by
  have hx := hr _ (List.getElem_mem hlt)
  rw [← Pu.getD_lt hlt []] at hx
  have hb := Pu.part_atI hi r
  rw [Pu.atI_nat] at hb
  have hol : r < (Pu.outer t).length := by unfold Pu.outer; rw [Pu.outerGo_len]; exact hlt
  have ho : (Pu.outer t).getD r 0 = t.1.getD r 0 + ((t.2.getD r []).length : Int) := by
    have := Pu.outerGo_get t.1 t.2 0 r hlt
    rw [Nat.zero_add] at this
    exact this
  have h := Pu.loop_all (fun j q => spec_IsTableau.L1 k k1 j r (t.1.getD r 0 + (q : Int)) t.1 t.2 (Pu.outer t) n) (t.2.getD r []).length (fun q => Pu.cellOK t r q) (some false) (spec_IsTableau.L0 k k1 ((r : Int) + 1) t.1 t.2 (Pu.outer t) n)
    (fun j q hq => by
      rw [spec_IsTableau.L1_eq]
      have hc : t.1.getD r 0 + (q : Int) < (Pu.outer t).getD r 0 := by rw [ho]; omega
      have e1 := spec_l5Entry.is (k := k) (t := t) (r := r) (c := t.1.getD r 0 + q) (by omega) hi (by omega) (by omega)
      have e2 := spec_l5Entry.is (k := k) (t := t) (r := r) (c := t.1.getD r 0 + q - 1) (by omega) hi (by omega) (by omega)
      rw [Pu.entry_at hlt] at e1
      rw [Pu.entry_left hlt] at e2
      have ej := fun v => spec_IsTableau.J2_is (k := k) (k1 := k1) (k2 := j) (t := t) (r := r) (c := t.1.getD r 0 + q) (x := (t.2.getD r []).getD q 0) (v := v) (o := Pu.outer t) (n := n) (by omega) hi (by omega) (by omega) (by omega)
      have en : t.1.getD r 0 + (q : Int) + 1 = t.1.getD r 0 + ((q + 1 : Nat) : Int) := by omega
      rw [en] at ej
      -- the cell's test
      have key : ∀ v : Int, v = (if q = 0 then 0 else (t.2.getD r []).getD (q - 1) 0) → (Pu.within ((t.2.getD r []).getD q 0) 1 9 && (decide (v ≤ (t.2.getD r []).getD q 0) && decide (Pu.entry t ((r : Int) - 1) (t.1.getD r 0 + q) < (t.2.getD r []).getD q 0))) = Pu.cellOK t r q := by
        intro v hv
        unfold Pu.cellOK
        cases hw : Pu.within ((t.2.getD r []).getD q 0) 1 9 with
        | false => rfl
        | true =>
          have hw1 : 1 ≤ (t.2.getD r []).getD q 0 := by
            simp only [Pu.within, Bool.and_eq_true, decide_eq_true_eq] at hw; exact hw.1
          simp only [Bool.true_and]
          congr 1
          · by_cases e : q = 0
            · have : v ≤ (t.2.getD r []).getD q 0 := by rw [hv, if_pos e]; omega
              simp [e, this]
              simpa [e] using this
            · rw [hv, if_neg e]; simp [e]
          · by_cases e : r = 0
            · subst e
              rw [Pu.entry_neg (by omega), decide_eq_true (show (0 : Int) < (t.2.getD 0 []).getD q 0 by omega)]
              simp only [decide_true, Bool.true_or]
            · simp [e]
      by_cases hc0 : 0 < t.1.getD r 0 + (q : Int)
      · simp (disch := omega) only [↓p_test, p_lt, p_le, p_ltN, p_leN, p_eqN, p_len, p_ofN, p_nat, p_rd, p_set, p_app, p_take, p_drop, p_rep, p_wrap, p_add, p_sub, p_no, p_eq, p_eqB, p_eqP, p_bnd_some, Pu.w64, Int.toNat_natCast, decide_eq_true_eq, Int.ofNat_lt, Int.ofNat_le, if_true, if_false, Int.natCast_nonneg, decide_true, decide_false, Bool.not_true, Bool.not_false, Bool.false_eq_true, Bool.not_eq_true, Bool.true_and, Bool.and_true, Bool.false_and, Bool.and_false, hol, hc, e1, hc0, e2, ej]
        rw [key _ rfl]
      · simp (disch := omega) only [↓p_test, p_lt, p_le, p_ltN, p_leN, p_eqN, p_len, p_ofN, p_nat, p_rd, p_set, p_app, p_take, p_drop, p_rep, p_wrap, p_add, p_sub, p_no, p_eq, p_eqB, p_eqP, p_bnd_some, Pu.w64, Int.toNat_natCast, decide_eq_true_eq, Int.ofNat_lt, Int.ofNat_le, if_true, if_false, Int.natCast_nonneg, decide_true, decide_false, Bool.not_true, Bool.not_false, Bool.false_eq_true, Bool.not_eq_true, Bool.true_and, Bool.and_true, Bool.false_and, Bool.and_false, hol, hc, e1, hc0, ej]
        rw [key 0 (by have : q = 0 := by omega
                      rw [if_pos this])])
    (fun j => by
      rw [spec_IsTableau.L1_eq]
      have hc : ¬ t.1.getD r 0 + ((t.2.getD r []).length : Int) < (Pu.outer t).getD r 0 := by rw [ho]; omega
      simp (disch := omega) only [↓p_test, p_lt, p_le, p_ltN, p_leN, p_eqN, p_len, p_ofN, p_nat, p_rd, p_set, p_app, p_take, p_drop, p_rep, p_wrap, p_add, p_sub, p_no, p_eq, p_eqB, p_eqP, p_bnd_some, Pu.w64, Int.toNat_natCast, decide_eq_true_eq, Int.ofNat_lt, Int.ofNat_le, if_true, if_false, Int.natCast_nonneg, decide_true, decide_false, Bool.not_true, Bool.not_false, Bool.false_eq_true, Bool.not_eq_true, Bool.true_and, Bool.and_true, Bool.false_and, Bool.and_false, hol, hc]) (t.2.getD r []).length k 0 (by omega) (by omega)
  simp only [Int.natCast_zero, Int.add_zero] at h
  exact h
theorem spec_IsTableau.is {k : Nat} {t : Pu.Tab} (hk : 4194304 + 5 ≤ k) (h1 : t.1.length ≤ 1048576) (ht : t.2.length ≤ 1048576) (hr : ∀ x ∈ t.2, x.length ≤ 1048576) : spec_IsTableau k t = some (Pu.isTab t) := by
  obtain ⟨k, rfl⟩ : ∃ k', k = k' + 1 := ⟨k - 1, by omega⟩
  rw [spec_IsTableau.eq, spec_ShapeOf.is (by omega) h1 ht hr, p_bnd_some]
  unfold Pu.isTab Pu.shapeOf
  cases hs : Pu.shapeOK t with
  | false => simp [hs]
  | true =>
    have hi : Pu.isPart t.1 = true := by
      simp only [Pu.shapeOK, Bool.and_eq_true] at hs; exact hs.1
    have hol : (Pu.outer t).length = t.2.length := by unfold Pu.outer; rw [Pu.outerGo_len]
    have h := Pu.loop_all (fun j r => spec_IsTableau.L0 k j r t.1 t.2 (Pu.outer t) t.1) t.2.length (fun r => (List.range' 0 (t.2.getD r []).length).all fun q => Pu.cellOK t r q) (some false) (some true)
      (fun j r hlt => by
        rw [spec_IsTableau.L0_eq, spec_l2At.is (by omega), Pu.atI_nat]
        simp (disch := omega) only [↓p_test, p_lt, p_le, p_ltN, p_leN, p_eqN, p_len, p_ofN, p_nat, p_rd, p_set, p_app, p_take, p_drop, p_rep, p_wrap, p_add, p_sub, p_no, p_eq, p_eqB, p_eqP, p_bnd_some, Pu.w64, Int.toNat_natCast, decide_eq_true_eq, Int.ofNat_lt, Int.ofNat_le, if_true, if_false, Int.natCast_nonneg, decide_true, decide_false, Bool.not_true, Bool.not_false, Bool.false_eq_true, Bool.not_eq_true, Bool.true_and, Bool.and_true, Bool.false_and, Bool.and_false, hol, hlt, spec_IsTableau.inner (k1 := j) (n := t.1) (show 4194304 ≤ k by omega) hi ht hr hlt, Int.natCast_add, Int.natCast_one])
      (fun j => by
        rw [spec_IsTableau.L0_eq]
        simp (disch := omega) only [↓p_test, p_lt, p_le, p_ltN, p_leN, p_eqN, p_len, p_ofN, p_nat, p_rd, p_set, p_app, p_take, p_drop, p_rep, p_wrap, p_add, p_sub, p_no, p_eq, p_eqB, p_eqP, p_bnd_some, Pu.w64, Int.toNat_natCast, decide_eq_true_eq, Int.ofNat_lt, Int.ofNat_le, if_true, if_false, Int.natCast_nonneg, decide_true, decide_false, Bool.not_true, Bool.not_false, Bool.false_eq_true, Bool.not_eq_true, Bool.true_and, Bool.and_true, Bool.false_and, Bool.and_false, hol, Nat.lt_irrefl]) t.2.length k 0 (by omega) (by omega)
    simp only [Int.natCast_zero] at h
    simp only [if_true, ↓p_test, p_lt, p_le, p_ltN, p_leN, p_eqN, p_len, p_ofN, p_nat, p_rd, p_set, p_app, p_take, p_drop, p_rep, p_wrap, p_add, p_sub, p_no, p_eq, p_eqB, p_eqP, p_bnd_some, Pu.w64, Int.toNat_natCast, decide_eq_true_eq, Int.ofNat_lt, Int.ofNat_le, if_true, if_false, Int.natCast_nonneg, decide_true, decide_false, Bool.not_true, Bool.not_false, Bool.false_eq_true, Bool.not_eq_true, Bool.true_and, Bool.and_true, Bool.false_and, Bool.and_false]
    rw [h]
    cases (List.range' 0 t.2.length).all fun r => (List.range' 0 (t.2.getD r []).length).all fun q => Pu.cellOK t r q <;> simp
-- spec_l9Plain
theorem spec_l9Plain.is {k : Nat} {t : Pu.Tab} (hk : 4194304 + 6 ≤ k) (h1 : t.1.length ≤ 1048576) (ht : t.2.length ≤ 1048576) (hr : ∀ x ∈ t.2, x.length ≤ 1048576) : spec_l9Plain k t = some (Pu.isPlain t) := by
  obtain ⟨k, rfl⟩ : ∃ k', k = k' + 1 := ⟨k - 1, by omega⟩
  rw [spec_l9Plain.eq, spec_IsTableau.is (by omega) h1 ht hr, p_bnd_some]
  unfold Pu.isPlain
  cases Pu.isTab t <;> simp
-- spec_Corners
theorem spec_Corners.loop {k : Nat} {p : List Int} (hk : 1 ≤ k) (hp : p.length ≤ 1000000) : ∀ (m j i : Nat) (acc : List Int), i + m = p.length → m < j → acc.length ≤ i → spec_Corners.L0 k j i p acc = some (acc ++ Pu.cornGo p m i)
  | m, 0, i, acc, _, hj, _ => by omega
  | 0, j + 1, i, acc, hi, _, ha => by
    rw [spec_Corners.L0_eq]
    have hn : ¬ ((i : Int) < (p.length : Int)) := by omega
    simp only [↓p_test, p_lt, p_le, p_ltN, p_leN, p_eqN, p_len, p_ofN, p_nat, p_rd, p_set, p_app, p_take, p_drop, p_rep, p_wrap, p_add, p_sub, p_no, p_eq, p_eqB, p_eqP, p_bnd_some, Pu.w64, Int.toNat_natCast, decide_eq_true_eq, Int.ofNat_lt, Int.ofNat_le, if_true, if_false, Int.natCast_nonneg, decide_true, decide_false, Bool.not_true, Bool.not_false, Bool.false_eq_true, Bool.not_eq_true, Bool.true_and, Bool.and_true, Bool.false_and, Bool.and_false, hn, Pu.cornGo, List.append_nil]
  | m + 1, j + 1, i, acc, hi, hj, ha => by
    rw [spec_Corners.L0_eq]
    have h1 : i < p.length := by omega
    have e : (i : Int) + 1 = ((i + 1 : Nat) : Int) := by omega
    have ih := fun acc h => spec_Corners.loop hk hp m j (i + 1) acc (by omega) (by omega) h
    have hl : (acc ++ [(i : Int)]).length ≤ 1099511627776 := by rw [List.length_append, List.length_singleton]; omega
    have h2 := ih (acc ++ [(i : Int)]) (by rw [List.length_append, List.length_singleton]; omega)
    have h3 := ih acc (by omega)
    have ea : spec_l2At k p ((i : Int) + 1) = some (p.getD (i + 1) 0) := by rw [spec_l2At.is (by omega), e, Pu.atI_nat]
    rw [← e] at h2 h3
    unfold Pu.cornGo
    by_cases c : p.getD (i + 1) 0 < p.getD i 0
    · simp (disch := omega) only [↓p_test, p_lt, p_le, p_ltN, p_leN, p_eqN, p_len, p_ofN, p_nat, p_rd, p_set, p_app, p_take, p_drop, p_rep, p_wrap, p_add, p_sub, p_no, p_eq, p_eqB, p_eqP, p_bnd_some, Pu.w64, Int.toNat_natCast, decide_eq_true_eq, Int.ofNat_lt, Int.ofNat_le, if_true, if_false, Int.natCast_nonneg, decide_true, decide_false, Bool.not_true, Bool.not_false, Bool.false_eq_true, Bool.not_eq_true, Bool.true_and, Bool.and_true, Bool.false_and, Bool.and_false, h1, ea, c, hl, spec_Corners.J1_eq, h2, List.append_assoc, List.cons_append, List.nil_append]
    · simp (disch := omega) only [↓p_test, p_lt, p_le, p_ltN, p_leN, p_eqN, p_len, p_ofN, p_nat, p_rd, p_set, p_app, p_take, p_drop, p_rep, p_wrap, p_add, p_sub, p_no, p_eq, p_eqB, p_eqP, p_bnd_some, Pu.w64, Int.toNat_natCast, decide_eq_true_eq, Int.ofNat_lt, Int.ofNat_le, if_true, if_false, Int.natCast_nonneg, decide_true, decide_false, Bool.not_true, Bool.not_false, Bool.false_eq_true, Bool.not_eq_true, Bool.true_and, Bool.and_true, Bool.false_and, Bool.and_false, h1, ea, c, spec_Corners.J1_eq, h3]
theorem spec_Corners.is {k : Nat} {p : List Int} (hk : 4194304 + 3 ≤ k) (hp : p.length ≤ 1000000) : spec_Corners k p = some (Pu.corners p) := by
  obtain ⟨k, rfl⟩ : ∃ k', k = k' + 1 := ⟨k - 1, by omega⟩
  rw [spec_Corners.eq, spec_IsPartition.is (by omega) (by omega), p_bnd_some]
  unfold Pu.corners
  have h := spec_Corners.loop (k := k) (p := p) (by omega) hp p.length k 0 [] (by omega) (by omega) (by simp)
  rw [Int.natCast_zero, List.nil_append] at h
  cases hb : Pu.isPart p with
  | true => simp only [↓p_test, p_lt, p_le, p_ltN, p_leN, p_eqN, p_len, p_ofN, p_nat, p_rd, p_set, p_app, p_take, p_drop, p_rep, p_wrap, p_add, p_sub, p_no, p_eq, p_eqB, p_eqP, p_bnd_some, Pu.w64, Int.toNat_natCast, decide_eq_true_eq, Int.ofNat_lt, Int.ofNat_le, if_true, if_false, Int.natCast_nonneg, decide_true, decide_false, Bool.not_true, Bool.not_false, Bool.false_eq_true, Bool.not_eq_true, Bool.true_and, Bool.and_true, Bool.false_and, Bool.and_false, h]
  | false => simp only [↓p_test, p_lt, p_le, p_ltN, p_leN, p_eqN, p_len, p_ofN, p_nat, p_rd, p_set, p_app, p_take, p_drop, p_rep, p_wrap, p_add, p_sub, p_no, p_eq, p_eqB, p_eqP, p_bnd_some, Pu.w64, Int.toNat_natCast, decide_eq_true_eq, Int.ofNat_lt, Int.ofNat_le, if_true, if_false, Int.natCast_nonneg, decide_true, decide_false, Bool.not_true, Bool.not_false, Bool.false_eq_true, Bool.not_eq_true, Bool.true_and, Bool.and_true, Bool.false_and, Bool.and_false]
-- spec_l10Has
theorem spec_l10Has.loop {k : Nat} {x : Int} {r : List Int} (hr : r.length ≤ 1048577) : ∀ (m j i : Nat), i + m = r.length → m < j → spec_l10Has.L0 k j x i r = some (Pu.has (r.drop i) x)
  | m, 0, i, _, hj => by omega
  | 0, j + 1, i, hi, _ => by
    rw [spec_l10Has.L0_eq]
    have e : i = r.length := by omega
    subst e
    simp [Pu.has]
  | m + 1, j + 1, i, hi, hj => by
    rw [spec_l10Has.L0_eq]
    have h1 : i < r.length := by omega
    have ih := spec_l10Has.loop (k := k) (x := x) hr m j (i + 1) (by omega) (by omega)
    rw [Int.natCast_succ] at ih
    have e : Pu.has (r.drop i) x = (decide (x = r.getD i 0) || Pu.has (r.drop (i + 1)) x) := by
      rw [Pu.drop_cons h1 0]; rfl
    rw [e]
    by_cases c : r.getD i 0 = x
    · have c' : x = r.getD i 0 := c.symm
      simp (disch := omega) only [↓p_test, p_lt, p_le, p_ltN, p_leN, p_eqN, p_len, p_ofN, p_nat, p_rd, p_set, p_app, p_take, p_drop, p_rep, p_wrap, p_add, p_sub, p_no, p_eq, p_eqB, p_eqP, p_bnd_some, Pu.w64, Int.toNat_natCast, decide_eq_true_eq, Int.ofNat_lt, Int.ofNat_le, if_true, if_false, Int.natCast_nonneg, decide_true, decide_false, Bool.not_true, Bool.not_false, Bool.false_eq_true, Bool.not_eq_true, Bool.true_and, Bool.and_true, Bool.false_and, Bool.and_false, h1, c, Bool.true_or]
    · have c' : ¬ x = r.getD i 0 := fun h => c h.symm
      simp (disch := omega) only [↓p_test, p_lt, p_le, p_ltN, p_leN, p_eqN, p_len, p_ofN, p_nat, p_rd, p_set, p_app, p_take, p_drop, p_rep, p_wrap, p_add, p_sub, p_no, p_eq, p_eqB, p_eqP, p_bnd_some, Pu.w64, Int.toNat_natCast, decide_eq_true_eq, Int.ofNat_lt, Int.ofNat_le, if_true, if_false, Int.natCast_nonneg, decide_true, decide_false, Bool.not_true, Bool.not_false, Bool.false_eq_true, Bool.not_eq_true, Bool.true_and, Bool.and_true, Bool.false_and, Bool.and_false, h1, c, c', Bool.false_or, ih]
theorem spec_l10Has.is {k : Nat} {x : Int} {r : List Int} (hk : 4194304 + 2 ≤ k) (hr : r.length ≤ 1048577) : spec_l10Has k r x = some (Pu.has r x) := by
  obtain ⟨k, rfl⟩ : ∃ k', k = k' + 1 := ⟨k - 1, by omega⟩
  rw [spec_l10Has.eq]
  have h := spec_l10Has.loop (k := k) (x := x) hr r.length k 0 (by omega) (by omega)
  rw [Int.natCast_zero, List.drop_zero] at h
  exact h
-- spec_l5Copy
theorem spec_l5Copy.loop {k : Nat} {t : Pu.Tab} {x3 x4 : List Int} {x5 : List (List Int)} (ht : t.2.length ≤ 1048576) (hr : ∀ x ∈ t.2, x.length ≤ 1048576) : ∀ (m j i : Nat), i + m = t.2.length → m < j →
    spec_l5Copy.L0 k j i t.1 t.2 x3 x5 x4 (t.2.take i) = some (x4, t.2)
  | m, 0, i, _, hj => by omega
  | 0, j + 1, i, hm, _ => by
    rw [spec_l5Copy.L0_eq]
    have e : i = t.2.length := by omega
    subst e
    simp
  | m + 1, j + 1, i, hm, hj => by
    rw [spec_l5Copy.L0_eq]
    have hlt : i < t.2.length := by omega
    have hx := hr _ (List.getElem_mem hlt)
    rw [← Pu.getD_lt hlt []] at hx
    have ih := spec_l5Copy.loop (k := k) (x3 := x3) (x4 := x4) (x5 := x5) ht hr m j (i + 1) (by omega) (by omega)
    rw [Int.natCast_succ, Pu.take_succ hlt []] at ih
    have hl : (t.2.take i ++ [t.2.getD i []]).length ≤ 1099511627776 := by simp; omega
    have hx' : (t.2.getD i []).length ≤ 1099511627776 := by omega
    simp (disch := omega) only [↓p_test, p_lt, p_le, p_ltN, p_leN, p_eqN, p_len, p_ofN, p_nat, p_rd, p_set, p_app, p_take, p_drop, p_rep, p_wrap, p_add, p_sub, p_no, p_eq, p_eqB, p_eqP, p_bnd_some, Pu.w64, Int.toNat_natCast, decide_eq_true_eq, Int.ofNat_lt, Int.ofNat_le, if_true, if_false, Int.natCast_nonneg, decide_true, decide_false, Bool.not_true, Bool.not_false, Bool.false_eq_true, Bool.not_eq_true, Bool.true_and, Bool.and_true, Bool.false_and, Bool.and_false, hlt, hl, hx', List.nil_append, ih]
theorem spec_l5Copy.is {k : Nat} {t : Pu.Tab} (hk : 4194304 + 1 ≤ k) (h1 : t.1.length ≤ 1048576) (ht : t.2.length ≤ 1048576) (hr : ∀ x ∈ t.2, x.length ≤ 1048576) : spec_l5Copy k t = some t := by
  obtain ⟨k, rfl⟩ : ∃ k', k = k' + 1 := ⟨k - 1, by omega⟩
  rw [spec_l5Copy.eq]
  have h := spec_l5Copy.loop (k := k) (t := t) (x3 := []) (x4 := t.1) (x5 := []) ht hr t.2.length k 0 (by omega) (by omega)
  rw [Int.natCast_zero, List.take_zero] at h
  have hl : t.1.length ≤ 1099511627776 := by omega
  simp only [↓p_test, p_lt, p_le, p_ltN, p_leN, p_eqN, p_len, p_ofN, p_nat, p_rd, p_set, p_app, p_take, p_drop, p_rep, p_wrap, p_add, p_sub, p_no, p_eq, p_eqB, p_eqP, p_bnd_some, Pu.w64, Int.toNat_natCast, decide_eq_true_eq, Int.ofNat_lt, Int.ofNat_le, if_true, if_false, Int.natCast_nonneg, decide_true, decide_false, Bool.not_true, Bool.not_false, Bool.false_eq_true, Bool.not_eq_true, Bool.true_and, Bool.and_true, Bool.false_and, Bool.and_false, List.nil_append, hl, h]
-- spec_l10Remove
theorem spec_l10Remove.L5_is {k k1 : Nat} {y : Int} {r : Nat} {rs d2 : List (List Int)} {inn d1 : List Int} (hr : r < rs.length) (hs : Pu.RowsLe 1000 1000 rs) : ∀ (m j q : Nat), m ≤ (rs.getD r []).length → m < j → Pu.lastLt (rs.getD r []) y m = some q →
    spec_l10Remove.L5 k k1 j y r ((m : Int) - 1) d1 d2 inn rs = spec_l10Remove.L3 k k1 ((rs.getD r []).getD q 0) ((r : Int) - 1) d1 d2 inn (rs.set r ((rs.getD r []).set q y))
  | m, 0, _, _, hj, _ => by omega
  | 0, j + 1, q, _, _, hq => by simp [Pu.lastLt] at hq
  | m + 1, j + 1, q, hm, hj, hq => by
    rw [spec_l10Remove.L5_eq]
    have hl := hs.1
    have hx := hs.at r
    have e : ((m + 1 : Nat) : Int) - 1 = (m : Int) := by omega
    have h1 : m < (rs.getD r []).length := by omega
    rw [e]
    unfold Pu.lastLt at hq
    by_cases c : (rs.getD r []).getD m 0 < y
    · rw [if_pos c] at hq
      injection hq with hq
      subst hq
      have c' : ¬ y ≤ (rs.getD r []).getD m 0 := by omega
      simp (disch := omega) only [↓p_test, p_lt, p_le, p_ltN, p_leN, p_eqN, p_len, p_ofN, p_nat, p_rd, p_set, p_app, p_take, p_drop, p_rep, p_wrap, p_add, p_sub, p_no, p_eq, p_eqB, p_eqP, p_bnd_some, Pu.w64, Int.toNat_natCast, decide_eq_true_eq, Int.ofNat_lt, Int.ofNat_le, if_true, if_false, Int.natCast_nonneg, decide_true, decide_false, Bool.not_true, Bool.not_false, Bool.false_eq_true, Bool.not_eq_true, Bool.true_and, Bool.and_true, Bool.false_and, Bool.and_false, hr, h1, c']
    · rw [if_neg c] at hq
      have c' : y ≤ (rs.getD r []).getD m 0 := by omega
      have ih := spec_l10Remove.L5_is (k := k) (k1 := k1) (y := y) (inn := inn) (d1 := d1) (d2 := d2) hr hs m j q (by omega) (by omega) hq
      simp (disch := omega) only [↓p_test, p_lt, p_le, p_ltN, p_leN, p_eqN, p_len, p_ofN, p_nat, p_rd, p_set, p_app, p_take, p_drop, p_rep, p_wrap, p_add, p_sub, p_no, p_eq, p_eqB, p_eqP, p_bnd_some, Pu.w64, Int.toNat_natCast, decide_eq_true_eq, Int.ofNat_lt, Int.ofNat_le, if_true, if_false, Int.natCast_nonneg, decide_true, decide_false, Bool.not_true, Bool.not_false, Bool.false_eq_true, Bool.not_eq_true, Bool.true_and, Bool.and_true, Bool.false_and, Bool.and_false, hr, h1, c', ih]
theorem spec_l10Remove.L3_is {k : Nat} {inn d1 : List Int} {d2 : List (List Int)} (hk : 2000 ≤ k) : ∀ (r j : Nat) (y : Int) (rs : List (List Int)), r ≤ rs.length → Pu.RowsLe 1000 1000 rs → r < j → Pu.okGo r rs y →
    spec_l10Remove.L3 k j y ((r : Int) - 1) d1 d2 inn rs = some ((inn, (Pu.remGo r rs y).1), (Pu.remGo r rs y).2)
  | r, 0, _, _, _, _, hj, _ => by omega
  | 0, j + 1, y, rs, _, _, _, _ => by
    rw [spec_l10Remove.L3_eq]
    have hn : ¬ ((0 : Int) ≤ ((0 : Nat) : Int) - 1) := by omega
    simp only [↓p_test, p_lt, p_le, p_ltN, p_leN, p_eqN, p_len, p_ofN, p_nat, p_rd, p_set, p_app, p_take, p_drop, p_rep, p_wrap, p_add, p_sub, p_no, p_eq, p_eqB, p_eqP, p_bnd_some, Pu.w64, Int.toNat_natCast, decide_eq_true_eq, Int.ofNat_lt, Int.ofNat_le, if_true, if_false, Int.natCast_nonneg, decide_true, decide_false, Bool.not_true, Bool.not_false, Bool.false_eq_true, Bool.not_eq_true, Bool.true_and, Bool.and_true, Bool.false_and, Bool.and_false, hn, Pu.remGo]
  | r + 1, j + 1, y, rs, hr, hs, hj, hg => by
    rw [spec_l10Remove.L3_eq]
    have e : ((r + 1 : Nat) : Int) - 1 = (r : Int) := by omega
    have hlt : r < rs.length := by omega
    have hx := hs.at r
    have hl := hs.1
    obtain ⟨q, hq, hg⟩ := hg
    have h5 := spec_l10Remove.L5_is (k := k) (k1 := j) (y := y) (inn := inn) (d1 := d1) (d2 := d2) hlt hs (rs.getD r []).length k q (by omega) (by omega) hq
    rw [e]
    unfold Pu.remGo
    rw [hq]
    simp (disch := omega) only [↓p_test, p_lt, p_le, p_ltN, p_leN, p_eqN, p_len, p_ofN, p_nat, p_rd, p_set, p_app, p_take, p_drop, p_rep, p_wrap, p_add, p_sub, p_no, p_eq, p_eqB, p_eqP, p_bnd_some, Pu.w64, Int.toNat_natCast, decide_eq_true_eq, Int.ofNat_lt, Int.ofNat_le, if_true, if_false, Int.natCast_nonneg, decide_true, decide_false, Bool.not_true, Bool.not_false, Bool.false_eq_true, Bool.not_eq_true, Bool.true_and, Bool.and_true, Bool.false_and, Bool.and_false, hlt, h5]
    exact spec_l10Remove.L3_is hk r j _ _ (by rw [List.length_set]; omega) (hs.set r (by rw [List.length_set]; exact hx)) (by omega) hg
theorem spec_l10Remove.L4_is {k k1 : Nat} {y : Int} {r : Nat} {n : Nat} {rs d2 : List (List Int)} {inn d1 : List Int} (hr : r < rs.length) (hn : r < n) (hs : Pu.RowsLe 1000 1000 rs) : ∀ (m j q : Nat), m ≤ (rs.getD r []).length → m < j → Pu.lastLt (rs.getD r []) y m = some q →
    spec_l10Remove.L4 k k1 j y r ((m : Int) - 1) 0 n d1 d2 inn rs = spec_l10Remove.L2 k k1 ((rs.getD r []).getD q 0) ((r : Int) - 1) 0 n d1 d2 inn (rs.set r ((rs.getD r []).set q y))
  | m, 0, _, _, hj, _ => by omega
  | 0, j + 1, q, _, _, hq => by simp [Pu.lastLt] at hq
  | m + 1, j + 1, q, hm, hj, hq => by
    rw [spec_l10Remove.L4_eq]
    have hl := hs.1
    have hx := hs.at r
    have e : ((m + 1 : Nat) : Int) - 1 = (m : Int) := by omega
    have h1 : m < (rs.getD r []).length := by omega
    rw [e]
    unfold Pu.lastLt at hq
    by_cases c : (rs.getD r []).getD m 0 < y
    · rw [if_pos c] at hq
      injection hq with hq
      subst hq
      have c' : ¬ y ≤ (rs.getD r []).getD m 0 := by omega
      simp (disch := omega) only [↓p_test, p_lt, p_le, p_ltN, p_leN, p_eqN, p_len, p_ofN, p_nat, p_rd, p_set, p_app, p_take, p_drop, p_rep, p_wrap, p_add, p_sub, p_no, p_eq, p_eqB, p_eqP, p_bnd_some, Pu.w64, Int.toNat_natCast, decide_eq_true_eq, Int.ofNat_lt, Int.ofNat_le, if_true, if_false, Int.natCast_nonneg, decide_true, decide_false, Bool.not_true, Bool.not_false, Bool.false_eq_true, Bool.not_eq_true, Bool.true_and, Bool.and_true, Bool.false_and, Bool.and_false, p_addN, Nat.zero_add, hr, hn, h1, c']
    · rw [if_neg c] at hq
      have c' : y ≤ (rs.getD r []).getD m 0 := by omega
      have ih := spec_l10Remove.L4_is (k := k) (k1 := k1) (y := y) (inn := inn) (d1 := d1) (d2 := d2) hr hn hs m j q (by omega) (by omega) hq
      simp (disch := omega) only [↓p_test, p_lt, p_le, p_ltN, p_leN, p_eqN, p_len, p_ofN, p_nat, p_rd, p_set, p_app, p_take, p_drop, p_rep, p_wrap, p_add, p_sub, p_no, p_eq, p_eqB, p_eqP, p_bnd_some, Pu.w64, Int.toNat_natCast, decide_eq_true_eq, Int.ofNat_lt, Int.ofNat_le, if_true, if_false, Int.natCast_nonneg, decide_true, decide_false, Bool.not_true, Bool.not_false, Bool.false_eq_true, Bool.not_eq_true, Bool.true_and, Bool.and_true, Bool.false_and, Bool.and_false, p_addN, Nat.zero_add, hr, hn, h1, c', ih]
theorem spec_l10Remove.L2_is {k : Nat} {n : Nat} {inn d1 : List Int} {d2 : List (List Int)} (hk : 2000 ≤ k) : ∀ (r j : Nat) (y : Int) (rs : List (List Int)), r ≤ rs.length → r ≤ n → Pu.RowsLe 1000 1000 rs → r < j → Pu.okGo r rs y →
    spec_l10Remove.L2 k j y ((r : Int) - 1) 0 n d1 d2 inn rs = some ((inn, (Pu.remGo r rs y).1.take n), (Pu.remGo r rs y).2)
  | r, 0, _, _, _, _, _, hj, _ => by omega
  | 0, j + 1, y, rs, _, _, _, _, _ => by
    rw [spec_l10Remove.L2_eq]
    have hn : ¬ ((0 : Int) ≤ ((0 : Nat) : Int) - 1) := by omega
    simp only [↓p_test, p_lt, p_le, p_ltN, p_leN, p_eqN, p_len, p_ofN, p_nat, p_rd, p_set, p_app, p_take, p_drop, p_rep, p_wrap, p_add, p_sub, p_no, p_eq, p_eqB, p_eqP, p_bnd_some, Pu.w64, Int.toNat_natCast, decide_eq_true_eq, Int.ofNat_lt, Int.ofNat_le, if_true, if_false, Int.natCast_nonneg, decide_true, decide_false, Bool.not_true, Bool.not_false, Bool.false_eq_true, Bool.not_eq_true, Bool.true_and, Bool.and_true, Bool.false_and, Bool.and_false, hn, Pu.remGo, List.drop_zero]
  | r + 1, j + 1, y, rs, hr, hrn, hs, hj, hg => by
    rw [spec_l10Remove.L2_eq]
    have e : ((r + 1 : Nat) : Int) - 1 = (r : Int) := by omega
    have hlt : r < rs.length := by omega
    have hn : r < n := by omega
    have hx := hs.at r
    have hl := hs.1
    obtain ⟨q, hq, hg⟩ := hg
    have h5 := spec_l10Remove.L4_is (k := k) (k1 := j) (y := y) (inn := inn) (d1 := d1) (d2 := d2) (n := n) hlt hn hs (rs.getD r []).length k q (by omega) (by omega) hq
    rw [e]
    unfold Pu.remGo
    rw [hq]
    simp (disch := omega) only [↓p_test, p_lt, p_le, p_ltN, p_leN, p_eqN, p_len, p_ofN, p_nat, p_rd, p_set, p_app, p_take, p_drop, p_rep, p_wrap, p_add, p_sub, p_no, p_eq, p_eqB, p_eqP, p_bnd_some, Pu.w64, Int.toNat_natCast, decide_eq_true_eq, Int.ofNat_lt, Int.ofNat_le, if_true, if_false, Int.natCast_nonneg, decide_true, decide_false, Bool.not_true, Bool.not_false, Bool.false_eq_true, Bool.not_eq_true, Bool.true_and, Bool.and_true, Bool.false_and, Bool.and_false, p_addN, Nat.zero_add, hlt, hn, h5]
    exact spec_l10Remove.L2_is hk r j _ _ (by rw [List.length_set]; omega) (by omega) (hs.set r (by rw [List.length_set]; exact hx)) (by omega) hg
theorem spec_l10Remove.is {k : Nat} {t : Pu.Tab} {n : Nat} (hk : 4194304 + 3 ≤ k) (h1 : t.1.length ≤ 1048576) (hs : Pu.RowsLe 9 9 t.2) (hn : n < t.2.length) (hl : 1 ≤ (t.2.getD n []).length)
    (hg : Pu.okGo n (t.2.set n ((t.2.getD n []).take ((t.2.getD n []).length - 1))) ((t.2.getD n []).getD ((t.2.getD n []).length - 1) 0)) :
    spec_l10Remove k t n = some ((t.1, (Pu.takeOut t.2 n).1), (Pu.takeOut t.2 n).2) := by
  obtain ⟨k, rfl⟩ : ∃ k', k = k' + 1 := ⟨k - 1, by omega⟩
  have h9 := hs.1
  have hx := hs.at n
  have hcp := spec_l5Copy.is (k := k) (t := t) (by omega) h1 (by omega) (fun r hr => by have := hs.2 r hr; omega)
  rw [spec_l10Remove.eq, show ((t.1, t.2) : Pu.Tab) = t from rfl, hcp, p_bnd_some]
  obtain ⟨inn, rs⟩ := t
  dsimp only at *
  have hs' : Pu.RowsLe 1000 1000 (rs.set n ((rs.getD n []).take ((rs.getD n []).length - 1))) := (hs.mono (by omega) (by omega)).set n (by rw [List.length_take]; omega)
  have ew : IntKind.i64.wrap (((rs.getD n []).length : Int) - 1) = (((rs.getD n []).length - 1 : Nat) : Int) := by rw [Pu.w64 (by omega) (by omega)]; omega
  have h3 := fun d1 d2 => spec_l10Remove.L3_is (k := k) (inn := inn) (d1 := d1) (d2 := d2) (by omega) n k ((rs.getD n []).getD ((rs.getD n []).length - 1) 0) _ (by rw [List.length_set]; omega) hs' (by omega) hg
  have h2 := fun d1 d2 => spec_l10Remove.L2_is (k := k) (n := n) (inn := inn) (d1 := d1) (d2 := d2) (by omega) n k ((rs.getD n []).getD ((rs.getD n []).length - 1) 0) _ (by rw [List.length_set]; omega) (by omega) hs' (by omega) hg
  have q1 : (rs.getD n []).length - 1 < (rs.getD n []).length := by omega
  have q2 : (rs.getD n []).length - 1 ≤ (rs.getD n []).length := by omega
  have q3 : n ≤ (rs.set n ((rs.getD n []).take ((rs.getD n []).length - 1))).length := by rw [List.length_set]; omega
  unfold Pu.takeOut
  by_cases c : (rs.getD n []).length = 1
  · have c' : (((rs.getD n []).length - 1 : Nat) : Int) = 0 := by omega
    rw [if_pos c]
    simp (disch := omega) only [↓p_test, p_lt, p_le, p_ltN, p_leN, p_eqN, p_len, p_ofN, p_nat, p_rd, p_set, p_app, p_take, p_drop, p_rep, p_wrap, p_add, p_sub, p_no, p_eq, p_eqB, p_eqP, p_bnd_some, Pu.w64, Int.toNat_natCast, decide_eq_true_eq, Int.ofNat_lt, Int.ofNat_le, if_true, if_false, Int.natCast_nonneg, decide_true, decide_false, Bool.not_true, Bool.not_false, Bool.false_eq_true, Bool.not_eq_true, Bool.true_and, Bool.and_true, Bool.false_and, Bool.and_false, p_subN, Nat.sub_zero, List.drop_zero, hn, ew, q1, q2, q3, spec_l10Remove.J0_eq, h2]
    simp only [c', decide_true, if_true]
  · have c' : ¬ (((rs.getD n []).length - 1 : Nat) : Int) = 0 := by omega
    simp (disch := omega) only [↓p_test, p_lt, p_le, p_ltN, p_leN, p_eqN, p_len, p_ofN, p_nat, p_rd, p_set, p_app, p_take, p_drop, p_rep, p_wrap, p_add, p_sub, p_no, p_eq, p_eqB, p_eqP, p_bnd_some, Pu.w64, Int.toNat_natCast, decide_eq_true_eq, Int.ofNat_lt, Int.ofNat_le, if_true, if_false, Int.natCast_nonneg, decide_true, decide_false, Bool.not_true, Bool.not_false, Bool.false_eq_true, Bool.not_eq_true, Bool.true_and, Bool.and_true, Bool.false_and, Bool.and_false, p_subN, Nat.sub_zero, List.drop_zero, hn, ew, q1, q2, q3, c, c', spec_l10Remove.J1_eq, h3]
-- spec_RemoveCell
theorem spec_RemoveCell.is {k : Nat} {t : Pu.Tab} {row : Int} (hk : 4194304 + 8 ≤ k) (h1 : t.1.length ≤ 1048576) (hl : t.2.length ≤ 1048576) (hr : ∀ r ∈ t.2, r.length ≤ 1048576) : spec_RemoveCell k t row = some (Pu.removeCell t row) := by
  obtain ⟨k, rfl⟩ : ∃ k', k = k' + 1 := ⟨k - 1, by omega⟩
  rw [spec_RemoveCell.eq, spec_l9Plain.is (by omega) h1 hl hr, p_bnd_some]
  unfold Pu.removeCell
  cases hp : Pu.isPlain t with
  | false => simp
  | true =>
    have hpp := hp
    simp only [Pu.isPlain, Bool.and_eq_true] at hpp
    have hs : Pu.shapeOf t = ((Pu.outer t, t.1), true) := by unfold Pu.shapeOf; rw [if_pos (Pu.tab_shape hpp.1)]
    have ho : (Pu.outer t).length ≤ 9 := by rw [Pu.outer_len]; exact (Pu.plain_rows hp).1
    have hc := spec_Corners.is (k := k) (p := Pu.outer t) (by omega) (by omega)
    have hh := spec_l10Has.is (k := k) (x := row) (r := Pu.corners (Pu.outer t)) (by omega) (by have := Pu.corners_len (Pu.outer t); omega)
    have hsh := spec_ShapeOf.is (k := k) (t := t) (by omega) h1 hl hr
    rw [show ((t.1, t.2) : Pu.Tab) = t from rfl]
    simp only [↓p_test, p_lt, p_le, p_ltN, p_leN, p_eqN, p_len, p_ofN, p_nat, p_rd, p_set, p_app, p_take, p_drop, p_rep, p_wrap, p_add, p_sub, p_no, p_eq, p_eqB, p_eqP, p_bnd_some, Pu.w64, Int.toNat_natCast, decide_eq_true_eq, Int.ofNat_lt, Int.ofNat_le, if_true, if_false, Int.natCast_nonneg, decide_true, decide_false, Bool.not_true, Bool.not_false, Bool.false_eq_true, Bool.not_eq_true, Bool.true_and, Bool.and_true, Bool.false_and, Bool.and_false, hsh, hs, hc, hh]
    cases hb : Pu.has (Pu.corners (Pu.outer t)) row with
    | false => simp
    | true =>
      obtain ⟨n, rfl, hn, hl1⟩ := Pu.corner_row hp hb
      have h10 := spec_l10Remove.is (k := k) (t := t) (n := n) (by omega) h1 (Pu.plain_rows hp) hn hl1 (Pu.plain_okGo hp hn hl1)
      simp only [↓p_test, p_lt, p_le, p_ltN, p_leN, p_eqN, p_len, p_ofN, p_nat, p_rd, p_set, p_app, p_take, p_drop, p_rep, p_wrap, p_add, p_sub, p_no, p_eq, p_eqB, p_eqP, p_bnd_some, Pu.w64, Int.toNat_natCast, decide_eq_true_eq, Int.ofNat_lt, Int.ofNat_le, if_true, if_false, Int.natCast_nonneg, decide_true, decide_false, Bool.not_true, Bool.not_false, Bool.false_eq_true, Bool.not_eq_true, Bool.true_and, Bool.and_true, Bool.false_and, Bool.and_false, h10, Int.toNat_natCast, and_self]
-- impl_within
theorem impl_within.is {k : Nat} {x lo hi : Int} (hk : 1 ≤ k) : impl_within k x lo hi = some (Pu.within x lo hi) := by
  obtain ⟨k, rfl⟩ : ∃ k', k = k' + 1 := ⟨k - 1, by omega⟩
  rw [impl_within.eq]
  by_cases h : lo ≤ x <;> simp [Pu.within, h]
-- impl_IsPartition
theorem impl_IsPartition.loop {k : Nat} {p : List Int} (hk : 4194304 ≤ k) (hp : p.length ≤ 1048576) : ∀ (m j i : Nat) (s v : Int), i + m = p.length → m < j → (i = 0 → v = 9) → (0 < i → v = p.getD (i - 1) 0) → v ≤ 9 → 0 ≤ s → s ≤ 9 →
    impl_IsPartition.L0 k j s p.length i p = some (Pu.partGo (p.drop i) v s)
  | m, 0, i, s, v, _, hj, _, _, _, _, _ => by omega
  | 0, j + 1, i, s, v, hi, _, _, _, _, _, _ => by
    rw [impl_IsPartition.L0_eq]
    have e : i = p.length := by omega
    subst e
    simp [Pu.partGo]
  | m + 1, j + 1, i, s, v, hi, hj, h0, h1, hv, hs, hs9 => by
    rw [impl_IsPartition.L0_eq]
    have hlt : i < p.length := by omega
    have hj1 : ∀ x : Int, x = p.getD i 0 → 1 ≤ x → x ≤ v → impl_IsPartition.J1 k j s x p.length i p = some (decide (s + x ≤ 9) && Pu.partGo (p.drop (i + 1)) x (s + x)) := by
      intro x hx hx1 hx2
      rw [impl_IsPartition.J1_eq]
      simp (disch := omega) only [↓p_test, p_lt, p_le, p_ltN, p_leN, p_eqN, p_len, p_ofN, p_nat, p_rd, p_set, p_app, p_take, p_drop, p_rep, p_wrap, p_add, p_sub, p_no, p_eq, p_eqB, p_eqP, p_bnd_some, Pu.w64, Int.toNat_natCast, decide_eq_true_eq, Int.ofNat_lt, Int.ofNat_le, if_true, if_false, Int.natCast_nonneg, decide_true, decide_false, Bool.not_true, Bool.not_false, Bool.false_eq_true, Bool.not_eq_true, Bool.true_and, Bool.and_true, Bool.false_and, Bool.and_false]
      by_cases c : 9 < s + x
      · have : ¬ s + x ≤ 9 := by omega
        simp [c, this]
      · have c' : s + x ≤ 9 := by omega
        have ih := impl_IsPartition.loop hk hp m j (i + 1) (s + x) x (by omega) (by omega) (by omega) (by simp [hx]) (by omega) (by omega) c'
        rw [Int.natCast_succ] at ih
        simp [c, c', ih]
    rw [Pu.drop_cons hlt 0]
    simp (disch := omega) only [↓p_test, p_lt, p_le, p_ltN, p_leN, p_eqN, p_len, p_ofN, p_nat, p_rd, p_set, p_app, p_take, p_drop, p_rep, p_wrap, p_add, p_sub, p_no, p_eq, p_eqB, p_eqP, p_bnd_some, Pu.w64, Int.toNat_natCast, decide_eq_true_eq, Int.ofNat_lt, Int.ofNat_le, if_true, if_false, Int.natCast_nonneg, decide_true, decide_false, Bool.not_true, Bool.not_false, Bool.false_eq_true, Bool.not_eq_true, Bool.true_and, Bool.and_true, Bool.false_and, Bool.and_false, hlt, impl_within.is, Pu.partGo]
    generalize hx : p.getD i 0 = x at *
    unfold Pu.within
    by_cases c1 : 1 ≤ x
    · by_cases c2 : x ≤ v
      · have c3 : x ≤ 9 := by omega
        have hj := hj1 x rfl c1 c2
        by_cases hi0 : i = 0
        · have hpos : ¬ (0 : Int) < i := by omega
          simp (disch := omega) only [↓p_test, p_lt, p_le, p_ltN, p_leN, p_eqN, p_len, p_ofN, p_nat, p_rd, p_set, p_app, p_take, p_drop, p_rep, p_wrap, p_add, p_sub, p_no, p_eq, p_eqB, p_eqP, p_bnd_some, Pu.w64, Int.toNat_natCast, decide_eq_true_eq, Int.ofNat_lt, Int.ofNat_le, if_true, if_false, Int.natCast_nonneg, decide_true, decide_false, Bool.not_true, Bool.not_false, Bool.false_eq_true, Bool.not_eq_true, Bool.true_and, Bool.and_true, Bool.false_and, Bool.and_false, c1, c2, c3, hpos, hj]
        · have hv' := h1 (by omega)
          have e : ((i : Int) - 1) = ((i - 1 : Nat) : Int) := by omega
          have hlt' : i - 1 < p.length := by omega
          have hge : ¬ p.getD (i - 1) 0 < x := by rw [← hv']; omega
          have hpos : (0 : Int) < i := by omega
          simp (disch := omega) only [e, ↓p_test, p_lt, p_le, p_ltN, p_leN, p_eqN, p_len, p_ofN, p_nat, p_rd, p_set, p_app, p_take, p_drop, p_rep, p_wrap, p_add, p_sub, p_no, p_eq, p_eqB, p_eqP, p_bnd_some, Pu.w64, Int.toNat_natCast, decide_eq_true_eq, Int.ofNat_lt, Int.ofNat_le, if_true, if_false, Int.natCast_nonneg, decide_true, decide_false, Bool.not_true, Bool.not_false, Bool.false_eq_true, Bool.not_eq_true, Bool.true_and, Bool.and_true, Bool.false_and, Bool.and_false, hlt', c1, c2, c3, hj, hpos, hge]
      · simp only [c1, c2, ↓p_test, p_lt, p_le, p_ltN, p_leN, p_eqN, p_len, p_ofN, p_nat, p_rd, p_set, p_app, p_take, p_drop, p_rep, p_wrap, p_add, p_sub, p_no, p_eq, p_eqB, p_eqP, p_bnd_some, Pu.w64, Int.toNat_natCast, decide_eq_true_eq, Int.ofNat_lt, Int.ofNat_le, if_true, if_false, Int.natCast_nonneg, decide_true, decide_false, Bool.not_true, Bool.not_false, Bool.false_eq_true, Bool.not_eq_true, Bool.true_and, Bool.and_true, Bool.false_and, Bool.and_false]
        by_cases c3 : x ≤ 9
        · have hi0 : 0 < i := by
            rcases Nat.eq_zero_or_pos i with h | h
            · have := h0 h; omega
            · exact h
          have hv' := h1 hi0
          have e : ((i : Int) - 1) = ((i - 1 : Nat) : Int) := by omega
          have hlt' : i - 1 < p.length := by omega
          have hge : p.getD (i - 1) 0 < x := by rw [← hv']; omega
          have hpos : (0 : Int) < i := by omega
          simp (disch := omega) only [e, ↓p_test, p_lt, p_le, p_ltN, p_leN, p_eqN, p_len, p_ofN, p_nat, p_rd, p_set, p_app, p_take, p_drop, p_rep, p_wrap, p_add, p_sub, p_no, p_eq, p_eqB, p_eqP, p_bnd_some, Pu.w64, Int.toNat_natCast, decide_eq_true_eq, Int.ofNat_lt, Int.ofNat_le, if_true, if_false, Int.natCast_nonneg, decide_true, decide_false, Bool.not_true, Bool.not_false, Bool.false_eq_true, Bool.not_eq_true, Bool.true_and, Bool.and_true, Bool.false_and, Bool.and_false, hlt', c3, hpos, hge]
        · simp only [c3, ↓p_test, p_lt, p_le, p_ltN, p_leN, p_eqN, p_len, p_ofN, p_nat, p_rd, p_set, p_app, p_take, p_drop, p_rep, p_wrap, p_add, p_sub, p_no, p_eq, p_eqB, p_eqP, p_bnd_some, Pu.w64, Int.toNat_natCast, decide_eq_true_eq, Int.ofNat_lt, Int.ofNat_le, if_true, if_false, Int.natCast_nonneg, decide_true, decide_false, Bool.not_true, Bool.not_false, Bool.false_eq_true, Bool.not_eq_true, Bool.true_and, Bool.and_true, Bool.false_and, Bool.and_false]
    · simp only [c1, ↓p_test, p_lt, p_le, p_ltN, p_leN, p_eqN, p_len, p_ofN, p_nat, p_rd, p_set, p_app, p_take, p_drop, p_rep, p_wrap, p_add, p_sub, p_no, p_eq, p_eqB, p_eqP, p_bnd_some, Pu.w64, Int.toNat_natCast, decide_eq_true_eq, Int.ofNat_lt, Int.ofNat_le, if_true, if_false, Int.natCast_nonneg, decide_true, decide_false, Bool.not_true, Bool.not_false, Bool.false_eq_true, Bool.not_eq_true, Bool.true_and, Bool.and_true, Bool.false_and, Bool.and_false]
theorem impl_IsPartition.is {k : Nat} {p : List Int} (hk : 4194304 + 1 ≤ k) (hp : p.length ≤ 1048576) : impl_IsPartition k p = some (Pu.isPart p) := by
  obtain ⟨k, rfl⟩ : ∃ k', k = k' + 1 := ⟨k - 1, by omega⟩
  rw [impl_IsPartition.eq]
  exact impl_IsPartition.loop (k := k) (by omega) hp p.length k 0 0 9 (by omega) (by omega) (fun _ => rfl) (by omega) (by omega) (by omega) (by omega)
-- slices_Clone__int_int
theorem slices_Clone__int_int.is {k : Nat} {a : List Int} (hk : 1 ≤ k) (ha : a.length ≤ 1099511627776) : slices_Clone__int_int k a = some a := by
  obtain ⟨k, rfl⟩ : ∃ k', k = k' + 1 := ⟨k - 1, by omega⟩
  rw [slices_Clone__int_int.eq]
  by_cases h : a.length = 0
  · have : a = [] := List.eq_nil_of_length_eq_zero h
    subst this
    simp [p_both, ways_self]
  · simp [h, ha]
-- impl_at
theorem impl_at.is {k : Nat} {p : List Int} {i : Int} (hk : 2 ≤ k) (hp : p.length ≤ 1048576) : impl_at k p i = some (Pu.atI p i) := by
  obtain ⟨k, rfl⟩ : ∃ k', k = k' + 1 := ⟨k - 1, by omega⟩
  rw [impl_at.eq, impl_within.is (by omega)]
  unfold Pu.within
  by_cases h1 : 0 ≤ i
  · have h0 : ¬ i < 0 := by omega
    by_cases h2 : i ≤ (p.length : Int) - 1
    · have h4 : i.toNat < p.length := by omega
      simp (disch := omega) only [↓p_test, p_lt, p_le, p_ltN, p_leN, p_eqN, p_len, p_ofN, p_nat, p_rd, p_set, p_app, p_take, p_drop, p_rep, p_wrap, p_add, p_sub, p_no, p_eq, p_eqB, p_eqP, p_bnd_some, Pu.w64, Int.toNat_natCast, decide_eq_true_eq, Int.ofNat_lt, Int.ofNat_le, if_true, if_false, Int.natCast_nonneg, decide_true, decide_false, Bool.not_true, Bool.not_false, Bool.false_eq_true, Bool.not_eq_true, Bool.true_and, Bool.and_true, Bool.false_and, Bool.and_false, h0, h1, h2, h4, Pu.atI]
    · simp (disch := omega) only [↓p_test, p_lt, p_le, p_ltN, p_leN, p_eqN, p_len, p_ofN, p_nat, p_rd, p_set, p_app, p_take, p_drop, p_rep, p_wrap, p_add, p_sub, p_no, p_eq, p_eqB, p_eqP, p_bnd_some, Pu.w64, Int.toNat_natCast, decide_eq_true_eq, Int.ofNat_lt, Int.ofNat_le, if_true, if_false, Int.natCast_nonneg, decide_true, decide_false, Bool.not_true, Bool.not_false, Bool.false_eq_true, Bool.not_eq_true, Bool.true_and, Bool.and_true, Bool.false_and, Bool.and_false, h1, h2, Pu.atI_ge (p := p) (i := i) (by omega)]
  · simp (disch := omega) only [↓p_test, p_lt, p_le, p_ltN, p_leN, p_eqN, p_len, p_ofN, p_nat, p_rd, p_set, p_app, p_take, p_drop, p_rep, p_wrap, p_add, p_sub, p_no, p_eq, p_eqB, p_eqP, p_bnd_some, Pu.w64, Int.toNat_natCast, decide_eq_true_eq, Int.ofNat_lt, Int.ofNat_le, if_true, if_false, Int.natCast_nonneg, decide_true, decide_false, Bool.not_true, Bool.not_false, Bool.false_eq_true, Bool.not_eq_true, Bool.true_and, Bool.and_true, Bool.false_and, Bool.and_false, h1, Pu.atI_neg (p := p) (i := i) (by omega)]
-- impl_IsInside
theorem impl_IsInside.loop {k : Nat} {q p : List Int} (hq : q.length ≤ 1048576) (hp : p.length ≤ 1048576) (hk : 4194304 + 2 ≤ k) : impl_IsInside.L1 k k q.length 0 p q = some ((List.range' 0 q.length).all fun i => decide (q.getD i 0 ≤ p.getD i 0)) := by
  have h := Pu.loop_all (fun j i => impl_IsInside.L1 k j q.length (i : Int) p q) q.length (fun i => decide (q.getD i 0 ≤ p.getD i 0)) (some false) (some true)
    (fun j i hi => by
      rw [impl_IsInside.L1_eq, impl_at.is (by omega) hp, Pu.atI_nat]
      simp (disch := omega) only [↓p_test, p_lt, p_le, p_ltN, p_leN, p_eqN, p_len, p_ofN, p_nat, p_rd, p_set, p_app, p_take, p_drop, p_rep, p_wrap, p_add, p_sub, p_no, p_eq, p_eqB, p_eqP, p_bnd_some, Pu.w64, Int.toNat_natCast, decide_eq_true_eq, Int.ofNat_lt, Int.ofNat_le, if_true, if_false, Int.natCast_nonneg, decide_true, decide_false, Bool.not_true, Bool.not_false, Bool.false_eq_true, Bool.not_eq_true, Bool.true_and, Bool.and_true, Bool.false_and, Bool.and_false, hi, Int.natCast_add, Int.natCast_one]
      by_cases c : q.getD i 0 ≤ p.getD i 0
      · have c' : ¬ p.getD i 0 < q.getD i 0 := by omega
        simp only [c, c', ↓p_test, p_lt, p_le, p_ltN, p_leN, p_eqN, p_len, p_ofN, p_nat, p_rd, p_set, p_app, p_take, p_drop, p_rep, p_wrap, p_add, p_sub, p_no, p_eq, p_eqB, p_eqP, p_bnd_some, Pu.w64, Int.toNat_natCast, decide_eq_true_eq, Int.ofNat_lt, Int.ofNat_le, if_true, if_false, Int.natCast_nonneg, decide_true, decide_false, Bool.not_true, Bool.not_false, Bool.false_eq_true, Bool.not_eq_true, Bool.true_and, Bool.and_true, Bool.false_and, Bool.and_false]
      · have c' : p.getD i 0 < q.getD i 0 := by omega
        simp only [c, c', ↓p_test, p_lt, p_le, p_ltN, p_leN, p_eqN, p_len, p_ofN, p_nat, p_rd, p_set, p_app, p_take, p_drop, p_rep, p_wrap, p_add, p_sub, p_no, p_eq, p_eqB, p_eqP, p_bnd_some, Pu.w64, Int.toNat_natCast, decide_eq_true_eq, Int.ofNat_lt, Int.ofNat_le, if_true, if_false, Int.natCast_nonneg, decide_true, decide_false, Bool.not_true, Bool.not_false, Bool.false_eq_true, Bool.not_eq_true, Bool.true_and, Bool.and_true, Bool.false_and, Bool.and_false])
    (fun j => by
      rw [impl_IsInside.L1_eq]
      simp only [↓p_test, p_lt, p_le, p_ltN, p_leN, p_eqN, p_len, p_ofN, p_nat, p_rd, p_set, p_app, p_take, p_drop, p_rep, p_wrap, p_add, p_sub, p_no, p_eq, p_eqB, p_eqP, p_bnd_some, Pu.w64, Int.toNat_natCast, decide_eq_true_eq, Int.ofNat_lt, Int.ofNat_le, if_true, if_false, Int.natCast_nonneg, decide_true, decide_false, Bool.not_true, Bool.not_false, Bool.false_eq_true, Bool.not_eq_true, Bool.true_and, Bool.and_true, Bool.false_and, Bool.and_false, Nat.lt_irrefl]) q.length k 0 (by omega) (by omega)
  simp only [Int.natCast_zero] at h
  rw [h]
  cases (List.range' 0 q.length).all fun i => decide (q.getD i 0 ≤ p.getD i 0) <;> simp
theorem impl_IsInside.is {k : Nat} {q p : List Int} (hk : 4194304 + 3 ≤ k) (hq : q.length ≤ 1048576) (hp : p.length ≤ 1048576) : impl_IsInside k q p = some (Pu.isInside q p) := by
  obtain ⟨k, rfl⟩ : ∃ k', k = k' + 1 := ⟨k - 1, by omega⟩
  rw [impl_IsInside.eq, impl_IsPartition.is (by omega) hq, p_bnd_some, impl_IsInside.J0_eq, Pu.isInside_eq]
  cases c1 : Pu.isPart q with
  | false => simp only [↓p_test, p_lt, p_le, p_ltN, p_leN, p_eqN, p_len, p_ofN, p_nat, p_rd, p_set, p_app, p_take, p_drop, p_rep, p_wrap, p_add, p_sub, p_no, p_eq, p_eqB, p_eqP, p_bnd_some, Pu.w64, Int.toNat_natCast, decide_eq_true_eq, Int.ofNat_lt, Int.ofNat_le, if_true, if_false, Int.natCast_nonneg, decide_true, decide_false, Bool.not_true, Bool.not_false, Bool.false_eq_true, Bool.not_eq_true, Bool.true_and, Bool.and_true, Bool.false_and, Bool.and_false]
  | true =>
    simp only [↓p_test, p_lt, p_le, p_ltN, p_leN, p_eqN, p_len, p_ofN, p_nat, p_rd, p_set, p_app, p_take, p_drop, p_rep, p_wrap, p_add, p_sub, p_no, p_eq, p_eqB, p_eqP, p_bnd_some, Pu.w64, Int.toNat_natCast, decide_eq_true_eq, Int.ofNat_lt, Int.ofNat_le, if_true, if_false, Int.natCast_nonneg, decide_true, decide_false, Bool.not_true, Bool.not_false, Bool.false_eq_true, Bool.not_eq_true, Bool.true_and, Bool.and_true, Bool.false_and, Bool.and_false]
    rw [impl_IsPartition.is (by omega) hp, p_bnd_some]
    cases c2 : Pu.isPart p with
    | false => simp only [↓p_test, p_lt, p_le, p_ltN, p_leN, p_eqN, p_len, p_ofN, p_nat, p_rd, p_set, p_app, p_take, p_drop, p_rep, p_wrap, p_add, p_sub, p_no, p_eq, p_eqB, p_eqP, p_bnd_some, Pu.w64, Int.toNat_natCast, decide_eq_true_eq, Int.ofNat_lt, Int.ofNat_le, if_true, if_false, Int.natCast_nonneg, decide_true, decide_false, Bool.not_true, Bool.not_false, Bool.false_eq_true, Bool.not_eq_true, Bool.true_and, Bool.and_true, Bool.false_and, Bool.and_false]
    | true =>
      simp only [↓p_test, p_lt, p_le, p_ltN, p_leN, p_eqN, p_len, p_ofN, p_nat, p_rd, p_set, p_app, p_take, p_drop, p_rep, p_wrap, p_add, p_sub, p_no, p_eq, p_eqB, p_eqP, p_bnd_some, Pu.w64, Int.toNat_natCast, decide_eq_true_eq, Int.ofNat_lt, Int.ofNat_le, if_true, if_false, Int.natCast_nonneg, decide_true, decide_false, Bool.not_true, Bool.not_false, Bool.false_eq_true, Bool.not_eq_true, Bool.true_and, Bool.and_true, Bool.false_and, Bool.and_false]
      exact impl_IsInside.loop hq hp (by omega)
-- impl_IsShape
theorem impl_IsShape.is {k : Nat} {s : List Int × List Int} (hk : 4194304 + 4 ≤ k) (hq : s.1.length ≤ 1048576) (hp : s.2.length ≤ 1048576) : impl_IsShape k s = some (Pu.isInside s.2 s.1) := by
  obtain ⟨k, rfl⟩ : ∃ k', k = k' + 1 := ⟨k - 1, by omega⟩
  rw [impl_IsShape.eq, impl_IsInside.is (by omega) hp hq]
  rfl
-- impl_ShapeOf
theorem impl_ShapeOf.loop {k : Nat} {t : Pu.Tab} {x3 x4 : List Int} (hk : 4194304 + 4 ≤ k) (hi : Pu.isPart t.1 = true) (h2 : t.2.length ≤ 1048576) (hr : ∀ x ∈ t.2, x.length ≤ 1048576) : ∀ (m j i : Nat) (acc : List Int), i + m = t.2.length → m < j → acc.length = i →
    impl_ShapeOf.L1 k j t.2.length i t.2 t.1 x3 x4 acc t.1 = some (if Pu.isInside t.1 (acc ++ Pu.outerGo t.1 i (t.2.drop i)) = true then ((acc ++ Pu.outerGo t.1 i (t.2.drop i), t.1), true) else (([], []), false))
  | m, 0, i, acc, _, hj, _ => by omega
  | 0, j + 1, i, acc, hm, _, hacc => by
    rw [impl_ShapeOf.L1_eq]
    have e : i = t.2.length := by omega
    have h9 := (Pu.isPart_spec hi).2.2.1
    have hlt : ¬ i < t.2.length := by omega
    rw [impl_IsShape.is (by omega) (by simp only; omega) (by simp only; omega), e]
    simp only [↓p_test, p_lt, p_le, p_ltN, p_leN, p_eqN, p_len, p_ofN, p_nat, p_rd, p_set, p_app, p_take, p_drop, p_rep, p_wrap, p_add, p_sub, p_no, p_eq, p_eqB, p_eqP, p_bnd_some, Pu.w64, Int.toNat_natCast, decide_eq_true_eq, Int.ofNat_lt, Int.ofNat_le, if_true, if_false, Int.natCast_nonneg, decide_true, decide_false, Bool.not_true, Bool.not_false, Bool.false_eq_true, Bool.not_eq_true, Bool.true_and, Bool.and_true, Bool.false_and, Bool.and_false, Nat.lt_irrefl, List.drop_length, Pu.outerGo, List.append_nil]
    cases Pu.isInside t.1 acc <;> simp
  | m + 1, j + 1, i, acc, hm, hj, hacc => by
    rw [impl_ShapeOf.L1_eq]
    have hlt : i < t.2.length := by omega
    have hb := Pu.part_atI hi i
    have h9 := (Pu.isPart_spec hi).2.2.1
    have hrow := hr t.2[i] (List.getElem_mem hlt)
    rw [← Pu.getD_lt hlt []] at hrow
    rw [impl_at.is (by omega) (by omega)]
    have ih := impl_ShapeOf.loop (x3 := x3) (x4 := x4) hk hi h2 hr m j (i + 1) (acc ++ [Pu.atI t.1 i + (t.2.getD i []).length]) (by omega) (by omega) (by simp [hacc])
    rw [Int.natCast_succ] at ih
    rw [Pu.drop_cons hlt []]
    have hl : (acc ++ [Pu.atI t.1 i + ((t.2.getD i []).length : Int)]).length ≤ 1099511627776 := by simp; omega
    simp (disch := omega) only [↓p_test, p_lt, p_le, p_ltN, p_leN, p_eqN, p_len, p_ofN, p_nat, p_rd, p_set, p_app, p_take, p_drop, p_rep, p_wrap, p_add, p_sub, p_no, p_eq, p_eqB, p_eqP, p_bnd_some, Pu.w64, Int.toNat_natCast, decide_eq_true_eq, Int.ofNat_lt, Int.ofNat_le, if_true, if_false, Int.natCast_nonneg, decide_true, decide_false, Bool.not_true, Bool.not_false, Bool.false_eq_true, Bool.not_eq_true, Bool.true_and, Bool.and_true, Bool.false_and, Bool.and_false, hlt, hl, ih, Pu.outerGo]
    simp only [List.append_assoc, List.singleton_append, Pu.atI_nat]
    rfl
theorem impl_ShapeOf.is {k : Nat} {t : Pu.Tab} (hk : 4194304 + 5 ≤ k) (h1 : t.1.length ≤ 1048576) (h2 : t.2.length ≤ 1048576) (hr : ∀ x ∈ t.2, x.length ≤ 1048576) : impl_ShapeOf k t = some (Pu.shapeOf t) := by
  obtain ⟨k, rfl⟩ : ∃ k', k = k' + 1 := ⟨k - 1, by omega⟩
  rw [impl_ShapeOf.eq, impl_IsPartition.is (by omega) h1, impl_ShapeOf.J0_eq, slices_Clone__int_int.is (by omega) (by omega)]
  simp only [↓p_test, p_lt, p_le, p_ltN, p_leN, p_eqN, p_len, p_ofN, p_nat, p_rd, p_set, p_app, p_take, p_drop, p_rep, p_wrap, p_add, p_sub, p_no, p_eq, p_eqB, p_eqP, p_bnd_some, Pu.w64, Int.toNat_natCast, decide_eq_true_eq, Int.ofNat_lt, Int.ofNat_le, if_true, if_false, Int.natCast_nonneg, decide_true, decide_false, Bool.not_true, Bool.not_false, Bool.false_eq_true, Bool.not_eq_true, Bool.true_and, Bool.and_true, Bool.false_and, Bool.and_false]
  unfold Pu.shapeOf
  cases c1 : Pu.isPart t.1 with
  | false =>
    have : Pu.shapeOK t = false := by unfold Pu.shapeOK; rw [c1]; rfl
    simp only [this, ↓p_test, p_lt, p_le, p_ltN, p_leN, p_eqN, p_len, p_ofN, p_nat, p_rd, p_set, p_app, p_take, p_drop, p_rep, p_wrap, p_add, p_sub, p_no, p_eq, p_eqB, p_eqP, p_bnd_some, Pu.w64, Int.toNat_natCast, decide_eq_true_eq, Int.ofNat_lt, Int.ofNat_le, if_true, if_false, Int.natCast_nonneg, decide_true, decide_false, Bool.not_true, Bool.not_false, Bool.false_eq_true, Bool.not_eq_true, Bool.true_and, Bool.and_true, Bool.false_and, Bool.and_false]
  | true =>
    by_cases c2 : t.2.length < t.1.length
    · have : Pu.shapeOK t = false := by
        have : ¬ t.1.length ≤ t.2.length := by omega
        unfold Pu.shapeOK; simp [this]
      simp only [this, c2, ↓p_test, p_lt, p_le, p_ltN, p_leN, p_eqN, p_len, p_ofN, p_nat, p_rd, p_set, p_app, p_take, p_drop, p_rep, p_wrap, p_add, p_sub, p_no, p_eq, p_eqB, p_eqP, p_bnd_some, Pu.w64, Int.toNat_natCast, decide_eq_true_eq, Int.ofNat_lt, Int.ofNat_le, if_true, if_false, Int.natCast_nonneg, decide_true, decide_false, Bool.not_true, Bool.not_false, Bool.false_eq_true, Bool.not_eq_true, Bool.true_and, Bool.and_true, Bool.false_and, Bool.and_false]
    · have c2' : t.1.length ≤ t.2.length := by omega
      have hloop := impl_ShapeOf.loop (k := k) (t := t) (x3 := []) (x4 := []) (by omega) c1 h2 hr t.2.length k 0 [] (by omega) (by omega) rfl
      rw [Int.natCast_zero] at hloop
      simp only [c2, ↓p_test, p_lt, p_le, p_ltN, p_leN, p_eqN, p_len, p_ofN, p_nat, p_rd, p_set, p_app, p_take, p_drop, p_rep, p_wrap, p_add, p_sub, p_no, p_eq, p_eqB, p_eqP, p_bnd_some, Pu.w64, Int.toNat_natCast, decide_eq_true_eq, Int.ofNat_lt, Int.ofNat_le, if_true, if_false, Int.natCast_nonneg, decide_true, decide_false, Bool.not_true, Bool.not_false, Bool.false_eq_true, Bool.not_eq_true, Bool.true_and, Bool.and_true, Bool.false_and, Bool.and_false]
      rw [hloop]
      have : Pu.shapeOK t = Pu.isInside t.1 (Pu.outer t) := by unfold Pu.shapeOK; simp [c1, c2']
      rw [this]
      rfl
-- impl_Tableau_entry
theorem impl_Tableau_entry.is {k : Nat} {t : Pu.Tab} {r c : Int} (hk : 3 ≤ k) (hi : Pu.isPart t.1 = true) (ht : t.2.length ≤ 1048576) (hr : ∀ x ∈ t.2, x.length ≤ 1048576) (h1 : -1000000000 ≤ c) (h2 : c ≤ 1000000000) : impl_Tableau_entry k t r c = some (Pu.entry t r c) := by
  obtain ⟨k, rfl⟩ : ∃ k', k = k' + 1 := ⟨k - 1, by omega⟩
  have hb := Pu.part_atI hi r
  have h9 := (Pu.isPart_spec hi).2.2.1
  rw [impl_Tableau_entry.eq, impl_within.is (by omega)]
  unfold Pu.entry Pu.within
  by_cases c1 : r < 0
  · have c1' : ¬ 0 ≤ r := by omega
    simp (disch := omega) only [↓p_test, p_lt, p_le, p_ltN, p_leN, p_eqN, p_len, p_ofN, p_nat, p_rd, p_set, p_app, p_take, p_drop, p_rep, p_wrap, p_add, p_sub, p_no, p_eq, p_eqB, p_eqP, p_bnd_some, Pu.w64, Int.toNat_natCast, decide_eq_true_eq, Int.ofNat_lt, Int.ofNat_le, if_true, if_false, Int.natCast_nonneg, decide_true, decide_false, Bool.not_true, Bool.not_false, Bool.false_eq_true, Bool.not_eq_true, Bool.true_and, Bool.and_true, Bool.false_and, Bool.and_false, c1, c1']
  · have c3 : 0 ≤ r := by omega
    by_cases c2 : (t.2.length : Int) ≤ r
    · have c2' : ¬ r ≤ (t.2.length : Int) - 1 := by omega
      simp (disch := omega) only [↓p_test, p_lt, p_le, p_ltN, p_leN, p_eqN, p_len, p_ofN, p_nat, p_rd, p_set, p_app, p_take, p_drop, p_rep, p_wrap, p_add, p_sub, p_no, p_eq, p_eqB, p_eqP, p_bnd_some, Pu.w64, Int.toNat_natCast, decide_eq_true_eq, Int.ofNat_lt, Int.ofNat_le, if_true, if_false, Int.natCast_nonneg, decide_true, decide_false, Bool.not_true, Bool.not_false, Bool.false_eq_true, Bool.not_eq_true, Bool.true_and, Bool.and_true, Bool.false_and, Bool.and_false, c1, c3, c2, c2']
    · have c2' : r ≤ (t.2.length : Int) - 1 := by omega
      have c4 : r.toNat < t.2.length := by omega
      have hx := hr _ (List.getElem_mem c4)
      rw [← Pu.getD_lt c4 []] at hx
      simp (disch := omega) only [↓p_test, p_lt, p_le, p_ltN, p_leN, p_eqN, p_len, p_ofN, p_nat, p_rd, p_set, p_app, p_take, p_drop, p_rep, p_wrap, p_add, p_sub, p_no, p_eq, p_eqB, p_eqP, p_bnd_some, Pu.w64, Int.toNat_natCast, decide_eq_true_eq, Int.ofNat_lt, Int.ofNat_le, if_true, if_false, Int.natCast_nonneg, decide_true, decide_false, Bool.not_true, Bool.not_false, Bool.false_eq_true, Bool.not_eq_true, Bool.true_and, Bool.and_true, Bool.false_and, Bool.and_false, c1, c2, c2', c3, c4, impl_at.is]
-- impl_IsTableau
theorem impl_IsTableau.inner {k k1 : Nat} {t : Pu.Tab} {r : Nat} (hk : 4194304 ≤ k) (hi : Pu.isPart t.1 = true) (ht : t.2.length ≤ 1048576) (hr : ∀ x ∈ t.2, x.length ≤ 1048576) (hlt : r < t.2.length) (n : Int) :
    impl_IsTableau.L1 k k1 k r r n r r (t.2.getD r []).length 0 t.2 t.1 = if ((List.range' 0 (t.2.getD r []).length).all fun q => Pu.cellOK t r q) = true then impl_IsTableau.L0 k k1 n ((r : Int) + 1) t.2 t.1 else some false := by
  have hx := hr _ (List.getElem_mem hlt)
  rw [← Pu.getD_lt hlt []] at hx
  have hb := Pu.part_atI hi r
  have h9 := (Pu.isPart_spec hi).2.2.1
  have h := Pu.loop_all (fun j q => impl_IsTableau.L1 k k1 j r r n r r (t.2.getD r []).length (q : Int) t.2 t.1) (t.2.getD r []).length (fun q => Pu.cellOK t r q) (some false) (impl_IsTableau.L0 k k1 n ((r : Int) + 1) t.2 t.1)
    (fun j q hq => by
      have e3 := impl_Tableau_entry.is (k := k) (t := t) (r := (r : Int) - 1) (c := t.1.getD r 0 + q) (by omega) hi ht hr (by rw [Pu.atI_nat] at hb; omega) (by rw [Pu.atI_nat] at hb; omega)
      have ea := impl_at.is (k := k) (p := t.1) (i := r) (by omega) (by omega)
      rw [Pu.atI_nat] at ea
      rw [Pu.atI_nat] at hb
      rw [impl_IsTableau.L1_eq]
      simp (maxSteps := 10000000) (disch := omega) only [↓p_test, p_lt, p_le, p_ltN, p_leN, p_eqN, p_len, p_ofN, p_nat, p_rd, p_set, p_app, p_take, p_drop, p_rep, p_wrap, p_add, p_sub, p_no, p_eq, p_eqB, p_eqP, p_bnd_some, Pu.w64, Int.toNat_natCast, decide_eq_true_eq, Int.ofNat_lt, Int.ofNat_le, if_true, if_false, Int.natCast_nonneg, decide_true, decide_false, Bool.not_true, Bool.not_false, Bool.false_eq_true, Bool.not_eq_true, Bool.true_and, Bool.and_true, Bool.false_and, Bool.and_false, hlt, hq, impl_within.is, ea, e3, impl_IsTableau.J2_eq, Int.natCast_add, Int.natCast_one]
      unfold Pu.cellOK
      generalize hx0 : (t.2.getD r []).getD q 0 = x at *
      cases Pu.within x 1 9 with
      | false => simp
      | true =>
        -- above
        have up : (if (0 : Int) < r then (if x ≤ Pu.entry t ((r : Int) - 1) (t.1.getD r 0 + q) then some false else impl_IsTableau.L1 k k1 j r r n r r (t.2.getD r []).length ((q : Int) + 1) t.2 t.1) else impl_IsTableau.L1 k k1 j r r n r r (t.2.getD r []).length ((q : Int) + 1) t.2 t.1) =
            if (decide (r = 0) || decide (Pu.entry t ((r : Int) - 1) (t.1.getD r 0 + q) < x)) = true then impl_IsTableau.L1 k k1 j r r n r r (t.2.getD r []).length ((q : Int) + 1) t.2 t.1 else some false := by
          by_cases e : r = 0
          · subst e; simp
          · have e' : (0 : Int) < r := by omega
            by_cases c : x ≤ Pu.entry t ((r : Int) - 1) (t.1.getD r 0 + q)
            · have c' : ¬ Pu.entry t ((r : Int) - 1) (t.1.getD r 0 + q) < x := by omega
              simp only [e', c, c', e, if_true, if_false, decide_false, Bool.or_false, Bool.false_eq_true]
            · have c' : Pu.entry t ((r : Int) - 1) (t.1.getD r 0 + q) < x := by omega
              simp only [e', c, c', e, if_true, if_false, decide_true, decide_false, Bool.false_or]
        by_cases e : q = 0
        · have e' : ¬ (0 : Int) < q := by omega
          simp only [e', e, ↓p_test, p_lt, p_le, p_ltN, p_leN, p_eqN, p_len, p_ofN, p_nat, p_rd, p_set, p_app, p_take, p_drop, p_rep, p_wrap, p_add, p_sub, p_no, p_eq, p_eqB, p_eqP, p_bnd_some, Pu.w64, Int.toNat_natCast, decide_eq_true_eq, Int.ofNat_lt, Int.ofNat_le, if_true, if_false, Int.natCast_nonneg, decide_true, decide_false, Bool.not_true, Bool.not_false, Bool.false_eq_true, Bool.not_eq_true, Bool.true_and, Bool.and_true, Bool.false_and, Bool.and_false, Bool.true_or]
          rw [e] at up
          exact up
        · have e' : (0 : Int) < q := by omega
          have eq : (q : Int) - 1 = ((q - 1 : Nat) : Int) := by omega
          have hq' : q - 1 < (t.2.getD r []).length := by omega
          simp (disch := omega) only [e', e, ↓p_test, p_lt, p_le, p_ltN, p_leN, p_eqN, p_len, p_ofN, p_nat, p_rd, p_set, p_app, p_take, p_drop, p_rep, p_wrap, p_add, p_sub, p_no, p_eq, p_eqB, p_eqP, p_bnd_some, Pu.w64, Int.toNat_natCast, decide_eq_true_eq, Int.ofNat_lt, Int.ofNat_le, if_true, if_false, Int.natCast_nonneg, decide_true, decide_false, Bool.not_true, Bool.not_false, Bool.false_eq_true, Bool.not_eq_true, Bool.true_and, Bool.and_true, Bool.false_and, Bool.and_false, eq, hq', Bool.false_or]
          by_cases c : x < (t.2.getD r []).getD (q - 1) 0
          · have c' : ¬ (t.2.getD r []).getD (q - 1) 0 ≤ x := by omega
            simp only [c, c', ↓p_test, p_lt, p_le, p_ltN, p_leN, p_eqN, p_len, p_ofN, p_nat, p_rd, p_set, p_app, p_take, p_drop, p_rep, p_wrap, p_add, p_sub, p_no, p_eq, p_eqB, p_eqP, p_bnd_some, Pu.w64, Int.toNat_natCast, decide_eq_true_eq, Int.ofNat_lt, Int.ofNat_le, if_true, if_false, Int.natCast_nonneg, decide_true, decide_false, Bool.not_true, Bool.not_false, Bool.false_eq_true, Bool.not_eq_true, Bool.true_and, Bool.and_true, Bool.false_and, Bool.and_false]
          · have c' : (t.2.getD r []).getD (q - 1) 0 ≤ x := by omega
            simp only [c, c', ↓p_test, p_lt, p_le, p_ltN, p_leN, p_eqN, p_len, p_ofN, p_nat, p_rd, p_set, p_app, p_take, p_drop, p_rep, p_wrap, p_add, p_sub, p_no, p_eq, p_eqB, p_eqP, p_bnd_some, Pu.w64, Int.toNat_natCast, decide_eq_true_eq, Int.ofNat_lt, Int.ofNat_le, if_true, if_false, Int.natCast_nonneg, decide_true, decide_false, Bool.not_true, Bool.not_false, Bool.false_eq_true, Bool.not_eq_true, Bool.true_and, Bool.and_true, Bool.false_and, Bool.and_false]
            exact up)
    (fun j => by
      rw [impl_IsTableau.L1_eq]
      simp (maxSteps := 10000000) (disch := omega) only [↓p_test, p_lt, p_le, p_ltN, p_leN, p_eqN, p_len, p_ofN, p_nat, p_rd, p_set, p_app, p_take, p_drop, p_rep, p_wrap, p_add, p_sub, p_no, p_eq, p_eqB, p_eqP, p_bnd_some, Pu.w64, Int.toNat_natCast, decide_eq_true_eq, Int.ofNat_lt, Int.ofNat_le, if_true, if_false, Int.natCast_nonneg, decide_true, decide_false, Bool.not_true, Bool.not_false, Bool.false_eq_true, Bool.not_eq_true, Bool.true_and, Bool.and_true, Bool.false_and, Bool.and_false, Nat.lt_irrefl]) (t.2.getD r []).length k 0 (by omega) (by omega)
  simp only [Int.natCast_zero] at h
  exact h
theorem impl_IsTableau.is {k : Nat} {t : Pu.Tab} (hk : 4194304 + 6 ≤ k) (h1 : t.1.length ≤ 1048576) (ht : t.2.length ≤ 1048576) (hr : ∀ x ∈ t.2, x.length ≤ 1048576) : impl_IsTableau k t = some (Pu.isTab t) := by
  obtain ⟨k, rfl⟩ : ∃ k', k = k' + 1 := ⟨k - 1, by omega⟩
  rw [impl_IsTableau.eq, impl_ShapeOf.is (by omega) h1 ht hr, p_bnd_some]
  unfold Pu.isTab Pu.shapeOf
  cases hs : Pu.shapeOK t with
  | false => simp [hs]
  | true =>
    have hi : Pu.isPart t.1 = true := by
      simp only [Pu.shapeOK, Bool.and_eq_true] at hs; exact hs.1
    have h := Pu.loop_all (fun j r => impl_IsTableau.L0 k j t.2.length r t.2 t.1) t.2.length (fun r => (List.range' 0 (t.2.getD r []).length).all fun q => Pu.cellOK t r q) (some false) (some true)
      (fun j r hlt => by
        rw [impl_IsTableau.L0_eq]
        simp (disch := omega) only [↓p_test, p_lt, p_le, p_ltN, p_leN, p_eqN, p_len, p_ofN, p_nat, p_rd, p_set, p_app, p_take, p_drop, p_rep, p_wrap, p_add, p_sub, p_no, p_eq, p_eqB, p_eqP, p_bnd_some, Pu.w64, Int.toNat_natCast, decide_eq_true_eq, Int.ofNat_lt, Int.ofNat_le, if_true, if_false, Int.natCast_nonneg, decide_true, decide_false, Bool.not_true, Bool.not_false, Bool.false_eq_true, Bool.not_eq_true, Bool.true_and, Bool.and_true, Bool.false_and, Bool.and_false, hlt, impl_IsTableau.inner (k1 := j) (show 4194304 ≤ k by omega) hi ht hr hlt, Int.natCast_add, Int.natCast_one])
      (fun j => by
        rw [impl_IsTableau.L0_eq]
        simp (disch := omega) only [↓p_test, p_lt, p_le, p_ltN, p_leN, p_eqN, p_len, p_ofN, p_nat, p_rd, p_set, p_app, p_take, p_drop, p_rep, p_wrap, p_add, p_sub, p_no, p_eq, p_eqB, p_eqP, p_bnd_some, Pu.w64, Int.toNat_natCast, decide_eq_true_eq, Int.ofNat_lt, Int.ofNat_le, if_true, if_false, Int.natCast_nonneg, decide_true, decide_false, Bool.not_true, Bool.not_false, Bool.false_eq_true, Bool.not_eq_true, Bool.true_and, Bool.and_true, Bool.false_and, Bool.and_false, Nat.lt_irrefl]) t.2.length k 0 (by omega) (by omega)
    simp only [Int.natCast_zero] at h
    simp only [if_true, ↓p_test, p_lt, p_le, p_ltN, p_leN, p_eqN, p_len, p_ofN, p_nat, p_rd, p_set, p_app, p_take, p_drop, p_rep, p_wrap, p_add, p_sub, p_no, p_eq, p_eqB, p_eqP, p_bnd_some, Pu.w64, Int.toNat_natCast, decide_eq_true_eq, Int.ofNat_lt, Int.ofNat_le, if_true, if_false, Int.natCast_nonneg, decide_true, decide_false, Bool.not_true, Bool.not_false, Bool.false_eq_true, Bool.not_eq_true, Bool.true_and, Bool.and_true, Bool.false_and, Bool.and_false]
    rw [h]
    cases (List.range' 0 t.2.length).all fun r => (List.range' 0 (t.2.getD r []).length).all fun q => Pu.cellOK t r q <;> simp
-- impl_isPlain
theorem impl_isPlain.is {k : Nat} {t : Pu.Tab} (hk : 4194304 + 7 ≤ k) (h1 : t.1.length ≤ 1048576) (ht : t.2.length ≤ 1048576) (hr : ∀ x ∈ t.2, x.length ≤ 1048576) : impl_isPlain k t = some (Pu.isPlain t) := by
  obtain ⟨k, rfl⟩ : ∃ k', k = k' + 1 := ⟨k - 1, by omega⟩
  rw [impl_isPlain.eq, impl_IsTableau.is (by omega) h1 ht hr, p_bnd_some]
  unfold Pu.isPlain
  by_cases h : t.1.length = 0 <;> simp [h]
-- impl_Corners
theorem impl_Corners.loop {k : Nat} {p : List Int} (hk : 2 ≤ k) (hp : p.length ≤ 1000000) : ∀ (m j i : Nat) (acc : List Int), i + m = p.length → m < j → acc.length ≤ i → impl_Corners.L0 k j p.length i p acc = some (acc ++ Pu.cornGo p m i)
  | m, 0, i, acc, _, hj, _ => by omega
  | 0, j + 1, i, acc, hi, _, ha => by
    rw [impl_Corners.L0_eq]
    have hn : ¬ ((i : Int) < (p.length : Int)) := by omega
    simp only [↓p_test, p_lt, p_le, p_ltN, p_leN, p_eqN, p_len, p_ofN, p_nat, p_rd, p_set, p_app, p_take, p_drop, p_rep, p_wrap, p_add, p_sub, p_no, p_eq, p_eqB, p_eqP, p_bnd_some, Pu.w64, Int.toNat_natCast, decide_eq_true_eq, Int.ofNat_lt, Int.ofNat_le, if_true, if_false, Int.natCast_nonneg, decide_true, decide_false, Bool.not_true, Bool.not_false, Bool.false_eq_true, Bool.not_eq_true, Bool.true_and, Bool.and_true, Bool.false_and, Bool.and_false, hn, Pu.cornGo, List.append_nil]
  | m + 1, j + 1, i, acc, hi, hj, ha => by
    rw [impl_Corners.L0_eq]
    have h1 : i < p.length := by omega
    have e : (i : Int) + 1 = ((i + 1 : Nat) : Int) := by omega
    have ih := fun acc h => impl_Corners.loop hk hp m j (i + 1) acc (by omega) (by omega) h
    have hl : (acc ++ [(i : Int)]).length ≤ 1099511627776 := by rw [List.length_append, List.length_singleton]; omega
    have h2 := ih (acc ++ [(i : Int)]) (by rw [List.length_append, List.length_singleton]; omega)
    have h3 := ih acc (by omega)
    have ea : impl_at k p ((i : Int) + 1) = some (p.getD (i + 1) 0) := by rw [impl_at.is (by omega) (by omega), e, Pu.atI_nat]
    rw [← e] at h2 h3
    unfold Pu.cornGo
    by_cases c : p.getD (i + 1) 0 < p.getD i 0
    · simp (disch := omega) only [↓p_test, p_lt, p_le, p_ltN, p_leN, p_eqN, p_len, p_ofN, p_nat, p_rd, p_set, p_app, p_take, p_drop, p_rep, p_wrap, p_add, p_sub, p_no, p_eq, p_eqB, p_eqP, p_bnd_some, Pu.w64, Int.toNat_natCast, decide_eq_true_eq, Int.ofNat_lt, Int.ofNat_le, if_true, if_false, Int.natCast_nonneg, decide_true, decide_false, Bool.not_true, Bool.not_false, Bool.false_eq_true, Bool.not_eq_true, Bool.true_and, Bool.and_true, Bool.false_and, Bool.and_false, h1, ea, c, hl, impl_Corners.J1_eq, h2, List.append_assoc, List.cons_append, List.nil_append]
    · simp (disch := omega) only [↓p_test, p_lt, p_le, p_ltN, p_leN, p_eqN, p_len, p_ofN, p_nat, p_rd, p_set, p_app, p_take, p_drop, p_rep, p_wrap, p_add, p_sub, p_no, p_eq, p_eqB, p_eqP, p_bnd_some, Pu.w64, Int.toNat_natCast, decide_eq_true_eq, Int.ofNat_lt, Int.ofNat_le, if_true, if_false, Int.natCast_nonneg, decide_true, decide_false, Bool.not_true, Bool.not_false, Bool.false_eq_true, Bool.not_eq_true, Bool.true_and, Bool.and_true, Bool.false_and, Bool.and_false, h1, ea, c, impl_Corners.J1_eq, h3]
theorem impl_Corners.is {k : Nat} {p : List Int} (hk : 4194304 + 3 ≤ k) (hp : p.length ≤ 1000000) : impl_Corners k p = some (Pu.corners p) := by
  obtain ⟨k, rfl⟩ : ∃ k', k = k' + 1 := ⟨k - 1, by omega⟩
  rw [impl_Corners.eq, impl_IsPartition.is (by omega) (by omega), p_bnd_some]
  unfold Pu.corners
  have h := impl_Corners.loop (k := k) (p := p) (by omega) hp p.length k 0 [] (by omega) (by omega) (by simp)
  rw [Int.natCast_zero, List.nil_append] at h
  cases hb : Pu.isPart p with
  | true => simp only [↓p_test, p_lt, p_le, p_ltN, p_leN, p_eqN, p_len, p_ofN, p_nat, p_rd, p_set, p_app, p_take, p_drop, p_rep, p_wrap, p_add, p_sub, p_no, p_eq, p_eqB, p_eqP, p_bnd_some, Pu.w64, Int.toNat_natCast, decide_eq_true_eq, Int.ofNat_lt, Int.ofNat_le, if_true, if_false, Int.natCast_nonneg, decide_true, decide_false, Bool.not_true, Bool.not_false, Bool.false_eq_true, Bool.not_eq_true, Bool.true_and, Bool.and_true, Bool.false_and, Bool.and_false, h]
  | false => simp only [↓p_test, p_lt, p_le, p_ltN, p_leN, p_eqN, p_len, p_ofN, p_nat, p_rd, p_set, p_app, p_take, p_drop, p_rep, p_wrap, p_add, p_sub, p_no, p_eq, p_eqB, p_eqP, p_bnd_some, Pu.w64, Int.toNat_natCast, decide_eq_true_eq, Int.ofNat_lt, Int.ofNat_le, if_true, if_false, Int.natCast_nonneg, decide_true, decide_false, Bool.not_true, Bool.not_false, Bool.false_eq_true, Bool.not_eq_true, Bool.true_and, Bool.and_true, Bool.false_and, Bool.and_false]
-- slices_Index__int_int
theorem slices_Index__int_int.is {k : Nat} {r : List Int} {x : Int} (hk : 4194304 + 1 ≤ k) (hr : r.length ≤ 1048577) : slices_Index__int_int k r x = some (Pu.idxI (fun y => decide (x = y)) r) := by
  obtain ⟨k, rfl⟩ : ∃ k', k = k' + 1 := ⟨k - 1, by omega⟩
  rw [slices_Index__int_int.eq]
  have h := Pu.loop_idx r 0 (fun y => decide (x = y)) (fun j i => slices_Index__int_int.L0 k j x r.length i r) (fun i => some (i : Int)) (some (-1))
    (fun j i hi => by
      rw [slices_Index__int_int.L0_eq]
      by_cases c : x = r.getD i 0
      · simp (disch := omega) only [↓p_test, p_lt, p_le, p_ltN, p_leN, p_eqN, p_len, p_ofN, p_nat, p_rd, p_set, p_app, p_take, p_drop, p_rep, p_wrap, p_add, p_sub, p_no, p_eq, p_eqB, p_eqP, p_bnd_some, Pu.w64, Int.toNat_natCast, decide_eq_true_eq, Int.ofNat_lt, Int.ofNat_le, if_true, if_false, Int.natCast_nonneg, decide_true, decide_false, Bool.not_true, Bool.not_false, Bool.false_eq_true, Bool.not_eq_true, Bool.true_and, Bool.and_true, Bool.false_and, Bool.and_false, hi, ← c]
      · simp (disch := omega) only [↓p_test, p_lt, p_le, p_ltN, p_leN, p_eqN, p_len, p_ofN, p_nat, p_rd, p_set, p_app, p_take, p_drop, p_rep, p_wrap, p_add, p_sub, p_no, p_eq, p_eqB, p_eqP, p_bnd_some, Pu.w64, Int.toNat_natCast, decide_eq_true_eq, Int.ofNat_lt, Int.ofNat_le, if_true, if_false, Int.natCast_nonneg, decide_true, decide_false, Bool.not_true, Bool.not_false, Bool.false_eq_true, Bool.not_eq_true, Bool.true_and, Bool.and_true, Bool.false_and, Bool.and_false, hi, c, Int.natCast_add, Int.natCast_one])
    (fun j => by
      rw [slices_Index__int_int.L0_eq]
      simp only [↓p_test, p_lt, p_le, p_ltN, p_leN, p_eqN, p_len, p_ofN, p_nat, p_rd, p_set, p_app, p_take, p_drop, p_rep, p_wrap, p_add, p_sub, p_no, p_eq, p_eqB, p_eqP, p_bnd_some, Pu.w64, Int.toNat_natCast, decide_eq_true_eq, Int.ofNat_lt, Int.ofNat_le, if_true, if_false, Int.natCast_nonneg, decide_true, decide_false, Bool.not_true, Bool.not_false, Bool.false_eq_true, Bool.not_eq_true, Bool.true_and, Bool.and_true, Bool.false_and, Bool.and_false, Nat.lt_irrefl]) r.length k 0 (by omega) (by omega) (by omega)
  simp only [Int.natCast_zero] at h
  simp only [p_ofN, p_len]
  rw [h]
  unfold Pu.idxI
  split <;> rfl
-- slices_Contains__int_int
theorem slices_Contains__int_int.is {k : Nat} {r : List Int} {x : Int} (hk : 4194304 + 2 ≤ k) (hr : r.length ≤ 1048577) : slices_Contains__int_int k r x = some (Pu.has r x) := by
  obtain ⟨k, rfl⟩ : ∃ k', k = k' + 1 := ⟨k - 1, by omega⟩
  rw [slices_Contains__int_int.eq, slices_Index__int_int.is (by omega) hr, p_bnd_some, p_le, Pu.idxI_any]
  rfl
-- impl_Tableau_own
theorem impl_Tableau_own.loop {k : Nat} {t : Pu.Tab} {x3 x4 : List Int} {x5 : List (List Int)} (hk : 1 ≤ k) (ht : t.2.length ≤ 1048576) (hr : ∀ x ∈ t.2, x.length ≤ 1048576) : ∀ (m j i : Nat), i + m = t.2.length → m < j →
    impl_Tableau_own.L0 k j t.2.length i t.2 x3 x5 x4 (t.2.take i) = some (x4, t.2)
  | m, 0, i, _, hj => by omega
  | 0, j + 1, i, hm, _ => by
    rw [impl_Tableau_own.L0_eq]
    have e : i = t.2.length := by omega
    subst e
    simp
  | m + 1, j + 1, i, hm, hj => by
    rw [impl_Tableau_own.L0_eq]
    have hlt : i < t.2.length := by omega
    have hx := hr _ (List.getElem_mem hlt)
    rw [← Pu.getD_lt hlt []] at hx
    have ih := impl_Tableau_own.loop (k := k) (x3 := x3) (x4 := x4) (x5 := x5) hk ht hr m j (i + 1) (by omega) (by omega)
    rw [Int.natCast_succ, Pu.take_succ hlt []] at ih
    have hl : (t.2.take i ++ [t.2.getD i []]).length ≤ 1099511627776 := by simp; omega
    simp (disch := omega) only [↓p_test, p_lt, p_le, p_ltN, p_leN, p_eqN, p_len, p_ofN, p_nat, p_rd, p_set, p_app, p_take, p_drop, p_rep, p_wrap, p_add, p_sub, p_no, p_eq, p_eqB, p_eqP, p_bnd_some, Pu.w64, Int.toNat_natCast, decide_eq_true_eq, Int.ofNat_lt, Int.ofNat_le, if_true, if_false, Int.natCast_nonneg, decide_true, decide_false, Bool.not_true, Bool.not_false, Bool.false_eq_true, Bool.not_eq_true, Bool.true_and, Bool.and_true, Bool.false_and, Bool.and_false, hlt, hl, slices_Clone__int_int.is, ih]
theorem impl_Tableau_own.is {k : Nat} {t : Pu.Tab} (hk : 4194304 + 1 ≤ k) (h1 : t.1.length ≤ 1048576) (ht : t.2.length ≤ 1048576) (hr : ∀ x ∈ t.2, x.length ≤ 1048576) : impl_Tableau_own k t = some t := by
  obtain ⟨k, rfl⟩ : ∃ k', k = k' + 1 := ⟨k - 1, by omega⟩
  rw [impl_Tableau_own.eq, slices_Clone__int_int.is (by omega) (by omega)]
  have h := impl_Tableau_own.loop (k := k) (t := t) (x3 := []) (x4 := t.1) (x5 := []) (by omega) ht hr t.2.length k 0 (by omega) (by omega)
  rw [Int.natCast_zero, List.take_zero] at h
  exact h
-- impl_Tableau_remove_pwwi
theorem impl_Tableau_remove_pwwi.L5_is {k k1 : Nat} {y : Int} {r : Nat} {rs : List (List Int)} {inn : List Int} (hr : r < rs.length) (hs : Pu.RowsLe 1000 1000 rs) : ∀ (m j : Nat), m ≤ (rs.getD r []).length → m < j →
    impl_Tableau_remove_pwwi.L5 k k1 j ((m : Int) - 1) r y r rs inn = match Pu.lastLt (rs.getD r []) y m with
      | some q => impl_Tableau_remove_pwwi.L3 k k1 ((rs.getD r []).getD q 0) ((r : Int) - 1) inn (rs.set r ((rs.getD r []).set q y))
      | none => impl_Tableau_remove_pwwi.L3 k k1 y ((r : Int) - 1) inn rs
  | m, 0, _, hj => by omega
  | 0, j + 1, _, _ => by
    rw [impl_Tableau_remove_pwwi.L5_eq]
    have hl := hs.1
    have hn : ¬ ((0 : Int) ≤ ((0 : Nat) : Int) - 1) := by omega
    simp (disch := omega) only [↓p_test, p_lt, p_le, p_ltN, p_leN, p_eqN, p_len, p_ofN, p_nat, p_rd, p_set, p_app, p_take, p_drop, p_rep, p_wrap, p_add, p_sub, p_no, p_eq, p_eqB, p_eqP, p_bnd_some, Pu.w64, Int.toNat_natCast, decide_eq_true_eq, Int.ofNat_lt, Int.ofNat_le, if_true, if_false, Int.natCast_nonneg, decide_true, decide_false, Bool.not_true, Bool.not_false, Bool.false_eq_true, Bool.not_eq_true, Bool.true_and, Bool.and_true, Bool.false_and, Bool.and_false, hn, Pu.lastLt, impl_Tableau_remove_pwwi.J7_eq]
  | m + 1, j + 1, hm, hj => by
    rw [impl_Tableau_remove_pwwi.L5_eq]
    have hl := hs.1
    have hx := hs.at r
    have e : ((m + 1 : Nat) : Int) - 1 = (m : Int) := by omega
    have h1 : m < (rs.getD r []).length := by omega
    have ih := impl_Tableau_remove_pwwi.L5_is (k := k) (k1 := k1) (y := y) (inn := inn) hr hs m j (by omega) (by omega)
    rw [e]
    unfold Pu.lastLt
    by_cases c : (rs.getD r []).getD m 0 < y
    · simp (disch := omega) only [↓p_test, p_lt, p_le, p_ltN, p_leN, p_eqN, p_len, p_ofN, p_nat, p_rd, p_set, p_app, p_take, p_drop, p_rep, p_wrap, p_add, p_sub, p_no, p_eq, p_eqB, p_eqP, p_bnd_some, Pu.w64, Int.toNat_natCast, decide_eq_true_eq, Int.ofNat_lt, Int.ofNat_le, if_true, if_false, Int.natCast_nonneg, decide_true, decide_false, Bool.not_true, Bool.not_false, Bool.false_eq_true, Bool.not_eq_true, Bool.true_and, Bool.and_true, Bool.false_and, Bool.and_false, hr, h1, c, impl_Tableau_remove_pwwi.J7_eq]
    · simp (disch := omega) only [↓p_test, p_lt, p_le, p_ltN, p_leN, p_eqN, p_len, p_ofN, p_nat, p_rd, p_set, p_app, p_take, p_drop, p_rep, p_wrap, p_add, p_sub, p_no, p_eq, p_eqB, p_eqP, p_bnd_some, Pu.w64, Int.toNat_natCast, decide_eq_true_eq, Int.ofNat_lt, Int.ofNat_le, if_true, if_false, Int.natCast_nonneg, decide_true, decide_false, Bool.not_true, Bool.not_false, Bool.false_eq_true, Bool.not_eq_true, Bool.true_and, Bool.and_true, Bool.false_and, Bool.and_false, hr, h1, c, ih]
theorem impl_Tableau_remove_pwwi.L3_is {k : Nat} {inn : List Int} (hk : 2000 ≤ k) : ∀ (r j : Nat) (y : Int) (rs : List (List Int)), r ≤ rs.length → Pu.RowsLe 1000 1000 rs → r < j →
    impl_Tableau_remove_pwwi.L3 k j y ((r : Int) - 1) inn rs = some ((Pu.remGo r rs y).2, (inn, (Pu.remGo r rs y).1))
  | r, 0, _, _, _, _, hj => by omega
  | 0, j + 1, y, rs, _, _, _ => by
    rw [impl_Tableau_remove_pwwi.L3_eq]
    have hn : ¬ ((0 : Int) ≤ ((0 : Nat) : Int) - 1) := by omega
    simp only [↓p_test, p_lt, p_le, p_ltN, p_leN, p_eqN, p_len, p_ofN, p_nat, p_rd, p_set, p_app, p_take, p_drop, p_rep, p_wrap, p_add, p_sub, p_no, p_eq, p_eqB, p_eqP, p_bnd_some, Pu.w64, Int.toNat_natCast, decide_eq_true_eq, Int.ofNat_lt, Int.ofNat_le, if_true, if_false, Int.natCast_nonneg, decide_true, decide_false, Bool.not_true, Bool.not_false, Bool.false_eq_true, Bool.not_eq_true, Bool.true_and, Bool.and_true, Bool.false_and, Bool.and_false, hn, Pu.remGo]
  | r + 1, j + 1, y, rs, hr, hs, hj => by
    rw [impl_Tableau_remove_pwwi.L3_eq]
    have e : ((r + 1 : Nat) : Int) - 1 = (r : Int) := by omega
    have hlt : r < rs.length := by omega
    have hx := hs.at r
    have hl := hs.1
    have h5 := impl_Tableau_remove_pwwi.L5_is (k := k) (k1 := j) (y := y) (inn := inn) hlt hs (rs.getD r []).length k (by omega) (by omega)
    rw [e]
    unfold Pu.remGo
    cases hq : Pu.lastLt (rs.getD r []) y (rs.getD r []).length with
    | some q =>
      rw [hq] at h5
      simp (disch := omega) only [↓p_test, p_lt, p_le, p_ltN, p_leN, p_eqN, p_len, p_ofN, p_nat, p_rd, p_set, p_app, p_take, p_drop, p_rep, p_wrap, p_add, p_sub, p_no, p_eq, p_eqB, p_eqP, p_bnd_some, Pu.w64, Int.toNat_natCast, decide_eq_true_eq, Int.ofNat_lt, Int.ofNat_le, if_true, if_false, Int.natCast_nonneg, decide_true, decide_false, Bool.not_true, Bool.not_false, Bool.false_eq_true, Bool.not_eq_true, Bool.true_and, Bool.and_true, Bool.false_and, Bool.and_false, hlt, h5]
      exact impl_Tableau_remove_pwwi.L3_is hk r j _ _ (by rw [List.length_set]; omega) (hs.set r (by rw [List.length_set]; exact hx)) (by omega)
    | none =>
      rw [hq] at h5
      simp (disch := omega) only [↓p_test, p_lt, p_le, p_ltN, p_leN, p_eqN, p_len, p_ofN, p_nat, p_rd, p_set, p_app, p_take, p_drop, p_rep, p_wrap, p_add, p_sub, p_no, p_eq, p_eqB, p_eqP, p_bnd_some, Pu.w64, Int.toNat_natCast, decide_eq_true_eq, Int.ofNat_lt, Int.ofNat_le, if_true, if_false, Int.natCast_nonneg, decide_true, decide_false, Bool.not_true, Bool.not_false, Bool.false_eq_true, Bool.not_eq_true, Bool.true_and, Bool.and_true, Bool.false_and, Bool.and_false, hlt, h5]
      exact impl_Tableau_remove_pwwi.L3_is hk r j _ _ (by omega) hs (by omega)
theorem impl_Tableau_remove_pwwi.L4_is {k k1 : Nat} {y : Int} {r n : Nat} {rs : List (List Int)} {inn : List Int} (hr : r < rs.length) (hn : r < n) (hs : Pu.RowsLe 1000 1000 rs) : ∀ (m j : Nat), m ≤ (rs.getD r []).length → m < j →
    impl_Tableau_remove_pwwi.L4 k k1 j ((m : Int) - 1) r y r 0 n rs inn = match Pu.lastLt (rs.getD r []) y m with
      | some q => impl_Tableau_remove_pwwi.L2 k k1 ((rs.getD r []).getD q 0) ((r : Int) - 1) 0 n inn (rs.set r ((rs.getD r []).set q y))
      | none => impl_Tableau_remove_pwwi.L2 k k1 y ((r : Int) - 1) 0 n inn rs
  | m, 0, _, hj => by omega
  | 0, j + 1, _, _ => by
    rw [impl_Tableau_remove_pwwi.L4_eq]
    have hl := hs.1
    have hn : ¬ ((0 : Int) ≤ ((0 : Nat) : Int) - 1) := by omega
    simp (disch := omega) only [↓p_test, p_lt, p_le, p_ltN, p_leN, p_eqN, p_len, p_ofN, p_nat, p_rd, p_set, p_app, p_take, p_drop, p_rep, p_wrap, p_add, p_sub, p_no, p_eq, p_eqB, p_eqP, p_bnd_some, Pu.w64, Int.toNat_natCast, decide_eq_true_eq, Int.ofNat_lt, Int.ofNat_le, if_true, if_false, Int.natCast_nonneg, decide_true, decide_false, Bool.not_true, Bool.not_false, Bool.false_eq_true, Bool.not_eq_true, Bool.true_and, Bool.and_true, Bool.false_and, Bool.and_false, hn, Pu.lastLt, impl_Tableau_remove_pwwi.J6_eq]
  | m + 1, j + 1, hm, hj => by
    rw [impl_Tableau_remove_pwwi.L4_eq]
    have hl := hs.1
    have hx := hs.at r
    have e : ((m + 1 : Nat) : Int) - 1 = (m : Int) := by omega
    have h1 : m < (rs.getD r []).length := by omega
    have ih := impl_Tableau_remove_pwwi.L4_is (k := k) (k1 := k1) (y := y) (inn := inn) hr hn hs m j (by omega) (by omega)
    rw [e]
    unfold Pu.lastLt
    by_cases c : (rs.getD r []).getD m 0 < y
    · simp (disch := omega) only [↓p_test, p_lt, p_le, p_ltN, p_leN, p_eqN, p_len, p_ofN, p_nat, p_rd, p_set, p_app, p_take, p_drop, p_rep, p_wrap, p_add, p_sub, p_no, p_eq, p_eqB, p_eqP, p_bnd_some, Pu.w64, Int.toNat_natCast, decide_eq_true_eq, Int.ofNat_lt, Int.ofNat_le, if_true, if_false, Int.natCast_nonneg, decide_true, decide_false, Bool.not_true, Bool.not_false, Bool.false_eq_true, Bool.not_eq_true, Bool.true_and, Bool.and_true, Bool.false_and, Bool.and_false, p_addN, Nat.zero_add, hr, hn, h1, c, impl_Tableau_remove_pwwi.J6_eq]
    · simp (disch := omega) only [↓p_test, p_lt, p_le, p_ltN, p_leN, p_eqN, p_len, p_ofN, p_nat, p_rd, p_set, p_app, p_take, p_drop, p_rep, p_wrap, p_add, p_sub, p_no, p_eq, p_eqB, p_eqP, p_bnd_some, Pu.w64, Int.toNat_natCast, decide_eq_true_eq, Int.ofNat_lt, Int.ofNat_le, if_true, if_false, Int.natCast_nonneg, decide_true, decide_false, Bool.not_true, Bool.not_false, Bool.false_eq_true, Bool.not_eq_true, Bool.true_and, Bool.and_true, Bool.false_and, Bool.and_false, p_addN, Nat.zero_add, hr, hn, h1, c, ih]
theorem impl_Tableau_remove_pwwi.L2_is {k : Nat} {n : Nat} {inn : List Int} (hk : 2000 ≤ k) : ∀ (r j : Nat) (y : Int) (rs : List (List Int)), r ≤ rs.length → r ≤ n → Pu.RowsLe 1000 1000 rs → r < j →
    impl_Tableau_remove_pwwi.L2 k j y ((r : Int) - 1) 0 n inn rs = some ((Pu.remGo r rs y).2, (inn, (Pu.remGo r rs y).1.take n))
  | r, 0, _, _, _, _, _, hj => by omega
  | 0, j + 1, y, rs, _, _, _, _ => by
    rw [impl_Tableau_remove_pwwi.L2_eq]
    have hn : ¬ ((0 : Int) ≤ ((0 : Nat) : Int) - 1) := by omega
    simp only [↓p_test, p_lt, p_le, p_ltN, p_leN, p_eqN, p_len, p_ofN, p_nat, p_rd, p_set, p_app, p_take, p_drop, p_rep, p_wrap, p_add, p_sub, p_no, p_eq, p_eqB, p_eqP, p_bnd_some, Pu.w64, Int.toNat_natCast, decide_eq_true_eq, Int.ofNat_lt, Int.ofNat_le, if_true, if_false, Int.natCast_nonneg, decide_true, decide_false, Bool.not_true, Bool.not_false, Bool.false_eq_true, Bool.not_eq_true, Bool.true_and, Bool.and_true, Bool.false_and, Bool.and_false, hn, Pu.remGo, List.drop_zero]
  | r + 1, j + 1, y, rs, hr, hrn, hs, hj => by
    rw [impl_Tableau_remove_pwwi.L2_eq]
    have e : ((r + 1 : Nat) : Int) - 1 = (r : Int) := by omega
    have hlt : r < rs.length := by omega
    have hn : r < n := by omega
    have hx := hs.at r
    have hl := hs.1
    have h5 := impl_Tableau_remove_pwwi.L4_is (k := k) (k1 := j) (y := y) (n := n) (inn := inn) hlt hn hs (rs.getD r []).length k (by omega) (by omega)
    rw [e]
    unfold Pu.remGo
    cases hq : Pu.lastLt (rs.getD r []) y (rs.getD r []).length with
    | some q =>
      rw [hq] at h5
      simp (disch := omega) only [↓p_test, p_lt, p_le, p_ltN, p_leN, p_eqN, p_len, p_ofN, p_nat, p_rd, p_set, p_app, p_take, p_drop, p_rep, p_wrap, p_add, p_sub, p_no, p_eq, p_eqB, p_eqP, p_bnd_some, Pu.w64, Int.toNat_natCast, decide_eq_true_eq, Int.ofNat_lt, Int.ofNat_le, if_true, if_false, Int.natCast_nonneg, decide_true, decide_false, Bool.not_true, Bool.not_false, Bool.false_eq_true, Bool.not_eq_true, Bool.true_and, Bool.and_true, Bool.false_and, Bool.and_false, p_addN, Nat.zero_add, hlt, hn, h5]
      exact impl_Tableau_remove_pwwi.L2_is hk r j _ _ (by rw [List.length_set]; omega) (by omega) (hs.set r (by rw [List.length_set]; exact hx)) (by omega)
    | none =>
      rw [hq] at h5
      simp (disch := omega) only [↓p_test, p_lt, p_le, p_ltN, p_leN, p_eqN, p_len, p_ofN, p_nat, p_rd, p_set, p_app, p_take, p_drop, p_rep, p_wrap, p_add, p_sub, p_no, p_eq, p_eqB, p_eqP, p_bnd_some, Pu.w64, Int.toNat_natCast, decide_eq_true_eq, Int.ofNat_lt, Int.ofNat_le, if_true, if_false, Int.natCast_nonneg, decide_true, decide_false, Bool.not_true, Bool.not_false, Bool.false_eq_true, Bool.not_eq_true, Bool.true_and, Bool.and_true, Bool.false_and, Bool.and_false, p_addN, Nat.zero_add, hlt, hn, h5]
      exact impl_Tableau_remove_pwwi.L2_is hk r j _ _ (by omega) (by omega) hs (by omega)
theorem impl_Tableau_remove_pwwi.is {k : Nat} {rs : List (List Int)} {n : Nat} {inn : List Int} (hk : 4194304 + 1 ≤ k) (hs : Pu.RowsLe 9 9 rs) (hn : n < rs.length) (hl : 1 ≤ (rs.getD n []).length) :
    impl_Tableau_remove_pwwi k n inn rs = some ((Pu.takeOut rs n).2, (inn, (Pu.takeOut rs n).1)) := by
  obtain ⟨k, rfl⟩ : ∃ k', k = k' + 1 := ⟨k - 1, by omega⟩
  rw [impl_Tableau_remove_pwwi.eq]
  have h9 := hs.1
  have hx := hs.at n
  have hs' : Pu.RowsLe 1000 1000 (rs.set n ((rs.getD n []).take ((rs.getD n []).length - 1))) := (hs.mono (by omega) (by omega)).set n (by rw [List.length_take]; omega)
  have ew : IntKind.i64.wrap (((rs.getD n []).length : Int) - 1) = (((rs.getD n []).length - 1 : Nat) : Int) := by rw [Pu.w64 (by omega) (by omega)]; omega
  have h3 := impl_Tableau_remove_pwwi.L3_is (k := k) (inn := inn) (by omega) n k ((rs.getD n []).getD ((rs.getD n []).length - 1) 0) _ (by rw [List.length_set]; omega) hs' (by omega)
  have h2 := impl_Tableau_remove_pwwi.L2_is (k := k) (n := n) (inn := inn) (by omega) n k ((rs.getD n []).getD ((rs.getD n []).length - 1) 0) _ (by rw [List.length_set]; omega) (by omega) hs' (by omega)
  have q1 : (rs.getD n []).length - 1 < (rs.getD n []).length := by omega
  have q2 : (rs.getD n []).length - 1 ≤ (rs.getD n []).length := by omega
  have q3 : n ≤ (rs.set n ((rs.getD n []).take ((rs.getD n []).length - 1))).length := by rw [List.length_set]; omega
  unfold Pu.takeOut
  by_cases c : (rs.getD n []).length = 1
  · have c' : (((rs.getD n []).length - 1 : Nat) : Int) = 0 := by omega
    rw [if_pos c]
    simp (disch := omega) only [↓p_test, p_lt, p_le, p_ltN, p_leN, p_eqN, p_len, p_ofN, p_nat, p_rd, p_set, p_app, p_take, p_drop, p_rep, p_wrap, p_add, p_sub, p_no, p_eq, p_eqB, p_eqP, p_bnd_some, Pu.w64, Int.toNat_natCast, decide_eq_true_eq, Int.ofNat_lt, Int.ofNat_le, if_true, if_false, Int.natCast_nonneg, decide_true, decide_false, Bool.not_true, Bool.not_false, Bool.false_eq_true, Bool.not_eq_true, Bool.true_and, Bool.and_true, Bool.false_and, Bool.and_false, p_subN, Nat.sub_zero, List.drop_zero, hn, ew, q1, q2, q3, impl_Tableau_remove_pwwi.J0_eq, h2]
    simp only [c', decide_true, if_true]
  · have c' : ¬ (((rs.getD n []).length - 1 : Nat) : Int) = 0 := by omega
    simp (disch := omega) only [↓p_test, p_lt, p_le, p_ltN, p_leN, p_eqN, p_len, p_ofN, p_nat, p_rd, p_set, p_app, p_take, p_drop, p_rep, p_wrap, p_add, p_sub, p_no, p_eq, p_eqB, p_eqP, p_bnd_some, Pu.w64, Int.toNat_natCast, decide_eq_true_eq, Int.ofNat_lt, Int.ofNat_le, if_true, if_false, Int.natCast_nonneg, decide_true, decide_false, Bool.not_true, Bool.not_false, Bool.false_eq_true, Bool.not_eq_true, Bool.true_and, Bool.and_true, Bool.false_and, Bool.and_false, p_subN, Nat.sub_zero, List.drop_zero, hn, ew, q1, q2, q3, c, c', impl_Tableau_remove_pwwi.J1_eq, h3]
-- impl_RemoveCell
theorem impl_RemoveCell.is {k : Nat} {t : Pu.Tab} {row : Int} (hk : 4194304 + 8 ≤ k) (h1 : t.1.length ≤ 1048576) (hl : t.2.length ≤ 1048576) (hr : ∀ r ∈ t.2, r.length ≤ 1048576) : impl_RemoveCell k t row = some (Pu.removeCell t row) := by
  obtain ⟨k, rfl⟩ : ∃ k', k = k' + 1 := ⟨k - 1, by omega⟩
  have hsh := impl_ShapeOf.is (k := k) (t := t) (by omega) h1 hl hr
  rw [impl_RemoveCell.eq, show ((t.1, t.2) : Pu.Tab) = t from rfl, hsh, p_bnd_some, impl_isPlain.is (by omega) h1 hl hr, p_bnd_some]
  unfold Pu.removeCell
  cases hp : Pu.isPlain t with
  | false => simp
  | true =>
    have hpp := hp
    simp only [Pu.isPlain, Bool.and_eq_true] at hpp
    have hs : Pu.shapeOf t = ((Pu.outer t, t.1), true) := by unfold Pu.shapeOf; rw [if_pos (Pu.tab_shape hpp.1)]
    have ho : (Pu.outer t).length ≤ 9 := by rw [Pu.outer_len]; exact (Pu.plain_rows hp).1
    have hc := impl_Corners.is (k := k) (p := Pu.outer t) (by omega) (by omega)
    have hh := slices_Contains__int_int.is (k := k) (x := row) (r := Pu.corners (Pu.outer t)) (by omega) (by have := Pu.corners_len (Pu.outer t); omega)
    simp only [↓p_test, p_lt, p_le, p_ltN, p_leN, p_eqN, p_len, p_ofN, p_nat, p_rd, p_set, p_app, p_take, p_drop, p_rep, p_wrap, p_add, p_sub, p_no, p_eq, p_eqB, p_eqP, p_bnd_some, Pu.w64, Int.toNat_natCast, decide_eq_true_eq, Int.ofNat_lt, Int.ofNat_le, if_true, if_false, Int.natCast_nonneg, decide_true, decide_false, Bool.not_true, Bool.not_false, Bool.false_eq_true, Bool.not_eq_true, Bool.true_and, Bool.and_true, Bool.false_and, Bool.and_false, hs, hc, hh]
    cases hb : Pu.has (Pu.corners (Pu.outer t)) row with
    | false => simp
    | true =>
      obtain ⟨n, rfl, hn, hl1⟩ := Pu.corner_row hp hb
      have hown := impl_Tableau_own.is (k := k) (t := t) (by omega) h1 hl hr
      have h10 := impl_Tableau_remove_pwwi.is (k := k) (rs := t.2) (n := n) (inn := t.1) (by omega) (Pu.plain_rows hp) hn hl1
      rw [impl_RemoveCell.J0_eq, show ((t.1, t.2) : Pu.Tab) = t from rfl]
      simp only [↓p_test, p_lt, p_le, p_ltN, p_leN, p_eqN, p_len, p_ofN, p_nat, p_rd, p_set, p_app, p_take, p_drop, p_rep, p_wrap, p_add, p_sub, p_no, p_eq, p_eqB, p_eqP, p_bnd_some, Pu.w64, Int.toNat_natCast, decide_eq_true_eq, Int.ofNat_lt, Int.ofNat_le, if_true, if_false, Int.natCast_nonneg, decide_true, decide_false, Bool.not_true, Bool.not_false, Bool.false_eq_true, Bool.not_eq_true, Bool.true_and, Bool.and_true, Bool.false_and, Bool.and_false, hown, h10, Int.toNat_natCast, and_self]
-- laws_eqIntS
theorem laws_eqIntS.loop {k : Nat} {a b : List Int} (hl : a.length = b.length) (ha : a.length ≤ 1048576) : ∀ (m j i : Nat), i + m = a.length → m < j → laws_eqIntS.L0 k j i a b = some (decide (a.drop i = b.drop i))
  | m, 0, i, _, hj => by omega
  | 0, j + 1, i, hi, _ => by
    rw [laws_eqIntS.L0_eq]
    have e : i = a.length := by omega
    subst e
    simp [hl]
  | m + 1, j + 1, i, hi, hj => by
    rw [laws_eqIntS.L0_eq]
    have h1 : i < a.length := by omega
    have h2 : i < b.length := by omega
    have ih := laws_eqIntS.loop (k := k) hl ha m j (i + 1) (by omega) (by omega)
    rw [Int.natCast_succ] at ih
    rw [Pu.drop_cons h1 0, Pu.drop_cons h2 0]
    by_cases e : a.getD i 0 = b.getD i 0 <;> simp (disch := omega) only [p_test, p_lt, p_le, p_ltN, p_len, p_ofN, p_nat, p_rd, p_wrap, p_add, p_no, p_eq, Pu.w64, Int.toNat_natCast, decide_eq_true_eq, Int.ofNat_lt, h1, h2, if_true, Int.natCast_nonneg, decide_true, ih, e, List.cons.injEq, true_and, false_and, decide_false, Bool.not_true, Bool.not_false, if_false, Bool.false_eq_true]
theorem laws_eqIntS.is {k : Nat} {a b : List Int} (hk : 4194304 + 1 ≤ k) (ha : a.length ≤ 1048576) : laws_eqIntS k a b = some (decide (a = b)) := by
  obtain ⟨k, rfl⟩ : ∃ k', k = k' + 1 := ⟨k - 1, by omega⟩
  rw [laws_eqIntS.eq]
  by_cases hl : a.length = b.length
  · have h := laws_eqIntS.loop (k := k) hl ha a.length k 0 (by omega) (by omega)
    rw [Int.natCast_zero] at h
    simp only [List.drop_zero] at h
    have hl' : (a.length : Int) = b.length := by omega
    simp only [p_test, p_no, p_eq, p_ofN, p_len, hl', decide_true, Bool.not_true, Bool.false_eq_true, if_false, h]
  · have hne : a ≠ b := fun e => hl (by rw [e])
    have hl' : ¬ (a.length : Int) = b.length := by omega
    simp [hl', hne]
-- laws_eqIntSS
theorem laws_eqIntSS.loop {k : Nat} {a b : List (List Int)} (hk : 4194304 + 1 ≤ k) (hl : a.length = b.length) (ha : a.length ≤ 1048576) (hr : ∀ x ∈ a, x.length ≤ 1048576) : ∀ (m j i : Nat), i + m = a.length → m < j → laws_eqIntSS.L0 k j i a b = some (decide (a.drop i = b.drop i))
  | m, 0, i, _, hj => by omega
  | 0, j + 1, i, hi, _ => by
    rw [laws_eqIntSS.L0_eq]
    have e : i = a.length := by omega
    subst e
    simp [hl]
  | m + 1, j + 1, i, hi, hj => by
    rw [laws_eqIntSS.L0_eq]
    have h1 : i < a.length := by omega
    have h2 : i < b.length := by omega
    have ih := laws_eqIntSS.loop (k := k) hk hl ha hr m j (i + 1) (by omega) (by omega)
    rw [Int.natCast_succ] at ih
    rw [Pu.drop_cons h1 [], Pu.drop_cons h2 []]
    have hq := laws_eqIntS.is (k := k) (a := a.getD i []) (b := b.getD i []) (by omega) (by rw [Pu.getD_lt h1]; exact hr _ (List.getElem_mem h1))
    simp (disch := omega) only [p_test, p_lt, p_le, p_ltN, p_len, p_ofN, p_nat, p_rd, p_wrap, p_add, p_no, hq, p_bnd_some, Pu.w64, Int.toNat_natCast, decide_eq_true_eq, Int.ofNat_lt, h1, h2, if_true, Int.natCast_nonneg, decide_true, ih]
    by_cases e : a.getD i [] = b.getD i [] <;> simp only [e, List.cons.injEq, true_and, false_and, decide_false, decide_true, Bool.not_true, Bool.not_false, if_false, if_true, Bool.false_eq_true]
theorem laws_eqIntSS.is {k : Nat} {a b : List (List Int)} (hk : 4194304 + 2 ≤ k) (ha : a.length ≤ 1048576) (hr : ∀ x ∈ a, x.length ≤ 1048576) : laws_eqIntSS k a b = some (decide (a = b)) := by
  obtain ⟨k, rfl⟩ : ∃ k', k = k' + 1 := ⟨k - 1, by omega⟩
  rw [laws_eqIntSS.eq]
  by_cases hl : a.length = b.length
  · have h := laws_eqIntSS.loop (k := k) (by omega) hl ha hr a.length k 0 (by omega) (by omega)
    rw [Int.natCast_zero] at h
    simp only [List.drop_zero] at h
    have hl' : (a.length : Int) = b.length := by omega
    simp only [p_test, p_no, p_eq, p_ofN, p_len, hl', decide_true, Bool.not_true, Bool.false_eq_true, if_false, h]
  · have hne : a ≠ b := fun e => hl (by rw [e])
    have hl' : ¬ (a.length : Int) = b.length := by omega
    simp [hl', hne]
-- laws_eqTableau
theorem laws_eqTableau.is {k : Nat} {a b : List Int × List (List Int)} (hk : 4194304 + 3 ≤ k) (h1 : a.1.length ≤ 1048576) (ha : a.2.length ≤ 1048576) (hr : ∀ x ∈ a.2, x.length ≤ 1048576) : laws_eqTableau k a b = some (decide (a = b)) := by
  obtain ⟨k, rfl⟩ : ∃ k', k = k' + 1 := ⟨k - 1, by omega⟩
  obtain ⟨a1, a2⟩ := a
  obtain ⟨b1, b2⟩ := b
  rw [laws_eqTableau.eq, laws_eqIntS.is (by omega) h1, p_bnd_some, laws_eqIntSS.is (by omega) ha hr]
  by_cases e1 : a1 = b1 <;> by_cases e2 : a2 = b2 <;> simp [e1, e2]
-- laws_markIntS_wi
theorem laws_markIntS_wi.loop {k : Nat} : ∀ (m j i : Nat) (q : Int) (a : List Int), i + m = a.length → m < j → a.length ≤ 1048576 → 0 ≤ q → q + m ≤ 4000000000000 → laws_markIntS_wi.L0 k j q i a = some (q + m, a.take i ++ Pu.mark (a.drop i) q)
  | m, 0, i, q, a, _, hj, _, _, _ => by omega
  | 0, j + 1, i, q, a, hi, _, _, _, _ => by
    rw [laws_markIntS_wi.L0_eq]
    have e : i = a.length := by omega
    subst e
    simp [Pu.mark]
  | m + 1, j + 1, i, q, a, hi, hj, ha, hq, hq2 => by
    rw [laws_markIntS_wi.L0_eq]
    have h1 : i < a.length := by omega
    have ih := laws_markIntS_wi.loop (k := k) m j (i + 1) (q + 1) (a.set i q) (by simp; omega) (by omega) (by simpa using ha) (by omega) (by omega)
    rw [Int.natCast_succ] at ih
    have e1 : (a.set i q).take (i + 1) = a.take i ++ [q] := by
      rw [Pu.take_succ (by simpa using h1) 0, List.take_set_of_le (Nat.le_refl _)]
      simp [h1]
    have e2 : (a.set i q).drop (i + 1) = a.drop (i + 1) := by rw [List.drop_set_of_lt (by omega)]
    rw [e1, e2] at ih
    rw [Pu.drop_cons h1 0]
    simp (disch := omega) only [p_test, p_lt, p_le, p_ltN, p_len, p_ofN, p_nat, p_set, p_wrap, p_add, Pu.w64, Int.toNat_natCast, decide_eq_true_eq, Int.ofNat_lt, h1, if_true, Int.natCast_nonneg, decide_true, ih, Pu.mark]
    simp
    omega
theorem laws_markIntS_wi.is {k : Nat} {a : List Int} {q : Int} (hk : 4194304 + 1 ≤ k) (ha : a.length ≤ 1048576) (hq : 0 ≤ q) (hq2 : q + a.length ≤ 4000000000000) : laws_markIntS_wi k q a = some (q + a.length, Pu.mark a q) := by
  obtain ⟨k, rfl⟩ : ∃ k', k = k' + 1 := ⟨k - 1, by omega⟩
  rw [laws_markIntS_wi.eq]
  have h := laws_markIntS_wi.loop (k := k) a.length k 0 q a (by omega) (by omega) ha hq hq2
  rw [Int.natCast_zero] at h
  simpa using h
-- laws_markIntSS_wi
theorem laws_markIntSS_wi.inner {k k1 r : Nat} {x3 x4 x5 x6 x8 x11 : Int} {x7 : Bool} {x9 x10 : Nat} : ∀ (m j i : Nat) (q : Int) (a : List (List Int)), r < a.length → i + m = (a.getD r []).length → m < j → (a.getD r []).length ≤ 1048576 → 0 ≤ q → q + m ≤ 4000000000000 → 0 ≤ x4 → x4 ≤ 4000000000000 →
    laws_markIntSS_wi.L1 k k1 j r q i x3 x4 x5 x6 x7 x8 x9 x10 x11 a = laws_markIntSS_wi.L0 k k1 (q + m) (x4 + 1) (a.set r ((a.getD r []).take i ++ Pu.mark ((a.getD r []).drop i) q))
  | m, 0, i, q, a, _, _, hj, _, _, _, _, _ => by omega
  | 0, j + 1, i, q, a, hr, hi, _, _, _, _, _, _ => by
    rw [laws_markIntSS_wi.L1_eq]
    have e : i = (a.getD r []).length := by omega
    have h1 : ¬ i < (a.getD r []).length := by omega
    have e2 : a.set r ((a.getD r []).take i ++ Pu.mark ((a.getD r []).drop i) q) = a := by
      rw [e, List.take_length, List.drop_length]
      simp only [Pu.mark, List.append_nil]
      rw [Pu.getD_lt hr, List.set_getElem_self]
    rw [e2]
    simp (disch := omega) only [p_test, p_lt, p_ltN, p_len, p_ofN, p_rd, p_wrap, p_add, Pu.w64, decide_eq_true_eq, Int.ofNat_lt, hr, h1, if_true, if_false, decide_true]
    simp
  | m + 1, j + 1, i, q, a, hr, hi, hj, ha, hq, hq2, hx, hx2 => by
    rw [laws_markIntSS_wi.L1_eq]
    have h1 : i < (a.getD r []).length := by omega
    have eg : (a.set r ((a.getD r []).set i q)).getD r [] = (a.getD r []).set i q := by
      rw [Pu.getD_lt (by simpa using hr)]; simp
    have ih := laws_markIntSS_wi.inner (k := k) (k1 := k1) (r := r) (x3 := x3) (x4 := x4) (x5 := x5) (x6 := x6) (x7 := x7) (x8 := x8) (x9 := x9) (x10 := x10) (x11 := x11) m j (i + 1) (q + 1) (a.set r ((a.getD r []).set i q)) (by rw [List.length_set]; exact hr) (by rw [eg, List.length_set]; omega) (by omega) (by rw [eg, List.length_set]; exact ha) (by omega) (by omega) hx hx2
    rw [eg, Int.natCast_succ, List.set_set] at ih
    have hl1 : i < ((a.getD r []).set i q).length := by rw [List.length_set]; exact h1
    have e1 : ((a.getD r []).set i q).take (i + 1) = (a.getD r []).take i ++ [q] := by
      rw [Pu.take_succ hl1 0, List.take_set_of_le (Nat.le_refl _), Pu.getD_lt hl1, List.getElem_set_self]
    have e2 : ((a.getD r []).set i q).drop (i + 1) = (a.getD r []).drop (i + 1) := by rw [List.drop_set_of_lt (by omega)]
    rw [e1, e2] at ih
    rw [Pu.drop_cons h1 0]
    simp (disch := omega) only [p_test, p_lt, p_le, p_ltN, p_len, p_ofN, p_nat, p_set, p_rd, p_wrap, p_add, Pu.w64, Int.toNat_natCast, decide_eq_true_eq, Int.ofNat_lt, hr, h1, if_true, Int.natCast_nonneg, decide_true, ih, Pu.mark]
    simp only [List.append_assoc, List.singleton_append]
    congr 1
    omega
theorem laws_markIntSS_wi.loop {k : Nat} (hk : 4194304 ≤ k) : ∀ (m j i : Nat) (q : Int) (a : List (List Int)), i + m = a.length → m < j → a.length ≤ 1048576 → (∀ x ∈ a, x.length ≤ 1048576) → 0 ≤ q → q + Pu.size2 (a.drop i) ≤ 4000000000000 →
    laws_markIntSS_wi.L0 k j q i a = some (q + Pu.size2 (a.drop i), a.take i ++ Pu.mark2 (a.drop i) q)
  | m, 0, i, q, a, _, hj, _, _, _, _ => by omega
  | 0, j + 1, i, q, a, hi, _, _, _, _, _ => by
    rw [laws_markIntSS_wi.L0_eq]
    have e : i = a.length := by omega
    subst e
    simp [Pu.mark2, Pu.size2]
  | m + 1, j + 1, i, q, a, hi, hj, ha, hr, hq, hq2 => by
    rw [laws_markIntSS_wi.L0_eq]
    have h1 : i < a.length := by omega
    have hx := hr a[i] (List.getElem_mem h1)
    rw [← Pu.getD_lt h1 []] at hx
    rw [Pu.drop_cons h1 []] at hq2 ⊢
    simp only [Pu.size2] at hq2
    simp (disch := omega) only [p_test, p_lt, p_le, p_ltN, p_len, p_ofN, p_nat, p_rd, p_wrap, p_add, Pu.w64, Int.toNat_natCast, decide_eq_true_eq, Int.ofNat_lt, h1, if_true, Int.natCast_nonneg, decide_true, Pu.mark2, Pu.size2]
    have hin := fun (x7 : Bool) (x6 : Int) => laws_markIntSS_wi.inner (k := k) (k1 := j) (r := i) (x3 := q) (x4 := i) (x5 := i) (x6 := x6) (x7 := x7) (x8 := i) (x9 := i) (x10 := i) (x11 := q) (a.getD i []).length k 0 q a h1 (by omega) (by omega) hx hq (by omega) (by omega) (by omega)
    simp only [Int.natCast_zero] at hin
    rw [hin]
    have ih := laws_markIntSS_wi.loop (k := k) hk m j (i + 1) (q + (a.getD i []).length) (a.set i (Pu.mark (a.getD i []) q)) (by simp; omega) (by omega) (by simpa using ha) (fun x hx' => by
        rcases List.mem_or_eq_of_mem_set hx' with h | rfl
        · exact hr x h
        · rw [Pu.mark_len]; exact hx) (by omega) (by rw [List.drop_set_of_lt (by omega)]; omega)
    have e1 : (a.set i (Pu.mark (a.getD i []) q)).take (i + 1) = a.take i ++ [Pu.mark (a.getD i []) q] := by
      rw [Pu.take_succ (by simpa using h1) [], List.take_set_of_le (Nat.le_refl _), Pu.getD_lt (by simpa using h1)]
      simp
    rw [e1, List.drop_set_of_lt (by omega), Int.natCast_succ] at ih
    simp only [List.take_zero, List.drop_zero, List.nil_append]
    rw [ih]
    simp
    omega
theorem laws_markIntSS_wi.is {k : Nat} {a : List (List Int)} {q : Int} (hk : 4194304 + 2 ≤ k) (ha : a.length ≤ 1048576) (hr : ∀ x ∈ a, x.length ≤ 1048576) (hq : 0 ≤ q) (hq2 : q + Pu.size2 a ≤ 4000000000000) : laws_markIntSS_wi k q a = some (q + Pu.size2 a, Pu.mark2 a q) := by
  obtain ⟨k, rfl⟩ : ∃ k', k = k' + 2 := ⟨k - 2, by omega⟩
  rw [laws_markIntSS_wi.eq]
  have h := laws_markIntSS_wi.loop (k := k) (by omega) a.length (k + 1) 0 q a (by omega) (by omega) ha hr hq hq2
  rw [Int.natCast_zero] at h
  simpa using h
-- laws_markTableau_wwi
theorem laws_markTableau_wwi.is {k : Nat} {a : List Int} {b : List (List Int)} {q : Int} (hk : 4194304 + 3 ≤ k) (h1 : a.length ≤ 1048576) (ha : b.length ≤ 1048576) (hr : ∀ x ∈ b, x.length ≤ 1048576) (hq : 0 ≤ q) (hq2 : q + a.length + Pu.size2 b ≤ 4000000000000) :
    laws_markTableau_wwi k q a b = some (q + a.length + Pu.size2 b, (Pu.mark a q, Pu.mark2 b (q + a.length))) := by
  obtain ⟨k, rfl⟩ : ∃ k', k = k' + 1 := ⟨k - 1, by omega⟩
  rw [laws_markTableau_wwi.eq, laws_markIntS_wi.is (by omega) h1 hq (by omega), p_bnd_some, laws_markIntSS_wi.is (by omega) ha hr (by omega) (by omega)]
  rfl
-- laws_heldIntS
theorem laws_heldIntS.loop {k : Nat} {a : List Int} (ha : a.length ≤ 1048576) : ∀ (m j i : Nat) (q : Int), i + m = a.length → m < j → 0 ≤ q → q + m ≤ 4000000000000 → laws_heldIntS.L0 k j q i a = some (Pu.held (a.drop i) q)
  | m, 0, i, q, _, hj, _, _ => by omega
  | 0, j + 1, i, q, hi, _, _, _ => by
    rw [laws_heldIntS.L0_eq]
    have e : i = a.length := by omega
    subst e
    simp [Pu.held]
  | m + 1, j + 1, i, q, hi, hj, hq, hq2 => by
    rw [laws_heldIntS.L0_eq]
    have h1 : i < a.length := by omega
    have ih := laws_heldIntS.loop (k := k) ha m j (i + 1) (q + 1) (by omega) (by omega) (by omega) (by omega)
    rw [Int.natCast_succ] at ih
    rw [Pu.drop_cons h1 0]
    simp (disch := omega) only [p_test, p_lt, p_le, p_ltN, p_len, p_ofN, p_nat, p_rd, p_wrap, p_add, p_no, p_eq, Pu.w64, Int.toNat_natCast, decide_eq_true_eq, Int.ofNat_lt, h1, if_true, Int.natCast_nonneg, decide_true, Pu.held, ih]
    by_cases e : a.getD i 0 = q <;> simp only [e, decide_true, decide_false, Bool.not_false, Bool.not_true, if_true, if_false, Bool.false_eq_true]
theorem laws_heldIntS.is {k : Nat} {a : List Int} {q : Int} (hk : 4194304 + 1 ≤ k) (ha : a.length ≤ 1048576) (hq : 0 ≤ q) (hq2 : q + a.length ≤ 4000000000000) : laws_heldIntS k a q = some (Pu.held a q) := by
  obtain ⟨k, rfl⟩ : ∃ k', k = k' + 1 := ⟨k - 1, by omega⟩
  rw [laws_heldIntS.eq]
  have h := laws_heldIntS.loop (k := k) ha a.length k 0 q (by omega) (by omega) hq hq2
  rw [Int.natCast_zero] at h
  exact h
-- laws_heldIntSS
theorem laws_heldIntSS.loop {k : Nat} {a : List (List Int)} (hk : 4194304 + 1 ≤ k) (ha : a.length ≤ 1048576) (hr : ∀ x ∈ a, x.length ≤ 1048576) : ∀ (m j i : Nat) (q : Int), i + m = a.length → m < j → 0 ≤ q → q + Pu.size2 (a.drop i) ≤ 4000000000000 → laws_heldIntSS.L0 k j q i a = some (Pu.held2 (a.drop i) q)
  | m, 0, i, q, _, hj, _, _ => by omega
  | 0, j + 1, i, q, hi, _, _, _ => by
    rw [laws_heldIntSS.L0_eq]
    have e : i = a.length := by omega
    subst e
    simp [Pu.held2]
  | m + 1, j + 1, i, q, hi, hj, hq, hq2 => by
    rw [laws_heldIntSS.L0_eq]
    have h1 : i < a.length := by omega
    rw [Pu.drop_cons h1 []] at hq2 ⊢
    simp only [Pu.size2] at hq2
    have hx := hr a[i] (List.getElem_mem h1)
    rw [← Pu.getD_lt h1 []] at hx
    have hh := laws_heldIntS.is (k := k) (a := a.getD i []) (q := q) (by omega) hx hq (by omega)
    simp (disch := omega) only [p_test, p_lt, p_le, p_ltN, p_len, p_ofN, p_nat, p_rd, p_wrap, p_add, p_no, p_eq, Pu.w64, Int.toNat_natCast, decide_eq_true_eq, Int.ofNat_lt, h1, if_true, Int.natCast_nonneg, decide_true, Pu.held2, hh, p_bnd_some]
    by_cases e : Pu.held (a.getD i []) q < 0
    · simp only [e, if_true]
    · have hle := Pu.held_le (a.getD i []) q hq
      have ih := laws_heldIntSS.loop (k := k) hk ha hr m j (i + 1) (Pu.held (a.getD i []) q) (by omega) (by omega) (by omega) (by omega)
      rw [Int.natCast_succ] at ih
      simp only [e, if_false, ih]
theorem laws_heldIntSS.is {k : Nat} {a : List (List Int)} {q : Int} (hk : 4194304 + 2 ≤ k) (ha : a.length ≤ 1048576) (hr : ∀ x ∈ a, x.length ≤ 1048576) (hq : 0 ≤ q) (hq2 : q + Pu.size2 a ≤ 4000000000000) : laws_heldIntSS k a q = some (Pu.held2 a q) := by
  obtain ⟨k, rfl⟩ : ∃ k', k = k' + 1 := ⟨k - 1, by omega⟩
  rw [laws_heldIntSS.eq]
  have h := laws_heldIntSS.loop (k := k) (by omega) ha hr a.length k 0 q (by omega) (by omega) hq hq2
  rw [Int.natCast_zero] at h
  exact h
-- laws_heldTableau
theorem laws_heldTableau.is {k : Nat} {a : List Int × List (List Int)} {q : Int} (hk : 4194304 + 3 ≤ k) (h1 : a.1.length ≤ 1048576) (ha : a.2.length ≤ 1048576) (hr : ∀ x ∈ a.2, x.length ≤ 1048576) (hq : 0 ≤ q) (hq2 : q + a.1.length + Pu.size2 a.2 ≤ 4000000000000) :
    laws_heldTableau k a q = some (Pu.held2 (a.1 :: a.2) q) := by
  obtain ⟨k, rfl⟩ : ∃ k', k = k' + 1 := ⟨k - 1, by omega⟩
  rw [laws_heldTableau.eq, laws_heldIntS.is (by omega) h1 hq (by omega), p_bnd_some]
  simp only [Pu.held2, p_test, p_lt, decide_eq_true_eq]
  by_cases e : Pu.held a.1 q < 0
  · simp only [e, if_true]
  · have hle := Pu.held_le a.1 q hq
    simp only [e, if_false]
    rw [laws_heldIntSS.is (by omega) ha hr (by omega) (by omega), p_bnd_some]
    by_cases e2 : Pu.held2 a.2 (Pu.held a.1 q) < 0
    · rw [if_pos e2]
      congr 1
      exact (Pu.held2_neg _ _ (by omega) e2).symm
    · rw [if_neg e2]
-- laws_FnExactRemoveCell
theorem laws_FnExactRemoveCell.is {t : Pu.Tab} {x : Int} (h1 : t.1.length ≤ maxLen) (h2 : t.2.length ≤ maxLen) (h3 : ∀ r ∈ t.2, r.length ≤ maxLen) : ∃ k, laws_FnExactRemoveCell k t x = some true := by
  refine ⟨4194304 + 60 + 1, ?_⟩
  rw [laws_FnExactRemoveCell.eq]
  obtain ⟨r, hr0, hr1⟩ := laws_szTableau.is (k := 4194304 + 60) (a := t) (b := 1048576) (by omega) h1 h2 h3 (by omega) (by omega)
  rw [show ((t.1, t.2) : Pu.Tab) = t from rfl, hr0, p_bnd_some]
  by_cases c : r < 0
  · simp [c]
  · obtain ⟨s0, s1, s2, s3⟩ := hr1 (by omega)
    have ht : Pu.TabOK t := ⟨by omega, by omega, fun y hy => by have := s3 y hy; omega⟩
    have hg := Pu.removeCell_ok ht x
    have hto := laws_toTableau.is (k := 4194304 + 60) (a := t) (by omega) ht.1 ht.2.1 ht.2.2
    have hsp := spec_RemoveCell.is (k := 4194304 + 60) (t := t) (row := x) (by omega) ht.1 ht.2.1 ht.2.2
    have him := impl_RemoveCell.is (k := 4194304 + 60) (t := t) (row := x) (by omega) ht.1 ht.2.1 ht.2.2
    have hs := Pu.size2_lim ht.2.1 ht.2.2
    have hm := laws_markTableau_wwi.is (k := 4194304 + 60) (a := t.1) (b := t.2) (q := 1) (by omega) ht.1 ht.2.1 ht.2.2 (by omega) (by omega)
    have he := laws_eqTableau.is (k := 4194304 + 60) (a := t) (b := t) (by omega) ht.1 ht.2.1 ht.2.2
    generalize hG : Pu.removeCell t x = G at *
    obtain ⟨g, n, b⟩ := G
    have hgs := Pu.size2_lim hg.2.1 hg.2.2
    have heg := laws_eqTableau.is (k := 4194304 + 60) (a := g) (b := g) (by omega) hg.1 hg.2.1 hg.2.2
    have hmg := laws_markTableau_wwi.is (k := 4194304 + 60) (a := g.1) (b := g.2) (q := 1) (by omega) hg.1 hg.2.1 hg.2.2 (by omega) (by have := hg.1; simp only at this hgs ⊢; omega)
    have hhg := laws_heldTableau.is (k := 4194304 + 60) (a := (Pu.mark g.1 1, Pu.mark2 g.2 (1 + g.1.length))) (q := 1) (by omega) (by simp only [Pu.mark_len]; exact hg.1) (by simp only [Pu.mark2_len]; exact hg.2.1) (Pu.mark2_mem hg.2.2) (by omega)
      (by simp only [Pu.mark_len, Pu.size2_mark]; have := hg.1; simp only at this hgs ⊢; omega)
    have hv : Pu.held2 (Pu.mark g.1 1 :: Pu.mark2 g.2 (1 + g.1.length)) 1 = 1 + g.1.length + Pu.size2 g.2 := by
      simp only [Pu.held2]
      rw [Pu.held_mark, if_neg (by omega), Pu.held2_mark _ _ (by omega)]
    simp only [hv] at hhg
    have n1 : ¬ (1 + (t.1.length : Int) + Pu.size2 t.2 < 0) := by omega
    have n2 : ¬ (1 + (g.1.length : Int) + Pu.size2 g.2 < 0) := by omega
    simp only [↓p_test, p_lt, p_le, p_ltN, p_leN, p_eqN, p_len, p_ofN, p_nat, p_rd, p_set, p_app, p_take, p_drop, p_rep, p_wrap, p_add, p_sub, p_no, p_eq, p_eqB, p_eqP, p_bnd_some, Pu.w64, Int.toNat_natCast, decide_eq_true_eq, Int.ofNat_lt, Int.ofNat_le, if_true, if_false, Int.natCast_nonneg, decide_true, decide_false, Bool.not_true, Bool.not_false, Bool.false_eq_true, Bool.not_eq_true, Bool.true_and, Bool.and_true, Bool.false_and, Bool.and_false, c, hto, hsp, him, heg, laws_FnExactRemoveCell.J0_eq, laws_FnExactRemoveCell.J1_eq, laws_FnExactRemoveCell.J2_eq, he, hm, hmg, hhg, n1, n2, Prod.eta, beq_self_eq_true]
end Go.Am.Seat
