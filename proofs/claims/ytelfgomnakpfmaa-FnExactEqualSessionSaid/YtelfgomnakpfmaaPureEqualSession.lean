/- Equal sessions: the law of the program, as plain data. -/
import Derived.Test.YtelfgomnakpfmaaEqsEqualSession
import Derived.Test.YtelfgomnakpfmaaAmP
set_option linter.unusedSimpArgs false
set_option linter.unusedVariables false
set_option linter.unnecessarySimpa false
set_option linter.unusedSectionVars false
namespace Go.Am.Seat
open Go Go.Am
attribute [local instance] D.real

theorem szIntS_is (k : Nat) (a : List Int) (b : Int) (h1 : -9223372036854775808 ≤ b - a.length) (h2 : b - a.length ≤ 9223372036854775807) :
    laws_szIntS (k + 1) a b = some (if b - a.length < 0 then -1 else b - a.length) := by
  rw [laws_szIntS.eq]
  simp only [p_test, p_lt, p_wrap, p_sub, p_ofN, p_len, decide_eq_true_eq, w64 h1 h2]
  split <;> rfl

theorem szSession_is (k : Nat) (a : List Int × List Int) (b : Int) (hb : 0 ≤ b) (hb2 : b ≤ 1048576) (h1 : a.1.length ≤ 9223372036854775807) (h2 : a.2.length ≤ 9223372036854775807) :
    laws_szSession (k + 2) a b = some (if b - a.1.length - a.2.length < 0 then -1 else b - a.1.length - a.2.length) := by
  rw [laws_szSession.eq, szIntS_is k a.1 b (by omega) (by omega)]
  by_cases h : b - a.1.length < 0
  · simp [h]
    omega
  · simp only [h, if_false, p_bnd_some, p_test, p_lt, decide_eq_true_eq]
    rw [szIntS_is k a.2 _ (by omega) (by omega)]
    by_cases h3 : b - a.1.length - a.2.length < 0 <;> simp [h3]

theorem toIntS_loop (k : Nat) (a : List Int) (h : a.length ≤ 9223372036854775807) : ∀ (m j i : Nat) (b : List Int), i + m = a.length → m < j → b = a.take i ++ List.replicate m 0 → laws_toIntS.L0 k j (i : Int) a b = some a
  | m, 0, i, b, _, hj, _ => by omega
  | 0, j + 1, i, b, hi, _, hb => by
    rw [laws_toIntS.L0_eq]
    have e : i = a.length := by omega
    subst hb e
    simp
  | m + 1, j + 1, i, b, hi, hj, hb => by
    rw [laws_toIntS.L0_eq]
    have hlt : i < a.length := by omega
    have hbl : b.length = a.length := by subst hb; simp; omega
    have ih := toIntS_loop k a h m j (i + 1) (b.set i a[i]) (by omega) (by omega) (by
      subst hb
      rw [List.set_append_right _ _ (by simp; omega), List.take_succ_eq_append_getElem hlt]
      simp only [List.length_take, Nat.min_eq_left (Nat.le_of_lt hlt), Nat.sub_self, List.replicate_succ, List.set_cons_zero, List.append_assoc, List.cons_append, List.nil_append])
    have hw : IntKind.i64.wrap ((i : Int) + 1) = (i : Int) + 1 := w64 (by omega) (by omega)
    rw [Int.natCast_succ] at ih
    simp [hlt, hbl, hw, ih]

theorem toIntS_is (k : Nat) (a : List Int) (h : a.length ≤ 1099511627776) (hk : a.length < k) : laws_toIntS (k + 1) a = some a := by
  rw [laws_toIntS.eq]
  have := toIntS_loop k a (by omega) a.length k 0 (List.replicate a.length 0) (by omega) hk (by simp)
  rw [Int.natCast_zero] at this
  simp [this, h]

theorem toSession_is (k : Nat) (a : List Int × List Int) (h1 : a.1.length ≤ 1099511627776) (h2 : a.2.length ≤ 1099511627776) (hk : a.1.length < k) (hk2 : a.2.length < k) : laws_toSession (k + 2) a = some a := by
  rw [laws_toSession.eq]
  simp [toIntS_is k a.1 h1 hk, toIntS_is k a.2 h2 hk2]
theorem drop_eq_iff {a b : List Int} {i : Nat} (ha : i < a.length) (hb : i < b.length) : a.drop i = b.drop i ↔ a[i] = b[i] ∧ a.drop (i + 1) = b.drop (i + 1) := by
  rw [List.drop_eq_getElem_cons ha, List.drop_eq_getElem_cons hb]
  simp only [List.cons.injEq]

theorem l2Same_loop (k : Nat) (a b : List Int) (hl : a.length = b.length) (h : a.length ≤ 1099511627776) : ∀ (m j i : Nat), i + m = a.length → m < j → spec_l2Same.L0 k j (i : Int) a b = some (decide (a.drop i = b.drop i))
  | m, 0, i, _, hj => by omega
  | 0, j + 1, i, hi, _ => by
    rw [spec_l2Same.L0_eq]
    have e : i = a.length := by omega
    subst e
    simp [hl]
  | m + 1, j + 1, i, hi, hj => by
    rw [spec_l2Same.L0_eq]
    have ha : i < a.length := by omega
    have hb : i < b.length := by omega
    have ih := l2Same_loop k a b hl h m j (i + 1) (by omega) (by omega)
    have hw : IntKind.i64.wrap ((i : Int) + 1) = (i : Int) + 1 := w64 (by omega) (by omega)
    rw [Int.natCast_succ] at ih
    by_cases e : a[i] = b[i] <;> simp [ha, hb, hw, ih, e, drop_eq_iff ha hb]

theorem l2Same_is (k : Nat) (a b : List Int) (h : a.length ≤ 1099511627776) (hk : a.length < k) : spec_l2Same (k + 1) a b = some (decide (a = b)) := by
  rw [spec_l2Same.eq]
  by_cases hl : a.length = b.length
  · have := l2Same_loop k a b hl h a.length k 0 (by omega) hk
    rw [Int.natCast_zero] at this
    simp [hl, this]
  · have hne : a ≠ b := fun e => hl (by rw [e])
    simp [hne]
    omega

theorem spec_is (k : Nat) (a b : List Int × List Int) (h1 : a.1.length ≤ 1099511627776) (h2 : a.2.length ≤ 1099511627776) (hk : a.1.length < k) (hk2 : a.2.length < k) :
    spec_EqualSession (k + 2) a b = some (decide (a = b)) := by
  rw [spec_EqualSession.eq, l2Same_is k a.1 b.1 h1 hk]
  obtain ⟨a1, a2⟩ := a
  obtain ⟨b1, b2⟩ := b
  by_cases e : a1 = b1 <;> simp [e, l2Same_is k a2 b2 h2 hk2]

theorem eqIntS_loop (k : Nat) (a b : List Int) (hl : a.length = b.length) (h : a.length ≤ 1099511627776) : ∀ (m j i : Nat), i + m = a.length → m < j → laws_eqIntS.L0 k j (i : Int) a b = some (decide (a.drop i = b.drop i))
  | m, 0, i, _, hj => by omega
  | 0, j + 1, i, hi, _ => by
    rw [laws_eqIntS.L0_eq]
    have e : i = a.length := by omega
    subst e
    simp [hl]
  | m + 1, j + 1, i, hi, hj => by
    rw [laws_eqIntS.L0_eq]
    have ha : i < a.length := by omega
    have hb : i < b.length := by omega
    have ih := eqIntS_loop k a b hl h m j (i + 1) (by omega) (by omega)
    have hw : IntKind.i64.wrap ((i : Int) + 1) = (i : Int) + 1 := w64 (by omega) (by omega)
    rw [Int.natCast_succ] at ih
    by_cases e : a[i] = b[i] <;> simp [ha, hb, hw, ih, e, drop_eq_iff ha hb]

theorem eqIntS_is (k : Nat) (a b : List Int) (h : a.length ≤ 1099511627776) (hk : a.length < k) : laws_eqIntS (k + 1) a b = some (decide (a = b)) := by
  rw [laws_eqIntS.eq]
  by_cases hl : a.length = b.length
  · have := eqIntS_loop k a b hl h a.length k 0 (by omega) hk
    rw [Int.natCast_zero] at this
    simp [hl, this]
  · have hne : a ≠ b := fun e => hl (by rw [e])
    simp [hne]
    omega

theorem eqSession_is (k : Nat) (a b : List Int × List Int) (h1 : a.1.length ≤ 1099511627776) (h2 : a.2.length ≤ 1099511627776) (hk : a.1.length < k) (hk2 : a.2.length < k) :
    laws_eqSession (k + 2) a b = some (decide (a = b)) := by
  rw [laws_eqSession.eq, eqIntS_is k a.1 b.1 h1 hk]
  obtain ⟨a1, a2⟩ := a
  obtain ⟨b1, b2⟩ := b
  have h := eqIntS_is k a2 b2 h2 hk2
  by_cases e : a1 = b1 <;> by_cases e2 : a2 = b2
  · subst e e2; simp [h]
  · simp [e, e2, h]
  · simp [e]
  · simp [e]

theorem Equal_loop (k : Nat) (a b : List Int) (hl : a.length = b.length) (h : a.length ≤ 1099511627776) : ∀ (m j i : Nat), i + m = a.length → m < j → slices_Equal__int_int.L0 k j (a.length : Int) (i : Int) a b = some (decide (a.drop i = b.drop i))
  | m, 0, i, _, hj => by omega
  | 0, j + 1, i, hi, _ => by
    rw [slices_Equal__int_int.L0_eq]
    have e : i = a.length := by omega
    subst e
    simp [hl]
  | m + 1, j + 1, i, hi, hj => by
    rw [slices_Equal__int_int.L0_eq]
    have ha : i < a.length := by omega
    have hb : i < b.length := by omega
    have ih := Equal_loop k a b hl h m j (i + 1) (by omega) (by omega)
    have hw : IntKind.i64.wrap ((i : Int) + 1) = (i : Int) + 1 := w64 (by omega) (by omega)
    rw [Int.natCast_succ] at ih
    by_cases e : a[i] = b[i] <;> simp [ha, hb, hw, ih, e, drop_eq_iff ha hb]

theorem Equal_is (k : Nat) (a b : List Int) (h : a.length ≤ 1099511627776) (hk : a.length < k) : slices_Equal__int_int (k + 1) a b = some (decide (a = b)) := by
  rw [slices_Equal__int_int.eq]
  by_cases hl : a.length = b.length
  · have := Equal_loop k a b hl h a.length k 0 (by omega) hk
    rw [Int.natCast_zero] at this
    simp [hl] at this
    simp [hl, this]
  · have hne : a ≠ b := fun e => hl (by rw [e])
    simp [hne]
    omega

theorem impl_is (k : Nat) (a b : List Int × List Int) (h1 : a.1.length ≤ 1099511627776) (h2 : a.2.length ≤ 1099511627776) (hk : a.1.length < k) (hk2 : a.2.length < k) :
    impl_EqualSession (k + 2) a b = some (decide (a = b)) := by
  rw [impl_EqualSession.eq, Equal_is k a.1 b.1 h1 hk]
  obtain ⟨a1, a2⟩ := a
  obtain ⟨b1, b2⟩ := b
  by_cases e : a1 = b1 <;> simp [e, Equal_is k a2 b2 h2 hk2]

/-- Whatever two sessions it is given, the law answers true. -/
theorem law_EqualSession (a b : List Int × List Int) (h1 : a.1.length ≤ maxLen) (h2 : a.2.length ≤ maxLen) (h3 : b.1.length ≤ maxLen) (h4 : b.2.length ≤ maxLen) :
    ∃ k, laws_FnExactEqualSession k a b = some true := by
  refine ⟨1048576 + 100, ?_⟩
  rw [laws_FnExactEqualSession.eq]
  have e := szSession_is 1048673 a 1048576 (by omega) (by omega) h1 h2
  by_cases c : (1048576 : Int) - a.1.length - a.2.length < 0
  · rw [if_pos c] at e
    simp [e]
  · rw [if_neg c] at e
    have e2 := szSession_is 1048673 b _ (Int.not_lt.1 c) (by omega) h3 h4
    by_cases c2 : (1048576 : Int) - a.1.length - a.2.length - b.1.length - b.2.length < 0
    · rw [if_pos c2] at e2
      simp [e, e2, c]
    · rw [if_neg c2] at e2
      have ta := toSession_is 1048673 a (by omega) (by omega) (by omega) (by omega)
      have tb := toSession_is 1048673 b (by omega) (by omega) (by omega) (by omega)
      have ea := eqSession_is 1048673 a a (by omega) (by omega) (by omega) (by omega)
      have eb := eqSession_is 1048673 b b (by omega) (by omega) (by omega) (by omega)
      have s1 := spec_is 1048673 a b (by omega) (by omega) (by omega) (by omega)
      have i1 := impl_is 1048673 a b (by omega) (by omega) (by omega) (by omega)
      simp [e, e2, c, c2, ta, tb, ea, eb, s1, i1]
end Go.Am.Seat
