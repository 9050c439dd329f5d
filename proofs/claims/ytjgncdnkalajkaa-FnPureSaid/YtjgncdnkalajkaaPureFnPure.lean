/- What the functions make of data, as plain words; each holds for all data within the bounds that it names. -/
import Derived.Test.YtjgncdnkalajkaaEqsFnPure
import Derived.Test.YtjgncdnkalajkaaPu
set_option linter.unusedSimpArgs false
set_option linter.unusedVariables false
set_option linter.unnecessarySimpa false
set_option linter.unusedSectionVars false
namespace Go.Am.Seat
open Go Go.Am Go.Am.Pu
attribute [local instance] D.real
set_option linter.unusedSimpArgs false
set_option linter.unusedVariables false
set_option maxRecDepth 4000
-- laws_big
theorem laws_big.is {k : Nat} {p : List Int} (hk : 1 ≤ k) : laws_big k p = some (decide ((1048576 : Int) < p.length)) := by
  obtain ⟨k, rfl⟩ : ∃ k', k = k' + 1 := ⟨k - 1, by omega⟩
  rw [laws_big.eq]
  rfl
-- spec_l1Byte_prii
theorem spec_l1Byte_prii.is {k : Nat} {i h : Int} {b : List Int} (hk : 1 ≤ k) (hb : b.length ≤ 1048576) (hi : 0 ≤ i) (hi' : i ≤ b.length) :
    ∃ r i' h', spec_l1Byte_prii k i h b = some (r, ((), (i', h'))) ∧ 0 ≤ r ∧ r ≤ 255 ∧ 0 ≤ i' ∧ i' ≤ b.length := by
  obtain ⟨k, rfl⟩ : ∃ k', k = k' + 1 := ⟨k - 1, by omega⟩
  rw [spec_l1Byte_prii.eq]
  have e33 : (0 : Int) ≤ 33 := by decide
  have e45 : (0 : Int) ≤ 45 := by decide
  by_cases hlt : i < b.length
  · have hn : i.toNat < b.length := by omega
    have ew : IntKind.i64.wrap (i + 1) = i + 1 := Pu.w64 (by omega) (by omega)
    refine ⟨_, i + 1, _, by simp only [↓p_test, p_lt, p_le, p_ltN, p_leN, p_eqN, p_len, p_ofN, p_nat, p_rd, p_set, p_app, p_take, p_drop, p_rep, p_wrap, p_add, p_sub, p_no, p_eq, p_eqB, p_eqP, p_bnd_some, Pu.w64, Int.toNat_natCast, decide_eq_true_eq, Int.ofNat_lt, Int.ofNat_le, if_true, if_false, Int.natCast_nonneg, decide_true, decide_false, Bool.not_true, Bool.not_false, Bool.false_eq_true, Bool.not_eq_true, Bool.true_and, Bool.and_true, Bool.false_and, Bool.and_false, e33, e45, hlt, hi, hn, ew]; rfl, (Pu.and255 _).1, (Pu.and255 _).2, ?_, ?_⟩
    · omega
    · omega
  · exact ⟨_, _, _, by simp only [↓p_test, p_lt, p_le, p_ltN, p_leN, p_eqN, p_len, p_ofN, p_nat, p_rd, p_set, p_app, p_take, p_drop, p_rep, p_wrap, p_add, p_sub, p_no, p_eq, p_eqB, p_eqP, p_bnd_some, Pu.w64, Int.toNat_natCast, decide_eq_true_eq, Int.ofNat_lt, Int.ofNat_le, if_true, if_false, Int.natCast_nonneg, decide_true, decide_false, Bool.not_true, Bool.not_false, Bool.false_eq_true, Bool.not_eq_true, Bool.true_and, Bool.and_true, Bool.false_and, Bool.and_false, e33, e45, hlt]; rfl, (Pu.and255 _).1, (Pu.and255 _).2, hi, hi'⟩
-- spec_l1Below_priii
theorem spec_l1Below_priii.is {k : Nat} {n i h : Int} {b : List Int} (hk : 2 ≤ k) (hb : b.length ≤ 1048576) (hi : 0 ≤ i) (hi' : i ≤ b.length) (hn : n ≤ 256) :
    ∃ r i' h', spec_l1Below_priii k n i h b = some (r, ((), (i', h'))) ∧ 0 ≤ r ∧ (n ≤ 0 → r = 0) ∧ (0 < n → r < n) ∧ 0 ≤ i' ∧ i' ≤ b.length := by
  obtain ⟨k, rfl⟩ : ∃ k', k = k' + 1 := ⟨k - 1, by omega⟩
  rw [spec_l1Below_priii.eq]
  by_cases h0 : n ≤ 0
  · exact ⟨0, i, h, by simp only [↓p_test, p_lt, p_le, p_ltN, p_leN, p_eqN, p_len, p_ofN, p_nat, p_rd, p_set, p_app, p_take, p_drop, p_rep, p_wrap, p_add, p_sub, p_no, p_eq, p_eqB, p_eqP, p_bnd_some, Pu.w64, Int.toNat_natCast, decide_eq_true_eq, Int.ofNat_lt, Int.ofNat_le, if_true, if_false, Int.natCast_nonneg, decide_true, decide_false, Bool.not_true, Bool.not_false, Bool.false_eq_true, Bool.not_eq_true, Bool.true_and, Bool.and_true, Bool.false_and, Bool.and_false, h0], by omega, fun _ => rfl, fun h => by omega, hi, hi'⟩
  · obtain ⟨r, i', h', e, h1, h2, h3, h4⟩ := spec_l1Byte_prii.is (k := k) (h := h) (b := b) (by omega) hb hi hi'
    have hne : ¬ n = 0 := by omega
    refine ⟨r.tmod n, i', h', by simp only [↓p_test, p_lt, p_le, p_ltN, p_leN, p_eqN, p_len, p_ofN, p_nat, p_rd, p_set, p_app, p_take, p_drop, p_rep, p_wrap, p_add, p_sub, p_no, p_eq, p_eqB, p_eqP, p_bnd_some, Pu.w64, Int.toNat_natCast, decide_eq_true_eq, Int.ofNat_lt, Int.ofNat_le, if_true, if_false, Int.natCast_nonneg, decide_true, decide_false, Bool.not_true, Bool.not_false, Bool.false_eq_true, Bool.not_eq_true, Bool.true_and, Bool.and_true, Bool.false_and, Bool.and_false, h0, hn, e, hne]; rfl, Int.tmod_nonneg _ h1, fun h => by omega, fun _ => Int.tmod_lt_of_pos _ (by omega), h3, h4⟩
-- spec_l1Min
theorem spec_l1Min.is {k : Nat} {a b : Int} (hk : 1 ≤ k) : spec_l1Min k a b = some (min a b) := by
  obtain ⟨k, rfl⟩ : ∃ k', k = k' + 1 := ⟨k - 1, by omega⟩
  rw [spec_l1Min.eq]
  by_cases h : a < b
  · simp only [↓p_test, p_lt, p_le, p_ltN, p_leN, p_eqN, p_len, p_ofN, p_nat, p_rd, p_set, p_app, p_take, p_drop, p_rep, p_wrap, p_add, p_sub, p_no, p_eq, p_eqB, p_eqP, p_bnd_some, Pu.w64, Int.toNat_natCast, decide_eq_true_eq, Int.ofNat_lt, Int.ofNat_le, if_true, if_false, Int.natCast_nonneg, decide_true, decide_false, Bool.not_true, Bool.not_false, Bool.false_eq_true, Bool.not_eq_true, Bool.true_and, Bool.and_true, Bool.false_and, Bool.and_false, h]; congr 1; omega
  · simp only [↓p_test, p_lt, p_le, p_ltN, p_leN, p_eqN, p_len, p_ofN, p_nat, p_rd, p_set, p_app, p_take, p_drop, p_rep, p_wrap, p_add, p_sub, p_no, p_eq, p_eqB, p_eqP, p_bnd_some, Pu.w64, Int.toNat_natCast, decide_eq_true_eq, Int.ofNat_lt, Int.ofNat_le, if_true, if_false, Int.natCast_nonneg, decide_true, decide_false, Bool.not_true, Bool.not_false, Bool.false_eq_true, Bool.not_eq_true, Bool.true_and, Bool.and_true, Bool.false_and, Bool.and_false, h]; congr 1; omega
-- spec_l2All
theorem spec_l2All.inner {k k1 : Nat} {n p : Int} {r : List (List Int)} (hr : ∀ x ∈ r, x.length ≤ 1000) (hp : 1 ≤ p ∧ p ≤ 1000) (hlen : r.length ≤ 1000) : ∀ (m j i : Nat) (acc : List (List Int)), i + m = r.length → m < j → acc.length + m ≤ 100000 →
    spec_l2All.L1 k k1 j n p i acc r = spec_l2All.L0 k k1 n (p - 1) (acc ++ (r.drop i).map (p :: ·))
  | m, 0, i, acc, _, hj, _ => by omega
  | 0, j + 1, i, acc, hi, _, _ => by
    rw [spec_l2All.L1_eq]
    have e : i = r.length := by omega
    subst e
    have ew : IntKind.i64.wrap (p - 1) = p - 1 := Pu.w64 (by omega) (by omega)
    simp [ew]
  | m + 1, j + 1, i, acc, hi, hj, ha => by
    rw [spec_l2All.L1_eq]
    have hlt : i < r.length := by omega
    have hx : (r.getD i []).length ≤ 1000 := by rw [Pu.getD_lt hlt []]; exact hr _ (List.getElem_mem hlt)
    have ih := spec_l2All.inner (k := k) (k1 := k1) (n := n) hr hp hlen m j (i + 1) (acc ++ [p :: r.getD i []]) (by omega) (by omega) (by rw [List.length_append]; simp; omega)
    rw [Int.natCast_succ] at ih
    rw [Pu.drop_cons hlt []]
    have l1 : (p :: r.getD i []).length ≤ 1099511627776 := by rw [List.length_cons]; omega
    have l2 : (acc ++ [p :: r.getD i []]).length ≤ 1099511627776 := by rw [List.length_append]; simp; omega
    simp (disch := omega) only [↓p_test, p_lt, p_le, p_ltN, p_leN, p_eqN, p_len, p_ofN, p_nat, p_rd, p_set, p_app, p_take, p_drop, p_rep, p_wrap, p_add, p_sub, p_no, p_eq, p_eqB, p_eqP, p_bnd_some, Pu.w64, Int.toNat_natCast, decide_eq_true_eq, Int.ofNat_lt, Int.ofNat_le, if_true, if_false, Int.natCast_nonneg, decide_true, decide_false, Bool.not_true, Bool.not_false, Bool.false_eq_true, Bool.not_eq_true, Bool.true_and, Bool.and_true, Bool.false_and, Bool.and_false, hlt, l1, l2, List.cons_append, List.nil_append, ih, List.map_cons, List.append_assoc]
theorem spec_l2All.is (n : Nat) : ∀ (k : Nat) (m : Int), n ≤ 9 → 4194304 + n + 2 ≤ k → 1 ≤ m → m ≤ 1000 →
    ∃ L, spec_l2All k n m = some L ∧ 1 ≤ L.length ∧ L.length ≤ Pu.allB n ∧ ∀ x ∈ L, Pu.RowOK n x := by
  induction n using Nat.strongRecOn with
  | ind n IH =>
  intro k m hn hk hm hm'
  obtain ⟨k, rfl⟩ : ∃ k', k = k' + 1 := ⟨k - 1, by omega⟩
  rw [spec_l2All.eq]
  by_cases h0 : n = 0
  · subst h0
    refine ⟨[[]], by simp, by simp, by simp [Pu.allB], fun x hx => ?_⟩
    simp only [List.mem_singleton] at hx
    subst hx
    exact ⟨by simp, fun y hy => by cases hy⟩
  · have hne : ¬ (n : Int) = 0 := by omega
    simp only [↓p_test, p_lt, p_le, p_ltN, p_leN, p_eqN, p_len, p_ofN, p_nat, p_rd, p_set, p_app, p_take, p_drop, p_rep, p_wrap, p_add, p_sub, p_no, p_eq, p_eqB, p_eqP, p_bnd_some, Pu.w64, Int.toNat_natCast, decide_eq_true_eq, Int.ofNat_lt, Int.ofNat_le, if_true, if_false, Int.natCast_nonneg, decide_true, decide_false, Bool.not_true, Bool.not_false, Bool.false_eq_true, Bool.not_eq_true, Bool.true_and, Bool.and_true, Bool.false_and, Bool.and_false, hne]
    rw [spec_l1Min.is (by omega), p_bnd_some]
    have loop : ∀ (p j : Nat) (acc : List (List Int)), p ≤ n → p < j → acc.length + Pu.allS n p ≤ 512 → (∀ x ∈ acc, Pu.RowOK n x) →
        ∃ L, spec_l2All.L0 k j n p acc = some L ∧ acc.length + min p 1 ≤ L.length ∧ L.length ≤ acc.length + Pu.allS n p ∧ ∀ x ∈ L, Pu.RowOK n x := by
      intro p
      induction p with
      | zero =>
        intro j acc _ hj ha hg
        obtain ⟨j, rfl⟩ : ∃ j', j = j' + 1 := ⟨j - 1, by omega⟩
        rw [spec_l2All.L0_eq]
        exact ⟨acc, by simp, by simp, by simp, hg⟩
      | succ p ihp =>
        intro j acc hp hj ha hg
        obtain ⟨j, rfl⟩ : ∃ j', j = j' + 1 := ⟨j - 1, by omega⟩
        rw [spec_l2All.L0_eq]
        have ew : IntKind.i64.wrap ((n : Int) - ((p + 1 : Nat) : Int)) = ((n - (p + 1) : Nat) : Int) := by
          rw [Pu.w64 (by omega) (by omega)]; omega
        obtain ⟨R, hR, r1, r2, r3⟩ := IH (n - (p + 1)) (by omega) k ((p + 1 : Nat) : Int) (by omega) (by omega) (by omega) (by omega)
        have h1 : (1 : Int) ≤ ((p + 1 : Nat) : Int) := by omega
        have ha' : acc.length + (Pu.allB (n - (p + 1)) + Pu.allS n p) ≤ 512 := ha
        have hin := spec_l2All.inner (k := k) (k1 := j) (n := n) (p := ((p + 1 : Nat) : Int)) (r := R) (fun x hx => by have := (r3 x hx).1; omega) ⟨h1, by omega⟩ (by omega) R.length k 0 acc (by omega) (by omega) (by omega)
        rw [Int.natCast_zero, List.drop_zero, show ((p + 1 : Nat) : Int) - 1 = (p : Int) by omega] at hin
        simp only [↓p_test, p_lt, p_le, p_ltN, p_leN, p_eqN, p_len, p_ofN, p_nat, p_rd, p_set, p_app, p_take, p_drop, p_rep, p_wrap, p_add, p_sub, p_no, p_eq, p_eqB, p_eqP, p_bnd_some, Pu.w64, Int.toNat_natCast, decide_eq_true_eq, Int.ofNat_lt, Int.ofNat_le, if_true, if_false, Int.natCast_nonneg, decide_true, decide_false, Bool.not_true, Bool.not_false, Bool.false_eq_true, Bool.not_eq_true, Bool.true_and, Bool.and_true, Bool.false_and, Bool.and_false, h1, ew, hR]
        rw [hin]
        obtain ⟨L, hL, l1, l2, l3⟩ := ihp j (acc ++ R.map (((p + 1 : Nat) : Int) :: ·)) (by omega) (by omega) (by rw [List.length_append, List.length_map]; omega) (fun x hx => by
          rcases List.mem_append.1 hx with h | h
          · exact hg x h
          · obtain ⟨y, hy, rfl⟩ := List.mem_map.1 h
            obtain ⟨q1, q2⟩ := r3 y hy
            refine ⟨by rw [List.length_cons]; omega, fun z hz => ?_⟩
            rcases List.mem_cons.1 hz with rfl | hz
            · omega
            · exact q2 z hz)
        rw [List.length_append, List.length_map] at l1 l2
        refine ⟨L, hL, by omega, ?_, l3⟩
        show L.length ≤ acc.length + (Pu.allB (n - (p + 1)) + Pu.allS n p)
        omega
    have hS := fun p hp => Pu.allS_le (n := n) (p := p) hn (by omega) hp
    have hB := Pu.allB_le hn
    obtain ⟨p, hp⟩ : ∃ p : Nat, min (n : Int) m = p := ⟨(min (n : Int) m).toNat, by omega⟩
    rw [hp]
    obtain ⟨L, hL, l1, l2, l3⟩ := loop p k [] (by omega) (by omega) (by have := hS p (by omega); simp; omega) (fun x hx => by cases hx)
    have := hS p (by omega)
    simp only [List.length_nil, Nat.zero_add] at l1 l2
    exact ⟨L, hL, by omega, by omega, l3⟩
-- spec_l2Draw_priii
theorem spec_l2Draw_priii.is {k : Nat} {m i h : Int} {b : List Int} (hk : 4194304 + 12 ≤ k) (hb : b.length ≤ 1048576) (hi : 0 ≤ i) (hi' : i ≤ b.length) (hm : 1 ≤ m) (hm' : m ≤ 9) :
    ∃ p i' h', spec_l2Draw_priii k m i h b = some (p, ((), (i', h'))) ∧ Pu.RowOK 9 p ∧ 0 ≤ i' ∧ i' ≤ b.length := by
  obtain ⟨k, rfl⟩ : ∃ k', k = k' + 1 := ⟨k - 1, by omega⟩
  rw [spec_l2Draw_priii.eq]
  have ew : IntKind.i64.wrap (m + 1) = m + 1 := Pu.w64 (by omega) (by omega)
  obtain ⟨r, i1, h1, e1, a1, a2, a3, a4, a5⟩ := spec_l1Below_priii.is (k := k) (n := m + 1) (h := h) (b := b) (by omega) hb hi hi' (by omega)
  have a3 := a3 (by omega)
  obtain ⟨n, rfl⟩ : ∃ n : Nat, r = n := ⟨r.toNat, by omega⟩
  obtain ⟨L, eL, c1, c2, c3⟩ := spec_l2All.is n k m (by omega) (by omega) hm (by omega)
  have := Pu.allB_le (n := n) (by omega)
  obtain ⟨q, i2, h2, e2, b1, b2, b3, b4, b5⟩ := spec_l1Below_priii.is (k := k) (n := L.length) (h := h1) (b := b) (by omega) hb a4 a5 (by omega)
  have b3 := b3 (by omega)
  have hn : q.toNat < L.length := by omega
  refine ⟨L.getD q.toNat [], i2, h2, ?_, ?_, b4, b5⟩
  · simp only [↓p_test, p_lt, p_le, p_ltN, p_leN, p_eqN, p_len, p_ofN, p_nat, p_rd, p_set, p_app, p_take, p_drop, p_rep, p_wrap, p_add, p_sub, p_no, p_eq, p_eqB, p_eqP, p_bnd_some, Pu.w64, Int.toNat_natCast, decide_eq_true_eq, Int.ofNat_lt, Int.ofNat_le, if_true, if_false, Int.natCast_nonneg, decide_true, decide_false, Bool.not_true, Bool.not_false, Bool.false_eq_true, Bool.not_eq_true, Bool.true_and, Bool.and_true, Bool.false_and, Bool.and_false, ew, e1, eL, e2, b1, hn]
  · rw [Pu.getD_lt hn []]
    obtain ⟨d1, d2⟩ := c3 _ (List.getElem_mem hn)
    exact ⟨by omega, d2⟩
-- spec_l2At
theorem spec_l2At.is {k : Nat} {p : List Int} {i : Int} (hk : 1 ≤ k) : spec_l2At k p i = some (Pu.atI p i) := by
  obtain ⟨k, rfl⟩ : ∃ k', k = k' + 1 := ⟨k - 1, by omega⟩
  rw [spec_l2At.eq, spec_l2At.J0_eq]
  by_cases h1 : i < 0
  · simp only [↓p_test, p_lt, p_le, p_ltN, p_leN, p_eqN, p_len, p_ofN, p_nat, p_rd, p_set, p_app, p_take, p_drop, p_rep, p_wrap, p_add, p_sub, p_no, p_eq, p_eqB, p_eqP, p_bnd_some, Pu.w64, Int.toNat_natCast, decide_eq_true_eq, Int.ofNat_lt, Int.ofNat_le, if_true, if_false, Int.natCast_nonneg, decide_true, decide_false, Bool.not_true, Bool.not_false, Bool.false_eq_true, Bool.not_eq_true, Bool.true_and, Bool.and_true, Bool.false_and, Bool.and_false, h1, Pu.atI_neg h1]
  · by_cases h2 : (p.length : Int) ≤ i
    · simp only [↓p_test, p_lt, p_le, p_ltN, p_leN, p_eqN, p_len, p_ofN, p_nat, p_rd, p_set, p_app, p_take, p_drop, p_rep, p_wrap, p_add, p_sub, p_no, p_eq, p_eqB, p_eqP, p_bnd_some, Pu.w64, Int.toNat_natCast, decide_eq_true_eq, Int.ofNat_lt, Int.ofNat_le, if_true, if_false, Int.natCast_nonneg, decide_true, decide_false, Bool.not_true, Bool.not_false, Bool.false_eq_true, Bool.not_eq_true, Bool.true_and, Bool.and_true, Bool.false_and, Bool.and_false, h1, h2, Pu.atI_ge h2]
    · have h3 : 0 ≤ i := by omega
      have h4 : i.toNat < p.length := by omega
      simp only [↓p_test, p_lt, p_le, p_ltN, p_leN, p_eqN, p_len, p_ofN, p_nat, p_rd, p_set, p_app, p_take, p_drop, p_rep, p_wrap, p_add, p_sub, p_no, p_eq, p_eqB, p_eqP, p_bnd_some, Pu.w64, Int.toNat_natCast, decide_eq_true_eq, Int.ofNat_lt, Int.ofNat_le, if_true, if_false, Int.natCast_nonneg, decide_true, decide_false, Bool.not_true, Bool.not_false, Bool.false_eq_true, Bool.not_eq_true, Bool.true_and, Bool.and_true, Bool.false_and, Bool.and_false, h1, h2, h3, h4, Pu.atI]
-- spec_l5Entry
theorem spec_l5Entry.is {k : Nat} {t : Pu.Tab} {r c : Int} (hk : 2 ≤ k) (hi : Pu.isPart t.1 = true) (h1 : -1000000000 ≤ c) (h2 : c ≤ 1000000000) : spec_l5Entry k t r c = some (Pu.entry t r c) := by
  obtain ⟨k, rfl⟩ : ∃ k', k = k' + 1 := ⟨k - 1, by omega⟩
  have hb := Pu.part_atI hi r
  rw [spec_l5Entry.eq, spec_l5Entry.J0_eq, spec_l2At.is (by omega)]
  unfold Pu.entry
  by_cases c1 : r < 0
  · simp only [↓p_test, p_lt, p_le, p_ltN, p_leN, p_eqN, p_len, p_ofN, p_nat, p_rd, p_set, p_app, p_take, p_drop, p_rep, p_wrap, p_add, p_sub, p_no, p_eq, p_eqB, p_eqP, p_bnd_some, Pu.w64, Int.toNat_natCast, decide_eq_true_eq, Int.ofNat_lt, Int.ofNat_le, if_true, if_false, Int.natCast_nonneg, decide_true, decide_false, Bool.not_true, Bool.not_false, Bool.false_eq_true, Bool.not_eq_true, Bool.true_and, Bool.and_true, Bool.false_and, Bool.and_false, c1]
  · by_cases c2 : (t.2.length : Int) ≤ r
    · simp only [↓p_test, p_lt, p_le, p_ltN, p_leN, p_eqN, p_len, p_ofN, p_nat, p_rd, p_set, p_app, p_take, p_drop, p_rep, p_wrap, p_add, p_sub, p_no, p_eq, p_eqB, p_eqP, p_bnd_some, Pu.w64, Int.toNat_natCast, decide_eq_true_eq, Int.ofNat_lt, Int.ofNat_le, if_true, if_false, Int.natCast_nonneg, decide_true, decide_false, Bool.not_true, Bool.not_false, Bool.false_eq_true, Bool.not_eq_true, Bool.true_and, Bool.and_true, Bool.false_and, Bool.and_false, c1, c2]
    · have c3 : 0 ≤ r := by omega
      have c4 : r.toNat < t.2.length := by omega
      simp (disch := omega) only [↓p_test, p_lt, p_le, p_ltN, p_leN, p_eqN, p_len, p_ofN, p_nat, p_rd, p_set, p_app, p_take, p_drop, p_rep, p_wrap, p_add, p_sub, p_no, p_eq, p_eqB, p_eqP, p_bnd_some, Pu.w64, Int.toNat_natCast, decide_eq_true_eq, Int.ofNat_lt, Int.ofNat_le, if_true, if_false, Int.natCast_nonneg, decide_true, decide_false, Bool.not_true, Bool.not_false, Bool.false_eq_true, Bool.not_eq_true, Bool.true_and, Bool.and_true, Bool.false_and, Bool.and_false, c1, c2, c3, c4]
      by_cases d1 : c - Pu.atI t.1 r < 0
      · simp only [↓p_test, p_lt, p_le, p_ltN, p_leN, p_eqN, p_len, p_ofN, p_nat, p_rd, p_set, p_app, p_take, p_drop, p_rep, p_wrap, p_add, p_sub, p_no, p_eq, p_eqB, p_eqP, p_bnd_some, Pu.w64, Int.toNat_natCast, decide_eq_true_eq, Int.ofNat_lt, Int.ofNat_le, if_true, if_false, Int.natCast_nonneg, decide_true, decide_false, Bool.not_true, Bool.not_false, Bool.false_eq_true, Bool.not_eq_true, Bool.true_and, Bool.and_true, Bool.false_and, Bool.and_false, d1, Pu.atI_neg d1]
      · by_cases d2 : ((t.2.getD r.toNat []).length : Int) ≤ c - Pu.atI t.1 r
        · simp only [↓p_test, p_lt, p_le, p_ltN, p_leN, p_eqN, p_len, p_ofN, p_nat, p_rd, p_set, p_app, p_take, p_drop, p_rep, p_wrap, p_add, p_sub, p_no, p_eq, p_eqB, p_eqP, p_bnd_some, Pu.w64, Int.toNat_natCast, decide_eq_true_eq, Int.ofNat_lt, Int.ofNat_le, if_true, if_false, Int.natCast_nonneg, decide_true, decide_false, Bool.not_true, Bool.not_false, Bool.false_eq_true, Bool.not_eq_true, Bool.true_and, Bool.and_true, Bool.false_and, Bool.and_false, d1, d2, Pu.atI_ge d2]
        · have d3 : 0 ≤ c - Pu.atI t.1 r := by omega
          have d4 : (c - Pu.atI t.1 r).toNat < (t.2.getD r.toNat []).length := by omega
          rw [spec_l5Entry.J1_eq]
          generalize c - Pu.atI t.1 r = z at *
          simp only [↓p_test, p_lt, p_le, p_ltN, p_leN, p_eqN, p_len, p_ofN, p_nat, p_rd, p_set, p_app, p_take, p_drop, p_rep, p_wrap, p_add, p_sub, p_no, p_eq, p_eqB, p_eqP, p_bnd_some, Pu.w64, Int.toNat_natCast, decide_eq_true_eq, Int.ofNat_lt, Int.ofNat_le, if_true, if_false, Int.natCast_nonneg, decide_true, decide_false, Bool.not_true, Bool.not_false, Bool.false_eq_true, Bool.not_eq_true, Bool.true_and, Bool.and_true, Bool.false_and, Bool.and_false, c3, c4, d1, d2, d3, d4, Pu.atI]
-- spec_l1Max
theorem spec_l1Max.is {k : Nat} {a b : Int} (hk : 1 ≤ k) : spec_l1Max k a b = some (max a b) := by
  obtain ⟨k, rfl⟩ : ∃ k', k = k' + 1 := ⟨k - 1, by omega⟩
  rw [spec_l1Max.eq]
  by_cases h : b < a
  · simp only [↓p_test, p_lt, p_le, p_ltN, p_leN, p_eqN, p_len, p_ofN, p_nat, p_rd, p_set, p_app, p_take, p_drop, p_rep, p_wrap, p_add, p_sub, p_no, p_eq, p_eqB, p_eqP, p_bnd_some, Pu.w64, Int.toNat_natCast, decide_eq_true_eq, Int.ofNat_lt, Int.ofNat_le, if_true, if_false, Int.natCast_nonneg, decide_true, decide_false, Bool.not_true, Bool.not_false, Bool.false_eq_true, Bool.not_eq_true, Bool.true_and, Bool.and_true, Bool.false_and, Bool.and_false, h]; congr 1; omega
  · simp only [↓p_test, p_lt, p_le, p_ltN, p_leN, p_eqN, p_len, p_ofN, p_nat, p_rd, p_set, p_app, p_take, p_drop, p_rep, p_wrap, p_add, p_sub, p_no, p_eq, p_eqB, p_eqP, p_bnd_some, Pu.w64, Int.toNat_natCast, decide_eq_true_eq, Int.ofNat_lt, Int.ofNat_le, if_true, if_false, Int.natCast_nonneg, decide_true, decide_false, Bool.not_true, Bool.not_false, Bool.false_eq_true, Bool.not_eq_true, Bool.true_and, Bool.and_true, Bool.false_and, Bool.and_false, h]; congr 1; omega
-- spec_l1Once_priii
theorem spec_l1Once_priii.is {k : Nat} {n i h : Int} {b : List Int} (hk : 3 ≤ k) (hb : b.length ≤ 1048576) (hi : 0 ≤ i) (hi' : i ≤ b.length) (hn : n ≤ 256) :
    ∃ r i' h', spec_l1Once_priii k n i h b = some (r, ((), (i', h'))) ∧ 0 ≤ i' ∧ i' ≤ b.length := by
  obtain ⟨k, rfl⟩ : ∃ k', k = k' + 1 := ⟨k - 1, by omega⟩
  rw [spec_l1Once_priii.eq]
  obtain ⟨r, i', h', e, h1, h2, h3, h4, h5⟩ := spec_l1Below_priii.is (k := k) (h := h) (b := b) (by omega) hb hi hi' hn
  rw [e]
  exact ⟨_, _, _, rfl, h4, h5⟩
-- spec_l1Bit
theorem spec_l1Bit.is {k : Nat} {b : Bool} (hk : 1 ≤ k) : spec_l1Bit k b = some (if b = true then 1 else 0) := by
  obtain ⟨k, rfl⟩ : ∃ k', k = k' + 1 := ⟨k - 1, by omega⟩
  rw [spec_l1Bit.eq]
  cases b <;> rfl
-- spec_l5Fill_priirr
theorem spec_l5Entry.ok {k : Nat} {t : Pu.Tab} {r c : Int} (hk : 2 ≤ k) : Pu.Ok (spec_l5Entry k t r c) fun _ => True := by
  obtain ⟨k, rfl⟩ : ∃ k', k = k' + 1 := ⟨k - 1, by omega⟩
  rw [spec_l5Entry.eq, spec_l5Entry.J0_eq]
  simp only [p_lt, p_le, p_ltN, p_leN, p_eqN, p_len, p_ofN, p_nat, p_rd, p_set, p_app, p_take, p_drop, p_rep, p_wrap, p_add, p_sub, p_mul, p_no, p_eq, p_eqB, p_eqP, p_lenS, p_catS, p_addN, p_subN, List.nil_append, List.cons_append]
  refine Pu.Ok.t (fun _ => Pu.Ok.ret trivial) (fun c1 => Pu.Ok.t (fun _ => Pu.Ok.ret trivial) (fun c2 => ?_))
  refine Pu.Ok.bndE (spec_l2At.is (by omega)) ?_
  generalize IntKind.i64.wrap (c - Pu.atI t.1 r) = z
  refine Pu.Ok.t (fun _ => Pu.Ok.ret trivial) (fun d1 => ?_)
  (repeat (refine Pu.Ok.g (by first | omega | assumption | (simp only [List.length_append, List.length_cons, List.length_nil, List.length_set, List.length_take, List.length_drop, List.length_replicate] at *; omega)) ?_))
  refine Pu.Ok.t (fun _ => Pu.Ok.ret trivial) (fun d2 => ?_)
  rw [spec_l5Entry.J1_eq]
  simp only [p_lt, p_le, p_ltN, p_leN, p_eqN, p_len, p_ofN, p_nat, p_rd, p_set, p_app, p_take, p_drop, p_rep, p_wrap, p_add, p_sub, p_mul, p_no, p_eq, p_eqB, p_eqP, p_lenS, p_catS, p_addN, p_subN, List.nil_append, List.cons_append]
  (repeat (refine Pu.Ok.g (by first | omega | assumption | (simp only [List.length_append, List.length_cons, List.length_nil, List.length_set, List.length_take, List.length_drop, List.length_replicate] at *; omega)) ?_))
  exact Pu.Ok.ret trivial
theorem spec_l5Fill_priirr.inner {k k1 : Nat} {b o g p1 : List Int} {i : Nat} {c : List Int} {d : List (List Int)} {rs : List (List Int)} (hk : 4194304 ≤ k) (hb : b.length ≤ 1048576) (ho : Pu.RowOK 9 o) (hi : i < o.length) (hrs : rs.length ≤ 9)
    (key : ∀ (p h : Int) (row : List Int), 0 ≤ p → p ≤ b.length → row.length ≤ 9 → Pu.Ok (spec_l5Fill_priirr.L0 k k1 ((i : Int) + 1) p h o p1 b c d g (rs ++ [row])) fun r => r.1.1 = g ∧ Pu.RowsLe 9 9 r.1.2 ∧ 0 ≤ r.2.2.1 ∧ r.2.2.1 ≤ b.length) :
    ∀ (m j : Nat) (x low p h : Int) (row : List Int), (9 - x).toNat ≤ m → m < j → 0 ≤ p → p ≤ b.length → 0 ≤ x → (row.length : Int) ≤ x → row.length ≤ 9 →
    Pu.Ok (spec_l5Fill_priirr.L1 k k1 j i low x p h row o p1 b c d g rs) fun r => r.1.1 = g ∧ Pu.RowsLe 9 9 r.1.2 ∧ 0 ≤ r.2.2.1 ∧ r.2.2.1 ≤ b.length
  | m, 0, x, low, p, h, row, _, hj, _, _, _, _, _ => by omega
  | m, j + 1, x, low, p, h, row, hi, hj, h0, h1, h2, h3, h4 => by
    rw [spec_l5Fill_priirr.L1_eq]
    simp only [p_lt, p_le, p_ltN, p_leN, p_eqN, p_len, p_ofN, p_nat, p_rd, p_set, p_app, p_take, p_drop, p_rep, p_wrap, p_add, p_sub, p_mul, p_no, p_eq, p_eqB, p_eqP, p_lenS, p_catS, p_addN, p_subN, List.nil_append, List.cons_append]
    (repeat (refine Pu.Ok.g (by first | omega | assumption | (simp only [List.length_append, List.length_cons, List.length_nil, List.length_set, List.length_take, List.length_drop, List.length_replicate] at *; omega)) ?_))
    have hlt : i < o.length := by omega
    have hx := ho.2 _ (List.getElem_mem hlt)
    rw [← Pu.getD_lt hlt 0] at hx
    have h9 := ho.1
    (try simp only [Int.toNat_natCast]); (try simp (disch := omega) only [Pu.w64])
    refine Pu.Ok.t (fun hz => ?_) (fun hz => ?_)
    · refine Pu.Ok.bnd (spec_l5Entry.ok (by omega)) fun r1 _ => ?_
      refine Pu.Ok.bndE (spec_l1Max.is (by omega)) ?_
      obtain ⟨r2, i2, h2', e2, b4, b5⟩ := spec_l1Once_priii.is (k := k) (n := 3) (h := h) (b := b) (by omega) hb h0 h1 (by omega)
      refine Pu.Ok.bndE e2 (Pu.Ok.bndE (spec_l1Bit.is (by omega)) ?_)
      obtain ⟨r3, i3, h3', e3, a1, a2, a3, a4, a5⟩ := spec_l1Below_priii.is (k := k) (n := 2) (h := h2') (b := b) (by omega) hb b4 b5 (by omega)
      refine Pu.Ok.bndE e3 (Pu.Ok.bndE (spec_l1Min.is (by omega)) ?_)
      dsimp only
      (repeat (refine Pu.Ok.g (by first | omega | assumption | (simp only [List.length_append, List.length_cons, List.length_nil, List.length_set, List.length_take, List.length_drop, List.length_replicate] at *; omega)) ?_))
      (try simp only [Int.toNat_natCast]); (try simp (disch := omega) only [Pu.w64])
      exact spec_l5Fill_priirr.inner hk hb ho hlt hrs key (m - 1) j _ _ i3 h3' _ (by omega) (by omega) a4 a5 (by omega) (by rw [List.length_append]; simp; omega) (by rw [List.length_append]; simp; omega)
    · (repeat (refine Pu.Ok.g (by first | omega | assumption | (simp only [List.length_append, List.length_cons, List.length_nil, List.length_set, List.length_take, List.length_drop, List.length_replicate] at *; omega)) ?_))
      exact key p h row h0 h1 h4
theorem spec_l5Fill_priirr.loop {k : Nat} {b o g p1 : List Int} {c : List Int} {d : List (List Int)} (hk : 4194304 ≤ k) (hb : b.length ≤ 1048576) (ho : Pu.RowOK 9 o) (hp : ∀ x ∈ p1, 1 ≤ x ∧ x ≤ 9) : ∀ (m j i : Nat) (p h : Int) (rs : List (List Int)), i + m = o.length → m < j → 0 ≤ p → p ≤ b.length → Pu.RowsLe i 9 rs →
    Pu.Ok (spec_l5Fill_priirr.L0 k j i p h o p1 b c d g rs) fun r => r.1.1 = g ∧ Pu.RowsLe 9 9 r.1.2 ∧ 0 ≤ r.2.2.1 ∧ r.2.2.1 ≤ b.length
  | m, 0, i, p, h, rs, _, hj, _, _, _ => by omega
  | 0, j + 1, i, p, h, rs, hi, hj, h0, h1, hr => by
    rw [spec_l5Fill_priirr.L0_eq]
    simp only [p_lt, p_le, p_ltN, p_leN, p_eqN, p_len, p_ofN, p_nat, p_rd, p_set, p_app, p_take, p_drop, p_rep, p_wrap, p_add, p_sub, p_mul, p_no, p_eq, p_eqB, p_eqP, p_lenS, p_catS, p_addN, p_subN, List.nil_append, List.cons_append]
    have := ho.1
    exact Pu.Ok.no (by omega) (Pu.Ok.ret ⟨rfl, hr.mono (by omega) (by omega), h0, h1⟩)
  | m + 1, j + 1, i, p, h, rs, hi, hj, h0, h1, hr => by
    rw [spec_l5Fill_priirr.L0_eq]
    simp only [p_lt, p_le, p_ltN, p_leN, p_eqN, p_len, p_ofN, p_nat, p_rd, p_set, p_app, p_take, p_drop, p_rep, p_wrap, p_add, p_sub, p_mul, p_no, p_eq, p_eqB, p_eqP, p_lenS, p_catS, p_addN, p_subN, List.nil_append, List.cons_append]
    (repeat (refine Pu.Ok.g (by first | omega | assumption | (simp only [List.length_append, List.length_cons, List.length_nil, List.length_set, List.length_take, List.length_drop, List.length_replicate] at *; omega)) ?_))
    refine Pu.Ok.bndE (spec_l2At.is (by omega)) ?_
    have h9 := ho.1
    have hz : 0 ≤ Pu.atI p1 i := by
      rw [Pu.atI_nat]
      by_cases hl : i < p1.length
      · rw [Pu.getD_lt hl]; have := hp _ (List.getElem_mem hl); omega
      · rw [Pu.getD_ge (by omega)]; omega
    refine spec_l5Fill_priirr.inner hk hb ho (by omega) (by have := hr.1; omega) ?_ 9 k _ _ p h [] (by omega) (by omega) h0 h1 hz (by simpa using hz) (by simp)
    intro p' h' row q0 q1 q2
    exact spec_l5Fill_priirr.loop hk hb ho hp m j (i + 1) p' h' _ (by omega) (by omega) q0 q1 (hr.app q2)
theorem spec_l5Fill_priirr.ok {k : Nat} {i h : Int} {b o p : List Int} (hk : 4194304 + 2 ≤ k) (hb : b.length ≤ 1048576) (hi : 0 ≤ i) (hi' : i ≤ b.length) (ho : Pu.RowOK 9 o) (hp : Pu.RowOK 9 p) :
    Pu.Ok (spec_l5Fill_priirr k i h o p b) fun r => r.1.1 = p ∧ Pu.RowsLe 9 9 r.1.2 ∧ 0 ≤ r.2.2.1 ∧ r.2.2.1 ≤ b.length := by
  obtain ⟨k, rfl⟩ : ∃ k', k = k' + 1 := ⟨k - 1, by omega⟩
  rw [spec_l5Fill_priirr.eq]
  simp only [p_lt, p_le, p_ltN, p_leN, p_eqN, p_len, p_ofN, p_nat, p_rd, p_set, p_app, p_take, p_drop, p_rep, p_wrap, p_add, p_sub, p_mul, p_no, p_eq, p_eqB, p_eqP, p_lenS, p_catS, p_addN, p_subN, List.nil_append, List.cons_append]
  have := hp.1
  (repeat (refine Pu.Ok.g (by first | omega | assumption | (simp only [List.length_append, List.length_cons, List.length_nil, List.length_set, List.length_take, List.length_drop, List.length_replicate] at *; omega)) ?_))
  exact spec_l5Fill_priirr.loop (by omega) hb ho hp.2 o.length k 0 i h [] (by omega) (by have := ho.1; omega) hi hi' ⟨by simp, fun x hx => by cases hx⟩
-- spec_l1In
theorem spec_l1In.is {k : Nat} {x lo hi : Int} (hk : 1 ≤ k) : spec_l1In k x lo hi = some (Pu.within x lo hi) := by
  obtain ⟨k, rfl⟩ : ∃ k', k = k' + 1 := ⟨k - 1, by omega⟩
  rw [spec_l1In.eq]
  by_cases h : lo ≤ x <;> simp [Pu.within, h]
-- spec_IsPartition
theorem spec_IsPartition.loop {k : Nat} {p : List Int} (hk : 4194304 ≤ k) (hp : p.length ≤ 1048576) : ∀ (m j i : Nat) (s v : Int), i + m = p.length → m < j → (i = 0 → v = 9) → (0 < i → v = p.getD (i - 1) 0) → v ≤ 9 → 0 ≤ s → s ≤ 9 →
    spec_IsPartition.L0 k j s i p = some (Pu.partGo (p.drop i) v s)
  | m, 0, i, s, v, _, hj, _, _, _, _, _ => by omega
  | 0, j + 1, i, s, v, hi, _, _, _, _, _, _ => by
    rw [spec_IsPartition.L0_eq]
    have e : i = p.length := by omega
    subst e
    simp [Pu.partGo]
  | m + 1, j + 1, i, s, v, hi, hj, h0, h1, hv, hs, hs9 => by
    rw [spec_IsPartition.L0_eq]
    have hlt : i < p.length := by omega
    have hj1 : ∀ x : Int, x = p.getD i 0 → 1 ≤ x → x ≤ v → spec_IsPartition.J1 k j s i p = some (decide (s + x ≤ 9) && Pu.partGo (p.drop (i + 1)) x (s + x)) := by
      intro x hx hx1 hx2
      rw [spec_IsPartition.J1_eq]
      simp (disch := omega) only [↓p_test, p_lt, p_le, p_ltN, p_leN, p_eqN, p_len, p_ofN, p_nat, p_rd, p_set, p_app, p_take, p_drop, p_rep, p_wrap, p_add, p_sub, p_no, p_eq, p_eqB, p_eqP, p_bnd_some, Pu.w64, Int.toNat_natCast, decide_eq_true_eq, Int.ofNat_lt, Int.ofNat_le, if_true, if_false, Int.natCast_nonneg, decide_true, decide_false, Bool.not_true, Bool.not_false, Bool.false_eq_true, Bool.not_eq_true, Bool.true_and, Bool.and_true, Bool.false_and, Bool.and_false, hlt, ← hx]
      by_cases c : 9 < s + x
      · have : ¬ s + x ≤ 9 := by omega
        simp [c, this]
      · have c' : s + x ≤ 9 := by omega
        have ih := spec_IsPartition.loop hk hp m j (i + 1) (s + x) x (by omega) (by omega) (by omega) (by simp [hx]) (by omega) (by omega) c'
        rw [Int.natCast_succ] at ih
        simp [c, c', ih]
    rw [Pu.drop_cons hlt 0]
    simp (disch := omega) only [↓p_test, p_lt, p_le, p_ltN, p_leN, p_eqN, p_len, p_ofN, p_nat, p_rd, p_set, p_app, p_take, p_drop, p_rep, p_wrap, p_add, p_sub, p_no, p_eq, p_eqB, p_eqP, p_bnd_some, Pu.w64, Int.toNat_natCast, decide_eq_true_eq, Int.ofNat_lt, Int.ofNat_le, if_true, if_false, Int.natCast_nonneg, decide_true, decide_false, Bool.not_true, Bool.not_false, Bool.false_eq_true, Bool.not_eq_true, Bool.true_and, Bool.and_true, Bool.false_and, Bool.and_false, hlt, spec_l1In.is, Pu.partGo]
    generalize hx : p.getD i 0 = x at *
    unfold Pu.within
    by_cases c1 : 1 ≤ x
    · by_cases c2 : x ≤ v
      · have c3 : x ≤ 9 := by omega
        have hj := hj1 x rfl c1 c2
        by_cases hi0 : i = 0
        · have hpos : ¬ (0 : Int) < i := by omega
          simp (disch := omega) only [↓p_test, p_lt, p_le, p_ltN, p_leN, p_eqN, p_len, p_ofN, p_nat, p_rd, p_set, p_app, p_take, p_drop, p_rep, p_wrap, p_add, p_sub, p_no, p_eq, p_eqB, p_eqP, p_bnd_some, Pu.w64, Int.toNat_natCast, decide_eq_true_eq, Int.ofNat_lt, Int.ofNat_le, if_true, if_false, Int.natCast_nonneg, decide_true, decide_false, Bool.not_true, Bool.not_false, Bool.false_eq_true, Bool.not_eq_true, Bool.true_and, Bool.and_true, Bool.false_and, Bool.and_false, c1, c2, c3, hpos, hj]
        · have hv' := h1 (by omega)
          have e : ((i : Int) - 1) = ((i - 1 : Nat) : Int) := by omega
          have hlt' : i - 1 < p.length := by omega
          have hge : ¬ p.getD (i - 1) 0 < x := by rw [← hv']; omega
          have hpos : (0 : Int) < i := by omega
          simp (disch := omega) only [e, ↓p_test, p_lt, p_le, p_ltN, p_leN, p_eqN, p_len, p_ofN, p_nat, p_rd, p_set, p_app, p_take, p_drop, p_rep, p_wrap, p_add, p_sub, p_no, p_eq, p_eqB, p_eqP, p_bnd_some, Pu.w64, Int.toNat_natCast, decide_eq_true_eq, Int.ofNat_lt, Int.ofNat_le, if_true, if_false, Int.natCast_nonneg, decide_true, decide_false, Bool.not_true, Bool.not_false, Bool.false_eq_true, Bool.not_eq_true, Bool.true_and, Bool.and_true, Bool.false_and, Bool.and_false, hlt', c1, c2, c3, hj, hpos, hge]
      · simp only [c1, c2, ↓p_test, p_lt, p_le, p_ltN, p_leN, p_eqN, p_len, p_ofN, p_nat, p_rd, p_set, p_app, p_take, p_drop, p_rep, p_wrap, p_add, p_sub, p_no, p_eq, p_eqB, p_eqP, p_bnd_some, Pu.w64, Int.toNat_natCast, decide_eq_true_eq, Int.ofNat_lt, Int.ofNat_le, if_true, if_false, Int.natCast_nonneg, decide_true, decide_false, Bool.not_true, Bool.not_false, Bool.false_eq_true, Bool.not_eq_true, Bool.true_and, Bool.and_true, Bool.false_and, Bool.and_false]
        by_cases c3 : x ≤ 9
        · have hi0 : 0 < i := by
            rcases Nat.eq_zero_or_pos i with h | h
            · have := h0 h; omega
            · exact h
          have hv' := h1 hi0
          have e : ((i : Int) - 1) = ((i - 1 : Nat) : Int) := by omega
          have hlt' : i - 1 < p.length := by omega
          have hge : p.getD (i - 1) 0 < x := by rw [← hv']; omega
          have hpos : (0 : Int) < i := by omega
          simp (disch := omega) only [e, ↓p_test, p_lt, p_le, p_ltN, p_leN, p_eqN, p_len, p_ofN, p_nat, p_rd, p_set, p_app, p_take, p_drop, p_rep, p_wrap, p_add, p_sub, p_no, p_eq, p_eqB, p_eqP, p_bnd_some, Pu.w64, Int.toNat_natCast, decide_eq_true_eq, Int.ofNat_lt, Int.ofNat_le, if_true, if_false, Int.natCast_nonneg, decide_true, decide_false, Bool.not_true, Bool.not_false, Bool.false_eq_true, Bool.not_eq_true, Bool.true_and, Bool.and_true, Bool.false_and, Bool.and_false, hlt', c3, hpos, hge]
        · simp only [c3, ↓p_test, p_lt, p_le, p_ltN, p_leN, p_eqN, p_len, p_ofN, p_nat, p_rd, p_set, p_app, p_take, p_drop, p_rep, p_wrap, p_add, p_sub, p_no, p_eq, p_eqB, p_eqP, p_bnd_some, Pu.w64, Int.toNat_natCast, decide_eq_true_eq, Int.ofNat_lt, Int.ofNat_le, if_true, if_false, Int.natCast_nonneg, decide_true, decide_false, Bool.not_true, Bool.not_false, Bool.false_eq_true, Bool.not_eq_true, Bool.true_and, Bool.and_true, Bool.false_and, Bool.and_false]
    · simp only [c1, ↓p_test, p_lt, p_le, p_ltN, p_leN, p_eqN, p_len, p_ofN, p_nat, p_rd, p_set, p_app, p_take, p_drop, p_rep, p_wrap, p_add, p_sub, p_no, p_eq, p_eqB, p_eqP, p_bnd_some, Pu.w64, Int.toNat_natCast, decide_eq_true_eq, Int.ofNat_lt, Int.ofNat_le, if_true, if_false, Int.natCast_nonneg, decide_true, decide_false, Bool.not_true, Bool.not_false, Bool.false_eq_true, Bool.not_eq_true, Bool.true_and, Bool.and_true, Bool.false_and, Bool.and_false]
theorem spec_IsPartition.is {k : Nat} {p : List Int} (hk : 4194304 + 1 ≤ k) (hp : p.length ≤ 1048576) : spec_IsPartition k p = some (Pu.isPart p) := by
  obtain ⟨k, rfl⟩ : ∃ k', k = k' + 1 := ⟨k - 1, by omega⟩
  rw [spec_IsPartition.eq]
  exact spec_IsPartition.loop (k := k) (by omega) hp p.length k 0 0 9 (by omega) (by omega) (fun _ => rfl) (by omega) (by omega) (by omega) (by omega)
-- spec_IsInside
theorem spec_IsInside.loop {k : Nat} {q p : List Int} (hq : q.length ≤ 1048576) (hl : q.length ≤ p.length) (hk : q.length < k) : spec_IsInside.L1 k k 0 q p = some ((List.range' 0 q.length).all fun i => decide (q.getD i 0 ≤ p.getD i 0)) := by
  have h := Pu.loop_all (fun j i => spec_IsInside.L1 k j (i : Int) q p) q.length (fun i => decide (q.getD i 0 ≤ p.getD i 0)) (some false) (some true)
    (fun j i hi => by
      have hi2 : i < p.length := by omega
      rw [spec_IsInside.L1_eq]
      simp (disch := omega) only [↓p_test, p_lt, p_le, p_ltN, p_leN, p_eqN, p_len, p_ofN, p_nat, p_rd, p_set, p_app, p_take, p_drop, p_rep, p_wrap, p_add, p_sub, p_no, p_eq, p_eqB, p_eqP, p_bnd_some, Pu.w64, Int.toNat_natCast, decide_eq_true_eq, Int.ofNat_lt, Int.ofNat_le, if_true, if_false, Int.natCast_nonneg, decide_true, decide_false, Bool.not_true, Bool.not_false, Bool.false_eq_true, Bool.not_eq_true, Bool.true_and, Bool.and_true, Bool.false_and, Bool.and_false, hi, hi2, Int.natCast_add, Int.natCast_one]
      by_cases c : q.getD i 0 ≤ p.getD i 0
      · have c' : ¬ p.getD i 0 < q.getD i 0 := by omega
        simp only [c, c', ↓p_test, p_lt, p_le, p_ltN, p_leN, p_eqN, p_len, p_ofN, p_nat, p_rd, p_set, p_app, p_take, p_drop, p_rep, p_wrap, p_add, p_sub, p_no, p_eq, p_eqB, p_eqP, p_bnd_some, Pu.w64, Int.toNat_natCast, decide_eq_true_eq, Int.ofNat_lt, Int.ofNat_le, if_true, if_false, Int.natCast_nonneg, decide_true, decide_false, Bool.not_true, Bool.not_false, Bool.false_eq_true, Bool.not_eq_true, Bool.true_and, Bool.and_true, Bool.false_and, Bool.and_false]
      · have c' : p.getD i 0 < q.getD i 0 := by omega
        simp only [c, c', ↓p_test, p_lt, p_le, p_ltN, p_leN, p_eqN, p_len, p_ofN, p_nat, p_rd, p_set, p_app, p_take, p_drop, p_rep, p_wrap, p_add, p_sub, p_no, p_eq, p_eqB, p_eqP, p_bnd_some, Pu.w64, Int.toNat_natCast, decide_eq_true_eq, Int.ofNat_lt, Int.ofNat_le, if_true, if_false, Int.natCast_nonneg, decide_true, decide_false, Bool.not_true, Bool.not_false, Bool.false_eq_true, Bool.not_eq_true, Bool.true_and, Bool.and_true, Bool.false_and, Bool.and_false])
    (fun j => by
      rw [spec_IsInside.L1_eq]
      simp only [↓p_test, p_lt, p_le, p_ltN, p_leN, p_eqN, p_len, p_ofN, p_nat, p_rd, p_set, p_app, p_take, p_drop, p_rep, p_wrap, p_add, p_sub, p_no, p_eq, p_eqB, p_eqP, p_bnd_some, Pu.w64, Int.toNat_natCast, decide_eq_true_eq, Int.ofNat_lt, Int.ofNat_le, if_true, if_false, Int.natCast_nonneg, decide_true, decide_false, Bool.not_true, Bool.not_false, Bool.false_eq_true, Bool.not_eq_true, Bool.true_and, Bool.and_true, Bool.false_and, Bool.and_false, Nat.lt_irrefl]) q.length k 0 (by omega) hk
  simp only [Int.natCast_zero] at h
  rw [h]
  cases (List.range' 0 q.length).all fun i => decide (q.getD i 0 ≤ p.getD i 0) <;> simp
theorem spec_IsInside.is {k : Nat} {q p : List Int} (hk : 4194304 + 2 ≤ k) (hq : q.length ≤ 1048576) (hp : p.length ≤ 1048576) : spec_IsInside k q p = some (Pu.isInside q p) := by
  obtain ⟨k, rfl⟩ : ∃ k', k = k' + 1 := ⟨k - 1, by omega⟩
  rw [spec_IsInside.eq, spec_IsPartition.is (by omega) hq, p_bnd_some, spec_IsInside.J0_eq]
  unfold Pu.isInside
  cases c1 : Pu.isPart q with
  | false => simp only [↓p_test, p_lt, p_le, p_ltN, p_leN, p_eqN, p_len, p_ofN, p_nat, p_rd, p_set, p_app, p_take, p_drop, p_rep, p_wrap, p_add, p_sub, p_no, p_eq, p_eqB, p_eqP, p_bnd_some, Pu.w64, Int.toNat_natCast, decide_eq_true_eq, Int.ofNat_lt, Int.ofNat_le, if_true, if_false, Int.natCast_nonneg, decide_true, decide_false, Bool.not_true, Bool.not_false, Bool.false_eq_true, Bool.not_eq_true, Bool.true_and, Bool.and_true, Bool.false_and, Bool.and_false]
  | true =>
    simp only [↓p_test, p_lt, p_le, p_ltN, p_leN, p_eqN, p_len, p_ofN, p_nat, p_rd, p_set, p_app, p_take, p_drop, p_rep, p_wrap, p_add, p_sub, p_no, p_eq, p_eqB, p_eqP, p_bnd_some, Pu.w64, Int.toNat_natCast, decide_eq_true_eq, Int.ofNat_lt, Int.ofNat_le, if_true, if_false, Int.natCast_nonneg, decide_true, decide_false, Bool.not_true, Bool.not_false, Bool.false_eq_true, Bool.not_eq_true, Bool.true_and, Bool.and_true, Bool.false_and, Bool.and_false]
    rw [spec_IsPartition.is (by omega) hp, p_bnd_some]
    cases c2 : Pu.isPart p with
    | false => simp only [↓p_test, p_lt, p_le, p_ltN, p_leN, p_eqN, p_len, p_ofN, p_nat, p_rd, p_set, p_app, p_take, p_drop, p_rep, p_wrap, p_add, p_sub, p_no, p_eq, p_eqB, p_eqP, p_bnd_some, Pu.w64, Int.toNat_natCast, decide_eq_true_eq, Int.ofNat_lt, Int.ofNat_le, if_true, if_false, Int.natCast_nonneg, decide_true, decide_false, Bool.not_true, Bool.not_false, Bool.false_eq_true, Bool.not_eq_true, Bool.true_and, Bool.and_true, Bool.false_and, Bool.and_false]
    | true =>
      simp only [↓p_test, p_lt, p_le, p_ltN, p_leN, p_eqN, p_len, p_ofN, p_nat, p_rd, p_set, p_app, p_take, p_drop, p_rep, p_wrap, p_add, p_sub, p_no, p_eq, p_eqB, p_eqP, p_bnd_some, Pu.w64, Int.toNat_natCast, decide_eq_true_eq, Int.ofNat_lt, Int.ofNat_le, if_true, if_false, Int.natCast_nonneg, decide_true, decide_false, Bool.not_true, Bool.not_false, Bool.false_eq_true, Bool.not_eq_true, Bool.true_and, Bool.and_true, Bool.false_and, Bool.and_false]
      by_cases c3 : p.length < q.length
      · have c3' : ¬ q.length ≤ p.length := by omega
        simp only [c3, c3', ↓p_test, p_lt, p_le, p_ltN, p_leN, p_eqN, p_len, p_ofN, p_nat, p_rd, p_set, p_app, p_take, p_drop, p_rep, p_wrap, p_add, p_sub, p_no, p_eq, p_eqB, p_eqP, p_bnd_some, Pu.w64, Int.toNat_natCast, decide_eq_true_eq, Int.ofNat_lt, Int.ofNat_le, if_true, if_false, Int.natCast_nonneg, decide_true, decide_false, Bool.not_true, Bool.not_false, Bool.false_eq_true, Bool.not_eq_true, Bool.true_and, Bool.and_true, Bool.false_and, Bool.and_false]
      · have c3' : q.length ≤ p.length := by omega
        simp only [c3, c3', ↓p_test, p_lt, p_le, p_ltN, p_leN, p_eqN, p_len, p_ofN, p_nat, p_rd, p_set, p_app, p_take, p_drop, p_rep, p_wrap, p_add, p_sub, p_no, p_eq, p_eqB, p_eqP, p_bnd_some, Pu.w64, Int.toNat_natCast, decide_eq_true_eq, Int.ofNat_lt, Int.ofNat_le, if_true, if_false, Int.natCast_nonneg, decide_true, decide_false, Bool.not_true, Bool.not_false, Bool.false_eq_true, Bool.not_eq_true, Bool.true_and, Bool.and_true, Bool.false_and, Bool.and_false]
        exact spec_IsInside.loop hq c3' (by omega)
-- spec_IsShape
theorem spec_IsShape.is {k : Nat} {s : List Int × List Int} (hk : 4194304 + 3 ≤ k) (hq : s.1.length ≤ 1048576) (hp : s.2.length ≤ 1048576) : spec_IsShape k s = some (Pu.isInside s.2 s.1) := by
  obtain ⟨k, rfl⟩ : ∃ k', k = k' + 1 := ⟨k - 1, by omega⟩
  rw [spec_IsShape.eq, spec_IsInside.is (by omega) hp hq]
  rfl
-- spec_ShapeOf
theorem spec_ShapeOf.loop {k : Nat} {t : Pu.Tab} {x3 x4 : List Int} (hk : 4194304 + 3 ≤ k) (hi : Pu.isPart t.1 = true) (h2 : t.2.length ≤ 9) (hr : ∀ x ∈ t.2, x.length ≤ 1048576) : ∀ (m j i : Nat) (acc : List Int), i + m = t.2.length → m < j → acc.length = i →
    spec_ShapeOf.L1 k j i t.1 t.2 x3 x4 acc t.1 = some (if Pu.isInside t.1 (acc ++ Pu.outerGo t.1 i (t.2.drop i)) = true then ((acc ++ Pu.outerGo t.1 i (t.2.drop i), t.1), true) else (([], []), false))
  | m, 0, i, acc, _, hj, _ => by omega
  | 0, j + 1, i, acc, hm, _, hacc => by
    rw [spec_ShapeOf.L1_eq]
    have e : i = t.2.length := by omega
    have h9 := (Pu.isPart_spec hi).2.2.1
    have hlt : ¬ i < t.2.length := by omega
    rw [spec_IsShape.is (by omega) (by simp only; omega) (by simp only; omega), e]
    simp only [↓p_test, p_lt, p_le, p_ltN, p_leN, p_eqN, p_len, p_ofN, p_nat, p_rd, p_set, p_app, p_take, p_drop, p_rep, p_wrap, p_add, p_sub, p_no, p_eq, p_eqB, p_eqP, p_bnd_some, Pu.w64, Int.toNat_natCast, decide_eq_true_eq, Int.ofNat_lt, Int.ofNat_le, if_true, if_false, Int.natCast_nonneg, decide_true, decide_false, Bool.not_true, Bool.not_false, Bool.false_eq_true, Bool.not_eq_true, Bool.true_and, Bool.and_true, Bool.false_and, Bool.and_false, Nat.lt_irrefl, List.drop_length, Pu.outerGo, List.append_nil]
    cases Pu.isInside t.1 acc <;> simp
  | m + 1, j + 1, i, acc, hm, hj, hacc => by
    rw [spec_ShapeOf.L1_eq]
    have hlt : i < t.2.length := by omega
    have hb := Pu.part_atI hi i
    have hrow := hr t.2[i] (List.getElem_mem hlt)
    rw [← Pu.getD_lt hlt []] at hrow
    rw [spec_l2At.is (by omega)]
    have ih := spec_ShapeOf.loop (x3 := x3) (x4 := x4) hk hi h2 hr m j (i + 1) (acc ++ [Pu.atI t.1 i + (t.2.getD i []).length]) (by omega) (by omega) (by simp [hacc])
    rw [Int.natCast_succ] at ih
    rw [Pu.drop_cons hlt []]
    have hl : (acc ++ [Pu.atI t.1 i + ((t.2.getD i []).length : Int)]).length ≤ 1099511627776 := by simp; omega
    simp (disch := omega) only [↓p_test, p_lt, p_le, p_ltN, p_leN, p_eqN, p_len, p_ofN, p_nat, p_rd, p_set, p_app, p_take, p_drop, p_rep, p_wrap, p_add, p_sub, p_no, p_eq, p_eqB, p_eqP, p_bnd_some, Pu.w64, Int.toNat_natCast, decide_eq_true_eq, Int.ofNat_lt, Int.ofNat_le, if_true, if_false, Int.natCast_nonneg, decide_true, decide_false, Bool.not_true, Bool.not_false, Bool.false_eq_true, Bool.not_eq_true, Bool.true_and, Bool.and_true, Bool.false_and, Bool.and_false, hlt, hl, ih, Pu.outerGo]
    simp only [List.append_assoc, List.singleton_append, Pu.atI_nat]
    rfl
theorem spec_ShapeOf.is {k : Nat} {t : Pu.Tab} (hk : 4194304 + 4 ≤ k) (h1 : t.1.length ≤ 1048576) (h2 : t.2.length ≤ 1048576) (hr : ∀ x ∈ t.2, x.length ≤ 1048576) : spec_ShapeOf k t = some (Pu.shapeOf t) := by
  obtain ⟨k, rfl⟩ : ∃ k', k = k' + 1 := ⟨k - 1, by omega⟩
  rw [spec_ShapeOf.eq, spec_IsPartition.is (by omega) h1, spec_ShapeOf.J0_eq]
  have hl : t.1.length ≤ 1099511627776 := by omega
  simp only [↓p_test, p_lt, p_le, p_ltN, p_leN, p_eqN, p_len, p_ofN, p_nat, p_rd, p_set, p_app, p_take, p_drop, p_rep, p_wrap, p_add, p_sub, p_no, p_eq, p_eqB, p_eqP, p_bnd_some, Pu.w64, Int.toNat_natCast, decide_eq_true_eq, Int.ofNat_lt, Int.ofNat_le, if_true, if_false, Int.natCast_nonneg, decide_true, decide_false, Bool.not_true, Bool.not_false, Bool.false_eq_true, Bool.not_eq_true, Bool.true_and, Bool.and_true, Bool.false_and, Bool.and_false, List.nil_append, hl]
  unfold Pu.shapeOf
  cases c1 : Pu.isPart t.1 with
  | false =>
    have : Pu.shapeOK t = false := by unfold Pu.shapeOK; rw [c1]; rfl
    simp only [this, ↓p_test, p_lt, p_le, p_ltN, p_leN, p_eqN, p_len, p_ofN, p_nat, p_rd, p_set, p_app, p_take, p_drop, p_rep, p_wrap, p_add, p_sub, p_no, p_eq, p_eqB, p_eqP, p_bnd_some, Pu.w64, Int.toNat_natCast, decide_eq_true_eq, Int.ofNat_lt, Int.ofNat_le, if_true, if_false, Int.natCast_nonneg, decide_true, decide_false, Bool.not_true, Bool.not_false, Bool.false_eq_true, Bool.not_eq_true, Bool.true_and, Bool.and_true, Bool.false_and, Bool.and_false]
  | true =>
    by_cases c2 : t.2.length < t.1.length
    · have : Pu.shapeOK t = false := by
        have : ¬ t.1.length ≤ t.2.length := by omega
        unfold Pu.shapeOK; simp [this]
      simp only [this, c2, ↓p_test, p_lt, p_le, p_ltN, p_leN, p_eqN, p_len, p_ofN, p_nat, p_rd, p_set, p_app, p_take, p_drop, p_rep, p_wrap, p_add, p_sub, p_no, p_eq, p_eqB, p_eqP, p_bnd_some, Pu.w64, Int.toNat_natCast, decide_eq_true_eq, Int.ofNat_lt, Int.ofNat_le, if_true, if_false, Int.natCast_nonneg, decide_true, decide_false, Bool.not_true, Bool.not_false, Bool.false_eq_true, Bool.not_eq_true, Bool.true_and, Bool.and_true, Bool.false_and, Bool.and_false]
    · by_cases c3 : 9 < t.2.length
      · have : Pu.shapeOK t = false := by
          cases h : Pu.shapeOK t with
          | false => rfl
          | true => have := Pu.shapeOK_len h; omega
        have c3' : (9 : Int) < t.2.length := by omega
        simp only [this, c2, c3', ↓p_test, p_lt, p_le, p_ltN, p_leN, p_eqN, p_len, p_ofN, p_nat, p_rd, p_set, p_app, p_take, p_drop, p_rep, p_wrap, p_add, p_sub, p_no, p_eq, p_eqB, p_eqP, p_bnd_some, Pu.w64, Int.toNat_natCast, decide_eq_true_eq, Int.ofNat_lt, Int.ofNat_le, if_true, if_false, Int.natCast_nonneg, decide_true, decide_false, Bool.not_true, Bool.not_false, Bool.false_eq_true, Bool.not_eq_true, Bool.true_and, Bool.and_true, Bool.false_and, Bool.and_false]
      · have c3' : ¬ (9 : Int) < t.2.length := by omega
        have c2' : t.1.length ≤ t.2.length := by omega
        have hloop := spec_ShapeOf.loop (k := k) (t := t) (x3 := []) (x4 := []) (by omega) c1 (by omega) hr t.2.length k 0 [] (by omega) (by omega) rfl
        rw [Int.natCast_zero] at hloop
        simp only [c2, c3', ↓p_test, p_lt, p_le, p_ltN, p_leN, p_eqN, p_len, p_ofN, p_nat, p_rd, p_set, p_app, p_take, p_drop, p_rep, p_wrap, p_add, p_sub, p_no, p_eq, p_eqB, p_eqP, p_bnd_some, Pu.w64, Int.toNat_natCast, decide_eq_true_eq, Int.ofNat_lt, Int.ofNat_le, if_true, if_false, Int.natCast_nonneg, decide_true, decide_false, Bool.not_true, Bool.not_false, Bool.false_eq_true, Bool.not_eq_true, Bool.true_and, Bool.and_true, Bool.false_and, Bool.and_false]
        rw [hloop]
        have : Pu.shapeOK t = Pu.isInside t.1 (Pu.outer t) := by unfold Pu.shapeOK; simp [c1, c2']
        rw [this]
        rfl
-- spec_IsTableau
theorem spec_IsTableau.J2_is {k k1 k2 : Nat} {t : Pu.Tab} {r : Nat} {c x v : Int} {o n : List Int} (hk : 3 ≤ k) (hi : Pu.isPart t.1 = true) (h1 : 0 ≤ c) (h2 : c ≤ 10000000) (hr : r ≤ 1048576) :
    spec_IsTableau.J2 k k1 k2 r c x v t.1 t.2 o n = if (Pu.within x 1 9 && (decide (v ≤ x) && decide (Pu.entry t ((r : Int) - 1) c < x))) = true then spec_IsTableau.L1 k k1 k2 r (c + 1) t.1 t.2 o n else some false := by
  have he := spec_l5Entry.is (k := k) (t := t) (r := (r : Int) - 1) (c := c) (by omega) hi (by omega) (by omega)
  rw [spec_IsTableau.J2_eq, spec_l1In.is (by omega), spec_IsTableau.J3_eq]
  simp (disch := omega) only [↓p_test, p_lt, p_le, p_ltN, p_leN, p_eqN, p_len, p_ofN, p_nat, p_rd, p_set, p_app, p_take, p_drop, p_rep, p_wrap, p_add, p_sub, p_no, p_eq, p_eqB, p_eqP, p_bnd_some, Pu.w64, Int.toNat_natCast, decide_eq_true_eq, Int.ofNat_lt, Int.ofNat_le, if_true, if_false, Int.natCast_nonneg, decide_true, decide_false, Bool.not_true, Bool.not_false, Bool.false_eq_true, Bool.not_eq_true, Bool.true_and, Bool.and_true, Bool.false_and, Bool.and_false, he]
  cases Pu.within x 1 9 with
  | false => simp
  | true =>
    by_cases c1 : v ≤ x
    · have c1' : ¬ x < v := by omega
      by_cases c2 : Pu.entry t ((r : Int) - 1) c < x
      · have c2' : ¬ x ≤ Pu.entry t ((r : Int) - 1) c := by omega
        simp [c1, c1', c2, c2']
      · have c2' : x ≤ Pu.entry t ((r : Int) - 1) c := by omega
        simp [c1, c1', c2, c2']
    · have c1' : x < v := by omega
      simp [c1, c1']
theorem spec_IsTableau.inner {k k1 : Nat} {t : Pu.Tab} {r : Nat} {n : List Int} (hk : 4194304 ≤ k) (hi : Pu.isPart t.1 = true) (ht : t.2.length ≤ 1048576) (hr : ∀ x ∈ t.2, x.length ≤ 1048576) (hlt : r < t.2.length) :
    spec_IsTableau.L1 k k1 k r (t.1.getD r 0) t.1 t.2 (Pu.outer t) n = if ((List.range' 0 (t.2.getD r []).length).all fun q => Pu.cellOK t r q) = true then spec_IsTableau.L0 k k1 ((r : Int) + 1) t.1 t.2 (Pu.outer t) n else some false := by
  have hx := hr _ (List.getElem_mem hlt)
  rw [← Pu.getD_lt hlt []] at hx
  have hb := Pu.part_atI hi r
  rw [Pu.atI_nat] at hb
  have hol : r < (Pu.outer t).length := by unfold Pu.outer; rw [Pu.outerGo_len]; exact hlt
  have ho : (Pu.outer t).getD r 0 = t.1.getD r 0 + ((t.2.getD r []).length : Int) := by
    have := Pu.outerGo_get t.1 t.2 0 r hlt
    rw [Nat.zero_add] at this
    exact this
  have h := Pu.loop_all (fun j q => spec_IsTableau.L1 k k1 j r (t.1.getD r 0 + (q : Int)) t.1 t.2 (Pu.outer t) n) (t.2.getD r []).length (fun q => Pu.cellOK t r q) (some false) (spec_IsTableau.L0 k k1 ((r : Int) + 1) t.1 t.2 (Pu.outer t) n)
    (fun j q hq => by
      rw [spec_IsTableau.L1_eq]
      have hc : t.1.getD r 0 + (q : Int) < (Pu.outer t).getD r 0 := by rw [ho]; omega
      have e1 := spec_l5Entry.is (k := k) (t := t) (r := r) (c := t.1.getD r 0 + q) (by omega) hi (by omega) (by omega)
      have e2 := spec_l5Entry.is (k := k) (t := t) (r := r) (c := t.1.getD r 0 + q - 1) (by omega) hi (by omega) (by omega)
      rw [Pu.entry_at hlt] at e1
      rw [Pu.entry_left hlt] at e2
      have ej := fun v => spec_IsTableau.J2_is (k := k) (k1 := k1) (k2 := j) (t := t) (r := r) (c := t.1.getD r 0 + q) (x := (t.2.getD r []).getD q 0) (v := v) (o := Pu.outer t) (n := n) (by omega) hi (by omega) (by omega) (by omega)
      have en : t.1.getD r 0 + (q : Int) + 1 = t.1.getD r 0 + ((q + 1 : Nat) : Int) := by omega
      rw [en] at ej
      -- the cell's test
      have key : ∀ v : Int, v = (if q = 0 then 0 else (t.2.getD r []).getD (q - 1) 0) → (Pu.within ((t.2.getD r []).getD q 0) 1 9 && (decide (v ≤ (t.2.getD r []).getD q 0) && decide (Pu.entry t ((r : Int) - 1) (t.1.getD r 0 + q) < (t.2.getD r []).getD q 0))) = Pu.cellOK t r q := by
        intro v hv
        unfold Pu.cellOK
        cases hw : Pu.within ((t.2.getD r []).getD q 0) 1 9 with
        | false => rfl
        | true =>
          have hw1 : 1 ≤ (t.2.getD r []).getD q 0 := by
            simp only [Pu.within, Bool.and_eq_true, decide_eq_true_eq] at hw; exact hw.1
          simp only [Bool.true_and]
          congr 1
          · by_cases e : q = 0
            · have : v ≤ (t.2.getD r []).getD q 0 := by rw [hv, if_pos e]; omega
              simp [e, this]
              simpa [e] using this
            · rw [hv, if_neg e]; simp [e]
          · by_cases e : r = 0
            · subst e
              rw [Pu.entry_neg (by omega), decide_eq_true (show (0 : Int) < (t.2.getD 0 []).getD q 0 by omega)]
              simp only [decide_true, Bool.true_or]
            · simp [e]
      by_cases hc0 : 0 < t.1.getD r 0 + (q : Int)
      · simp (disch := omega) only [↓p_test, p_lt, p_le, p_ltN, p_leN, p_eqN, p_len, p_ofN, p_nat, p_rd, p_set, p_app, p_take, p_drop, p_rep, p_wrap, p_add, p_sub, p_no, p_eq, p_eqB, p_eqP, p_bnd_some, Pu.w64, Int.toNat_natCast, decide_eq_true_eq, Int.ofNat_lt, Int.ofNat_le, if_true, if_false, Int.natCast_nonneg, decide_true, decide_false, Bool.not_true, Bool.not_false, Bool.false_eq_true, Bool.not_eq_true, Bool.true_and, Bool.and_true, Bool.false_and, Bool.and_false, hol, hc, e1, hc0, e2, ej]
        rw [key _ rfl]
      · simp (disch := omega) only [↓p_test, p_lt, p_le, p_ltN, p_leN, p_eqN, p_len, p_ofN, p_nat, p_rd, p_set, p_app, p_take, p_drop, p_rep, p_wrap, p_add, p_sub, p_no, p_eq, p_eqB, p_eqP, p_bnd_some, Pu.w64, Int.toNat_natCast, decide_eq_true_eq, Int.ofNat_lt, Int.ofNat_le, if_true, if_false, Int.natCast_nonneg, decide_true, decide_false, Bool.not_true, Bool.not_false, Bool.false_eq_true, Bool.not_eq_true, Bool.true_and, Bool.and_true, Bool.false_and, Bool.and_false, hol, hc, e1, hc0, ej]
        rw [key 0 (by have : q = 0 := by omega
                      rw [if_pos this])])
    (fun j => by
      rw [spec_IsTableau.L1_eq]
      have hc : ¬ t.1.getD r 0 + ((t.2.getD r []).length : Int) < (Pu.outer t).getD r 0 := by rw [ho]; omega
      simp (disch := omega) only [↓p_test, p_lt, p_le, p_ltN, p_leN, p_eqN, p_len, p_ofN, p_nat, p_rd, p_set, p_app, p_take, p_drop, p_rep, p_wrap, p_add, p_sub, p_no, p_eq, p_eqB, p_eqP, p_bnd_some, Pu.w64, Int.toNat_natCast, decide_eq_true_eq, Int.ofNat_lt, Int.ofNat_le, if_true, if_false, Int.natCast_nonneg, decide_true, decide_false, Bool.not_true, Bool.not_false, Bool.false_eq_true, Bool.not_eq_true, Bool.true_and, Bool.and_true, Bool.false_and, Bool.and_false, hol, hc]) (t.2.getD r []).length k 0 (by omega) (by omega)
  simp only [Int.natCast_zero, Int.add_zero] at h
  exact h
theorem spec_IsTableau.is {k : Nat} {t : Pu.Tab} (hk : 4194304 + 5 ≤ k) (h1 : t.1.length ≤ 1048576) (ht : t.2.length ≤ 1048576) (hr : ∀ x ∈ t.2, x.length ≤ 1048576) : spec_IsTableau k t = some (Pu.isTab t) := by
  obtain ⟨k, rfl⟩ : ∃ k', k = k' + 1 := ⟨k - 1, by omega⟩
  rw [spec_IsTableau.eq, spec_ShapeOf.is (by omega) h1 ht hr, p_bnd_some]
  unfold Pu.isTab Pu.shapeOf
  cases hs : Pu.shapeOK t with
  | false => simp [hs]
  | true =>
    have hi : Pu.isPart t.1 = true := by
      simp only [Pu.shapeOK, Bool.and_eq_true] at hs; exact hs.1
    have hol : (Pu.outer t).length = t.2.length := by unfold Pu.outer; rw [Pu.outerGo_len]
    have h := Pu.loop_all (fun j r => spec_IsTableau.L0 k j r t.1 t.2 (Pu.outer t) t.1) t.2.length (fun r => (List.range' 0 (t.2.getD r []).length).all fun q => Pu.cellOK t r q) (some false) (some true)
      (fun j r hlt => by
        rw [spec_IsTableau.L0_eq, spec_l2At.is (by omega), Pu.atI_nat]
        simp (disch := omega) only [↓p_test, p_lt, p_le, p_ltN, p_leN, p_eqN, p_len, p_ofN, p_nat, p_rd, p_set, p_app, p_take, p_drop, p_rep, p_wrap, p_add, p_sub, p_no, p_eq, p_eqB, p_eqP, p_bnd_some, Pu.w64, Int.toNat_natCast, decide_eq_true_eq, Int.ofNat_lt, Int.ofNat_le, if_true, if_false, Int.natCast_nonneg, decide_true, decide_false, Bool.not_true, Bool.not_false, Bool.false_eq_true, Bool.not_eq_true, Bool.true_and, Bool.and_true, Bool.false_and, Bool.and_false, hol, hlt, spec_IsTableau.inner (k1 := j) (n := t.1) (show 4194304 ≤ k by omega) hi ht hr hlt, Int.natCast_add, Int.natCast_one])
      (fun j => by
        rw [spec_IsTableau.L0_eq]
        simp (disch := omega) only [↓p_test, p_lt, p_le, p_ltN, p_leN, p_eqN, p_len, p_ofN, p_nat, p_rd, p_set, p_app, p_take, p_drop, p_rep, p_wrap, p_add, p_sub, p_no, p_eq, p_eqB, p_eqP, p_bnd_some, Pu.w64, Int.toNat_natCast, decide_eq_true_eq, Int.ofNat_lt, Int.ofNat_le, if_true, if_false, Int.natCast_nonneg, decide_true, decide_false, Bool.not_true, Bool.not_false, Bool.false_eq_true, Bool.not_eq_true, Bool.true_and, Bool.and_true, Bool.false_and, Bool.and_false, hol, Nat.lt_irrefl]) t.2.length k 0 (by omega) (by omega)
    simp only [Int.natCast_zero] at h
    simp only [if_true, ↓p_test, p_lt, p_le, p_ltN, p_leN, p_eqN, p_len, p_ofN, p_nat, p_rd, p_set, p_app, p_take, p_drop, p_rep, p_wrap, p_add, p_sub, p_no, p_eq, p_eqB, p_eqP, p_bnd_some, Pu.w64, Int.toNat_natCast, decide_eq_true_eq, Int.ofNat_lt, Int.ofNat_le, if_true, if_false, Int.natCast_nonneg, decide_true, decide_false, Bool.not_true, Bool.not_false, Bool.false_eq_true, Bool.not_eq_true, Bool.true_and, Bool.and_true, Bool.false_and, Bool.and_false]
    rw [h]
    cases (List.range' 0 t.2.length).all fun r => (List.range' 0 (t.2.getD r []).length).all fun q => Pu.cellOK t r q <;> simp
-- spec_l5Plain_priii
/-- A drawn tableau is small. -/
def TabLe (a n m : Nat) (t : Pu.Tab) : Prop := t.1.length ≤ a ∧ Pu.RowsLe n m t.2
theorem TabLe.tab {a n m : Nat} {t : Pu.Tab} (h : TabLe a n m t) (ha : a ≤ 1048576) (hn : n ≤ 1048576) (hm : m ≤ 1048576) : t.1.length ≤ 1048576 ∧ t.2.length ≤ 1048576 ∧ ∀ x ∈ t.2, x.length ≤ 1048576 :=
  ⟨Nat.le_trans h.1 ha, Nat.le_trans h.2.1 hn, fun x hx => Nat.le_trans (h.2.2 x hx) hm⟩
theorem spec_l5Plain_priii.ok {k : Nat} {m i h : Int} {b : List Int} (hk : 4194304 + 14 ≤ k) (hb : b.length ≤ 1048576) (hi : 0 ≤ i) (hi' : i ≤ b.length) (hm : 1 ≤ m) (hm' : m ≤ 9) :
    Pu.Ok (spec_l5Plain_priii k m i h b) fun r => TabLe 9 9 9 r.1 ∧ 0 ≤ r.2.2.1 ∧ r.2.2.1 ≤ b.length := by
  obtain ⟨k, rfl⟩ : ∃ k', k = k' + 1 := ⟨k - 1, by omega⟩
  rw [spec_l5Plain_priii.eq]
  obtain ⟨p, i1, h1, e1, hp, a4, a5⟩ := spec_l2Draw_priii.is (k := k) (m := m) (h := h) (b := b) (by omega) hb hi hi' hm hm'
  refine Pu.Ok.bndE e1 ?_
  dsimp only
  refine Pu.Ok.bnd (spec_l5Fill_priirr.ok (by omega) hb a4 a5 hp ⟨by simp, fun x hx => by cases hx⟩) ?_
  rintro ⟨⟨q, rs⟩, _, i2, h2⟩ ⟨e2, hr, b4, b5⟩
  simp only at e2
  subst e2
  have ht : TabLe 9 9 9 (([], rs) : Pu.Tab) := ⟨by simp, hr⟩
  obtain ⟨c1, c2, c3⟩ := ht.tab (by omega) (by omega) (by omega)
  dsimp only
  refine Pu.Ok.bndE (spec_IsTableau.is (by omega) c1 c2 c3) ?_
  refine Pu.Ok.tn (fun _ => Pu.Ok.ret ⟨⟨by simp, by simp, fun x hx => ?_⟩, b4, b5⟩) (fun _ => Pu.Ok.ret ⟨ht, b4, b5⟩)
  simp only [List.mem_cons, List.not_mem_nil, or_false] at hx
  rcases hx with rfl | rfl <;> simp
-- spec_l4Draw_priii
theorem spec_l4Draw_priii.loop {k : Nat} {b o a c : List Int} (hk : 4194304 + 12 ≤ k) (hb : b.length ≤ 1048576) (ho : Pu.RowOK 9 o) : ∀ (m j i : Nat) (low p h : Int) (q : List Int), i + m = o.length → m < j → 0 ≤ p → p ≤ b.length → 1 ≤ low → low ≤ 9 → q.length ≤ i → (∀ x ∈ q, 1 ≤ x ∧ x ≤ 9) →
    Pu.Ok (spec_l4Draw_priii.L0 k j low i p h b a c o q) fun r => r.1.1 = o ∧ Pu.RowOK 9 r.1.2 ∧ 0 ≤ r.2.2.1 ∧ r.2.2.1 ≤ b.length
  | m, 0, i, low, p, h, q, _, hj, _, _, _, _, _, _ => by omega
  | 0, j + 1, i, low, p, h, q, hi, _, h0, h1, h2, h3, hq, hg => by
    rw [spec_l4Draw_priii.L0_eq]
    simp only [p_lt, p_le, p_ltN, p_leN, p_eqN, p_len, p_ofN, p_nat, p_rd, p_set, p_app, p_take, p_drop, p_rep, p_wrap, p_add, p_sub, p_mul, p_no, p_eq, p_eqB, p_eqP, p_lenS, p_catS, p_addN, p_subN, List.nil_append, List.cons_append]
    have h9 := ho.1
    exact Pu.Ok.no (by omega) (Pu.Ok.ret ⟨rfl, ⟨by dsimp only; omega, hg⟩, h0, h1⟩)
  | m + 1, j + 1, i, low, p, h, q, hi, hj, h0, h1, h2, h3, hq, hg => by
    rw [spec_l4Draw_priii.L0_eq]
    simp only [p_lt, p_le, p_ltN, p_leN, p_eqN, p_len, p_ofN, p_nat, p_rd, p_set, p_app, p_take, p_drop, p_rep, p_wrap, p_add, p_sub, p_mul, p_no, p_eq, p_eqB, p_eqP, p_lenS, p_catS, p_addN, p_subN, List.nil_append, List.cons_append]
    have hlt : i < o.length := by omega
    have hx := ho.2 _ (List.getElem_mem hlt)
    rw [← Pu.getD_lt hlt 0] at hx
    have h9 := ho.1
    (repeat (refine Pu.Ok.g (by first | omega | assumption | (simp only [List.length_append, List.length_cons, List.length_nil, List.length_set, List.length_take, List.length_drop, List.length_replicate] at *; omega)) ?_))
    (try simp only [Int.toNat_natCast]); (try simp (disch := omega) only [Pu.w64])
    obtain ⟨r, i1, h1', e1, a1, a2, a3, a4, a5⟩ := spec_l1Below_priii.is (k := k) (n := o.getD i 0 + 1) (h := h) (b := b) (by omega) hb h0 h1 (by omega)
    refine Pu.Ok.bndE e1 (Pu.Ok.bndE (spec_l1Min.is (by omega)) ?_)
    dsimp only
    refine Pu.Ok.t (fun hz => Pu.Ok.ret ⟨rfl, ⟨by dsimp only; omega, hg⟩, a4, a5⟩) (fun hz => ?_)
    obtain ⟨r2, i2, h2', e2, b4, b5⟩ := spec_l1Once_priii.is (k := k) (n := 3) (h := h1') (b := b) (by omega) hb a4 a5 (by omega)
    refine Pu.Ok.bndE e2 (Pu.Ok.tb (fun _ => Pu.Ok.ret ⟨rfl, ⟨by dsimp only; omega, hg⟩, b4, b5⟩) (fun _ => ?_))
    dsimp only
    rw [spec_l4Draw_priii.J1_eq]
    simp only [p_lt, p_le, p_ltN, p_leN, p_eqN, p_len, p_ofN, p_nat, p_rd, p_set, p_app, p_take, p_drop, p_rep, p_wrap, p_add, p_sub, p_mul, p_no, p_eq, p_eqB, p_eqP, p_lenS, p_catS, p_addN, p_subN, List.nil_append, List.cons_append]
    (repeat (refine Pu.Ok.g (by first | omega | assumption | (simp only [List.length_append, List.length_cons, List.length_nil, List.length_set, List.length_take, List.length_drop, List.length_replicate] at *; omega)) ?_))
    (try simp only [Int.toNat_natCast]); (try simp (disch := omega) only [Pu.w64])
    exact spec_l4Draw_priii.loop hk hb ho m j (i + 1) (min low r) i2 h2' _ (by omega) (by omega) b4 b5 (by omega) (by omega) (by rw [List.length_append]; simp; omega) (fun x hx => by
      rcases List.mem_append.1 hx with h | h
      · exact hg x h
      · simp only [List.mem_singleton] at h; omega)
theorem spec_l4Draw_priii.ok {k : Nat} {m i h : Int} {b : List Int} (hk : 4194304 + 13 ≤ k) (hb : b.length ≤ 1048576) (hi : 0 ≤ i) (hi' : i ≤ b.length) (hm : 1 ≤ m) (hm' : m ≤ 9) :
    Pu.Ok (spec_l4Draw_priii k m i h b) fun r => Pu.RowOK 9 r.1.1 ∧ Pu.RowOK 9 r.1.2 ∧ 0 ≤ r.2.2.1 ∧ r.2.2.1 ≤ b.length := by
  obtain ⟨k, rfl⟩ : ∃ k', k = k' + 1 := ⟨k - 1, by omega⟩
  rw [spec_l4Draw_priii.eq]
  obtain ⟨p, i1, h1, e1, hp, a4, a5⟩ := spec_l2Draw_priii.is (k := k) (m := m) (h := h) (b := b) (by omega) hb hi hi' hm hm'
  refine Pu.Ok.bndE e1 ?_
  have := hp.1
  refine Pu.Ok.mono (spec_l4Draw_priii.loop (by omega) hb hp p.length k 0 m i1 h1 [] (by omega) (by omega) a4 a5 hm hm' (by simp) (fun x hx => by cases hx)) ?_
  rintro ⟨⟨o, q⟩, _, i', h'⟩ ⟨e, c2, c3, c4⟩
  simp only at e
  subst e
  exact ⟨hp, c2, c3, c4⟩
-- spec_l5Draw_priii
theorem spec_l5Draw_priii.ok {k : Nat} {m i h : Int} {b : List Int} (hk : 4194304 + 15 ≤ k) (hb : b.length ≤ 1048576) (hi : 0 ≤ i) (hi' : i ≤ b.length) (hm : 1 ≤ m) (hm' : m ≤ 9) :
    Pu.Ok (spec_l5Draw_priii k m i h b) fun r => TabLe 9 9 9 r.1 ∧ 0 ≤ r.2.2.1 ∧ r.2.2.1 ≤ b.length := by
  obtain ⟨k, rfl⟩ : ∃ k', k = k' + 1 := ⟨k - 1, by omega⟩
  rw [spec_l5Draw_priii.eq]
  refine Pu.Ok.bnd (spec_l4Draw_priii.ok (by omega) hb hi hi' hm hm') ?_
  rintro ⟨⟨o, p⟩, _, i1, h1⟩ ⟨ho, hp, a4, a5⟩
  dsimp only at *
  refine Pu.Ok.bnd (spec_l5Fill_priirr.ok (by omega) hb a4 a5 ho hp) ?_
  rintro ⟨⟨q, rs⟩, _, i2, h2⟩ ⟨e2, hr, b4, b5⟩
  simp only at e2
  subst e2
  have ht : TabLe 9 9 9 ((q, rs) : Pu.Tab) := ⟨hp.1, hr⟩
  obtain ⟨c1, c2, c3⟩ := ht.tab (by omega) (by omega) (by omega)
  dsimp only
  refine Pu.Ok.bndE (spec_IsTableau.is (by omega) c1 c2 c3) ?_
  refine Pu.Ok.tn (fun _ => Pu.Ok.ret ⟨⟨by simp, by simp, fun x hx => ?_⟩, b4, b5⟩) (fun _ => Pu.Ok.ret ⟨ht, b4, b5⟩)
  simp only [List.mem_cons, List.not_mem_nil, or_false] at hx
  rcases hx with rfl | rfl <;> simp
-- spec_l1PickInt_priir
theorem spec_l1PickInt_priir.is {k : Nat} {l : List Int} {i h : Int} {b : List Int} (hk : 3 ≤ k) (hb : b.length ≤ 1048576) (hi : 0 ≤ i) (hi' : i ≤ b.length) (hl : 0 < l.length) (hl' : l.length ≤ 256) :
    ∃ r i' h', spec_l1PickInt_priir k i h l b = some (r, ((), (i', h'))) ∧ r ∈ l ∧ 0 ≤ i' ∧ i' ≤ b.length := by
  obtain ⟨k, rfl⟩ : ∃ k', k = k' + 1 := ⟨k - 1, by omega⟩
  rw [spec_l1PickInt_priir.eq]
  obtain ⟨r, i', h', e, h1, h2, h3, h4, h5⟩ := spec_l1Below_priii.is (k := k) (n := l.length) (h := h) (b := b) (by omega) hb hi hi' (by omega)
  have h3 := h3 (by omega)
  have hn : r.toNat < l.length := by omega
  refine ⟨l.getD r.toNat 0, i', h', ?_, ?_, h4, h5⟩
  · simp only [↓p_test, p_lt, p_le, p_ltN, p_leN, p_eqN, p_len, p_ofN, p_nat, p_rd, p_set, p_app, p_take, p_drop, p_rep, p_wrap, p_add, p_sub, p_no, p_eq, p_eqB, p_eqP, p_bnd_some, Pu.w64, Int.toNat_natCast, decide_eq_true_eq, Int.ofNat_lt, Int.ofNat_le, if_true, if_false, Int.natCast_nonneg, decide_true, decide_false, Bool.not_true, Bool.not_false, Bool.false_eq_true, Bool.not_eq_true, Bool.true_and, Bool.and_true, Bool.false_and, Bool.and_false, e, h1, hn]
  · rw [Pu.getD_lt hn 0]; exact List.getElem_mem hn
-- spec_l5Bent_priii
theorem spec_l5Bent_priii.ok {k : Nat} {m i h : Int} {b : List Int} (hk : 4194304 + 16 ≤ k) (hb : b.length ≤ 1048576) (hi : 0 ≤ i) (hi' : i ≤ b.length) (hm : 1 ≤ m) (hm' : m ≤ 9) :
    Pu.Ok (spec_l5Bent_priii k m i h b) fun r => TabLe 10 9 10 r.1 ∧ 0 ≤ r.2.2.1 ∧ r.2.2.1 ≤ b.length := by
  obtain ⟨k, rfl⟩ : ∃ k', k = k' + 1 := ⟨k - 1, by omega⟩
  rw [spec_l5Bent_priii.eq]
  refine Pu.Ok.bnd (spec_l5Draw_priii.ok (by omega) hb hi hi' hm hm') ?_
  rintro ⟨⟨q, rs⟩, _, i1, h1⟩ ⟨⟨hq, hr⟩, a4, a5⟩
  dsimp only at *
  have hr' : Pu.RowsLe 9 10 rs := hr.mono (by omega) (by omega)
  simp only [p_lt, p_le, p_ltN, p_leN, p_eqN, p_len, p_ofN, p_nat, p_rd, p_set, p_app, p_take, p_drop, p_rep, p_wrap, p_add, p_sub, p_mul, p_no, p_eq, p_eqB, p_eqP, p_lenS, p_catS, p_addN, p_subN, List.nil_append, List.cons_append]
  refine Pu.Ok.t (fun _ => Pu.Ok.ret ⟨⟨by dsimp only; omega, hr'⟩, a4, a5⟩) (fun h0 => ?_)
  have hlen := hr.1
  obtain ⟨r, i2, h2, e2, b1, b2, b3, b4, b5⟩ := spec_l1Below_priii.is (k := k) (n := rs.length) (h := h1) (b := b) (by omega) hb a4 a5 (by omega)
  have b3 := b3 (by omega)
  obtain ⟨r', i3, h3, e3, c1, c2, c3, c4, c5⟩ := spec_l1Below_priii.is (k := k) (n := 16) (h := h2) (b := b) (by omega) hb b4 b5 (by omega)
  refine Pu.Ok.bndE e2 ?_
  dsimp only
  refine Pu.Ok.bndE e3 ?_
  dsimp only
  have hrow := hr.at r.toNat
  refine Pu.Ok.t (fun _ => ?_) (fun _ => Pu.Ok.t (fun _ => ?_) (fun _ => Pu.Ok.t (fun _ => ?_) (fun _ => Pu.Ok.ret ⟨⟨by dsimp only; omega, hr'⟩, c4, c5⟩)))
  · (repeat (refine Pu.Ok.g (by first | omega | assumption | (simp only [List.length_append, List.length_cons, List.length_nil, List.length_set, List.length_take, List.length_drop, List.length_replicate] at *; omega)) ?_))
    obtain ⟨x, i4, h4, e4, d1, d4, d5⟩ := spec_l1PickInt_priir.is (k := k) (l := [0, 9, 10, -1]) (h := h3) (b := b) (by omega) hb c4 c5 (by simp) (by simp)
    refine Pu.Ok.bndE e4 ?_
    dsimp only
    (repeat (refine Pu.Ok.g (by first | omega | assumption | (simp only [List.length_append, List.length_cons, List.length_nil, List.length_set, List.length_take, List.length_drop, List.length_replicate] at *; omega)) ?_))
    refine Pu.Ok.g trivial (Pu.Ok.ret ⟨⟨by dsimp only; omega, hr'.set _ ?_⟩, d4, d5⟩)
    rw [List.length_append, List.length_singleton]; omega
  · (repeat (refine Pu.Ok.g (by first | omega | assumption | (simp only [List.length_append, List.length_cons, List.length_nil, List.length_set, List.length_take, List.length_drop, List.length_replicate] at *; omega)) ?_))
    refine Pu.Ok.t (fun hz => ?_) (fun _ => Pu.Ok.ret ⟨⟨by dsimp only; omega, hr'⟩, c4, c5⟩)
    have hz' : (0 : Int).toNat < (rs.getD r.toNat []).length := by
      show 0 < _
      omega
    (repeat (refine Pu.Ok.g (by first | omega | assumption | (simp only [List.length_append, List.length_cons, List.length_nil, List.length_set, List.length_take, List.length_drop, List.length_replicate] at *; omega)) ?_))
    refine Pu.Ok.ret ⟨⟨by dsimp only; omega, hr'.set _ ?_⟩, c4, c5⟩
    rw [List.length_set]; omega
  · obtain ⟨x, i4, h4, e4, d1, d4, d5⟩ := spec_l1PickInt_priir.is (k := k) (l := [1, 0, -1, 9]) (h := h3) (b := b) (by omega) hb c4 c5 (by simp) (by simp)
    refine Pu.Ok.bndE e4 ?_
    dsimp only
    (repeat (refine Pu.Ok.g (by first | omega | assumption | (simp only [List.length_append, List.length_cons, List.length_nil, List.length_set, List.length_take, List.length_drop, List.length_replicate] at *; omega)) ?_))
    refine Pu.Ok.ret ⟨⟨?_, hr'⟩, d4, d5⟩
    dsimp only
    rw [List.length_append, List.length_singleton]; omega
-- spec_DrawInsertNumber
theorem spec_DrawInsertNumber.loop {k : Nat} {z : Int} {b e : List Int} {d : List (List Int)} (hb : b.length ≤ 1048576) : ∀ (m j i : Nat) (h : Int), i + m = 4000 → m < j → ∃ h', spec_DrawInsertNumber.L0 k j h i z b e d = spec_DrawInsertNumber.J2 k h' z b e d
  | m, 0, i, h, _, hj => by omega
  | 0, j + 1, i, h, hi, _ => by
    rw [spec_DrawInsertNumber.L0_eq, Pu.test_lt, Pu.test_lt]
    have h4 : ¬ (i : Int) < 4000 := by omega
    refine ⟨h, ?_⟩
    rw [if_neg h4, ite_self]
  | m + 1, j + 1, i, h, hi, hj => by
    rw [spec_DrawInsertNumber.L0_eq, Pu.test_lt, Pu.test_lt]
    have h4 : (i : Int) < 4000 := by omega
    by_cases hlt : i < b.length
    · have ew : IntKind.i64.wrap ((i : Int) + 1) = ((i + 1 : Nat) : Int) := by rw [Pu.w64 (by omega) (by omega)]; omega
      have hlt' : (i : Int) < D.ofN (D.len b) := by show (i : Int) < (b.length : Int); omega
      rw [if_pos hlt', if_pos h4, spec_DrawInsertNumber.J1_eq]
      obtain ⟨h', ih⟩ := spec_DrawInsertNumber.loop (k := k) (z := z) (e := e) (d := d) hb m j (i + 1) (D.andI .i64 (D.wrap .i64 (D.add (D.wrap .i64 (D.add (D.wrap .i64 (D.mul h 131)) (D.wrap .i64 (D.rd b (D.nat (i : Int)) 0)))) 7)) 1073741823) (by omega) (by omega)
      refine ⟨h', ?_⟩
      have t1 : D.le 0 (i : Int) = true := decide_eq_true (by omega)
      have t2 : D.ltN (D.nat (i : Int)) (D.len b) = true := decide_eq_true (by show (i : Int).toNat < b.length; omega)
      rw [p_test, if_pos t1, p_test, if_pos t2, p_test, if_pos t2]
      have ew' : D.wrap .i64 (D.add (i : Int) 1) = ((i + 1 : Nat) : Int) := ew
      rw [ew']
      exact ih
    · have hlt' : ¬ (i : Int) < D.ofN (D.len b) := by show ¬ (i : Int) < (b.length : Int); omega
      exact ⟨h, by rw [if_neg hlt']⟩
theorem spec_DrawInsertNumber.rest {k : Nat} {i h : Int} {b e q : List Int} {d rs : List (List Int)} (hk : 4194304 + 18 ≤ k) (hb : b.length ≤ 1048576) (hi : 0 ≤ i) (hi' : i ≤ b.length) (ht : TabLe 10 9 10 (q, rs)) :
    Pu.Ok (spec_DrawInsertNumber.J3 k i h e d b q rs) fun r => TabLe 10 9 10 r.1 := by
  rw [spec_DrawInsertNumber.J3_eq]
  obtain ⟨r1, i1, h1, e1, _, _, _, a4, a5⟩ := spec_l1Below_priii.is (k := HAdd.hAdd k 1) (n := 6) (i := i) (h := h) (b := b) (by show _ ≤ k + 1; omega) hb hi hi' (by omega)
  refine Pu.Ok.bndE e1 ?_
  obtain ⟨r2, i2, h2, e2, _, _, _, b4, b5⟩ := spec_l1Below_priii.is (k := HAdd.hAdd k 1) (n := 4) (i := i1) (h := h1) (b := b) (by show _ ≤ k + 1; omega) hb a4 a5 (by omega)
  refine Pu.Ok.bndE e2 ?_
  obtain ⟨r3, i3, h3, e3, _, _, _, c4, c5⟩ := spec_l1Below_priii.is (k := HAdd.hAdd k 1) (n := 4) (i := i2) (h := h2) (b := b) (by show _ ≤ k + 1; omega) hb b4 b5 (by omega)
  refine Pu.Ok.bndE e3 ?_
  dsimp only
  generalize D.wrap .i64 (D.add 1 r1) = x1
  generalize D.wrap .i64 (D.add 1 r2) = x2
  generalize D.wrap .i64 (D.add 1 r3) = x3
  obtain ⟨x, i4, h4, e4, _, _, _⟩ := spec_l1PickInt_priir.is (k := HAdd.hAdd k 1) (l := [x1, x2, x3, 0, 10]) (i := i3) (h := h3) (b := b) (by show _ ≤ k + 1; omega) hb c4 c5 (by simp) (by simp)
  refine Pu.Ok.bndE e4 ?_
  exact Pu.Ok.ret ht
theorem spec_DrawInsertNumber.ok {k : Nat} {b : List Int} (hk : 4194304 + 20 ≤ k) (hb : b.length ≤ 1048576) : Pu.Ok (spec_DrawInsertNumber k b) fun r => TabLe 10 9 10 r.1 := by
  obtain ⟨k, rfl⟩ : ∃ k', k = k' + 2 := ⟨k - 2, by omega⟩
  rw [spec_DrawInsertNumber.eq]
  obtain ⟨h', e⟩ := spec_DrawInsertNumber.loop (k := k) (z := 0) (e := ([] : List Int)) (d := ([] : List (List Int))) hb 4000 k 0 (D.wrap .i64 (D.add 26583 (D.ofN (D.len b)))) (by omega) (by omega)
  rw [Int.natCast_zero] at e
  rw [e, spec_DrawInsertNumber.J2_eq]
  refine Pu.Ok.bnd (spec_l5Plain_priii.ok (by show _ ≤ k + 1; omega) hb (by omega) (by omega) (by omega) (by omega)) ?_
  rintro ⟨⟨q, rs⟩, _, i1, h1⟩ ⟨⟨hq, hr⟩, a4, a5⟩
  dsimp only at *
  obtain ⟨r2, i2, h2, e2, b4, b5⟩ := spec_l1Once_priii.is (k := HAdd.hAdd k 1) (n := 8) (h := h1) (b := b) (by show _ ≤ k + 1; omega) hb a4 a5 (by omega)
  refine Pu.Ok.bndE e2 ?_
  dsimp only
  refine Pu.Ok.tb (fun _ => ?_) (fun _ => ?_)
  · refine Pu.Ok.bnd (spec_l5Bent_priii.ok (by show _ ≤ k + 1; omega) hb b4 b5 (by omega) (by omega)) ?_
    rintro ⟨⟨q, rs⟩, _, i1, h1⟩ ⟨ht, a4, a5⟩
    exact spec_DrawInsertNumber.rest (by omega) hb a4 a5 ht
  · exact spec_DrawInsertNumber.rest (by omega) hb b4 b5 ⟨by dsimp only; omega, hr.mono (by omega) (by omega)⟩
-- spec_Join
theorem spec_Join.loop {k : Nat} {sep : ByteArray} {ws : List ByteArray} (hs : sep.size ≤ 10) (hw : ∀ w ∈ ws, w.size ≤ 10000) (hn : ws.length ≤ 10000) : ∀ (m j i : Nat) (acc : List Int), i + m = ws.length → m < j → acc.length ≤ i * 10010 → ∃ r, spec_Join.L0 k j sep i ws acc = some r
  | m, 0, i, acc, _, hj, _ => by omega
  | 0, j + 1, i, acc, hi, _, _ => by
    rw [spec_Join.L0_eq, Pu.test_lt]
    have hlt' : ¬ (i : Int) < D.ofN (D.len ws) := by show ¬ (i : Int) < (ws.length : Int); omega
    rw [if_neg hlt']
    exact ⟨_, rfl⟩
  | m + 1, j + 1, i, acc, hi, hj, ha => by
    rw [spec_Join.L0_eq, Pu.test_lt]
    have hlt' : (i : Int) < D.ofN (D.len ws) := by show (i : Int) < (ws.length : Int); omega
    rw [if_pos hlt', Pu.test_lt]
    have li : ∀ s : ByteArray, (D.ints s).length = s.size := fun s => by
      show (s.data.toList.map _).length = _
      rw [List.length_map]; rfl
    have key : ∀ acc' : List Int, acc'.length ≤ i * 10010 + 10 → ∃ r, spec_Join.J1 k j sep i ws acc' = some r := by
      intro acc' ha'
      rw [spec_Join.J1_eq]
      have hi' : i < ws.length := by omega
      have t1 : D.le 0 (i : Int) = true := decide_eq_true (by omega)
      have t2 : D.ltN (D.nat (i : Int)) (D.len ws) = true := decide_eq_true (by show (i : Int).toNat < ws.length; omega)
      have hx : (D.rd ws (D.nat (i : Int)) (⟨#[]⟩ : ByteArray)).size ≤ 10000 := by
        show (ws.getD (i : Int).toNat _).size ≤ _
        rw [Int.toNat_natCast, Pu.getD_lt hi' _]
        exact hw _ (List.getElem_mem hi')
      have hlen : (D.app acc' (D.ints (D.rd ws (D.nat (i : Int)) (⟨#[]⟩ : ByteArray)))).length ≤ (i + 1) * 10010 := by
        show (acc' ++ _).length ≤ _
        rw [List.length_append, li]; omega
      have t3 : D.leN (D.len (D.app acc' (D.ints (D.rd ws (D.nat (i : Int)) (⟨#[]⟩ : ByteArray))))) 1099511627776 = true := decide_eq_true (by
        show (D.app acc' (D.ints (D.rd ws (D.nat (i : Int)) (⟨#[]⟩ : ByteArray)))).length ≤ _
        omega)
      rw [p_test, if_pos t1, p_test, if_pos t2, p_test, if_pos t2, p_test, if_pos t3]
      have ew : D.wrap .i64 (D.add (i : Int) 1) = ((i + 1 : Nat) : Int) := by
        show IntKind.i64.wrap ((i : Int) + 1) = _
        rw [Pu.w64 (by omega) (by omega)]; omega
      rw [ew]
      exact spec_Join.loop hs hw hn m j (i + 1) _ (by omega) (by omega) hlen
    split
    · have hl : (D.app acc (D.ints sep)).length ≤ i * 10010 + 10 := by
        show (acc ++ _).length ≤ _
        rw [List.length_append, li]; omega
      have t3 : D.leN (D.len (D.app acc (D.ints sep))) 1099511627776 = true := decide_eq_true (by
        show (D.app acc (D.ints sep)).length ≤ _
        omega)
      rw [p_test, if_pos t3]
      exact key _ hl
    · exact key acc (Nat.le_add_right_of_le ha)
theorem spec_Join.is {k : Nat} {sep : ByteArray} {ws : List ByteArray} (hk : 100000 ≤ k) (hs : sep.size ≤ 10) (hw : ∀ w ∈ ws, w.size ≤ 10000) (hn : ws.length ≤ 10000) : ∃ r, spec_Join k ws sep = some r := by
  obtain ⟨k, rfl⟩ : ∃ k', k = k' + 1 := ⟨k - 1, by omega⟩
  rw [spec_Join.eq]
  have h := spec_Join.loop (k := k) (sep := sep) hs hw hn ws.length k 0 [] (by omega) (by omega) (by simp)
  rw [Int.natCast_zero] at h
  exact h
-- spec_FormatInt
theorem spec_FormatInt.loop {k : Nat} : ∀ (m j : Nat) (n : Int) (b : Bool) (s : ByteArray), n.natAbs < 10 ^ m → -9223372036854775808 ≤ n → n ≤ 9223372036854775807 → m < j → s.size + m ≤ 1000 → ∃ r, spec_FormatInt.L0 k j n b s = some r ∧ r.size ≤ s.size + m + 1
  | m, 0, n, b, s, _, _, _, hj, _ => by omega
  | 0, j + 1, n, b, s, hn, _, _, _, hs => by
    rw [spec_FormatInt.L0_eq]
    have e : n = 0 := by
      have : n.natAbs < 1 := by simpa using hn
      omega
    subst e
    have hl : D.leN (D.addN (D.lenS (⟨#[45]⟩ : ByteArray)) (D.lenS s)) 1099511627776 = true := decide_eq_true (by show 1 + s.size ≤ _; omega)
    have t0 : ¬ D.no (D.eq (0 : Int) 0) = true := by decide
    rw [p_test, if_neg t0]
    cases b with
    | false => exact ⟨s, rfl, by omega⟩
    | true =>
      refine ⟨(⟨#[45]⟩ : ByteArray) ++ s, ?_, ?_⟩
      · rw [p_test, if_pos rfl, p_test, if_pos hl]; rfl
      · rw [ByteArray.size_append]; show 1 + s.size ≤ _; omega
  | m + 1, j + 1, n, b, s, hn, h1, h2, hj, hs => by
    rw [spec_FormatInt.L0_eq]
    have t10 : D.no (D.eq (10 : Int) 0) = true := by decide
    have key : ∀ x, ∃ r, spec_FormatInt.J1 k j n b s x = some r ∧ r.size ≤ s.size + (m + 1) + 1 := by
      intro x
      rw [spec_FormatInt.J1_eq]
      have hl : D.leN (D.addN (D.lenS (D.ofInts ((D.wrap .u8 (D.wrap .i64 (D.add 48 x))) :: ([] : List Int)))) (D.lenS s)) 1099511627776 = true := decide_eq_true (by show 1 + s.size ≤ _; omega)
      rw [p_test, if_pos hl, p_test, if_pos t10]
      have ha : (n.tdiv 10).natAbs = n.natAbs / 10 := by rw [Int.natAbs_tdiv]; rfl
      have ew : D.wrap .i64 (D.quo n 10) = n.tdiv 10 := by
        show IntKind.i64.wrap (n.tdiv 10) = _
        exact Pu.w64 (by omega) (by omega)
      rw [ew]
      have hsz : (D.catS (D.ofInts ((D.wrap .u8 (D.wrap .i64 (D.add 48 x))) :: ([] : List Int))) s).size = 1 + s.size := by
        show (_ ++ s).size = _
        rw [ByteArray.size_append]; rfl
      obtain ⟨r, e, hr⟩ := spec_FormatInt.loop (k := k) m j (n.tdiv 10) b (D.catS (D.ofInts ((D.wrap .u8 (D.wrap .i64 (D.add 48 x))) :: ([] : List Int))) s) (by rw [ha]; rw [Nat.pow_succ] at hn; omega) (by omega) (by omega) (by omega) (by omega)
      exact ⟨r, e, by omega⟩
    by_cases h0 : n = 0
    · subst h0
      have t0 : ¬ D.no (D.eq (0 : Int) 0) = true := by decide
      have hl : D.leN (D.addN (D.lenS (⟨#[45]⟩ : ByteArray)) (D.lenS s)) 1099511627776 = true := decide_eq_true (by show 1 + s.size ≤ _; omega)
      rw [p_test, if_neg t0]
      cases b with
      | false => exact ⟨s, rfl, by omega⟩
      | true =>
        refine ⟨(⟨#[45]⟩ : ByteArray) ++ s, ?_, ?_⟩
        · rw [p_test, if_pos rfl, p_test, if_pos hl]; rfl
        · rw [ByteArray.size_append]; show 1 + s.size ≤ _; omega
    · have t0 : D.no (D.eq n 0) = true := by
        show (!decide (n = 0)) = true
        simp [h0]
      rw [p_test, if_pos t0, p_test, if_pos t10, p_test]
      split
      · exact key _
      · exact key _
theorem spec_FormatInt.is {k : Nat} {n : Int} (hk : 1000 ≤ k) (h1 : -9223372036854775808 ≤ n) (h2 : n ≤ 9223372036854775807) : ∃ r, spec_FormatInt k n = some r ∧ r.size ≤ 30 := by
  obtain ⟨k, rfl⟩ : ∃ k', k = k' + 1 := ⟨k - 1, by omega⟩
  rw [spec_FormatInt.eq, p_test]
  split
  · exact ⟨_, rfl, by decide⟩
  · obtain ⟨r, e, hr⟩ := spec_FormatInt.loop (k := k) 20 k n (D.lt n 0) (⟨#[]⟩ : ByteArray) (by omega) h1 h2 (by omega) (by show 0 + 20 ≤ 1000; omega)
    refine ⟨r, e, ?_⟩
    have : r.size ≤ 0 + 20 + 1 := hr
    omega
-- spec_TableauText
theorem isTab_entry {t : Pu.Tab} (h : Pu.isTab t = true) {i q : Nat} (hi : i < t.2.length) (hq : q < (t.2.getD i []).length) : 1 ≤ (t.2.getD i []).getD q 0 ∧ (t.2.getD i []).getD q 0 ≤ 9 := by
  simp only [Pu.isTab, Bool.and_eq_true] at h
  have h1 := Pu.all_range.1 h.2 i hi
  have h2 := Pu.all_range.1 h1 q hq
  simp only [Pu.cellOK, Pu.within, Bool.and_eq_true, decide_eq_true_eq] at h2
  exact h2.1
theorem spec_TableauText.L2_ok {k k1 : Nat} {i : Nat} {ws : List ByteArray} {t : Pu.Tab} {Q : ByteArray → Prop} (hk : 1000 ≤ k) (ht : Pu.isTab t = true) (hr : Pu.RowsLe 9 10 t.2) (hi : i < t.2.length) (hw : ws.length ≤ 9)
    (key : ∀ s : ByteArray, s.size ≤ 10000 → Pu.Ok (spec_TableauText.L0 k k1 ((i : Int) + 1) (ws ++ [s]) t.1 t.2) Q) :
    ∀ (m j q : Nat) (s : ByteArray), q + m = (t.2.getD i []).length → m < j → s.size ≤ 10 + q * 30 → Pu.Ok (spec_TableauText.L2 k k1 j i s q ws t.1 t.2) Q
  | m, 0, q, s, _, hj, _ => by omega
  | 0, j + 1, q, s, hq, _, hs => by
    rw [spec_TableauText.L2_eq]
    simp only [p_lt, p_le, p_ltN, p_leN, p_eqN, p_len, p_ofN, p_nat, p_rd, p_set, p_app, p_take, p_drop, p_rep, p_wrap, p_add, p_sub, p_mul, p_no, p_eq, p_eqB, p_eqP, p_lenS, p_catS, p_addN, p_subN, List.nil_append, List.cons_append]
    (try simp only [Int.toNat_natCast]); (try simp (disch := omega) only [Pu.w64])
    have := hr.at i
    have := hr.1
    (repeat (refine Pu.Ok.g (by first | omega | assumption | (simp only [List.length_append, List.length_cons, List.length_nil, List.length_set, List.length_take, List.length_drop, List.length_replicate] at *; omega)) ?_))
    refine Pu.Ok.no (by omega) ?_
    (repeat (refine Pu.Ok.g (by first | omega | assumption | (simp only [List.length_append, List.length_cons, List.length_nil, List.length_set, List.length_take, List.length_drop, List.length_replicate] at *; omega)) ?_))
    (try simp only [Int.toNat_natCast]); (try simp (disch := omega) only [Pu.w64])
    exact key s (by omega)
  | m + 1, j + 1, q, s, hq, hj, hs => by
    rw [spec_TableauText.L2_eq]
    simp only [p_lt, p_le, p_ltN, p_leN, p_eqN, p_len, p_ofN, p_nat, p_rd, p_set, p_app, p_take, p_drop, p_rep, p_wrap, p_add, p_sub, p_mul, p_no, p_eq, p_eqB, p_eqP, p_lenS, p_catS, p_addN, p_subN, List.nil_append, List.cons_append]
    (try simp only [Int.toNat_natCast]); (try simp (disch := omega) only [Pu.w64])
    have := hr.at i
    have := hr.1
    have he := isTab_entry ht hi (show q < _ by omega)
    (repeat (refine Pu.Ok.g (by first | omega | assumption | (simp only [List.length_append, List.length_cons, List.length_nil, List.length_set, List.length_take, List.length_drop, List.length_replicate] at *; omega)) ?_))
    obtain ⟨r, e, h1⟩ := spec_FormatInt.is (k := k) (n := (t.2.getD i []).getD q 0) (by omega) (by omega) (by omega)
    refine Pu.Ok.bndE e ?_
    (repeat (refine Pu.Ok.g (by first | omega | assumption | (simp only [List.length_append, List.length_cons, List.length_nil, List.length_set, List.length_take, List.length_drop, List.length_replicate] at *; omega)) ?_))
    (try simp only [Int.toNat_natCast]); (try simp (disch := omega) only [Pu.w64])
    exact spec_TableauText.L2_ok hk ht hr hi hw key m j (q + 1) _ (by omega) (by omega) (by rw [ByteArray.size_append]; omega)
theorem spec_TableauText.L1_ok {k k1 : Nat} {i : Nat} {ws : List ByteArray} {t : Pu.Tab} {Q : ByteArray → Prop} (hk : 1000 ≤ k) (ht : Pu.isTab t = true) (hr : Pu.RowsLe 9 10 t.2) (hi : i < t.2.length) (hw : ws.length ≤ 9)
    (key : ∀ s : ByteArray, s.size ≤ 10000 → Pu.Ok (spec_TableauText.L0 k k1 ((i : Int) + 1) (ws ++ [s]) t.1 t.2) Q) :
    ∀ (m j q : Nat) (s : ByteArray), 10 ≤ q + m → m < j → s.size ≤ q → q ≤ 9 → Pu.Ok (spec_TableauText.L1 k k1 j i s q ws t.1 t.2) Q
  | m, 0, q, s, _, hj, _, _ => by omega
  | m, j + 1, q, s, hq, hj, hs, h9 => by
    rw [spec_TableauText.L1_eq]
    simp only [p_lt, p_le, p_ltN, p_leN, p_eqN, p_len, p_ofN, p_nat, p_rd, p_set, p_app, p_take, p_drop, p_rep, p_wrap, p_add, p_sub, p_mul, p_no, p_eq, p_eqB, p_eqP, p_lenS, p_catS, p_addN, p_subN, List.nil_append, List.cons_append]
    refine Pu.Ok.bndE (spec_l2At.is (by omega)) ?_
    have hi1 : Pu.isPart t.1 = true := by
      have := Pu.tab_shape ht
      simp only [Pu.shapeOK, Bool.and_eq_true] at this
      exact this.1
    have hb := Pu.part_atI hi1 i
    have hx := hr.at i
    refine Pu.Ok.t (fun hlt => ?_) (fun _ => ?_)
    · have hz : s.size + (⟨#[46]⟩ : ByteArray).size ≤ 1099511627776 := by
        show s.size + 1 ≤ _
        omega
      (repeat (refine Pu.Ok.g (by first | omega | assumption | (simp only [List.length_append, List.length_cons, List.length_nil, List.length_set, List.length_take, List.length_drop, List.length_replicate] at *; omega)) ?_))
      (try simp only [Int.toNat_natCast]); (try simp (disch := omega) only [Pu.w64])
      exact spec_TableauText.L1_ok hk ht hr hi hw key (m - 1) j (q + 1) _ (by omega) (by omega) (by rw [ByteArray.size_append]; show s.size + 1 ≤ _; omega) (by omega)
    · exact spec_TableauText.L2_ok hk ht hr hi hw key (t.2.getD i []).length k 0 s (by omega) (by omega) (by omega)
theorem spec_TableauText.L0_ok {k : Nat} {t : Pu.Tab} (hk : 100000 ≤ k) (ht : Pu.isTab t = true) (hr : Pu.RowsLe 9 10 t.2) :
    ∀ (m j i : Nat) (ws : List ByteArray), i + m = t.2.length → m < j → ws.length = i → (∀ w ∈ ws, w.size ≤ 10000) → Pu.Ok (spec_TableauText.L0 k j i ws t.1 t.2) fun _ => True
  | m, 0, i, ws, _, hj, _, _ => by omega
  | 0, j + 1, i, ws, hi, _, hl, hw => by
    rw [spec_TableauText.L0_eq]
    simp only [p_lt, p_le, p_ltN, p_leN, p_eqN, p_len, p_ofN, p_nat, p_rd, p_set, p_app, p_take, p_drop, p_rep, p_wrap, p_add, p_sub, p_mul, p_no, p_eq, p_eqB, p_eqP, p_lenS, p_catS, p_addN, p_subN, List.nil_append, List.cons_append]
    have := hr.1
    refine Pu.Ok.no (by omega) ?_
    obtain ⟨r, e⟩ := spec_Join.is (k := k) (sep := (⟨#[47]⟩ : ByteArray)) (ws := ws) hk (by decide) hw (by omega)
    exact Pu.Ok.bndE e (Pu.Ok.ret trivial)
  | m + 1, j + 1, i, ws, hi, hj, hl, hw => by
    rw [spec_TableauText.L0_eq]
    simp only [p_lt, p_le, p_ltN, p_leN, p_eqN, p_len, p_ofN, p_nat, p_rd, p_set, p_app, p_take, p_drop, p_rep, p_wrap, p_add, p_sub, p_mul, p_no, p_eq, p_eqB, p_eqP, p_lenS, p_catS, p_addN, p_subN, List.nil_append, List.cons_append]
    have := hr.1
    (repeat (refine Pu.Ok.g (by first | omega | assumption | (simp only [List.length_append, List.length_cons, List.length_nil, List.length_set, List.length_take, List.length_drop, List.length_replicate] at *; omega)) ?_))
    refine spec_TableauText.L1_ok (by omega) ht hr (by omega) (by omega) (fun s hs => ?_) 10 k 0 _ (by omega) (by omega) (by show 0 ≤ 0; omega) (by omega)
    exact spec_TableauText.L0_ok hk ht hr m j (i + 1) _ (by omega) (by omega) (by rw [List.length_append, List.length_singleton]; omega) (fun w hw' => by
      rcases List.mem_append.1 hw' with h | h
      · exact hw w h
      · simp only [List.mem_singleton] at h; subst h; exact hs)
theorem spec_TableauText.ok {k : Nat} {t : Pu.Tab} (hk : 4194304 + 6 ≤ k) (ht : TabLe 10 9 10 t) : Pu.Ok (spec_TableauText k t) fun _ => True := by
  obtain ⟨k, rfl⟩ : ∃ k', k = k' + 1 := ⟨k - 1, by omega⟩
  obtain ⟨c1, c2, c3⟩ := ht.tab (by omega) (by omega) (by omega)
  rw [spec_TableauText.eq]
  refine Pu.Ok.bndE (spec_IsTableau.is (by omega) c1 c2 c3) ?_
  simp only [p_lt, p_le, p_ltN, p_leN, p_eqN, p_len, p_ofN, p_nat, p_rd, p_set, p_app, p_take, p_drop, p_rep, p_wrap, p_add, p_sub, p_mul, p_no, p_eq, p_eqB, p_eqP, p_lenS, p_catS, p_addN, p_subN, List.nil_append, List.cons_append]
  refine Pu.Ok.tn (fun _ => Pu.Ok.ret trivial) (fun hb => Pu.Ok.t (fun _ => Pu.Ok.ret trivial) (fun _ => ?_))
  exact spec_TableauText.L0_ok (t := t) (by omega) hb ht.2 t.2.length k 0 [] (by omega) (by have := ht.2.1; omega) rfl (fun w hw => by cases hw)
-- spec_l2Bent_priii
theorem spec_l2Bent_priii.is {k : Nat} {m i h : Int} {b : List Int} (hk : 4194304 + 13 ≤ k) (hb : b.length ≤ 1048576) (hi : 0 ≤ i) (hi' : i ≤ b.length) (hm : 1 ≤ m) (hm' : m ≤ 9) :
    ∃ p i' h', spec_l2Bent_priii k m i h b = some (p, ((), (i', h'))) ∧ p.length ≤ 15 ∧ 0 ≤ i' ∧ i' ≤ b.length := by
  obtain ⟨k, rfl⟩ : ∃ k', k = k' + 1 := ⟨k - 1, by omega⟩
  rw [spec_l2Bent_priii.eq]
  obtain ⟨p, i1, h1, e1, ⟨hp, _⟩, a4, a5⟩ := spec_l2Draw_priii.is (k := k) (m := m) (h := h) (b := b) (by omega) hb hi hi' hm hm'
  obtain ⟨r, i2, h2, e2, b1, b2, b3, b4, b5⟩ := spec_l1Below_priii.is (k := k) (n := 14) (h := h1) (b := b) (by omega) hb a4 a5 (by omega)
  obtain ⟨x, i3, h3, e3, c1, c4, c5⟩ := spec_l1PickInt_priir.is (k := k) (l := [0, 5, -1, 1, 9223372036854775807]) (h := h2) (b := b) (by omega) hb b4 b5 (by simp) (by simp)
  by_cases r0 : r = 0
  · have hl : (p ++ [x]).length ≤ 1099511627776 := by rw [List.length_append]; simp; omega
    refine ⟨p ++ [x], i3, h3, ?_, by rw [List.length_append]; simp; omega, c4, c5⟩
    simp only [↓p_test, p_lt, p_le, p_ltN, p_leN, p_eqN, p_len, p_ofN, p_nat, p_rd, p_set, p_app, p_take, p_drop, p_rep, p_wrap, p_add, p_sub, p_no, p_eq, p_eqB, p_eqP, p_bnd_some, Pu.w64, Int.toNat_natCast, decide_eq_true_eq, Int.ofNat_lt, Int.ofNat_le, if_true, if_false, Int.natCast_nonneg, decide_true, decide_false, Bool.not_true, Bool.not_false, Bool.false_eq_true, Bool.not_eq_true, Bool.true_and, Bool.and_true, Bool.false_and, Bool.and_false, e1, e2, r0, e3, hl]
  · by_cases r1 : r = 1
    · have hl : (p ++ [1, 1, 1, 1, 1, 1]).length ≤ 1099511627776 := by rw [List.length_append]; simp; omega
      have h10 : ¬ (1 : Int) = 0 := by decide
      refine ⟨p ++ [1, 1, 1, 1, 1, 1], i2, h2, ?_, by rw [List.length_append]; simp; omega, b4, b5⟩
      simp only [↓p_test, p_lt, p_le, p_ltN, p_leN, p_eqN, p_len, p_ofN, p_nat, p_rd, p_set, p_app, p_take, p_drop, p_rep, p_wrap, p_add, p_sub, p_no, p_eq, p_eqB, p_eqP, p_bnd_some, Pu.w64, Int.toNat_natCast, decide_eq_true_eq, Int.ofNat_lt, Int.ofNat_le, if_true, if_false, Int.natCast_nonneg, decide_true, decide_false, Bool.not_true, Bool.not_false, Bool.false_eq_true, Bool.not_eq_true, Bool.true_and, Bool.and_true, Bool.false_and, Bool.and_false, e1, e2, r0, r1, h10, hl]
    · refine ⟨p, i2, h2, ?_, by omega, b4, b5⟩
      simp only [↓p_test, p_lt, p_le, p_ltN, p_leN, p_eqN, p_len, p_ofN, p_nat, p_rd, p_set, p_app, p_take, p_drop, p_rep, p_wrap, p_add, p_sub, p_no, p_eq, p_eqB, p_eqP, p_bnd_some, Pu.w64, Int.toNat_natCast, decide_eq_true_eq, Int.ofNat_lt, Int.ofNat_le, if_true, if_false, Int.natCast_nonneg, decide_true, decide_false, Bool.not_true, Bool.not_false, Bool.false_eq_true, Bool.not_eq_true, Bool.true_and, Bool.and_true, Bool.false_and, Bool.and_false, e1, e2, r0, r1]
-- spec_DrawAddBox
theorem spec_DrawAddBox.loop {k : Nat} {z : Int} {b e : List Int} (hb : b.length ≤ 1048576) : ∀ (m j i : Nat) (h : Int), i + m = 4000 → m < j → ∃ h', spec_DrawAddBox.L0 k j h i z b e = spec_DrawAddBox.J2 k h' z b e
  | m, 0, i, h, _, hj => by omega
  | 0, j + 1, i, h, hi, _ => by
    rw [spec_DrawAddBox.L0_eq, Pu.test_lt, Pu.test_lt]
    have h4 : ¬ (i : Int) < 4000 := by omega
    refine ⟨h, ?_⟩
    rw [if_neg h4, ite_self]
  | m + 1, j + 1, i, h, hi, hj => by
    rw [spec_DrawAddBox.L0_eq, Pu.test_lt, Pu.test_lt]
    have h4 : (i : Int) < 4000 := by omega
    by_cases hlt : i < b.length
    · have ew : IntKind.i64.wrap ((i : Int) + 1) = ((i + 1 : Nat) : Int) := by rw [Pu.w64 (by omega) (by omega)]; omega
      have hlt' : (i : Int) < D.ofN (D.len b) := by show (i : Int) < (b.length : Int); omega
      rw [if_pos hlt', if_pos h4, spec_DrawAddBox.J1_eq]
      obtain ⟨h', ih⟩ := spec_DrawAddBox.loop (k := k) (z := z) (e := e) hb m j (i + 1) (D.andI .i64 (D.wrap .i64 (D.add (D.wrap .i64 (D.add (D.wrap .i64 (D.mul h 131)) (D.wrap .i64 (D.rd b (D.nat (i : Int)) 0)))) 7)) 1073741823) (by omega) (by omega)
      refine ⟨h', ?_⟩
      have t1 : D.le 0 (i : Int) = true := decide_eq_true (by omega)
      have t2 : D.ltN (D.nat (i : Int)) (D.len b) = true := decide_eq_true (by show (i : Int).toNat < b.length; omega)
      rw [p_test, if_pos t1, p_test, if_pos t2, p_test, if_pos t2]
      have ew' : D.wrap .i64 (D.add (i : Int) 1) = ((i + 1 : Nat) : Int) := ew
      rw [ew']
      exact ih
    · have hlt' : ¬ (i : Int) < D.ofN (D.len b) := by show ¬ (i : Int) < (b.length : Int); omega
      exact ⟨h, by rw [if_neg hlt']⟩
theorem spec_DrawAddBox.is {k : Nat} {b : List Int} (hk : 4194304 + 14 ≤ k) (hb : b.length ≤ 1048576) : ∃ p r, spec_DrawAddBox k b = some (p, r) ∧ p.length ≤ 15 := by
  obtain ⟨k, rfl⟩ : ∃ k', k = k' + 2 := ⟨k - 2, by omega⟩
  rw [spec_DrawAddBox.eq]
  obtain ⟨h', e⟩ := spec_DrawAddBox.loop (k := k) (z := 0) (e := ([] : List Int)) hb 4000 k 0 (D.wrap .i64 (D.add 26583 (D.ofN (D.len b)))) (by omega) (by omega)
  rw [Int.natCast_zero] at e
  rw [e, spec_DrawAddBox.J2_eq]
  obtain ⟨p, i1, h1, e1, a1, a2, a3⟩ := spec_l2Bent_priii.is (k := HAdd.hAdd k 1) (m := 9) (i := 0) (h := h') (b := b) (by show _ ≤ k + 1; omega) hb (by omega) (by omega) (by omega) (by omega)
  obtain ⟨r, i2, h2, e2, b1, b2, b3, b4, b5⟩ := spec_l1Below_priii.is (k := HAdd.hAdd k 1) (n := 7) (h := h1) (b := b) (by show _ ≤ k + 1; omega) hb a2 a3 (by omega)
  have b3 := b3 (by omega)
  have ew : IntKind.i64.wrap (r - 1) = r - 1 := Pu.w64 (by omega) (by omega)
  exact ⟨p, r - 1, by simp only [↓p_test, p_lt, p_le, p_ltN, p_leN, p_eqN, p_len, p_ofN, p_nat, p_rd, p_set, p_app, p_take, p_drop, p_rep, p_wrap, p_add, p_sub, p_no, p_eq, p_eqB, p_eqP, p_bnd_some, Pu.w64, Int.toNat_natCast, decide_eq_true_eq, Int.ofNat_lt, Int.ofNat_le, if_true, if_false, Int.natCast_nonneg, decide_true, decide_false, Bool.not_true, Bool.not_false, Bool.false_eq_true, Bool.not_eq_true, Bool.true_and, Bool.and_true, Bool.false_and, Bool.and_false, e1, e2, ew], a1⟩
-- spec_l2Commas
theorem spec_l2Commas.loop {k : Nat} {p : List Int} (hk : 100000 ≤ k) (hp : p.length ≤ 10000) (hb : ∀ x ∈ p, -9223372036854775808 ≤ x ∧ x ≤ 9223372036854775807) : ∀ (m j i : Nat) (acc : List ByteArray), i + m = p.length → m < j → acc.length = i → (∀ w ∈ acc, w.size ≤ 10000) → ∃ r, spec_l2Commas.L0 k j i p acc = some r
  | m, 0, i, acc, _, hj, _, _ => by omega
  | 0, j + 1, i, acc, hi, _, ha, hw => by
    rw [spec_l2Commas.L0_eq, Pu.test_lt]
    have hlt' : ¬ (i : Int) < D.ofN (D.len p) := by show ¬ (i : Int) < (p.length : Int); omega
    rw [if_neg hlt']
    obtain ⟨r, e⟩ := spec_Join.is (k := k) (sep := (⟨#[44]⟩ : ByteArray)) (ws := acc) hk (by decide) hw (by omega)
    rw [e]
    exact ⟨_, rfl⟩
  | m + 1, j + 1, i, acc, hi, hj, ha, hw => by
    rw [spec_l2Commas.L0_eq, Pu.test_lt]
    have hi' : i < p.length := by omega
    have hlt' : (i : Int) < D.ofN (D.len p) := by show (i : Int) < (p.length : Int); omega
    have t1 : D.le 0 (i : Int) = true := decide_eq_true (by omega)
    have t2 : D.ltN (D.nat (i : Int)) (D.len p) = true := decide_eq_true (by show (i : Int).toNat < p.length; omega)
    have hx := hb _ (List.getElem_mem hi')
    rw [← Pu.getD_lt hi' 0] at hx
    obtain ⟨r, e, hr⟩ := spec_FormatInt.is (k := k) (n := p.getD i 0) (by omega) hx.1 hx.2
    have e' : spec_FormatInt k (D.rd p (D.nat (i : Int)) 0) = some r := e
    rw [if_pos hlt', p_test, if_pos t1, p_test, if_pos t2, p_test, if_pos t2, e', p_bnd_some]
    have t3 : D.leN (D.len (D.app acc [r])) 1099511627776 = true := decide_eq_true (by
      show (acc ++ [r]).length ≤ _
      rw [List.length_append]; simp; omega)
    have ew : D.wrap .i64 (D.add (i : Int) 1) = ((i + 1 : Nat) : Int) := by
      show IntKind.i64.wrap ((i : Int) + 1) = _
      rw [Pu.w64 (by omega) (by omega)]; omega
    rw [p_test, if_pos t3, ew]
    exact spec_l2Commas.loop hk hp hb m j (i + 1) (acc ++ [r]) (by omega) (by omega) (by rw [List.length_append]; simp; omega) (fun w hw' => by
      rcases List.mem_append.1 hw' with h | h
      · exact hw w h
      · simp only [List.mem_singleton] at h; subst h; omega)
theorem spec_l2Commas.is {k : Nat} {p : List Int} (hk : 200000 ≤ k) (hp : p.length ≤ 10000) (hb : ∀ x ∈ p, -9223372036854775808 ≤ x ∧ x ≤ 9223372036854775807) : ∃ r, spec_l2Commas k p = some r := by
  obtain ⟨k, rfl⟩ : ∃ k', k = k' + 1 := ⟨k - 1, by omega⟩
  rw [spec_l2Commas.eq]
  have h := spec_l2Commas.loop (k := k) (by omega) hp hb p.length k 0 [] (by omega) (by omega) rfl (fun w hw => by cases hw)
  rw [Int.natCast_zero] at h
  exact h
-- spec_PartitionText
theorem spec_PartitionText.is {k : Nat} {p : List Int} (hk : 4194304 + 3 ≤ k) (hp : p.length ≤ 10000) : ∃ r, spec_PartitionText k p = some r := by
  obtain ⟨k, rfl⟩ : ∃ k', k = k' + 1 := ⟨k - 1, by omega⟩
  rw [spec_PartitionText.eq, spec_IsPartition.is (by omega) (by omega), p_bnd_some]
  by_cases h : Pu.isPart p = true
  · have t0 : ¬ D.no (Pu.isPart p) = true := by rw [h]; decide
    rw [p_test, if_neg t0, p_test]
    split
    · exact ⟨_, rfl⟩
    · obtain ⟨r, e⟩ := spec_l2Commas.is (k := k) (p := p) (by omega) hp (fun x hx => by have := (Pu.isPart_spec h).1 x hx; omega)
      rw [e]
      exact ⟨_, rfl⟩
  · simp only [Bool.not_eq_true] at h
    have t0 : D.no (Pu.isPart p) = true := by rw [h]; rfl
    rw [p_test, if_pos t0]
    exact ⟨_, rfl⟩
-- impl_within
theorem impl_within.is {k : Nat} {x lo hi : Int} (hk : 1 ≤ k) : impl_within k x lo hi = some (Pu.within x lo hi) := by
  obtain ⟨k, rfl⟩ : ∃ k', k = k' + 1 := ⟨k - 1, by omega⟩
  rw [impl_within.eq]
  by_cases h : lo ≤ x <;> simp [Pu.within, h]
-- impl_IsPartition
theorem impl_IsPartition.loop {k : Nat} {p : List Int} (hk : 4194304 ≤ k) (hp : p.length ≤ 1048576) : ∀ (m j i : Nat) (s v : Int), i + m = p.length → m < j → (i = 0 → v = 9) → (0 < i → v = p.getD (i - 1) 0) → v ≤ 9 → 0 ≤ s → s ≤ 9 →
    impl_IsPartition.L0 k j s p.length i p = some (Pu.partGo (p.drop i) v s)
  | m, 0, i, s, v, _, hj, _, _, _, _, _ => by omega
  | 0, j + 1, i, s, v, hi, _, _, _, _, _, _ => by
    rw [impl_IsPartition.L0_eq]
    have e : i = p.length := by omega
    subst e
    simp [Pu.partGo]
  | m + 1, j + 1, i, s, v, hi, hj, h0, h1, hv, hs, hs9 => by
    rw [impl_IsPartition.L0_eq]
    have hlt : i < p.length := by omega
    have hj1 : ∀ x : Int, x = p.getD i 0 → 1 ≤ x → x ≤ v → impl_IsPartition.J1 k j s x p.length i p = some (decide (s + x ≤ 9) && Pu.partGo (p.drop (i + 1)) x (s + x)) := by
      intro x hx hx1 hx2
      rw [impl_IsPartition.J1_eq]
      simp (disch := omega) only [↓p_test, p_lt, p_le, p_ltN, p_leN, p_eqN, p_len, p_ofN, p_nat, p_rd, p_set, p_app, p_take, p_drop, p_rep, p_wrap, p_add, p_sub, p_no, p_eq, p_eqB, p_eqP, p_bnd_some, Pu.w64, Int.toNat_natCast, decide_eq_true_eq, Int.ofNat_lt, Int.ofNat_le, if_true, if_false, Int.natCast_nonneg, decide_true, decide_false, Bool.not_true, Bool.not_false, Bool.false_eq_true, Bool.not_eq_true, Bool.true_and, Bool.and_true, Bool.false_and, Bool.and_false]
      by_cases c : 9 < s + x
      · have : ¬ s + x ≤ 9 := by omega
        simp [c, this]
      · have c' : s + x ≤ 9 := by omega
        have ih := impl_IsPartition.loop hk hp m j (i + 1) (s + x) x (by omega) (by omega) (by omega) (by simp [hx]) (by omega) (by omega) c'
        rw [Int.natCast_succ] at ih
        simp [c, c', ih]
    rw [Pu.drop_cons hlt 0]
    simp (disch := omega) only [↓p_test, p_lt, p_le, p_ltN, p_leN, p_eqN, p_len, p_ofN, p_nat, p_rd, p_set, p_app, p_take, p_drop, p_rep, p_wrap, p_add, p_sub, p_no, p_eq, p_eqB, p_eqP, p_bnd_some, Pu.w64, Int.toNat_natCast, decide_eq_true_eq, Int.ofNat_lt, Int.ofNat_le, if_true, if_false, Int.natCast_nonneg, decide_true, decide_false, Bool.not_true, Bool.not_false, Bool.false_eq_true, Bool.not_eq_true, Bool.true_and, Bool.and_true, Bool.false_and, Bool.and_false, hlt, impl_within.is, Pu.partGo]
    generalize hx : p.getD i 0 = x at *
    unfold Pu.within
    by_cases c1 : 1 ≤ x
    · by_cases c2 : x ≤ v
      · have c3 : x ≤ 9 := by omega
        have hj := hj1 x rfl c1 c2
        by_cases hi0 : i = 0
        · have hpos : ¬ (0 : Int) < i := by omega
          simp (disch := omega) only [↓p_test, p_lt, p_le, p_ltN, p_leN, p_eqN, p_len, p_ofN, p_nat, p_rd, p_set, p_app, p_take, p_drop, p_rep, p_wrap, p_add, p_sub, p_no, p_eq, p_eqB, p_eqP, p_bnd_some, Pu.w64, Int.toNat_natCast, decide_eq_true_eq, Int.ofNat_lt, Int.ofNat_le, if_true, if_false, Int.natCast_nonneg, decide_true, decide_false, Bool.not_true, Bool.not_false, Bool.false_eq_true, Bool.not_eq_true, Bool.true_and, Bool.and_true, Bool.false_and, Bool.and_false, c1, c2, c3, hpos, hj]
        · have hv' := h1 (by omega)
          have e : ((i : Int) - 1) = ((i - 1 : Nat) : Int) := by omega
          have hlt' : i - 1 < p.length := by omega
          have hge : ¬ p.getD (i - 1) 0 < x := by rw [← hv']; omega
          have hpos : (0 : Int) < i := by omega
          simp (disch := omega) only [e, ↓p_test, p_lt, p_le, p_ltN, p_leN, p_eqN, p_len, p_ofN, p_nat, p_rd, p_set, p_app, p_take, p_drop, p_rep, p_wrap, p_add, p_sub, p_no, p_eq, p_eqB, p_eqP, p_bnd_some, Pu.w64, Int.toNat_natCast, decide_eq_true_eq, Int.ofNat_lt, Int.ofNat_le, if_true, if_false, Int.natCast_nonneg, decide_true, decide_false, Bool.not_true, Bool.not_false, Bool.false_eq_true, Bool.not_eq_true, Bool.true_and, Bool.and_true, Bool.false_and, Bool.and_false, hlt', c1, c2, c3, hj, hpos, hge]
      · simp only [c1, c2, ↓p_test, p_lt, p_le, p_ltN, p_leN, p_eqN, p_len, p_ofN, p_nat, p_rd, p_set, p_app, p_take, p_drop, p_rep, p_wrap, p_add, p_sub, p_no, p_eq, p_eqB, p_eqP, p_bnd_some, Pu.w64, Int.toNat_natCast, decide_eq_true_eq, Int.ofNat_lt, Int.ofNat_le, if_true, if_false, Int.natCast_nonneg, decide_true, decide_false, Bool.not_true, Bool.not_false, Bool.false_eq_true, Bool.not_eq_true, Bool.true_and, Bool.and_true, Bool.false_and, Bool.and_false]
        by_cases c3 : x ≤ 9
        · have hi0 : 0 < i := by
            rcases Nat.eq_zero_or_pos i with h | h
            · have := h0 h; omega
            · exact h
          have hv' := h1 hi0
          have e : ((i : Int) - 1) = ((i - 1 : Nat) : Int) := by omega
          have hlt' : i - 1 < p.length := by omega
          have hge : p.getD (i - 1) 0 < x := by rw [← hv']; omega
          have hpos : (0 : Int) < i := by omega
          simp (disch := omega) only [e, ↓p_test, p_lt, p_le, p_ltN, p_leN, p_eqN, p_len, p_ofN, p_nat, p_rd, p_set, p_app, p_take, p_drop, p_rep, p_wrap, p_add, p_sub, p_no, p_eq, p_eqB, p_eqP, p_bnd_some, Pu.w64, Int.toNat_natCast, decide_eq_true_eq, Int.ofNat_lt, Int.ofNat_le, if_true, if_false, Int.natCast_nonneg, decide_true, decide_false, Bool.not_true, Bool.not_false, Bool.false_eq_true, Bool.not_eq_true, Bool.true_and, Bool.and_true, Bool.false_and, Bool.and_false, hlt', c3, hpos, hge]
        · simp only [c3, ↓p_test, p_lt, p_le, p_ltN, p_leN, p_eqN, p_len, p_ofN, p_nat, p_rd, p_set, p_app, p_take, p_drop, p_rep, p_wrap, p_add, p_sub, p_no, p_eq, p_eqB, p_eqP, p_bnd_some, Pu.w64, Int.toNat_natCast, decide_eq_true_eq, Int.ofNat_lt, Int.ofNat_le, if_true, if_false, Int.natCast_nonneg, decide_true, decide_false, Bool.not_true, Bool.not_false, Bool.false_eq_true, Bool.not_eq_true, Bool.true_and, Bool.and_true, Bool.false_and, Bool.and_false]
    · simp only [c1, ↓p_test, p_lt, p_le, p_ltN, p_leN, p_eqN, p_len, p_ofN, p_nat, p_rd, p_set, p_app, p_take, p_drop, p_rep, p_wrap, p_add, p_sub, p_no, p_eq, p_eqB, p_eqP, p_bnd_some, Pu.w64, Int.toNat_natCast, decide_eq_true_eq, Int.ofNat_lt, Int.ofNat_le, if_true, if_false, Int.natCast_nonneg, decide_true, decide_false, Bool.not_true, Bool.not_false, Bool.false_eq_true, Bool.not_eq_true, Bool.true_and, Bool.and_true, Bool.false_and, Bool.and_false]
theorem impl_IsPartition.is {k : Nat} {p : List Int} (hk : 4194304 + 1 ≤ k) (hp : p.length ≤ 1048576) : impl_IsPartition k p = some (Pu.isPart p) := by
  obtain ⟨k, rfl⟩ : ∃ k', k = k' + 1 := ⟨k - 1, by omega⟩
  rw [impl_IsPartition.eq]
  exact impl_IsPartition.loop (k := k) (by omega) hp p.length k 0 0 9 (by omega) (by omega) (fun _ => rfl) (by omega) (by omega) (by omega) (by omega)
-- slices_Clone__int_int
theorem slices_Clone__int_int.is {k : Nat} {a : List Int} (hk : 1 ≤ k) (ha : a.length ≤ 1099511627776) : slices_Clone__int_int k a = some a := by
  obtain ⟨k, rfl⟩ : ∃ k', k = k' + 1 := ⟨k - 1, by omega⟩
  rw [slices_Clone__int_int.eq]
  by_cases h : a.length = 0
  · have : a = [] := List.eq_nil_of_length_eq_zero h
    subst this
    simp [p_both, ways_self]
  · simp [h, ha]
-- impl_at
theorem impl_at.is {k : Nat} {p : List Int} {i : Int} (hk : 2 ≤ k) (hp : p.length ≤ 1048576) : impl_at k p i = some (Pu.atI p i) := by
  obtain ⟨k, rfl⟩ : ∃ k', k = k' + 1 := ⟨k - 1, by omega⟩
  rw [impl_at.eq, impl_within.is (by omega)]
  unfold Pu.within
  by_cases h1 : 0 ≤ i
  · have h0 : ¬ i < 0 := by omega
    by_cases h2 : i ≤ (p.length : Int) - 1
    · have h4 : i.toNat < p.length := by omega
      simp (disch := omega) only [↓p_test, p_lt, p_le, p_ltN, p_leN, p_eqN, p_len, p_ofN, p_nat, p_rd, p_set, p_app, p_take, p_drop, p_rep, p_wrap, p_add, p_sub, p_no, p_eq, p_eqB, p_eqP, p_bnd_some, Pu.w64, Int.toNat_natCast, decide_eq_true_eq, Int.ofNat_lt, Int.ofNat_le, if_true, if_false, Int.natCast_nonneg, decide_true, decide_false, Bool.not_true, Bool.not_false, Bool.false_eq_true, Bool.not_eq_true, Bool.true_and, Bool.and_true, Bool.false_and, Bool.and_false, h0, h1, h2, h4, Pu.atI]
    · simp (disch := omega) only [↓p_test, p_lt, p_le, p_ltN, p_leN, p_eqN, p_len, p_ofN, p_nat, p_rd, p_set, p_app, p_take, p_drop, p_rep, p_wrap, p_add, p_sub, p_no, p_eq, p_eqB, p_eqP, p_bnd_some, Pu.w64, Int.toNat_natCast, decide_eq_true_eq, Int.ofNat_lt, Int.ofNat_le, if_true, if_false, Int.natCast_nonneg, decide_true, decide_false, Bool.not_true, Bool.not_false, Bool.false_eq_true, Bool.not_eq_true, Bool.true_and, Bool.and_true, Bool.false_and, Bool.and_false, h1, h2, Pu.atI_ge (p := p) (i := i) (by omega)]
  · simp (disch := omega) only [↓p_test, p_lt, p_le, p_ltN, p_leN, p_eqN, p_len, p_ofN, p_nat, p_rd, p_set, p_app, p_take, p_drop, p_rep, p_wrap, p_add, p_sub, p_no, p_eq, p_eqB, p_eqP, p_bnd_some, Pu.w64, Int.toNat_natCast, decide_eq_true_eq, Int.ofNat_lt, Int.ofNat_le, if_true, if_false, Int.natCast_nonneg, decide_true, decide_false, Bool.not_true, Bool.not_false, Bool.false_eq_true, Bool.not_eq_true, Bool.true_and, Bool.and_true, Bool.false_and, Bool.and_false, h1, Pu.atI_neg (p := p) (i := i) (by omega)]
-- impl_IsInside
theorem impl_IsInside.loop {k : Nat} {q p : List Int} (hq : q.length ≤ 1048576) (hp : p.length ≤ 1048576) (hk : 4194304 + 2 ≤ k) : impl_IsInside.L1 k k q.length 0 p q = some ((List.range' 0 q.length).all fun i => decide (q.getD i 0 ≤ p.getD i 0)) := by
  have h := Pu.loop_all (fun j i => impl_IsInside.L1 k j q.length (i : Int) p q) q.length (fun i => decide (q.getD i 0 ≤ p.getD i 0)) (some false) (some true)
    (fun j i hi => by
      rw [impl_IsInside.L1_eq, impl_at.is (by omega) hp, Pu.atI_nat]
      simp (disch := omega) only [↓p_test, p_lt, p_le, p_ltN, p_leN, p_eqN, p_len, p_ofN, p_nat, p_rd, p_set, p_app, p_take, p_drop, p_rep, p_wrap, p_add, p_sub, p_no, p_eq, p_eqB, p_eqP, p_bnd_some, Pu.w64, Int.toNat_natCast, decide_eq_true_eq, Int.ofNat_lt, Int.ofNat_le, if_true, if_false, Int.natCast_nonneg, decide_true, decide_false, Bool.not_true, Bool.not_false, Bool.false_eq_true, Bool.not_eq_true, Bool.true_and, Bool.and_true, Bool.false_and, Bool.and_false, hi, Int.natCast_add, Int.natCast_one]
      by_cases c : q.getD i 0 ≤ p.getD i 0
      · have c' : ¬ p.getD i 0 < q.getD i 0 := by omega
        simp only [c, c', ↓p_test, p_lt, p_le, p_ltN, p_leN, p_eqN, p_len, p_ofN, p_nat, p_rd, p_set, p_app, p_take, p_drop, p_rep, p_wrap, p_add, p_sub, p_no, p_eq, p_eqB, p_eqP, p_bnd_some, Pu.w64, Int.toNat_natCast, decide_eq_true_eq, Int.ofNat_lt, Int.ofNat_le, if_true, if_false, Int.natCast_nonneg, decide_true, decide_false, Bool.not_true, Bool.not_false, Bool.false_eq_true, Bool.not_eq_true, Bool.true_and, Bool.and_true, Bool.false_and, Bool.and_false]
      · have c' : p.getD i 0 < q.getD i 0 := by omega
        simp only [c, c', ↓p_test, p_lt, p_le, p_ltN, p_leN, p_eqN, p_len, p_ofN, p_nat, p_rd, p_set, p_app, p_take, p_drop, p_rep, p_wrap, p_add, p_sub, p_no, p_eq, p_eqB, p_eqP, p_bnd_some, Pu.w64, Int.toNat_natCast, decide_eq_true_eq, Int.ofNat_lt, Int.ofNat_le, if_true, if_false, Int.natCast_nonneg, decide_true, decide_false, Bool.not_true, Bool.not_false, Bool.false_eq_true, Bool.not_eq_true, Bool.true_and, Bool.and_true, Bool.false_and, Bool.and_false])
    (fun j => by
      rw [impl_IsInside.L1_eq]
      simp only [↓p_test, p_lt, p_le, p_ltN, p_leN, p_eqN, p_len, p_ofN, p_nat, p_rd, p_set, p_app, p_take, p_drop, p_rep, p_wrap, p_add, p_sub, p_no, p_eq, p_eqB, p_eqP, p_bnd_some, Pu.w64, Int.toNat_natCast, decide_eq_true_eq, Int.ofNat_lt, Int.ofNat_le, if_true, if_false, Int.natCast_nonneg, decide_true, decide_false, Bool.not_true, Bool.not_false, Bool.false_eq_true, Bool.not_eq_true, Bool.true_and, Bool.and_true, Bool.false_and, Bool.and_false, Nat.lt_irrefl]) q.length k 0 (by omega) (by omega)
  simp only [Int.natCast_zero] at h
  rw [h]
  cases (List.range' 0 q.length).all fun i => decide (q.getD i 0 ≤ p.getD i 0) <;> simp
theorem impl_IsInside.is {k : Nat} {q p : List Int} (hk : 4194304 + 3 ≤ k) (hq : q.length ≤ 1048576) (hp : p.length ≤ 1048576) : impl_IsInside k q p = some (Pu.isInside q p) := by
  obtain ⟨k, rfl⟩ : ∃ k', k = k' + 1 := ⟨k - 1, by omega⟩
  rw [impl_IsInside.eq, impl_IsPartition.is (by omega) hq, p_bnd_some, impl_IsInside.J0_eq, Pu.isInside_eq]
  cases c1 : Pu.isPart q with
  | false => simp only [↓p_test, p_lt, p_le, p_ltN, p_leN, p_eqN, p_len, p_ofN, p_nat, p_rd, p_set, p_app, p_take, p_drop, p_rep, p_wrap, p_add, p_sub, p_no, p_eq, p_eqB, p_eqP, p_bnd_some, Pu.w64, Int.toNat_natCast, decide_eq_true_eq, Int.ofNat_lt, Int.ofNat_le, if_true, if_false, Int.natCast_nonneg, decide_true, decide_false, Bool.not_true, Bool.not_false, Bool.false_eq_true, Bool.not_eq_true, Bool.true_and, Bool.and_true, Bool.false_and, Bool.and_false]
  | true =>
    simp only [↓p_test, p_lt, p_le, p_ltN, p_leN, p_eqN, p_len, p_ofN, p_nat, p_rd, p_set, p_app, p_take, p_drop, p_rep, p_wrap, p_add, p_sub, p_no, p_eq, p_eqB, p_eqP, p_bnd_some, Pu.w64, Int.toNat_natCast, decide_eq_true_eq, Int.ofNat_lt, Int.ofNat_le, if_true, if_false, Int.natCast_nonneg, decide_true, decide_false, Bool.not_true, Bool.not_false, Bool.false_eq_true, Bool.not_eq_true, Bool.true_and, Bool.and_true, Bool.false_and, Bool.and_false]
    rw [impl_IsPartition.is (by omega) hp, p_bnd_some]
    cases c2 : Pu.isPart p with
    | false => simp only [↓p_test, p_lt, p_le, p_ltN, p_leN, p_eqN, p_len, p_ofN, p_nat, p_rd, p_set, p_app, p_take, p_drop, p_rep, p_wrap, p_add, p_sub, p_no, p_eq, p_eqB, p_eqP, p_bnd_some, Pu.w64, Int.toNat_natCast, decide_eq_true_eq, Int.ofNat_lt, Int.ofNat_le, if_true, if_false, Int.natCast_nonneg, decide_true, decide_false, Bool.not_true, Bool.not_false, Bool.false_eq_true, Bool.not_eq_true, Bool.true_and, Bool.and_true, Bool.false_and, Bool.and_false]
    | true =>
      simp only [↓p_test, p_lt, p_le, p_ltN, p_leN, p_eqN, p_len, p_ofN, p_nat, p_rd, p_set, p_app, p_take, p_drop, p_rep, p_wrap, p_add, p_sub, p_no, p_eq, p_eqB, p_eqP, p_bnd_some, Pu.w64, Int.toNat_natCast, decide_eq_true_eq, Int.ofNat_lt, Int.ofNat_le, if_true, if_false, Int.natCast_nonneg, decide_true, decide_false, Bool.not_true, Bool.not_false, Bool.false_eq_true, Bool.not_eq_true, Bool.true_and, Bool.and_true, Bool.false_and, Bool.and_false]
      exact impl_IsInside.loop hq hp (by omega)
-- impl_IsShape
theorem impl_IsShape.is {k : Nat} {s : List Int × List Int} (hk : 4194304 + 4 ≤ k) (hq : s.1.length ≤ 1048576) (hp : s.2.length ≤ 1048576) : impl_IsShape k s = some (Pu.isInside s.2 s.1) := by
  obtain ⟨k, rfl⟩ : ∃ k', k = k' + 1 := ⟨k - 1, by omega⟩
  rw [impl_IsShape.eq, impl_IsInside.is (by omega) hp hq]
  rfl
-- impl_ShapeOf
theorem impl_ShapeOf.loop {k : Nat} {t : Pu.Tab} {x3 x4 : List Int} (hk : 4194304 + 4 ≤ k) (hi : Pu.isPart t.1 = true) (h2 : t.2.length ≤ 1048576) (hr : ∀ x ∈ t.2, x.length ≤ 1048576) : ∀ (m j i : Nat) (acc : List Int), i + m = t.2.length → m < j → acc.length = i →
    impl_ShapeOf.L1 k j t.2.length i t.2 t.1 x3 x4 acc t.1 = some (if Pu.isInside t.1 (acc ++ Pu.outerGo t.1 i (t.2.drop i)) = true then ((acc ++ Pu.outerGo t.1 i (t.2.drop i), t.1), true) else (([], []), false))
  | m, 0, i, acc, _, hj, _ => by omega
  | 0, j + 1, i, acc, hm, _, hacc => by
    rw [impl_ShapeOf.L1_eq]
    have e : i = t.2.length := by omega
    have h9 := (Pu.isPart_spec hi).2.2.1
    have hlt : ¬ i < t.2.length := by omega
    rw [impl_IsShape.is (by omega) (by simp only; omega) (by simp only; omega), e]
    simp only [↓p_test, p_lt, p_le, p_ltN, p_leN, p_eqN, p_len, p_ofN, p_nat, p_rd, p_set, p_app, p_take, p_drop, p_rep, p_wrap, p_add, p_sub, p_no, p_eq, p_eqB, p_eqP, p_bnd_some, Pu.w64, Int.toNat_natCast, decide_eq_true_eq, Int.ofNat_lt, Int.ofNat_le, if_true, if_false, Int.natCast_nonneg, decide_true, decide_false, Bool.not_true, Bool.not_false, Bool.false_eq_true, Bool.not_eq_true, Bool.true_and, Bool.and_true, Bool.false_and, Bool.and_false, Nat.lt_irrefl, List.drop_length, Pu.outerGo, List.append_nil]
    cases Pu.isInside t.1 acc <;> simp
  | m + 1, j + 1, i, acc, hm, hj, hacc => by
    rw [impl_ShapeOf.L1_eq]
    have hlt : i < t.2.length := by omega
    have hb := Pu.part_atI hi i
    have h9 := (Pu.isPart_spec hi).2.2.1
    have hrow := hr t.2[i] (List.getElem_mem hlt)
    rw [← Pu.getD_lt hlt []] at hrow
    rw [impl_at.is (by omega) (by omega)]
    have ih := impl_ShapeOf.loop (x3 := x3) (x4 := x4) hk hi h2 hr m j (i + 1) (acc ++ [Pu.atI t.1 i + (t.2.getD i []).length]) (by omega) (by omega) (by simp [hacc])
    rw [Int.natCast_succ] at ih
    rw [Pu.drop_cons hlt []]
    have hl : (acc ++ [Pu.atI t.1 i + ((t.2.getD i []).length : Int)]).length ≤ 1099511627776 := by simp; omega
    simp (disch := omega) only [↓p_test, p_lt, p_le, p_ltN, p_leN, p_eqN, p_len, p_ofN, p_nat, p_rd, p_set, p_app, p_take, p_drop, p_rep, p_wrap, p_add, p_sub, p_no, p_eq, p_eqB, p_eqP, p_bnd_some, Pu.w64, Int.toNat_natCast, decide_eq_true_eq, Int.ofNat_lt, Int.ofNat_le, if_true, if_false, Int.natCast_nonneg, decide_true, decide_false, Bool.not_true, Bool.not_false, Bool.false_eq_true, Bool.not_eq_true, Bool.true_and, Bool.and_true, Bool.false_and, Bool.and_false, hlt, hl, ih, Pu.outerGo]
    simp only [List.append_assoc, List.singleton_append, Pu.atI_nat]
    rfl
theorem impl_ShapeOf.is {k : Nat} {t : Pu.Tab} (hk : 4194304 + 5 ≤ k) (h1 : t.1.length ≤ 1048576) (h2 : t.2.length ≤ 1048576) (hr : ∀ x ∈ t.2, x.length ≤ 1048576) : impl_ShapeOf k t = some (Pu.shapeOf t) := by
  obtain ⟨k, rfl⟩ : ∃ k', k = k' + 1 := ⟨k - 1, by omega⟩
  rw [impl_ShapeOf.eq, impl_IsPartition.is (by omega) h1, impl_ShapeOf.J0_eq, slices_Clone__int_int.is (by omega) (by omega)]
  simp only [↓p_test, p_lt, p_le, p_ltN, p_leN, p_eqN, p_len, p_ofN, p_nat, p_rd, p_set, p_app, p_take, p_drop, p_rep, p_wrap, p_add, p_sub, p_no, p_eq, p_eqB, p_eqP, p_bnd_some, Pu.w64, Int.toNat_natCast, decide_eq_true_eq, Int.ofNat_lt, Int.ofNat_le, if_true, if_false, Int.natCast_nonneg, decide_true, decide_false, Bool.not_true, Bool.not_false, Bool.false_eq_true, Bool.not_eq_true, Bool.true_and, Bool.and_true, Bool.false_and, Bool.and_false]
  unfold Pu.shapeOf
  cases c1 : Pu.isPart t.1 with
  | false =>
    have : Pu.shapeOK t = false := by unfold Pu.shapeOK; rw [c1]; rfl
    simp only [this, ↓p_test, p_lt, p_le, p_ltN, p_leN, p_eqN, p_len, p_ofN, p_nat, p_rd, p_set, p_app, p_take, p_drop, p_rep, p_wrap, p_add, p_sub, p_no, p_eq, p_eqB, p_eqP, p_bnd_some, Pu.w64, Int.toNat_natCast, decide_eq_true_eq, Int.ofNat_lt, Int.ofNat_le, if_true, if_false, Int.natCast_nonneg, decide_true, decide_false, Bool.not_true, Bool.not_false, Bool.false_eq_true, Bool.not_eq_true, Bool.true_and, Bool.and_true, Bool.false_and, Bool.and_false]
  | true =>
    by_cases c2 : t.2.length < t.1.length
    · have : Pu.shapeOK t = false := by
        have : ¬ t.1.length ≤ t.2.length := by omega
        unfold Pu.shapeOK; simp [this]
      simp only [this, c2, ↓p_test, p_lt, p_le, p_ltN, p_leN, p_eqN, p_len, p_ofN, p_nat, p_rd, p_set, p_app, p_take, p_drop, p_rep, p_wrap, p_add, p_sub, p_no, p_eq, p_eqB, p_eqP, p_bnd_some, Pu.w64, Int.toNat_natCast, decide_eq_true_eq, Int.ofNat_lt, Int.ofNat_le, if_true, if_false, Int.natCast_nonneg, decide_true, decide_false, Bool.not_true, Bool.not_false, Bool.false_eq_true, Bool.not_eq_true, Bool.true_and, Bool.and_true, Bool.false_and, Bool.and_false]
    · have c2' : t.1.length ≤ t.2.length := by omega
      have hloop := impl_ShapeOf.loop (k := k) (t := t) (x3 := []) (x4 := []) (by omega) c1 h2 hr t.2.length k 0 [] (by omega) (by omega) rfl
      rw [Int.natCast_zero] at hloop
      simp only [c2, ↓p_test, p_lt, p_le, p_ltN, p_leN, p_eqN, p_len, p_ofN, p_nat, p_rd, p_set, p_app, p_take, p_drop, p_rep, p_wrap, p_add, p_sub, p_no, p_eq, p_eqB, p_eqP, p_bnd_some, Pu.w64, Int.toNat_natCast, decide_eq_true_eq, Int.ofNat_lt, Int.ofNat_le, if_true, if_false, Int.natCast_nonneg, decide_true, decide_false, Bool.not_true, Bool.not_false, Bool.false_eq_true, Bool.not_eq_true, Bool.true_and, Bool.and_true, Bool.false_and, Bool.and_false]
      rw [hloop]
      have : Pu.shapeOK t = Pu.isInside t.1 (Pu.outer t) := by unfold Pu.shapeOK; simp [c1, c2']
      rw [this]
      rfl
-- impl_Tableau_entry
theorem impl_Tableau_entry.is {k : Nat} {t : Pu.Tab} {r c : Int} (hk : 3 ≤ k) (hi : Pu.isPart t.1 = true) (ht : t.2.length ≤ 1048576) (hr : ∀ x ∈ t.2, x.length ≤ 1048576) (h1 : -1000000000 ≤ c) (h2 : c ≤ 1000000000) : impl_Tableau_entry k t r c = some (Pu.entry t r c) := by
  obtain ⟨k, rfl⟩ : ∃ k', k = k' + 1 := ⟨k - 1, by omega⟩
  have hb := Pu.part_atI hi r
  have h9 := (Pu.isPart_spec hi).2.2.1
  rw [impl_Tableau_entry.eq, impl_within.is (by omega)]
  unfold Pu.entry Pu.within
  by_cases c1 : r < 0
  · have c1' : ¬ 0 ≤ r := by omega
    simp (disch := omega) only [↓p_test, p_lt, p_le, p_ltN, p_leN, p_eqN, p_len, p_ofN, p_nat, p_rd, p_set, p_app, p_take, p_drop, p_rep, p_wrap, p_add, p_sub, p_no, p_eq, p_eqB, p_eqP, p_bnd_some, Pu.w64, Int.toNat_natCast, decide_eq_true_eq, Int.ofNat_lt, Int.ofNat_le, if_true, if_false, Int.natCast_nonneg, decide_true, decide_false, Bool.not_true, Bool.not_false, Bool.false_eq_true, Bool.not_eq_true, Bool.true_and, Bool.and_true, Bool.false_and, Bool.and_false, c1, c1']
  · have c3 : 0 ≤ r := by omega
    by_cases c2 : (t.2.length : Int) ≤ r
    · have c2' : ¬ r ≤ (t.2.length : Int) - 1 := by omega
      simp (disch := omega) only [↓p_test, p_lt, p_le, p_ltN, p_leN, p_eqN, p_len, p_ofN, p_nat, p_rd, p_set, p_app, p_take, p_drop, p_rep, p_wrap, p_add, p_sub, p_no, p_eq, p_eqB, p_eqP, p_bnd_some, Pu.w64, Int.toNat_natCast, decide_eq_true_eq, Int.ofNat_lt, Int.ofNat_le, if_true, if_false, Int.natCast_nonneg, decide_true, decide_false, Bool.not_true, Bool.not_false, Bool.false_eq_true, Bool.not_eq_true, Bool.true_and, Bool.and_true, Bool.false_and, Bool.and_false, c1, c3, c2, c2']
    · have c2' : r ≤ (t.2.length : Int) - 1 := by omega
      have c4 : r.toNat < t.2.length := by omega
      have hx := hr _ (List.getElem_mem c4)
      rw [← Pu.getD_lt c4 []] at hx
      simp (disch := omega) only [↓p_test, p_lt, p_le, p_ltN, p_leN, p_eqN, p_len, p_ofN, p_nat, p_rd, p_set, p_app, p_take, p_drop, p_rep, p_wrap, p_add, p_sub, p_no, p_eq, p_eqB, p_eqP, p_bnd_some, Pu.w64, Int.toNat_natCast, decide_eq_true_eq, Int.ofNat_lt, Int.ofNat_le, if_true, if_false, Int.natCast_nonneg, decide_true, decide_false, Bool.not_true, Bool.not_false, Bool.false_eq_true, Bool.not_eq_true, Bool.true_and, Bool.and_true, Bool.false_and, Bool.and_false, c1, c2, c2', c3, c4, impl_at.is]
-- impl_IsTableau
theorem impl_IsTableau.inner {k k1 : Nat} {t : Pu.Tab} {r : Nat} (hk : 4194304 ≤ k) (hi : Pu.isPart t.1 = true) (ht : t.2.length ≤ 1048576) (hr : ∀ x ∈ t.2, x.length ≤ 1048576) (hlt : r < t.2.length) (n : Int) :
    impl_IsTableau.L1 k k1 k r r n r r (t.2.getD r []).length 0 t.2 t.1 = if ((List.range' 0 (t.2.getD r []).length).all fun q => Pu.cellOK t r q) = true then impl_IsTableau.L0 k k1 n ((r : Int) + 1) t.2 t.1 else some false := by
  have hx := hr _ (List.getElem_mem hlt)
  rw [← Pu.getD_lt hlt []] at hx
  have hb := Pu.part_atI hi r
  have h9 := (Pu.isPart_spec hi).2.2.1
  have h := Pu.loop_all (fun j q => impl_IsTableau.L1 k k1 j r r n r r (t.2.getD r []).length (q : Int) t.2 t.1) (t.2.getD r []).length (fun q => Pu.cellOK t r q) (some false) (impl_IsTableau.L0 k k1 n ((r : Int) + 1) t.2 t.1)
    (fun j q hq => by
      have e3 := impl_Tableau_entry.is (k := k) (t := t) (r := (r : Int) - 1) (c := t.1.getD r 0 + q) (by omega) hi ht hr (by rw [Pu.atI_nat] at hb; omega) (by rw [Pu.atI_nat] at hb; omega)
      have ea := impl_at.is (k := k) (p := t.1) (i := r) (by omega) (by omega)
      rw [Pu.atI_nat] at ea
      rw [Pu.atI_nat] at hb
      rw [impl_IsTableau.L1_eq]
      simp (maxSteps := 10000000) (disch := omega) only [↓p_test, p_lt, p_le, p_ltN, p_leN, p_eqN, p_len, p_ofN, p_nat, p_rd, p_set, p_app, p_take, p_drop, p_rep, p_wrap, p_add, p_sub, p_no, p_eq, p_eqB, p_eqP, p_bnd_some, Pu.w64, Int.toNat_natCast, decide_eq_true_eq, Int.ofNat_lt, Int.ofNat_le, if_true, if_false, Int.natCast_nonneg, decide_true, decide_false, Bool.not_true, Bool.not_false, Bool.false_eq_true, Bool.not_eq_true, Bool.true_and, Bool.and_true, Bool.false_and, Bool.and_false, hlt, hq, impl_within.is, ea, e3, impl_IsTableau.J2_eq, Int.natCast_add, Int.natCast_one]
      unfold Pu.cellOK
      generalize hx0 : (t.2.getD r []).getD q 0 = x at *
      cases Pu.within x 1 9 with
      | false => simp
      | true =>
        -- above
        have up : (if (0 : Int) < r then (if x ≤ Pu.entry t ((r : Int) - 1) (t.1.getD r 0 + q) then some false else impl_IsTableau.L1 k k1 j r r n r r (t.2.getD r []).length ((q : Int) + 1) t.2 t.1) else impl_IsTableau.L1 k k1 j r r n r r (t.2.getD r []).length ((q : Int) + 1) t.2 t.1) =
            if (decide (r = 0) || decide (Pu.entry t ((r : Int) - 1) (t.1.getD r 0 + q) < x)) = true then impl_IsTableau.L1 k k1 j r r n r r (t.2.getD r []).length ((q : Int) + 1) t.2 t.1 else some false := by
          by_cases e : r = 0
          · subst e; simp
          · have e' : (0 : Int) < r := by omega
            by_cases c : x ≤ Pu.entry t ((r : Int) - 1) (t.1.getD r 0 + q)
            · have c' : ¬ Pu.entry t ((r : Int) - 1) (t.1.getD r 0 + q) < x := by omega
              simp only [e', c, c', e, if_true, if_false, decide_false, Bool.or_false, Bool.false_eq_true]
            · have c' : Pu.entry t ((r : Int) - 1) (t.1.getD r 0 + q) < x := by omega
              simp only [e', c, c', e, if_true, if_false, decide_true, decide_false, Bool.false_or]
        by_cases e : q = 0
        · have e' : ¬ (0 : Int) < q := by omega
          simp only [e', e, ↓p_test, p_lt, p_le, p_ltN, p_leN, p_eqN, p_len, p_ofN, p_nat, p_rd, p_set, p_app, p_take, p_drop, p_rep, p_wrap, p_add, p_sub, p_no, p_eq, p_eqB, p_eqP, p_bnd_some, Pu.w64, Int.toNat_natCast, decide_eq_true_eq, Int.ofNat_lt, Int.ofNat_le, if_true, if_false, Int.natCast_nonneg, decide_true, decide_false, Bool.not_true, Bool.not_false, Bool.false_eq_true, Bool.not_eq_true, Bool.true_and, Bool.and_true, Bool.false_and, Bool.and_false, Bool.true_or]
          rw [e] at up
          exact up
        · have e' : (0 : Int) < q := by omega
          have eq : (q : Int) - 1 = ((q - 1 : Nat) : Int) := by omega
          have hq' : q - 1 < (t.2.getD r []).length := by omega
          simp (disch := omega) only [e', e, ↓p_test, p_lt, p_le, p_ltN, p_leN, p_eqN, p_len, p_ofN, p_nat, p_rd, p_set, p_app, p_take, p_drop, p_rep, p_wrap, p_add, p_sub, p_no, p_eq, p_eqB, p_eqP, p_bnd_some, Pu.w64, Int.toNat_natCast, decide_eq_true_eq, Int.ofNat_lt, Int.ofNat_le, if_true, if_false, Int.natCast_nonneg, decide_true, decide_false, Bool.not_true, Bool.not_false, Bool.false_eq_true, Bool.not_eq_true, Bool.true_and, Bool.and_true, Bool.false_and, Bool.and_false, eq, hq', Bool.false_or]
          by_cases c : x < (t.2.getD r []).getD (q - 1) 0
          · have c' : ¬ (t.2.getD r []).getD (q - 1) 0 ≤ x := by omega
            simp only [c, c', ↓p_test, p_lt, p_le, p_ltN, p_leN, p_eqN, p_len, p_ofN, p_nat, p_rd, p_set, p_app, p_take, p_drop, p_rep, p_wrap, p_add, p_sub, p_no, p_eq, p_eqB, p_eqP, p_bnd_some, Pu.w64, Int.toNat_natCast, decide_eq_true_eq, Int.ofNat_lt, Int.ofNat_le, if_true, if_false, Int.natCast_nonneg, decide_true, decide_false, Bool.not_true, Bool.not_false, Bool.false_eq_true, Bool.not_eq_true, Bool.true_and, Bool.and_true, Bool.false_and, Bool.and_false]
          · have c' : (t.2.getD r []).getD (q - 1) 0 ≤ x := by omega
            simp only [c, c', ↓p_test, p_lt, p_le, p_ltN, p_leN, p_eqN, p_len, p_ofN, p_nat, p_rd, p_set, p_app, p_take, p_drop, p_rep, p_wrap, p_add, p_sub, p_no, p_eq, p_eqB, p_eqP, p_bnd_some, Pu.w64, Int.toNat_natCast, decide_eq_true_eq, Int.ofNat_lt, Int.ofNat_le, if_true, if_false, Int.natCast_nonneg, decide_true, decide_false, Bool.not_true, Bool.not_false, Bool.false_eq_true, Bool.not_eq_true, Bool.true_and, Bool.and_true, Bool.false_and, Bool.and_false]
            exact up)
    (fun j => by
      rw [impl_IsTableau.L1_eq]
      simp (maxSteps := 10000000) (disch := omega) only [↓p_test, p_lt, p_le, p_ltN, p_leN, p_eqN, p_len, p_ofN, p_nat, p_rd, p_set, p_app, p_take, p_drop, p_rep, p_wrap, p_add, p_sub, p_no, p_eq, p_eqB, p_eqP, p_bnd_some, Pu.w64, Int.toNat_natCast, decide_eq_true_eq, Int.ofNat_lt, Int.ofNat_le, if_true, if_false, Int.natCast_nonneg, decide_true, decide_false, Bool.not_true, Bool.not_false, Bool.false_eq_true, Bool.not_eq_true, Bool.true_and, Bool.and_true, Bool.false_and, Bool.and_false, Nat.lt_irrefl]) (t.2.getD r []).length k 0 (by omega) (by omega)
  simp only [Int.natCast_zero] at h
  exact h
theorem impl_IsTableau.is {k : Nat} {t : Pu.Tab} (hk : 4194304 + 6 ≤ k) (h1 : t.1.length ≤ 1048576) (ht : t.2.length ≤ 1048576) (hr : ∀ x ∈ t.2, x.length ≤ 1048576) : impl_IsTableau k t = some (Pu.isTab t) := by
  obtain ⟨k, rfl⟩ : ∃ k', k = k' + 1 := ⟨k - 1, by omega⟩
  rw [impl_IsTableau.eq, impl_ShapeOf.is (by omega) h1 ht hr, p_bnd_some]
  unfold Pu.isTab Pu.shapeOf
  cases hs : Pu.shapeOK t with
  | false => simp [hs]
  | true =>
    have hi : Pu.isPart t.1 = true := by
      simp only [Pu.shapeOK, Bool.and_eq_true] at hs; exact hs.1
    have h := Pu.loop_all (fun j r => impl_IsTableau.L0 k j t.2.length r t.2 t.1) t.2.length (fun r => (List.range' 0 (t.2.getD r []).length).all fun q => Pu.cellOK t r q) (some false) (some true)
      (fun j r hlt => by
        rw [impl_IsTableau.L0_eq]
        simp (disch := omega) only [↓p_test, p_lt, p_le, p_ltN, p_leN, p_eqN, p_len, p_ofN, p_nat, p_rd, p_set, p_app, p_take, p_drop, p_rep, p_wrap, p_add, p_sub, p_no, p_eq, p_eqB, p_eqP, p_bnd_some, Pu.w64, Int.toNat_natCast, decide_eq_true_eq, Int.ofNat_lt, Int.ofNat_le, if_true, if_false, Int.natCast_nonneg, decide_true, decide_false, Bool.not_true, Bool.not_false, Bool.false_eq_true, Bool.not_eq_true, Bool.true_and, Bool.and_true, Bool.false_and, Bool.and_false, hlt, impl_IsTableau.inner (k1 := j) (show 4194304 ≤ k by omega) hi ht hr hlt, Int.natCast_add, Int.natCast_one])
      (fun j => by
        rw [impl_IsTableau.L0_eq]
        simp (disch := omega) only [↓p_test, p_lt, p_le, p_ltN, p_leN, p_eqN, p_len, p_ofN, p_nat, p_rd, p_set, p_app, p_take, p_drop, p_rep, p_wrap, p_add, p_sub, p_no, p_eq, p_eqB, p_eqP, p_bnd_some, Pu.w64, Int.toNat_natCast, decide_eq_true_eq, Int.ofNat_lt, Int.ofNat_le, if_true, if_false, Int.natCast_nonneg, decide_true, decide_false, Bool.not_true, Bool.not_false, Bool.false_eq_true, Bool.not_eq_true, Bool.true_and, Bool.and_true, Bool.false_and, Bool.and_false, Nat.lt_irrefl]) t.2.length k 0 (by omega) (by omega)
    simp only [Int.natCast_zero] at h
    simp only [if_true, ↓p_test, p_lt, p_le, p_ltN, p_leN, p_eqN, p_len, p_ofN, p_nat, p_rd, p_set, p_app, p_take, p_drop, p_rep, p_wrap, p_add, p_sub, p_no, p_eq, p_eqB, p_eqP, p_bnd_some, Pu.w64, Int.toNat_natCast, decide_eq_true_eq, Int.ofNat_lt, Int.ofNat_le, if_true, if_false, Int.natCast_nonneg, decide_true, decide_false, Bool.not_true, Bool.not_false, Bool.false_eq_true, Bool.not_eq_true, Bool.true_and, Bool.and_true, Bool.false_and, Bool.and_false]
    rw [h]
    cases (List.range' 0 t.2.length).all fun r => (List.range' 0 (t.2.getD r []).length).all fun q => Pu.cellOK t r q <;> simp
-- impl_isPlain
theorem impl_isPlain.is {k : Nat} {t : Pu.Tab} (hk : 4194304 + 7 ≤ k) (h1 : t.1.length ≤ 1048576) (ht : t.2.length ≤ 1048576) (hr : ∀ x ∈ t.2, x.length ≤ 1048576) : impl_isPlain k t = some (Pu.isPlain t) := by
  obtain ⟨k, rfl⟩ : ∃ k', k = k' + 1 := ⟨k - 1, by omega⟩
  rw [impl_isPlain.eq, impl_IsTableau.is (by omega) h1 ht hr, p_bnd_some]
  unfold Pu.isPlain
  by_cases h : t.1.length = 0 <;> simp [h]
-- slices_Concat__int_int
theorem slices_Concat__int_int.app {k : Nat} {a : List (List Int)} (ha : a.length ≤ 1048576) (hf : a.flatten.length ≤ 1099511627776) : ∀ (m j i : Nat), i + m = a.length → m < j →
    slices_Concat__int_int.L4 k j a.length i (a.take i).flatten a = some a.flatten
  | m, 0, i, _, hj => by omega
  | 0, j + 1, i, hm, _ => by
    rw [slices_Concat__int_int.L4_eq]
    have e : i = a.length := by omega
    subst e
    simp
  | m + 1, j + 1, i, hm, hj => by
    rw [slices_Concat__int_int.L4_eq]
    have hlt : i < a.length := by omega
    have ih := slices_Concat__int_int.app (k := k) ha hf m j (i + 1) (by omega) (by omega)
    rw [Int.natCast_succ, Pu.take_succ hlt []] at ih
    have hl : ((a.take i).flatten ++ a.getD i []).length ≤ 1099511627776 := by
      refine Nat.le_trans ?_ hf
      have e : a.flatten = (a.take i).flatten ++ (a.drop i).flatten := by rw [← List.flatten_append, List.take_append_drop]
      rw [e, Pu.drop_cons hlt []]
      simp only [List.flatten_cons, List.length_append]
      omega
    simp only [List.flatten_append, List.flatten_cons, List.flatten_nil, List.append_nil] at ih
    simp (disch := omega) only [↓p_test, p_lt, p_le, p_ltN, p_leN, p_eqN, p_len, p_ofN, p_nat, p_rd, p_set, p_app, p_take, p_drop, p_rep, p_wrap, p_add, p_sub, p_no, p_eq, p_eqB, p_eqP, p_bnd_some, Pu.w64, Int.toNat_natCast, decide_eq_true_eq, Int.ofNat_lt, Int.ofNat_le, if_true, if_false, Int.natCast_nonneg, decide_true, decide_false, Bool.not_true, Bool.not_false, Bool.false_eq_true, Bool.not_eq_true, Bool.true_and, Bool.and_true, Bool.false_and, Bool.and_false, hlt, hl, ih]
theorem slices_Concat__int_int.tail {k : Nat} {a : List (List Int)} {y : List Int} (hk : 4194304 ≤ k) (ha : a.length ≤ 1048576) (hf : a.flatten.length ≤ 1099511627776) : slices_Concat__int_int.L3 k (HAdd.hAdd k 1) 0 0 a.length 0 y a = some a.flatten := by
  rw [slices_Concat__int_int.L3_eq]
  by_cases h0 : a.length = 0
  · have : a = [] := List.eq_nil_of_length_eq_zero h0
    subst this
    simp
  · have hlt : 0 < a.length := by omega
    have h := slices_Concat__int_int.app (k := k) ha hf (a.length - 1) k 1 (by omega) (by omega)
    have e : (a.take 1).flatten = a.getD 0 [] := by rw [Pu.take_succ hlt []]; simp
    rw [e] at h
    have hl : (a.getD 0 []).length ≤ 1099511627776 := by
      refine Nat.le_trans ?_ hf
      have e2 : a.flatten = (a.take 1).flatten ++ (a.drop 1).flatten := by rw [← List.flatten_append, List.take_append_drop]
      rw [e2, e]
      simp
    have hlt' : (0 : Int) < a.length := by omega
    simp (disch := omega) only [↓p_test, p_lt, p_le, p_ltN, p_leN, p_eqN, p_len, p_ofN, p_nat, p_rd, p_set, p_app, p_take, p_drop, p_rep, p_wrap, p_add, p_sub, p_no, p_eq, p_eqB, p_eqP, p_bnd_some, Pu.w64, Int.toNat_natCast, decide_eq_true_eq, Int.ofNat_lt, Int.ofNat_le, if_true, if_false, Int.natCast_nonneg, decide_true, decide_false, Bool.not_true, Bool.not_false, Bool.false_eq_true, Bool.not_eq_true, Bool.true_and, Bool.and_true, Bool.false_and, Bool.and_false, hlt, hlt', hl, List.take_zero, List.nil_append, Int.toNat_zero, Int.zero_add]
    simpa using h
theorem slices_Concat__int_int.loop {k : Nat} {a : List (List Int)} (hk : 4194304 ≤ k) (ha : a.length ≤ 1048576) (hf : a.flatten.length ≤ 1099511627776) : ∀ (m j i : Nat), i + m = a.length → m < j →
    slices_Concat__int_int.L0 k j (a.take i).flatten.length a.length i a = some a.flatten
  | m, 0, i, _, hj => by omega
  | 0, j + 1, i, hm, _ => by
    rw [slices_Concat__int_int.L0_eq, slices_Concat__int_int.J2_eq]
    have e : i = a.length := by omega
    subst e
    rw [List.take_length]
    have hn : ¬ ((a.flatten.length : Nat) : Int) < 0 := by omega
    simp (disch := omega) only [↓p_test, p_lt, p_le, p_ltN, p_leN, p_eqN, p_len, p_ofN, p_nat, p_rd, p_set, p_app, p_take, p_drop, p_rep, p_wrap, p_add, p_sub, p_no, p_eq, p_eqB, p_eqP, p_bnd_some, Pu.w64, Int.toNat_natCast, decide_eq_true_eq, Int.ofNat_lt, Int.ofNat_le, if_true, if_false, Int.natCast_nonneg, decide_true, decide_false, Bool.not_true, Bool.not_false, Bool.false_eq_true, Bool.not_eq_true, Bool.true_and, Bool.and_true, Bool.false_and, Bool.and_false, Nat.lt_irrefl, hn, Int.sub_zero, Int.sub_self]
    by_cases h0 : a.flatten.length = 0
    · have h0' : ¬ (0 : Int) < (a.flatten.length : Nat) := by omega
      have h := slices_Concat__int_int.app (k := k) ha hf a.length (k + 1) 0 (by omega) (by omega)
      simp only [h0', ↓p_test, p_lt, p_le, p_ltN, p_leN, p_eqN, p_len, p_ofN, p_nat, p_rd, p_set, p_app, p_take, p_drop, p_rep, p_wrap, p_add, p_sub, p_no, p_eq, p_eqB, p_eqP, p_bnd_some, Pu.w64, Int.toNat_natCast, decide_eq_true_eq, Int.ofNat_lt, Int.ofNat_le, if_true, if_false, Int.natCast_nonneg, decide_true, decide_false, Bool.not_true, Bool.not_false, Bool.false_eq_true, Bool.not_eq_true, Bool.true_and, Bool.and_true, Bool.false_and, Bool.and_false]
      simpa using h
    · have h0' : (0 : Int) < (a.flatten.length : Nat) := by omega
      have h1 : (1 : Int) ≤ (a.flatten.length : Nat) := by omega
      simp (disch := omega) only [h0', h1, hf, ↓p_test, p_lt, p_le, p_ltN, p_leN, p_eqN, p_len, p_ofN, p_nat, p_rd, p_set, p_app, p_take, p_drop, p_rep, p_wrap, p_add, p_sub, p_no, p_eq, p_eqB, p_eqP, p_bnd_some, Pu.w64, Int.toNat_natCast, decide_eq_true_eq, Int.ofNat_lt, Int.ofNat_le, if_true, if_false, Int.natCast_nonneg, decide_true, decide_false, Bool.not_true, Bool.not_false, Bool.false_eq_true, Bool.not_eq_true, Bool.true_and, Bool.and_true, Bool.false_and, Bool.and_false, Int.toNat_zero, Nat.le_refl, Int.le_refl, List.length_replicate, Nat.zero_le, p_subN, Nat.sub_self]
      exact slices_Concat__int_int.tail hk ha hf
  | m + 1, j + 1, i, hm, hj => by
    rw [slices_Concat__int_int.L0_eq]
    have hlt : i < a.length := by omega
    have ih := slices_Concat__int_int.loop (k := k) hk ha hf m j (i + 1) (by omega) (by omega)
    rw [Int.natCast_succ, Pu.take_succ hlt []] at ih
    have hl : ((a.take i).flatten ++ a.getD i []).length ≤ 1099511627776 := by
      refine Nat.le_trans ?_ hf
      have e : a.flatten = (a.take i).flatten ++ (a.drop i).flatten := by rw [← List.flatten_append, List.take_append_drop]
      rw [e, Pu.drop_cons hlt []]
      simp only [List.flatten_cons, List.length_append]
      omega
    simp only [List.flatten_append, List.flatten_cons, List.flatten_nil, List.append_nil, List.length_append, Int.natCast_add] at ih hl
    have hn : ¬ (((a.take i).flatten.length : Int) + (a.getD i []).length < 0) := by omega
    simp (disch := omega) only [↓p_test, p_lt, p_le, p_ltN, p_leN, p_eqN, p_len, p_ofN, p_nat, p_rd, p_set, p_app, p_take, p_drop, p_rep, p_wrap, p_add, p_sub, p_no, p_eq, p_eqB, p_eqP, p_bnd_some, Pu.w64, Int.toNat_natCast, decide_eq_true_eq, Int.ofNat_lt, Int.ofNat_le, if_true, if_false, Int.natCast_nonneg, decide_true, decide_false, Bool.not_true, Bool.not_false, Bool.false_eq_true, Bool.not_eq_true, Bool.true_and, Bool.and_true, Bool.false_and, Bool.and_false, hlt, hn, slices_Concat__int_int.J1_eq, ih]
theorem slices_Concat__int_int.is {k : Nat} {a : List (List Int)} (hk : 4194304 + 2 ≤ k) (ha : a.length ≤ 1048576) (hf : a.flatten.length ≤ 1099511627776) : slices_Concat__int_int k a = some a.flatten := by
  obtain ⟨k, rfl⟩ : ∃ k', k = k' + 2 := ⟨k - 2, by omega⟩
  rw [slices_Concat__int_int.eq]
  exact slices_Concat__int_int.loop (k := k) (by omega) ha hf a.length (k + 1) 0 (by omega) (by omega)
-- impl_Tableau_own
theorem impl_Tableau_own.loop {k : Nat} {t : Pu.Tab} {x3 x4 : List Int} {x5 : List (List Int)} (hk : 1 ≤ k) (ht : t.2.length ≤ 1048576) (hr : ∀ x ∈ t.2, x.length ≤ 1048576) : ∀ (m j i : Nat), i + m = t.2.length → m < j →
    impl_Tableau_own.L0 k j t.2.length i t.2 x3 x5 x4 (t.2.take i) = some (x4, t.2)
  | m, 0, i, _, hj => by omega
  | 0, j + 1, i, hm, _ => by
    rw [impl_Tableau_own.L0_eq]
    have e : i = t.2.length := by omega
    subst e
    simp
  | m + 1, j + 1, i, hm, hj => by
    rw [impl_Tableau_own.L0_eq]
    have hlt : i < t.2.length := by omega
    have hx := hr _ (List.getElem_mem hlt)
    rw [← Pu.getD_lt hlt []] at hx
    have ih := impl_Tableau_own.loop (k := k) (x3 := x3) (x4 := x4) (x5 := x5) hk ht hr m j (i + 1) (by omega) (by omega)
    rw [Int.natCast_succ, Pu.take_succ hlt []] at ih
    have hl : (t.2.take i ++ [t.2.getD i []]).length ≤ 1099511627776 := by simp; omega
    simp (disch := omega) only [↓p_test, p_lt, p_le, p_ltN, p_leN, p_eqN, p_len, p_ofN, p_nat, p_rd, p_set, p_app, p_take, p_drop, p_rep, p_wrap, p_add, p_sub, p_no, p_eq, p_eqB, p_eqP, p_bnd_some, Pu.w64, Int.toNat_natCast, decide_eq_true_eq, Int.ofNat_lt, Int.ofNat_le, if_true, if_false, Int.natCast_nonneg, decide_true, decide_false, Bool.not_true, Bool.not_false, Bool.false_eq_true, Bool.not_eq_true, Bool.true_and, Bool.and_true, Bool.false_and, Bool.and_false, hlt, hl, slices_Clone__int_int.is, ih]
theorem impl_Tableau_own.is {k : Nat} {t : Pu.Tab} (hk : 4194304 + 1 ≤ k) (h1 : t.1.length ≤ 1048576) (ht : t.2.length ≤ 1048576) (hr : ∀ x ∈ t.2, x.length ≤ 1048576) : impl_Tableau_own k t = some t := by
  obtain ⟨k, rfl⟩ : ∃ k', k = k' + 1 := ⟨k - 1, by omega⟩
  rw [impl_Tableau_own.eq, slices_Clone__int_int.is (by omega) (by omega)]
  have h := impl_Tableau_own.loop (k := k) (t := t) (x3 := []) (x4 := t.1) (x5 := []) (by omega) ht hr t.2.length k 0 (by omega) (by omega)
  rw [Int.natCast_zero, List.take_zero] at h
  exact h
-- impl_Tableau_insert_1_ipi
theorem impl_Tableau_insert_1_ipi.is {k : Nat} {n x : Int} (hk : 1 ≤ k) : impl_Tableau_insert_1_ipi k n x = some (decide (x < n), x) := by
  obtain ⟨k, rfl⟩ : ∃ k', k = k' + 1 := ⟨k - 1, by omega⟩
  rw [impl_Tableau_insert_1_ipi.eq]
  rfl
-- slices_IndexFunc__int_int_rFimpl_Tableau_insert_1pi
theorem slices_IndexFunc__int_int_rFimpl_Tableau_insert_1pi.loop {k : Nat} {r : List Int} {x : Int} (hk : 1 ≤ k) (hr : r.length ≤ 1048577) : ∀ (m j i : Nat), i + m = r.length → m < j → i ≤ r.findIdx (fun n => decide (x < n)) → 
    slices_IndexFunc__int_int_rFimpl_Tableau_insert_1pi.L0 k j r.length i r x = some (if r.findIdx (fun n => decide (x < n)) < r.length then ((r.findIdx (fun n => decide (x < n)) : Nat) : Int) else -1, x)
  | m, 0, i, _, hj, _ => by omega
  | 0, j + 1, i, hm, _, hi => by
    rw [slices_IndexFunc__int_int_rFimpl_Tableau_insert_1pi.L0_eq]
    have e : i = r.length := by omega
    have h : ¬ r.findIdx (fun n => decide (x < n)) < r.length := by omega
    subst e
    rw [if_neg h]
    simp
  | m + 1, j + 1, i, hm, hj, hi => by
    rw [slices_IndexFunc__int_int_rFimpl_Tableau_insert_1pi.L0_eq]
    have hlt : i < r.length := by omega
    simp (disch := omega) only [↓p_test, p_lt, p_le, p_ltN, p_leN, p_eqN, p_len, p_ofN, p_nat, p_rd, p_set, p_app, p_take, p_drop, p_rep, p_wrap, p_add, p_sub, p_no, p_eq, p_eqB, p_eqP, p_bnd_some, Pu.w64, Int.toNat_natCast, decide_eq_true_eq, Int.ofNat_lt, Int.ofNat_le, if_true, if_false, Int.natCast_nonneg, decide_true, decide_false, Bool.not_true, Bool.not_false, Bool.false_eq_true, Bool.not_eq_true, Bool.true_and, Bool.and_true, Bool.false_and, Bool.and_false, hlt, impl_Tableau_insert_1_ipi.is]
    by_cases c : x < r.getD i 0
    · have e : r.findIdx (fun n => decide (x < n)) = i := by
        refine Nat.le_antisymm ?_ hi
        exact Pu.findIdx_le hlt (by simpa using c)
      simp only [c, ↓p_test, p_lt, p_le, p_ltN, p_leN, p_eqN, p_len, p_ofN, p_nat, p_rd, p_set, p_app, p_take, p_drop, p_rep, p_wrap, p_add, p_sub, p_no, p_eq, p_eqB, p_eqP, p_bnd_some, Pu.w64, Int.toNat_natCast, decide_eq_true_eq, Int.ofNat_lt, Int.ofNat_le, if_true, if_false, Int.natCast_nonneg, decide_true, decide_false, Bool.not_true, Bool.not_false, Bool.false_eq_true, Bool.not_eq_true, Bool.true_and, Bool.and_true, Bool.false_and, Bool.and_false, e, hlt]
    · have hne : r.findIdx (fun n => decide (x < n)) ≠ i := fun e => by
        have := Pu.findIdx_at (p := fun n => decide (x < n)) (r := r) (by rw [e]; exact hlt)
        rw [e] at this
        exact c (by simpa using this)
      have ih := slices_IndexFunc__int_int_rFimpl_Tableau_insert_1pi.loop (k := k) (x := x) hk hr m j (i + 1) (by omega) (by omega) (by omega)
      rw [Int.natCast_succ] at ih
      simp only [c, ↓p_test, p_lt, p_le, p_ltN, p_leN, p_eqN, p_len, p_ofN, p_nat, p_rd, p_set, p_app, p_take, p_drop, p_rep, p_wrap, p_add, p_sub, p_no, p_eq, p_eqB, p_eqP, p_bnd_some, Pu.w64, Int.toNat_natCast, decide_eq_true_eq, Int.ofNat_lt, Int.ofNat_le, if_true, if_false, Int.natCast_nonneg, decide_true, decide_false, Bool.not_true, Bool.not_false, Bool.false_eq_true, Bool.not_eq_true, Bool.true_and, Bool.and_true, Bool.false_and, Bool.and_false, ih]
theorem slices_IndexFunc__int_int_rFimpl_Tableau_insert_1pi.is {k : Nat} {r : List Int} {x : Int} (hk : 4194304 + 1 ≤ k) (hr : r.length ≤ 1048577) :
    slices_IndexFunc__int_int_rFimpl_Tableau_insert_1pi k x r = some (if r.findIdx (fun n => decide (x < n)) < r.length then ((r.findIdx (fun n => decide (x < n)) : Nat) : Int) else -1, x) := by
  obtain ⟨k, rfl⟩ : ∃ k', k = k' + 1 := ⟨k - 1, by omega⟩
  rw [slices_IndexFunc__int_int_rFimpl_Tableau_insert_1pi.eq]
  exact slices_IndexFunc__int_int_rFimpl_Tableau_insert_1pi.loop (k := k) (by omega) hr r.length k 0 (by omega) (by omega) (by omega)
-- impl_Tableau_insert_pwwi
theorem impl_Tableau_insert_pwwi.loop {k : Nat} {inner : List Int} (hk : 4194304 + 1 ≤ k) : ∀ (m j i : Nat) (x : Int) (rows : List (List Int)), i + m = rows.length → m < j → rows.length ≤ 1048576 → (∀ r ∈ rows, r.length ≤ 1048576) →
    impl_Tableau_insert_pwwi.L0 k j rows.length i x rows inner = some (((i + (Pu.insRows (rows.drop i) x).2 : Nat) : Int), (inner, rows.take i ++ (Pu.insRows (rows.drop i) x).1))
  | m, 0, i, x, rows, _, hj, _, _ => by omega
  | 0, j + 1, i, x, rows, hm, _, hl, hr => by
    rw [impl_Tableau_insert_pwwi.L0_eq]
    have e : i = rows.length := by omega
    subst e
    have h1 : rows.length + 1 ≤ 1099511627776 := by omega
    simp (disch := omega) only [↓p_test, p_lt, p_le, p_ltN, p_leN, p_eqN, p_len, p_ofN, p_nat, p_rd, p_set, p_app, p_take, p_drop, p_rep, p_wrap, p_add, p_sub, p_no, p_eq, p_eqB, p_eqP, p_bnd_some, Pu.w64, Int.toNat_natCast, decide_eq_true_eq, Int.ofNat_lt, Int.ofNat_le, if_true, if_false, Int.natCast_nonneg, decide_true, decide_false, Bool.not_true, Bool.not_false, Bool.false_eq_true, Bool.not_eq_true, Bool.true_and, Bool.and_true, Bool.false_and, Bool.and_false, Nat.lt_irrefl, h1, List.drop_length, List.take_length, Pu.insRows, List.length_append, List.length_cons, List.length_nil, Int.natCast_add, Int.natCast_one, Int.natCast_zero, Int.add_zero, Int.zero_add, Nat.zero_add, Nat.add_zero, Int.add_sub_cancel]
  | m + 1, j + 1, i, x, rows, hm, hj, hl, hr => by
    rw [impl_Tableau_insert_pwwi.L0_eq]
    have hlt : i < rows.length := by omega
    have hx := hr _ (List.getElem_mem hlt)
    rw [← Pu.getD_lt hlt []] at hx
    have hi := slices_IndexFunc__int_int_rFimpl_Tableau_insert_1pi.is (k := k) (r := rows.getD i []) (x := x) (by omega) (by omega)
    rw [Pu.drop_cons hlt []]
    unfold Pu.insRows
    generalize hf : (rows.getD i []).findIdx (fun n => decide (x < n)) = f at *
    by_cases c : f < (rows.getD i []).length
    · rw [if_pos c] at hi ⊢
      have ih := impl_Tableau_insert_pwwi.loop (inner := inner) hk m j (i + 1) ((rows.getD i []).getD f 0) (rows.set i ((rows.getD i []).set f x)) (by rw [List.length_set]; omega) (by omega) (by rw [List.length_set]; exact hl) (fun r h => by
        rcases List.mem_or_eq_of_mem_set h with h | rfl
        · exact hr r h
        · rw [List.length_set]; exact hx)
      rw [Pu.take_set_self hlt, Pu.drop_set_next, List.length_set, Int.natCast_succ] at ih
      have hn : ¬ (f : Int) < 0 := by omega
      simp (disch := omega) only [↓p_test, p_lt, p_le, p_ltN, p_leN, p_eqN, p_len, p_ofN, p_nat, p_rd, p_set, p_app, p_take, p_drop, p_rep, p_wrap, p_add, p_sub, p_no, p_eq, p_eqB, p_eqP, p_bnd_some, Pu.w64, Int.toNat_natCast, decide_eq_true_eq, Int.ofNat_lt, Int.ofNat_le, if_true, if_false, Int.natCast_nonneg, decide_true, decide_false, Bool.not_true, Bool.not_false, Bool.false_eq_true, Bool.not_eq_true, Bool.true_and, Bool.and_true, Bool.false_and, Bool.and_false, hlt, hi, hn, c, ih]
      simp only [List.append_assoc, List.singleton_append]
      congr 2
      omega
    · rw [if_neg c] at hi ⊢
      have hn : (-1 : Int) < 0 := by omega
      have h1 : (rows.getD i [] ++ [x]).length ≤ 1099511627776 := by simp only [List.length_append, List.length_cons, List.length_nil]; omega
      simp (disch := omega) only [↓p_test, p_lt, p_le, p_ltN, p_leN, p_eqN, p_len, p_ofN, p_nat, p_rd, p_set, p_app, p_take, p_drop, p_rep, p_wrap, p_add, p_sub, p_no, p_eq, p_eqB, p_eqP, p_bnd_some, Pu.w64, Int.toNat_natCast, decide_eq_true_eq, Int.ofNat_lt, Int.ofNat_le, if_true, if_false, Int.natCast_nonneg, decide_true, decide_false, Bool.not_true, Bool.not_false, Bool.false_eq_true, Bool.not_eq_true, Bool.true_and, Bool.and_true, Bool.false_and, Bool.and_false, hlt, hi, hn, h1, Nat.add_zero]
      rw [Pu.set_split hlt]
theorem impl_Tableau_insert_pwwi.is {k : Nat} {inner : List Int} {x : Int} {rows : List (List Int)} (hk : 4194304 + 2 ≤ k) (hl : rows.length ≤ 1048576) (hr : ∀ r ∈ rows, r.length ≤ 1048576) :
    impl_Tableau_insert_pwwi k x inner rows = some ((((Pu.insRows rows x).2 : Nat) : Int), (inner, (Pu.insRows rows x).1)) := by
  obtain ⟨k, rfl⟩ : ∃ k', k = k' + 1 := ⟨k - 1, by omega⟩
  rw [impl_Tableau_insert_pwwi.eq]
  have h := impl_Tableau_insert_pwwi.loop (k := k) (inner := inner) (by omega) rows.length k 0 x rows (by omega) (by omega) hl hr
  rw [Int.natCast_zero] at h
  simpa using h
-- impl_InsertNumber
theorem impl_InsertNumber.is {k : Nat} {t : Pu.Tab} {x : Int} (hk : 4194304 + 8 ≤ k) (h1 : t.1.length ≤ 1048576) (hl : t.2.length ≤ 1048576) (hr : ∀ r ∈ t.2, r.length ≤ 1048576) : impl_InsertNumber k t x = some (Pu.insertNumber t x) := by
  obtain ⟨k, rfl⟩ : ∃ k', k = k' + 1 := ⟨k - 1, by omega⟩
  rw [impl_InsertNumber.eq, impl_isPlain.is (by omega) h1 hl hr, p_bnd_some]
  unfold Pu.insertNumber
  cases hp : Pu.isPlain t with
  | false => simp
  | true =>
    have h9 := Pu.plain_nine hp
    simp only [↓p_test, p_lt, p_le, p_ltN, p_leN, p_eqN, p_len, p_ofN, p_nat, p_rd, p_set, p_app, p_take, p_drop, p_rep, p_wrap, p_add, p_sub, p_no, p_eq, p_eqB, p_eqP, p_bnd_some, Pu.w64, Int.toNat_natCast, decide_eq_true_eq, Int.ofNat_lt, Int.ofNat_le, if_true, if_false, Int.natCast_nonneg, decide_true, decide_false, Bool.not_true, Bool.not_false, Bool.false_eq_true, Bool.not_eq_true, Bool.true_and, Bool.and_true, Bool.false_and, Bool.and_false]
    rw [impl_within.is (by omega), p_bnd_some]
    cases hw : Pu.within x 1 9 with
    | false => simp
    | true =>
      simp only [↓p_test, p_lt, p_le, p_ltN, p_leN, p_eqN, p_len, p_ofN, p_nat, p_rd, p_set, p_app, p_take, p_drop, p_rep, p_wrap, p_add, p_sub, p_no, p_eq, p_eqB, p_eqP, p_bnd_some, Pu.w64, Int.toNat_natCast, decide_eq_true_eq, Int.ofNat_lt, Int.ofNat_le, if_true, if_false, Int.natCast_nonneg, decide_true, decide_false, Bool.not_true, Bool.not_false, Bool.false_eq_true, Bool.not_eq_true, Bool.true_and, Bool.and_true, Bool.false_and, Bool.and_false]
      rw [slices_Concat__int_int.is (by omega) hl (by omega), p_bnd_some]
      by_cases c : t.2.flatten.length < 9
      · have c' : ¬ ((t.2.flatten.length : Nat) : Int) = 9 := by omega
        simp only [c, c', ↓p_test, p_lt, p_le, p_ltN, p_leN, p_eqN, p_len, p_ofN, p_nat, p_rd, p_set, p_app, p_take, p_drop, p_rep, p_wrap, p_add, p_sub, p_no, p_eq, p_eqB, p_eqP, p_bnd_some, Pu.w64, Int.toNat_natCast, decide_eq_true_eq, Int.ofNat_lt, Int.ofNat_le, if_true, if_false, Int.natCast_nonneg, decide_true, decide_false, Bool.not_true, Bool.not_false, Bool.false_eq_true, Bool.not_eq_true, Bool.true_and, Bool.and_true, Bool.false_and, Bool.and_false]
        rw [impl_InsertNumber.J0_eq, impl_Tableau_own.is (by omega) h1 hl hr, p_bnd_some, impl_Tableau_insert_pwwi.is (by omega) hl hr]
        simp
      · have c' : ((t.2.flatten.length : Nat) : Int) = 9 := by omega
        simp only [c, c', ↓p_test, p_lt, p_le, p_ltN, p_leN, p_eqN, p_len, p_ofN, p_nat, p_rd, p_set, p_app, p_take, p_drop, p_rep, p_wrap, p_add, p_sub, p_no, p_eq, p_eqB, p_eqP, p_bnd_some, Pu.w64, Int.toNat_natCast, decide_eq_true_eq, Int.ofNat_lt, Int.ofNat_le, if_true, if_false, Int.natCast_nonneg, decide_true, decide_false, Bool.not_true, Bool.not_false, Bool.false_eq_true, Bool.not_eq_true, Bool.true_and, Bool.and_true, Bool.false_and, Bool.and_false]
        simp
-- impl_AddBox
theorem impl_AddBox.tail {k : Nat} {o p : List Int} {r : Int} (hk : 4194304 + 1 ≤ k) (hp : p.length ≤ 1048576) (hb : ∀ x ∈ p, x ≤ 1000000000 ∧ -1000000000 ≤ x) (h0 : 0 ≤ r) (h1 : r < p.length) :
    impl_AddBox.J1 k r p = some (if Pu.isPart (p.set r.toNat (p.getD r.toNat 0 + 1)) = true then (p.set r.toNat (p.getD r.toNat 0 + 1), true) else ([], false)) := by
  rw [impl_AddBox.J1_eq]
  have hn : r.toNat < p.length := by omega
  have hx := hb _ (List.getElem_mem hn)
  rw [← Pu.getD_lt hn 0] at hx
  have ew : IntKind.i64.wrap (p.getD r.toNat 0 + 1) = p.getD r.toNat 0 + 1 := Pu.w64 (by omega) (by omega)
  have hi := impl_IsPartition.is (k := k) (p := p.set r.toNat (p.getD r.toNat 0 + 1)) hk (by rw [List.length_set]; exact hp)
  by_cases hq : Pu.isPart (p.set r.toNat (p.getD r.toNat 0 + 1)) = true
  · simp only [↓p_test, p_lt, p_le, p_ltN, p_leN, p_eqN, p_len, p_ofN, p_nat, p_rd, p_set, p_app, p_take, p_drop, p_rep, p_wrap, p_add, p_sub, p_no, p_eq, p_eqB, p_eqP, p_bnd_some, Pu.w64, Int.toNat_natCast, decide_eq_true_eq, Int.ofNat_lt, Int.ofNat_le, if_true, if_false, Int.natCast_nonneg, decide_true, decide_false, Bool.not_true, Bool.not_false, Bool.false_eq_true, Bool.not_eq_true, Bool.true_and, Bool.and_true, Bool.false_and, Bool.and_false, h0, hn, ew, hi, hq]
  · simp only [Bool.not_eq_true] at hq
    simp only [↓p_test, p_lt, p_le, p_ltN, p_leN, p_eqN, p_len, p_ofN, p_nat, p_rd, p_set, p_app, p_take, p_drop, p_rep, p_wrap, p_add, p_sub, p_no, p_eq, p_eqB, p_eqP, p_bnd_some, Pu.w64, Int.toNat_natCast, decide_eq_true_eq, Int.ofNat_lt, Int.ofNat_le, if_true, if_false, Int.natCast_nonneg, decide_true, decide_false, Bool.not_true, Bool.not_false, Bool.false_eq_true, Bool.not_eq_true, Bool.true_and, Bool.and_true, Bool.false_and, Bool.and_false, h0, hn, ew, hi, hq]
theorem impl_AddBox.is {k : Nat} {p : List Int} {r : Int} (hk : 4194304 + 3 ≤ k) (hp : p.length ≤ 1000000) : impl_AddBox k p r = some (Pu.addBox p r) := by
  obtain ⟨k, rfl⟩ : ∃ k', k = k' + 1 := ⟨k - 1, by omega⟩
  rw [impl_AddBox.eq, impl_IsPartition.is (by omega) (by omega), p_bnd_some]
  unfold Pu.addBox
  by_cases h1 : Pu.isPart p = true
  · have hb : ∀ x ∈ p, x ≤ 1000000000 ∧ -1000000000 ≤ x := fun x hx => by
      have := (Pu.isPart_spec h1).1 x hx
      omega
    rw [p_len, p_ofN, impl_within.is (by omega), p_bnd_some]
    by_cases h2 : 0 ≤ r ∧ r ≤ p.length
    · obtain ⟨h2, h3⟩ := h2
      rw [impl_AddBox.J0_eq, slices_Clone__int_int.is (by omega) (by omega), p_bnd_some]
      by_cases e : r = p.length
      · have hr : r < (p ++ [0]).length := by rw [List.length_append]; simp; omega
        have ht := impl_AddBox.tail (o := p) (k := k) (p := p ++ [0]) (r := r) (by omega) (by rw [List.length_append]; simp; omega) (fun x hx => by
          rcases List.mem_append.1 hx with h | h
          · exact hb x h
          · simp at h; omega) h2 hr
        have hlim : (p ++ [(0 : Int)]).length ≤ 1099511627776 := by rw [List.length_append]; simp; omega
        have e' : (r = (p.length : Int)) = True := eq_true e
        have hw : Pu.within r 0 p.length = true := by simp [Pu.within, h2, h3]
        simp only [↓p_test, p_lt, p_le, p_ltN, p_leN, p_eqN, p_len, p_ofN, p_nat, p_rd, p_set, p_app, p_take, p_drop, p_rep, p_wrap, p_add, p_sub, p_no, p_eq, p_eqB, p_eqP, p_bnd_some, Pu.w64, Int.toNat_natCast, decide_eq_true_eq, Int.ofNat_lt, Int.ofNat_le, if_true, if_false, Int.natCast_nonneg, decide_true, decide_false, Bool.not_true, Bool.not_false, Bool.false_eq_true, Bool.not_eq_true, Bool.true_and, Bool.and_true, Bool.false_and, Bool.and_false, h1, hw, e', hlim]
        rw [ht]; simp only [h2, h3, and_self, if_true]
      · have ht := impl_AddBox.tail (o := p) (k := k) (p := p) (r := r) (by omega) (by omega) hb h2 (by omega)
        have hw : Pu.within r 0 p.length = true := by simp [Pu.within, h2, h3]
        simp only [↓p_test, p_lt, p_le, p_ltN, p_leN, p_eqN, p_len, p_ofN, p_nat, p_rd, p_set, p_app, p_take, p_drop, p_rep, p_wrap, p_add, p_sub, p_no, p_eq, p_eqB, p_eqP, p_bnd_some, Pu.w64, Int.toNat_natCast, decide_eq_true_eq, Int.ofNat_lt, Int.ofNat_le, if_true, if_false, Int.natCast_nonneg, decide_true, decide_false, Bool.not_true, Bool.not_false, Bool.false_eq_true, Bool.not_eq_true, Bool.true_and, Bool.and_true, Bool.false_and, Bool.and_false, h1, hw, e]
        rw [ht]; simp only [h2, h3, and_self, if_true]
    · simp only [↓p_test, p_lt, p_le, p_ltN, p_leN, p_eqN, p_len, p_ofN, p_nat, p_rd, p_set, p_app, p_take, p_drop, p_rep, p_wrap, p_add, p_sub, p_no, p_eq, p_eqB, p_eqP, p_bnd_some, Pu.w64, Int.toNat_natCast, decide_eq_true_eq, Int.ofNat_lt, Int.ofNat_le, if_true, if_false, Int.natCast_nonneg, decide_true, decide_false, Bool.not_true, Bool.not_false, Bool.false_eq_true, Bool.not_eq_true, Bool.true_and, Bool.and_true, Bool.false_and, Bool.and_false, h1, Pu.within]
      by_cases h3 : 0 ≤ r
      · have h4 : ¬ r ≤ p.length := fun h => h2 ⟨h3, h⟩
        simp [h1, h3, h4]
      · simp [h1, h3]
  · simp only [Bool.not_eq_true] at h1
    simp [h1]
-- impl_column
theorem impl_column.loop {k : Nat} {c : Int} {p : List Int} (hp : p.length ≤ 1048576) : ∀ (m j i : Nat) (s : Int), i + m = p.length → m < j → 0 ≤ s → s ≤ i → impl_column.L0 k j c s p.length i p = some (s + Pu.colI (p.drop i) c)
  | m, 0, i, s, _, hj, _, _ => by omega
  | 0, j + 1, i, s, hi, _, _, _ => by
    rw [impl_column.L0_eq]
    have e : i = p.length := by omega
    subst e
    simp [Pu.colI]
  | m + 1, j + 1, i, s, hi, hj, h1, h2 => by
    rw [impl_column.L0_eq]
    have hlt : i < p.length := by omega
    have ew : IntKind.i64.wrap ((i : Int) + 1) = ((i + 1 : Nat) : Int) := by rw [Pu.w64 (by omega) (by omega)]; omega
    have es : IntKind.i64.wrap (s + 1) = s + 1 := Pu.w64 (by omega) (by omega)
    rw [Pu.drop_cons hlt 0]
    by_cases hc : c < p.getD i 0
    · have ih := impl_column.loop (k := k) (c := c) hp m j (i + 1) (s + 1) (by omega) (by omega) (by omega) (by omega)
      simp only [↓p_test, p_lt, p_le, p_ltN, p_leN, p_eqN, p_len, p_ofN, p_nat, p_rd, p_set, p_app, p_take, p_drop, p_rep, p_wrap, p_add, p_sub, p_no, p_eq, p_eqB, p_eqP, p_bnd_some, Pu.w64, Int.toNat_natCast, decide_eq_true_eq, Int.ofNat_lt, Int.ofNat_le, if_true, if_false, Int.natCast_nonneg, decide_true, decide_false, Bool.not_true, Bool.not_false, Bool.false_eq_true, Bool.not_eq_true, Bool.true_and, Bool.and_true, Bool.false_and, Bool.and_false, hlt, hc, es, Pu.colI]
      rw [impl_column.J1_eq]
      simp only [↓p_test, p_lt, p_le, p_ltN, p_leN, p_eqN, p_len, p_ofN, p_nat, p_rd, p_set, p_app, p_take, p_drop, p_rep, p_wrap, p_add, p_sub, p_no, p_eq, p_eqB, p_eqP, p_bnd_some, Pu.w64, Int.toNat_natCast, decide_eq_true_eq, Int.ofNat_lt, Int.ofNat_le, if_true, if_false, Int.natCast_nonneg, decide_true, decide_false, Bool.not_true, Bool.not_false, Bool.false_eq_true, Bool.not_eq_true, Bool.true_and, Bool.and_true, Bool.false_and, Bool.and_false, ew, ih, Int.add_assoc]
    · have ih := impl_column.loop (k := k) (c := c) hp m j (i + 1) s (by omega) (by omega) (by omega) (by omega)
      simp only [↓p_test, p_lt, p_le, p_ltN, p_leN, p_eqN, p_len, p_ofN, p_nat, p_rd, p_set, p_app, p_take, p_drop, p_rep, p_wrap, p_add, p_sub, p_no, p_eq, p_eqB, p_eqP, p_bnd_some, Pu.w64, Int.toNat_natCast, decide_eq_true_eq, Int.ofNat_lt, Int.ofNat_le, if_true, if_false, Int.natCast_nonneg, decide_true, decide_false, Bool.not_true, Bool.not_false, Bool.false_eq_true, Bool.not_eq_true, Bool.true_and, Bool.and_true, Bool.false_and, Bool.and_false, hlt, hc, Pu.colI]
      rw [impl_column.J1_eq]
      simp only [↓p_test, p_lt, p_le, p_ltN, p_leN, p_eqN, p_len, p_ofN, p_nat, p_rd, p_set, p_app, p_take, p_drop, p_rep, p_wrap, p_add, p_sub, p_no, p_eq, p_eqB, p_eqP, p_bnd_some, Pu.w64, Int.toNat_natCast, decide_eq_true_eq, Int.ofNat_lt, Int.ofNat_le, if_true, if_false, Int.natCast_nonneg, decide_true, decide_false, Bool.not_true, Bool.not_false, Bool.false_eq_true, Bool.not_eq_true, Bool.true_and, Bool.and_true, Bool.false_and, Bool.and_false, ew, ih, Int.zero_add]
theorem impl_column.is {k : Nat} {c : Int} {p : List Int} (hk : 4194304 + 1 ≤ k) (hp : p.length ≤ 1048576) : impl_column k p c = some (Pu.colI p c) := by
  obtain ⟨k, rfl⟩ : ∃ k', k = k' + 1 := ⟨k - 1, by omega⟩
  rw [impl_column.eq]
  have h := impl_column.loop (k := k) (c := c) hp p.length k 0 0 (by omega) (by omega) (by omega) (by omega)
  rw [Int.natCast_zero, Int.zero_add, List.drop_zero] at h
  exact h
-- impl_Conjugate
theorem impl_Conjugate.loop {k : Nat} {p : List Int} (hk : 4194304 + 1 ≤ k) (hpart : Pu.isPart p = true) : ∀ (m j c : Nat) (acc : List Int), c + m = (p.getD 0 0).toNat → m < j → c ≤ 9 → acc.length = c → impl_Conjugate.L0 k j c p acc = some (acc ++ Pu.conjGo p m c)
  | m, 0, c, acc, _, hj, _, _ => by omega
  | 0, j + 1, c, acc, hm, _, _, _ => by
    have hl := (Pu.isPart_spec hpart).2.2.1
    rw [impl_Conjugate.L0_eq, impl_column.is (by omega) (by omega), p_bnd_some]
    have h0 : Pu.colI p c = 0 := Pu.colI_zero p c fun x hx => by have := Pu.part_head hpart x hx; omega
    simp [h0, Pu.conjGo]
  | m + 1, j + 1, c, acc, hm, hj, hc, ha => by
    have hl := (Pu.isPart_spec hpart).2.2.1
    rw [impl_Conjugate.L0_eq, impl_column.is (by omega) (by omega), p_bnd_some]
    have h0 : 0 < Pu.colI p c := Pu.colI_pos (by omega) (by omega)
    have ew : IntKind.i64.wrap ((c : Int) + 1) = ((c + 1 : Nat) : Int) := by rw [Pu.w64 (by omega) (by omega)]; omega
    have hx : p.getD 0 0 ≤ 9 := by
      cases p with
      | nil => simp
      | cons y ys => have := (Pu.isPart_spec hpart).1 y List.mem_cons_self; simpa using this.2
    have hlim : (acc ++ [Pu.colI p c]).length ≤ 1099511627776 := by rw [List.length_append]; simp; omega
    have ih := impl_Conjugate.loop hk hpart m j (c + 1) (acc ++ [Pu.colI p c]) (by omega) (by omega) (by omega) (by rw [List.length_append]; simp; omega)
    simp only [↓p_test, p_lt, p_le, p_ltN, p_leN, p_eqN, p_len, p_ofN, p_nat, p_rd, p_set, p_app, p_take, p_drop, p_rep, p_wrap, p_add, p_sub, p_no, p_eq, p_eqB, p_eqP, p_bnd_some, Pu.w64, Int.toNat_natCast, decide_eq_true_eq, Int.ofNat_lt, Int.ofNat_le, if_true, if_false, Int.natCast_nonneg, decide_true, decide_false, Bool.not_true, Bool.not_false, Bool.false_eq_true, Bool.not_eq_true, Bool.true_and, Bool.and_true, Bool.false_and, Bool.and_false, h0, ew, hlim, ih, Pu.conjGo, List.append_assoc, List.cons_append, List.nil_append]
theorem impl_Conjugate.is {k : Nat} {p : List Int} (hk : 4194304 + 3 ≤ k) (hp : p.length ≤ 1048576) : impl_Conjugate k p = some (Pu.conj p) := by
  obtain ⟨k, rfl⟩ : ∃ k', k = k' + 1 := ⟨k - 1, by omega⟩
  rw [impl_Conjugate.eq, impl_IsPartition.is (by omega) hp, p_bnd_some]
  unfold Pu.conj
  by_cases h : Pu.isPart p = true
  · have hx : p.getD 0 0 ≤ 9 := by
      cases p with
      | nil => simp
      | cons y ys => have := (Pu.isPart_spec h).1 y List.mem_cons_self; simpa using this.2
    have hl := impl_Conjugate.loop (k := k) (by omega) h (p.getD 0 0).toNat k 0 [] (by omega) (by omega) (by omega) rfl
    rw [Int.natCast_zero, List.nil_append] at hl
    simp only [↓p_test, p_lt, p_le, p_ltN, p_leN, p_eqN, p_len, p_ofN, p_nat, p_rd, p_set, p_app, p_take, p_drop, p_rep, p_wrap, p_add, p_sub, p_no, p_eq, p_eqB, p_eqP, p_bnd_some, Pu.w64, Int.toNat_natCast, decide_eq_true_eq, Int.ofNat_lt, Int.ofNat_le, if_true, if_false, Int.natCast_nonneg, decide_true, decide_false, Bool.not_true, Bool.not_false, Bool.false_eq_true, Bool.not_eq_true, Bool.true_and, Bool.and_true, Bool.false_and, Bool.and_false, h, hl]
  · simp only [Bool.not_eq_true] at h
    simp [h]
-- spec_l9Plain
theorem spec_l9Plain.is {k : Nat} {t : Pu.Tab} (hk : 4194304 + 6 ≤ k) (h1 : t.1.length ≤ 1048576) (ht : t.2.length ≤ 1048576) (hr : ∀ x ∈ t.2, x.length ≤ 1048576) : spec_l9Plain k t = some (Pu.isPlain t) := by
  obtain ⟨k, rfl⟩ : ∃ k', k = k' + 1 := ⟨k - 1, by omega⟩
  rw [spec_l9Plain.eq, spec_IsTableau.is (by omega) h1 ht hr, p_bnd_some]
  unfold Pu.isPlain
  cases Pu.isTab t <;> simp
-- spec_l5Numbers
theorem spec_l5Numbers.loop {k : Nat} {t : Pu.Tab} {x2 : List Int} (ht : t.2.length ≤ 1048576) (hf : t.2.flatten.length ≤ 1099511627776) : ∀ (m j i : Nat), i + m = t.2.length → m < j →
    spec_l5Numbers.L0 k j i (t.2.take i).flatten x2 t.2 = some t.2.flatten
  | m, 0, i, _, hj => by omega
  | 0, j + 1, i, hm, _ => by
    rw [spec_l5Numbers.L0_eq]
    have e : i = t.2.length := by omega
    subst e
    simp
  | m + 1, j + 1, i, hm, hj => by
    rw [spec_l5Numbers.L0_eq]
    have hlt : i < t.2.length := by omega
    have ih := spec_l5Numbers.loop (k := k) (x2 := x2) ht hf m j (i + 1) (by omega) (by omega)
    rw [Int.natCast_succ, Pu.take_succ hlt []] at ih
    have hl : ((t.2.take i).flatten ++ t.2.getD i []).length ≤ 1099511627776 := by
      refine Nat.le_trans ?_ hf
      have e : t.2.flatten = (t.2.take i).flatten ++ (t.2.drop i).flatten := by rw [← List.flatten_append, List.take_append_drop]
      rw [e, Pu.drop_cons hlt []]
      simp only [List.flatten_cons, List.length_append]
      omega
    simp only [List.flatten_append, List.flatten_cons, List.flatten_nil, List.append_nil] at ih
    simp (disch := omega) only [↓p_test, p_lt, p_le, p_ltN, p_leN, p_eqN, p_len, p_ofN, p_nat, p_rd, p_set, p_app, p_take, p_drop, p_rep, p_wrap, p_add, p_sub, p_no, p_eq, p_eqB, p_eqP, p_bnd_some, Pu.w64, Int.toNat_natCast, decide_eq_true_eq, Int.ofNat_lt, Int.ofNat_le, if_true, if_false, Int.natCast_nonneg, decide_true, decide_false, Bool.not_true, Bool.not_false, Bool.false_eq_true, Bool.not_eq_true, Bool.true_and, Bool.and_true, Bool.false_and, Bool.and_false, hlt, hl, ih]
theorem spec_l5Numbers.is {k : Nat} {t : Pu.Tab} (hk : 4194304 + 1 ≤ k) (ht : t.2.length ≤ 1048576) (hf : t.2.flatten.length ≤ 1099511627776) : spec_l5Numbers k t = some t.2.flatten := by
  obtain ⟨k, rfl⟩ : ∃ k', k = k' + 1 := ⟨k - 1, by omega⟩
  rw [spec_l5Numbers.eq]
  exact spec_l5Numbers.loop (k := k) ht hf t.2.length k 0 (by omega) (by omega)
-- spec_l5Copy
theorem spec_l5Copy.loop {k : Nat} {t : Pu.Tab} {x3 x4 : List Int} {x5 : List (List Int)} (ht : t.2.length ≤ 1048576) (hr : ∀ x ∈ t.2, x.length ≤ 1048576) : ∀ (m j i : Nat), i + m = t.2.length → m < j →
    spec_l5Copy.L0 k j i t.1 t.2 x3 x5 x4 (t.2.take i) = some (x4, t.2)
  | m, 0, i, _, hj => by omega
  | 0, j + 1, i, hm, _ => by
    rw [spec_l5Copy.L0_eq]
    have e : i = t.2.length := by omega
    subst e
    simp
  | m + 1, j + 1, i, hm, hj => by
    rw [spec_l5Copy.L0_eq]
    have hlt : i < t.2.length := by omega
    have hx := hr _ (List.getElem_mem hlt)
    rw [← Pu.getD_lt hlt []] at hx
    have ih := spec_l5Copy.loop (k := k) (x3 := x3) (x4 := x4) (x5 := x5) ht hr m j (i + 1) (by omega) (by omega)
    rw [Int.natCast_succ, Pu.take_succ hlt []] at ih
    have hl : (t.2.take i ++ [t.2.getD i []]).length ≤ 1099511627776 := by simp; omega
    have hx' : (t.2.getD i []).length ≤ 1099511627776 := by omega
    simp (disch := omega) only [↓p_test, p_lt, p_le, p_ltN, p_leN, p_eqN, p_len, p_ofN, p_nat, p_rd, p_set, p_app, p_take, p_drop, p_rep, p_wrap, p_add, p_sub, p_no, p_eq, p_eqB, p_eqP, p_bnd_some, Pu.w64, Int.toNat_natCast, decide_eq_true_eq, Int.ofNat_lt, Int.ofNat_le, if_true, if_false, Int.natCast_nonneg, decide_true, decide_false, Bool.not_true, Bool.not_false, Bool.false_eq_true, Bool.not_eq_true, Bool.true_and, Bool.and_true, Bool.false_and, Bool.and_false, hlt, hl, hx', List.nil_append, ih]
theorem spec_l5Copy.is {k : Nat} {t : Pu.Tab} (hk : 4194304 + 1 ≤ k) (h1 : t.1.length ≤ 1048576) (ht : t.2.length ≤ 1048576) (hr : ∀ x ∈ t.2, x.length ≤ 1048576) : spec_l5Copy k t = some t := by
  obtain ⟨k, rfl⟩ : ∃ k', k = k' + 1 := ⟨k - 1, by omega⟩
  rw [spec_l5Copy.eq]
  have h := spec_l5Copy.loop (k := k) (t := t) (x3 := []) (x4 := t.1) (x5 := []) ht hr t.2.length k 0 (by omega) (by omega)
  rw [Int.natCast_zero, List.take_zero] at h
  have hl : t.1.length ≤ 1099511627776 := by omega
  simp only [↓p_test, p_lt, p_le, p_ltN, p_leN, p_eqN, p_len, p_ofN, p_nat, p_rd, p_set, p_app, p_take, p_drop, p_rep, p_wrap, p_add, p_sub, p_no, p_eq, p_eqB, p_eqP, p_bnd_some, Pu.w64, Int.toNat_natCast, decide_eq_true_eq, Int.ofNat_lt, Int.ofNat_le, if_true, if_false, Int.natCast_nonneg, decide_true, decide_false, Bool.not_true, Bool.not_false, Bool.false_eq_true, Bool.not_eq_true, Bool.true_and, Bool.and_true, Bool.false_and, Bool.and_false, List.nil_append, hl, h]
-- spec_l9Insert
theorem spec_l9Insert.inner {k k1 : Nat} {x : Int} {i : Nat} {x3 x5 : List Int} {x4 rows : List (List Int)} (hlt : i < rows.length) (hx : (rows.getD i []).length ≤ 1048576) : ∀ (m j q : Nat), q + m = (rows.getD i []).length → m < j → q ≤ (rows.getD i []).findIdx (fun n => decide (x < n)) →
    spec_l9Insert.L1 k k1 j x i q x3 x4 x5 rows = spec_l9Insert.J3 k k1 x i (((rows.getD i []).findIdx (fun n => decide (x < n)) : Nat) : Int) x3 x4 x5 rows
  | m, 0, q, _, hj, _ => by omega
  | 0, j + 1, q, hm, _, hq => by
    rw [spec_l9Insert.L1_eq]
    have hle : (rows.getD i []).findIdx (fun n => decide (x < n)) ≤ (rows.getD i []).length := List.findIdx_le_length
    have e : (rows.getD i []).findIdx (fun n => decide (x < n)) = q := by omega
    have hn : ¬ q < (rows.getD i []).length := by omega
    simp (disch := omega) only [↓p_test, p_lt, p_le, p_ltN, p_leN, p_eqN, p_len, p_ofN, p_nat, p_rd, p_set, p_app, p_take, p_drop, p_rep, p_wrap, p_add, p_sub, p_no, p_eq, p_eqB, p_eqP, p_bnd_some, Pu.w64, Int.toNat_natCast, decide_eq_true_eq, Int.ofNat_lt, Int.ofNat_le, if_true, if_false, Int.natCast_nonneg, decide_true, decide_false, Bool.not_true, Bool.not_false, Bool.false_eq_true, Bool.not_eq_true, Bool.true_and, Bool.and_true, Bool.false_and, Bool.and_false, hlt, hn, e]
  | m + 1, j + 1, q, hm, hj, hq => by
    rw [spec_l9Insert.L1_eq]
    have hn : q < (rows.getD i []).length := by omega
    simp (disch := omega) only [↓p_test, p_lt, p_le, p_ltN, p_leN, p_eqN, p_len, p_ofN, p_nat, p_rd, p_set, p_app, p_take, p_drop, p_rep, p_wrap, p_add, p_sub, p_no, p_eq, p_eqB, p_eqP, p_bnd_some, Pu.w64, Int.toNat_natCast, decide_eq_true_eq, Int.ofNat_lt, Int.ofNat_le, if_true, if_false, Int.natCast_nonneg, decide_true, decide_false, Bool.not_true, Bool.not_false, Bool.false_eq_true, Bool.not_eq_true, Bool.true_and, Bool.and_true, Bool.false_and, Bool.and_false, hlt, hn, spec_l9Insert.J2_eq]
    by_cases c : (rows.getD i []).getD q 0 ≤ x
    · have hne : (rows.getD i []).findIdx (fun n => decide (x < n)) ≠ q := fun e => by
        have := Pu.findIdx_at (p := fun n => decide (x < n)) (r := rows.getD i []) (by rw [e]; exact hn)
        rw [e] at this
        simp only [decide_eq_true_eq] at this
        omega
      have ih := spec_l9Insert.inner (k := k) (k1 := k1) (x := x) (x3 := x3) (x4 := x4) (x5 := x5) hlt hx m j (q + 1) (by omega) (by omega) (by omega)
      rw [Int.natCast_succ] at ih
      simp (disch := omega) only [↓p_test, p_lt, p_le, p_ltN, p_leN, p_eqN, p_len, p_ofN, p_nat, p_rd, p_set, p_app, p_take, p_drop, p_rep, p_wrap, p_add, p_sub, p_no, p_eq, p_eqB, p_eqP, p_bnd_some, Pu.w64, Int.toNat_natCast, decide_eq_true_eq, Int.ofNat_lt, Int.ofNat_le, if_true, if_false, Int.natCast_nonneg, decide_true, decide_false, Bool.not_true, Bool.not_false, Bool.false_eq_true, Bool.not_eq_true, Bool.true_and, Bool.and_true, Bool.false_and, Bool.and_false, c, ih]
    · have e : (rows.getD i []).findIdx (fun n => decide (x < n)) = q := by
        refine Nat.le_antisymm (Pu.findIdx_le hn ?_) hq
        simp only [decide_eq_true_eq]; omega
      simp only [c, ↓p_test, p_lt, p_le, p_ltN, p_leN, p_eqN, p_len, p_ofN, p_nat, p_rd, p_set, p_app, p_take, p_drop, p_rep, p_wrap, p_add, p_sub, p_no, p_eq, p_eqB, p_eqP, p_bnd_some, Pu.w64, Int.toNat_natCast, decide_eq_true_eq, Int.ofNat_lt, Int.ofNat_le, if_true, if_false, Int.natCast_nonneg, decide_true, decide_false, Bool.not_true, Bool.not_false, Bool.false_eq_true, Bool.not_eq_true, Bool.true_and, Bool.and_true, Bool.false_and, Bool.and_false, e]
theorem spec_l9Insert.loop {k : Nat} {inner x3 : List Int} {x4 : List (List Int)} (hk : 4194304 ≤ k) : ∀ (m j i : Nat) (x : Int) (rows : List (List Int)), i + m = rows.length → m < j → rows.length ≤ 1048576 → (∀ r ∈ rows, r.length ≤ 1048576) →
    spec_l9Insert.L0 k j x i x3 x4 inner rows = some ((inner, rows.take i ++ (Pu.insRows (rows.drop i) x).1), ((i + (Pu.insRows (rows.drop i) x).2 : Nat) : Int))
  | m, 0, i, x, rows, _, hj, _, _ => by omega
  | 0, j + 1, i, x, rows, hm, _, hl, hr => by
    rw [spec_l9Insert.L0_eq]
    have e : i = rows.length := by omega
    subst e
    have h1 : rows.length + 1 ≤ 1099511627776 := by omega
    simp (disch := omega) only [↓p_test, p_lt, p_le, p_ltN, p_leN, p_eqN, p_len, p_ofN, p_nat, p_rd, p_set, p_app, p_take, p_drop, p_rep, p_wrap, p_add, p_sub, p_no, p_eq, p_eqB, p_eqP, p_bnd_some, Pu.w64, Int.toNat_natCast, decide_eq_true_eq, Int.ofNat_lt, Int.ofNat_le, if_true, if_false, Int.natCast_nonneg, decide_true, decide_false, Bool.not_true, Bool.not_false, Bool.false_eq_true, Bool.not_eq_true, Bool.true_and, Bool.and_true, Bool.false_and, Bool.and_false, Nat.lt_irrefl, h1, List.drop_length, List.take_length, Pu.insRows, List.length_append, List.length_cons, List.length_nil, Int.natCast_add, Int.natCast_one, Int.natCast_zero, Int.add_zero, Int.zero_add, Nat.zero_add, Nat.add_zero, Int.add_sub_cancel]
  | m + 1, j + 1, i, x, rows, hm, hj, hl, hr => by
    rw [spec_l9Insert.L0_eq]
    have hlt : i < rows.length := by omega
    have hx := hr _ (List.getElem_mem hlt)
    rw [← Pu.getD_lt hlt []] at hx
    have hin := spec_l9Insert.inner (k := k) (k1 := j) (x := x) (x3 := x3) (x4 := x4) (x5 := inner) hlt hx (rows.getD i []).length k 0 (by omega) (by omega) (by omega)
    rw [Int.natCast_zero] at hin
    rw [Pu.drop_cons hlt []]
    unfold Pu.insRows
    generalize hf : (rows.getD i []).findIdx (fun n => decide (x < n)) = f at *
    have hle : f ≤ (rows.getD i []).length := by rw [← hf]; exact List.findIdx_le_length
    simp (disch := omega) only [↓p_test, p_lt, p_le, p_ltN, p_leN, p_eqN, p_len, p_ofN, p_nat, p_rd, p_set, p_app, p_take, p_drop, p_rep, p_wrap, p_add, p_sub, p_no, p_eq, p_eqB, p_eqP, p_bnd_some, Pu.w64, Int.toNat_natCast, decide_eq_true_eq, Int.ofNat_lt, Int.ofNat_le, if_true, if_false, Int.natCast_nonneg, decide_true, decide_false, Bool.not_true, Bool.not_false, Bool.false_eq_true, Bool.not_eq_true, Bool.true_and, Bool.and_true, Bool.false_and, Bool.and_false, hlt, hin]
    rw [spec_l9Insert.J3_eq]
    by_cases c : f < (rows.getD i []).length
    · rw [if_pos c]
      have ih := spec_l9Insert.loop (inner := inner) (x3 := x3) (x4 := x4) hk m j (i + 1) ((rows.getD i []).getD f 0) (rows.set i ((rows.getD i []).set f x)) (by rw [List.length_set]; omega) (by omega) (by rw [List.length_set]; exact hl) (fun r h => by
        rcases List.mem_or_eq_of_mem_set h with h | rfl
        · exact hr r h
        · rw [List.length_set]; exact hx)
      rw [Pu.take_set_self hlt, Pu.drop_set_next, Int.natCast_succ] at ih
      have hn : ¬ (f : Int) = ((rows.getD i []).length : Int) := by omega
      simp (disch := omega) only [↓p_test, p_lt, p_le, p_ltN, p_leN, p_eqN, p_len, p_ofN, p_nat, p_rd, p_set, p_app, p_take, p_drop, p_rep, p_wrap, p_add, p_sub, p_no, p_eq, p_eqB, p_eqP, p_bnd_some, Pu.w64, Int.toNat_natCast, decide_eq_true_eq, Int.ofNat_lt, Int.ofNat_le, if_true, if_false, Int.natCast_nonneg, decide_true, decide_false, Bool.not_true, Bool.not_false, Bool.false_eq_true, Bool.not_eq_true, Bool.true_and, Bool.and_true, Bool.false_and, Bool.and_false, hlt, hn, c, ih]
      simp only [List.append_assoc, List.singleton_append]
      congr 2
      omega
    · rw [if_neg c]
      have hn : (f : Int) = ((rows.getD i []).length : Int) := by omega
      have h1 : (rows.getD i [] ++ [x]).length ≤ 1099511627776 := by simp only [List.length_append, List.length_cons, List.length_nil]; omega
      simp (disch := omega) only [↓p_test, p_lt, p_le, p_ltN, p_leN, p_eqN, p_len, p_ofN, p_nat, p_rd, p_set, p_app, p_take, p_drop, p_rep, p_wrap, p_add, p_sub, p_no, p_eq, p_eqB, p_eqP, p_bnd_some, Pu.w64, Int.toNat_natCast, decide_eq_true_eq, Int.ofNat_lt, Int.ofNat_le, if_true, if_false, Int.natCast_nonneg, decide_true, decide_false, Bool.not_true, Bool.not_false, Bool.false_eq_true, Bool.not_eq_true, Bool.true_and, Bool.and_true, Bool.false_and, Bool.and_false, hlt, hn, h1, Nat.add_zero]
      rw [Pu.set_split hlt]
theorem spec_l9Insert.is {k : Nat} {t : Pu.Tab} {x : Int} (hk : 4194304 + 2 ≤ k) (h1 : t.1.length ≤ 1048576) (hl : t.2.length ≤ 1048576) (hr : ∀ r ∈ t.2, r.length ≤ 1048576) :
    spec_l9Insert k t x = some ((t.1, (Pu.insRows t.2 x).1), (((Pu.insRows t.2 x).2 : Nat) : Int)) := by
  obtain ⟨k, rfl⟩ : ∃ k', k = k' + 1 := ⟨k - 1, by omega⟩
  rw [spec_l9Insert.eq, spec_l5Copy.is (by omega) h1 hl hr, p_bnd_some]
  have h := spec_l9Insert.loop (k := k) (inner := t.1) (x3 := []) (x4 := []) (by omega) t.2.length k 0 x t.2 (by omega) (by omega) hl hr
  rw [Int.natCast_zero] at h
  simpa using h
-- spec_InsertNumber
theorem spec_InsertNumber.is {k : Nat} {t : Pu.Tab} {x : Int} (hk : 4194304 + 7 ≤ k) (h1 : t.1.length ≤ 1048576) (hl : t.2.length ≤ 1048576) (hr : ∀ r ∈ t.2, r.length ≤ 1048576) : spec_InsertNumber k t x = some (Pu.insertNumber t x) := by
  obtain ⟨k, rfl⟩ : ∃ k', k = k' + 1 := ⟨k - 1, by omega⟩
  rw [spec_InsertNumber.eq, spec_l9Plain.is (by omega) h1 hl hr, p_bnd_some]
  unfold Pu.insertNumber
  cases hp : Pu.isPlain t with
  | false => simp
  | true =>
    have h9 := Pu.plain_nine hp
    simp only [↓p_test, p_lt, p_le, p_ltN, p_leN, p_eqN, p_len, p_ofN, p_nat, p_rd, p_set, p_app, p_take, p_drop, p_rep, p_wrap, p_add, p_sub, p_no, p_eq, p_eqB, p_eqP, p_bnd_some, Pu.w64, Int.toNat_natCast, decide_eq_true_eq, Int.ofNat_lt, Int.ofNat_le, if_true, if_false, Int.natCast_nonneg, decide_true, decide_false, Bool.not_true, Bool.not_false, Bool.false_eq_true, Bool.not_eq_true, Bool.true_and, Bool.and_true, Bool.false_and, Bool.and_false]
    rw [spec_l1In.is (by omega), p_bnd_some]
    cases hw : Pu.within x 1 9 with
    | false => simp
    | true =>
      simp only [↓p_test, p_lt, p_le, p_ltN, p_leN, p_eqN, p_len, p_ofN, p_nat, p_rd, p_set, p_app, p_take, p_drop, p_rep, p_wrap, p_add, p_sub, p_no, p_eq, p_eqB, p_eqP, p_bnd_some, Pu.w64, Int.toNat_natCast, decide_eq_true_eq, Int.ofNat_lt, Int.ofNat_le, if_true, if_false, Int.natCast_nonneg, decide_true, decide_false, Bool.not_true, Bool.not_false, Bool.false_eq_true, Bool.not_eq_true, Bool.true_and, Bool.and_true, Bool.false_and, Bool.and_false]
      rw [spec_l5Numbers.is (by omega) hl (by omega), p_bnd_some]
      by_cases c : t.2.flatten.length < 9
      · have c' : ¬ (9 : Int) ≤ (t.2.flatten.length : Nat) := by omega
        simp only [c, c', ↓p_test, p_lt, p_le, p_ltN, p_leN, p_eqN, p_len, p_ofN, p_nat, p_rd, p_set, p_app, p_take, p_drop, p_rep, p_wrap, p_add, p_sub, p_no, p_eq, p_eqB, p_eqP, p_bnd_some, Pu.w64, Int.toNat_natCast, decide_eq_true_eq, Int.ofNat_lt, Int.ofNat_le, if_true, if_false, Int.natCast_nonneg, decide_true, decide_false, Bool.not_true, Bool.not_false, Bool.false_eq_true, Bool.not_eq_true, Bool.true_and, Bool.and_true, Bool.false_and, Bool.and_false]
        rw [spec_InsertNumber.J0_eq, spec_l9Insert.is (by omega) h1 hl hr]
        simp
      · have c' : (9 : Int) ≤ (t.2.flatten.length : Nat) := by omega
        simp only [c, c', ↓p_test, p_lt, p_le, p_ltN, p_leN, p_eqN, p_len, p_ofN, p_nat, p_rd, p_set, p_app, p_take, p_drop, p_rep, p_wrap, p_add, p_sub, p_no, p_eq, p_eqB, p_eqP, p_bnd_some, Pu.w64, Int.toNat_natCast, decide_eq_true_eq, Int.ofNat_lt, Int.ofNat_le, if_true, if_false, Int.natCast_nonneg, decide_true, decide_false, Bool.not_true, Bool.not_false, Bool.false_eq_true, Bool.not_eq_true, Bool.true_and, Bool.and_true, Bool.false_and, Bool.and_false]
        simp
-- spec_AddBox
theorem spec_AddBox.tail {k : Nat} {o p : List Int} {r : Int} (hk : 4194304 + 1 ≤ k) (hp : p.length ≤ 1048576) (hb : ∀ x ∈ p, x ≤ 1000000000 ∧ -1000000000 ≤ x) (h0 : 0 ≤ r) (h1 : r < p.length) :
    spec_AddBox.J1 k r p = some (if Pu.isPart (p.set r.toNat (p.getD r.toNat 0 + 1)) = true then (p.set r.toNat (p.getD r.toNat 0 + 1), true) else ([], false)) := by
  rw [spec_AddBox.J1_eq]
  have hn : r.toNat < p.length := by omega
  have hx := hb _ (List.getElem_mem hn)
  rw [← Pu.getD_lt hn 0] at hx
  have ew : IntKind.i64.wrap (p.getD r.toNat 0 + 1) = p.getD r.toNat 0 + 1 := Pu.w64 (by omega) (by omega)
  have hi := spec_IsPartition.is (k := k) (p := p.set r.toNat (p.getD r.toNat 0 + 1)) hk (by rw [List.length_set]; exact hp)
  by_cases hq : Pu.isPart (p.set r.toNat (p.getD r.toNat 0 + 1)) = true
  · simp only [↓p_test, p_lt, p_le, p_ltN, p_leN, p_eqN, p_len, p_ofN, p_nat, p_rd, p_set, p_app, p_take, p_drop, p_rep, p_wrap, p_add, p_sub, p_no, p_eq, p_eqB, p_eqP, p_bnd_some, Pu.w64, Int.toNat_natCast, decide_eq_true_eq, Int.ofNat_lt, Int.ofNat_le, if_true, if_false, Int.natCast_nonneg, decide_true, decide_false, Bool.not_true, Bool.not_false, Bool.false_eq_true, Bool.not_eq_true, Bool.true_and, Bool.and_true, Bool.false_and, Bool.and_false, h0, hn, ew, hi, hq]
  · simp only [Bool.not_eq_true] at hq
    simp only [↓p_test, p_lt, p_le, p_ltN, p_leN, p_eqN, p_len, p_ofN, p_nat, p_rd, p_set, p_app, p_take, p_drop, p_rep, p_wrap, p_add, p_sub, p_no, p_eq, p_eqB, p_eqP, p_bnd_some, Pu.w64, Int.toNat_natCast, decide_eq_true_eq, Int.ofNat_lt, Int.ofNat_le, if_true, if_false, Int.natCast_nonneg, decide_true, decide_false, Bool.not_true, Bool.not_false, Bool.false_eq_true, Bool.not_eq_true, Bool.true_and, Bool.and_true, Bool.false_and, Bool.and_false, h0, hn, ew, hi, hq]
theorem spec_AddBox.is {k : Nat} {p : List Int} {r : Int} (hk : 4194304 + 3 ≤ k) (hp : p.length ≤ 1000000) : spec_AddBox k p r = some (Pu.addBox p r) := by
  obtain ⟨k, rfl⟩ : ∃ k', k = k' + 1 := ⟨k - 1, by omega⟩
  rw [spec_AddBox.eq, spec_IsPartition.is (by omega) (by omega), p_bnd_some]
  unfold Pu.addBox
  by_cases h1 : Pu.isPart p = true
  · have hb : ∀ x ∈ p, x ≤ 1000000000 ∧ -1000000000 ≤ x := fun x hx => by
      have := (Pu.isPart_spec h1).1 x hx
      omega
    by_cases h2 : r < 0
    · have h3 : ¬ 0 ≤ r := by omega
      simp [h1, h2, h3]
    · by_cases h3 : (p.length : Int) < r
      · have h4 : ¬ r ≤ p.length := by omega
        simp [h1, h2, h3, h4]
      · have h2' : 0 ≤ r := by omega
        have h3' : r ≤ p.length := by omega
        have hl : ([] ++ p).length ≤ 1099511627776 := by simp; omega
        rw [spec_AddBox.J0_eq]
        by_cases e : r = p.length
        · have hr : r < (p ++ [0]).length := by rw [List.length_append]; simp; omega
          have ht := spec_AddBox.tail (o := p) (k := k) (p := p ++ [0]) (r := r) (by omega) (by rw [List.length_append]; simp; omega) (fun x hx => by
            rcases List.mem_append.1 hx with h | h
            · exact hb x h
            · simp at h; omega) h2' hr
          have hlim : (p ++ [(0 : Int)]).length ≤ 1099511627776 := by rw [List.length_append]; simp; omega
          have hlim' : p.length ≤ 1099511627776 := by omega
          have e' : (r = (p.length : Int)) = True := eq_true e
          simp only [↓p_test, p_lt, p_le, p_ltN, p_leN, p_eqN, p_len, p_ofN, p_nat, p_rd, p_set, p_app, p_take, p_drop, p_rep, p_wrap, p_add, p_sub, p_no, p_eq, p_eqB, p_eqP, p_bnd_some, Pu.w64, Int.toNat_natCast, decide_eq_true_eq, Int.ofNat_lt, Int.ofNat_le, if_true, if_false, Int.natCast_nonneg, decide_true, decide_false, Bool.not_true, Bool.not_false, Bool.false_eq_true, Bool.not_eq_true, Bool.true_and, Bool.and_true, Bool.false_and, Bool.and_false, h1, h2, h3, e', hlim, hlim', List.nil_append]
          rw [ht]; simp only [h2', h3', and_self, if_true]
        · have ht := spec_AddBox.tail (o := p) (k := k) (p := p) (r := r) (by omega) (by omega) hb h2' (by omega)
          have hlim' : p.length ≤ 1099511627776 := by omega
          simp only [↓p_test, p_lt, p_le, p_ltN, p_leN, p_eqN, p_len, p_ofN, p_nat, p_rd, p_set, p_app, p_take, p_drop, p_rep, p_wrap, p_add, p_sub, p_no, p_eq, p_eqB, p_eqP, p_bnd_some, Pu.w64, Int.toNat_natCast, decide_eq_true_eq, Int.ofNat_lt, Int.ofNat_le, if_true, if_false, Int.natCast_nonneg, decide_true, decide_false, Bool.not_true, Bool.not_false, Bool.false_eq_true, Bool.not_eq_true, Bool.true_and, Bool.and_true, Bool.false_and, Bool.and_false, h1, h2, h3, e, hlim', List.nil_append]
          rw [ht]; simp only [h2', h3', and_self, if_true]
  · simp only [Bool.not_eq_true] at h1
    simp [h1]
-- spec_l2Same
theorem spec_l2Same.loop {k : Nat} {a b : List Int} (hl : a.length = b.length) (ha : a.length ≤ 1048576) : ∀ (m j i : Nat), i + m = a.length → m < j → spec_l2Same.L0 k j i a b = some (decide (a.drop i = b.drop i))
  | m, 0, i, _, hj => by omega
  | 0, j + 1, i, hi, _ => by
    rw [spec_l2Same.L0_eq]
    have e : i = a.length := by omega
    subst e
    simp [hl]
  | m + 1, j + 1, i, hi, hj => by
    rw [spec_l2Same.L0_eq]
    have h1 : i < a.length := by omega
    have h2 : i < b.length := by omega
    have ih := spec_l2Same.loop (k := k) hl ha m j (i + 1) (by omega) (by omega)
    rw [Int.natCast_succ] at ih
    rw [Pu.drop_cons h1 0, Pu.drop_cons h2 0]
    by_cases e : a.getD i 0 = b.getD i 0 <;> simp (disch := omega) only [p_test, p_lt, p_le, p_ltN, p_len, p_ofN, p_nat, p_rd, p_wrap, p_add, p_no, p_eq, Pu.w64, Int.toNat_natCast, decide_eq_true_eq, Int.ofNat_lt, h1, h2, if_true, Int.natCast_nonneg, decide_true, ih, e, List.cons.injEq, true_and, false_and, decide_false, Bool.not_true, Bool.not_false, if_false, Bool.false_eq_true]
theorem spec_l2Same.is {k : Nat} {a b : List Int} (hk : 4194304 + 1 ≤ k) (ha : a.length ≤ 1048576) : spec_l2Same k a b = some (decide (a = b)) := by
  obtain ⟨k, rfl⟩ : ∃ k', k = k' + 1 := ⟨k - 1, by omega⟩
  rw [spec_l2Same.eq]
  by_cases hl : a.length = b.length
  · have h := spec_l2Same.loop (k := k) hl ha a.length k 0 (by omega) (by omega)
    rw [Int.natCast_zero] at h
    simp only [List.drop_zero] at h
    have hl' : (a.length : Int) = b.length := by omega
    simp only [p_test, p_no, p_eq, p_ofN, p_len, hl', decide_true, Bool.not_true, Bool.false_eq_true, if_false, h]
  · have hne : a ≠ b := fun e => hl (by rw [e])
    have hl' : ¬ (a.length : Int) = b.length := by omega
    simp [hl', hne]
-- spec_EqualTableau
theorem spec_EqualTableau.loop {k : Nat} {p q : List Int} {a b : List (List Int)} (hk : 4194304 + 1 ≤ k) (hl : a.length = b.length) (ha : a.length ≤ 1048576) (hr : ∀ x ∈ a, x.length ≤ 1048576) : ∀ (m j i : Nat), i + m = a.length → m < j → spec_EqualTableau.L1 k j i p a q b = some (decide (a.drop i = b.drop i))
  | m, 0, i, _, hj => by omega
  | 0, j + 1, i, hi, _ => by
    rw [spec_EqualTableau.L1_eq]
    have e : i = a.length := by omega
    subst e
    simp [hl]
  | m + 1, j + 1, i, hi, hj => by
    rw [spec_EqualTableau.L1_eq]
    have h1 : i < a.length := by omega
    have h2 : i < b.length := by omega
    have ih := spec_EqualTableau.loop (k := k) (p := p) (q := q) hk hl ha hr m j (i + 1) (by omega) (by omega)
    rw [Int.natCast_succ] at ih
    have hx : (a.getD i []).length ≤ 1048576 := by rw [Pu.getD_lt h1 []]; exact hr _ (List.getElem_mem h1)
    have hs := spec_l2Same.is (k := k) (b := b.getD i []) hk hx
    rw [Pu.drop_cons h1 [], Pu.drop_cons h2 []]
    by_cases e : a.getD i [] = b.getD i []
    · rw [e] at hs
      simp (disch := omega) only [↓p_test, p_lt, p_le, p_ltN, p_leN, p_eqN, p_len, p_ofN, p_nat, p_rd, p_set, p_app, p_take, p_drop, p_rep, p_wrap, p_add, p_sub, p_no, p_eq, p_eqB, p_eqP, p_bnd_some, Pu.w64, Int.toNat_natCast, decide_eq_true_eq, Int.ofNat_lt, Int.ofNat_le, if_true, if_false, Int.natCast_nonneg, decide_true, decide_false, Bool.not_true, Bool.not_false, Bool.false_eq_true, Bool.not_eq_true, Bool.true_and, Bool.and_true, Bool.false_and, Bool.and_false, h1, h2, hs, ih, e, List.cons.injEq, true_and, false_and, eq_self]
    · simp (disch := omega) only [↓p_test, p_lt, p_le, p_ltN, p_leN, p_eqN, p_len, p_ofN, p_nat, p_rd, p_set, p_app, p_take, p_drop, p_rep, p_wrap, p_add, p_sub, p_no, p_eq, p_eqB, p_eqP, p_bnd_some, Pu.w64, Int.toNat_natCast, decide_eq_true_eq, Int.ofNat_lt, Int.ofNat_le, if_true, if_false, Int.natCast_nonneg, decide_true, decide_false, Bool.not_true, Bool.not_false, Bool.false_eq_true, Bool.not_eq_true, Bool.true_and, Bool.and_true, Bool.false_and, Bool.and_false, h1, h2, hs, ih, e, List.cons.injEq, true_and, false_and]
theorem spec_EqualTableau.is {k : Nat} {a b : List Int × List (List Int)} (hk : 4194304 + 2 ≤ k) (h1 : a.1.length ≤ 1048576) (ha : a.2.length ≤ 1048576) (hr : ∀ x ∈ a.2, x.length ≤ 1048576) : spec_EqualTableau k a b = some (decide (a = b)) := by
  obtain ⟨k, rfl⟩ : ∃ k', k = k' + 1 := ⟨k - 1, by omega⟩
  obtain ⟨a1, a2⟩ := a
  obtain ⟨b1, b2⟩ := b
  have hs := spec_l2Same.is (k := k) (a := a1) (b := b1) (by omega) h1
  rw [spec_EqualTableau.eq, hs, p_bnd_some, spec_EqualTableau.J0_eq]
  by_cases e1 : a1 = b1
  · subst e1
    by_cases hl : a2.length = b2.length
    · have h := spec_EqualTableau.loop (k := k) (p := a1) (q := a1) (a := a2) (b := b2) (by omega) hl ha hr a2.length k 0 (by omega) (by simp only at ha; omega)
      rw [Int.natCast_zero] at h
      simp only [List.drop_zero] at h
      have hl' : (a2.length : Int) = b2.length := by omega
      simp only [↓p_test, p_lt, p_le, p_ltN, p_leN, p_eqN, p_len, p_ofN, p_nat, p_rd, p_set, p_app, p_take, p_drop, p_rep, p_wrap, p_add, p_sub, p_no, p_eq, p_eqB, p_eqP, p_bnd_some, Pu.w64, Int.toNat_natCast, decide_eq_true_eq, Int.ofNat_lt, Int.ofNat_le, if_true, if_false, Int.natCast_nonneg, decide_true, decide_false, Bool.not_true, Bool.not_false, Bool.false_eq_true, Bool.not_eq_true, Bool.true_and, Bool.and_true, Bool.false_and, Bool.and_false, hl', h, Prod.mk.injEq, true_and, eq_self]
    · have hne : a2 ≠ b2 := fun e => hl (by rw [e])
      have hl' : ¬ (a2.length : Int) = b2.length := by omega
      simp [hl', hne]
  · simp [e1]
-- laws_sameInts
theorem laws_sameInts.loop {k : Nat} {a b : List Int} (hl : a.length = b.length) (ha : a.length ≤ 1048576) : ∀ (m j i : Nat), i + m = a.length → m < j → laws_sameInts.L0 k j i a b = some (decide (a.drop i = b.drop i))
  | m, 0, i, _, hj => by omega
  | 0, j + 1, i, hi, _ => by
    rw [laws_sameInts.L0_eq]
    have e : i = a.length := by omega
    subst e
    simp [hl]
  | m + 1, j + 1, i, hi, hj => by
    rw [laws_sameInts.L0_eq]
    have h1 : i < a.length := by omega
    have h2 : i < b.length := by omega
    have ih := laws_sameInts.loop (k := k) hl ha m j (i + 1) (by omega) (by omega)
    rw [Int.natCast_succ] at ih
    rw [Pu.drop_cons h1 0, Pu.drop_cons h2 0]
    by_cases e : a.getD i 0 = b.getD i 0 <;> simp (disch := omega) only [p_test, p_lt, p_le, p_ltN, p_len, p_ofN, p_nat, p_rd, p_wrap, p_add, p_no, p_eq, Pu.w64, Int.toNat_natCast, decide_eq_true_eq, Int.ofNat_lt, h1, h2, if_true, Int.natCast_nonneg, decide_true, ih, e, List.cons.injEq, true_and, false_and, decide_false, Bool.not_true, Bool.not_false, if_false, Bool.false_eq_true]
theorem laws_sameInts.is {k : Nat} {a b : List Int} (hk : 4194304 + 1 ≤ k) (ha : a.length ≤ 1048576) : laws_sameInts k a b = some (decide (a = b)) := by
  obtain ⟨k, rfl⟩ : ∃ k', k = k' + 1 := ⟨k - 1, by omega⟩
  rw [laws_sameInts.eq]
  by_cases hl : a.length = b.length
  · have h := laws_sameInts.loop (k := k) hl ha a.length k 0 (by omega) (by omega)
    rw [Int.natCast_zero] at h
    simp only [List.drop_zero] at h
    have hl' : (a.length : Int) = b.length := by omega
    simp only [p_test, p_no, p_eq, p_ofN, p_len, hl', decide_true, Bool.not_true, Bool.false_eq_true, if_false, h]
  · have hne : a ≠ b := fun e => hl (by rw [e])
    have hl' : ¬ (a.length : Int) = b.length := by omega
    simp [hl', hne]
-- spec_l2Turn
theorem spec_l2Turn.inner {k k1 : Nat} {c : Nat} {p acc : List Int} (hk : 1 ≤ k) (hc : c ≤ 1000) (hp : p.length ≤ 1048576) (hacc : acc.length ≤ 1000) : ∀ (m j i : Nat) (s : Int), i + m = p.length → m < j → 0 ≤ s → s ≤ i → spec_l2Turn.L2 k k1 j c s i p acc = spec_l2Turn.L0 k k1 ((c + 1 : Nat) : Int) p (acc ++ [s + Pu.colI (p.drop i) c])
  | m, 0, i, s, _, hj, _, _ => by omega
  | 0, j + 1, i, s, hi, _, _, _ => by
    rw [spec_l2Turn.L2_eq]
    have e : i = p.length := by omega
    subst e
    have ew : IntKind.i64.wrap ((c : Int) + 1) = ((c + 1 : Nat) : Int) := by rw [Pu.w64 (by omega) (by omega)]; omega
    have hlim : (acc ++ [s]).length ≤ 1099511627776 := by rw [List.length_append]; simp; omega
    simp only [↓p_test, p_lt, p_le, p_ltN, p_leN, p_eqN, p_len, p_ofN, p_nat, p_rd, p_set, p_app, p_take, p_drop, p_rep, p_wrap, p_add, p_sub, p_no, p_eq, p_eqB, p_eqP, p_bnd_some, Pu.w64, Int.toNat_natCast, decide_eq_true_eq, Int.ofNat_lt, Int.ofNat_le, if_true, if_false, Int.natCast_nonneg, decide_true, decide_false, Bool.not_true, Bool.not_false, Bool.false_eq_true, Bool.not_eq_true, Bool.true_and, Bool.and_true, Bool.false_and, Bool.and_false, Int.lt_irrefl, ew, hlim, List.drop_length, Pu.colI, Int.add_zero]
  | m + 1, j + 1, i, s, hi, hj, h1, h2 => by
    rw [spec_l2Turn.L2_eq]
    have hlt : i < p.length := by omega
    have ew : IntKind.i64.wrap ((i : Int) + 1) = ((i + 1 : Nat) : Int) := by rw [Pu.w64 (by omega) (by omega)]; omega
    rw [Pu.drop_cons hlt 0, spec_l1Bit.is hk]
    by_cases hx : (c : Int) < p.getD i 0
    · have es : IntKind.i64.wrap (s + 1) = s + 1 := Pu.w64 (by omega) (by omega)
      have ih := spec_l2Turn.inner (k := k) (k1 := k1) hk hc hp hacc m j (i + 1) (s + 1) (by omega) (by omega) (by omega) (by omega)
      simp only [↓p_test, p_lt, p_le, p_ltN, p_leN, p_eqN, p_len, p_ofN, p_nat, p_rd, p_set, p_app, p_take, p_drop, p_rep, p_wrap, p_add, p_sub, p_no, p_eq, p_eqB, p_eqP, p_bnd_some, Pu.w64, Int.toNat_natCast, decide_eq_true_eq, Int.ofNat_lt, Int.ofNat_le, if_true, if_false, Int.natCast_nonneg, decide_true, decide_false, Bool.not_true, Bool.not_false, Bool.false_eq_true, Bool.not_eq_true, Bool.true_and, Bool.and_true, Bool.false_and, Bool.and_false, hlt, hx, es, ew, ih, Pu.colI, Int.add_assoc]
    · have es : IntKind.i64.wrap (s + 0) = s := by rw [Int.add_zero]; exact Pu.w64 (by omega) (by omega)
      have ih := spec_l2Turn.inner (k := k) (k1 := k1) hk hc hp hacc m j (i + 1) s (by omega) (by omega) (by omega) (by omega)
      simp only [↓p_test, p_lt, p_le, p_ltN, p_leN, p_eqN, p_len, p_ofN, p_nat, p_rd, p_set, p_app, p_take, p_drop, p_rep, p_wrap, p_add, p_sub, p_no, p_eq, p_eqB, p_eqP, p_bnd_some, Pu.w64, Int.toNat_natCast, decide_eq_true_eq, Int.ofNat_lt, Int.ofNat_le, if_true, if_false, Int.natCast_nonneg, decide_true, decide_false, Bool.not_true, Bool.not_false, Bool.false_eq_true, Bool.not_eq_true, Bool.true_and, Bool.and_true, Bool.false_and, Bool.and_false, hlt, hx, es, ew, ih, Pu.colI, Int.zero_add]
theorem spec_l2Turn.loop {k : Nat} {p : List Int} (hk : 4194304 + 1 ≤ k) (hpart : Pu.isPart p = true) : ∀ (m j c : Nat) (acc : List Int), c + m = (p.getD 0 0).toNat → m < j → c ≤ 9 → acc.length = c → spec_l2Turn.L0 k j c p acc = some (acc ++ Pu.conjGo p m c)
  | m, 0, c, acc, _, hj, _, _ => by omega
  | 0, j + 1, c, acc, hm, _, _, _ => by
    rw [spec_l2Turn.L0_eq]
    by_cases h0 : 0 < p.length
    · have h1 : ¬ (c : Int) < p.getD 0 0 := by omega
      have h00 : (0 : Int).toNat = 0 := rfl
      have h0' : (0 : Int) < p.length := by omega
      simp only [↓p_test, p_lt, p_le, p_ltN, p_leN, p_eqN, p_len, p_ofN, p_nat, p_rd, p_set, p_app, p_take, p_drop, p_rep, p_wrap, p_add, p_sub, p_no, p_eq, p_eqB, p_eqP, p_bnd_some, Pu.w64, Int.toNat_natCast, decide_eq_true_eq, Int.ofNat_lt, Int.ofNat_le, if_true, if_false, Int.natCast_nonneg, decide_true, decide_false, Bool.not_true, Bool.not_false, Bool.false_eq_true, Bool.not_eq_true, Bool.true_and, Bool.and_true, Bool.false_and, Bool.and_false, h0, h0', h00, h1, Pu.conjGo, List.append_nil, Int.le_refl]
    · have h0' : ¬ (0 : Int) < p.length := by omega
      simp only [↓p_test, p_lt, p_le, p_ltN, p_leN, p_eqN, p_len, p_ofN, p_nat, p_rd, p_set, p_app, p_take, p_drop, p_rep, p_wrap, p_add, p_sub, p_no, p_eq, p_eqB, p_eqP, p_bnd_some, Pu.w64, Int.toNat_natCast, decide_eq_true_eq, Int.ofNat_lt, Int.ofNat_le, if_true, if_false, Int.natCast_nonneg, decide_true, decide_false, Bool.not_true, Bool.not_false, Bool.false_eq_true, Bool.not_eq_true, Bool.true_and, Bool.and_true, Bool.false_and, Bool.and_false, h0', Pu.conjGo, List.append_nil]
  | m + 1, j + 1, c, acc, hm, hj, hc, ha => by
    have hl := (Pu.isPart_spec hpart).2.2.1
    rw [spec_l2Turn.L0_eq]
    have h1 : (c : Int) < p.getD 0 0 := by omega
    have h0 : 0 < p.length := by
      cases p with
      | nil => simp at h1; omega
      | cons y ys => simp
    have h0' : (0 : Int) < p.length := by omega
    have h00 : (0 : Int).toNat = 0 := rfl
    have hx : p.getD 0 0 ≤ 9 := by
      cases p with
      | nil => simp
      | cons y ys => have := (Pu.isPart_spec hpart).1 y List.mem_cons_self; simpa using this.2
    have ih := spec_l2Turn.loop hk hpart m j (c + 1) (acc ++ [Pu.colI p c]) (by omega) (by omega) (by omega) (by rw [List.length_append]; simp; omega)
    have hin := spec_l2Turn.inner (k := k) (k1 := j) (c := c) (p := p) (acc := acc) (by omega) (by omega) (by omega) (by omega) p.length k 0 0 (by omega) (by omega) (by omega) (by omega)
    rw [Int.natCast_zero, List.drop_zero, Int.zero_add] at hin
    simp only [↓p_test, p_lt, p_le, p_ltN, p_leN, p_eqN, p_len, p_ofN, p_nat, p_rd, p_set, p_app, p_take, p_drop, p_rep, p_wrap, p_add, p_sub, p_no, p_eq, p_eqB, p_eqP, p_bnd_some, Pu.w64, Int.toNat_natCast, decide_eq_true_eq, Int.ofNat_lt, Int.ofNat_le, if_true, if_false, Int.natCast_nonneg, decide_true, decide_false, Bool.not_true, Bool.not_false, Bool.false_eq_true, Bool.not_eq_true, Bool.true_and, Bool.and_true, Bool.false_and, Bool.and_false, h0, h0', h00, h1, Int.le_refl]
    rw [spec_l2Turn.J1_eq, hin, ih]
    simp only [Pu.conjGo, List.append_assoc, List.cons_append, List.nil_append]
-- spec_Conjugate
theorem spec_Conjugate.is {k : Nat} {p : List Int} (hk : 4194304 + 4 ≤ k) (hp : p.length ≤ 1048576) : spec_Conjugate k p = some (Pu.conj p) := by
  obtain ⟨k, rfl⟩ : ∃ k', k = k' + 2 := ⟨k - 2, by omega⟩
  rw [spec_Conjugate.eq, spec_IsPartition.is (by omega) hp, p_bnd_some, spec_l2Turn.eq]
  unfold Pu.conj
  by_cases h : Pu.isPart p = true
  · have hx : p.getD 0 0 ≤ 9 := by
      cases p with
      | nil => simp
      | cons y ys => have := (Pu.isPart_spec h).1 y List.mem_cons_self; simpa using this.2
    have hl := spec_l2Turn.loop (k := k) (by omega) h (p.getD 0 0).toNat k 0 [] (by omega) (by omega) (by omega) rfl
    rw [Int.natCast_zero, List.nil_append] at hl
    simp only [↓p_test, p_lt, p_le, p_ltN, p_leN, p_eqN, p_len, p_ofN, p_nat, p_rd, p_set, p_app, p_take, p_drop, p_rep, p_wrap, p_add, p_sub, p_no, p_eq, p_eqB, p_eqP, p_bnd_some, Pu.w64, Int.toNat_natCast, decide_eq_true_eq, Int.ofNat_lt, Int.ofNat_le, if_true, if_false, Int.natCast_nonneg, decide_true, decide_false, Bool.not_true, Bool.not_false, Bool.false_eq_true, Bool.not_eq_true, Bool.true_and, Bool.and_true, Bool.false_and, Bool.and_false, h, hl]
  · simp only [Bool.not_eq_true] at h
    simp [h]
-- laws_FnPure
theorem laws_FnPure.L3_ok {k : Nat} {x r : Int} {t : Pu.Tab} {s u : ByteArray} {p : List Int} (hk : 4194304 + 20 ≤ k) (ht : TabLe 10 9 10 t) (hp : p.length ≤ 15) (hs : spec_TableauText k t = some s) (hu : spec_PartitionText k p = some u) :
    ∀ (m j i : Nat) (c : List Int), i + m = c.length → m < j → c.length ≤ 1000 → laws_FnPure.L3 k j x s r u (Pu.insertNumber t x).2.2 (Pu.addBox p r).2 i p c t.1 t.2 = some true
  | m, 0, i, c, _, hj, _ => by omega
  | 0, j + 1, i, c, hi, _, _ => by
    rw [laws_FnPure.L3_eq]
    obtain ⟨c1, c2, c3⟩ := ht.tab (by omega) (by omega) (by omega)
    have h1 := impl_InsertNumber.is (k := k) (t := t) (x := x) (by omega) c1 c2 c3
    have h2 := spec_InsertNumber.is (k := k) (t := t) (x := x) (by omega) c1 c2 c3
    have h3 := impl_AddBox.is (k := k) (p := p) (r := r) (by omega) (by omega)
    have h4 := spec_AddBox.is (k := k) (p := p) (r := r) (by omega) (by omega)
    have hg := Pu.insertNumber_ok (t := t) ⟨c1, c2, c3⟩ x
    have h5 := spec_EqualTableau.is (k := k) (a := (Pu.insertNumber t x).1) (b := (Pu.insertNumber t x).1) (by omega) hg.1 hg.2.1 hg.2.2
    have hl : (Pu.addBox p r).1.length ≤ 1048576 := by have := Pu.addBox_len p r; omega
    have h6 := laws_sameInts.is (k := k) (a := (Pu.addBox p r).1) (b := (Pu.addBox p r).1) (by omega) hl
    have h7 := impl_Conjugate.is (k := k) (p := p) (by omega) (by omega)
    have h8 := spec_Conjugate.is (k := k) (p := p) (by omega) (by omega)
    have hc : (Pu.conj p).length ≤ 1048576 := by have := Pu.conj_len p; omega
    have h9 := laws_sameInts.is (k := k) (a := Pu.conj p) (b := Pu.conj p) (by omega) hc
    have hn : ¬ ((i : Int) < (c.length : Int)) := by omega
    rw [show ((t.1, t.2) : Pu.Tab) = t from rfl]
    simp only [↓p_test, p_lt, p_le, p_ltN, p_leN, p_eqN, p_len, p_ofN, p_nat, p_rd, p_set, p_app, p_take, p_drop, p_rep, p_wrap, p_add, p_sub, p_no, p_eq, p_eqB, p_eqP, p_bnd_some, Pu.w64, Int.toNat_natCast, decide_eq_true_eq, Int.ofNat_lt, Int.ofNat_le, if_true, if_false, Int.natCast_nonneg, decide_true, decide_false, Bool.not_true, Bool.not_false, Bool.false_eq_true, Bool.not_eq_true, Bool.true_and, Bool.and_true, Bool.false_and, Bool.and_false, hn, h1, h2, h3, h4, h5, h6, h7, h8, h9, hs, hu, Prod.eta, p_eqS, beq_self_eq_true]
  | m + 1, j + 1, i, c, hi, hj, hc => by
    rw [laws_FnPure.L3_eq]
    have h := laws_FnPure.L3_ok hk ht hp hs hu (x := x) (r := r) m j (i + 1) (c.set i 99) (by rw [List.length_set]; omega) (by omega) (by rw [List.length_set]; omega)
    rw [Int.natCast_succ] at h
    have h1 : i < c.length := by omega
    simp (disch := omega) only [↓p_test, p_lt, p_le, p_ltN, p_leN, p_eqN, p_len, p_ofN, p_nat, p_rd, p_set, p_app, p_take, p_drop, p_rep, p_wrap, p_add, p_sub, p_no, p_eq, p_eqB, p_eqP, p_bnd_some, Pu.w64, Int.toNat_natCast, decide_eq_true_eq, Int.ofNat_lt, Int.ofNat_le, if_true, if_false, Int.natCast_nonneg, decide_true, decide_false, Bool.not_true, Bool.not_false, Bool.false_eq_true, Bool.not_eq_true, Bool.true_and, Bool.and_true, Bool.false_and, Bool.and_false, h1, h]
theorem laws_FnPure.L2_ok {k : Nat} {x r : Int} {t : Pu.Tab} {s u : ByteArray} {p g : List Int} (hk : 4194304 + 20 ≤ k) (ht : TabLe 10 9 10 t) (hp : p.length ≤ 15) (hs : spec_TableauText k t = some s) (hu : spec_PartitionText k p = some u) (hg : g.length ≤ 1000) :
    ∀ (m j i : Nat) (c : List Int), i + m = c.length → m < j → c.length ≤ 1000 → laws_FnPure.L2 k j x s r u (Pu.insertNumber t x).2.2 (Pu.addBox p r).2 i p c g t.1 t.2 = some true
  | m, 0, i, c, _, hj, _ => by omega
  | 0, j + 1, i, c, hi, _, _ => by
    rw [laws_FnPure.L2_eq]
    have hn : ¬ ((i : Int) < (c.length : Int)) := by omega
    have h := laws_FnPure.L3_ok hk ht hp hs hu (x := x) (r := r) g.length k 0 g (by omega) (by omega) hg
    rw [Int.natCast_zero] at h
    simp only [↓p_test, p_lt, p_le, p_ltN, p_leN, p_eqN, p_len, p_ofN, p_nat, p_rd, p_set, p_app, p_take, p_drop, p_rep, p_wrap, p_add, p_sub, p_no, p_eq, p_eqB, p_eqP, p_bnd_some, Pu.w64, Int.toNat_natCast, decide_eq_true_eq, Int.ofNat_lt, Int.ofNat_le, if_true, if_false, Int.natCast_nonneg, decide_true, decide_false, Bool.not_true, Bool.not_false, Bool.false_eq_true, Bool.not_eq_true, Bool.true_and, Bool.and_true, Bool.false_and, Bool.and_false, hn, h]
  | m + 1, j + 1, i, c, hi, hj, hc => by
    rw [laws_FnPure.L2_eq]
    have h := laws_FnPure.L2_ok hk ht hp hs hu hg (x := x) (r := r) m j (i + 1) (c.set i 99) (by rw [List.length_set]; omega) (by omega) (by rw [List.length_set]; omega)
    rw [Int.natCast_succ] at h
    have h1 : i < c.length := by omega
    simp (disch := omega) only [↓p_test, p_lt, p_le, p_ltN, p_leN, p_eqN, p_len, p_ofN, p_nat, p_rd, p_set, p_app, p_take, p_drop, p_rep, p_wrap, p_add, p_sub, p_no, p_eq, p_eqB, p_eqP, p_bnd_some, Pu.w64, Int.toNat_natCast, decide_eq_true_eq, Int.ofNat_lt, Int.ofNat_le, if_true, if_false, Int.natCast_nonneg, decide_true, decide_false, Bool.not_true, Bool.not_false, Bool.false_eq_true, Bool.not_eq_true, Bool.true_and, Bool.and_true, Bool.false_and, Bool.and_false, h1, h]
theorem laws_FnPure.L1_ok {k k1 : Nat} {x r : Int} {s u : ByteArray} {a b : Bool} {p f g e t1 : List Int} {t2 : List (List Int)} {i : Nat}
    (key : ∀ d, Pu.RowsLe 1000 1000 d → i < d.length → laws_FnPure.L0 k k1 x s r u a b ((i : Int) + 1) p f g t1 t2 e d = some true) :
    ∀ (m j q : Nat) (d : List (List Int)), Pu.RowsLe 1000 1000 d → i < d.length → q + m = (d.getD i []).length → m < j → laws_FnPure.L1 k k1 j x s r u a b i q p f g t1 t2 e d = some true
  | m, 0, q, d, _, _, _, hj => by omega
  | 0, j + 1, q, d, hd, hi, hq, _ => by
    rw [laws_FnPure.L1_eq]
    have h := key d hd hi
    have hl := hd.at i
    have hd1 := hd.1
    have hn : ¬ ((q : Int) < ((d.getD i []).length : Int)) := by omega
    simp (disch := omega) only [↓p_test, p_lt, p_le, p_ltN, p_leN, p_eqN, p_len, p_ofN, p_nat, p_rd, p_set, p_app, p_take, p_drop, p_rep, p_wrap, p_add, p_sub, p_no, p_eq, p_eqB, p_eqP, p_bnd_some, Pu.w64, Int.toNat_natCast, decide_eq_true_eq, Int.ofNat_lt, Int.ofNat_le, if_true, if_false, Int.natCast_nonneg, decide_true, decide_false, Bool.not_true, Bool.not_false, Bool.false_eq_true, Bool.not_eq_true, Bool.true_and, Bool.and_true, Bool.false_and, Bool.and_false, hi, hn, h]
  | m + 1, j + 1, q, d, hd, hi, hq, hj => by
    rw [laws_FnPure.L1_eq]
    have hl := hd.at i
    have hd1 := hd.1
    have hs : ((d.set i ((d.getD i []).set q 99)).getD i []).length = (d.getD i []).length := by
      rw [Pu.getD_lt (by rw [List.length_set]; exact hi), List.getElem_set_self, List.length_set]
    have h := laws_FnPure.L1_ok key (x := x) (r := r) m j (q + 1) (d.set i ((d.getD i []).set q 99)) (hd.set i (by rw [List.length_set]; exact hl)) (by rw [List.length_set]; exact hi) (by rw [hs]; omega) (by omega)
    rw [Int.natCast_succ] at h
    have hn : q < (d.getD i []).length := by omega
    simp (disch := omega) only [↓p_test, p_lt, p_le, p_ltN, p_leN, p_eqN, p_len, p_ofN, p_nat, p_rd, p_set, p_app, p_take, p_drop, p_rep, p_wrap, p_add, p_sub, p_no, p_eq, p_eqB, p_eqP, p_bnd_some, Pu.w64, Int.toNat_natCast, decide_eq_true_eq, Int.ofNat_lt, Int.ofNat_le, if_true, if_false, Int.natCast_nonneg, decide_true, decide_false, Bool.not_true, Bool.not_false, Bool.false_eq_true, Bool.not_eq_true, Bool.true_and, Bool.and_true, Bool.false_and, Bool.and_false, hi, hn, h]
theorem laws_FnPure.L0_ok {k : Nat} {x r : Int} {s u : ByteArray} {a b : Bool} {p f g e t1 : List Int} {t2 : List (List Int)} (hk : 2000 ≤ k)
    (key : laws_FnPure.L2 k k x s r u a b 0 p f g t1 t2 = some true) :
    ∀ (m j i : Nat) (d : List (List Int)), Pu.RowsLe 1000 1000 d → 1000 ≤ i + m → m < j → laws_FnPure.L0 k j x s r u a b i p f g t1 t2 e d = some true
  | m, 0, i, d, _, _, hj => by omega
  | m, j + 1, i, d, hd, hm, hj => by
    rw [laws_FnPure.L0_eq]
    have hd1 := hd.1
    by_cases hi : i < d.length
    · have h := laws_FnPure.L1_ok (k := k) (k1 := j) (x := x) (s := s) (r := r) (u := u) (a := a) (b := b) (p := p) (f := f) (g := g) (t1 := t1) (t2 := t2) (e := e) (i := i) (fun d' hd' hi' => by
        have := laws_FnPure.L0_ok hk key (e := e) (m - 1) j (i + 1) d' hd' (by omega) (by omega)
        rw [Int.natCast_succ] at this
        exact this) (d.getD i []).length k 0 d hd hi (by omega) (by have := hd.at i; omega)
      rw [Int.natCast_zero] at h
      simp only [↓p_test, p_lt, p_le, p_ltN, p_leN, p_eqN, p_len, p_ofN, p_nat, p_rd, p_set, p_app, p_take, p_drop, p_rep, p_wrap, p_add, p_sub, p_no, p_eq, p_eqB, p_eqP, p_bnd_some, Pu.w64, Int.toNat_natCast, decide_eq_true_eq, Int.ofNat_lt, Int.ofNat_le, if_true, if_false, Int.natCast_nonneg, decide_true, decide_false, Bool.not_true, Bool.not_false, Bool.false_eq_true, Bool.not_eq_true, Bool.true_and, Bool.and_true, Bool.false_and, Bool.and_false, hi, h]
    · simp only [↓p_test, p_lt, p_le, p_ltN, p_leN, p_eqN, p_len, p_ofN, p_nat, p_rd, p_set, p_app, p_take, p_drop, p_rep, p_wrap, p_add, p_sub, p_no, p_eq, p_eqB, p_eqP, p_bnd_some, Pu.w64, Int.toNat_natCast, decide_eq_true_eq, Int.ofNat_lt, Int.ofNat_le, if_true, if_false, Int.natCast_nonneg, decide_true, decide_false, Bool.not_true, Bool.not_false, Bool.false_eq_true, Bool.not_eq_true, Bool.true_and, Bool.and_true, Bool.false_and, Bool.and_false, hi, key]
  termination_by m j => j
theorem laws_FnPure.at {k : Nat} {p : List Int} (hk : 4194304 + 60 ≤ k) : laws_FnPure (k + 1) p = some true := by
  rw [laws_FnPure.eq, laws_big.is (by omega), p_bnd_some]
  by_cases hb : (1048576 : Int) < p.length
  · simp only [↓p_test, p_lt, p_le, p_ltN, p_leN, p_eqN, p_len, p_ofN, p_nat, p_rd, p_set, p_app, p_take, p_drop, p_rep, p_wrap, p_add, p_sub, p_no, p_eq, p_eqB, p_eqP, p_bnd_some, Pu.w64, Int.toNat_natCast, decide_eq_true_eq, Int.ofNat_lt, Int.ofNat_le, if_true, if_false, Int.natCast_nonneg, decide_true, decide_false, Bool.not_true, Bool.not_false, Bool.false_eq_true, Bool.not_eq_true, Bool.true_and, Bool.and_true, Bool.false_and, Bool.and_false, hb]
  · obtain ⟨⟨t, x⟩, e1, ht⟩ := spec_DrawInsertNumber.ok (k := k) (b := p) (by omega) (by omega)
    have ht : TabLe 10 9 10 t := ht
    obtain ⟨s, e2, _⟩ := spec_TableauText.ok (k := k) (t := t) (by omega) ht
    obtain ⟨q, r, e3, hq⟩ := spec_DrawAddBox.is (k := k) (b := p) (by omega) (by omega)
    obtain ⟨u, e4⟩ := spec_PartitionText.is (k := k) (p := q) (by omega) (by omega)
    obtain ⟨c1, c2, c3⟩ := ht.tab (by omega) (by omega) (by omega)
    have e5 := impl_InsertNumber.is (k := k) (t := t) (x := x) (by omega) c1 c2 c3
    have e6 := impl_AddBox.is (k := k) (p := q) (r := r) (by omega) (by omega)
    have e7 := impl_Conjugate.is (k := k) (p := q) (by omega) (by omega)
    have l1 : (Pu.addBox q r).1.length ≤ 1000 := by have := Pu.addBox_len q r; omega
    have l2 : (Pu.conj q).length ≤ 1000 := by have := Pu.conj_len q; omega
    have l3 : Pu.RowsLe 1000 1000 (Pu.insertNumber t x).1.2 := by
      unfold Pu.insertNumber
      split
      · have i1 := Pu.insRows_len t.2 x
        have i2 := Pu.insRows_mem t.2 x 11 (by omega) (fun r hr => by have := ht.2.2 r hr; omega)
        exact ⟨by have := ht.2.1; dsimp only; omega, fun y hy => by have := i2 y hy; omega⟩
      · exact ⟨by simp, fun y hy => by cases hy⟩
    have h2 := laws_FnPure.L2_ok (k := k) (x := x) (r := r) (by omega) ht hq e2 e4 l2 (Pu.addBox q r).1.length k 0 (Pu.addBox q r).1 (by omega) (by omega) l1
    rw [Int.natCast_zero] at h2
    have h0 := laws_FnPure.L0_ok (k := k) (e := (Pu.insertNumber t x).1.1) (by omega) h2 1000 k 0 (Pu.insertNumber t x).1.2 l3 (by omega) (by omega)
    rw [Int.natCast_zero] at h0
    have e2' : spec_TableauText k (t.1, t.2) = some s := e2
    have e5' : impl_InsertNumber k (t.1, t.2) x = some (Pu.insertNumber t x) := e5
    simp only [↓p_test, p_lt, p_le, p_ltN, p_leN, p_eqN, p_len, p_ofN, p_nat, p_rd, p_set, p_app, p_take, p_drop, p_rep, p_wrap, p_add, p_sub, p_no, p_eq, p_eqB, p_eqP, p_bnd_some, Pu.w64, Int.toNat_natCast, decide_eq_true_eq, Int.ofNat_lt, Int.ofNat_le, if_true, if_false, Int.natCast_nonneg, decide_true, decide_false, Bool.not_true, Bool.not_false, Bool.false_eq_true, Bool.not_eq_true, Bool.true_and, Bool.and_true, Bool.false_and, Bool.and_false, hb, e1, e2', e3, e4, e5', e6, e7, h0]
theorem laws_FnPure.is {p : List Int} (h1 : p.length ≤ maxLen) : ∃ k, laws_FnPure k p = some true := ⟨_, laws_FnPure.at (Nat.le_refl (4194304 + 60))⟩
end Go.Am.Seat
