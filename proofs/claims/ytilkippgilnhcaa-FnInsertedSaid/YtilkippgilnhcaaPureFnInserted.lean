/- What the functions make of data, as plain words; each holds for all data within the bounds that it names. -/
import Derived.Test.YtilkippgilnhcaaEqsFnInserted
import Derived.Test.YtilkippgilnhcaaPu
set_option linter.unusedSimpArgs false
set_option linter.unusedVariables false
set_option linter.unnecessarySimpa false
set_option linter.unusedSectionVars false
namespace Go.Am.Seat
open Go Go.Am Go.Am.Pu
attribute [local instance] D.real
set_option linter.unusedSimpArgs false
set_option linter.unusedVariables false
set_option maxRecDepth 4000
theorem j1.is {k : Nat} {p : List Int} (hk : 1 ≤ k) : j1 k p = some (decide ((1048576 : Int) < p.length)) := by
  obtain ⟨k, rfl⟩ : ∃ k', k = k' + 1 := ⟨k - 1, by omega⟩
  rw [j1.eq]
  rfl
theorem cI.is {k : Nat} {i h : Int} {b : List Int} (hk : 1 ≤ k) (hb : b.length ≤ 1048576) (hi : 0 ≤ i) (hi' : i ≤ b.length) :
    ∃ r i' h', cI k i h b = some (r, ((), (i', h'))) ∧ 0 ≤ r ∧ r ≤ 255 ∧ 0 ≤ i' ∧ i' ≤ b.length := by
  obtain ⟨k, rfl⟩ : ∃ k', k = k' + 1 := ⟨k - 1, by omega⟩
  rw [cI.eq]
  have e33 : (0 : Int) ≤ 33 := by decide
  have e45 : (0 : Int) ≤ 45 := by decide
  by_cases hlt : i < b.length
  · have hn : i.toNat < b.length := by omega
    have ew : IntKind.i64.wrap (i + 1) = i + 1 := Pu.w64 (by omega) (by omega)
    refine ⟨_, i + 1, _, by simp only [↓ay, bC, bw, aT, a6, aX, aH, aL, aO, br, aS, aQ, az, aw, aY, ar, aN, aW, bz, bu, aZ, a7, ae, Pu.w64, Int.toNat_natCast, decide_eq_true_eq, Int.ofNat_lt, Int.ofNat_le, if_true, if_false, Int.natCast_nonneg, decide_true, decide_false, Bool.not_true, Bool.not_false, Bool.false_eq_true, Bool.not_eq_true, Bool.true_and, Bool.and_true, Bool.false_and, Bool.and_false, e33, e45, hlt, hi, hn, ew]; rfl, (Pu.tO _).1, (Pu.tO _).2, ?_, ?_⟩
    · omega
    · omega
  · exact ⟨_, _, _, by simp only [↓ay, bC, bw, aT, a6, aX, aH, aL, aO, br, aS, aQ, az, aw, aY, ar, aN, aW, bz, bu, aZ, a7, ae, Pu.w64, Int.toNat_natCast, decide_eq_true_eq, Int.ofNat_lt, Int.ofNat_le, if_true, if_false, Int.natCast_nonneg, decide_true, decide_false, Bool.not_true, Bool.not_false, Bool.false_eq_true, Bool.not_eq_true, Bool.true_and, Bool.and_true, Bool.false_and, Bool.and_false, e33, e45, hlt]; rfl, (Pu.tO _).1, (Pu.tO _).2, hi, hi'⟩
theorem aG.is {k : Nat} {n i h : Int} {b : List Int} (hk : 2 ≤ k) (hb : b.length ≤ 1048576) (hi : 0 ≤ i) (hi' : i ≤ b.length) (hn : n ≤ 256) :
    ∃ r i' h', aG k n i h b = some (r, ((), (i', h'))) ∧ 0 ≤ r ∧ (n ≤ 0 → r = 0) ∧ (0 < n → r < n) ∧ 0 ≤ i' ∧ i' ≤ b.length := by
  obtain ⟨k, rfl⟩ : ∃ k', k = k' + 1 := ⟨k - 1, by omega⟩
  rw [aG.eq]
  by_cases h0 : n ≤ 0
  · exact ⟨0, i, h, by simp only [↓ay, bC, bw, aT, a6, aX, aH, aL, aO, br, aS, aQ, az, aw, aY, ar, aN, aW, bz, bu, aZ, a7, ae, Pu.w64, Int.toNat_natCast, decide_eq_true_eq, Int.ofNat_lt, Int.ofNat_le, if_true, if_false, Int.natCast_nonneg, decide_true, decide_false, Bool.not_true, Bool.not_false, Bool.false_eq_true, Bool.not_eq_true, Bool.true_and, Bool.and_true, Bool.false_and, Bool.and_false, h0], by omega, fun _ => rfl, fun h => by omega, hi, hi'⟩
  · obtain ⟨r, i', h', e, h1, h2, h3, h4⟩ := cI.is (k := k) (h := h) (b := b) (by omega) hb hi hi'
    have hne : ¬ n = 0 := by omega
    refine ⟨r.tmod n, i', h', by simp only [↓ay, bC, bw, aT, a6, aX, aH, aL, aO, br, aS, aQ, az, aw, aY, ar, aN, aW, bz, bu, aZ, a7, ae, Pu.w64, Int.toNat_natCast, decide_eq_true_eq, Int.ofNat_lt, Int.ofNat_le, if_true, if_false, Int.natCast_nonneg, decide_true, decide_false, Bool.not_true, Bool.not_false, Bool.false_eq_true, Bool.not_eq_true, Bool.true_and, Bool.and_true, Bool.false_and, Bool.and_false, h0, hn, e, hne]; rfl, Int.tmod_nonneg _ h1, fun h => by omega, fun _ => Int.tmod_lt_of_pos _ (by omega), h3, h4⟩
theorem eE.is {k : Nat} {a b : Int} (hk : 1 ≤ k) : eE k a b = some (min a b) := by
  obtain ⟨k, rfl⟩ : ∃ k', k = k' + 1 := ⟨k - 1, by omega⟩
  rw [eE.eq]
  by_cases h : a < b
  · simp only [↓ay, bC, bw, aT, a6, aX, aH, aL, aO, br, aS, aQ, az, aw, aY, ar, aN, aW, bz, bu, aZ, a7, ae, Pu.w64, Int.toNat_natCast, decide_eq_true_eq, Int.ofNat_lt, Int.ofNat_le, if_true, if_false, Int.natCast_nonneg, decide_true, decide_false, Bool.not_true, Bool.not_false, Bool.false_eq_true, Bool.not_eq_true, Bool.true_and, Bool.and_true, Bool.false_and, Bool.and_false, h]; congr 1; omega
  · simp only [↓ay, bC, bw, aT, a6, aX, aH, aL, aO, br, aS, aQ, az, aw, aY, ar, aN, aW, bz, bu, aZ, a7, ae, Pu.w64, Int.toNat_natCast, decide_eq_true_eq, Int.ofNat_lt, Int.ofNat_le, if_true, if_false, Int.natCast_nonneg, decide_true, decide_false, Bool.not_true, Bool.not_false, Bool.false_eq_true, Bool.not_eq_true, Bool.true_and, Bool.and_true, Bool.false_and, Bool.and_false, h]; congr 1; omega
theorem b8.inner {k k1 : Nat} {n p : Int} {r : List (List Int)} (hr : ∀ x ∈ r, x.length ≤ 1000) (hp : 1 ≤ p ∧ p ≤ 1000) (hlen : r.length ≤ 1000) : ∀ (m j i : Nat) (acc : List (List Int)), i + m = r.length → m < j → acc.length + m ≤ 100000 →
    b8.L1 k k1 j n p i acc r = b8.L0 k k1 n (p - 1) (acc ++ (r.drop i).map (p :: ·))
  | m, 0, i, acc, _, hj, _ => by omega
  | 0, j + 1, i, acc, hi, _, _ => by
    rw [b8.fe]
    have e : i = r.length := by omega
    subst e
    have ew : IntKind.i64.wrap (p - 1) = p - 1 := Pu.w64 (by omega) (by omega)
    simp [ew]
  | m + 1, j + 1, i, acc, hi, hj, ha => by
    rw [b8.fe]
    have hlt : i < r.length := by omega
    have hx : (r.getD i []).length ≤ 1000 := by rw [Pu.bc hlt []]; exact hr _ (List.getElem_mem hlt)
    have ih := b8.inner (k := k) (k1 := k1) (n := n) hr hp hlen m j (i + 1) (acc ++ [p :: r.getD i []]) (by omega) (by omega) (by rw [List.length_append]; simp; omega)
    rw [Int.natCast_succ] at ih
    rw [Pu.drop_cons hlt []]
    have l1 : (p :: r.getD i []).length ≤ 1099511627776 := by rw [List.length_cons]; omega
    have l2 : (acc ++ [p :: r.getD i []]).length ≤ 1099511627776 := by rw [List.length_append]; simp; omega
    simp (disch := omega) only [↓ay, bC, bw, aT, a6, aX, aH, aL, aO, br, aS, aQ, az, aw, aY, ar, aN, aW, bz, bu, aZ, a7, ae, Pu.w64, Int.toNat_natCast, decide_eq_true_eq, Int.ofNat_lt, Int.ofNat_le, if_true, if_false, Int.natCast_nonneg, decide_true, decide_false, Bool.not_true, Bool.not_false, Bool.false_eq_true, Bool.not_eq_true, Bool.true_and, Bool.and_true, Bool.false_and, Bool.and_false, hlt, l1, l2, List.cons_append, List.nil_append, ih, List.map_cons, List.append_assoc]
theorem b8.is (n : Nat) : ∀ (k : Nat) (m : Int), n ≤ 9 → 4194304 + n + 2 ≤ k → 1 ≤ m → m ≤ 1000 →
    ∃ L, b8 k n m = some L ∧ 1 ≤ L.length ∧ L.length ≤ Pu.tQ n ∧ ∀ x ∈ L, Pu.l8 n x := by
  induction n using Nat.strongRecOn with
  | ind n IH =>
  intro k m hn hk hm hm'
  obtain ⟨k, rfl⟩ : ∃ k', k = k' + 1 := ⟨k - 1, by omega⟩
  rw [b8.eq]
  by_cases h0 : n = 0
  · subst h0
    refine ⟨[[]], by simp, by simp, by simp [Pu.tQ], fun x hx => ?_⟩
    simp only [List.mem_singleton] at hx
    subst hx
    exact ⟨by simp, fun y hy => by cases hy⟩
  · have hne : ¬ (n : Int) = 0 := by omega
    simp only [↓ay, bC, bw, aT, a6, aX, aH, aL, aO, br, aS, aQ, az, aw, aY, ar, aN, aW, bz, bu, aZ, a7, ae, Pu.w64, Int.toNat_natCast, decide_eq_true_eq, Int.ofNat_lt, Int.ofNat_le, if_true, if_false, Int.natCast_nonneg, decide_true, decide_false, Bool.not_true, Bool.not_false, Bool.false_eq_true, Bool.not_eq_true, Bool.true_and, Bool.and_true, Bool.false_and, Bool.and_false, hne]
    rw [eE.is (by omega), ae]
    have loop : ∀ (p j : Nat) (acc : List (List Int)), p ≤ n → p < j → acc.length + Pu.xb n p ≤ 512 → (∀ x ∈ acc, Pu.l8 n x) →
        ∃ L, b8.L0 k j n p acc = some L ∧ acc.length + min p 1 ≤ L.length ∧ L.length ≤ acc.length + Pu.xb n p ∧ ∀ x ∈ L, Pu.l8 n x := by
      intro p
      induction p with
      | zero =>
        intro j acc _ hj ha hg
        obtain ⟨j, rfl⟩ : ∃ j', j = j' + 1 := ⟨j - 1, by omega⟩
        rw [b8.bM]
        exact ⟨acc, by simp, by simp, by simp, hg⟩
      | succ p ihp =>
        intro j acc hp hj ha hg
        obtain ⟨j, rfl⟩ : ∃ j', j = j' + 1 := ⟨j - 1, by omega⟩
        rw [b8.bM]
        have ew : IntKind.i64.wrap ((n : Int) - ((p + 1 : Nat) : Int)) = ((n - (p + 1) : Nat) : Int) := by
          rw [Pu.w64 (by omega) (by omega)]; omega
        obtain ⟨R, hR, r1, r2, r3⟩ := IH (n - (p + 1)) (by omega) k ((p + 1 : Nat) : Int) (by omega) (by omega) (by omega) (by omega)
        have h1 : (1 : Int) ≤ ((p + 1 : Nat) : Int) := by omega
        have ha' : acc.length + (Pu.tQ (n - (p + 1)) + Pu.xb n p) ≤ 512 := ha
        have hin := b8.inner (k := k) (k1 := j) (n := n) (p := ((p + 1 : Nat) : Int)) (r := R) (fun x hx => by have := (r3 x hx).1; omega) ⟨h1, by omega⟩ (by omega) R.length k 0 acc (by omega) (by omega) (by omega)
        rw [Int.natCast_zero, List.drop_zero, show ((p + 1 : Nat) : Int) - 1 = (p : Int) by omega] at hin
        simp only [↓ay, bC, bw, aT, a6, aX, aH, aL, aO, br, aS, aQ, az, aw, aY, ar, aN, aW, bz, bu, aZ, a7, ae, Pu.w64, Int.toNat_natCast, decide_eq_true_eq, Int.ofNat_lt, Int.ofNat_le, if_true, if_false, Int.natCast_nonneg, decide_true, decide_false, Bool.not_true, Bool.not_false, Bool.false_eq_true, Bool.not_eq_true, Bool.true_and, Bool.and_true, Bool.false_and, Bool.and_false, h1, ew, hR]
        rw [hin]
        obtain ⟨L, hL, l1, l2, l3⟩ := ihp j (acc ++ R.map (((p + 1 : Nat) : Int) :: ·)) (by omega) (by omega) (by rw [List.length_append, List.length_map]; omega) (fun x hx => by
          rcases List.mem_append.1 hx with h | h
          · exact hg x h
          · obtain ⟨y, hy, rfl⟩ := List.mem_map.1 h
            obtain ⟨q1, q2⟩ := r3 y hy
            refine ⟨by rw [List.length_cons]; omega, fun z hz => ?_⟩
            rcases List.mem_cons.1 hz with rfl | hz
            · omega
            · exact q2 z hz)
        rw [List.length_append, List.length_map] at l1 l2
        refine ⟨L, hL, by omega, ?_, l3⟩
        show L.length ≤ acc.length + (Pu.tQ (n - (p + 1)) + Pu.xb n p)
        omega
    have hS := fun p hp => Pu.zI (n := n) (p := p) hn (by omega) hp
    have hB := Pu.xz hn
    obtain ⟨p, hp⟩ : ∃ p : Nat, min (n : Int) m = p := ⟨(min (n : Int) m).toNat, by omega⟩
    rw [hp]
    obtain ⟨L, hL, l1, l2, l3⟩ := loop p k [] (by omega) (by omega) (by have := hS p (by omega); simp; omega) (fun x hx => by cases hx)
    have := hS p (by omega)
    simp only [List.length_nil, Nat.zero_add] at l1 l2
    exact ⟨L, hL, by omega, by omega, l3⟩
theorem cW.is {k : Nat} {m i h : Int} {b : List Int} (hk : 4194304 + 12 ≤ k) (hb : b.length ≤ 1048576) (hi : 0 ≤ i) (hi' : i ≤ b.length) (hm : 1 ≤ m) (hm' : m ≤ 9) :
    ∃ p i' h', cW k m i h b = some (p, ((), (i', h'))) ∧ Pu.l8 9 p ∧ 0 ≤ i' ∧ i' ≤ b.length := by
  obtain ⟨k, rfl⟩ : ∃ k', k = k' + 1 := ⟨k - 1, by omega⟩
  rw [cW.eq]
  have ew : IntKind.i64.wrap (m + 1) = m + 1 := Pu.w64 (by omega) (by omega)
  obtain ⟨r, i1, h1, e1, a1, a2, a3, a4, a5⟩ := aG.is (k := k) (n := m + 1) (h := h) (b := b) (by omega) hb hi hi' (by omega)
  have a3 := a3 (by omega)
  obtain ⟨n, rfl⟩ : ∃ n : Nat, r = n := ⟨r.toNat, by omega⟩
  obtain ⟨L, eL, c1, c2, c3⟩ := b8.is n k m (by omega) (by omega) hm (by omega)
  have := Pu.xz (n := n) (by omega)
  obtain ⟨q, i2, h2, e2, b1, b2, b3, b4, b5⟩ := aG.is (k := k) (n := L.length) (h := h1) (b := b) (by omega) hb a4 a5 (by omega)
  have b3 := b3 (by omega)
  have hn : q.toNat < L.length := by omega
  refine ⟨L.getD q.toNat [], i2, h2, ?_, ?_, b4, b5⟩
  · simp only [↓ay, bC, bw, aT, a6, aX, aH, aL, aO, br, aS, aQ, az, aw, aY, ar, aN, aW, bz, bu, aZ, a7, ae, Pu.w64, Int.toNat_natCast, decide_eq_true_eq, Int.ofNat_lt, Int.ofNat_le, if_true, if_false, Int.natCast_nonneg, decide_true, decide_false, Bool.not_true, Bool.not_false, Bool.false_eq_true, Bool.not_eq_true, Bool.true_and, Bool.and_true, Bool.false_and, Bool.and_false, ew, e1, eL, e2, b1, hn]
  · rw [Pu.bc hn []]
    obtain ⟨d1, d2⟩ := c3 _ (List.getElem_mem hn)
    exact ⟨by omega, d2⟩
theorem dh.is {k : Nat} {p : List Int} {i : Int} (hk : 1 ≤ k) : dh k p i = some (Pu.atI p i) := by
  obtain ⟨k, rfl⟩ : ∃ k', k = k' + 1 := ⟨k - 1, by omega⟩
  rw [dh.eq, dh.g9]
  by_cases h1 : i < 0
  · simp only [↓ay, bC, bw, aT, a6, aX, aH, aL, aO, br, aS, aQ, az, aw, aY, ar, aN, aW, bz, bu, aZ, a7, ae, Pu.w64, Int.toNat_natCast, decide_eq_true_eq, Int.ofNat_lt, Int.ofNat_le, if_true, if_false, Int.natCast_nonneg, decide_true, decide_false, Bool.not_true, Bool.not_false, Bool.false_eq_true, Bool.not_eq_true, Bool.true_and, Bool.and_true, Bool.false_and, Bool.and_false, h1, Pu.oY h1]
  · by_cases h2 : (p.length : Int) ≤ i
    · simp only [↓ay, bC, bw, aT, a6, aX, aH, aL, aO, br, aS, aQ, az, aw, aY, ar, aN, aW, bz, bu, aZ, a7, ae, Pu.w64, Int.toNat_natCast, decide_eq_true_eq, Int.ofNat_lt, Int.ofNat_le, if_true, if_false, Int.natCast_nonneg, decide_true, decide_false, Bool.not_true, Bool.not_false, Bool.false_eq_true, Bool.not_eq_true, Bool.true_and, Bool.and_true, Bool.false_and, Bool.and_false, h1, h2, Pu.we h2]
    · have h3 : 0 ≤ i := by omega
      have h4 : i.toNat < p.length := by omega
      simp only [↓ay, bC, bw, aT, a6, aX, aH, aL, aO, br, aS, aQ, az, aw, aY, ar, aN, aW, bz, bu, aZ, a7, ae, Pu.w64, Int.toNat_natCast, decide_eq_true_eq, Int.ofNat_lt, Int.ofNat_le, if_true, if_false, Int.natCast_nonneg, decide_true, decide_false, Bool.not_true, Bool.not_false, Bool.false_eq_true, Bool.not_eq_true, Bool.true_and, Bool.and_true, Bool.false_and, Bool.and_false, h1, h2, h3, h4, Pu.atI]
theorem bG.is {k : Nat} {t : Pu.Tab} {r c : Int} (hk : 2 ≤ k) (hi : Pu.cD t.1 = true) (h1 : -1000000000 ≤ c) (h2 : c ≤ 1000000000) : bG k t r c = some (Pu.entry t r c) := by
  obtain ⟨k, rfl⟩ : ∃ k', k = k' + 1 := ⟨k - 1, by omega⟩
  have hb := Pu.gm hi r
  rw [bG.eq, bG.g9, dh.is (by omega)]
  unfold Pu.entry
  by_cases c1 : r < 0
  · simp only [↓ay, bC, bw, aT, a6, aX, aH, aL, aO, br, aS, aQ, az, aw, aY, ar, aN, aW, bz, bu, aZ, a7, ae, Pu.w64, Int.toNat_natCast, decide_eq_true_eq, Int.ofNat_lt, Int.ofNat_le, if_true, if_false, Int.natCast_nonneg, decide_true, decide_false, Bool.not_true, Bool.not_false, Bool.false_eq_true, Bool.not_eq_true, Bool.true_and, Bool.and_true, Bool.false_and, Bool.and_false, c1]
  · by_cases c2 : (t.2.length : Int) ≤ r
    · simp only [↓ay, bC, bw, aT, a6, aX, aH, aL, aO, br, aS, aQ, az, aw, aY, ar, aN, aW, bz, bu, aZ, a7, ae, Pu.w64, Int.toNat_natCast, decide_eq_true_eq, Int.ofNat_lt, Int.ofNat_le, if_true, if_false, Int.natCast_nonneg, decide_true, decide_false, Bool.not_true, Bool.not_false, Bool.false_eq_true, Bool.not_eq_true, Bool.true_and, Bool.and_true, Bool.false_and, Bool.and_false, c1, c2]
    · have c3 : 0 ≤ r := by omega
      have c4 : r.toNat < t.2.length := by omega
      simp (disch := omega) only [↓ay, bC, bw, aT, a6, aX, aH, aL, aO, br, aS, aQ, az, aw, aY, ar, aN, aW, bz, bu, aZ, a7, ae, Pu.w64, Int.toNat_natCast, decide_eq_true_eq, Int.ofNat_lt, Int.ofNat_le, if_true, if_false, Int.natCast_nonneg, decide_true, decide_false, Bool.not_true, Bool.not_false, Bool.false_eq_true, Bool.not_eq_true, Bool.true_and, Bool.and_true, Bool.false_and, Bool.and_false, c1, c2, c3, c4]
      by_cases d1 : c - Pu.atI t.1 r < 0
      · simp only [↓ay, bC, bw, aT, a6, aX, aH, aL, aO, br, aS, aQ, az, aw, aY, ar, aN, aW, bz, bu, aZ, a7, ae, Pu.w64, Int.toNat_natCast, decide_eq_true_eq, Int.ofNat_lt, Int.ofNat_le, if_true, if_false, Int.natCast_nonneg, decide_true, decide_false, Bool.not_true, Bool.not_false, Bool.false_eq_true, Bool.not_eq_true, Bool.true_and, Bool.and_true, Bool.false_and, Bool.and_false, d1, Pu.oY d1]
      · by_cases d2 : ((t.2.getD r.toNat []).length : Int) ≤ c - Pu.atI t.1 r
        · simp only [↓ay, bC, bw, aT, a6, aX, aH, aL, aO, br, aS, aQ, az, aw, aY, ar, aN, aW, bz, bu, aZ, a7, ae, Pu.w64, Int.toNat_natCast, decide_eq_true_eq, Int.ofNat_lt, Int.ofNat_le, if_true, if_false, Int.natCast_nonneg, decide_true, decide_false, Bool.not_true, Bool.not_false, Bool.false_eq_true, Bool.not_eq_true, Bool.true_and, Bool.and_true, Bool.false_and, Bool.and_false, d1, d2, Pu.we d2]
        · have d3 : 0 ≤ c - Pu.atI t.1 r := by omega
          have d4 : (c - Pu.atI t.1 r).toNat < (t.2.getD r.toNat []).length := by omega
          rw [bG.fM]
          generalize c - Pu.atI t.1 r = z at *
          simp only [↓ay, bC, bw, aT, a6, aX, aH, aL, aO, br, aS, aQ, az, aw, aY, ar, aN, aW, bz, bu, aZ, a7, ae, Pu.w64, Int.toNat_natCast, decide_eq_true_eq, Int.ofNat_lt, Int.ofNat_le, if_true, if_false, Int.natCast_nonneg, decide_true, decide_false, Bool.not_true, Bool.not_false, Bool.false_eq_true, Bool.not_eq_true, Bool.true_and, Bool.and_true, Bool.false_and, Bool.and_false, c3, c4, d1, d2, d3, d4, Pu.atI]
theorem gW.is {k : Nat} {a b : Int} (hk : 1 ≤ k) : gW k a b = some (max a b) := by
  obtain ⟨k, rfl⟩ : ∃ k', k = k' + 1 := ⟨k - 1, by omega⟩
  rw [gW.eq]
  by_cases h : b < a
  · simp only [↓ay, bC, bw, aT, a6, aX, aH, aL, aO, br, aS, aQ, az, aw, aY, ar, aN, aW, bz, bu, aZ, a7, ae, Pu.w64, Int.toNat_natCast, decide_eq_true_eq, Int.ofNat_lt, Int.ofNat_le, if_true, if_false, Int.natCast_nonneg, decide_true, decide_false, Bool.not_true, Bool.not_false, Bool.false_eq_true, Bool.not_eq_true, Bool.true_and, Bool.and_true, Bool.false_and, Bool.and_false, h]; congr 1; omega
  · simp only [↓ay, bC, bw, aT, a6, aX, aH, aL, aO, br, aS, aQ, az, aw, aY, ar, aN, aW, bz, bu, aZ, a7, ae, Pu.w64, Int.toNat_natCast, decide_eq_true_eq, Int.ofNat_lt, Int.ofNat_le, if_true, if_false, Int.natCast_nonneg, decide_true, decide_false, Bool.not_true, Bool.not_false, Bool.false_eq_true, Bool.not_eq_true, Bool.true_and, Bool.and_true, Bool.false_and, Bool.and_false, h]; congr 1; omega
theorem ch.is {k : Nat} {n i h : Int} {b : List Int} (hk : 3 ≤ k) (hb : b.length ≤ 1048576) (hi : 0 ≤ i) (hi' : i ≤ b.length) (hn : n ≤ 256) :
    ∃ r i' h', ch k n i h b = some (r, ((), (i', h'))) ∧ 0 ≤ i' ∧ i' ≤ b.length := by
  obtain ⟨k, rfl⟩ : ∃ k', k = k' + 1 := ⟨k - 1, by omega⟩
  rw [ch.eq]
  obtain ⟨r, i', h', e, h1, h2, h3, h4, h5⟩ := aG.is (k := k) (h := h) (b := b) (by omega) hb hi hi' hn
  rw [e]
  exact ⟨_, _, _, rfl, h4, h5⟩
theorem dM.is {k : Nat} {b : Bool} (hk : 1 ≤ k) : dM k b = some (if b = true then 1 else 0) := by
  obtain ⟨k, rfl⟩ : ∃ k', k = k' + 1 := ⟨k - 1, by omega⟩
  rw [dM.eq]
  cases b <;> rfl
theorem bG.ok {k : Nat} {t : Pu.Tab} {r c : Int} (hk : 2 ≤ k) : Pu.Ok (bG k t r c) fun _ => True := by
  obtain ⟨k, rfl⟩ : ∃ k', k = k' + 1 := ⟨k - 1, by omega⟩
  rw [bG.eq, bG.g9]
  simp only [bC, bw, aT, a6, aX, aH, aL, aO, br, aS, aQ, az, aw, aY, ar, aN, aW, nG, bz, bu, aZ, a7, kB, kF, kD, j9, List.nil_append, List.cons_append]
  refine Pu.Ok.t (fun _ => Pu.Ok.ret trivial) (fun c1 => Pu.Ok.t (fun _ => Pu.Ok.ret trivial) (fun c2 => ?_))
  refine Pu.Ok.jW (dh.is (by omega)) ?_
  generalize IntKind.i64.wrap (c - Pu.atI t.1 r) = z
  refine Pu.Ok.t (fun _ => Pu.Ok.ret trivial) (fun d1 => ?_)
  (repeat (refine Pu.Ok.g (by first | omega | assumption | (simp only [List.length_append, List.length_cons, List.length_nil, List.length_set, List.length_take, List.length_drop, List.length_replicate] at *; omega)) ?_))
  refine Pu.Ok.t (fun _ => Pu.Ok.ret trivial) (fun d2 => ?_)
  rw [bG.fM]
  simp only [bC, bw, aT, a6, aX, aH, aL, aO, br, aS, aQ, az, aw, aY, ar, aN, aW, nG, bz, bu, aZ, a7, kB, kF, kD, j9, List.nil_append, List.cons_append]
  (repeat (refine Pu.Ok.g (by first | omega | assumption | (simp only [List.length_append, List.length_cons, List.length_nil, List.length_set, List.length_take, List.length_drop, List.length_replicate] at *; omega)) ?_))
  exact Pu.Ok.ret trivial
theorem aM.inner {k k1 : Nat} {b o g p1 : List Int} {i : Nat} {c : List Int} {d : List (List Int)} {rs : List (List Int)} (hk : 4194304 ≤ k) (hb : b.length ≤ 1048576) (ho : Pu.l8 9 o) (hi : i < o.length) (hrs : rs.length ≤ 9)
    (key : ∀ (p h : Int) (row : List Int), 0 ≤ p → p ≤ b.length → row.length ≤ 9 → Pu.Ok (aM.L0 k k1 ((i : Int) + 1) p h o p1 b c d g (rs ++ [row])) fun r => r.1.1 = g ∧ Pu.dK 9 9 r.1.2 ∧ 0 ≤ r.2.2.1 ∧ r.2.2.1 ≤ b.length) :
    ∀ (m j : Nat) (x low p h : Int) (row : List Int), (9 - x).toNat ≤ m → m < j → 0 ≤ p → p ≤ b.length → 0 ≤ x → (row.length : Int) ≤ x → row.length ≤ 9 →
    Pu.Ok (aM.L1 k k1 j i low x p h row o p1 b c d g rs) fun r => r.1.1 = g ∧ Pu.dK 9 9 r.1.2 ∧ 0 ≤ r.2.2.1 ∧ r.2.2.1 ≤ b.length
  | m, 0, x, low, p, h, row, _, hj, _, _, _, _, _ => by omega
  | m, j + 1, x, low, p, h, row, hi, hj, h0, h1, h2, h3, h4 => by
    rw [aM.fe]
    simp only [bC, bw, aT, a6, aX, aH, aL, aO, br, aS, aQ, az, aw, aY, ar, aN, aW, nG, bz, bu, aZ, a7, kB, kF, kD, j9, List.nil_append, List.cons_append]
    (repeat (refine Pu.Ok.g (by first | omega | assumption | (simp only [List.length_append, List.length_cons, List.length_nil, List.length_set, List.length_take, List.length_drop, List.length_replicate] at *; omega)) ?_))
    have hlt : i < o.length := by omega
    have hx := ho.2 _ (List.getElem_mem hlt)
    rw [← Pu.bc hlt 0] at hx
    have h9 := ho.1
    (try simp only [Int.toNat_natCast]); (try simp (disch := omega) only [Pu.w64])
    refine Pu.Ok.t (fun hz => ?_) (fun hz => ?_)
    · refine Pu.Ok.bnd (bG.ok (by omega)) fun r1 _ => ?_
      refine Pu.Ok.jW (gW.is (by omega)) ?_
      obtain ⟨r2, i2, h2', e2, b4, b5⟩ := ch.is (k := k) (n := 3) (h := h) (b := b) (by omega) hb h0 h1 (by omega)
      refine Pu.Ok.jW e2 (Pu.Ok.jW (dM.is (by omega)) ?_)
      obtain ⟨r3, i3, h3', e3, a1, a2, a3, a4, a5⟩ := aG.is (k := k) (n := 2) (h := h2') (b := b) (by omega) hb b4 b5 (by omega)
      refine Pu.Ok.jW e3 (Pu.Ok.jW (eE.is (by omega)) ?_)
      dsimp only
      (repeat (refine Pu.Ok.g (by first | omega | assumption | (simp only [List.length_append, List.length_cons, List.length_nil, List.length_set, List.length_take, List.length_drop, List.length_replicate] at *; omega)) ?_))
      (try simp only [Int.toNat_natCast]); (try simp (disch := omega) only [Pu.w64])
      exact aM.inner hk hb ho hlt hrs key (m - 1) j _ _ i3 h3' _ (by omega) (by omega) a4 a5 (by omega) (by rw [List.length_append]; simp; omega) (by rw [List.length_append]; simp; omega)
    · (repeat (refine Pu.Ok.g (by first | omega | assumption | (simp only [List.length_append, List.length_cons, List.length_nil, List.length_set, List.length_take, List.length_drop, List.length_replicate] at *; omega)) ?_))
      exact key p h row h0 h1 h4
theorem aM.loop {k : Nat} {b o g p1 : List Int} {c : List Int} {d : List (List Int)} (hk : 4194304 ≤ k) (hb : b.length ≤ 1048576) (ho : Pu.l8 9 o) (hp : ∀ x ∈ p1, 1 ≤ x ∧ x ≤ 9) : ∀ (m j i : Nat) (p h : Int) (rs : List (List Int)), i + m = o.length → m < j → 0 ≤ p → p ≤ b.length → Pu.dK i 9 rs →
    Pu.Ok (aM.L0 k j i p h o p1 b c d g rs) fun r => r.1.1 = g ∧ Pu.dK 9 9 r.1.2 ∧ 0 ≤ r.2.2.1 ∧ r.2.2.1 ≤ b.length
  | m, 0, i, p, h, rs, _, hj, _, _, _ => by omega
  | 0, j + 1, i, p, h, rs, hi, hj, h0, h1, hr => by
    rw [aM.bM]
    simp only [bC, bw, aT, a6, aX, aH, aL, aO, br, aS, aQ, az, aw, aY, ar, aN, aW, nG, bz, bu, aZ, a7, kB, kF, kD, j9, List.nil_append, List.cons_append]
    have := ho.1
    exact Pu.Ok.no (by omega) (Pu.Ok.ret ⟨rfl, hr.mono (by omega) (by omega), h0, h1⟩)
  | m + 1, j + 1, i, p, h, rs, hi, hj, h0, h1, hr => by
    rw [aM.bM]
    simp only [bC, bw, aT, a6, aX, aH, aL, aO, br, aS, aQ, az, aw, aY, ar, aN, aW, nG, bz, bu, aZ, a7, kB, kF, kD, j9, List.nil_append, List.cons_append]
    (repeat (refine Pu.Ok.g (by first | omega | assumption | (simp only [List.length_append, List.length_cons, List.length_nil, List.length_set, List.length_take, List.length_drop, List.length_replicate] at *; omega)) ?_))
    refine Pu.Ok.jW (dh.is (by omega)) ?_
    have h9 := ho.1
    have hz : 0 ≤ Pu.atI p1 i := by
      rw [Pu.dU]
      by_cases hl : i < p1.length
      · rw [Pu.bc hl]; have := hp _ (List.getElem_mem hl); omega
      · rw [Pu.cr (by omega)]; omega
    refine aM.inner hk hb ho (by omega) (by have := hr.1; omega) ?_ 9 k _ _ p h [] (by omega) (by omega) h0 h1 hz (by simpa using hz) (by simp)
    intro p' h' row q0 q1 q2
    exact aM.loop hk hb ho hp m j (i + 1) p' h' _ (by omega) (by omega) q0 q1 (hr.app q2)
theorem aM.ok {k : Nat} {i h : Int} {b o p : List Int} (hk : 4194304 + 2 ≤ k) (hb : b.length ≤ 1048576) (hi : 0 ≤ i) (hi' : i ≤ b.length) (ho : Pu.l8 9 o) (hp : Pu.l8 9 p) :
    Pu.Ok (aM k i h o p b) fun r => r.1.1 = p ∧ Pu.dK 9 9 r.1.2 ∧ 0 ≤ r.2.2.1 ∧ r.2.2.1 ≤ b.length := by
  obtain ⟨k, rfl⟩ : ∃ k', k = k' + 1 := ⟨k - 1, by omega⟩
  rw [aM.eq]
  simp only [bC, bw, aT, a6, aX, aH, aL, aO, br, aS, aQ, az, aw, aY, ar, aN, aW, nG, bz, bu, aZ, a7, kB, kF, kD, j9, List.nil_append, List.cons_append]
  have := hp.1
  (repeat (refine Pu.Ok.g (by first | omega | assumption | (simp only [List.length_append, List.length_cons, List.length_nil, List.length_set, List.length_take, List.length_drop, List.length_replicate] at *; omega)) ?_))
  exact aM.loop (by omega) hb ho hp.2 o.length k 0 i h [] (by omega) (by have := ho.1; omega) hi hi' ⟨by simp, fun x hx => by cases hx⟩
theorem eC.is {k : Nat} {x lo hi : Int} (hk : 1 ≤ k) : eC k x lo hi = some (Pu.within x lo hi) := by
  obtain ⟨k, rfl⟩ : ∃ k', k = k' + 1 := ⟨k - 1, by omega⟩
  rw [eC.eq]
  by_cases h : lo ≤ x <;> simp [Pu.within, h]
theorem bj.loop {k : Nat} {p : List Int} (hk : 4194304 ≤ k) (hp : p.length ≤ 1048576) : ∀ (m j i : Nat) (s v : Int), i + m = p.length → m < j → (i = 0 → v = 9) → (0 < i → v = p.getD (i - 1) 0) → v ≤ 9 → 0 ≤ s → s ≤ 9 →
    bj.L0 k j s i p = some (Pu.fH (p.drop i) v s)
  | m, 0, i, s, v, _, hj, _, _, _, _, _ => by omega
  | 0, j + 1, i, s, v, hi, _, _, _, _, _, _ => by
    rw [bj.bM]
    have e : i = p.length := by omega
    subst e
    simp [Pu.fH]
  | m + 1, j + 1, i, s, v, hi, hj, h0, h1, hv, hs, hs9 => by
    rw [bj.bM]
    have hlt : i < p.length := by omega
    have hj1 : ∀ x : Int, x = p.getD i 0 → 1 ≤ x → x ≤ v → bj.J1 k j s i p = some (decide (s + x ≤ 9) && Pu.fH (p.drop (i + 1)) x (s + x)) := by
      intro x hx hx1 hx2
      rw [bj.fM]
      simp (disch := omega) only [↓ay, bC, bw, aT, a6, aX, aH, aL, aO, br, aS, aQ, az, aw, aY, ar, aN, aW, bz, bu, aZ, a7, ae, Pu.w64, Int.toNat_natCast, decide_eq_true_eq, Int.ofNat_lt, Int.ofNat_le, if_true, if_false, Int.natCast_nonneg, decide_true, decide_false, Bool.not_true, Bool.not_false, Bool.false_eq_true, Bool.not_eq_true, Bool.true_and, Bool.and_true, Bool.false_and, Bool.and_false, hlt, ← hx]
      by_cases c : 9 < s + x
      · have : ¬ s + x ≤ 9 := by omega
        simp [c, this]
      · have c' : s + x ≤ 9 := by omega
        have ih := bj.loop hk hp m j (i + 1) (s + x) x (by omega) (by omega) (by omega) (by simp [hx]) (by omega) (by omega) c'
        rw [Int.natCast_succ] at ih
        simp [c, c', ih]
    rw [Pu.drop_cons hlt 0]
    simp (disch := omega) only [↓ay, bC, bw, aT, a6, aX, aH, aL, aO, br, aS, aQ, az, aw, aY, ar, aN, aW, bz, bu, aZ, a7, ae, Pu.w64, Int.toNat_natCast, decide_eq_true_eq, Int.ofNat_lt, Int.ofNat_le, if_true, if_false, Int.natCast_nonneg, decide_true, decide_false, Bool.not_true, Bool.not_false, Bool.false_eq_true, Bool.not_eq_true, Bool.true_and, Bool.and_true, Bool.false_and, Bool.and_false, hlt, eC.is, Pu.fH]
    generalize hx : p.getD i 0 = x at *
    unfold Pu.within
    by_cases c1 : 1 ≤ x
    · by_cases c2 : x ≤ v
      · have c3 : x ≤ 9 := by omega
        have hj := hj1 x rfl c1 c2
        by_cases hi0 : i = 0
        · have hpos : ¬ (0 : Int) < i := by omega
          simp (disch := omega) only [↓ay, bC, bw, aT, a6, aX, aH, aL, aO, br, aS, aQ, az, aw, aY, ar, aN, aW, bz, bu, aZ, a7, ae, Pu.w64, Int.toNat_natCast, decide_eq_true_eq, Int.ofNat_lt, Int.ofNat_le, if_true, if_false, Int.natCast_nonneg, decide_true, decide_false, Bool.not_true, Bool.not_false, Bool.false_eq_true, Bool.not_eq_true, Bool.true_and, Bool.and_true, Bool.false_and, Bool.and_false, c1, c2, c3, hpos, hj]
        · have hv' := h1 (by omega)
          have e : ((i : Int) - 1) = ((i - 1 : Nat) : Int) := by omega
          have hlt' : i - 1 < p.length := by omega
          have hge : ¬ p.getD (i - 1) 0 < x := by rw [← hv']; omega
          have hpos : (0 : Int) < i := by omega
          simp (disch := omega) only [e, ↓ay, bC, bw, aT, a6, aX, aH, aL, aO, br, aS, aQ, az, aw, aY, ar, aN, aW, bz, bu, aZ, a7, ae, Pu.w64, Int.toNat_natCast, decide_eq_true_eq, Int.ofNat_lt, Int.ofNat_le, if_true, if_false, Int.natCast_nonneg, decide_true, decide_false, Bool.not_true, Bool.not_false, Bool.false_eq_true, Bool.not_eq_true, Bool.true_and, Bool.and_true, Bool.false_and, Bool.and_false, hlt', c1, c2, c3, hj, hpos, hge]
      · simp only [c1, c2, ↓ay, bC, bw, aT, a6, aX, aH, aL, aO, br, aS, aQ, az, aw, aY, ar, aN, aW, bz, bu, aZ, a7, ae, Pu.w64, Int.toNat_natCast, decide_eq_true_eq, Int.ofNat_lt, Int.ofNat_le, if_true, if_false, Int.natCast_nonneg, decide_true, decide_false, Bool.not_true, Bool.not_false, Bool.false_eq_true, Bool.not_eq_true, Bool.true_and, Bool.and_true, Bool.false_and, Bool.and_false]
        by_cases c3 : x ≤ 9
        · have hi0 : 0 < i := by
            rcases Nat.eq_zero_or_pos i with h | h
            · have := h0 h; omega
            · exact h
          have hv' := h1 hi0
          have e : ((i : Int) - 1) = ((i - 1 : Nat) : Int) := by omega
          have hlt' : i - 1 < p.length := by omega
          have hge : p.getD (i - 1) 0 < x := by rw [← hv']; omega
          have hpos : (0 : Int) < i := by omega
          simp (disch := omega) only [e, ↓ay, bC, bw, aT, a6, aX, aH, aL, aO, br, aS, aQ, az, aw, aY, ar, aN, aW, bz, bu, aZ, a7, ae, Pu.w64, Int.toNat_natCast, decide_eq_true_eq, Int.ofNat_lt, Int.ofNat_le, if_true, if_false, Int.natCast_nonneg, decide_true, decide_false, Bool.not_true, Bool.not_false, Bool.false_eq_true, Bool.not_eq_true, Bool.true_and, Bool.and_true, Bool.false_and, Bool.and_false, hlt', c3, hpos, hge]
        · simp only [c3, ↓ay, bC, bw, aT, a6, aX, aH, aL, aO, br, aS, aQ, az, aw, aY, ar, aN, aW, bz, bu, aZ, a7, ae, Pu.w64, Int.toNat_natCast, decide_eq_true_eq, Int.ofNat_lt, Int.ofNat_le, if_true, if_false, Int.natCast_nonneg, decide_true, decide_false, Bool.not_true, Bool.not_false, Bool.false_eq_true, Bool.not_eq_true, Bool.true_and, Bool.and_true, Bool.false_and, Bool.and_false]
    · simp only [c1, ↓ay, bC, bw, aT, a6, aX, aH, aL, aO, br, aS, aQ, az, aw, aY, ar, aN, aW, bz, bu, aZ, a7, ae, Pu.w64, Int.toNat_natCast, decide_eq_true_eq, Int.ofNat_lt, Int.ofNat_le, if_true, if_false, Int.natCast_nonneg, decide_true, decide_false, Bool.not_true, Bool.not_false, Bool.false_eq_true, Bool.not_eq_true, Bool.true_and, Bool.and_true, Bool.false_and, Bool.and_false]
theorem bj.is {k : Nat} {p : List Int} (hk : 4194304 + 1 ≤ k) (hp : p.length ≤ 1048576) : bj k p = some (Pu.cD p) := by
  obtain ⟨k, rfl⟩ : ∃ k', k = k' + 1 := ⟨k - 1, by omega⟩
  rw [bj.eq]
  exact bj.loop (k := k) (by omega) hp p.length k 0 0 9 (by omega) (by omega) (fun _ => rfl) (by omega) (by omega) (by omega) (by omega)
theorem bT.loop {k : Nat} {q p : List Int} (hq : q.length ≤ 1048576) (hl : q.length ≤ p.length) (hk : q.length < k) : bT.L1 k k 0 q p = some ((List.range' 0 q.length).all fun i => decide (q.getD i 0 ≤ p.getD i 0)) := by
  have h := Pu.jl (fun j i => bT.L1 k j (i : Int) q p) q.length (fun i => decide (q.getD i 0 ≤ p.getD i 0)) (some false) (some true)
    (fun j i hi => by
      have hi2 : i < p.length := by omega
      rw [bT.fe]
      simp (disch := omega) only [↓ay, bC, bw, aT, a6, aX, aH, aL, aO, br, aS, aQ, az, aw, aY, ar, aN, aW, bz, bu, aZ, a7, ae, Pu.w64, Int.toNat_natCast, decide_eq_true_eq, Int.ofNat_lt, Int.ofNat_le, if_true, if_false, Int.natCast_nonneg, decide_true, decide_false, Bool.not_true, Bool.not_false, Bool.false_eq_true, Bool.not_eq_true, Bool.true_and, Bool.and_true, Bool.false_and, Bool.and_false, hi, hi2, Int.natCast_add, Int.natCast_one]
      by_cases c : q.getD i 0 ≤ p.getD i 0
      · have c' : ¬ p.getD i 0 < q.getD i 0 := by omega
        simp only [c, c', ↓ay, bC, bw, aT, a6, aX, aH, aL, aO, br, aS, aQ, az, aw, aY, ar, aN, aW, bz, bu, aZ, a7, ae, Pu.w64, Int.toNat_natCast, decide_eq_true_eq, Int.ofNat_lt, Int.ofNat_le, if_true, if_false, Int.natCast_nonneg, decide_true, decide_false, Bool.not_true, Bool.not_false, Bool.false_eq_true, Bool.not_eq_true, Bool.true_and, Bool.and_true, Bool.false_and, Bool.and_false]
      · have c' : p.getD i 0 < q.getD i 0 := by omega
        simp only [c, c', ↓ay, bC, bw, aT, a6, aX, aH, aL, aO, br, aS, aQ, az, aw, aY, ar, aN, aW, bz, bu, aZ, a7, ae, Pu.w64, Int.toNat_natCast, decide_eq_true_eq, Int.ofNat_lt, Int.ofNat_le, if_true, if_false, Int.natCast_nonneg, decide_true, decide_false, Bool.not_true, Bool.not_false, Bool.false_eq_true, Bool.not_eq_true, Bool.true_and, Bool.and_true, Bool.false_and, Bool.and_false])
    (fun j => by
      rw [bT.fe]
      simp only [↓ay, bC, bw, aT, a6, aX, aH, aL, aO, br, aS, aQ, az, aw, aY, ar, aN, aW, bz, bu, aZ, a7, ae, Pu.w64, Int.toNat_natCast, decide_eq_true_eq, Int.ofNat_lt, Int.ofNat_le, if_true, if_false, Int.natCast_nonneg, decide_true, decide_false, Bool.not_true, Bool.not_false, Bool.false_eq_true, Bool.not_eq_true, Bool.true_and, Bool.and_true, Bool.false_and, Bool.and_false, Nat.lt_irrefl]) q.length k 0 (by omega) hk
  simp only [Int.natCast_zero] at h
  rw [h]
  cases (List.range' 0 q.length).all fun i => decide (q.getD i 0 ≤ p.getD i 0) <;> simp
theorem bT.is {k : Nat} {q p : List Int} (hk : 4194304 + 2 ≤ k) (hq : q.length ≤ 1048576) (hp : p.length ≤ 1048576) : bT k q p = some (Pu.dp q p) := by
  obtain ⟨k, rfl⟩ : ∃ k', k = k' + 1 := ⟨k - 1, by omega⟩
  rw [bT.eq, bj.is (by omega) hq, ae, bT.g9]
  unfold Pu.dp
  cases c1 : Pu.cD q with
  | false => simp only [↓ay, bC, bw, aT, a6, aX, aH, aL, aO, br, aS, aQ, az, aw, aY, ar, aN, aW, bz, bu, aZ, a7, ae, Pu.w64, Int.toNat_natCast, decide_eq_true_eq, Int.ofNat_lt, Int.ofNat_le, if_true, if_false, Int.natCast_nonneg, decide_true, decide_false, Bool.not_true, Bool.not_false, Bool.false_eq_true, Bool.not_eq_true, Bool.true_and, Bool.and_true, Bool.false_and, Bool.and_false]
  | true =>
    simp only [↓ay, bC, bw, aT, a6, aX, aH, aL, aO, br, aS, aQ, az, aw, aY, ar, aN, aW, bz, bu, aZ, a7, ae, Pu.w64, Int.toNat_natCast, decide_eq_true_eq, Int.ofNat_lt, Int.ofNat_le, if_true, if_false, Int.natCast_nonneg, decide_true, decide_false, Bool.not_true, Bool.not_false, Bool.false_eq_true, Bool.not_eq_true, Bool.true_and, Bool.and_true, Bool.false_and, Bool.and_false]
    rw [bj.is (by omega) hp, ae]
    cases c2 : Pu.cD p with
    | false => simp only [↓ay, bC, bw, aT, a6, aX, aH, aL, aO, br, aS, aQ, az, aw, aY, ar, aN, aW, bz, bu, aZ, a7, ae, Pu.w64, Int.toNat_natCast, decide_eq_true_eq, Int.ofNat_lt, Int.ofNat_le, if_true, if_false, Int.natCast_nonneg, decide_true, decide_false, Bool.not_true, Bool.not_false, Bool.false_eq_true, Bool.not_eq_true, Bool.true_and, Bool.and_true, Bool.false_and, Bool.and_false]
    | true =>
      simp only [↓ay, bC, bw, aT, a6, aX, aH, aL, aO, br, aS, aQ, az, aw, aY, ar, aN, aW, bz, bu, aZ, a7, ae, Pu.w64, Int.toNat_natCast, decide_eq_true_eq, Int.ofNat_lt, Int.ofNat_le, if_true, if_false, Int.natCast_nonneg, decide_true, decide_false, Bool.not_true, Bool.not_false, Bool.false_eq_true, Bool.not_eq_true, Bool.true_and, Bool.and_true, Bool.false_and, Bool.and_false]
      by_cases c3 : p.length < q.length
      · have c3' : ¬ q.length ≤ p.length := by omega
        simp only [c3, c3', ↓ay, bC, bw, aT, a6, aX, aH, aL, aO, br, aS, aQ, az, aw, aY, ar, aN, aW, bz, bu, aZ, a7, ae, Pu.w64, Int.toNat_natCast, decide_eq_true_eq, Int.ofNat_lt, Int.ofNat_le, if_true, if_false, Int.natCast_nonneg, decide_true, decide_false, Bool.not_true, Bool.not_false, Bool.false_eq_true, Bool.not_eq_true, Bool.true_and, Bool.and_true, Bool.false_and, Bool.and_false]
      · have c3' : q.length ≤ p.length := by omega
        simp only [c3, c3', ↓ay, bC, bw, aT, a6, aX, aH, aL, aO, br, aS, aQ, az, aw, aY, ar, aN, aW, bz, bu, aZ, a7, ae, Pu.w64, Int.toNat_natCast, decide_eq_true_eq, Int.ofNat_lt, Int.ofNat_le, if_true, if_false, Int.natCast_nonneg, decide_true, decide_false, Bool.not_true, Bool.not_false, Bool.false_eq_true, Bool.not_eq_true, Bool.true_and, Bool.and_true, Bool.false_and, Bool.and_false]
        exact bT.loop hq c3' (by omega)
theorem fD.is {k : Nat} {s : List Int × List Int} (hk : 4194304 + 3 ≤ k) (hq : s.1.length ≤ 1048576) (hp : s.2.length ≤ 1048576) : fD k s = some (Pu.dp s.2 s.1) := by
  obtain ⟨k, rfl⟩ : ∃ k', k = k' + 1 := ⟨k - 1, by omega⟩
  rw [fD.eq, bT.is (by omega) hp hq]
  rfl
theorem bV.loop {k : Nat} {t : Pu.Tab} {x3 x4 : List Int} (hk : 4194304 + 3 ≤ k) (hi : Pu.cD t.1 = true) (h2 : t.2.length ≤ 9) (hr : ∀ x ∈ t.2, x.length ≤ 1048576) : ∀ (m j i : Nat) (acc : List Int), i + m = t.2.length → m < j → acc.length = i →
    bV.L1 k j i t.1 t.2 x3 x4 acc t.1 = some (if Pu.dp t.1 (acc ++ Pu.dR t.1 i (t.2.drop i)) = true then ((acc ++ Pu.dR t.1 i (t.2.drop i), t.1), true) else (([], []), false))
  | m, 0, i, acc, _, hj, _ => by omega
  | 0, j + 1, i, acc, hm, _, hacc => by
    rw [bV.fe]
    have e : i = t.2.length := by omega
    have h9 := (Pu.cU hi).2.2.1
    have hlt : ¬ i < t.2.length := by omega
    rw [fD.is (by omega) (by simp only; omega) (by simp only; omega), e]
    simp only [↓ay, bC, bw, aT, a6, aX, aH, aL, aO, br, aS, aQ, az, aw, aY, ar, aN, aW, bz, bu, aZ, a7, ae, Pu.w64, Int.toNat_natCast, decide_eq_true_eq, Int.ofNat_lt, Int.ofNat_le, if_true, if_false, Int.natCast_nonneg, decide_true, decide_false, Bool.not_true, Bool.not_false, Bool.false_eq_true, Bool.not_eq_true, Bool.true_and, Bool.and_true, Bool.false_and, Bool.and_false, Nat.lt_irrefl, List.drop_length, Pu.dR, List.append_nil]
    cases Pu.dp t.1 acc <;> simp
  | m + 1, j + 1, i, acc, hm, hj, hacc => by
    rw [bV.fe]
    have hlt : i < t.2.length := by omega
    have hb := Pu.gm hi i
    have hrow := hr t.2[i] (List.getElem_mem hlt)
    rw [← Pu.bc hlt []] at hrow
    rw [dh.is (by omega)]
    have ih := bV.loop (x3 := x3) (x4 := x4) hk hi h2 hr m j (i + 1) (acc ++ [Pu.atI t.1 i + (t.2.getD i []).length]) (by omega) (by omega) (by simp [hacc])
    rw [Int.natCast_succ] at ih
    rw [Pu.drop_cons hlt []]
    have hl : (acc ++ [Pu.atI t.1 i + ((t.2.getD i []).length : Int)]).length ≤ 1099511627776 := by simp; omega
    simp (disch := omega) only [↓ay, bC, bw, aT, a6, aX, aH, aL, aO, br, aS, aQ, az, aw, aY, ar, aN, aW, bz, bu, aZ, a7, ae, Pu.w64, Int.toNat_natCast, decide_eq_true_eq, Int.ofNat_lt, Int.ofNat_le, if_true, if_false, Int.natCast_nonneg, decide_true, decide_false, Bool.not_true, Bool.not_false, Bool.false_eq_true, Bool.not_eq_true, Bool.true_and, Bool.and_true, Bool.false_and, Bool.and_false, hlt, hl, ih, Pu.dR]
    simp only [List.append_assoc, List.singleton_append, Pu.dU]
    rfl
theorem bV.is {k : Nat} {t : Pu.Tab} (hk : 4194304 + 4 ≤ k) (h1 : t.1.length ≤ 1048576) (h2 : t.2.length ≤ 1048576) (hr : ∀ x ∈ t.2, x.length ≤ 1048576) : bV k t = some (Pu.shapeOf t) := by
  obtain ⟨k, rfl⟩ : ∃ k', k = k' + 1 := ⟨k - 1, by omega⟩
  rw [bV.eq, bj.is (by omega) h1, bV.g9]
  have hl : t.1.length ≤ 1099511627776 := by omega
  simp only [↓ay, bC, bw, aT, a6, aX, aH, aL, aO, br, aS, aQ, az, aw, aY, ar, aN, aW, bz, bu, aZ, a7, ae, Pu.w64, Int.toNat_natCast, decide_eq_true_eq, Int.ofNat_lt, Int.ofNat_le, if_true, if_false, Int.natCast_nonneg, decide_true, decide_false, Bool.not_true, Bool.not_false, Bool.false_eq_true, Bool.not_eq_true, Bool.true_and, Bool.and_true, Bool.false_and, Bool.and_false, List.nil_append, hl]
  unfold Pu.shapeOf
  cases c1 : Pu.cD t.1 with
  | false =>
    have : Pu.cY t = false := by unfold Pu.cY; rw [c1]; rfl
    simp only [this, ↓ay, bC, bw, aT, a6, aX, aH, aL, aO, br, aS, aQ, az, aw, aY, ar, aN, aW, bz, bu, aZ, a7, ae, Pu.w64, Int.toNat_natCast, decide_eq_true_eq, Int.ofNat_lt, Int.ofNat_le, if_true, if_false, Int.natCast_nonneg, decide_true, decide_false, Bool.not_true, Bool.not_false, Bool.false_eq_true, Bool.not_eq_true, Bool.true_and, Bool.and_true, Bool.false_and, Bool.and_false]
  | true =>
    by_cases c2 : t.2.length < t.1.length
    · have : Pu.cY t = false := by
        have : ¬ t.1.length ≤ t.2.length := by omega
        unfold Pu.cY; simp [this]
      simp only [this, c2, ↓ay, bC, bw, aT, a6, aX, aH, aL, aO, br, aS, aQ, az, aw, aY, ar, aN, aW, bz, bu, aZ, a7, ae, Pu.w64, Int.toNat_natCast, decide_eq_true_eq, Int.ofNat_lt, Int.ofNat_le, if_true, if_false, Int.natCast_nonneg, decide_true, decide_false, Bool.not_true, Bool.not_false, Bool.false_eq_true, Bool.not_eq_true, Bool.true_and, Bool.and_true, Bool.false_and, Bool.and_false]
    · by_cases c3 : 9 < t.2.length
      · have : Pu.cY t = false := by
          cases h : Pu.cY t with
          | false => rfl
          | true => have := Pu.ql h; omega
        have c3' : (9 : Int) < t.2.length := by omega
        simp only [this, c2, c3', ↓ay, bC, bw, aT, a6, aX, aH, aL, aO, br, aS, aQ, az, aw, aY, ar, aN, aW, bz, bu, aZ, a7, ae, Pu.w64, Int.toNat_natCast, decide_eq_true_eq, Int.ofNat_lt, Int.ofNat_le, if_true, if_false, Int.natCast_nonneg, decide_true, decide_false, Bool.not_true, Bool.not_false, Bool.false_eq_true, Bool.not_eq_true, Bool.true_and, Bool.and_true, Bool.false_and, Bool.and_false]
      · have c3' : ¬ (9 : Int) < t.2.length := by omega
        have c2' : t.1.length ≤ t.2.length := by omega
        have hloop := bV.loop (k := k) (t := t) (x3 := []) (x4 := []) (by omega) c1 (by omega) hr t.2.length k 0 [] (by omega) (by omega) rfl
        rw [Int.natCast_zero] at hloop
        simp only [c2, c3', ↓ay, bC, bw, aT, a6, aX, aH, aL, aO, br, aS, aQ, az, aw, aY, ar, aN, aW, bz, bu, aZ, a7, ae, Pu.w64, Int.toNat_natCast, decide_eq_true_eq, Int.ofNat_lt, Int.ofNat_le, if_true, if_false, Int.natCast_nonneg, decide_true, decide_false, Bool.not_true, Bool.not_false, Bool.false_eq_true, Bool.not_eq_true, Bool.true_and, Bool.and_true, Bool.false_and, Bool.and_false]
        rw [hloop]
        have : Pu.cY t = Pu.dp t.1 (Pu.outer t) := by unfold Pu.cY; simp [c1, c2']
        rw [this]
        rfl
theorem aF.Aq {k k1 k2 : Nat} {t : Pu.Tab} {r : Nat} {c x v : Int} {o n : List Int} (hk : 3 ≤ k) (hi : Pu.cD t.1 = true) (h1 : 0 ≤ c) (h2 : c ≤ 10000000) (hr : r ≤ 1048576) :
    aF.J2 k k1 k2 r c x v t.1 t.2 o n = if (Pu.within x 1 9 && (decide (v ≤ x) && decide (Pu.entry t ((r : Int) - 1) c < x))) = true then aF.L1 k k1 k2 r (c + 1) t.1 t.2 o n else some false := by
  have he := bG.is (k := k) (t := t) (r := (r : Int) - 1) (c := c) (by omega) hi (by omega) (by omega)
  rw [aF.ml, eC.is (by omega), aF.oi]
  simp (disch := omega) only [↓ay, bC, bw, aT, a6, aX, aH, aL, aO, br, aS, aQ, az, aw, aY, ar, aN, aW, bz, bu, aZ, a7, ae, Pu.w64, Int.toNat_natCast, decide_eq_true_eq, Int.ofNat_lt, Int.ofNat_le, if_true, if_false, Int.natCast_nonneg, decide_true, decide_false, Bool.not_true, Bool.not_false, Bool.false_eq_true, Bool.not_eq_true, Bool.true_and, Bool.and_true, Bool.false_and, Bool.and_false, he]
  cases Pu.within x 1 9 with
  | false => simp
  | true =>
    by_cases c1 : v ≤ x
    · have c1' : ¬ x < v := by omega
      by_cases c2 : Pu.entry t ((r : Int) - 1) c < x
      · have c2' : ¬ x ≤ Pu.entry t ((r : Int) - 1) c := by omega
        simp [c1, c1', c2, c2']
      · have c2' : x ≤ Pu.entry t ((r : Int) - 1) c := by omega
        simp [c1, c1', c2, c2']
    · have c1' : x < v := by omega
      simp [c1, c1']
theorem aF.inner {k k1 : Nat} {t : Pu.Tab} {r : Nat} {n : List Int} (hk : 4194304 ≤ k) (hi : Pu.cD t.1 = true) (ht : t.2.length ≤ 1048576) (hr : ∀ x ∈ t.2, x.length ≤ 1048576) (hlt : r < t.2.length) :
    aF.L1 k k1 k r (t.1.getD r 0) t.1 t.2 (Pu.outer t) n = if ((List.range' 0 (t.2.getD r []).length).all fun q => Pu.fC t r q) = true then aF.L0 k k1 ((r : Int) + 1) t.1 t.2 (Pu.outer t) n else some false := by
  have hx := hr _ (List.getElem_mem hlt)
  rw [← Pu.bc hlt []] at hx
  have hb := Pu.gm hi r
  rw [Pu.dU] at hb
  have hol : r < (Pu.outer t).length := by unfold Pu.outer; rw [Pu.jf]; exact hlt
  have ho : (Pu.outer t).getD r 0 = t.1.getD r 0 + ((t.2.getD r []).length : Int) := by
    have := Pu.fX t.1 t.2 0 r hlt
    rw [Nat.zero_add] at this
    exact this
  have h := Pu.jl (fun j q => aF.L1 k k1 j r (t.1.getD r 0 + (q : Int)) t.1 t.2 (Pu.outer t) n) (t.2.getD r []).length (fun q => Pu.fC t r q) (some false) (aF.L0 k k1 ((r : Int) + 1) t.1 t.2 (Pu.outer t) n)
    (fun j q hq => by
      rw [aF.fe]
      have hc : t.1.getD r 0 + (q : Int) < (Pu.outer t).getD r 0 := by rw [ho]; omega
      have e1 := bG.is (k := k) (t := t) (r := r) (c := t.1.getD r 0 + q) (by omega) hi (by omega) (by omega)
      have e2 := bG.is (k := k) (t := t) (r := r) (c := t.1.getD r 0 + q - 1) (by omega) hi (by omega) (by omega)
      rw [Pu.uZ hlt] at e1
      rw [Pu.wo hlt] at e2
      have ej := fun v => aF.Aq (k := k) (k1 := k1) (k2 := j) (t := t) (r := r) (c := t.1.getD r 0 + q) (x := (t.2.getD r []).getD q 0) (v := v) (o := Pu.outer t) (n := n) (by omega) hi (by omega) (by omega) (by omega)
      have en : t.1.getD r 0 + (q : Int) + 1 = t.1.getD r 0 + ((q + 1 : Nat) : Int) := by omega
      rw [en] at ej
      have key : ∀ v : Int, v = (if q = 0 then 0 else (t.2.getD r []).getD (q - 1) 0) → (Pu.within ((t.2.getD r []).getD q 0) 1 9 && (decide (v ≤ (t.2.getD r []).getD q 0) && decide (Pu.entry t ((r : Int) - 1) (t.1.getD r 0 + q) < (t.2.getD r []).getD q 0))) = Pu.fC t r q := by
        intro v hv
        unfold Pu.fC
        cases hw : Pu.within ((t.2.getD r []).getD q 0) 1 9 with
        | false => rfl
        | true =>
          have hw1 : 1 ≤ (t.2.getD r []).getD q 0 := by
            simp only [Pu.within, Bool.and_eq_true, decide_eq_true_eq] at hw; exact hw.1
          simp only [Bool.true_and]
          congr 1
          · by_cases e : q = 0
            · have : v ≤ (t.2.getD r []).getD q 0 := by rw [hv, if_pos e]; omega
              simp [e, this]
              simpa [e] using this
            · rw [hv, if_neg e]; simp [e]
          · by_cases e : r = 0
            · subst e
              rw [Pu.yh (by omega), decide_eq_true (show (0 : Int) < (t.2.getD 0 []).getD q 0 by omega)]
              simp only [decide_true, Bool.true_or]
            · simp [e]
      by_cases hc0 : 0 < t.1.getD r 0 + (q : Int)
      · simp (disch := omega) only [↓ay, bC, bw, aT, a6, aX, aH, aL, aO, br, aS, aQ, az, aw, aY, ar, aN, aW, bz, bu, aZ, a7, ae, Pu.w64, Int.toNat_natCast, decide_eq_true_eq, Int.ofNat_lt, Int.ofNat_le, if_true, if_false, Int.natCast_nonneg, decide_true, decide_false, Bool.not_true, Bool.not_false, Bool.false_eq_true, Bool.not_eq_true, Bool.true_and, Bool.and_true, Bool.false_and, Bool.and_false, hol, hc, e1, hc0, e2, ej]
        rw [key _ rfl]
      · simp (disch := omega) only [↓ay, bC, bw, aT, a6, aX, aH, aL, aO, br, aS, aQ, az, aw, aY, ar, aN, aW, bz, bu, aZ, a7, ae, Pu.w64, Int.toNat_natCast, decide_eq_true_eq, Int.ofNat_lt, Int.ofNat_le, if_true, if_false, Int.natCast_nonneg, decide_true, decide_false, Bool.not_true, Bool.not_false, Bool.false_eq_true, Bool.not_eq_true, Bool.true_and, Bool.and_true, Bool.false_and, Bool.and_false, hol, hc, e1, hc0, ej]
        rw [key 0 (by have : q = 0 := by omega
                      rw [if_pos this])])
    (fun j => by
      rw [aF.fe]
      have hc : ¬ t.1.getD r 0 + ((t.2.getD r []).length : Int) < (Pu.outer t).getD r 0 := by rw [ho]; omega
      simp (disch := omega) only [↓ay, bC, bw, aT, a6, aX, aH, aL, aO, br, aS, aQ, az, aw, aY, ar, aN, aW, bz, bu, aZ, a7, ae, Pu.w64, Int.toNat_natCast, decide_eq_true_eq, Int.ofNat_lt, Int.ofNat_le, if_true, if_false, Int.natCast_nonneg, decide_true, decide_false, Bool.not_true, Bool.not_false, Bool.false_eq_true, Bool.not_eq_true, Bool.true_and, Bool.and_true, Bool.false_and, Bool.and_false, hol, hc]) (t.2.getD r []).length k 0 (by omega) (by omega)
  simp only [Int.natCast_zero, Int.add_zero] at h
  exact h
theorem aF.is {k : Nat} {t : Pu.Tab} (hk : 4194304 + 5 ≤ k) (h1 : t.1.length ≤ 1048576) (ht : t.2.length ≤ 1048576) (hr : ∀ x ∈ t.2, x.length ≤ 1048576) : aF k t = some (Pu.fV t) := by
  obtain ⟨k, rfl⟩ : ∃ k', k = k' + 1 := ⟨k - 1, by omega⟩
  rw [aF.eq, bV.is (by omega) h1 ht hr, ae]
  unfold Pu.fV Pu.shapeOf
  cases hs : Pu.cY t with
  | false => simp [hs]
  | true =>
    have hi : Pu.cD t.1 = true := by
      simp only [Pu.cY, Bool.and_eq_true] at hs; exact hs.1
    have hol : (Pu.outer t).length = t.2.length := by unfold Pu.outer; rw [Pu.jf]
    have h := Pu.jl (fun j r => aF.L0 k j r t.1 t.2 (Pu.outer t) t.1) t.2.length (fun r => (List.range' 0 (t.2.getD r []).length).all fun q => Pu.fC t r q) (some false) (some true)
      (fun j r hlt => by
        rw [aF.bM, dh.is (by omega), Pu.dU]
        simp (disch := omega) only [↓ay, bC, bw, aT, a6, aX, aH, aL, aO, br, aS, aQ, az, aw, aY, ar, aN, aW, bz, bu, aZ, a7, ae, Pu.w64, Int.toNat_natCast, decide_eq_true_eq, Int.ofNat_lt, Int.ofNat_le, if_true, if_false, Int.natCast_nonneg, decide_true, decide_false, Bool.not_true, Bool.not_false, Bool.false_eq_true, Bool.not_eq_true, Bool.true_and, Bool.and_true, Bool.false_and, Bool.and_false, hol, hlt, aF.inner (k1 := j) (n := t.1) (show 4194304 ≤ k by omega) hi ht hr hlt, Int.natCast_add, Int.natCast_one])
      (fun j => by
        rw [aF.bM]
        simp (disch := omega) only [↓ay, bC, bw, aT, a6, aX, aH, aL, aO, br, aS, aQ, az, aw, aY, ar, aN, aW, bz, bu, aZ, a7, ae, Pu.w64, Int.toNat_natCast, decide_eq_true_eq, Int.ofNat_lt, Int.ofNat_le, if_true, if_false, Int.natCast_nonneg, decide_true, decide_false, Bool.not_true, Bool.not_false, Bool.false_eq_true, Bool.not_eq_true, Bool.true_and, Bool.and_true, Bool.false_and, Bool.and_false, hol, Nat.lt_irrefl]) t.2.length k 0 (by omega) (by omega)
    simp only [Int.natCast_zero] at h
    simp only [if_true, ↓ay, bC, bw, aT, a6, aX, aH, aL, aO, br, aS, aQ, az, aw, aY, ar, aN, aW, bz, bu, aZ, a7, ae, Pu.w64, Int.toNat_natCast, decide_eq_true_eq, Int.ofNat_lt, Int.ofNat_le, if_true, if_false, Int.natCast_nonneg, decide_true, decide_false, Bool.not_true, Bool.not_false, Bool.false_eq_true, Bool.not_eq_true, Bool.true_and, Bool.and_true, Bool.false_and, Bool.and_false]
    rw [h]
    cases (List.range' 0 t.2.length).all fun r => (List.range' 0 (t.2.getD r []).length).all fun q => Pu.fC t r q <;> simp
def mz (a n m : Nat) (t : Pu.Tab) : Prop := t.1.length ≤ a ∧ Pu.dK n m t.2
theorem mz.tab {a n m : Nat} {t : Pu.Tab} (h : mz a n m t) (ha : a ≤ 1048576) (hn : n ≤ 1048576) (hm : m ≤ 1048576) : t.1.length ≤ 1048576 ∧ t.2.length ≤ 1048576 ∧ ∀ x ∈ t.2, x.length ≤ 1048576 :=
  ⟨Nat.le_trans h.1 ha, Nat.le_trans h.2.1 hn, fun x hx => Nat.le_trans (h.2.2 x hx) hm⟩
theorem dy.ok {k : Nat} {m i h : Int} {b : List Int} (hk : 4194304 + 14 ≤ k) (hb : b.length ≤ 1048576) (hi : 0 ≤ i) (hi' : i ≤ b.length) (hm : 1 ≤ m) (hm' : m ≤ 9) :
    Pu.Ok (dy k m i h b) fun r => mz 9 9 9 r.1 ∧ 0 ≤ r.2.2.1 ∧ r.2.2.1 ≤ b.length := by
  obtain ⟨k, rfl⟩ : ∃ k', k = k' + 1 := ⟨k - 1, by omega⟩
  rw [dy.eq]
  obtain ⟨p, i1, h1, e1, hp, a4, a5⟩ := cW.is (k := k) (m := m) (h := h) (b := b) (by omega) hb hi hi' hm hm'
  refine Pu.Ok.jW e1 ?_
  dsimp only
  refine Pu.Ok.bnd (aM.ok (by omega) hb a4 a5 hp ⟨by simp, fun x hx => by cases hx⟩) ?_
  rintro ⟨⟨q, rs⟩, _, i2, h2⟩ ⟨e2, hr, b4, b5⟩
  simp only at e2
  subst e2
  have ht : mz 9 9 9 (([], rs) : Pu.Tab) := ⟨by simp, hr⟩
  obtain ⟨c1, c2, c3⟩ := ht.tab (by omega) (by omega) (by omega)
  dsimp only
  refine Pu.Ok.jW (aF.is (by omega) c1 c2 c3) ?_
  refine Pu.Ok.tn (fun _ => Pu.Ok.ret ⟨⟨by simp, by simp, fun x hx => ?_⟩, b4, b5⟩) (fun _ => Pu.Ok.ret ⟨ht, b4, b5⟩)
  simp only [List.mem_cons, List.not_mem_nil, or_false] at hx
  rcases hx with rfl | rfl <;> simp
theorem bq.loop {k : Nat} {b o a c : List Int} (hk : 4194304 + 12 ≤ k) (hb : b.length ≤ 1048576) (ho : Pu.l8 9 o) : ∀ (m j i : Nat) (low p h : Int) (q : List Int), i + m = o.length → m < j → 0 ≤ p → p ≤ b.length → 1 ≤ low → low ≤ 9 → q.length ≤ i → (∀ x ∈ q, 1 ≤ x ∧ x ≤ 9) →
    Pu.Ok (bq.L0 k j low i p h b a c o q) fun r => r.1.1 = o ∧ Pu.l8 9 r.1.2 ∧ 0 ≤ r.2.2.1 ∧ r.2.2.1 ≤ b.length
  | m, 0, i, low, p, h, q, _, hj, _, _, _, _, _, _ => by omega
  | 0, j + 1, i, low, p, h, q, hi, _, h0, h1, h2, h3, hq, hg => by
    rw [bq.bM]
    simp only [bC, bw, aT, a6, aX, aH, aL, aO, br, aS, aQ, az, aw, aY, ar, aN, aW, nG, bz, bu, aZ, a7, kB, kF, kD, j9, List.nil_append, List.cons_append]
    have h9 := ho.1
    exact Pu.Ok.no (by omega) (Pu.Ok.ret ⟨rfl, ⟨by dsimp only; omega, hg⟩, h0, h1⟩)
  | m + 1, j + 1, i, low, p, h, q, hi, hj, h0, h1, h2, h3, hq, hg => by
    rw [bq.bM]
    simp only [bC, bw, aT, a6, aX, aH, aL, aO, br, aS, aQ, az, aw, aY, ar, aN, aW, nG, bz, bu, aZ, a7, kB, kF, kD, j9, List.nil_append, List.cons_append]
    have hlt : i < o.length := by omega
    have hx := ho.2 _ (List.getElem_mem hlt)
    rw [← Pu.bc hlt 0] at hx
    have h9 := ho.1
    (repeat (refine Pu.Ok.g (by first | omega | assumption | (simp only [List.length_append, List.length_cons, List.length_nil, List.length_set, List.length_take, List.length_drop, List.length_replicate] at *; omega)) ?_))
    (try simp only [Int.toNat_natCast]); (try simp (disch := omega) only [Pu.w64])
    obtain ⟨r, i1, h1', e1, a1, a2, a3, a4, a5⟩ := aG.is (k := k) (n := o.getD i 0 + 1) (h := h) (b := b) (by omega) hb h0 h1 (by omega)
    refine Pu.Ok.jW e1 (Pu.Ok.jW (eE.is (by omega)) ?_)
    dsimp only
    refine Pu.Ok.t (fun hz => Pu.Ok.ret ⟨rfl, ⟨by dsimp only; omega, hg⟩, a4, a5⟩) (fun hz => ?_)
    obtain ⟨r2, i2, h2', e2, b4, b5⟩ := ch.is (k := k) (n := 3) (h := h1') (b := b) (by omega) hb a4 a5 (by omega)
    refine Pu.Ok.jW e2 (Pu.Ok.tb (fun _ => Pu.Ok.ret ⟨rfl, ⟨by dsimp only; omega, hg⟩, b4, b5⟩) (fun _ => ?_))
    dsimp only
    rw [bq.fM]
    simp only [bC, bw, aT, a6, aX, aH, aL, aO, br, aS, aQ, az, aw, aY, ar, aN, aW, nG, bz, bu, aZ, a7, kB, kF, kD, j9, List.nil_append, List.cons_append]
    (repeat (refine Pu.Ok.g (by first | omega | assumption | (simp only [List.length_append, List.length_cons, List.length_nil, List.length_set, List.length_take, List.length_drop, List.length_replicate] at *; omega)) ?_))
    (try simp only [Int.toNat_natCast]); (try simp (disch := omega) only [Pu.w64])
    exact bq.loop hk hb ho m j (i + 1) (min low r) i2 h2' _ (by omega) (by omega) b4 b5 (by omega) (by omega) (by rw [List.length_append]; simp; omega) (fun x hx => by
      rcases List.mem_append.1 hx with h | h
      · exact hg x h
      · simp only [List.mem_singleton] at h; omega)
theorem bq.ok {k : Nat} {m i h : Int} {b : List Int} (hk : 4194304 + 13 ≤ k) (hb : b.length ≤ 1048576) (hi : 0 ≤ i) (hi' : i ≤ b.length) (hm : 1 ≤ m) (hm' : m ≤ 9) :
    Pu.Ok (bq k m i h b) fun r => Pu.l8 9 r.1.1 ∧ Pu.l8 9 r.1.2 ∧ 0 ≤ r.2.2.1 ∧ r.2.2.1 ≤ b.length := by
  obtain ⟨k, rfl⟩ : ∃ k', k = k' + 1 := ⟨k - 1, by omega⟩
  rw [bq.eq]
  obtain ⟨p, i1, h1, e1, hp, a4, a5⟩ := cW.is (k := k) (m := m) (h := h) (b := b) (by omega) hb hi hi' hm hm'
  refine Pu.Ok.jW e1 ?_
  have := hp.1
  refine Pu.Ok.mono (bq.loop (by omega) hb hp p.length k 0 m i1 h1 [] (by omega) (by omega) a4 a5 hm hm' (by simp) (fun x hx => by cases hx)) ?_
  rintro ⟨⟨o, q⟩, _, i', h'⟩ ⟨e, c2, c3, c4⟩
  simp only at e
  subst e
  exact ⟨hp, c2, c3, c4⟩
theorem dE.ok {k : Nat} {m i h : Int} {b : List Int} (hk : 4194304 + 15 ≤ k) (hb : b.length ≤ 1048576) (hi : 0 ≤ i) (hi' : i ≤ b.length) (hm : 1 ≤ m) (hm' : m ≤ 9) :
    Pu.Ok (dE k m i h b) fun r => mz 9 9 9 r.1 ∧ 0 ≤ r.2.2.1 ∧ r.2.2.1 ≤ b.length := by
  obtain ⟨k, rfl⟩ : ∃ k', k = k' + 1 := ⟨k - 1, by omega⟩
  rw [dE.eq]
  refine Pu.Ok.bnd (bq.ok (by omega) hb hi hi' hm hm') ?_
  rintro ⟨⟨o, p⟩, _, i1, h1⟩ ⟨ho, hp, a4, a5⟩
  dsimp only at *
  refine Pu.Ok.bnd (aM.ok (by omega) hb a4 a5 ho hp) ?_
  rintro ⟨⟨q, rs⟩, _, i2, h2⟩ ⟨e2, hr, b4, b5⟩
  simp only at e2
  subst e2
  have ht : mz 9 9 9 ((q, rs) : Pu.Tab) := ⟨hp.1, hr⟩
  obtain ⟨c1, c2, c3⟩ := ht.tab (by omega) (by omega) (by omega)
  dsimp only
  refine Pu.Ok.jW (aF.is (by omega) c1 c2 c3) ?_
  refine Pu.Ok.tn (fun _ => Pu.Ok.ret ⟨⟨by simp, by simp, fun x hx => ?_⟩, b4, b5⟩) (fun _ => Pu.Ok.ret ⟨ht, b4, b5⟩)
  simp only [List.mem_cons, List.not_mem_nil, or_false] at hx
  rcases hx with rfl | rfl <;> simp
theorem bX.is {k : Nat} {l : List Int} {i h : Int} {b : List Int} (hk : 3 ≤ k) (hb : b.length ≤ 1048576) (hi : 0 ≤ i) (hi' : i ≤ b.length) (hl : 0 < l.length) (hl' : l.length ≤ 256) :
    ∃ r i' h', bX k i h l b = some (r, ((), (i', h'))) ∧ r ∈ l ∧ 0 ≤ i' ∧ i' ≤ b.length := by
  obtain ⟨k, rfl⟩ : ∃ k', k = k' + 1 := ⟨k - 1, by omega⟩
  rw [bX.eq]
  obtain ⟨r, i', h', e, h1, h2, h3, h4, h5⟩ := aG.is (k := k) (n := l.length) (h := h) (b := b) (by omega) hb hi hi' (by omega)
  have h3 := h3 (by omega)
  have hn : r.toNat < l.length := by omega
  refine ⟨l.getD r.toNat 0, i', h', ?_, ?_, h4, h5⟩
  · simp only [↓ay, bC, bw, aT, a6, aX, aH, aL, aO, br, aS, aQ, az, aw, aY, ar, aN, aW, bz, bu, aZ, a7, ae, Pu.w64, Int.toNat_natCast, decide_eq_true_eq, Int.ofNat_lt, Int.ofNat_le, if_true, if_false, Int.natCast_nonneg, decide_true, decide_false, Bool.not_true, Bool.not_false, Bool.false_eq_true, Bool.not_eq_true, Bool.true_and, Bool.and_true, Bool.false_and, Bool.and_false, e, h1, hn]
  · rw [Pu.bc hn 0]; exact List.getElem_mem hn
theorem dG.ok {k : Nat} {m i h : Int} {b : List Int} (hk : 4194304 + 16 ≤ k) (hb : b.length ≤ 1048576) (hi : 0 ≤ i) (hi' : i ≤ b.length) (hm : 1 ≤ m) (hm' : m ≤ 9) :
    Pu.Ok (dG k m i h b) fun r => mz 10 9 10 r.1 ∧ 0 ≤ r.2.2.1 ∧ r.2.2.1 ≤ b.length := by
  obtain ⟨k, rfl⟩ : ∃ k', k = k' + 1 := ⟨k - 1, by omega⟩
  rw [dG.eq]
  refine Pu.Ok.bnd (dE.ok (by omega) hb hi hi' hm hm') ?_
  rintro ⟨⟨q, rs⟩, _, i1, h1⟩ ⟨⟨hq, hr⟩, a4, a5⟩
  dsimp only at *
  have hr' : Pu.dK 9 10 rs := hr.mono (by omega) (by omega)
  simp only [bC, bw, aT, a6, aX, aH, aL, aO, br, aS, aQ, az, aw, aY, ar, aN, aW, nG, bz, bu, aZ, a7, kB, kF, kD, j9, List.nil_append, List.cons_append]
  refine Pu.Ok.t (fun _ => Pu.Ok.ret ⟨⟨by dsimp only; omega, hr'⟩, a4, a5⟩) (fun h0 => ?_)
  have hlen := hr.1
  obtain ⟨r, i2, h2, e2, b1, b2, b3, b4, b5⟩ := aG.is (k := k) (n := rs.length) (h := h1) (b := b) (by omega) hb a4 a5 (by omega)
  have b3 := b3 (by omega)
  obtain ⟨r', i3, h3, e3, c1, c2, c3, c4, c5⟩ := aG.is (k := k) (n := 16) (h := h2) (b := b) (by omega) hb b4 b5 (by omega)
  refine Pu.Ok.jW e2 ?_
  dsimp only
  refine Pu.Ok.jW e3 ?_
  dsimp only
  have hrow := hr.at r.toNat
  refine Pu.Ok.t (fun _ => ?_) (fun _ => Pu.Ok.t (fun _ => ?_) (fun _ => Pu.Ok.t (fun _ => ?_) (fun _ => Pu.Ok.ret ⟨⟨by dsimp only; omega, hr'⟩, c4, c5⟩)))
  · (repeat (refine Pu.Ok.g (by first | omega | assumption | (simp only [List.length_append, List.length_cons, List.length_nil, List.length_set, List.length_take, List.length_drop, List.length_replicate] at *; omega)) ?_))
    obtain ⟨x, i4, h4, e4, d1, d4, d5⟩ := bX.is (k := k) (l := [0, 9, 10, -1]) (h := h3) (b := b) (by omega) hb c4 c5 (by simp) (by simp)
    refine Pu.Ok.jW e4 ?_
    dsimp only
    (repeat (refine Pu.Ok.g (by first | omega | assumption | (simp only [List.length_append, List.length_cons, List.length_nil, List.length_set, List.length_take, List.length_drop, List.length_replicate] at *; omega)) ?_))
    refine Pu.Ok.g trivial (Pu.Ok.ret ⟨⟨by dsimp only; omega, hr'.set _ ?_⟩, d4, d5⟩)
    rw [List.length_append, List.length_singleton]; omega
  · (repeat (refine Pu.Ok.g (by first | omega | assumption | (simp only [List.length_append, List.length_cons, List.length_nil, List.length_set, List.length_take, List.length_drop, List.length_replicate] at *; omega)) ?_))
    refine Pu.Ok.t (fun hz => ?_) (fun _ => Pu.Ok.ret ⟨⟨by dsimp only; omega, hr'⟩, c4, c5⟩)
    have hz' : (0 : Int).toNat < (rs.getD r.toNat []).length := by
      show 0 < _
      omega
    (repeat (refine Pu.Ok.g (by first | omega | assumption | (simp only [List.length_append, List.length_cons, List.length_nil, List.length_set, List.length_take, List.length_drop, List.length_replicate] at *; omega)) ?_))
    refine Pu.Ok.ret ⟨⟨by dsimp only; omega, hr'.set _ ?_⟩, c4, c5⟩
    rw [List.length_set]; omega
  · obtain ⟨x, i4, h4, e4, d1, d4, d5⟩ := bX.is (k := k) (l := [1, 0, -1, 9]) (h := h3) (b := b) (by omega) hb c4 c5 (by simp) (by simp)
    refine Pu.Ok.jW e4 ?_
    dsimp only
    (repeat (refine Pu.Ok.g (by first | omega | assumption | (simp only [List.length_append, List.length_cons, List.length_nil, List.length_set, List.length_take, List.length_drop, List.length_replicate] at *; omega)) ?_))
    refine Pu.Ok.ret ⟨⟨?_, hr'⟩, d4, d5⟩
    dsimp only
    rw [List.length_append, List.length_singleton]; omega
theorem an.loop {k : Nat} {z : Int} {b e : List Int} {d : List (List Int)} (hb : b.length ≤ 1048576) : ∀ (m j i : Nat) (h : Int), i + m = 4000 → m < j → ∃ h', an.L0 k j h i z b e d = an.J2 k h' z b e d
  | m, 0, i, h, _, hj => by omega
  | 0, j + 1, i, h, hi, _ => by
    rw [an.bM, Pu.ky, Pu.ky]
    have h4 : ¬ (i : Int) < 4000 := by omega
    refine ⟨h, ?_⟩
    rw [if_neg h4, ite_self]
  | m + 1, j + 1, i, h, hi, hj => by
    rw [an.bM, Pu.ky, Pu.ky]
    have h4 : (i : Int) < 4000 := by omega
    by_cases hlt : i < b.length
    · have ew : IntKind.i64.wrap ((i : Int) + 1) = ((i + 1 : Nat) : Int) := by rw [Pu.w64 (by omega) (by omega)]; omega
      have hlt' : (i : Int) < D.ofN (D.len b) := by show (i : Int) < (b.length : Int); omega
      rw [if_pos hlt', if_pos h4, an.fM]
      obtain ⟨h', ih⟩ := an.loop (k := k) (z := z) (e := e) (d := d) hb m j (i + 1) (D.andI .i64 (D.wrap .i64 (D.add (D.wrap .i64 (D.add (D.wrap .i64 (D.mul h 131)) (D.wrap .i64 (D.rd b (D.nat (i : Int)) 0)))) 7)) 1073741823) (by omega) (by omega)
      refine ⟨h', ?_⟩
      have t1 : D.le 0 (i : Int) = true := decide_eq_true (by omega)
      have t2 : D.ltN (D.nat (i : Int)) (D.len b) = true := decide_eq_true (by show (i : Int).toNat < b.length; omega)
      rw [ay, if_pos t1, ay, if_pos t2, ay, if_pos t2]
      have ew' : D.wrap .i64 (D.add (i : Int) 1) = ((i + 1 : Nat) : Int) := ew
      rw [ew']
      exact ih
    · have hlt' : ¬ (i : Int) < D.ofN (D.len b) := by show ¬ (i : Int) < (b.length : Int); omega
      exact ⟨h, by rw [if_neg hlt']⟩
theorem an.rest {k : Nat} {i h : Int} {b e q : List Int} {d rs : List (List Int)} (hk : 4194304 + 18 ≤ k) (hb : b.length ≤ 1048576) (hi : 0 ≤ i) (hi' : i ≤ b.length) (ht : mz 10 9 10 (q, rs)) :
    Pu.Ok (an.J3 k i h e d b q rs) fun r => mz 10 9 10 r.1 := by
  rw [an.oi]
  obtain ⟨r1, i1, h1, e1, _, _, _, a4, a5⟩ := aG.is (k := HAdd.hAdd k 1) (n := 6) (i := i) (h := h) (b := b) (by show _ ≤ k + 1; omega) hb hi hi' (by omega)
  refine Pu.Ok.jW e1 ?_
  obtain ⟨r2, i2, h2, e2, _, _, _, b4, b5⟩ := aG.is (k := HAdd.hAdd k 1) (n := 4) (i := i1) (h := h1) (b := b) (by show _ ≤ k + 1; omega) hb a4 a5 (by omega)
  refine Pu.Ok.jW e2 ?_
  obtain ⟨r3, i3, h3, e3, _, _, _, c4, c5⟩ := aG.is (k := HAdd.hAdd k 1) (n := 4) (i := i2) (h := h2) (b := b) (by show _ ≤ k + 1; omega) hb b4 b5 (by omega)
  refine Pu.Ok.jW e3 ?_
  dsimp only
  generalize D.wrap .i64 (D.add 1 r1) = x1
  generalize D.wrap .i64 (D.add 1 r2) = x2
  generalize D.wrap .i64 (D.add 1 r3) = x3
  obtain ⟨x, i4, h4, e4, _, _, _⟩ := bX.is (k := HAdd.hAdd k 1) (l := [x1, x2, x3, 0, 10]) (i := i3) (h := h3) (b := b) (by show _ ≤ k + 1; omega) hb c4 c5 (by simp) (by simp)
  refine Pu.Ok.jW e4 ?_
  exact Pu.Ok.ret ht
theorem an.ok {k : Nat} {b : List Int} (hk : 4194304 + 20 ≤ k) (hb : b.length ≤ 1048576) : Pu.Ok (an k b) fun r => mz 10 9 10 r.1 := by
  obtain ⟨k, rfl⟩ : ∃ k', k = k' + 2 := ⟨k - 2, by omega⟩
  rw [an.eq]
  obtain ⟨h', e⟩ := an.loop (k := k) (z := 0) (e := ([] : List Int)) (d := ([] : List (List Int))) hb 4000 k 0 (D.wrap .i64 (D.add 26583 (D.ofN (D.len b)))) (by omega) (by omega)
  rw [Int.natCast_zero] at e
  rw [e, an.ml]
  refine Pu.Ok.bnd (dy.ok (by show _ ≤ k + 1; omega) hb (by omega) (by omega) (by omega) (by omega)) ?_
  rintro ⟨⟨q, rs⟩, _, i1, h1⟩ ⟨⟨hq, hr⟩, a4, a5⟩
  dsimp only at *
  obtain ⟨r2, i2, h2, e2, b4, b5⟩ := ch.is (k := HAdd.hAdd k 1) (n := 8) (h := h1) (b := b) (by show _ ≤ k + 1; omega) hb a4 a5 (by omega)
  refine Pu.Ok.jW e2 ?_
  dsimp only
  refine Pu.Ok.tb (fun _ => ?_) (fun _ => ?_)
  · refine Pu.Ok.bnd (dG.ok (by show _ ≤ k + 1; omega) hb b4 b5 (by omega) (by omega)) ?_
    rintro ⟨⟨q, rs⟩, _, i1, h1⟩ ⟨ht, a4, a5⟩
    exact an.rest (by omega) hb a4 a5 ht
  · exact an.rest (by omega) hb b4 b5 ⟨by dsimp only; omega, hr.mono (by omega) (by omega)⟩
theorem cK.is {k : Nat} {x lo hi : Int} (hk : 1 ≤ k) : cK k x lo hi = some (Pu.within x lo hi) := by
  obtain ⟨k, rfl⟩ : ∃ k', k = k' + 1 := ⟨k - 1, by omega⟩
  rw [cK.eq]
  by_cases h : lo ≤ x <;> simp [Pu.within, h]
theorem bh.loop {k : Nat} {p : List Int} (hk : 4194304 ≤ k) (hp : p.length ≤ 1048576) : ∀ (m j i : Nat) (s v : Int), i + m = p.length → m < j → (i = 0 → v = 9) → (0 < i → v = p.getD (i - 1) 0) → v ≤ 9 → 0 ≤ s → s ≤ 9 →
    bh.L0 k j s p.length i p = some (Pu.fH (p.drop i) v s)
  | m, 0, i, s, v, _, hj, _, _, _, _, _ => by omega
  | 0, j + 1, i, s, v, hi, _, _, _, _, _, _ => by
    rw [bh.bM]
    have e : i = p.length := by omega
    subst e
    simp [Pu.fH]
  | m + 1, j + 1, i, s, v, hi, hj, h0, h1, hv, hs, hs9 => by
    rw [bh.bM]
    have hlt : i < p.length := by omega
    have hj1 : ∀ x : Int, x = p.getD i 0 → 1 ≤ x → x ≤ v → bh.J1 k j s x p.length i p = some (decide (s + x ≤ 9) && Pu.fH (p.drop (i + 1)) x (s + x)) := by
      intro x hx hx1 hx2
      rw [bh.fM]
      simp (disch := omega) only [↓ay, bC, bw, aT, a6, aX, aH, aL, aO, br, aS, aQ, az, aw, aY, ar, aN, aW, bz, bu, aZ, a7, ae, Pu.w64, Int.toNat_natCast, decide_eq_true_eq, Int.ofNat_lt, Int.ofNat_le, if_true, if_false, Int.natCast_nonneg, decide_true, decide_false, Bool.not_true, Bool.not_false, Bool.false_eq_true, Bool.not_eq_true, Bool.true_and, Bool.and_true, Bool.false_and, Bool.and_false]
      by_cases c : 9 < s + x
      · have : ¬ s + x ≤ 9 := by omega
        simp [c, this]
      · have c' : s + x ≤ 9 := by omega
        have ih := bh.loop hk hp m j (i + 1) (s + x) x (by omega) (by omega) (by omega) (by simp [hx]) (by omega) (by omega) c'
        rw [Int.natCast_succ] at ih
        simp [c, c', ih]
    rw [Pu.drop_cons hlt 0]
    simp (disch := omega) only [↓ay, bC, bw, aT, a6, aX, aH, aL, aO, br, aS, aQ, az, aw, aY, ar, aN, aW, bz, bu, aZ, a7, ae, Pu.w64, Int.toNat_natCast, decide_eq_true_eq, Int.ofNat_lt, Int.ofNat_le, if_true, if_false, Int.natCast_nonneg, decide_true, decide_false, Bool.not_true, Bool.not_false, Bool.false_eq_true, Bool.not_eq_true, Bool.true_and, Bool.and_true, Bool.false_and, Bool.and_false, hlt, cK.is, Pu.fH]
    generalize hx : p.getD i 0 = x at *
    unfold Pu.within
    by_cases c1 : 1 ≤ x
    · by_cases c2 : x ≤ v
      · have c3 : x ≤ 9 := by omega
        have hj := hj1 x rfl c1 c2
        by_cases hi0 : i = 0
        · have hpos : ¬ (0 : Int) < i := by omega
          simp (disch := omega) only [↓ay, bC, bw, aT, a6, aX, aH, aL, aO, br, aS, aQ, az, aw, aY, ar, aN, aW, bz, bu, aZ, a7, ae, Pu.w64, Int.toNat_natCast, decide_eq_true_eq, Int.ofNat_lt, Int.ofNat_le, if_true, if_false, Int.natCast_nonneg, decide_true, decide_false, Bool.not_true, Bool.not_false, Bool.false_eq_true, Bool.not_eq_true, Bool.true_and, Bool.and_true, Bool.false_and, Bool.and_false, c1, c2, c3, hpos, hj]
        · have hv' := h1 (by omega)
          have e : ((i : Int) - 1) = ((i - 1 : Nat) : Int) := by omega
          have hlt' : i - 1 < p.length := by omega
          have hge : ¬ p.getD (i - 1) 0 < x := by rw [← hv']; omega
          have hpos : (0 : Int) < i := by omega
          simp (disch := omega) only [e, ↓ay, bC, bw, aT, a6, aX, aH, aL, aO, br, aS, aQ, az, aw, aY, ar, aN, aW, bz, bu, aZ, a7, ae, Pu.w64, Int.toNat_natCast, decide_eq_true_eq, Int.ofNat_lt, Int.ofNat_le, if_true, if_false, Int.natCast_nonneg, decide_true, decide_false, Bool.not_true, Bool.not_false, Bool.false_eq_true, Bool.not_eq_true, Bool.true_and, Bool.and_true, Bool.false_and, Bool.and_false, hlt', c1, c2, c3, hj, hpos, hge]
      · simp only [c1, c2, ↓ay, bC, bw, aT, a6, aX, aH, aL, aO, br, aS, aQ, az, aw, aY, ar, aN, aW, bz, bu, aZ, a7, ae, Pu.w64, Int.toNat_natCast, decide_eq_true_eq, Int.ofNat_lt, Int.ofNat_le, if_true, if_false, Int.natCast_nonneg, decide_true, decide_false, Bool.not_true, Bool.not_false, Bool.false_eq_true, Bool.not_eq_true, Bool.true_and, Bool.and_true, Bool.false_and, Bool.and_false]
        by_cases c3 : x ≤ 9
        · have hi0 : 0 < i := by
            rcases Nat.eq_zero_or_pos i with h | h
            · have := h0 h; omega
            · exact h
          have hv' := h1 hi0
          have e : ((i : Int) - 1) = ((i - 1 : Nat) : Int) := by omega
          have hlt' : i - 1 < p.length := by omega
          have hge : p.getD (i - 1) 0 < x := by rw [← hv']; omega
          have hpos : (0 : Int) < i := by omega
          simp (disch := omega) only [e, ↓ay, bC, bw, aT, a6, aX, aH, aL, aO, br, aS, aQ, az, aw, aY, ar, aN, aW, bz, bu, aZ, a7, ae, Pu.w64, Int.toNat_natCast, decide_eq_true_eq, Int.ofNat_lt, Int.ofNat_le, if_true, if_false, Int.natCast_nonneg, decide_true, decide_false, Bool.not_true, Bool.not_false, Bool.false_eq_true, Bool.not_eq_true, Bool.true_and, Bool.and_true, Bool.false_and, Bool.and_false, hlt', c3, hpos, hge]
        · simp only [c3, ↓ay, bC, bw, aT, a6, aX, aH, aL, aO, br, aS, aQ, az, aw, aY, ar, aN, aW, bz, bu, aZ, a7, ae, Pu.w64, Int.toNat_natCast, decide_eq_true_eq, Int.ofNat_lt, Int.ofNat_le, if_true, if_false, Int.natCast_nonneg, decide_true, decide_false, Bool.not_true, Bool.not_false, Bool.false_eq_true, Bool.not_eq_true, Bool.true_and, Bool.and_true, Bool.false_and, Bool.and_false]
    · simp only [c1, ↓ay, bC, bw, aT, a6, aX, aH, aL, aO, br, aS, aQ, az, aw, aY, ar, aN, aW, bz, bu, aZ, a7, ae, Pu.w64, Int.toNat_natCast, decide_eq_true_eq, Int.ofNat_lt, Int.ofNat_le, if_true, if_false, Int.natCast_nonneg, decide_true, decide_false, Bool.not_true, Bool.not_false, Bool.false_eq_true, Bool.not_eq_true, Bool.true_and, Bool.and_true, Bool.false_and, Bool.and_false]
theorem bh.is {k : Nat} {p : List Int} (hk : 4194304 + 1 ≤ k) (hp : p.length ≤ 1048576) : bh k p = some (Pu.cD p) := by
  obtain ⟨k, rfl⟩ : ∃ k', k = k' + 1 := ⟨k - 1, by omega⟩
  rw [bh.eq]
  exact bh.loop (k := k) (by omega) hp p.length k 0 0 9 (by omega) (by omega) (fun _ => rfl) (by omega) (by omega) (by omega) (by omega)
theorem ca.is {k : Nat} {a : List Int} (hk : 1 ≤ k) (ha : a.length ≤ 1099511627776) : ca k a = some a := by
  obtain ⟨k, rfl⟩ : ∃ k', k = k' + 1 := ⟨k - 1, by omega⟩
  rw [ca.eq]
  by_cases h : a.length = 0
  · have : a = [] := List.eq_nil_of_length_eq_zero h
    subst this
    simp [zW, yp]
  · simp [h, ha]
theorem fI.is {k : Nat} {p : List Int} {i : Int} (hk : 2 ≤ k) (hp : p.length ≤ 1048576) : fI k p i = some (Pu.atI p i) := by
  obtain ⟨k, rfl⟩ : ∃ k', k = k' + 1 := ⟨k - 1, by omega⟩
  rw [fI.eq, cK.is (by omega)]
  unfold Pu.within
  by_cases h1 : 0 ≤ i
  · have h0 : ¬ i < 0 := by omega
    by_cases h2 : i ≤ (p.length : Int) - 1
    · have h4 : i.toNat < p.length := by omega
      simp (disch := omega) only [↓ay, bC, bw, aT, a6, aX, aH, aL, aO, br, aS, aQ, az, aw, aY, ar, aN, aW, bz, bu, aZ, a7, ae, Pu.w64, Int.toNat_natCast, decide_eq_true_eq, Int.ofNat_lt, Int.ofNat_le, if_true, if_false, Int.natCast_nonneg, decide_true, decide_false, Bool.not_true, Bool.not_false, Bool.false_eq_true, Bool.not_eq_true, Bool.true_and, Bool.and_true, Bool.false_and, Bool.and_false, h0, h1, h2, h4, Pu.atI]
    · simp (disch := omega) only [↓ay, bC, bw, aT, a6, aX, aH, aL, aO, br, aS, aQ, az, aw, aY, ar, aN, aW, bz, bu, aZ, a7, ae, Pu.w64, Int.toNat_natCast, decide_eq_true_eq, Int.ofNat_lt, Int.ofNat_le, if_true, if_false, Int.natCast_nonneg, decide_true, decide_false, Bool.not_true, Bool.not_false, Bool.false_eq_true, Bool.not_eq_true, Bool.true_and, Bool.and_true, Bool.false_and, Bool.and_false, h1, h2, Pu.we (p := p) (i := i) (by omega)]
  · simp (disch := omega) only [↓ay, bC, bw, aT, a6, aX, aH, aL, aO, br, aS, aQ, az, aw, aY, ar, aN, aW, bz, bu, aZ, a7, ae, Pu.w64, Int.toNat_natCast, decide_eq_true_eq, Int.ofNat_lt, Int.ofNat_le, if_true, if_false, Int.natCast_nonneg, decide_true, decide_false, Bool.not_true, Bool.not_false, Bool.false_eq_true, Bool.not_eq_true, Bool.true_and, Bool.and_true, Bool.false_and, Bool.and_false, h1, Pu.oY (p := p) (i := i) (by omega)]
theorem bU.loop {k : Nat} {q p : List Int} (hq : q.length ≤ 1048576) (hp : p.length ≤ 1048576) (hk : 4194304 + 2 ≤ k) : bU.L1 k k q.length 0 p q = some ((List.range' 0 q.length).all fun i => decide (q.getD i 0 ≤ p.getD i 0)) := by
  have h := Pu.jl (fun j i => bU.L1 k j q.length (i : Int) p q) q.length (fun i => decide (q.getD i 0 ≤ p.getD i 0)) (some false) (some true)
    (fun j i hi => by
      rw [bU.fe, fI.is (by omega) hp, Pu.dU]
      simp (disch := omega) only [↓ay, bC, bw, aT, a6, aX, aH, aL, aO, br, aS, aQ, az, aw, aY, ar, aN, aW, bz, bu, aZ, a7, ae, Pu.w64, Int.toNat_natCast, decide_eq_true_eq, Int.ofNat_lt, Int.ofNat_le, if_true, if_false, Int.natCast_nonneg, decide_true, decide_false, Bool.not_true, Bool.not_false, Bool.false_eq_true, Bool.not_eq_true, Bool.true_and, Bool.and_true, Bool.false_and, Bool.and_false, hi, Int.natCast_add, Int.natCast_one]
      by_cases c : q.getD i 0 ≤ p.getD i 0
      · have c' : ¬ p.getD i 0 < q.getD i 0 := by omega
        simp only [c, c', ↓ay, bC, bw, aT, a6, aX, aH, aL, aO, br, aS, aQ, az, aw, aY, ar, aN, aW, bz, bu, aZ, a7, ae, Pu.w64, Int.toNat_natCast, decide_eq_true_eq, Int.ofNat_lt, Int.ofNat_le, if_true, if_false, Int.natCast_nonneg, decide_true, decide_false, Bool.not_true, Bool.not_false, Bool.false_eq_true, Bool.not_eq_true, Bool.true_and, Bool.and_true, Bool.false_and, Bool.and_false]
      · have c' : p.getD i 0 < q.getD i 0 := by omega
        simp only [c, c', ↓ay, bC, bw, aT, a6, aX, aH, aL, aO, br, aS, aQ, az, aw, aY, ar, aN, aW, bz, bu, aZ, a7, ae, Pu.w64, Int.toNat_natCast, decide_eq_true_eq, Int.ofNat_lt, Int.ofNat_le, if_true, if_false, Int.natCast_nonneg, decide_true, decide_false, Bool.not_true, Bool.not_false, Bool.false_eq_true, Bool.not_eq_true, Bool.true_and, Bool.and_true, Bool.false_and, Bool.and_false])
    (fun j => by
      rw [bU.fe]
      simp only [↓ay, bC, bw, aT, a6, aX, aH, aL, aO, br, aS, aQ, az, aw, aY, ar, aN, aW, bz, bu, aZ, a7, ae, Pu.w64, Int.toNat_natCast, decide_eq_true_eq, Int.ofNat_lt, Int.ofNat_le, if_true, if_false, Int.natCast_nonneg, decide_true, decide_false, Bool.not_true, Bool.not_false, Bool.false_eq_true, Bool.not_eq_true, Bool.true_and, Bool.and_true, Bool.false_and, Bool.and_false, Nat.lt_irrefl]) q.length k 0 (by omega) (by omega)
  simp only [Int.natCast_zero] at h
  rw [h]
  cases (List.range' 0 q.length).all fun i => decide (q.getD i 0 ≤ p.getD i 0) <;> simp
theorem bU.is {k : Nat} {q p : List Int} (hk : 4194304 + 3 ≤ k) (hq : q.length ≤ 1048576) (hp : p.length ≤ 1048576) : bU k q p = some (Pu.dp q p) := by
  obtain ⟨k, rfl⟩ : ∃ k', k = k' + 1 := ⟨k - 1, by omega⟩
  rw [bU.eq, bh.is (by omega) hq, ae, bU.g9, Pu.u9]
  cases c1 : Pu.cD q with
  | false => simp only [↓ay, bC, bw, aT, a6, aX, aH, aL, aO, br, aS, aQ, az, aw, aY, ar, aN, aW, bz, bu, aZ, a7, ae, Pu.w64, Int.toNat_natCast, decide_eq_true_eq, Int.ofNat_lt, Int.ofNat_le, if_true, if_false, Int.natCast_nonneg, decide_true, decide_false, Bool.not_true, Bool.not_false, Bool.false_eq_true, Bool.not_eq_true, Bool.true_and, Bool.and_true, Bool.false_and, Bool.and_false]
  | true =>
    simp only [↓ay, bC, bw, aT, a6, aX, aH, aL, aO, br, aS, aQ, az, aw, aY, ar, aN, aW, bz, bu, aZ, a7, ae, Pu.w64, Int.toNat_natCast, decide_eq_true_eq, Int.ofNat_lt, Int.ofNat_le, if_true, if_false, Int.natCast_nonneg, decide_true, decide_false, Bool.not_true, Bool.not_false, Bool.false_eq_true, Bool.not_eq_true, Bool.true_and, Bool.and_true, Bool.false_and, Bool.and_false]
    rw [bh.is (by omega) hp, ae]
    cases c2 : Pu.cD p with
    | false => simp only [↓ay, bC, bw, aT, a6, aX, aH, aL, aO, br, aS, aQ, az, aw, aY, ar, aN, aW, bz, bu, aZ, a7, ae, Pu.w64, Int.toNat_natCast, decide_eq_true_eq, Int.ofNat_lt, Int.ofNat_le, if_true, if_false, Int.natCast_nonneg, decide_true, decide_false, Bool.not_true, Bool.not_false, Bool.false_eq_true, Bool.not_eq_true, Bool.true_and, Bool.and_true, Bool.false_and, Bool.and_false]
    | true =>
      simp only [↓ay, bC, bw, aT, a6, aX, aH, aL, aO, br, aS, aQ, az, aw, aY, ar, aN, aW, bz, bu, aZ, a7, ae, Pu.w64, Int.toNat_natCast, decide_eq_true_eq, Int.ofNat_lt, Int.ofNat_le, if_true, if_false, Int.natCast_nonneg, decide_true, decide_false, Bool.not_true, Bool.not_false, Bool.false_eq_true, Bool.not_eq_true, Bool.true_and, Bool.and_true, Bool.false_and, Bool.and_false]
      exact bU.loop hq hp (by omega)
theorem fJ.is {k : Nat} {s : List Int × List Int} (hk : 4194304 + 4 ≤ k) (hq : s.1.length ≤ 1048576) (hp : s.2.length ≤ 1048576) : fJ k s = some (Pu.dp s.2 s.1) := by
  obtain ⟨k, rfl⟩ : ∃ k', k = k' + 1 := ⟨k - 1, by omega⟩
  rw [fJ.eq, bU.is (by omega) hp hq]
  rfl
theorem bW.loop {k : Nat} {t : Pu.Tab} {x3 x4 : List Int} (hk : 4194304 + 4 ≤ k) (hi : Pu.cD t.1 = true) (h2 : t.2.length ≤ 1048576) (hr : ∀ x ∈ t.2, x.length ≤ 1048576) : ∀ (m j i : Nat) (acc : List Int), i + m = t.2.length → m < j → acc.length = i →
    bW.L1 k j t.2.length i t.2 t.1 x3 x4 acc t.1 = some (if Pu.dp t.1 (acc ++ Pu.dR t.1 i (t.2.drop i)) = true then ((acc ++ Pu.dR t.1 i (t.2.drop i), t.1), true) else (([], []), false))
  | m, 0, i, acc, _, hj, _ => by omega
  | 0, j + 1, i, acc, hm, _, hacc => by
    rw [bW.fe]
    have e : i = t.2.length := by omega
    have h9 := (Pu.cU hi).2.2.1
    have hlt : ¬ i < t.2.length := by omega
    rw [fJ.is (by omega) (by simp only; omega) (by simp only; omega), e]
    simp only [↓ay, bC, bw, aT, a6, aX, aH, aL, aO, br, aS, aQ, az, aw, aY, ar, aN, aW, bz, bu, aZ, a7, ae, Pu.w64, Int.toNat_natCast, decide_eq_true_eq, Int.ofNat_lt, Int.ofNat_le, if_true, if_false, Int.natCast_nonneg, decide_true, decide_false, Bool.not_true, Bool.not_false, Bool.false_eq_true, Bool.not_eq_true, Bool.true_and, Bool.and_true, Bool.false_and, Bool.and_false, Nat.lt_irrefl, List.drop_length, Pu.dR, List.append_nil]
    cases Pu.dp t.1 acc <;> simp
  | m + 1, j + 1, i, acc, hm, hj, hacc => by
    rw [bW.fe]
    have hlt : i < t.2.length := by omega
    have hb := Pu.gm hi i
    have h9 := (Pu.cU hi).2.2.1
    have hrow := hr t.2[i] (List.getElem_mem hlt)
    rw [← Pu.bc hlt []] at hrow
    rw [fI.is (by omega) (by omega)]
    have ih := bW.loop (x3 := x3) (x4 := x4) hk hi h2 hr m j (i + 1) (acc ++ [Pu.atI t.1 i + (t.2.getD i []).length]) (by omega) (by omega) (by simp [hacc])
    rw [Int.natCast_succ] at ih
    rw [Pu.drop_cons hlt []]
    have hl : (acc ++ [Pu.atI t.1 i + ((t.2.getD i []).length : Int)]).length ≤ 1099511627776 := by simp; omega
    simp (disch := omega) only [↓ay, bC, bw, aT, a6, aX, aH, aL, aO, br, aS, aQ, az, aw, aY, ar, aN, aW, bz, bu, aZ, a7, ae, Pu.w64, Int.toNat_natCast, decide_eq_true_eq, Int.ofNat_lt, Int.ofNat_le, if_true, if_false, Int.natCast_nonneg, decide_true, decide_false, Bool.not_true, Bool.not_false, Bool.false_eq_true, Bool.not_eq_true, Bool.true_and, Bool.and_true, Bool.false_and, Bool.and_false, hlt, hl, ih, Pu.dR]
    simp only [List.append_assoc, List.singleton_append, Pu.dU]
    rfl
theorem bW.is {k : Nat} {t : Pu.Tab} (hk : 4194304 + 5 ≤ k) (h1 : t.1.length ≤ 1048576) (h2 : t.2.length ≤ 1048576) (hr : ∀ x ∈ t.2, x.length ≤ 1048576) : bW k t = some (Pu.shapeOf t) := by
  obtain ⟨k, rfl⟩ : ∃ k', k = k' + 1 := ⟨k - 1, by omega⟩
  rw [bW.eq, bh.is (by omega) h1, bW.g9, ca.is (by omega) (by omega)]
  simp only [↓ay, bC, bw, aT, a6, aX, aH, aL, aO, br, aS, aQ, az, aw, aY, ar, aN, aW, bz, bu, aZ, a7, ae, Pu.w64, Int.toNat_natCast, decide_eq_true_eq, Int.ofNat_lt, Int.ofNat_le, if_true, if_false, Int.natCast_nonneg, decide_true, decide_false, Bool.not_true, Bool.not_false, Bool.false_eq_true, Bool.not_eq_true, Bool.true_and, Bool.and_true, Bool.false_and, Bool.and_false]
  unfold Pu.shapeOf
  cases c1 : Pu.cD t.1 with
  | false =>
    have : Pu.cY t = false := by unfold Pu.cY; rw [c1]; rfl
    simp only [this, ↓ay, bC, bw, aT, a6, aX, aH, aL, aO, br, aS, aQ, az, aw, aY, ar, aN, aW, bz, bu, aZ, a7, ae, Pu.w64, Int.toNat_natCast, decide_eq_true_eq, Int.ofNat_lt, Int.ofNat_le, if_true, if_false, Int.natCast_nonneg, decide_true, decide_false, Bool.not_true, Bool.not_false, Bool.false_eq_true, Bool.not_eq_true, Bool.true_and, Bool.and_true, Bool.false_and, Bool.and_false]
  | true =>
    by_cases c2 : t.2.length < t.1.length
    · have : Pu.cY t = false := by
        have : ¬ t.1.length ≤ t.2.length := by omega
        unfold Pu.cY; simp [this]
      simp only [this, c2, ↓ay, bC, bw, aT, a6, aX, aH, aL, aO, br, aS, aQ, az, aw, aY, ar, aN, aW, bz, bu, aZ, a7, ae, Pu.w64, Int.toNat_natCast, decide_eq_true_eq, Int.ofNat_lt, Int.ofNat_le, if_true, if_false, Int.natCast_nonneg, decide_true, decide_false, Bool.not_true, Bool.not_false, Bool.false_eq_true, Bool.not_eq_true, Bool.true_and, Bool.and_true, Bool.false_and, Bool.and_false]
    · have c2' : t.1.length ≤ t.2.length := by omega
      have hloop := bW.loop (k := k) (t := t) (x3 := []) (x4 := []) (by omega) c1 h2 hr t.2.length k 0 [] (by omega) (by omega) rfl
      rw [Int.natCast_zero] at hloop
      simp only [c2, ↓ay, bC, bw, aT, a6, aX, aH, aL, aO, br, aS, aQ, az, aw, aY, ar, aN, aW, bz, bu, aZ, a7, ae, Pu.w64, Int.toNat_natCast, decide_eq_true_eq, Int.ofNat_lt, Int.ofNat_le, if_true, if_false, Int.natCast_nonneg, decide_true, decide_false, Bool.not_true, Bool.not_false, Bool.false_eq_true, Bool.not_eq_true, Bool.true_and, Bool.and_true, Bool.false_and, Bool.and_false]
      rw [hloop]
      have : Pu.cY t = Pu.dp t.1 (Pu.outer t) := by unfold Pu.cY; simp [c1, c2']
      rw [this]
      rfl
theorem de.is {k : Nat} {t : Pu.Tab} {r c : Int} (hk : 3 ≤ k) (hi : Pu.cD t.1 = true) (ht : t.2.length ≤ 1048576) (hr : ∀ x ∈ t.2, x.length ≤ 1048576) (h1 : -1000000000 ≤ c) (h2 : c ≤ 1000000000) : de k t r c = some (Pu.entry t r c) := by
  obtain ⟨k, rfl⟩ : ∃ k', k = k' + 1 := ⟨k - 1, by omega⟩
  have hb := Pu.gm hi r
  have h9 := (Pu.cU hi).2.2.1
  rw [de.eq, cK.is (by omega)]
  unfold Pu.entry Pu.within
  by_cases c1 : r < 0
  · have c1' : ¬ 0 ≤ r := by omega
    simp (disch := omega) only [↓ay, bC, bw, aT, a6, aX, aH, aL, aO, br, aS, aQ, az, aw, aY, ar, aN, aW, bz, bu, aZ, a7, ae, Pu.w64, Int.toNat_natCast, decide_eq_true_eq, Int.ofNat_lt, Int.ofNat_le, if_true, if_false, Int.natCast_nonneg, decide_true, decide_false, Bool.not_true, Bool.not_false, Bool.false_eq_true, Bool.not_eq_true, Bool.true_and, Bool.and_true, Bool.false_and, Bool.and_false, c1, c1']
  · have c3 : 0 ≤ r := by omega
    by_cases c2 : (t.2.length : Int) ≤ r
    · have c2' : ¬ r ≤ (t.2.length : Int) - 1 := by omega
      simp (disch := omega) only [↓ay, bC, bw, aT, a6, aX, aH, aL, aO, br, aS, aQ, az, aw, aY, ar, aN, aW, bz, bu, aZ, a7, ae, Pu.w64, Int.toNat_natCast, decide_eq_true_eq, Int.ofNat_lt, Int.ofNat_le, if_true, if_false, Int.natCast_nonneg, decide_true, decide_false, Bool.not_true, Bool.not_false, Bool.false_eq_true, Bool.not_eq_true, Bool.true_and, Bool.and_true, Bool.false_and, Bool.and_false, c1, c3, c2, c2']
    · have c2' : r ≤ (t.2.length : Int) - 1 := by omega
      have c4 : r.toNat < t.2.length := by omega
      have hx := hr _ (List.getElem_mem c4)
      rw [← Pu.bc c4 []] at hx
      simp (disch := omega) only [↓ay, bC, bw, aT, a6, aX, aH, aL, aO, br, aS, aQ, az, aw, aY, ar, aN, aW, bz, bu, aZ, a7, ae, Pu.w64, Int.toNat_natCast, decide_eq_true_eq, Int.ofNat_lt, Int.ofNat_le, if_true, if_false, Int.natCast_nonneg, decide_true, decide_false, Bool.not_true, Bool.not_false, Bool.false_eq_true, Bool.not_eq_true, Bool.true_and, Bool.and_true, Bool.false_and, Bool.and_false, c1, c2, c2', c3, c4, fI.is]
theorem aE.inner {k k1 : Nat} {t : Pu.Tab} {r : Nat} (hk : 4194304 ≤ k) (hi : Pu.cD t.1 = true) (ht : t.2.length ≤ 1048576) (hr : ∀ x ∈ t.2, x.length ≤ 1048576) (hlt : r < t.2.length) (n : Int) :
    aE.L1 k k1 k r r n r r (t.2.getD r []).length 0 t.2 t.1 = if ((List.range' 0 (t.2.getD r []).length).all fun q => Pu.fC t r q) = true then aE.L0 k k1 n ((r : Int) + 1) t.2 t.1 else some false := by
  have hx := hr _ (List.getElem_mem hlt)
  rw [← Pu.bc hlt []] at hx
  have hb := Pu.gm hi r
  have h9 := (Pu.cU hi).2.2.1
  have h := Pu.jl (fun j q => aE.L1 k k1 j r r n r r (t.2.getD r []).length (q : Int) t.2 t.1) (t.2.getD r []).length (fun q => Pu.fC t r q) (some false) (aE.L0 k k1 n ((r : Int) + 1) t.2 t.1)
    (fun j q hq => by
      have e3 := de.is (k := k) (t := t) (r := (r : Int) - 1) (c := t.1.getD r 0 + q) (by omega) hi ht hr (by rw [Pu.dU] at hb; omega) (by rw [Pu.dU] at hb; omega)
      have ea := fI.is (k := k) (p := t.1) (i := r) (by omega) (by omega)
      rw [Pu.dU] at ea
      rw [Pu.dU] at hb
      rw [aE.fe]
      simp (maxSteps := 10000000) (disch := omega) only [↓ay, bC, bw, aT, a6, aX, aH, aL, aO, br, aS, aQ, az, aw, aY, ar, aN, aW, bz, bu, aZ, a7, ae, Pu.w64, Int.toNat_natCast, decide_eq_true_eq, Int.ofNat_lt, Int.ofNat_le, if_true, if_false, Int.natCast_nonneg, decide_true, decide_false, Bool.not_true, Bool.not_false, Bool.false_eq_true, Bool.not_eq_true, Bool.true_and, Bool.and_true, Bool.false_and, Bool.and_false, hlt, hq, cK.is, ea, e3, aE.ml, Int.natCast_add, Int.natCast_one]
      unfold Pu.fC
      generalize hx0 : (t.2.getD r []).getD q 0 = x at *
      cases Pu.within x 1 9 with
      | false => simp
      | true =>
        have up : (if (0 : Int) < r then (if x ≤ Pu.entry t ((r : Int) - 1) (t.1.getD r 0 + q) then some false else aE.L1 k k1 j r r n r r (t.2.getD r []).length ((q : Int) + 1) t.2 t.1) else aE.L1 k k1 j r r n r r (t.2.getD r []).length ((q : Int) + 1) t.2 t.1) =
            if (decide (r = 0) || decide (Pu.entry t ((r : Int) - 1) (t.1.getD r 0 + q) < x)) = true then aE.L1 k k1 j r r n r r (t.2.getD r []).length ((q : Int) + 1) t.2 t.1 else some false := by
          by_cases e : r = 0
          · subst e; simp
          · have e' : (0 : Int) < r := by omega
            by_cases c : x ≤ Pu.entry t ((r : Int) - 1) (t.1.getD r 0 + q)
            · have c' : ¬ Pu.entry t ((r : Int) - 1) (t.1.getD r 0 + q) < x := by omega
              simp only [e', c, c', e, if_true, if_false, decide_false, Bool.or_false, Bool.false_eq_true]
            · have c' : Pu.entry t ((r : Int) - 1) (t.1.getD r 0 + q) < x := by omega
              simp only [e', c, c', e, if_true, if_false, decide_true, decide_false, Bool.false_or]
        by_cases e : q = 0
        · have e' : ¬ (0 : Int) < q := by omega
          simp only [e', e, ↓ay, bC, bw, aT, a6, aX, aH, aL, aO, br, aS, aQ, az, aw, aY, ar, aN, aW, bz, bu, aZ, a7, ae, Pu.w64, Int.toNat_natCast, decide_eq_true_eq, Int.ofNat_lt, Int.ofNat_le, if_true, if_false, Int.natCast_nonneg, decide_true, decide_false, Bool.not_true, Bool.not_false, Bool.false_eq_true, Bool.not_eq_true, Bool.true_and, Bool.and_true, Bool.false_and, Bool.and_false, Bool.true_or]
          rw [e] at up
          exact up
        · have e' : (0 : Int) < q := by omega
          have eq : (q : Int) - 1 = ((q - 1 : Nat) : Int) := by omega
          have hq' : q - 1 < (t.2.getD r []).length := by omega
          simp (disch := omega) only [e', e, ↓ay, bC, bw, aT, a6, aX, aH, aL, aO, br, aS, aQ, az, aw, aY, ar, aN, aW, bz, bu, aZ, a7, ae, Pu.w64, Int.toNat_natCast, decide_eq_true_eq, Int.ofNat_lt, Int.ofNat_le, if_true, if_false, Int.natCast_nonneg, decide_true, decide_false, Bool.not_true, Bool.not_false, Bool.false_eq_true, Bool.not_eq_true, Bool.true_and, Bool.and_true, Bool.false_and, Bool.and_false, eq, hq', Bool.false_or]
          by_cases c : x < (t.2.getD r []).getD (q - 1) 0
          · have c' : ¬ (t.2.getD r []).getD (q - 1) 0 ≤ x := by omega
            simp only [c, c', ↓ay, bC, bw, aT, a6, aX, aH, aL, aO, br, aS, aQ, az, aw, aY, ar, aN, aW, bz, bu, aZ, a7, ae, Pu.w64, Int.toNat_natCast, decide_eq_true_eq, Int.ofNat_lt, Int.ofNat_le, if_true, if_false, Int.natCast_nonneg, decide_true, decide_false, Bool.not_true, Bool.not_false, Bool.false_eq_true, Bool.not_eq_true, Bool.true_and, Bool.and_true, Bool.false_and, Bool.and_false]
          · have c' : (t.2.getD r []).getD (q - 1) 0 ≤ x := by omega
            simp only [c, c', ↓ay, bC, bw, aT, a6, aX, aH, aL, aO, br, aS, aQ, az, aw, aY, ar, aN, aW, bz, bu, aZ, a7, ae, Pu.w64, Int.toNat_natCast, decide_eq_true_eq, Int.ofNat_lt, Int.ofNat_le, if_true, if_false, Int.natCast_nonneg, decide_true, decide_false, Bool.not_true, Bool.not_false, Bool.false_eq_true, Bool.not_eq_true, Bool.true_and, Bool.and_true, Bool.false_and, Bool.and_false]
            exact up)
    (fun j => by
      rw [aE.fe]
      simp (maxSteps := 10000000) (disch := omega) only [↓ay, bC, bw, aT, a6, aX, aH, aL, aO, br, aS, aQ, az, aw, aY, ar, aN, aW, bz, bu, aZ, a7, ae, Pu.w64, Int.toNat_natCast, decide_eq_true_eq, Int.ofNat_lt, Int.ofNat_le, if_true, if_false, Int.natCast_nonneg, decide_true, decide_false, Bool.not_true, Bool.not_false, Bool.false_eq_true, Bool.not_eq_true, Bool.true_and, Bool.and_true, Bool.false_and, Bool.and_false, Nat.lt_irrefl]) (t.2.getD r []).length k 0 (by omega) (by omega)
  simp only [Int.natCast_zero] at h
  exact h
theorem aE.is {k : Nat} {t : Pu.Tab} (hk : 4194304 + 6 ≤ k) (h1 : t.1.length ≤ 1048576) (ht : t.2.length ≤ 1048576) (hr : ∀ x ∈ t.2, x.length ≤ 1048576) : aE k t = some (Pu.fV t) := by
  obtain ⟨k, rfl⟩ : ∃ k', k = k' + 1 := ⟨k - 1, by omega⟩
  rw [aE.eq, bW.is (by omega) h1 ht hr, ae]
  unfold Pu.fV Pu.shapeOf
  cases hs : Pu.cY t with
  | false => simp [hs]
  | true =>
    have hi : Pu.cD t.1 = true := by
      simp only [Pu.cY, Bool.and_eq_true] at hs; exact hs.1
    have h := Pu.jl (fun j r => aE.L0 k j t.2.length r t.2 t.1) t.2.length (fun r => (List.range' 0 (t.2.getD r []).length).all fun q => Pu.fC t r q) (some false) (some true)
      (fun j r hlt => by
        rw [aE.bM]
        simp (disch := omega) only [↓ay, bC, bw, aT, a6, aX, aH, aL, aO, br, aS, aQ, az, aw, aY, ar, aN, aW, bz, bu, aZ, a7, ae, Pu.w64, Int.toNat_natCast, decide_eq_true_eq, Int.ofNat_lt, Int.ofNat_le, if_true, if_false, Int.natCast_nonneg, decide_true, decide_false, Bool.not_true, Bool.not_false, Bool.false_eq_true, Bool.not_eq_true, Bool.true_and, Bool.and_true, Bool.false_and, Bool.and_false, hlt, aE.inner (k1 := j) (show 4194304 ≤ k by omega) hi ht hr hlt, Int.natCast_add, Int.natCast_one])
      (fun j => by
        rw [aE.bM]
        simp (disch := omega) only [↓ay, bC, bw, aT, a6, aX, aH, aL, aO, br, aS, aQ, az, aw, aY, ar, aN, aW, bz, bu, aZ, a7, ae, Pu.w64, Int.toNat_natCast, decide_eq_true_eq, Int.ofNat_lt, Int.ofNat_le, if_true, if_false, Int.natCast_nonneg, decide_true, decide_false, Bool.not_true, Bool.not_false, Bool.false_eq_true, Bool.not_eq_true, Bool.true_and, Bool.and_true, Bool.false_and, Bool.and_false, Nat.lt_irrefl]) t.2.length k 0 (by omega) (by omega)
    simp only [Int.natCast_zero] at h
    simp only [if_true, ↓ay, bC, bw, aT, a6, aX, aH, aL, aO, br, aS, aQ, az, aw, aY, ar, aN, aW, bz, bu, aZ, a7, ae, Pu.w64, Int.toNat_natCast, decide_eq_true_eq, Int.ofNat_lt, Int.ofNat_le, if_true, if_false, Int.natCast_nonneg, decide_true, decide_false, Bool.not_true, Bool.not_false, Bool.false_eq_true, Bool.not_eq_true, Bool.true_and, Bool.and_true, Bool.false_and, Bool.and_false]
    rw [h]
    cases (List.range' 0 t.2.length).all fun r => (List.range' 0 (t.2.getD r []).length).all fun q => Pu.fC t r q <;> simp
theorem fF.is {k : Nat} {t : Pu.Tab} (hk : 4194304 + 7 ≤ k) (h1 : t.1.length ≤ 1048576) (ht : t.2.length ≤ 1048576) (hr : ∀ x ∈ t.2, x.length ≤ 1048576) : fF k t = some (Pu.bZ t) := by
  obtain ⟨k, rfl⟩ : ∃ k', k = k' + 1 := ⟨k - 1, by omega⟩
  rw [fF.eq, aE.is (by omega) h1 ht hr, ae]
  unfold Pu.bZ
  by_cases h : t.1.length = 0 <;> simp [h]
theorem ah.app {k : Nat} {a : List (List Int)} (ha : a.length ≤ 1048576) (hf : a.flatten.length ≤ 1099511627776) : ∀ (m j i : Nat), i + m = a.length → m < j →
    ah.L4 k j a.length i (a.take i).flatten a = some a.flatten
  | m, 0, i, _, hj => by omega
  | 0, j + 1, i, hm, _ => by
    rw [ah.zV]
    have e : i = a.length := by omega
    subst e
    simp
  | m + 1, j + 1, i, hm, hj => by
    rw [ah.zV]
    have hlt : i < a.length := by omega
    have ih := ah.app (k := k) ha hf m j (i + 1) (by omega) (by omega)
    rw [Int.natCast_succ, Pu.take_succ hlt []] at ih
    have hl : ((a.take i).flatten ++ a.getD i []).length ≤ 1099511627776 := by
      refine Nat.le_trans ?_ hf
      have e : a.flatten = (a.take i).flatten ++ (a.drop i).flatten := by rw [← List.flatten_append, List.take_append_drop]
      rw [e, Pu.drop_cons hlt []]
      simp only [List.flatten_cons, List.length_append]
      omega
    simp only [List.flatten_append, List.flatten_cons, List.flatten_nil, List.append_nil] at ih
    simp (disch := omega) only [↓ay, bC, bw, aT, a6, aX, aH, aL, aO, br, aS, aQ, az, aw, aY, ar, aN, aW, bz, bu, aZ, a7, ae, Pu.w64, Int.toNat_natCast, decide_eq_true_eq, Int.ofNat_lt, Int.ofNat_le, if_true, if_false, Int.natCast_nonneg, decide_true, decide_false, Bool.not_true, Bool.not_false, Bool.false_eq_true, Bool.not_eq_true, Bool.true_and, Bool.and_true, Bool.false_and, Bool.and_false, hlt, hl, ih]
theorem ah.tail {k : Nat} {a : List (List Int)} {y : List Int} (hk : 4194304 ≤ k) (ha : a.length ≤ 1048576) (hf : a.flatten.length ≤ 1099511627776) : ah.L3 k (HAdd.hAdd k 1) 0 0 a.length 0 y a = some a.flatten := by
  rw [ah.AB]
  by_cases h0 : a.length = 0
  · have : a = [] := List.eq_nil_of_length_eq_zero h0
    subst this
    simp
  · have hlt : 0 < a.length := by omega
    have h := ah.app (k := k) ha hf (a.length - 1) k 1 (by omega) (by omega)
    have e : (a.take 1).flatten = a.getD 0 [] := by rw [Pu.take_succ hlt []]; simp
    rw [e] at h
    have hl : (a.getD 0 []).length ≤ 1099511627776 := by
      refine Nat.le_trans ?_ hf
      have e2 : a.flatten = (a.take 1).flatten ++ (a.drop 1).flatten := by rw [← List.flatten_append, List.take_append_drop]
      rw [e2, e]
      simp
    have hlt' : (0 : Int) < a.length := by omega
    simp (disch := omega) only [↓ay, bC, bw, aT, a6, aX, aH, aL, aO, br, aS, aQ, az, aw, aY, ar, aN, aW, bz, bu, aZ, a7, ae, Pu.w64, Int.toNat_natCast, decide_eq_true_eq, Int.ofNat_lt, Int.ofNat_le, if_true, if_false, Int.natCast_nonneg, decide_true, decide_false, Bool.not_true, Bool.not_false, Bool.false_eq_true, Bool.not_eq_true, Bool.true_and, Bool.and_true, Bool.false_and, Bool.and_false, hlt, hlt', hl, List.take_zero, List.nil_append, Int.toNat_zero, Int.zero_add]
    simpa using h
theorem ah.loop {k : Nat} {a : List (List Int)} (hk : 4194304 ≤ k) (ha : a.length ≤ 1048576) (hf : a.flatten.length ≤ 1099511627776) : ∀ (m j i : Nat), i + m = a.length → m < j →
    ah.L0 k j (a.take i).flatten.length a.length i a = some a.flatten
  | m, 0, i, _, hj => by omega
  | 0, j + 1, i, hm, _ => by
    rw [ah.bM, ah.ml]
    have e : i = a.length := by omega
    subst e
    rw [List.take_length]
    have hn : ¬ ((a.flatten.length : Nat) : Int) < 0 := by omega
    simp (disch := omega) only [↓ay, bC, bw, aT, a6, aX, aH, aL, aO, br, aS, aQ, az, aw, aY, ar, aN, aW, bz, bu, aZ, a7, ae, Pu.w64, Int.toNat_natCast, decide_eq_true_eq, Int.ofNat_lt, Int.ofNat_le, if_true, if_false, Int.natCast_nonneg, decide_true, decide_false, Bool.not_true, Bool.not_false, Bool.false_eq_true, Bool.not_eq_true, Bool.true_and, Bool.and_true, Bool.false_and, Bool.and_false, Nat.lt_irrefl, hn, Int.sub_zero, Int.sub_self]
    by_cases h0 : a.flatten.length = 0
    · have h0' : ¬ (0 : Int) < (a.flatten.length : Nat) := by omega
      have h := ah.app (k := k) ha hf a.length (k + 1) 0 (by omega) (by omega)
      simp only [h0', ↓ay, bC, bw, aT, a6, aX, aH, aL, aO, br, aS, aQ, az, aw, aY, ar, aN, aW, bz, bu, aZ, a7, ae, Pu.w64, Int.toNat_natCast, decide_eq_true_eq, Int.ofNat_lt, Int.ofNat_le, if_true, if_false, Int.natCast_nonneg, decide_true, decide_false, Bool.not_true, Bool.not_false, Bool.false_eq_true, Bool.not_eq_true, Bool.true_and, Bool.and_true, Bool.false_and, Bool.and_false]
      simpa using h
    · have h0' : (0 : Int) < (a.flatten.length : Nat) := by omega
      have h1 : (1 : Int) ≤ (a.flatten.length : Nat) := by omega
      simp (disch := omega) only [h0', h1, hf, ↓ay, bC, bw, aT, a6, aX, aH, aL, aO, br, aS, aQ, az, aw, aY, ar, aN, aW, bz, bu, aZ, a7, ae, Pu.w64, Int.toNat_natCast, decide_eq_true_eq, Int.ofNat_lt, Int.ofNat_le, if_true, if_false, Int.natCast_nonneg, decide_true, decide_false, Bool.not_true, Bool.not_false, Bool.false_eq_true, Bool.not_eq_true, Bool.true_and, Bool.and_true, Bool.false_and, Bool.and_false, Int.toNat_zero, Nat.le_refl, Int.le_refl, List.length_replicate, Nat.zero_le, j9, Nat.sub_self]
      exact ah.tail hk ha hf
  | m + 1, j + 1, i, hm, hj => by
    rw [ah.bM]
    have hlt : i < a.length := by omega
    have ih := ah.loop (k := k) hk ha hf m j (i + 1) (by omega) (by omega)
    rw [Int.natCast_succ, Pu.take_succ hlt []] at ih
    have hl : ((a.take i).flatten ++ a.getD i []).length ≤ 1099511627776 := by
      refine Nat.le_trans ?_ hf
      have e : a.flatten = (a.take i).flatten ++ (a.drop i).flatten := by rw [← List.flatten_append, List.take_append_drop]
      rw [e, Pu.drop_cons hlt []]
      simp only [List.flatten_cons, List.length_append]
      omega
    simp only [List.flatten_append, List.flatten_cons, List.flatten_nil, List.append_nil, List.length_append, Int.natCast_add] at ih hl
    have hn : ¬ (((a.take i).flatten.length : Int) + (a.getD i []).length < 0) := by omega
    simp (disch := omega) only [↓ay, bC, bw, aT, a6, aX, aH, aL, aO, br, aS, aQ, az, aw, aY, ar, aN, aW, bz, bu, aZ, a7, ae, Pu.w64, Int.toNat_natCast, decide_eq_true_eq, Int.ofNat_lt, Int.ofNat_le, if_true, if_false, Int.natCast_nonneg, decide_true, decide_false, Bool.not_true, Bool.not_false, Bool.false_eq_true, Bool.not_eq_true, Bool.true_and, Bool.and_true, Bool.false_and, Bool.and_false, hlt, hn, ah.fM, ih]
theorem ah.is {k : Nat} {a : List (List Int)} (hk : 4194304 + 2 ≤ k) (ha : a.length ≤ 1048576) (hf : a.flatten.length ≤ 1099511627776) : ah k a = some a.flatten := by
  obtain ⟨k, rfl⟩ : ∃ k', k = k' + 2 := ⟨k - 2, by omega⟩
  rw [ah.eq]
  exact ah.loop (k := k) (by omega) ha hf a.length (k + 1) 0 (by omega) (by omega)
theorem bR.loop {k : Nat} {t : Pu.Tab} {x3 x4 : List Int} {x5 : List (List Int)} (hk : 1 ≤ k) (ht : t.2.length ≤ 1048576) (hr : ∀ x ∈ t.2, x.length ≤ 1048576) : ∀ (m j i : Nat), i + m = t.2.length → m < j →
    bR.L0 k j t.2.length i t.2 x3 x5 x4 (t.2.take i) = some (x4, t.2)
  | m, 0, i, _, hj => by omega
  | 0, j + 1, i, hm, _ => by
    rw [bR.bM]
    have e : i = t.2.length := by omega
    subst e
    simp
  | m + 1, j + 1, i, hm, hj => by
    rw [bR.bM]
    have hlt : i < t.2.length := by omega
    have hx := hr _ (List.getElem_mem hlt)
    rw [← Pu.bc hlt []] at hx
    have ih := bR.loop (k := k) (x3 := x3) (x4 := x4) (x5 := x5) hk ht hr m j (i + 1) (by omega) (by omega)
    rw [Int.natCast_succ, Pu.take_succ hlt []] at ih
    have hl : (t.2.take i ++ [t.2.getD i []]).length ≤ 1099511627776 := by simp; omega
    simp (disch := omega) only [↓ay, bC, bw, aT, a6, aX, aH, aL, aO, br, aS, aQ, az, aw, aY, ar, aN, aW, bz, bu, aZ, a7, ae, Pu.w64, Int.toNat_natCast, decide_eq_true_eq, Int.ofNat_lt, Int.ofNat_le, if_true, if_false, Int.natCast_nonneg, decide_true, decide_false, Bool.not_true, Bool.not_false, Bool.false_eq_true, Bool.not_eq_true, Bool.true_and, Bool.and_true, Bool.false_and, Bool.and_false, hlt, hl, ca.is, ih]
theorem bR.is {k : Nat} {t : Pu.Tab} (hk : 4194304 + 1 ≤ k) (h1 : t.1.length ≤ 1048576) (ht : t.2.length ≤ 1048576) (hr : ∀ x ∈ t.2, x.length ≤ 1048576) : bR k t = some t := by
  obtain ⟨k, rfl⟩ : ∃ k', k = k' + 1 := ⟨k - 1, by omega⟩
  rw [bR.eq, ca.is (by omega) (by omega)]
  have h := bR.loop (k := k) (t := t) (x3 := []) (x4 := t.1) (x5 := []) (by omega) ht hr t.2.length k 0 (by omega) (by omega)
  rw [Int.natCast_zero, List.take_zero] at h
  exact h
theorem cw.is {k : Nat} {n x : Int} (hk : 1 ≤ k) : cw k n x = some (decide (x < n), x) := by
  obtain ⟨k, rfl⟩ : ∃ k', k = k' + 1 := ⟨k - 1, by omega⟩
  rw [cw.eq]
  rfl
theorem aj.loop {k : Nat} {r : List Int} {x : Int} (hk : 1 ≤ k) (hr : r.length ≤ 1048577) : ∀ (m j i : Nat), i + m = r.length → m < j → i ≤ r.findIdx (fun n => decide (x < n)) →
    aj.L0 k j r.length i r x = some (if r.findIdx (fun n => decide (x < n)) < r.length then ((r.findIdx (fun n => decide (x < n)) : Nat) : Int) else -1, x)
  | m, 0, i, _, hj, _ => by omega
  | 0, j + 1, i, hm, _, hi => by
    rw [aj.bM]
    have e : i = r.length := by omega
    have h : ¬ r.findIdx (fun n => decide (x < n)) < r.length := by omega
    subst e
    rw [if_neg h]
    simp
  | m + 1, j + 1, i, hm, hj, hi => by
    rw [aj.bM]
    have hlt : i < r.length := by omega
    simp (disch := omega) only [↓ay, bC, bw, aT, a6, aX, aH, aL, aO, br, aS, aQ, az, aw, aY, ar, aN, aW, bz, bu, aZ, a7, ae, Pu.w64, Int.toNat_natCast, decide_eq_true_eq, Int.ofNat_lt, Int.ofNat_le, if_true, if_false, Int.natCast_nonneg, decide_true, decide_false, Bool.not_true, Bool.not_false, Bool.false_eq_true, Bool.not_eq_true, Bool.true_and, Bool.and_true, Bool.false_and, Bool.and_false, hlt, cw.is]
    by_cases c : x < r.getD i 0
    · have e : r.findIdx (fun n => decide (x < n)) = i := by
        refine Nat.le_antisymm ?_ hi
        exact Pu.findIdx_le hlt (by simpa using c)
      simp only [c, ↓ay, bC, bw, aT, a6, aX, aH, aL, aO, br, aS, aQ, az, aw, aY, ar, aN, aW, bz, bu, aZ, a7, ae, Pu.w64, Int.toNat_natCast, decide_eq_true_eq, Int.ofNat_lt, Int.ofNat_le, if_true, if_false, Int.natCast_nonneg, decide_true, decide_false, Bool.not_true, Bool.not_false, Bool.false_eq_true, Bool.not_eq_true, Bool.true_and, Bool.and_true, Bool.false_and, Bool.and_false, e, hlt]
    · have hne : r.findIdx (fun n => decide (x < n)) ≠ i := fun e => by
        have := Pu.nN (p := fun n => decide (x < n)) (r := r) (by rw [e]; exact hlt)
        rw [e] at this
        exact c (by simpa using this)
      have ih := aj.loop (k := k) (x := x) hk hr m j (i + 1) (by omega) (by omega) (by omega)
      rw [Int.natCast_succ] at ih
      simp only [c, ↓ay, bC, bw, aT, a6, aX, aH, aL, aO, br, aS, aQ, az, aw, aY, ar, aN, aW, bz, bu, aZ, a7, ae, Pu.w64, Int.toNat_natCast, decide_eq_true_eq, Int.ofNat_lt, Int.ofNat_le, if_true, if_false, Int.natCast_nonneg, decide_true, decide_false, Bool.not_true, Bool.not_false, Bool.false_eq_true, Bool.not_eq_true, Bool.true_and, Bool.and_true, Bool.false_and, Bool.and_false, ih]
theorem aj.is {k : Nat} {r : List Int} {x : Int} (hk : 4194304 + 1 ≤ k) (hr : r.length ≤ 1048577) :
    aj k x r = some (if r.findIdx (fun n => decide (x < n)) < r.length then ((r.findIdx (fun n => decide (x < n)) : Nat) : Int) else -1, x) := by
  obtain ⟨k, rfl⟩ : ∃ k', k = k' + 1 := ⟨k - 1, by omega⟩
  rw [aj.eq]
  exact aj.loop (k := k) (by omega) hr r.length k 0 (by omega) (by omega) (by omega)
theorem bk.loop {k : Nat} {inner : List Int} (hk : 4194304 + 1 ≤ k) : ∀ (m j i : Nat) (x : Int) (rows : List (List Int)), i + m = rows.length → m < j → rows.length ≤ 1048576 → (∀ r ∈ rows, r.length ≤ 1048576) →
    bk.L0 k j rows.length i x rows inner = some (((i + (Pu.bm (rows.drop i) x).2 : Nat) : Int), (inner, rows.take i ++ (Pu.bm (rows.drop i) x).1))
  | m, 0, i, x, rows, _, hj, _, _ => by omega
  | 0, j + 1, i, x, rows, hm, _, hl, hr => by
    rw [bk.bM]
    have e : i = rows.length := by omega
    subst e
    have h1 : rows.length + 1 ≤ 1099511627776 := by omega
    simp (disch := omega) only [↓ay, bC, bw, aT, a6, aX, aH, aL, aO, br, aS, aQ, az, aw, aY, ar, aN, aW, bz, bu, aZ, a7, ae, Pu.w64, Int.toNat_natCast, decide_eq_true_eq, Int.ofNat_lt, Int.ofNat_le, if_true, if_false, Int.natCast_nonneg, decide_true, decide_false, Bool.not_true, Bool.not_false, Bool.false_eq_true, Bool.not_eq_true, Bool.true_and, Bool.and_true, Bool.false_and, Bool.and_false, Nat.lt_irrefl, h1, List.drop_length, List.take_length, Pu.bm, List.length_append, List.length_cons, List.length_nil, Int.natCast_add, Int.natCast_one, Int.natCast_zero, Int.add_zero, Int.zero_add, Nat.zero_add, Nat.add_zero, Int.add_sub_cancel]
  | m + 1, j + 1, i, x, rows, hm, hj, hl, hr => by
    rw [bk.bM]
    have hlt : i < rows.length := by omega
    have hx := hr _ (List.getElem_mem hlt)
    rw [← Pu.bc hlt []] at hx
    have hi := aj.is (k := k) (r := rows.getD i []) (x := x) (by omega) (by omega)
    rw [Pu.drop_cons hlt []]
    unfold Pu.bm
    generalize hf : (rows.getD i []).findIdx (fun n => decide (x < n)) = f at *
    by_cases c : f < (rows.getD i []).length
    · rw [if_pos c] at hi ⊢
      have ih := bk.loop (inner := inner) hk m j (i + 1) ((rows.getD i []).getD f 0) (rows.set i ((rows.getD i []).set f x)) (by rw [List.length_set]; omega) (by omega) (by rw [List.length_set]; exact hl) (fun r h => by
        rcases List.mem_or_eq_of_mem_set h with h | rfl
        · exact hr r h
        · rw [List.length_set]; exact hx)
      rw [Pu.kK hlt, Pu.kA, List.length_set, Int.natCast_succ] at ih
      have hn : ¬ (f : Int) < 0 := by omega
      simp (disch := omega) only [↓ay, bC, bw, aT, a6, aX, aH, aL, aO, br, aS, aQ, az, aw, aY, ar, aN, aW, bz, bu, aZ, a7, ae, Pu.w64, Int.toNat_natCast, decide_eq_true_eq, Int.ofNat_lt, Int.ofNat_le, if_true, if_false, Int.natCast_nonneg, decide_true, decide_false, Bool.not_true, Bool.not_false, Bool.false_eq_true, Bool.not_eq_true, Bool.true_and, Bool.and_true, Bool.false_and, Bool.and_false, hlt, hi, hn, c, ih]
      simp only [List.append_assoc, List.singleton_append]
      congr 2
      omega
    · rw [if_neg c] at hi ⊢
      have hn : (-1 : Int) < 0 := by omega
      have h1 : (rows.getD i [] ++ [x]).length ≤ 1099511627776 := by simp only [List.length_append, List.length_cons, List.length_nil]; omega
      simp (disch := omega) only [↓ay, bC, bw, aT, a6, aX, aH, aL, aO, br, aS, aQ, az, aw, aY, ar, aN, aW, bz, bu, aZ, a7, ae, Pu.w64, Int.toNat_natCast, decide_eq_true_eq, Int.ofNat_lt, Int.ofNat_le, if_true, if_false, Int.natCast_nonneg, decide_true, decide_false, Bool.not_true, Bool.not_false, Bool.false_eq_true, Bool.not_eq_true, Bool.true_and, Bool.and_true, Bool.false_and, Bool.and_false, hlt, hi, hn, h1, Nat.add_zero]
      rw [Pu.pd hlt]
theorem bk.is {k : Nat} {inner : List Int} {x : Int} {rows : List (List Int)} (hk : 4194304 + 2 ≤ k) (hl : rows.length ≤ 1048576) (hr : ∀ r ∈ rows, r.length ≤ 1048576) :
    bk k x inner rows = some ((((Pu.bm rows x).2 : Nat) : Int), (inner, (Pu.bm rows x).1)) := by
  obtain ⟨k, rfl⟩ : ∃ k', k = k' + 1 := ⟨k - 1, by omega⟩
  rw [bk.eq]
  have h := bk.loop (k := k) (inner := inner) (by omega) rows.length k 0 x rows (by omega) (by omega) hl hr
  rw [Int.natCast_zero] at h
  simpa using h
theorem cq.is {k : Nat} {t : Pu.Tab} {x : Int} (hk : 4194304 + 8 ≤ k) (h1 : t.1.length ≤ 1048576) (hl : t.2.length ≤ 1048576) (hr : ∀ r ∈ t.2, r.length ≤ 1048576) : cq k t x = some (Pu.cG t x) := by
  obtain ⟨k, rfl⟩ : ∃ k', k = k' + 1 := ⟨k - 1, by omega⟩
  rw [cq.eq, fF.is (by omega) h1 hl hr, ae]
  unfold Pu.cG
  cases hp : Pu.bZ t with
  | false => simp
  | true =>
    have h9 := Pu.jM hp
    simp only [↓ay, bC, bw, aT, a6, aX, aH, aL, aO, br, aS, aQ, az, aw, aY, ar, aN, aW, bz, bu, aZ, a7, ae, Pu.w64, Int.toNat_natCast, decide_eq_true_eq, Int.ofNat_lt, Int.ofNat_le, if_true, if_false, Int.natCast_nonneg, decide_true, decide_false, Bool.not_true, Bool.not_false, Bool.false_eq_true, Bool.not_eq_true, Bool.true_and, Bool.and_true, Bool.false_and, Bool.and_false]
    rw [cK.is (by omega), ae]
    cases hw : Pu.within x 1 9 with
    | false => simp
    | true =>
      simp only [↓ay, bC, bw, aT, a6, aX, aH, aL, aO, br, aS, aQ, az, aw, aY, ar, aN, aW, bz, bu, aZ, a7, ae, Pu.w64, Int.toNat_natCast, decide_eq_true_eq, Int.ofNat_lt, Int.ofNat_le, if_true, if_false, Int.natCast_nonneg, decide_true, decide_false, Bool.not_true, Bool.not_false, Bool.false_eq_true, Bool.not_eq_true, Bool.true_and, Bool.and_true, Bool.false_and, Bool.and_false]
      rw [ah.is (by omega) hl (by omega), ae]
      by_cases c : t.2.flatten.length < 9
      · have c' : ¬ ((t.2.flatten.length : Nat) : Int) = 9 := by omega
        simp only [c, c', ↓ay, bC, bw, aT, a6, aX, aH, aL, aO, br, aS, aQ, az, aw, aY, ar, aN, aW, bz, bu, aZ, a7, ae, Pu.w64, Int.toNat_natCast, decide_eq_true_eq, Int.ofNat_lt, Int.ofNat_le, if_true, if_false, Int.natCast_nonneg, decide_true, decide_false, Bool.not_true, Bool.not_false, Bool.false_eq_true, Bool.not_eq_true, Bool.true_and, Bool.and_true, Bool.false_and, Bool.and_false]
        rw [cq.g9, bR.is (by omega) h1 hl hr, ae, bk.is (by omega) hl hr]
        simp
      · have c' : ((t.2.flatten.length : Nat) : Int) = 9 := by omega
        simp only [c, c', ↓ay, bC, bw, aT, a6, aX, aH, aL, aO, br, aS, aQ, az, aw, aY, ar, aN, aW, bz, bu, aZ, a7, ae, Pu.w64, Int.toNat_natCast, decide_eq_true_eq, Int.ofNat_lt, Int.ofNat_le, if_true, if_false, Int.natCast_nonneg, decide_true, decide_false, Bool.not_true, Bool.not_false, Bool.false_eq_true, Bool.not_eq_true, Bool.true_and, Bool.and_true, Bool.false_and, Bool.and_false]
        simp
theorem fA.is {k : Nat} {t : Pu.Tab} (hk : 4194304 + 6 ≤ k) (h1 : t.1.length ≤ 1048576) (ht : t.2.length ≤ 1048576) (hr : ∀ x ∈ t.2, x.length ≤ 1048576) : fA k t = some (Pu.bZ t) := by
  obtain ⟨k, rfl⟩ : ∃ k', k = k' + 1 := ⟨k - 1, by omega⟩
  rw [fA.eq, aF.is (by omega) h1 ht hr, ae]
  unfold Pu.bZ
  cases Pu.fV t <;> simp
theorem b9.loop {k : Nat} {t : Pu.Tab} {x2 : List Int} (ht : t.2.length ≤ 1048576) (hf : t.2.flatten.length ≤ 1099511627776) : ∀ (m j i : Nat), i + m = t.2.length → m < j →
    b9.L0 k j i (t.2.take i).flatten x2 t.2 = some t.2.flatten
  | m, 0, i, _, hj => by omega
  | 0, j + 1, i, hm, _ => by
    rw [b9.bM]
    have e : i = t.2.length := by omega
    subst e
    simp
  | m + 1, j + 1, i, hm, hj => by
    rw [b9.bM]
    have hlt : i < t.2.length := by omega
    have ih := b9.loop (k := k) (x2 := x2) ht hf m j (i + 1) (by omega) (by omega)
    rw [Int.natCast_succ, Pu.take_succ hlt []] at ih
    have hl : ((t.2.take i).flatten ++ t.2.getD i []).length ≤ 1099511627776 := by
      refine Nat.le_trans ?_ hf
      have e : t.2.flatten = (t.2.take i).flatten ++ (t.2.drop i).flatten := by rw [← List.flatten_append, List.take_append_drop]
      rw [e, Pu.drop_cons hlt []]
      simp only [List.flatten_cons, List.length_append]
      omega
    simp only [List.flatten_append, List.flatten_cons, List.flatten_nil, List.append_nil] at ih
    simp (disch := omega) only [↓ay, bC, bw, aT, a6, aX, aH, aL, aO, br, aS, aQ, az, aw, aY, ar, aN, aW, bz, bu, aZ, a7, ae, Pu.w64, Int.toNat_natCast, decide_eq_true_eq, Int.ofNat_lt, Int.ofNat_le, if_true, if_false, Int.natCast_nonneg, decide_true, decide_false, Bool.not_true, Bool.not_false, Bool.false_eq_true, Bool.not_eq_true, Bool.true_and, Bool.and_true, Bool.false_and, Bool.and_false, hlt, hl, ih]
theorem b9.is {k : Nat} {t : Pu.Tab} (hk : 4194304 + 1 ≤ k) (ht : t.2.length ≤ 1048576) (hf : t.2.flatten.length ≤ 1099511627776) : b9 k t = some t.2.flatten := by
  obtain ⟨k, rfl⟩ : ∃ k', k = k' + 1 := ⟨k - 1, by omega⟩
  rw [b9.eq]
  exact b9.loop (k := k) ht hf t.2.length k 0 (by omega) (by omega)
theorem cF.loop {k : Nat} {t : Pu.Tab} {x3 x4 : List Int} {x5 : List (List Int)} (ht : t.2.length ≤ 1048576) (hr : ∀ x ∈ t.2, x.length ≤ 1048576) : ∀ (m j i : Nat), i + m = t.2.length → m < j →
    cF.L0 k j i t.1 t.2 x3 x5 x4 (t.2.take i) = some (x4, t.2)
  | m, 0, i, _, hj => by omega
  | 0, j + 1, i, hm, _ => by
    rw [cF.bM]
    have e : i = t.2.length := by omega
    subst e
    simp
  | m + 1, j + 1, i, hm, hj => by
    rw [cF.bM]
    have hlt : i < t.2.length := by omega
    have hx := hr _ (List.getElem_mem hlt)
    rw [← Pu.bc hlt []] at hx
    have ih := cF.loop (k := k) (x3 := x3) (x4 := x4) (x5 := x5) ht hr m j (i + 1) (by omega) (by omega)
    rw [Int.natCast_succ, Pu.take_succ hlt []] at ih
    have hl : (t.2.take i ++ [t.2.getD i []]).length ≤ 1099511627776 := by simp; omega
    have hx' : (t.2.getD i []).length ≤ 1099511627776 := by omega
    simp (disch := omega) only [↓ay, bC, bw, aT, a6, aX, aH, aL, aO, br, aS, aQ, az, aw, aY, ar, aN, aW, bz, bu, aZ, a7, ae, Pu.w64, Int.toNat_natCast, decide_eq_true_eq, Int.ofNat_lt, Int.ofNat_le, if_true, if_false, Int.natCast_nonneg, decide_true, decide_false, Bool.not_true, Bool.not_false, Bool.false_eq_true, Bool.not_eq_true, Bool.true_and, Bool.and_true, Bool.false_and, Bool.and_false, hlt, hl, hx', List.nil_append, ih]
theorem cF.is {k : Nat} {t : Pu.Tab} (hk : 4194304 + 1 ≤ k) (h1 : t.1.length ≤ 1048576) (ht : t.2.length ≤ 1048576) (hr : ∀ x ∈ t.2, x.length ≤ 1048576) : cF k t = some t := by
  obtain ⟨k, rfl⟩ : ∃ k', k = k' + 1 := ⟨k - 1, by omega⟩
  rw [cF.eq]
  have h := cF.loop (k := k) (t := t) (x3 := []) (x4 := t.1) (x5 := []) ht hr t.2.length k 0 (by omega) (by omega)
  rw [Int.natCast_zero, List.take_zero] at h
  have hl : t.1.length ≤ 1099511627776 := by omega
  simp only [↓ay, bC, bw, aT, a6, aX, aH, aL, aO, br, aS, aQ, az, aw, aY, ar, aN, aW, bz, bu, aZ, a7, ae, Pu.w64, Int.toNat_natCast, decide_eq_true_eq, Int.ofNat_lt, Int.ofNat_le, if_true, if_false, Int.natCast_nonneg, decide_true, decide_false, Bool.not_true, Bool.not_false, Bool.false_eq_true, Bool.not_eq_true, Bool.true_and, Bool.and_true, Bool.false_and, Bool.and_false, List.nil_append, hl, h]
theorem aR.inner {k k1 : Nat} {x : Int} {i : Nat} {x3 x5 : List Int} {x4 rows : List (List Int)} (hlt : i < rows.length) (hx : (rows.getD i []).length ≤ 1048576) : ∀ (m j q : Nat), q + m = (rows.getD i []).length → m < j → q ≤ (rows.getD i []).findIdx (fun n => decide (x < n)) →
    aR.L1 k k1 j x i q x3 x4 x5 rows = aR.J3 k k1 x i (((rows.getD i []).findIdx (fun n => decide (x < n)) : Nat) : Int) x3 x4 x5 rows
  | m, 0, q, _, hj, _ => by omega
  | 0, j + 1, q, hm, _, hq => by
    rw [aR.fe]
    have hle : (rows.getD i []).findIdx (fun n => decide (x < n)) ≤ (rows.getD i []).length := List.findIdx_le_length
    have e : (rows.getD i []).findIdx (fun n => decide (x < n)) = q := by omega
    have hn : ¬ q < (rows.getD i []).length := by omega
    simp (disch := omega) only [↓ay, bC, bw, aT, a6, aX, aH, aL, aO, br, aS, aQ, az, aw, aY, ar, aN, aW, bz, bu, aZ, a7, ae, Pu.w64, Int.toNat_natCast, decide_eq_true_eq, Int.ofNat_lt, Int.ofNat_le, if_true, if_false, Int.natCast_nonneg, decide_true, decide_false, Bool.not_true, Bool.not_false, Bool.false_eq_true, Bool.not_eq_true, Bool.true_and, Bool.and_true, Bool.false_and, Bool.and_false, hlt, hn, e]
  | m + 1, j + 1, q, hm, hj, hq => by
    rw [aR.fe]
    have hn : q < (rows.getD i []).length := by omega
    simp (disch := omega) only [↓ay, bC, bw, aT, a6, aX, aH, aL, aO, br, aS, aQ, az, aw, aY, ar, aN, aW, bz, bu, aZ, a7, ae, Pu.w64, Int.toNat_natCast, decide_eq_true_eq, Int.ofNat_lt, Int.ofNat_le, if_true, if_false, Int.natCast_nonneg, decide_true, decide_false, Bool.not_true, Bool.not_false, Bool.false_eq_true, Bool.not_eq_true, Bool.true_and, Bool.and_true, Bool.false_and, Bool.and_false, hlt, hn, aR.ml]
    by_cases c : (rows.getD i []).getD q 0 ≤ x
    · have hne : (rows.getD i []).findIdx (fun n => decide (x < n)) ≠ q := fun e => by
        have := Pu.nN (p := fun n => decide (x < n)) (r := rows.getD i []) (by rw [e]; exact hn)
        rw [e] at this
        simp only [decide_eq_true_eq] at this
        omega
      have ih := aR.inner (k := k) (k1 := k1) (x := x) (x3 := x3) (x4 := x4) (x5 := x5) hlt hx m j (q + 1) (by omega) (by omega) (by omega)
      rw [Int.natCast_succ] at ih
      simp (disch := omega) only [↓ay, bC, bw, aT, a6, aX, aH, aL, aO, br, aS, aQ, az, aw, aY, ar, aN, aW, bz, bu, aZ, a7, ae, Pu.w64, Int.toNat_natCast, decide_eq_true_eq, Int.ofNat_lt, Int.ofNat_le, if_true, if_false, Int.natCast_nonneg, decide_true, decide_false, Bool.not_true, Bool.not_false, Bool.false_eq_true, Bool.not_eq_true, Bool.true_and, Bool.and_true, Bool.false_and, Bool.and_false, c, ih]
    · have e : (rows.getD i []).findIdx (fun n => decide (x < n)) = q := by
        refine Nat.le_antisymm (Pu.findIdx_le hn ?_) hq
        simp only [decide_eq_true_eq]; omega
      simp only [c, ↓ay, bC, bw, aT, a6, aX, aH, aL, aO, br, aS, aQ, az, aw, aY, ar, aN, aW, bz, bu, aZ, a7, ae, Pu.w64, Int.toNat_natCast, decide_eq_true_eq, Int.ofNat_lt, Int.ofNat_le, if_true, if_false, Int.natCast_nonneg, decide_true, decide_false, Bool.not_true, Bool.not_false, Bool.false_eq_true, Bool.not_eq_true, Bool.true_and, Bool.and_true, Bool.false_and, Bool.and_false, e]
theorem aR.loop {k : Nat} {inner x3 : List Int} {x4 : List (List Int)} (hk : 4194304 ≤ k) : ∀ (m j i : Nat) (x : Int) (rows : List (List Int)), i + m = rows.length → m < j → rows.length ≤ 1048576 → (∀ r ∈ rows, r.length ≤ 1048576) →
    aR.L0 k j x i x3 x4 inner rows = some ((inner, rows.take i ++ (Pu.bm (rows.drop i) x).1), ((i + (Pu.bm (rows.drop i) x).2 : Nat) : Int))
  | m, 0, i, x, rows, _, hj, _, _ => by omega
  | 0, j + 1, i, x, rows, hm, _, hl, hr => by
    rw [aR.bM]
    have e : i = rows.length := by omega
    subst e
    have h1 : rows.length + 1 ≤ 1099511627776 := by omega
    simp (disch := omega) only [↓ay, bC, bw, aT, a6, aX, aH, aL, aO, br, aS, aQ, az, aw, aY, ar, aN, aW, bz, bu, aZ, a7, ae, Pu.w64, Int.toNat_natCast, decide_eq_true_eq, Int.ofNat_lt, Int.ofNat_le, if_true, if_false, Int.natCast_nonneg, decide_true, decide_false, Bool.not_true, Bool.not_false, Bool.false_eq_true, Bool.not_eq_true, Bool.true_and, Bool.and_true, Bool.false_and, Bool.and_false, Nat.lt_irrefl, h1, List.drop_length, List.take_length, Pu.bm, List.length_append, List.length_cons, List.length_nil, Int.natCast_add, Int.natCast_one, Int.natCast_zero, Int.add_zero, Int.zero_add, Nat.zero_add, Nat.add_zero, Int.add_sub_cancel]
  | m + 1, j + 1, i, x, rows, hm, hj, hl, hr => by
    rw [aR.bM]
    have hlt : i < rows.length := by omega
    have hx := hr _ (List.getElem_mem hlt)
    rw [← Pu.bc hlt []] at hx
    have hin := aR.inner (k := k) (k1 := j) (x := x) (x3 := x3) (x4 := x4) (x5 := inner) hlt hx (rows.getD i []).length k 0 (by omega) (by omega) (by omega)
    rw [Int.natCast_zero] at hin
    rw [Pu.drop_cons hlt []]
    unfold Pu.bm
    generalize hf : (rows.getD i []).findIdx (fun n => decide (x < n)) = f at *
    have hle : f ≤ (rows.getD i []).length := by rw [← hf]; exact List.findIdx_le_length
    simp (disch := omega) only [↓ay, bC, bw, aT, a6, aX, aH, aL, aO, br, aS, aQ, az, aw, aY, ar, aN, aW, bz, bu, aZ, a7, ae, Pu.w64, Int.toNat_natCast, decide_eq_true_eq, Int.ofNat_lt, Int.ofNat_le, if_true, if_false, Int.natCast_nonneg, decide_true, decide_false, Bool.not_true, Bool.not_false, Bool.false_eq_true, Bool.not_eq_true, Bool.true_and, Bool.and_true, Bool.false_and, Bool.and_false, hlt, hin]
    rw [aR.oi]
    by_cases c : f < (rows.getD i []).length
    · rw [if_pos c]
      have ih := aR.loop (inner := inner) (x3 := x3) (x4 := x4) hk m j (i + 1) ((rows.getD i []).getD f 0) (rows.set i ((rows.getD i []).set f x)) (by rw [List.length_set]; omega) (by omega) (by rw [List.length_set]; exact hl) (fun r h => by
        rcases List.mem_or_eq_of_mem_set h with h | rfl
        · exact hr r h
        · rw [List.length_set]; exact hx)
      rw [Pu.kK hlt, Pu.kA, Int.natCast_succ] at ih
      have hn : ¬ (f : Int) = ((rows.getD i []).length : Int) := by omega
      simp (disch := omega) only [↓ay, bC, bw, aT, a6, aX, aH, aL, aO, br, aS, aQ, az, aw, aY, ar, aN, aW, bz, bu, aZ, a7, ae, Pu.w64, Int.toNat_natCast, decide_eq_true_eq, Int.ofNat_lt, Int.ofNat_le, if_true, if_false, Int.natCast_nonneg, decide_true, decide_false, Bool.not_true, Bool.not_false, Bool.false_eq_true, Bool.not_eq_true, Bool.true_and, Bool.and_true, Bool.false_and, Bool.and_false, hlt, hn, c, ih]
      simp only [List.append_assoc, List.singleton_append]
      congr 2
      omega
    · rw [if_neg c]
      have hn : (f : Int) = ((rows.getD i []).length : Int) := by omega
      have h1 : (rows.getD i [] ++ [x]).length ≤ 1099511627776 := by simp only [List.length_append, List.length_cons, List.length_nil]; omega
      simp (disch := omega) only [↓ay, bC, bw, aT, a6, aX, aH, aL, aO, br, aS, aQ, az, aw, aY, ar, aN, aW, bz, bu, aZ, a7, ae, Pu.w64, Int.toNat_natCast, decide_eq_true_eq, Int.ofNat_lt, Int.ofNat_le, if_true, if_false, Int.natCast_nonneg, decide_true, decide_false, Bool.not_true, Bool.not_false, Bool.false_eq_true, Bool.not_eq_true, Bool.true_and, Bool.and_true, Bool.false_and, Bool.and_false, hlt, hn, h1, Nat.add_zero]
      rw [Pu.pd hlt]
theorem aR.is {k : Nat} {t : Pu.Tab} {x : Int} (hk : 4194304 + 2 ≤ k) (h1 : t.1.length ≤ 1048576) (hl : t.2.length ≤ 1048576) (hr : ∀ r ∈ t.2, r.length ≤ 1048576) :
    aR k t x = some ((t.1, (Pu.bm t.2 x).1), (((Pu.bm t.2 x).2 : Nat) : Int)) := by
  obtain ⟨k, rfl⟩ : ∃ k', k = k' + 1 := ⟨k - 1, by omega⟩
  rw [aR.eq, cF.is (by omega) h1 hl hr, ae]
  have h := aR.loop (k := k) (inner := t.1) (x3 := []) (x4 := []) (by omega) t.2.length k 0 x t.2 (by omega) (by omega) hl hr
  rw [Int.natCast_zero] at h
  simpa using h
theorem cp.is {k : Nat} {t : Pu.Tab} {x : Int} (hk : 4194304 + 7 ≤ k) (h1 : t.1.length ≤ 1048576) (hl : t.2.length ≤ 1048576) (hr : ∀ r ∈ t.2, r.length ≤ 1048576) : cp k t x = some (Pu.cG t x) := by
  obtain ⟨k, rfl⟩ : ∃ k', k = k' + 1 := ⟨k - 1, by omega⟩
  rw [cp.eq, fA.is (by omega) h1 hl hr, ae]
  unfold Pu.cG
  cases hp : Pu.bZ t with
  | false => simp
  | true =>
    have h9 := Pu.jM hp
    simp only [↓ay, bC, bw, aT, a6, aX, aH, aL, aO, br, aS, aQ, az, aw, aY, ar, aN, aW, bz, bu, aZ, a7, ae, Pu.w64, Int.toNat_natCast, decide_eq_true_eq, Int.ofNat_lt, Int.ofNat_le, if_true, if_false, Int.natCast_nonneg, decide_true, decide_false, Bool.not_true, Bool.not_false, Bool.false_eq_true, Bool.not_eq_true, Bool.true_and, Bool.and_true, Bool.false_and, Bool.and_false]
    rw [eC.is (by omega), ae]
    cases hw : Pu.within x 1 9 with
    | false => simp
    | true =>
      simp only [↓ay, bC, bw, aT, a6, aX, aH, aL, aO, br, aS, aQ, az, aw, aY, ar, aN, aW, bz, bu, aZ, a7, ae, Pu.w64, Int.toNat_natCast, decide_eq_true_eq, Int.ofNat_lt, Int.ofNat_le, if_true, if_false, Int.natCast_nonneg, decide_true, decide_false, Bool.not_true, Bool.not_false, Bool.false_eq_true, Bool.not_eq_true, Bool.true_and, Bool.and_true, Bool.false_and, Bool.and_false]
      rw [b9.is (by omega) hl (by omega), ae]
      by_cases c : t.2.flatten.length < 9
      · have c' : ¬ (9 : Int) ≤ (t.2.flatten.length : Nat) := by omega
        simp only [c, c', ↓ay, bC, bw, aT, a6, aX, aH, aL, aO, br, aS, aQ, az, aw, aY, ar, aN, aW, bz, bu, aZ, a7, ae, Pu.w64, Int.toNat_natCast, decide_eq_true_eq, Int.ofNat_lt, Int.ofNat_le, if_true, if_false, Int.natCast_nonneg, decide_true, decide_false, Bool.not_true, Bool.not_false, Bool.false_eq_true, Bool.not_eq_true, Bool.true_and, Bool.and_true, Bool.false_and, Bool.and_false]
        rw [cp.g9, aR.is (by omega) h1 hl hr]
        simp
      · have c' : (9 : Int) ≤ (t.2.flatten.length : Nat) := by omega
        simp only [c, c', ↓ay, bC, bw, aT, a6, aX, aH, aL, aO, br, aS, aQ, az, aw, aY, ar, aN, aW, bz, bu, aZ, a7, ae, Pu.w64, Int.toNat_natCast, decide_eq_true_eq, Int.ofNat_lt, Int.ofNat_le, if_true, if_false, Int.natCast_nonneg, decide_true, decide_false, Bool.not_true, Bool.not_false, Bool.false_eq_true, Bool.not_eq_true, Bool.true_and, Bool.and_true, Bool.false_and, Bool.and_false]
        simp
theorem bI.loop {k : Nat} {l n : Int} {b : List Int} (hk : 3 ≤ k) (hb : b.length ≤ 1048576) (hl : l ≤ 256) (hn : n ≤ 100) : ∀ (m j i : Nat) (p h : Int) (out : List Int), n ≤ (i : Int) + m → m < j → out.length ≤ i → i ≤ 100 → 0 ≤ p → p ≤ b.length → Pu.Ok (bI.L0 k j l n i p h out b) fun r => r.1.length ≤ 200 ∧ 0 ≤ r.2.2.1 ∧ r.2.2.1 ≤ b.length
  | m, 0, i, p, h, out, _, hj, _, _, _, _ => by omega
  | m, j + 1, i, p, h, out, hm, hj, ho, hi, h0, h1 => by
    rw [bI.bM]
    by_cases c : (i : Int) < n
    · obtain ⟨r1, i1, h1', e1, a1, a2, a3, a4, a5⟩ := aG.is (k := k) (n := l) (h := h) (b := b) (by omega) hb h0 h1 hl
      obtain ⟨m, rfl⟩ : ∃ m', m = m' + 1 := ⟨m - 1, by omega⟩
      have hws : IntKind.i64.wrap ((i : Int) + 1) = ((i + 1 : Nat) : Int) := by rw [Pu.w64 (by omega) (by omega)]; omega
      obtain ⟨y, y1, y2⟩ := bI.loop (k := k) hk hb hl hn m j (i + 1) i1 h1' (out ++ [IntKind.i64.wrap (1 + r1)]) (by omega) (by omega) (by rw [List.length_append, List.length_singleton]; omega) (by omega) a4 a5
      have hap : (out ++ [IntKind.i64.wrap (1 + r1)]).length ≤ 1099511627776 := by rw [List.length_append, List.length_singleton]; omega
      simp only [aN, ar, aQ, aH, hws]
      exact ⟨y, Pu.tG c (Pu.bE e1 (Pu.tG hap y1)), y2⟩
    · exact ⟨_, Pu.tX c rfl, by dsimp only; omega, h0, h1⟩
theorem bI.ok {k : Nat} {l i h : Int} {b : List Int} (hk : 4194304 + 5 ≤ k) (hb : b.length ≤ 1048576) (hl : l ≤ 256) (hi : 0 ≤ i) (hi' : i ≤ b.length) : Pu.Ok (bI k 7 l i h b) fun r => r.1.length ≤ 200 ∧ 0 ≤ r.2.2.1 ∧ r.2.2.1 ≤ b.length := by
  obtain ⟨k, rfl⟩ : ∃ k', k = k' + 1 := ⟨k - 1, by omega⟩
  have hw : D.wrap .i64 (D.add 7 1) = 8 := by show IntKind.i64.wrap (7 + 1) = 8; rw [Pu.w64 (by omega) (by omega)]; rfl
  obtain ⟨r1, i1, h1, e1, a1, a2, a3, a4, a5⟩ := aG.is (k := k) (n := 8) (h := h) (b := b) (by omega) hb hi hi' (by omega)
  have := a3 (by omega)
  obtain ⟨y, y1, y2⟩ := bI.loop (k := k) (l := l) (n := r1) (b := b) (by omega) hb hl (by omega) 8 k 0 i1 h1 [] (by omega) (by omega) (by simp) (by omega) a4 a5
  rw [Int.natCast_zero] at y1
  rw [bI.eq, hw]
  exact ⟨y, Pu.bE e1 y1, y2⟩
theorem cb.loop {k : Nat} {w : List Int} (hk : 1 ≤ k) (hw : w.length ≤ 1048576) : ∀ (m j i : Nat), i + m = w.length → m < j → cb.L0 k j i w = some (decide (w.length ≤ 9) && (w.drop i).all fun n => Pu.within n 1 9)
  | m, 0, i, _, hj => by omega
  | 0, j + 1, i, hi, _ => by
    rw [cb.bM]
    have hn : ¬ (i : Int) < w.length := by omega
    refine Pu.tX hn ?_
    rw [List.drop_of_length_le (by omega)]
    simp
    omega
  | m + 1, j + 1, i, hi, hj => by
    have hlt : i < w.length := by omega
    have hn : (i : Int) < w.length := by omega
    have ih := cb.loop hk hw m j (i + 1) (by omega) (by omega)
    have hws : IntKind.i64.wrap ((i : Int) + 1) = ((i + 1 : Nat) : Int) := by rw [Pu.w64 (by omega) (by omega)]; omega
    rw [cb.bM, Pu.drop_cons hlt 0]
    simp only [aO, aH, aL, br, aN, ar, Int.toNat_natCast, hws]
    refine Pu.tG hn (Pu.tG (Int.natCast_nonneg i) (Pu.tG hlt (Pu.tG hlt (Pu.bE (eC.is (by omega)) ?_))))
    cases c : Pu.within (w.getD i 0) 1 9 with
    | false => refine Pu.tM ?_; simp only [List.all_cons, c, Bool.false_and, Bool.and_false]
    | true => refine Pu.tN ?_; rw [ih, List.all_cons, c, Bool.true_and]
theorem cb.is {k : Nat} {w : List Int} (hk : 4194304 + 2 ≤ k) (hw : w.length ≤ 1048576) : cb k w = some (Pu.isWord w) := by
  obtain ⟨k, rfl⟩ : ∃ k', k = k' + 1 := ⟨k - 1, by omega⟩
  have h := cb.loop (k := k) (by omega) hw w.length k 0 (by omega) (by omega)
  rw [Int.natCast_zero, List.drop_zero] at h
  rw [cb.eq]
  exact h
theorem al.inner {k k1 i : Nat} {w out : List Int} (hk : 1 ≤ k) (hw : w.length ≤ 1000) (hi : i < w.length) (ho : out.length ≤ 2000) : ∀ (m j q : Nat) (n : Int), q + m = w.length → m < j → ∃ n', al.L2 k k1 j i n q w out = al.L0 k k1 ((i + 1 : Nat) : Int) w (out ++ [n'])
  | m, 0, q, n, _, hj => by omega
  | 0, j + 1, q, n, hq, _ => by
    rw [al.vO]
    have hn : ¬ (q : Int) < w.length := by omega
    have hws : IntKind.i64.wrap ((i : Int) + 1) = ((i + 1 : Nat) : Int) := by rw [Pu.w64 (by omega) (by omega)]; omega
    have hap : (out ++ [n]).length ≤ 1099511627776 := by rw [List.length_append, List.length_singleton]; omega
    simp only [aH, aL, aN, ar, hws, aQ]
    exact ⟨n, Pu.tX hn (Pu.tG hap rfl)⟩
  | m + 1, j + 1, q, n, hq, hj => by
    have hlt : q < w.length := by omega
    have hn : (q : Int) < w.length := by omega
    have hws : IntKind.i64.wrap ((q : Int) + 1) = ((q + 1 : Nat) : Int) := by rw [Pu.w64 (by omega) (by omega)]; omega
    have hJ : ∀ n2 : Int, ∃ n', al.J3 k k1 j i n2 q w out = al.L0 k k1 ((i + 1 : Nat) : Int) w (out ++ [n']) := fun n2 => by
      rw [al.oi, aN, ar, hws]
      exact al.inner hk hw hi ho m j (q + 1) n2 (by omega) (by omega)
    rw [al.vO]
    simp only [aO, aH, aL, br, Int.toNat_natCast]
    by_cases c : w.getD q 0 < w.getD i 0
    · obtain ⟨n', e⟩ := hJ (IntKind.i64.wrap (n + 1))
      refine ⟨n', ?_⟩
      exact Pu.tG hn (Pu.tG (Int.natCast_nonneg q) (Pu.tG hlt (Pu.tG hlt (Pu.tG (Int.natCast_nonneg i) (Pu.tG hi (Pu.tG hi (Pu.tG c (Pu.bE (dM.is hk) e))))))))
    · by_cases c2 : w.getD q 0 = w.getD i 0
      · obtain ⟨n', e⟩ := hJ (IntKind.i64.wrap (n + (if (decide ((q : Int) < (i : Int))) = true then 1 else 0)))
        refine ⟨n', ?_⟩
        exact Pu.tG hn (Pu.tG (Int.natCast_nonneg q) (Pu.tG hlt (Pu.tG hlt (Pu.tG (Int.natCast_nonneg i) (Pu.tG hi (Pu.tG hi (Pu.tX c (Pu.tG (Int.natCast_nonneg q) (Pu.tG hlt (Pu.tG hlt (Pu.tG (Int.natCast_nonneg i) (Pu.tG hi (Pu.tG hi (Pu.tG c2 (Pu.bE (dM.is hk) e)))))))))))))))
      · obtain ⟨n', e⟩ := hJ (IntKind.i64.wrap (n + 0))
        refine ⟨n', ?_⟩
        exact Pu.tG hn (Pu.tG (Int.natCast_nonneg q) (Pu.tG hlt (Pu.tG hlt (Pu.tG (Int.natCast_nonneg i) (Pu.tG hi (Pu.tG hi (Pu.tX c (Pu.tG (Int.natCast_nonneg q) (Pu.tG hlt (Pu.tG hlt (Pu.tG (Int.natCast_nonneg i) (Pu.tG hi (Pu.tG hi (Pu.tX c2 (Pu.bE (dM.is hk) e)))))))))))))))
theorem al.outer {k : Nat} {w : List Int} (hk : 4194304 + 10 ≤ k) (hw : w.length ≤ 1000) : ∀ (m j i : Nat) (out : List Int), i + m = w.length → m < j → out.length ≤ i → Pu.Ok (al.L0 k j i w out) fun r => r.length ≤ 1000
  | m, 0, i, out, _, hj, _ => by omega
  | 0, j + 1, i, out, hi, _, ho => by
    rw [al.bM]
    have hn : ¬ (i : Int) < w.length := by omega
    exact ⟨out, Pu.tX hn rfl, by omega⟩
  | m + 1, j + 1, i, out, hi, hj, ho => by
    have hlt : i < w.length := by omega
    have hn : (i : Int) < w.length := by omega
    have hw2 := cb.is (k := k) (w := w) (by omega) (by omega)
    rw [al.bM]
    cases c : Pu.isWord w with
    | false => rw [c] at hw2; exact ⟨out, Pu.tG hn (Pu.bE hw2 (Pu.tF rfl)), by omega⟩
    | true =>
      rw [c] at hw2
      obtain ⟨n', e⟩ := al.inner (k := k) (k1 := j) (w := w) (out := out) (by omega) hw hlt (by omega) w.length k 0 1 (by omega) (by omega)
      obtain ⟨y, y1, y2⟩ := al.outer hk hw m j (i + 1) (out ++ [n']) (by omega) (by omega) (by rw [List.length_append, List.length_singleton]; omega)
      rw [Int.natCast_zero] at e
      refine ⟨y, Pu.tG hn (Pu.bE hw2 (Pu.tY ?_)), y2⟩
      rw [al.fM, e]
      exact y1
theorem al.ok {k : Nat} {w : List Int} (hk : 4194304 + 12 ≤ k) (hw : w.length ≤ 1000) : Pu.Ok (al k w) fun r => r.length ≤ 1000 := by
  obtain ⟨k, rfl⟩ : ∃ k', k = k' + 1 := ⟨k - 1, by omega⟩
  have h := al.outer (k := k) (by omega) hw w.length k 0 [] (by omega) (by omega) (by simp)
  rw [Int.natCast_zero] at h
  rw [al.eq]
  exact h
theorem dL.ok {k : Nat} {i h : Int} {b : List Int} (hk : 4194304 + 20 ≤ k) (hb : b.length ≤ 1048576) (hi : 0 ≤ i) (hi' : i ≤ b.length) : Pu.Ok (dL k i h b) fun r => r.1.length ≤ 1000 ∧ 0 ≤ r.2.2.1 ∧ r.2.2.1 ≤ b.length := by
  obtain ⟨k, rfl⟩ : ∃ k', k = k' + 1 := ⟨k - 1, by omega⟩
  obtain ⟨r0, i0, h0, e0, a1, a2, a3, a4, a5⟩ := aG.is (k := k) (n := 4) (h := h) (b := b) (by omega) hb hi hi' (by omega)
  have hr := a3 (by omega)
  have hw : D.wrap .i64 (D.add 2 r0) = 2 + r0 := by show IntKind.i64.wrap (2 + r0) = 2 + r0; exact Pu.w64 (by omega) (by omega)
  obtain ⟨w, w1, w2, w3, w4⟩ := bI.ok (k := k) (l := 2 + r0) (i := i0) (h := h0) (b := b) (by omega) hb (by omega) a4 a5
  obtain ⟨r2, i2, h2, e2, b4, b5⟩ := ch.is (k := k) (n := 3) (i := w.2.2.1) (h := w.2.2.2) (b := b) (by omega) hb w3 w4 (by omega)
  obtain ⟨s, s1, s2⟩ := al.ok (k := k) (w := w.1) (by omega) (by omega)
  rw [dL.eq]
  cases r2 with
  | false =>
    refine ⟨(w.1, ((), (i2, h2))), Pu.bE e0 ?_, by dsimp only; omega, b4, b5⟩
    simp only [hw]
    exact Pu.bE w1 (Pu.bE e2 (Pu.tF rfl))
  | true =>
    refine ⟨(s, ((), (i2, h2))), Pu.bE e0 ?_, s2, b4, b5⟩
    simp only [hw]
    exact Pu.bE w1 (Pu.bE e2 (Pu.tY (Pu.bE s1 rfl)))
theorem bY.loop {k : Nat} {p h : Int} {b : List Int} : ∀ (m j : Nat) (out : List Int), 10 ≤ out.length + m → m < j → out.length ≤ 1000 → Pu.Ok (bY.L0 k j out p h b) fun r => r.1.length ≤ 1010
  | m, 0, out, _, hj, _ => by omega
  | m, j + 1, out, hm, hj, ho => by
    rw [bY.bM]
    by_cases c : (out.length : Int) < 10
    · obtain ⟨m, rfl⟩ : ∃ m', m = m' + 1 := ⟨m - 1, by omega⟩
      have hap : (out ++ [1]).length ≤ 1099511627776 := by rw [List.length_append, List.length_singleton]; omega
      obtain ⟨y, y1, y2⟩ := bY.loop (k := k) (p := p) (h := h) (b := b) m j (out ++ [1]) (by rw [List.length_append, List.length_singleton]; omega) (by omega) (by rw [List.length_append, List.length_singleton]; omega)
      exact ⟨y, Pu.tG c (Pu.tG hap y1), y2⟩
    · exact ⟨_, Pu.tX c rfl, by dsimp only; omega⟩
theorem bY.ok {k : Nat} {i h : Int} {b : List Int} (hk : 4194304 + 30 ≤ k) (hb : b.length ≤ 1048576) (hi : 0 ≤ i) (hi' : i ≤ b.length) : Pu.Ok (bY k i h b) fun r => r.1.length ≤ 1010 := by
  obtain ⟨k, rfl⟩ : ∃ k', k = k' + 1 := ⟨k - 1, by omega⟩
  obtain ⟨w, w1, w2, w3, w4⟩ := dL.ok (k := k) (i := i) (h := h) (b := b) (by omega) hb hi hi'
  obtain ⟨r1, i1, h1, e1, a1, a2, a3, a4, a5⟩ := aG.is (k := k) (n := 14) (i := w.2.2.1) (h := w.2.2.2) (b := b) (by omega) hb w3 w4 (by omega)
  rw [bY.eq]
  by_cases c : r1 = 0
  · obtain ⟨x, i2, h2, e2, _, _, _⟩ := bX.is (k := k) (l := [0, 10, -1, 9]) (i := i1) (h := h1) (b := b) (by omega) hb a4 a5 (by simp) (by simp)
    have hap : (w.1 ++ [x]).length ≤ 1099511627776 := by rw [List.length_append, List.length_singleton]; omega
    exact ⟨(w.1 ++ [x], ((), (i2, h2))), Pu.bE w1 (Pu.bE e1 (Pu.tG c (Pu.bE e2 (Pu.tG hap rfl)))), by dsimp only; rw [List.length_append, List.length_singleton]; omega⟩
  · by_cases c2 : r1 = 1
    · obtain ⟨y, y1, y2⟩ := bY.loop (k := k) (p := i1) (h := h1) (b := b) 10 k w.1 (by omega) (by omega) w2
      exact ⟨y, Pu.bE w1 (Pu.bE e1 (Pu.tX c (Pu.tG c2 y1))), y2⟩
    · exact ⟨(w.1, ((), (i1, h1))), Pu.bE w1 (Pu.bE e1 (Pu.tX c (Pu.tX c2 rfl))), by dsimp only; omega⟩
theorem aJ.loop {k : Nat} {b e : List Int} (hb : b.length ≤ 1048576) : ∀ (m j i : Nat) (h : Int), i + m = 4000 → m < j → ∃ h', aJ.L0 k j h i b e = aJ.J2 k h' b e
  | m, 0, i, h, _, hj => by omega
  | 0, j + 1, i, h, hi, _ => by
    rw [aJ.bM, Pu.ky, Pu.ky]
    have h4 : ¬ (i : Int) < 4000 := by omega
    refine ⟨h, ?_⟩
    rw [if_neg h4, ite_self]
  | m + 1, j + 1, i, h, hi, hj => by
    rw [aJ.bM, Pu.ky, Pu.ky]
    have h4 : (i : Int) < 4000 := by omega
    by_cases hlt : i < b.length
    · have ew : IntKind.i64.wrap ((i : Int) + 1) = ((i + 1 : Nat) : Int) := by rw [Pu.w64 (by omega) (by omega)]; omega
      have hlt' : (i : Int) < D.ofN (D.len b) := by show (i : Int) < (b.length : Int); omega
      rw [if_pos hlt', if_pos h4, aJ.fM]
      obtain ⟨h', ih⟩ := aJ.loop (k := k) (e := e) hb m j (i + 1) (D.andI .i64 (D.wrap .i64 (D.add (D.wrap .i64 (D.add (D.wrap .i64 (D.mul h 131)) (D.wrap .i64 (D.rd b (D.nat (i : Int)) 0)))) 7)) 1073741823) (by omega) (by omega)
      refine ⟨h', ?_⟩
      have t1 : D.le 0 (i : Int) = true := decide_eq_true (by omega)
      have t2 : D.ltN (D.nat (i : Int)) (D.len b) = true := decide_eq_true (by show (i : Int).toNat < b.length; omega)
      rw [ay, if_pos t1, ay, if_pos t2, ay, if_pos t2]
      have ew' : D.wrap .i64 (D.add (i : Int) 1) = ((i + 1 : Nat) : Int) := ew
      rw [ew']
      exact ih
    · have hlt' : ¬ (i : Int) < D.ofN (D.len b) := by show ¬ (i : Int) < (b.length : Int); omega
      exact ⟨h, by rw [if_neg hlt']⟩
theorem aJ.ok {k : Nat} {b : List Int} (hk : 4194304 + 40 ≤ k) (hb : b.length ≤ 1048576) : Pu.Ok (aJ k b) fun r => r.length ≤ 1010 := by
  obtain ⟨k, rfl⟩ : ∃ k', k = k' + 2 := ⟨k - 2, by omega⟩
  rw [aJ.eq]
  obtain ⟨h', e⟩ := aJ.loop (k := k) (e := ([] : List Int)) hb 4000 k 0 (D.wrap .i64 (D.add 26583 (D.ofN (D.len b)))) (by omega) (by omega)
  rw [Int.natCast_zero] at e
  rw [e, aJ.ml]
  obtain ⟨y, y1, y2⟩ := bY.ok (k := k + 1) (i := 0) (h := h') (b := b) (by omega) hb (by omega) (by omega)
  exact ⟨y.1, Pu.bE y1 rfl, y2⟩
theorem dY.is {k : Nat} {x : Int} (hk : 2 ≤ k) : dY k x = some (!Pu.within x 1 9, ()) := by
  obtain ⟨k, rfl⟩ : ∃ k', k = k' + 1 := ⟨k - 1, by omega⟩
  rw [dY.eq, cK.is (by omega)]
  rfl
theorem aB.is {k : Nat} {r : List Int} (hk : 4194304 + 1 ≤ k) (hr : r.length ≤ 1048577) : aB k r = some (Pu.sN (fun y => !Pu.within y 1 9) r, ()) := by
  obtain ⟨k, rfl⟩ : ∃ k', k = k' + 1 := ⟨k - 1, by omega⟩
  rw [aB.eq]
  have h := Pu.oj r 0 (fun y => !Pu.within y 1 9) (fun j i => aB.L0 k j r.length i r) (fun i => some ((i : Int), ())) (some (-1, ()))
    (fun j i hi => by
      rw [aB.bM, dY.is (by omega)]
      cases c : Pu.within (r.getD i 0) 1 9 <;> simp (disch := omega) only [↓ay, bC, bw, aT, a6, aX, aH, aL, aO, br, aS, aQ, az, aw, aY, ar, aN, aW, bz, bu, aZ, a7, ae, Pu.w64, Int.toNat_natCast, decide_eq_true_eq, Int.ofNat_lt, Int.ofNat_le, if_true, if_false, Int.natCast_nonneg, decide_true, decide_false, Bool.not_true, Bool.not_false, Bool.false_eq_true, Bool.not_eq_true, Bool.true_and, Bool.and_true, Bool.false_and, Bool.and_false, hi, c, Int.natCast_add, Int.natCast_one])
    (fun j => by
      rw [aB.bM]
      simp only [↓ay, bC, bw, aT, a6, aX, aH, aL, aO, br, aS, aQ, az, aw, aY, ar, aN, aW, bz, bu, aZ, a7, ae, Pu.w64, Int.toNat_natCast, decide_eq_true_eq, Int.ofNat_lt, Int.ofNat_le, if_true, if_false, Int.natCast_nonneg, decide_true, decide_false, Bool.not_true, Bool.not_false, Bool.false_eq_true, Bool.not_eq_true, Bool.true_and, Bool.and_true, Bool.false_and, Bool.and_false, Nat.lt_irrefl]) r.length k 0 (by omega) (by omega) (by omega)
  simp only [Int.natCast_zero] at h
  simp only [aL, aH]
  rw [h]
  unfold Pu.sN
  split <;> rfl
theorem bt.is {k : Nat} {r : List Int} (hk : 4194304 + 2 ≤ k) (hr : r.length ≤ 1048577) : bt k r = some (r.any fun y => !Pu.within y 1 9, ()) := by
  obtain ⟨k, rfl⟩ : ∃ k', k = k' + 1 := ⟨k - 1, by omega⟩
  rw [bt.eq, aB.is (by omega) hr, ae, bw, Pu.uW]
theorem eV.is {k : Nat} {w : List Int} (hk : 4194304 + 3 ≤ k) (hw : w.length ≤ 1048576) : eV k w = some (Pu.isWord w) := by
  obtain ⟨k, rfl⟩ : ∃ k', k = k' + 1 := ⟨k - 1, by omega⟩
  rw [eV.eq, bt.is (by omega) (by omega), ae]
  unfold Pu.isWord
  have e : (!w.any fun y => !Pu.within y 1 9) = w.all fun n => Pu.within n 1 9 := by rw [List.all_eq_not_any_not]
  by_cases c : w.length ≤ 9
  · have c' : (w.length : Int) ≤ 9 := by omega
    simp only [↓ay, bC, bw, aT, a6, aX, aH, aL, aO, br, aS, aQ, az, aw, aY, ar, aN, aW, bz, bu, aZ, a7, ae, Pu.w64, Int.toNat_natCast, decide_eq_true_eq, Int.ofNat_lt, Int.ofNat_le, if_true, if_false, Int.natCast_nonneg, decide_true, decide_false, Bool.not_true, Bool.not_false, Bool.false_eq_true, Bool.not_eq_true, Bool.true_and, Bool.and_true, Bool.false_and, Bool.and_false, c, c', e]
  · have c' : ¬ (w.length : Int) ≤ 9 := by omega
    simp only [↓ay, bC, bw, aT, a6, aX, aH, aL, aO, br, aS, aQ, az, aw, aY, ar, aN, aW, bz, bu, aZ, a7, ae, Pu.w64, Int.toNat_natCast, decide_eq_true_eq, Int.ofNat_lt, Int.ofNat_le, if_true, if_false, Int.natCast_nonneg, decide_true, decide_false, Bool.not_true, Bool.not_false, Bool.false_eq_true, Bool.not_eq_true, Bool.true_and, Bool.and_true, Bool.false_and, Bool.and_false, c, c']
theorem cZ.loop {k : Nat} {n : Nat} (hn : n ≤ 1000) : ∀ (m j i : Nat), i + m = n → m < j → cZ.L0 k j n i (Pu.kf i) = some (Pu.kf n)
  | m, 0, i, _, hj => by omega
  | 0, j + 1, i, hi, _ => by
    rw [cZ.bM]
    have e : i = n := by omega
    have hc : ¬ (i : Int) < (n : Int) := by omega
    exact Pu.tX hc (by rw [e])
  | m + 1, j + 1, i, hi, hj => by
    have hc : (i : Int) < (n : Int) := by omega
    have ih := cZ.loop (k := k) hn m j (i + 1) (by omega) (by omega)
    have hws : IntKind.i64.wrap ((i : Int) + 1) = ((i + 1 : Nat) : Int) := by rw [Pu.w64 (by omega) (by omega)]; omega
    have hu : Pu.kf i ++ [((i + 1 : Nat) : Int)] = Pu.kf (i + 1) := by
      unfold Pu.kf
      rw [List.range_succ, List.map_append]
      rfl
    have hap : (Pu.kf i ++ [((i + 1 : Nat) : Int)]).length ≤ 1099511627776 := by rw [hu, Pu.kZ]; omega
    rw [cZ.bM]
    simp only [aN, ar, aQ, aH, hws]
    refine Pu.tG hc (Pu.tG hap ?_)
    rw [hu, ih]
theorem cZ.is {k n : Nat} (hk : 4194304 + 1 ≤ k) (hn : n ≤ 1000) : cZ k n = some (Pu.kf n) := by
  obtain ⟨k, rfl⟩ : ∃ k', k = k' + 1 := ⟨k - 1, by omega⟩
  have h := cZ.loop (k := k) hn n k 0 (by omega) (by omega)
  rw [Int.natCast_zero] at h
  rw [cZ.eq]
  exact h
theorem a9.loop {k : Nat} {inner : List Int} (hk : 4194304 + 1 ≤ k) : ∀ (m j i : Nat) (x : Int) (rows : List (List Int)), i + m = rows.length → m < j → rows.length ≤ 1048576 → (∀ r ∈ rows, r.length ≤ 1048576) →
    a9.L0 k j rows.length i x rows inner = some (((i + (Pu.bm (rows.drop i) x).2 : Nat) : Int), (inner, rows.take i ++ (Pu.bm (rows.drop i) x).1))
  | m, 0, i, x, rows, _, hj, _, _ => by omega
  | 0, j + 1, i, x, rows, hm, _, hl, hr => by
    rw [a9.bM]
    have e : i = rows.length := by omega
    subst e
    have h1 : rows.length + 1 ≤ 1099511627776 := by omega
    simp (disch := omega) only [↓ay, bC, bw, aT, a6, aX, aH, aL, aO, br, aS, aQ, az, aw, aY, ar, aN, aW, bz, bu, aZ, a7, ae, Pu.w64, Int.toNat_natCast, decide_eq_true_eq, Int.ofNat_lt, Int.ofNat_le, if_true, if_false, Int.natCast_nonneg, decide_true, decide_false, Bool.not_true, Bool.not_false, Bool.false_eq_true, Bool.not_eq_true, Bool.true_and, Bool.and_true, Bool.false_and, Bool.and_false, Nat.lt_irrefl, h1, List.drop_length, List.take_length, Pu.bm, List.length_append, List.length_cons, List.length_nil, Int.natCast_add, Int.natCast_one, Int.natCast_zero, Int.add_zero, Int.zero_add, Nat.zero_add, Nat.add_zero, Int.add_sub_cancel]
  | m + 1, j + 1, i, x, rows, hm, hj, hl, hr => by
    rw [a9.bM]
    have hlt : i < rows.length := by omega
    have hx := hr _ (List.getElem_mem hlt)
    rw [← Pu.bc hlt []] at hx
    have hi := aj.is (k := k) (r := rows.getD i []) (x := x) (by omega) (by omega)
    rw [Pu.drop_cons hlt []]
    unfold Pu.bm
    generalize hf : (rows.getD i []).findIdx (fun n => decide (x < n)) = f at *
    by_cases c : f < (rows.getD i []).length
    · rw [if_pos c] at hi ⊢
      have ih := a9.loop (inner := inner) hk m j (i + 1) ((rows.getD i []).getD f 0) (rows.set i ((rows.getD i []).set f x)) (by rw [List.length_set]; omega) (by omega) (by rw [List.length_set]; exact hl) (fun r h => by
        rcases List.mem_or_eq_of_mem_set h with h | rfl
        · exact hr r h
        · rw [List.length_set]; exact hx)
      rw [Pu.kK hlt, Pu.kA, List.length_set, Int.natCast_succ] at ih
      have hn : ¬ (f : Int) < 0 := by omega
      simp (disch := omega) only [↓ay, bC, bw, aT, a6, aX, aH, aL, aO, br, aS, aQ, az, aw, aY, ar, aN, aW, bz, bu, aZ, a7, ae, Pu.w64, Int.toNat_natCast, decide_eq_true_eq, Int.ofNat_lt, Int.ofNat_le, if_true, if_false, Int.natCast_nonneg, decide_true, decide_false, Bool.not_true, Bool.not_false, Bool.false_eq_true, Bool.not_eq_true, Bool.true_and, Bool.and_true, Bool.false_and, Bool.and_false, hlt, hi, hn, c, ih]
      simp only [List.append_assoc, List.singleton_append]
      congr 2
      omega
    · rw [if_neg c] at hi ⊢
      have hn : (-1 : Int) < 0 := by omega
      have h1 : (rows.getD i [] ++ [x]).length ≤ 1099511627776 := by simp only [List.length_append, List.length_cons, List.length_nil]; omega
      simp (disch := omega) only [↓ay, bC, bw, aT, a6, aX, aH, aL, aO, br, aS, aQ, az, aw, aY, ar, aN, aW, bz, bu, aZ, a7, ae, Pu.w64, Int.toNat_natCast, decide_eq_true_eq, Int.ofNat_lt, Int.ofNat_le, if_true, if_false, Int.natCast_nonneg, decide_true, decide_false, Bool.not_true, Bool.not_false, Bool.false_eq_true, Bool.not_eq_true, Bool.true_and, Bool.and_true, Bool.false_and, Bool.and_false, hlt, hi, hn, h1, Nat.add_zero]
      rw [Pu.pd hlt]
theorem a9.is {k : Nat} {inner : List Int} {x : Int} {rows : List (List Int)} (hk : 4194304 + 2 ≤ k) (hl : rows.length ≤ 1048576) (hr : ∀ r ∈ rows, r.length ≤ 1048576) :
    a9 k x inner rows = some ((((Pu.bm rows x).2 : Nat) : Int), (inner, (Pu.bm rows x).1)) := by
  obtain ⟨k, rfl⟩ : ∃ k', k = k' + 1 := ⟨k - 1, by omega⟩
  rw [a9.eq]
  have h := a9.loop (k := k) (inner := inner) (by omega) rows.length k 0 x rows (by omega) (by omega) hl hr
  rw [Int.natCast_zero] at h
  simpa using h
theorem aU.add {k k1 : Nat} {i a n : Nat} {W v : List Int} {x4 : List Int} {x5 : List (List Int)} {x6 : List Int} {x7 : List (List Int)} {pi : List Int} {P : List (List Int)} {qi : List Int} {F : List (List Int)} {z : Int} (hi : i < v.length) (hz : v.getD i 0 = z) (ha : a < F.length) (hF : ∀ r, (F.getD r []).length ≤ 1000) (hw : i ≤ 1000) :
    aU.J1 k k1 i a n i v W x4 x5 x6 x7 pi P qi F = aU.L0 k k1 n ((i + 1 : Nat) : Int) v W x4 x5 x6 x7 pi P qi (F.set a (F.getD a [] ++ [z])) := by
  rw [aU.fM]
  have h9 := hF a
  have hws : IntKind.i64.wrap ((i : Int) + 1) = ((i + 1 : Nat) : Int) := by rw [Pu.w64 (by omega) (by omega)]; omega
  have hap : (F.getD a [] ++ [z]).length ≤ 1099511627776 := by rw [List.length_append, List.length_singleton]; omega
  simp only [aO, aH, br, aS, aQ, aN, ar, Int.toNat_natCast, hws, hz]
  have a0 := Int.natCast_nonneg a
  exact Pu.tG a0 (Pu.tG ha (Pu.tG ha (Pu.tG (Int.natCast_nonneg i) (Pu.tG hi (Pu.tG hi (Pu.tG ha (Pu.tG hap (Pu.tG a0 (Pu.tG ha (Pu.tG ha (Pu.tG rfl rfl)))))))))))
theorem aU.loop {k : Nat} {W : List Int} {x4 : List Int} {x5 : List (List Int)} {x6 : List Int} {x7 : List (List Int)} (hk : 4194304 + 20 ≤ k) (hW : W.length ≤ 9) (hx : ∀ x ∈ W, 1 ≤ x ∧ x ≤ 9) : ∀ (m j i : Nat) (P Q : List (List Int)), i + m = W.length → m < j → Pu.Ins P Q i →
    aU.L0 k j W.length i (Pu.kf W.length) W x4 x5 x6 x7 [] P [] Q = some (([], Pu.lC (W.drop i) P), ([], Pu.nk (W.drop i) P Q i))
  | m, 0, i, P, Q, _, hj, _ => by omega
  | 0, j + 1, i, P, Q, hi, _, _ => by
    rw [aU.bM]
    have hn : ¬ (i : Int) < W.length := by omega
    refine Pu.tX hn ?_
    rw [List.drop_of_length_le (by omega)]
    rfl
  | m + 1, j + 1, i, P, Q, hi, hj, h => by
    have hlt : i < W.length := by omega
    have hn : (i : Int) < W.length := by omega
    have hxi := hx _ (List.getElem_mem hlt)
    rw [← Pu.bc hlt 0] at hxi
    obtain ⟨s1, _, _⟩ := h.step hxi (by omega)
    have ih := aU.loop (x4 := x4) (x5 := x5) (x6 := x6) (x7 := x7) hk hW hx m j (i + 1) (Pu.bm P (W.getD i 0)).1 (Pu.fY Q (Pu.bm P (W.getD i 0)).2 ((i + 1 : Nat) : Int)) (by omega) (by omega) s1
    have hP := Pu.iL (Pu.pw h (by omega))
    have hQ := Pu.iL h.pl
    have hP1 : P.length ≤ 9 := hP.1
    have hQ1 : Q.length ≤ 9 := hQ.1
    have hins := a9.is (k := k) (inner := []) (x := W.getD i 0) (rows := P) (by omega) (by omega) (fun r hr => by have := hP.2 r hr; omega)
    have ha := (Pu.qP P (W.getD i 0)).1
    rw [h.same.1] at ha
    have hup : (Pu.kf W.length).getD i 0 = ((i + 1 : Nat) : Int) := by
      rw [Pu.bc (by rw [Pu.kZ]; exact hlt)]
      simp only [Pu.kf, List.getElem_map, List.getElem_range]
      omega
    have hul : i < (Pu.kf W.length).length := by rw [Pu.kZ]; exact hlt
    rw [aU.bM, Pu.drop_cons hlt 0]
    show _ = some (([], Pu.lC (W.drop (i + 1)) (Pu.bm P (W.getD i 0)).1), ([], Pu.nk (W.drop (i + 1)) (Pu.bm P (W.getD i 0)).1 (Pu.fY Q (Pu.bm P (W.getD i 0)).2 ((i + 1 : Nat) : Int)) (i + 1)))
    rw [← ih]
    simp only [aO, aH, aL, br, Int.toNat_natCast]
    refine Pu.tG hn (Pu.tG (Int.natCast_nonneg i) (Pu.tG hlt (Pu.tG hlt (Pu.bE hins ?_))))
    simp only
    have hq9 : ∀ r, (Q.getD r []).length ≤ 9 := fun r => hQ.at r
    generalize (Pu.bm P (W.getD i 0)).2 = a at *
    unfold Pu.fY
    by_cases c : a = Q.length
    · have hc : ((a : Nat) : Int) = (Q.length : Int) := by omega
      have hap : (Q ++ [[]]).length ≤ 1099511627776 := by rw [List.length_append, List.length_singleton]; omega
      have hF : ∀ r, ((Q ++ [[]]).getD r []).length ≤ 1000 := fun r => by
        by_cases hr : r < Q.length
        · simp only [List.getD_eq_getElem?_getD, List.getElem?_append_left hr]
          have := hq9 r
          simp only [List.getD_eq_getElem?_getD] at this
          omega
        · simp only [List.getD_eq_getElem?_getD, List.getElem?_append_right (Nat.le_of_not_lt hr)]
          cases r - Q.length <;> simp
      refine Pu.tG hc (Pu.tG hap ?_)
      simp only [aQ]
      rw [aU.add hul hup (by rw [List.length_append, List.length_singleton]; omega) hF (by omega), if_pos c]
      congr 1
      rw [c]
      simp
    · have hc : ¬ ((a : Nat) : Int) = (Q.length : Int) := by omega
      refine Pu.tX hc ?_
      rw [aU.add hul hup (by omega) (fun r => by have := hq9 r; omega) (by omega), if_neg c]
theorem aU.is {k : Nat} {W : List Int} (hk : 4194304 + 30 ≤ k) (h : Pu.isWord W = true) : aU k W (Pu.kf W.length) = some (([], Pu.lC W []), ([], Pu.nk W [] [] 0)) := by
  obtain ⟨k, rfl⟩ : ∃ k', k = k' + 1 := ⟨k - 1, by omega⟩
  obtain ⟨h1, h2⟩ := Pu.eW h
  have hl := aU.loop (k := k) (x4 := []) (x5 := []) (x6 := []) (x7 := []) (by omega) h1 h2 W.length k 0 [] [] (by omega) (by omega) Pu.Ins.nil
  rw [Int.natCast_zero, List.drop_zero] at hl
  rw [aU.eq]
  exact hl
theorem cO.is {k : Nat} {w : List Int} (hk : 4194304 + 40 ≤ k) (hw : w.length ≤ 1048576) : cO k w = some (Pu.a8 w) := by
  obtain ⟨k, rfl⟩ : ∃ k', k = k' + 1 := ⟨k - 1, by omega⟩
  have h1 := eV.is (k := k) (w := w) (by omega) hw
  rw [cO.eq]
  unfold Pu.a8
  refine Pu.bE h1 ?_
  cases c : Pu.isWord w with
  | false => exact Pu.tM rfl
  | true =>
    have h9 := (Pu.eW c).1
    exact Pu.tN (Pu.bE (cZ.is (n := w.length) (by omega) (by omega)) (Pu.bE (aU.is (by omega) c) rfl))
theorem dX.is {k : Nat} {w : List Int} (hk : 4194304 + 40 ≤ k) (hw : w.length ≤ 1048576) : dX k w = some (Pu.b7 w) := by
  obtain ⟨k, rfl⟩ : ∃ k', k = k' + 1 := ⟨k - 1, by omega⟩
  have h1 := eV.is (k := k) (w := w) (by omega) hw
  rw [dX.eq]
  unfold Pu.b7
  refine Pu.bE h1 ?_
  cases c : Pu.isWord w with
  | false => exact Pu.tM rfl
  | true =>
    have h9 := (Pu.eW c).1
    exact Pu.tN (Pu.bE (cZ.is (n := w.length) (by omega) (by omega)) (Pu.bE (aU.is (by omega) c) rfl))
theorem bK.add {k k1 : Nat} {i a : Nat} {W : List Int} {x3 : List Int} {x4 : List (List Int)} {x5 : List Int} {x6 : List (List Int)} {pi : List Int} {P : List (List Int)} {qi : List Int} {F : List (List Int)} (ha : a < F.length) (hF : ∀ r, (F.getD r []).length ≤ 1000) (hw : i ≤ 1000) :
    bK.J1 k k1 i a W x3 x4 x5 x6 pi P qi F = bK.L0 k k1 ((i + 1 : Nat) : Int) W x3 x4 x5 x6 pi P qi (F.set a (F.getD a [] ++ [((i + 1 : Nat) : Int)])) := by
  rw [bK.fM]
  have h9 := hF a
  have hws : IntKind.i64.wrap ((i : Int) + 1) = ((i + 1 : Nat) : Int) := by rw [Pu.w64 (by omega) (by omega)]; omega
  have hap : (F.getD a [] ++ [((i + 1 : Nat) : Int)]).length ≤ 1099511627776 := by rw [List.length_append, List.length_singleton]; omega
  simp only [aO, aH, br, aS, aQ, aN, ar, Int.toNat_natCast, hws]
  have a0 := Int.natCast_nonneg a
  exact Pu.tG a0 (Pu.tG ha (Pu.tG ha (Pu.tG ha (Pu.tG hap (Pu.tG a0 (Pu.tG ha (Pu.tG ha (Pu.tG rfl rfl))))))))
theorem bK.loop {k : Nat} {W : List Int} {x3 : List Int} {x4 : List (List Int)} {x5 : List Int} {x6 : List (List Int)} (hk : 4194304 + 20 ≤ k) (hW : W.length ≤ 9) (hx : ∀ x ∈ W, 1 ≤ x ∧ x ≤ 9) : ∀ (m j i : Nat) (P Q : List (List Int)), i + m = W.length → m < j → Pu.Ins P Q i →
    bK.L0 k j i W x3 x4 x5 x6 [] P [] Q = some (([], Pu.lC (W.drop i) P), ([], Pu.nk (W.drop i) P Q i))
  | m, 0, i, P, Q, _, hj, _ => by omega
  | 0, j + 1, i, P, Q, hi, _, _ => by
    rw [bK.bM]
    have hn : ¬ (i : Int) < W.length := by omega
    refine Pu.tX hn ?_
    rw [List.drop_of_length_le (by omega)]
    rfl
  | m + 1, j + 1, i, P, Q, hi, hj, h => by
    have hlt : i < W.length := by omega
    have hn : (i : Int) < W.length := by omega
    have hxi := hx _ (List.getElem_mem hlt)
    rw [← Pu.bc hlt 0] at hxi
    obtain ⟨s1, _, _⟩ := h.step hxi (by omega)
    have ih := bK.loop (x3 := x3) (x4 := x4) (x5 := x5) (x6 := x6) hk hW hx m j (i + 1) (Pu.bm P (W.getD i 0)).1 (Pu.fY Q (Pu.bm P (W.getD i 0)).2 ((i + 1 : Nat) : Int)) (by omega) (by omega) s1
    have hP := Pu.iL (Pu.pw h (by omega))
    have hQ := Pu.iL h.pl
    have hP1 : P.length ≤ 9 := hP.1
    have hQ1 : Q.length ≤ 9 := hQ.1
    have hins := aR.is (k := k) (t := ([], P)) (x := W.getD i 0) (by omega) (by simp) (by simp only; omega) (fun r hr => by have := hP.2 r hr; omega)
    have ha := (Pu.qP P (W.getD i 0)).1
    rw [h.same.1] at ha
    rw [bK.bM, Pu.drop_cons hlt 0]
    show _ = some (([], Pu.lC (W.drop (i + 1)) (Pu.bm P (W.getD i 0)).1), ([], Pu.nk (W.drop (i + 1)) (Pu.bm P (W.getD i 0)).1 (Pu.fY Q (Pu.bm P (W.getD i 0)).2 ((i + 1 : Nat) : Int)) (i + 1)))
    rw [← ih]
    simp only [aO, aH, aL, br, Int.toNat_natCast]
    refine Pu.tG hn (Pu.tG (Int.natCast_nonneg i) (Pu.tG hlt (Pu.tG hlt (Pu.bE hins ?_))))
    simp only
    have hq9 : ∀ r, (Q.getD r []).length ≤ 9 := fun r => hQ.at r
    generalize (Pu.bm P (W.getD i 0)).2 = a at *
    unfold Pu.fY
    by_cases c : a = Q.length
    · have hc : ((a : Nat) : Int) = (Q.length : Int) := by omega
      have hap : (Q ++ [[]]).length ≤ 1099511627776 := by rw [List.length_append, List.length_singleton]; omega
      have hF : ∀ r, ((Q ++ [[]]).getD r []).length ≤ 1000 := fun r => by
        by_cases hr : r < Q.length
        · simp only [List.getD_eq_getElem?_getD, List.getElem?_append_left hr]
          have := hq9 r
          simp only [List.getD_eq_getElem?_getD] at this
          omega
        · simp only [List.getD_eq_getElem?_getD, List.getElem?_append_right (Nat.le_of_not_lt hr)]
          cases r - Q.length <;> simp
      refine Pu.tG hc (Pu.tG hap ?_)
      simp only [aQ]
      rw [bK.add (by rw [List.length_append, List.length_singleton]; omega) hF (by omega), if_pos c]
      congr 1
      rw [c]
      simp
    · have hc : ¬ ((a : Nat) : Int) = (Q.length : Int) := by omega
      refine Pu.tX hc ?_
      rw [bK.add (by omega) (fun r => by have := hq9 r; omega) (by omega), if_neg c]
theorem bK.is {k : Nat} {W : List Int} (hk : 4194304 + 30 ≤ k) (h : Pu.isWord W = true) : bK k W = some (([], Pu.lC W []), ([], Pu.nk W [] [] 0)) := by
  obtain ⟨k, rfl⟩ : ∃ k', k = k' + 1 := ⟨k - 1, by omega⟩
  obtain ⟨h1, h2⟩ := Pu.eW h
  have hl := bK.loop (k := k) (x3 := []) (x4 := []) (x5 := []) (x6 := []) (by omega) h1 h2 W.length k 0 [] [] (by omega) (by omega) Pu.Ins.nil
  rw [Int.natCast_zero, List.drop_zero] at hl
  rw [bK.eq]
  exact hl
theorem dt.is {k : Nat} {w : List Int} (hk : 4194304 + 40 ≤ k) (hw : w.length ≤ 1048576) : dt k w = some (Pu.a8 w) := by
  obtain ⟨k, rfl⟩ : ∃ k', k = k' + 1 := ⟨k - 1, by omega⟩
  have h1 := cb.is (k := k) (w := w) (by omega) hw
  rw [dt.eq]
  unfold Pu.a8
  refine Pu.bE h1 ?_
  cases c : Pu.isWord w with
  | false => exact Pu.tM rfl
  | true => exact Pu.tN (Pu.bE (bK.is (by omega) c) rfl)
theorem dV.is {k : Nat} {w : List Int} (hk : 4194304 + 40 ≤ k) (hw : w.length ≤ 1048576) : dV k w = some (Pu.b7 w) := by
  obtain ⟨k, rfl⟩ : ∃ k', k = k' + 1 := ⟨k - 1, by omega⟩
  have h1 := cb.is (k := k) (w := w) (by omega) hw
  rw [dV.eq]
  unfold Pu.b7
  refine Pu.bE h1 ?_
  cases c : Pu.isWord w with
  | false => exact Pu.tM rfl
  | true => exact Pu.tN (Pu.bE (bK.is (by omega) c) rfl)
theorem ct.loop {k : Nat} {a b : List Int} (hl : a.length = b.length) (ha : a.length ≤ 1048576) : ∀ (m j i : Nat), i + m = a.length → m < j → ct.L0 k j i a b = some (decide (a.drop i = b.drop i))
  | m, 0, i, _, hj => by omega
  | 0, j + 1, i, hi, _ => by
    rw [ct.bM]
    have e : i = a.length := by omega
    subst e
    simp [hl]
  | m + 1, j + 1, i, hi, hj => by
    rw [ct.bM]
    have h1 : i < a.length := by omega
    have h2 : i < b.length := by omega
    have ih := ct.loop (k := k) hl ha m j (i + 1) (by omega) (by omega)
    rw [Int.natCast_succ] at ih
    rw [Pu.drop_cons h1 0, Pu.drop_cons h2 0]
    by_cases e : a.getD i 0 = b.getD i 0 <;> simp (disch := omega) only [ay, bC, bw, aT, aH, aL, aO, br, ar, aN, bz, bu, Pu.w64, Int.toNat_natCast, decide_eq_true_eq, Int.ofNat_lt, h1, h2, if_true, Int.natCast_nonneg, decide_true, ih, e, List.cons.injEq, true_and, false_and, decide_false, Bool.not_true, Bool.not_false, if_false, Bool.false_eq_true]
theorem ct.is {k : Nat} {a b : List Int} (hk : 4194304 + 1 ≤ k) (ha : a.length ≤ 1048576) : ct k a b = some (decide (a = b)) := by
  obtain ⟨k, rfl⟩ : ∃ k', k = k' + 1 := ⟨k - 1, by omega⟩
  rw [ct.eq]
  by_cases hl : a.length = b.length
  · have h := ct.loop (k := k) hl ha a.length k 0 (by omega) (by omega)
    rw [Int.natCast_zero] at h
    simp only [List.drop_zero] at h
    have hl' : (a.length : Int) = b.length := by omega
    simp only [ay, bz, bu, aL, aH, hl', decide_true, Bool.not_true, Bool.false_eq_true, if_false, h]
  · have hne : a ≠ b := fun e => hl (by rw [e])
    have hl' : ¬ (a.length : Int) = b.length := by omega
    simp [hl', hne]
theorem ba.loop {k : Nat} {p q : List Int} {a b : List (List Int)} (hk : 4194304 + 1 ≤ k) (hl : a.length = b.length) (ha : a.length ≤ 1048576) (hr : ∀ x ∈ a, x.length ≤ 1048576) : ∀ (m j i : Nat), i + m = a.length → m < j → ba.L1 k j i p a q b = some (decide (a.drop i = b.drop i))
  | m, 0, i, _, hj => by omega
  | 0, j + 1, i, hi, _ => by
    rw [ba.fe]
    have e : i = a.length := by omega
    subst e
    simp [hl]
  | m + 1, j + 1, i, hi, hj => by
    rw [ba.fe]
    have h1 : i < a.length := by omega
    have h2 : i < b.length := by omega
    have ih := ba.loop (k := k) (p := p) (q := q) hk hl ha hr m j (i + 1) (by omega) (by omega)
    rw [Int.natCast_succ] at ih
    have hx : (a.getD i []).length ≤ 1048576 := by rw [Pu.bc h1 []]; exact hr _ (List.getElem_mem h1)
    have hs := ct.is (k := k) (b := b.getD i []) hk hx
    rw [Pu.drop_cons h1 [], Pu.drop_cons h2 []]
    by_cases e : a.getD i [] = b.getD i []
    · rw [e] at hs
      simp (disch := omega) only [↓ay, bC, bw, aT, a6, aX, aH, aL, aO, br, aS, aQ, az, aw, aY, ar, aN, aW, bz, bu, aZ, a7, ae, Pu.w64, Int.toNat_natCast, decide_eq_true_eq, Int.ofNat_lt, Int.ofNat_le, if_true, if_false, Int.natCast_nonneg, decide_true, decide_false, Bool.not_true, Bool.not_false, Bool.false_eq_true, Bool.not_eq_true, Bool.true_and, Bool.and_true, Bool.false_and, Bool.and_false, h1, h2, hs, ih, e, List.cons.injEq, true_and, false_and, eq_self]
    · simp (disch := omega) only [↓ay, bC, bw, aT, a6, aX, aH, aL, aO, br, aS, aQ, az, aw, aY, ar, aN, aW, bz, bu, aZ, a7, ae, Pu.w64, Int.toNat_natCast, decide_eq_true_eq, Int.ofNat_lt, Int.ofNat_le, if_true, if_false, Int.natCast_nonneg, decide_true, decide_false, Bool.not_true, Bool.not_false, Bool.false_eq_true, Bool.not_eq_true, Bool.true_and, Bool.and_true, Bool.false_and, Bool.and_false, h1, h2, hs, ih, e, List.cons.injEq, true_and, false_and]
theorem ba.is {k : Nat} {a b : List Int × List (List Int)} (hk : 4194304 + 2 ≤ k) (h1 : a.1.length ≤ 1048576) (ha : a.2.length ≤ 1048576) (hr : ∀ x ∈ a.2, x.length ≤ 1048576) : ba k a b = some (decide (a = b)) := by
  obtain ⟨k, rfl⟩ : ∃ k', k = k' + 1 := ⟨k - 1, by omega⟩
  obtain ⟨a1, a2⟩ := a
  obtain ⟨b1, b2⟩ := b
  have hs := ct.is (k := k) (a := a1) (b := b1) (by omega) h1
  rw [ba.eq, hs, ae, ba.g9]
  by_cases e1 : a1 = b1
  · subst e1
    by_cases hl : a2.length = b2.length
    · have h := ba.loop (k := k) (p := a1) (q := a1) (a := a2) (b := b2) (by omega) hl ha hr a2.length k 0 (by omega) (by simp only at ha; omega)
      rw [Int.natCast_zero] at h
      simp only [List.drop_zero] at h
      have hl' : (a2.length : Int) = b2.length := by omega
      simp only [↓ay, bC, bw, aT, a6, aX, aH, aL, aO, br, aS, aQ, az, aw, aY, ar, aN, aW, bz, bu, aZ, a7, ae, Pu.w64, Int.toNat_natCast, decide_eq_true_eq, Int.ofNat_lt, Int.ofNat_le, if_true, if_false, Int.natCast_nonneg, decide_true, decide_false, Bool.not_true, Bool.not_false, Bool.false_eq_true, Bool.not_eq_true, Bool.true_and, Bool.and_true, Bool.false_and, Bool.and_false, hl', h, Prod.mk.injEq, true_and, eq_self]
    · have hne : a2 ≠ b2 := fun e => hl (by rw [e])
      have hl' : ¬ (a2.length : Int) = b2.length := by omega
      simp [hl', hne]
  · simp [e1]
theorem dN.is {k : Nat} {w : List Int} (hk : 4194304 + 50 ≤ k) (hw : w.length ≤ 1048576) : dN k w = some (Pu.fx w) := by
  obtain ⟨k, rfl⟩ : ∃ k', k = k' + 1 := ⟨k - 1, by omega⟩
  have h1 := cO.is (k := k) (w := w) (by omega) hw
  have ho := Pu.iX (w := w)
  have hl := Pu.jt (w := w)
  rw [dN.eq]
  refine Pu.bE h1 ?_
  unfold Pu.fx at hl ⊢
  cases c : Pu.isWord w with
  | false =>
    have e : (Pu.a8 w).2 = false := by unfold Pu.a8; rw [c]; rfl
    rw [e]
    exact Pu.tM rfl
  | true =>
    have e : (Pu.a8 w).2 = true := by unfold Pu.a8; rw [c]; rfl
    rw [e, if_pos rfl]
    rw [c, if_pos rfl] at hl
    have hp := Pu.fp c
    have hp' := hp
    simp only [Pu.bZ, Bool.and_eq_true] at hp'
    have hs := bW.is (k := k) (t := (Pu.a8 w).1) (by omega) ho.1 ho.2.1 ho.2.2
    have hso : Pu.shapeOf (Pu.a8 w).1 = ((Pu.outer (Pu.a8 w).1, (Pu.a8 w).1.1), true) := by unfold Pu.shapeOf; rw [if_pos (Pu.jI hp'.1)]
    rw [hso] at hs
    exact Pu.tN (Pu.bE hs rfl)
theorem dO.is {k : Nat} {w : List Int} (hk : 4194304 + 50 ≤ k) (hw : w.length ≤ 1048576) : dO k w = some (Pu.fx w) := by
  obtain ⟨k, rfl⟩ : ∃ k', k = k' + 1 := ⟨k - 1, by omega⟩
  have h1 := dt.is (k := k) (w := w) (by omega) hw
  have ho := Pu.iX (w := w)
  have hl := Pu.jt (w := w)
  rw [dO.eq]
  refine Pu.bE h1 ?_
  unfold Pu.fx at hl ⊢
  cases c : Pu.isWord w with
  | false =>
    have e : (Pu.a8 w).2 = false := by unfold Pu.a8; rw [c]; rfl
    rw [e]
    exact Pu.tM rfl
  | true =>
    have e : (Pu.a8 w).2 = true := by unfold Pu.a8; rw [c]; rfl
    rw [e, if_pos rfl]
    rw [c, if_pos rfl] at hl
    have hp := Pu.fp c
    have hp' := hp
    simp only [Pu.bZ, Bool.and_eq_true] at hp'
    have hs := bV.is (k := k) (t := (Pu.a8 w).1) (by omega) ho.1 ho.2.1 ho.2.2
    have hso : Pu.shapeOf (Pu.a8 w).1 = ((Pu.outer (Pu.a8 w).1, (Pu.a8 w).1.1), true) := by unfold Pu.shapeOf; rw [if_pos (Pu.jI hp'.1)]
    rw [hso] at hs
    have hap : ([] ++ Pu.outer (Pu.a8 w).1).length ≤ 1099511627776 := by rw [List.nil_append]; omega
    exact Pu.tN (Pu.bE hs (Pu.tG hap rfl))
theorem cj.loop {k : Nat} {a b : List Int} (hl : a.length = b.length) (ha : a.length ≤ 1048576) : ∀ (m j i : Nat), i + m = a.length → m < j → cj.L0 k j i a b = some (decide (a.drop i = b.drop i))
  | m, 0, i, _, hj => by omega
  | 0, j + 1, i, hi, _ => by
    rw [cj.bM]
    have e : i = a.length := by omega
    subst e
    simp [hl]
  | m + 1, j + 1, i, hi, hj => by
    rw [cj.bM]
    have h1 : i < a.length := by omega
    have h2 : i < b.length := by omega
    have ih := cj.loop (k := k) hl ha m j (i + 1) (by omega) (by omega)
    rw [Int.natCast_succ] at ih
    rw [Pu.drop_cons h1 0, Pu.drop_cons h2 0]
    by_cases e : a.getD i 0 = b.getD i 0 <;> simp (disch := omega) only [ay, bC, bw, aT, aH, aL, aO, br, ar, aN, bz, bu, Pu.w64, Int.toNat_natCast, decide_eq_true_eq, Int.ofNat_lt, h1, h2, if_true, Int.natCast_nonneg, decide_true, ih, e, List.cons.injEq, true_and, false_and, decide_false, Bool.not_true, Bool.not_false, if_false, Bool.false_eq_true]
theorem cj.is {k : Nat} {a b : List Int} (hk : 4194304 + 1 ≤ k) (ha : a.length ≤ 1048576) : cj k a b = some (decide (a = b)) := by
  obtain ⟨k, rfl⟩ : ∃ k', k = k' + 1 := ⟨k - 1, by omega⟩
  rw [cj.eq]
  by_cases hl : a.length = b.length
  · have h := cj.loop (k := k) hl ha a.length k 0 (by omega) (by omega)
    rw [Int.natCast_zero] at h
    simp only [List.drop_zero] at h
    have hl' : (a.length : Int) = b.length := by omega
    simp only [ay, bz, bu, aL, aH, hl', decide_true, Bool.not_true, Bool.false_eq_true, if_false, h]
  · have hne : a ≠ b := fun e => hl (by rw [e])
    have hl' : ¬ (a.length : Int) = b.length := by omega
    simp [hl', hne]
theorem bF.is {k : Nat} {r : List Int} {x : Int} (hk : 4194304 + 1 ≤ k) (hr : r.length ≤ 1048577) : bF k r x = some (Pu.sN (fun y => decide (x = y)) r) := by
  obtain ⟨k, rfl⟩ : ∃ k', k = k' + 1 := ⟨k - 1, by omega⟩
  rw [bF.eq]
  have h := Pu.oj r 0 (fun y => decide (x = y)) (fun j i => bF.L0 k j x r.length i r) (fun i => some (i : Int)) (some (-1))
    (fun j i hi => by
      rw [bF.bM]
      by_cases c : x = r.getD i 0
      · simp (disch := omega) only [↓ay, bC, bw, aT, a6, aX, aH, aL, aO, br, aS, aQ, az, aw, aY, ar, aN, aW, bz, bu, aZ, a7, ae, Pu.w64, Int.toNat_natCast, decide_eq_true_eq, Int.ofNat_lt, Int.ofNat_le, if_true, if_false, Int.natCast_nonneg, decide_true, decide_false, Bool.not_true, Bool.not_false, Bool.false_eq_true, Bool.not_eq_true, Bool.true_and, Bool.and_true, Bool.false_and, Bool.and_false, hi, ← c]
      · simp (disch := omega) only [↓ay, bC, bw, aT, a6, aX, aH, aL, aO, br, aS, aQ, az, aw, aY, ar, aN, aW, bz, bu, aZ, a7, ae, Pu.w64, Int.toNat_natCast, decide_eq_true_eq, Int.ofNat_lt, Int.ofNat_le, if_true, if_false, Int.natCast_nonneg, decide_true, decide_false, Bool.not_true, Bool.not_false, Bool.false_eq_true, Bool.not_eq_true, Bool.true_and, Bool.and_true, Bool.false_and, Bool.and_false, hi, c, Int.natCast_add, Int.natCast_one])
    (fun j => by
      rw [bF.bM]
      simp only [↓ay, bC, bw, aT, a6, aX, aH, aL, aO, br, aS, aQ, az, aw, aY, ar, aN, aW, bz, bu, aZ, a7, ae, Pu.w64, Int.toNat_natCast, decide_eq_true_eq, Int.ofNat_lt, Int.ofNat_le, if_true, if_false, Int.natCast_nonneg, decide_true, decide_false, Bool.not_true, Bool.not_false, Bool.false_eq_true, Bool.not_eq_true, Bool.true_and, Bool.and_true, Bool.false_and, Bool.and_false, Nat.lt_irrefl]) r.length k 0 (by omega) (by omega) (by omega)
  simp only [Int.natCast_zero] at h
  simp only [aL, aH]
  rw [h]
  unfold Pu.sN
  split <;> rfl
theorem cd.is {k : Nat} {r : List Int} {x : Int} (hk : 4194304 + 2 ≤ k) (hr : r.length ≤ 1048577) : cd k r x = some (Pu.has r x) := by
  obtain ⟨k, rfl⟩ : ∃ k', k = k' + 1 := ⟨k - 1, by omega⟩
  rw [cd.eq, bF.is (by omega) hr, ae, bw, Pu.uW]
  rfl
theorem cN.is {k : Nat} {l : List Int} (hk : 4194304 + 3 ≤ k) (hl : l.length ≤ 1048576) : cN k l = some (Pu.jF l) := by
  obtain ⟨k, rfl⟩ : ∃ k', k = k' + 1 := ⟨k - 1, by omega⟩
  rw [cN.eq]
  have h := Pu.jl (fun j i => cN.L0 k j ((i : Int) + 1) l) l.length (fun i => Pu.has l ((i : Int) + 1)) (some false) (some true)
    (fun j i hi => by
      rw [cN.bM, cd.is (by omega) (by omega)]
      have c : (i : Int) + 1 ≤ l.length := by omega
      cases hh : Pu.has l ((i : Int) + 1) <;> simp (disch := omega) only [↓ay, bC, bw, aT, a6, aX, aH, aL, aO, br, aS, aQ, az, aw, aY, ar, aN, aW, bz, bu, aZ, a7, ae, Pu.w64, Int.toNat_natCast, decide_eq_true_eq, Int.ofNat_lt, Int.ofNat_le, if_true, if_false, Int.natCast_nonneg, decide_true, decide_false, Bool.not_true, Bool.not_false, Bool.false_eq_true, Bool.not_eq_true, Bool.true_and, Bool.and_true, Bool.false_and, Bool.and_false, c, hh, Int.natCast_add, Int.natCast_one])
    (fun j => by
      rw [cN.bM]
      have c : ¬ (l.length : Int) + 1 ≤ l.length := by omega
      simp only [↓ay, bC, bw, aT, a6, aX, aH, aL, aO, br, aS, aQ, az, aw, aY, ar, aN, aW, bz, bu, aZ, a7, ae, Pu.w64, Int.toNat_natCast, decide_eq_true_eq, Int.ofNat_lt, Int.ofNat_le, if_true, if_false, Int.natCast_nonneg, decide_true, decide_false, Bool.not_true, Bool.not_false, Bool.false_eq_true, Bool.not_eq_true, Bool.true_and, Bool.and_true, Bool.false_and, Bool.and_false, c]) l.length k 0 (by omega) (by omega)
  simp only [Int.natCast_zero, Int.zero_add] at h
  rw [h]
  unfold Pu.jF
  cases (List.range' 0 l.length).all fun i => Pu.has l ((i : Int) + 1) <;> simp
theorem cP.is {k : Nat} {t : Pu.Tab} (hk : 4194304 + 7 ≤ k) (h1 : t.1.length ≤ 1048576) (ht : t.2.length ≤ 1048576) (hr : ∀ x ∈ t.2, x.length ≤ 1048576) : cP k t = some (Pu.fg t) := by
  obtain ⟨k, rfl⟩ : ∃ k', k = k' + 1 := ⟨k - 1, by omega⟩
  rw [cP.eq, aE.is (by omega) h1 ht hr, ae]
  unfold Pu.fg
  cases hi : Pu.fV t with
  | false => simp
  | true =>
    have h9 := Pu.uH hi
    simp only [↓ay, bC, bw, aT, a6, aX, aH, aL, aO, br, aS, aQ, az, aw, aY, ar, aN, aW, bz, bu, aZ, a7, ae, Pu.w64, Int.toNat_natCast, decide_eq_true_eq, Int.ofNat_lt, Int.ofNat_le, if_true, if_false, Int.natCast_nonneg, decide_true, decide_false, Bool.not_true, Bool.not_false, Bool.false_eq_true, Bool.not_eq_true, Bool.true_and, Bool.and_true, Bool.false_and, Bool.and_false]
    rw [ah.is (by omega) ht (by omega), ae, cN.is (by omega) (by omega)]
    rfl
theorem cV.is {k : Nat} {n : Int} {r : List Int} (hk : 4194304 + 3 ≤ k) (hr : r.length ≤ 1048577) : cV k n r = some (Pu.has r n, n) := by
  obtain ⟨k, rfl⟩ : ∃ k', k = k' + 1 := ⟨k - 1, by omega⟩
  rw [cV.eq, cd.is (by omega) hr]
  rfl
theorem ao.is {k : Nat} {r : List (List Int)} {n : Int} (hk : 4194304 + 4 ≤ k) (hl : r.length ≤ 1048577) (hr : ∀ x ∈ r, x.length ≤ 1048577) : ao k n r = some (Pu.sN (fun x => Pu.has x n) r, n) := by
  obtain ⟨k, rfl⟩ : ∃ k', k = k' + 1 := ⟨k - 1, by omega⟩
  rw [ao.eq]
  have h := Pu.oj r [] (fun x => Pu.has x n) (fun j i => ao.L0 k j r.length i r n) (fun i => some ((i : Int), n)) (some (-1, n))
    (fun j i hi => by
      have hx := hr _ (List.getElem_mem hi)
      rw [← Pu.bc hi []] at hx
      rw [ao.bM]
      have e1 := cV.is (k := k) (n := n) (by omega) hx
      cases c : Pu.has (r.getD i []) n <;> simp (disch := omega) only [↓ay, bC, bw, aT, a6, aX, aH, aL, aO, br, aS, aQ, az, aw, aY, ar, aN, aW, bz, bu, aZ, a7, ae, Pu.w64, Int.toNat_natCast, decide_eq_true_eq, Int.ofNat_lt, Int.ofNat_le, if_true, if_false, Int.natCast_nonneg, decide_true, decide_false, Bool.not_true, Bool.not_false, Bool.false_eq_true, Bool.not_eq_true, Bool.true_and, Bool.and_true, Bool.false_and, Bool.and_false, hi, e1, c, Int.natCast_add, Int.natCast_one])
    (fun j => by
      rw [ao.bM]
      simp only [↓ay, bC, bw, aT, a6, aX, aH, aL, aO, br, aS, aQ, az, aw, aY, ar, aN, aW, bz, bu, aZ, a7, ae, Pu.w64, Int.toNat_natCast, decide_eq_true_eq, Int.ofNat_lt, Int.ofNat_le, if_true, if_false, Int.natCast_nonneg, decide_true, decide_false, Bool.not_true, Bool.not_false, Bool.false_eq_true, Bool.not_eq_true, Bool.true_and, Bool.and_true, Bool.false_and, Bool.and_false, Nat.lt_irrefl]) r.length k 0 (by omega) (by omega) (by omega)
  simp only [Int.natCast_zero] at h
  simp only [aL, aH]
  rw [h]
  unfold Pu.sN
  split <;> rfl
theorem dq.is {k : Nat} {t : Pu.Tab} {n : Int} (hk : 4194304 + 8 ≤ k) (h1 : t.1.length ≤ 1048576) (ht : t.2.length ≤ 1048576) (hr : ∀ x ∈ t.2, x.length ≤ 1048576) : dq k t n = some (if Pu.fg t = true then Pu.rowOf t n else -1) := by
  obtain ⟨k, rfl⟩ : ∃ k', k = k' + 1 := ⟨k - 1, by omega⟩
  rw [dq.eq, cP.is (by omega) h1 ht hr, ae, ao.is (by omega) (by omega) (fun x hx => by have := hr x hx; omega)]
  cases Pu.fg t <;> simp [Pu.rowOf]
theorem bp.loop {k : Nat} {t : Pu.Tab} (hk : 4194304 + 8 ≤ k) (h1 : t.1.length ≤ 1048576) (ht : t.2.length ≤ 1048576) (hr : ∀ x ∈ t.2, x.length ≤ 1048576) (hs : Pu.fg t = true) (h9 : t.2.flatten.length ≤ 9) : ∀ (m j i : Nat) (acc : List Int), i + m = t.2.flatten.length → m < j → 1 ≤ i → acc.length ≤ i →
    bp.L0 k j i acc t.1 t.2 = some (acc ++ Pu.lO t m i)
  | m, 0, i, acc, _, hj, _, _ => by omega
  | 0, j + 1, i, acc, hm, _, _, _ => by
    rw [bp.bM, ah.is (by omega) ht (by omega)]
    have e : i = t.2.flatten.length := by omega
    rw [e]
    simp [Pu.lO]
  | m + 1, j + 1, i, acc, hm, hj, hi, ha => by
    rw [bp.bM, ah.is (by omega) ht (by omega)]
    have hlt : i < t.2.flatten.length := by omega
    have e1 := dq.is (k := k) (t := t) (n := (i : Int) + 1) hk h1 ht hr
    have e2 := dq.is (k := k) (t := t) (n := (i : Int)) hk h1 ht hr
    simp only [hs, if_true] at e1 e2
    simp (disch := omega) only [↓ay, bC, bw, aT, a6, aX, aH, aL, aO, br, aS, aQ, az, aw, aY, ar, aN, aW, bz, bu, aZ, a7, ae, Pu.w64, Int.toNat_natCast, decide_eq_true_eq, Int.ofNat_lt, Int.ofNat_le, if_true, if_false, Int.natCast_nonneg, decide_true, decide_false, Bool.not_true, Bool.not_false, Bool.false_eq_true, Bool.not_eq_true, Bool.true_and, Bool.and_true, Bool.false_and, Bool.and_false, hlt, e1, e2, Pu.lO, Prod.eta]
    by_cases c : Pu.rowOf t i < Pu.rowOf t ((i : Int) + 1)
    · have ih := bp.loop hk h1 ht hr hs h9 m j (i + 1) (acc ++ [(i : Int)]) (by omega) (by omega) (by omega) (by simp; omega)
      rw [Int.natCast_succ] at ih
      have hl : (acc ++ [(i : Int)]).length ≤ 1099511627776 := by simp; omega
      simp (disch := omega) only [↓ay, bC, bw, aT, a6, aX, aH, aL, aO, br, aS, aQ, az, aw, aY, ar, aN, aW, bz, bu, aZ, a7, ae, Pu.w64, Int.toNat_natCast, decide_eq_true_eq, Int.ofNat_lt, Int.ofNat_le, if_true, if_false, Int.natCast_nonneg, decide_true, decide_false, Bool.not_true, Bool.not_false, Bool.false_eq_true, Bool.not_eq_true, Bool.true_and, Bool.and_true, Bool.false_and, Bool.and_false, c, hl, bp.fM, ih, List.append_assoc, List.singleton_append]
    · have ih := bp.loop hk h1 ht hr hs h9 m j (i + 1) acc (by omega) (by omega) (by omega) (by omega)
      rw [Int.natCast_succ] at ih
      simp (disch := omega) only [↓ay, bC, bw, aT, a6, aX, aH, aL, aO, br, aS, aQ, az, aw, aY, ar, aN, aW, bz, bu, aZ, a7, ae, Pu.w64, Int.toNat_natCast, decide_eq_true_eq, Int.ofNat_lt, Int.ofNat_le, if_true, if_false, Int.natCast_nonneg, decide_true, decide_false, Bool.not_true, Bool.not_false, Bool.false_eq_true, Bool.not_eq_true, Bool.true_and, Bool.and_true, Bool.false_and, Bool.and_false, c, bp.fM, ih]
theorem bp.is {k : Nat} {t : Pu.Tab} (hk : 4194304 + 9 ≤ k) (h1 : t.1.length ≤ 1048576) (ht : t.2.length ≤ 1048576) (hr : ∀ x ∈ t.2, x.length ≤ 1048576) : bp k t = some (Pu.oR t) := by
  obtain ⟨k, rfl⟩ : ∃ k', k = k' + 1 := ⟨k - 1, by omega⟩
  rw [bp.eq, cP.is (by omega) h1 ht hr, ae]
  unfold Pu.oR
  cases hs : Pu.fg t with
  | false => simp
  | true =>
    have hi : Pu.fV t = true := by
      simp only [Pu.fg, Bool.and_eq_true] at hs; exact hs.1
    have h9 := Pu.uH hi
    simp only [↓ay, bC, bw, aT, a6, aX, aH, aL, aO, br, aS, aQ, az, aw, aY, ar, aN, aW, bz, bu, aZ, a7, ae, Pu.w64, Int.toNat_natCast, decide_eq_true_eq, Int.ofNat_lt, Int.ofNat_le, if_true, if_false, Int.natCast_nonneg, decide_true, decide_false, Bool.not_true, Bool.not_false, Bool.false_eq_true, Bool.not_eq_true, Bool.true_and, Bool.and_true, Bool.false_and, Bool.and_false]
    by_cases h0 : t.2.flatten.length = 0
    · obtain ⟨k, rfl⟩ : ∃ k', k = k' + 1 := ⟨k - 1, by omega⟩
      rw [bp.bM, ah.is (by omega) ht (by omega), ae, h0]
      simp [h0, Pu.lO]
    · have h := bp.loop (k := k) (t := t) (by omega) h1 ht hr hs h9 (t.2.flatten.length - 1) k 1 [] (by omega) (by omega) (by omega) (by simp)
      rw [Int.natCast_one] at h
      rw [h]
      rfl
theorem bS.loop {k : Nat} {rs : List (List Int)} (h9 : Pu.dK 1048576 1048576 rs) : ∀ (m j : Nat) (w : List Int), m ≤ rs.length → m < j → w.length + Pu.kW (rs.take m) ≤ 1099511627776 → bS.L0 k j ((m : Int) - 1) rs w = some (w ++ (rs.take m).reverse.flatten)
  | m, 0, w, _, hj, _ => by omega
  | 0, j + 1, w, _, _, _ => by
    rw [bS.bM]
    have hn : ¬ (0 : Int) ≤ ((0 : Nat) : Int) - 1 := by omega
    simp only [↓ay, bC, bw, aT, a6, aX, aH, aL, aO, br, aS, aQ, az, aw, aY, ar, aN, aW, bz, bu, aZ, a7, ae, Pu.w64, Int.toNat_natCast, decide_eq_true_eq, Int.ofNat_lt, Int.ofNat_le, if_true, if_false, Int.natCast_nonneg, decide_true, decide_false, Bool.not_true, Bool.not_false, Bool.false_eq_true, Bool.not_eq_true, Bool.true_and, Bool.and_true, Bool.false_and, Bool.and_false, hn]
    simp
  | m + 1, j + 1, w, hm, hj, hs => by
    rw [bS.bM]
    have e : (((m + 1 : Nat) : Int) - 1) = (m : Int) := by omega
    have hlt : m < rs.length := by omega
    have ht := Pu.take_succ hlt []
    have hsz : ∀ (a b : List (List Int)), Pu.kW (a ++ b) = Pu.kW a + Pu.kW b := by
      intro a b
      induction a with
      | nil => simp [Pu.kW]
      | cons x a ih => simp only [List.cons_append, Pu.kW, ih]; omega
    rw [ht, hsz] at hs
    simp only [Pu.kW] at hs
    have hl : (w ++ rs.getD m []).length ≤ 1099511627776 := by rw [List.length_append]; omega
    have h0 : (0 : Int) ≤ (m : Int) := by omega
    have ih := bS.loop (k := k) h9 m j (w ++ rs.getD m []) (by omega) (by omega) (by rw [List.length_append]; omega)
    have hb := h9.1
    rw [e]
    simp (disch := omega) only [↓ay, bC, bw, aT, a6, aX, aH, aL, aO, br, aS, aQ, az, aw, aY, ar, aN, aW, bz, bu, aZ, a7, ae, Pu.w64, Int.toNat_natCast, decide_eq_true_eq, Int.ofNat_lt, Int.ofNat_le, if_true, if_false, Int.natCast_nonneg, decide_true, decide_false, Bool.not_true, Bool.not_false, Bool.false_eq_true, Bool.not_eq_true, Bool.true_and, Bool.and_true, Bool.false_and, Bool.and_false, h0, hlt, hl, ih]
    rw [ht, List.reverse_append, List.flatten_append]
    simp
theorem bS.is {k : Nat} {t : Pu.Tab} (hk : 4194304 + 10 ≤ k) (h1 : t.1.length ≤ 1048576) (ht : t.2.length ≤ 1048576) (hr : ∀ x ∈ t.2, x.length ≤ 1048576) : bS k t = some (if Pu.fV t = true then t.2.reverse.flatten else []) := by
  obtain ⟨k, rfl⟩ : ∃ k', k = k' + 1 := ⟨k - 1, by omega⟩
  rw [bS.eq, show ((t.1, t.2) : Pu.Tab) = t from rfl, aE.is (by omega) h1 ht hr, ae]
  cases hb : Pu.fV t with
  | false => simp
  | true =>
    have hs := Pu.xL ht hr
    have hl := bS.loop (k := k) (rs := t.2) ⟨ht, hr⟩ t.2.length k [] (Nat.le_refl _) (by omega) (by rw [List.take_length]; simpa using hs)
    rw [List.take_length] at hl
    simp (disch := omega) only [↓ay, bC, bw, aT, a6, aX, aH, aL, aO, br, aS, aQ, az, aw, aY, ar, aN, aW, bz, bu, aZ, a7, ae, Pu.w64, Int.toNat_natCast, decide_eq_true_eq, Int.ofNat_lt, Int.ofNat_le, if_true, if_false, Int.natCast_nonneg, decide_true, decide_false, Bool.not_true, Bool.not_false, Bool.false_eq_true, Bool.not_eq_true, Bool.true_and, Bool.and_true, Bool.false_and, Bool.and_false, hl, List.nil_append]
theorem au.fin {k j n i : Nat} {w l : List Int} (hk : 4194304 + 60 ≤ k) (h : Pu.isWord w = true) (hi : w.length ≤ i) (hn : n = l.length) : au.L2 k (j + 1) n i w l (Pu.a8 w).1.1 (Pu.a8 w).1.2 (Pu.b7 w).1.1 (Pu.b7 w).1.2 = some true := by
  rw [au.vO]
  have hni : ¬ (i : Int) < w.length := by omega
  have hp := Pu.fp h
  have ho := Pu.iX (w := w)
  have hp' := hp
  simp only [Pu.bZ, Bool.and_eq_true] at hp'
  obtain ⟨q1, q2, _⟩ := Pu.j5 h
  have hq := Pu.nz (w := w)
  have hrw := bS.is (k := k) (t := (Pu.a8 w).1) (by omega) ho.1 ho.2.1 ho.2.2
  rw [if_pos hp'.1] at hrw
  have hlen : (Pu.a8 w).1.2.reverse.flatten.length ≤ 9 := by
    have e : (Pu.a8 w).1.2.reverse.flatten.length = (Pu.a8 w).1.2.flatten.length := by simp [List.length_flatten, List.map_reverse, List.sum_reverse]
    rw [e]; exact Pu.jM hp
  have hiw := cO.is (k := k) (w := (Pu.a8 w).1.2.reverse.flatten) (by omega) (by omega)
  rw [Pu.xT h] at hiw
  have hit := aE.is (k := k) (t := (Pu.a8 w).1) (by omega) ho.1 ho.2.1 ho.2.2
  rw [hp'.1] at hit
  have his := cP.is (k := k) (t := (Pu.b7 w).1) (by omega) hq.1 hq.2.1 hq.2.2
  rw [q2] at his
  have he := ba.is (k := k) (a := (Pu.a8 w).1) (b := (Pu.a8 w).1) (by omega) ho.1 ho.2.1 ho.2.2
  rw [decide_eq_true rfl] at he
  have h2 : (Pu.a8 w).2 = true := by unfold Pu.a8; rw [if_pos h]
  have hnl : (n : Int) = (l.length : Int) := by omega
  refine Pu.tX hni (Pu.bE hrw (Pu.bE hiw (Pu.tG hnl (Pu.bE hit (Pu.tY (Pu.bE his (Pu.tY ?_)))))))
  rw [h2]
  exact Pu.tY (Pu.bE he rfl)
theorem au.loop {k : Nat} {w l : List Int} (hk : 4194304 + 60 ≤ k) (h : Pu.isWord w = true) : ∀ (m j i n : Nat), i + m = w.length → 1 ≤ i → m < j → l.drop n = Pu.qx w m i → n ≤ l.length → n ≤ i →
    au.L2 k j n i w l (Pu.a8 w).1.1 (Pu.a8 w).1.2 (Pu.b7 w).1.1 (Pu.b7 w).1.2 = some true
  | m, 0, i, n, _, _, hj, _, _, _ => by omega
  | 0, j + 1, i, n, hi, _, _, hd, hn, _ => by
    have hl : l.length ≤ n := by
      have := congrArg List.length hd
      rw [List.length_drop] at this
      simp only [Pu.qx, List.length_nil] at this
      omega
    exact au.fin hk h (by omega) (by omega)
  | m + 1, j + 1, i, n, hi, h1, hj, hd, hn, hni => by
    have hlt : i < w.length := by omega
    have hlt1 : i - 1 < w.length := by omega
    have hc : (i : Int) < w.length := by omega
    have h9 := (Pu.eW h).1
    have hw1 : IntKind.i64.wrap ((i : Int) - 1) = ((i - 1 : Nat) : Int) := by rw [Pu.w64 (by omega) (by omega)]; omega
    have hw2 : IntKind.i64.wrap ((i : Int) + 1) = ((i + 1 : Nat) : Int) := by rw [Pu.w64 (by omega) (by omega)]; omega
    have hw3 : IntKind.i64.wrap ((n : Int) + 1) = ((n + 1 : Nat) : Int) := by rw [Pu.w64 (by omega) (by omega)]; omega
    rw [au.vO]
    simp only [aO, aH, aL, br, aW, ar, Int.toNat_natCast, hw1]
    refine Pu.tG hc (Pu.tG (Int.natCast_nonneg _) (Pu.tG hlt1 (Pu.tG hlt1 (Pu.tG (Int.natCast_nonneg i) (Pu.tG hlt (Pu.tG hlt ?_))))))
    unfold Pu.qx at hd
    by_cases c : w.getD i 0 < w.getD (i - 1) 0
    · rw [if_pos c] at hd
      have hnl : n < l.length := by
        refine Nat.lt_of_not_le fun hle => ?_
        rw [List.drop_of_length_le hle] at hd
        cases hd
      rw [Pu.drop_cons hnl 0, List.cons.injEq] at hd
      obtain ⟨d1, d2⟩ := hd
      have hnn : ¬ (l.length : Int) ≤ n := by omega
      have ih := au.loop hk h m j (i + 1) (n + 1) (by omega) (by omega) (by omega) d2 (by omega) (by omega)
      refine Pu.tG c (Pu.tX hnn (Pu.tG (Int.natCast_nonneg n) (Pu.tG hnl (Pu.tG hnl (Pu.tE d1 ?_)))))
      rw [au.oi, au.zT]
      simp only [aN, ar, hw2, hw3]
      exact ih
    · rw [if_neg c] at hd
      have ih := au.loop hk h m j (i + 1) n (by omega) (by omega) (by omega) hd hn (by omega)
      refine Pu.tX c ?_
      rw [au.zT]
      simp only [aN, ar, hw2]
      exact ih
theorem au.at {k : Nat} {p : List Int} (hk : 4194304 + 70 ≤ k) : au (k + 1) p = some true := by
  rw [au.eq]
  refine Pu.bE (j1.is (by omega)) ?_
  by_cases c : (1048576 : Int) < p.length
  · rw [decide_eq_true c]; exact Pu.tY rfl
  · rw [decide_eq_false c]
    have hp : p.length ≤ 1048576 := by omega
    obtain ⟨⟨t, x⟩, e1, ht⟩ := an.ok (k := k) (b := p) (by omega) hp
    obtain ⟨w, e2, hw⟩ := aJ.ok (k := k) (b := p) (by omega) hp
    have ht : mz 10 9 10 t := ht
    obtain ⟨c1, c2, c3⟩ := ht.tab (by omega) (by omega) (by omega)
    have e3 := cq.is (k := k) (t := t) (x := x) (by omega) c1 c2 c3
    have e4 := cp.is (k := k) (t := t) (x := x) (by omega) c1 c2 c3
    have hg := Pu.qE (t := t) ⟨c1, c2, c3⟩ x
    have e5 := cO.is (k := k) (w := w) (by omega) (by omega)
    have e6 := dX.is (k := k) (w := w) (by omega) (by omega)
    have e7 := dt.is (k := k) (w := w) (by omega) (by omega)
    have e8 := dV.is (k := k) (w := w) (by omega) (by omega)
    have h9 := ba.is (k := k) (a := (Pu.cG t x).1) (b := (Pu.cG t x).1) (by omega) hg.1 hg.2.1 hg.2.2
    have hi := Pu.iX (w := w)
    have hr := Pu.nz (w := w)
    have h10 := ba.is (k := k) (a := (Pu.a8 w).1) (b := (Pu.a8 w).1) (by omega) hi.1 hi.2.1 hi.2.2
    have h11 := ba.is (k := k) (a := (Pu.b7 w).1) (b := (Pu.b7 w).1) (by omega) hr.1 hr.2.1 hr.2.2
    rw [decide_eq_true rfl] at h9 h10 h11
    have h12 := dN.is (k := k) (w := w) (by omega) (by omega)
    have h13 := dO.is (k := k) (w := w) (by omega) (by omega)
    have hsl := Pu.jt (w := w)
    have h14 := cj.is (k := k) (a := Pu.fx w) (b := Pu.fx w) (by omega) (by omega)
    rw [decide_eq_true rfl] at h14
    have hJ1 : au.J1 k (Pu.a8 w).2 w (Pu.a8 w).1.1 (Pu.a8 w).1.2 (Pu.b7 w).1.1 (Pu.b7 w).1.2 = some true := by
      rw [au.fM]
      cases h : Pu.isWord w with
      | false =>
        have e : (Pu.a8 w).2 = false := by unfold Pu.a8; rw [h]; rfl
        have hs := cb.is (k := k) (w := w) (by omega) (by omega)
        rw [h] at hs
        rw [e]
        exact Pu.tM (Pu.bE hs rfl)
      | true =>
        have e : (Pu.a8 w).2 = true := by unfold Pu.a8; rw [h]; rfl
        have hde := bp.is (k := k) (t := (Pu.b7 w).1) (by omega) hr.1 hr.2.1 hr.2.2
        rw [Pu.rK h] at hde
        have h9 := (Pu.eW h).1
        rw [e]
        refine Pu.tN (Pu.bE hde ?_)
        obtain ⟨k', rfl⟩ : ∃ k', k = k' + 1 := ⟨k - 1, by omega⟩
        by_cases e0 : w.length = 0
        · exact au.fin (n := 0) (i := 1) (by omega) h (by omega) (by rw [e0]; rfl)
        · exact au.loop (by omega) h (w.length - 1) (k' + 1) 1 0 (by omega) (Nat.le_refl _) (by omega) (by rw [List.drop_zero]) (Nat.zero_le _) (by omega)
    have hJ0 : au.J0 k (Pu.cG t x).2.2 (Pu.a8 w).2 w (Pu.cG t x).1.1 (Pu.cG t x).1.2 (Pu.a8 w).1.1 (Pu.a8 w).1.2 (Pu.b7 w).1.1 (Pu.b7 w).1.2 = some true := by
      rw [au.g9]
      cases hb : (Pu.cG t x).2.2 with
      | false => exact Pu.tF hJ1
      | true =>
        have hit := aE.is (k := k) (t := (Pu.cG t x).1) (by omega) hg.1 hg.2.1 hg.2.2
        rw [Pu.px hb] at hit
        exact Pu.tY (Pu.bE hit (Pu.tN hJ1))
    exact Pu.tF (Pu.bE e1 (Pu.bE e3 (Pu.bE e4 (Pu.bE e2 (Pu.bE e5 (Pu.bE e6 (Pu.bE e7 (Pu.bE e8 (Pu.tB (Pu.tE rfl (Pu.bE h9 (Pu.tN (Pu.tB (Pu.tB (Pu.bE h10 (Pu.tN (Pu.bE h11 (Pu.tN (Pu.bE h12 (Pu.bE h13 (Pu.bE h14 (Pu.tN hJ0))))))))))))))))))))))
theorem au.is {p : List Int} (h1 : p.length ≤ maxLen) : ∃ k, au k p = some true := ⟨_, au.at (Nat.le_refl (4194304 + 70))⟩
end Go.Am.Seat
