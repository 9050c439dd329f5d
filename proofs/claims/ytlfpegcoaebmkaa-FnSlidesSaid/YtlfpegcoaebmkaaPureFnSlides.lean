/- What the functions make of data, as plain words; each holds for all data within the bounds that it names. -/
import Derived.Test.YtlfpegcoaebmkaaEqsFnSlides
import Derived.Test.YtlfpegcoaebmkaaPu
set_option linter.unusedSimpArgs false
set_option linter.unusedVariables false
set_option linter.unnecessarySimpa false
set_option linter.unusedSectionVars false
namespace Go.Am.Seat
open Go Go.Am Go.Am.Pu
attribute [local instance] D.real
set_option linter.unusedSimpArgs false
set_option linter.unusedVariables false
set_option maxRecDepth 4000
theorem kR.is {k : Nat} {p : List Int} (hk : 1 ≤ k) : kR k p = some (decide ((1048576 : Int) < p.length)) := by
  obtain ⟨k, rfl⟩ : ∃ k', k = k' + 1 := ⟨k - 1, by omega⟩
  rw [kR.eq]
  rfl
theorem di.is {k : Nat} {i h : Int} {b : List Int} (hk : 1 ≤ k) (hb : b.length ≤ 1048576) (hi : 0 ≤ i) (hi' : i ≤ b.length) :
    ∃ r i' h', di k i h b = some (r, ((), (i', h'))) ∧ 0 ≤ r ∧ r ≤ 255 ∧ 0 ≤ i' ∧ i' ≤ b.length := by
  obtain ⟨k, rfl⟩ : ∃ k', k = k' + 1 := ⟨k - 1, by omega⟩
  rw [di.eq]
  have e33 : (0 : Int) ≤ 33 := by decide
  have e45 : (0 : Int) ≤ 45 := by decide
  by_cases hlt : i < b.length
  · have hn : i.toNat < b.length := by omega
    have ew : IntKind.i64.wrap (i + 1) = i + 1 := Pu.w64 (by omega) (by omega)
    refine ⟨_, i + 1, _, by simp only [↓ar, bt, bo, aL, aP, aM, aC, aD, aE, bh, aH, aJ, aq, ao, aQ, al, aK, aG, bq, br, aN, aO, ae, Pu.w64, Int.toNat_natCast, decide_eq_true_eq, Int.ofNat_lt, Int.ofNat_le, if_true, if_false, Int.natCast_nonneg, decide_true, decide_false, Bool.not_true, Bool.not_false, Bool.false_eq_true, Bool.not_eq_true, Bool.true_and, Bool.and_true, Bool.false_and, Bool.and_false, e33, e45, hlt, hi, hn, ew]; rfl, (Pu.vI _).1, (Pu.vI _).2, ?_, ?_⟩
    · omega
    · omega
  · exact ⟨_, _, _, by simp only [↓ar, bt, bo, aL, aP, aM, aC, aD, aE, bh, aH, aJ, aq, ao, aQ, al, aK, aG, bq, br, aN, aO, ae, Pu.w64, Int.toNat_natCast, decide_eq_true_eq, Int.ofNat_lt, Int.ofNat_le, if_true, if_false, Int.natCast_nonneg, decide_true, decide_false, Bool.not_true, Bool.not_false, Bool.false_eq_true, Bool.not_eq_true, Bool.true_and, Bool.and_true, Bool.false_and, Bool.and_false, e33, e45, hlt]; rfl, (Pu.vI _).1, (Pu.vI _).2, hi, hi'⟩
theorem bD.is {k : Nat} {n i h : Int} {b : List Int} (hk : 2 ≤ k) (hb : b.length ≤ 1048576) (hi : 0 ≤ i) (hi' : i ≤ b.length) (hn : n ≤ 256) :
    ∃ r i' h', bD k n i h b = some (r, ((), (i', h'))) ∧ 0 ≤ r ∧ (n ≤ 0 → r = 0) ∧ (0 < n → r < n) ∧ 0 ≤ i' ∧ i' ≤ b.length := by
  obtain ⟨k, rfl⟩ : ∃ k', k = k' + 1 := ⟨k - 1, by omega⟩
  rw [bD.eq]
  by_cases h0 : n ≤ 0
  · exact ⟨0, i, h, by simp only [↓ar, bt, bo, aL, aP, aM, aC, aD, aE, bh, aH, aJ, aq, ao, aQ, al, aK, aG, bq, br, aN, aO, ae, Pu.w64, Int.toNat_natCast, decide_eq_true_eq, Int.ofNat_lt, Int.ofNat_le, if_true, if_false, Int.natCast_nonneg, decide_true, decide_false, Bool.not_true, Bool.not_false, Bool.false_eq_true, Bool.not_eq_true, Bool.true_and, Bool.and_true, Bool.false_and, Bool.and_false, h0], by omega, fun _ => rfl, fun h => by omega, hi, hi'⟩
  · obtain ⟨r, i', h', e, h1, h2, h3, h4⟩ := di.is (k := k) (h := h) (b := b) (by omega) hb hi hi'
    have hne : ¬ n = 0 := by omega
    refine ⟨r.tmod n, i', h', by simp only [↓ar, bt, bo, aL, aP, aM, aC, aD, aE, bh, aH, aJ, aq, ao, aQ, al, aK, aG, bq, br, aN, aO, ae, Pu.w64, Int.toNat_natCast, decide_eq_true_eq, Int.ofNat_lt, Int.ofNat_le, if_true, if_false, Int.natCast_nonneg, decide_true, decide_false, Bool.not_true, Bool.not_false, Bool.false_eq_true, Bool.not_eq_true, Bool.true_and, Bool.and_true, Bool.false_and, Bool.and_false, h0, hn, e, hne]; rfl, Int.tmod_nonneg _ h1, fun h => by omega, fun _ => Int.tmod_lt_of_pos _ (by omega), h3, h4⟩
theorem fD.is {k : Nat} {a b : Int} (hk : 1 ≤ k) : fD k a b = some (min a b) := by
  obtain ⟨k, rfl⟩ : ∃ k', k = k' + 1 := ⟨k - 1, by omega⟩
  rw [fD.eq]
  by_cases h : a < b
  · simp only [↓ar, bt, bo, aL, aP, aM, aC, aD, aE, bh, aH, aJ, aq, ao, aQ, al, aK, aG, bq, br, aN, aO, ae, Pu.w64, Int.toNat_natCast, decide_eq_true_eq, Int.ofNat_lt, Int.ofNat_le, if_true, if_false, Int.natCast_nonneg, decide_true, decide_false, Bool.not_true, Bool.not_false, Bool.false_eq_true, Bool.not_eq_true, Bool.true_and, Bool.and_true, Bool.false_and, Bool.and_false, h]; congr 1; omega
  · simp only [↓ar, bt, bo, aL, aP, aM, aC, aD, aE, bh, aH, aJ, aq, ao, aQ, al, aK, aG, bq, br, aN, aO, ae, Pu.w64, Int.toNat_natCast, decide_eq_true_eq, Int.ofNat_lt, Int.ofNat_le, if_true, if_false, Int.natCast_nonneg, decide_true, decide_false, Bool.not_true, Bool.not_false, Bool.false_eq_true, Bool.not_eq_true, Bool.true_and, Bool.and_true, Bool.false_and, Bool.and_false, h]; congr 1; omega
theorem cx.inner {k k1 : Nat} {n p : Int} {r : List (List Int)} (hr : ∀ x ∈ r, x.length ≤ 1000) (hp : 1 ≤ p ∧ p ≤ 1000) (hlen : r.length ≤ 1000) : ∀ (m j i : Nat) (acc : List (List Int)), i + m = r.length → m < j → acc.length + m ≤ 100000 →
    cx.L1 k k1 j n p i acc r = cx.L0 k k1 n (p - 1) (acc ++ (r.drop i).map (p :: ·))
  | m, 0, i, acc, _, hj, _ => by omega
  | 0, j + 1, i, acc, hi, _, _ => by
    rw [cx.eV]
    have e : i = r.length := by omega
    subst e
    have ew : IntKind.i64.wrap (p - 1) = p - 1 := Pu.w64 (by omega) (by omega)
    simp [ew]
  | m + 1, j + 1, i, acc, hi, hj, ha => by
    rw [cx.eV]
    have hlt : i < r.length := by omega
    have hx : (r.getD i []).length ≤ 1000 := by rw [Pu.aB hlt []]; exact hr _ (List.getElem_mem hlt)
    have ih := cx.inner (k := k) (k1 := k1) (n := n) hr hp hlen m j (i + 1) (acc ++ [p :: r.getD i []]) (by omega) (by omega) (by rw [List.length_append]; simp; omega)
    rw [Int.natCast_succ] at ih
    rw [Pu.drop_cons hlt []]
    have l1 : (p :: r.getD i []).length ≤ 1099511627776 := by rw [List.length_cons]; omega
    have l2 : (acc ++ [p :: r.getD i []]).length ≤ 1099511627776 := by rw [List.length_append]; simp; omega
    simp (disch := omega) only [↓ar, bt, bo, aL, aP, aM, aC, aD, aE, bh, aH, aJ, aq, ao, aQ, al, aK, aG, bq, br, aN, aO, ae, Pu.w64, Int.toNat_natCast, decide_eq_true_eq, Int.ofNat_lt, Int.ofNat_le, if_true, if_false, Int.natCast_nonneg, decide_true, decide_false, Bool.not_true, Bool.not_false, Bool.false_eq_true, Bool.not_eq_true, Bool.true_and, Bool.and_true, Bool.false_and, Bool.and_false, hlt, l1, l2, List.cons_append, List.nil_append, ih, List.map_cons, List.append_assoc]
theorem cx.is (n : Nat) : ∀ (k : Nat) (m : Int), n ≤ 9 → 4194304 + n + 2 ≤ k → 1 ≤ m → m ≤ 1000 →
    ∃ L, cx k n m = some L ∧ 1 ≤ L.length ∧ L.length ≤ Pu.vQ n ∧ ∀ x ∈ L, Pu.ni n x := by
  induction n using Nat.strongRecOn with
  | ind n IH =>
  intro k m hn hk hm hm'
  obtain ⟨k, rfl⟩ : ∃ k', k = k' + 1 := ⟨k - 1, by omega⟩
  rw [cx.eq]
  by_cases h0 : n = 0
  · subst h0
    refine ⟨[[]], by simp, by simp, by simp [Pu.vQ], fun x hx => ?_⟩
    simp only [List.mem_singleton] at hx
    subst hx
    exact ⟨by simp, fun y hy => by cases hy⟩
  · have hne : ¬ (n : Int) = 0 := by omega
    simp only [↓ar, bt, bo, aL, aP, aM, aC, aD, aE, bh, aH, aJ, aq, ao, aQ, al, aK, aG, bq, br, aN, aO, ae, Pu.w64, Int.toNat_natCast, decide_eq_true_eq, Int.ofNat_lt, Int.ofNat_le, if_true, if_false, Int.natCast_nonneg, decide_true, decide_false, Bool.not_true, Bool.not_false, Bool.false_eq_true, Bool.not_eq_true, Bool.true_and, Bool.and_true, Bool.false_and, Bool.and_false, hne]
    rw [fD.is (by omega), ae]
    have loop : ∀ (p j : Nat) (acc : List (List Int)), p ≤ n → p < j → acc.length + Pu.yA n p ≤ 512 → (∀ x ∈ acc, Pu.ni n x) →
        ∃ L, cx.L0 k j n p acc = some L ∧ acc.length + min p 1 ≤ L.length ∧ L.length ≤ acc.length + Pu.yA n p ∧ ∀ x ∈ L, Pu.ni n x := by
      intro p
      induction p with
      | zero =>
        intro j acc _ hj ha hg
        obtain ⟨j, rfl⟩ : ∃ j', j = j' + 1 := ⟨j - 1, by omega⟩
        rw [cx.bS]
        exact ⟨acc, by simp, by simp, by simp, hg⟩
      | succ p ihp =>
        intro j acc hp hj ha hg
        obtain ⟨j, rfl⟩ : ∃ j', j = j' + 1 := ⟨j - 1, by omega⟩
        rw [cx.bS]
        have ew : IntKind.i64.wrap ((n : Int) - ((p + 1 : Nat) : Int)) = ((n - (p + 1) : Nat) : Int) := by
          rw [Pu.w64 (by omega) (by omega)]; omega
        obtain ⟨R, hR, r1, r2, r3⟩ := IH (n - (p + 1)) (by omega) k ((p + 1 : Nat) : Int) (by omega) (by omega) (by omega) (by omega)
        have h1 : (1 : Int) ≤ ((p + 1 : Nat) : Int) := by omega
        have ha' : acc.length + (Pu.vQ (n - (p + 1)) + Pu.yA n p) ≤ 512 := ha
        have hin := cx.inner (k := k) (k1 := j) (n := n) (p := ((p + 1 : Nat) : Int)) (r := R) (fun x hx => by have := (r3 x hx).1; omega) ⟨h1, by omega⟩ (by omega) R.length k 0 acc (by omega) (by omega) (by omega)
        rw [Int.natCast_zero, List.drop_zero, show ((p + 1 : Nat) : Int) - 1 = (p : Int) by omega] at hin
        simp only [↓ar, bt, bo, aL, aP, aM, aC, aD, aE, bh, aH, aJ, aq, ao, aQ, al, aK, aG, bq, br, aN, aO, ae, Pu.w64, Int.toNat_natCast, decide_eq_true_eq, Int.ofNat_lt, Int.ofNat_le, if_true, if_false, Int.natCast_nonneg, decide_true, decide_false, Bool.not_true, Bool.not_false, Bool.false_eq_true, Bool.not_eq_true, Bool.true_and, Bool.and_true, Bool.false_and, Bool.and_false, h1, ew, hR]
        rw [hin]
        obtain ⟨L, hL, l1, l2, l3⟩ := ihp j (acc ++ R.map (((p + 1 : Nat) : Int) :: ·)) (by omega) (by omega) (by rw [List.length_append, List.length_map]; omega) (fun x hx => by
          rcases List.mem_append.1 hx with h | h
          · exact hg x h
          · obtain ⟨y, hy, rfl⟩ := List.mem_map.1 h
            obtain ⟨q1, q2⟩ := r3 y hy
            refine ⟨by rw [List.length_cons]; omega, fun z hz => ?_⟩
            rcases List.mem_cons.1 hz with rfl | hz
            · omega
            · exact q2 z hz)
        rw [List.length_append, List.length_map] at l1 l2
        refine ⟨L, hL, by omega, ?_, l3⟩
        show L.length ≤ acc.length + (Pu.vQ (n - (p + 1)) + Pu.yA n p)
        omega
    have hS := fun p hp => Pu.Cc (n := n) (p := p) hn (by omega) hp
    have hB := Pu.zq hn
    obtain ⟨p, hp⟩ : ∃ p : Nat, min (n : Int) m = p := ⟨(min (n : Int) m).toNat, by omega⟩
    rw [hp]
    obtain ⟨L, hL, l1, l2, l3⟩ := loop p k [] (by omega) (by omega) (by have := hS p (by omega); simp; omega) (fun x hx => by cases hx)
    have := hS p (by omega)
    simp only [List.length_nil, Nat.zero_add] at l1 l2
    exact ⟨L, hL, by omega, by omega, l3⟩
theorem eG.is {k : Nat} {m i h : Int} {b : List Int} (hk : 4194304 + 12 ≤ k) (hb : b.length ≤ 1048576) (hi : 0 ≤ i) (hi' : i ≤ b.length) (hm : 1 ≤ m) (hm' : m ≤ 9) :
    ∃ p i' h', eG k m i h b = some (p, ((), (i', h'))) ∧ Pu.ni 9 p ∧ 0 ≤ i' ∧ i' ≤ b.length := by
  obtain ⟨k, rfl⟩ : ∃ k', k = k' + 1 := ⟨k - 1, by omega⟩
  rw [eG.eq]
  have ew : IntKind.i64.wrap (m + 1) = m + 1 := Pu.w64 (by omega) (by omega)
  obtain ⟨r, i1, h1, e1, a1, a2, a3, a4, a5⟩ := bD.is (k := k) (n := m + 1) (h := h) (b := b) (by omega) hb hi hi' (by omega)
  have a3 := a3 (by omega)
  obtain ⟨n, rfl⟩ : ∃ n : Nat, r = n := ⟨r.toNat, by omega⟩
  obtain ⟨L, eL, c1, c2, c3⟩ := cx.is n k m (by omega) (by omega) hm (by omega)
  have := Pu.zq (n := n) (by omega)
  obtain ⟨q, i2, h2, e2, b1, b2, b3, b4, b5⟩ := bD.is (k := k) (n := L.length) (h := h1) (b := b) (by omega) hb a4 a5 (by omega)
  have b3 := b3 (by omega)
  have hn : q.toNat < L.length := by omega
  refine ⟨L.getD q.toNat [], i2, h2, ?_, ?_, b4, b5⟩
  · simp only [↓ar, bt, bo, aL, aP, aM, aC, aD, aE, bh, aH, aJ, aq, ao, aQ, al, aK, aG, bq, br, aN, aO, ae, Pu.w64, Int.toNat_natCast, decide_eq_true_eq, Int.ofNat_lt, Int.ofNat_le, if_true, if_false, Int.natCast_nonneg, decide_true, decide_false, Bool.not_true, Bool.not_false, Bool.false_eq_true, Bool.not_eq_true, Bool.true_and, Bool.and_true, Bool.false_and, Bool.and_false, ew, e1, eL, e2, b1, hn]
  · rw [Pu.aB hn []]
    obtain ⟨d1, d2⟩ := c3 _ (List.getElem_mem hn)
    exact ⟨by omega, d2⟩
theorem cR.is {k : Nat} {n i h : Int} {b : List Int} (hk : 3 ≤ k) (hb : b.length ≤ 1048576) (hi : 0 ≤ i) (hi' : i ≤ b.length) (hn : n ≤ 256) :
    ∃ r i' h', cR k n i h b = some (r, ((), (i', h'))) ∧ 0 ≤ i' ∧ i' ≤ b.length := by
  obtain ⟨k, rfl⟩ : ∃ k', k = k' + 1 := ⟨k - 1, by omega⟩
  rw [cR.eq]
  obtain ⟨r, i', h', e, h1, h2, h3, h4, h5⟩ := bD.is (k := k) (h := h) (b := b) (by omega) hb hi hi' hn
  rw [e]
  exact ⟨_, _, _, rfl, h4, h5⟩
theorem bG.loop {k : Nat} {b o a c : List Int} (hk : 4194304 + 12 ≤ k) (hb : b.length ≤ 1048576) (ho : Pu.ni 9 o) : ∀ (m j i : Nat) (low p h : Int) (q : List Int), i + m = o.length → m < j → 0 ≤ p → p ≤ b.length → 1 ≤ low → low ≤ 9 → q.length ≤ i → (∀ x ∈ q, 1 ≤ x ∧ x ≤ 9) →
    Pu.Ok (bG.L0 k j low i p h b a c o q) fun r => r.1.1 = o ∧ Pu.ni 9 r.1.2 ∧ 0 ≤ r.2.2.1 ∧ r.2.2.1 ≤ b.length
  | m, 0, i, low, p, h, q, _, hj, _, _, _, _, _, _ => by omega
  | 0, j + 1, i, low, p, h, q, hi, _, h0, h1, h2, h3, hq, hg => by
    rw [bG.bS]
    simp only [bt, bo, aL, aP, aM, aC, aD, aE, bh, aH, aJ, aq, ao, aQ, al, aK, aG, oY, bq, br, aN, aO, lR, lT, kn, ir, List.nil_append, List.cons_append]
    have h9 := ho.1
    exact Pu.Ok.no (by omega) (Pu.Ok.ret ⟨rfl, ⟨by dsimp only; omega, hg⟩, h0, h1⟩)
  | m + 1, j + 1, i, low, p, h, q, hi, hj, h0, h1, h2, h3, hq, hg => by
    rw [bG.bS]
    simp only [bt, bo, aL, aP, aM, aC, aD, aE, bh, aH, aJ, aq, ao, aQ, al, aK, aG, oY, bq, br, aN, aO, lR, lT, kn, ir, List.nil_append, List.cons_append]
    have hlt : i < o.length := by omega
    have hx := ho.2 _ (List.getElem_mem hlt)
    rw [← Pu.aB hlt 0] at hx
    have h9 := ho.1
    (repeat (refine Pu.Ok.g (by first | omega | assumption | (simp only [List.length_append, List.length_cons, List.length_nil, List.length_set, List.length_take, List.length_drop, List.length_replicate] at *; omega)) ?_))
    (try simp only [Int.toNat_natCast]); (try simp (disch := omega) only [Pu.w64])
    obtain ⟨r, i1, h1', e1, a1, a2, a3, a4, a5⟩ := bD.is (k := k) (n := o.getD i 0 + 1) (h := h) (b := b) (by omega) hb h0 h1 (by omega)
    refine Pu.Ok.nf e1 (Pu.Ok.nf (fD.is (by omega)) ?_)
    dsimp only
    refine Pu.Ok.t (fun hz => Pu.Ok.ret ⟨rfl, ⟨by dsimp only; omega, hg⟩, a4, a5⟩) (fun hz => ?_)
    obtain ⟨r2, i2, h2', e2, b4, b5⟩ := cR.is (k := k) (n := 3) (h := h1') (b := b) (by omega) hb a4 a5 (by omega)
    refine Pu.Ok.nf e2 (Pu.Ok.tb (fun _ => Pu.Ok.ret ⟨rfl, ⟨by dsimp only; omega, hg⟩, b4, b5⟩) (fun _ => ?_))
    dsimp only
    rw [bG.eP]
    simp only [bt, bo, aL, aP, aM, aC, aD, aE, bh, aH, aJ, aq, ao, aQ, al, aK, aG, oY, bq, br, aN, aO, lR, lT, kn, ir, List.nil_append, List.cons_append]
    (repeat (refine Pu.Ok.g (by first | omega | assumption | (simp only [List.length_append, List.length_cons, List.length_nil, List.length_set, List.length_take, List.length_drop, List.length_replicate] at *; omega)) ?_))
    (try simp only [Int.toNat_natCast]); (try simp (disch := omega) only [Pu.w64])
    exact bG.loop hk hb ho m j (i + 1) (min low r) i2 h2' _ (by omega) (by omega) b4 b5 (by omega) (by omega) (by rw [List.length_append]; simp; omega) (fun x hx => by
      rcases List.mem_append.1 hx with h | h
      · exact hg x h
      · simp only [List.mem_singleton] at h; omega)
theorem bG.ok {k : Nat} {m i h : Int} {b : List Int} (hk : 4194304 + 13 ≤ k) (hb : b.length ≤ 1048576) (hi : 0 ≤ i) (hi' : i ≤ b.length) (hm : 1 ≤ m) (hm' : m ≤ 9) :
    Pu.Ok (bG k m i h b) fun r => Pu.ni 9 r.1.1 ∧ Pu.ni 9 r.1.2 ∧ 0 ≤ r.2.2.1 ∧ r.2.2.1 ≤ b.length := by
  obtain ⟨k, rfl⟩ : ∃ k', k = k' + 1 := ⟨k - 1, by omega⟩
  rw [bG.eq]
  obtain ⟨p, i1, h1, e1, hp, a4, a5⟩ := eG.is (k := k) (m := m) (h := h) (b := b) (by omega) hb hi hi' hm hm'
  refine Pu.Ok.nf e1 ?_
  have := hp.1
  refine Pu.Ok.mono (bG.loop (by omega) hb hp p.length k 0 m i1 h1 [] (by omega) (by omega) a4 a5 hm hm' (by simp) (fun x hx => by cases hx)) ?_
  rintro ⟨⟨o, q⟩, _, i', h'⟩ ⟨e, c2, c3, c4⟩
  simp only at e
  subst e
  exact ⟨hp, c2, c3, c4⟩
theorem cO.is {k : Nat} {p : List Int} {i : Int} (hk : 1 ≤ k) : cO k p i = some (Pu.atI p i) := by
  obtain ⟨k, rfl⟩ : ∃ k', k = k' + 1 := ⟨k - 1, by omega⟩
  rw [cO.eq, cO.fC]
  by_cases h1 : i < 0
  · simp only [↓ar, bt, bo, aL, aP, aM, aC, aD, aE, bh, aH, aJ, aq, ao, aQ, al, aK, aG, bq, br, aN, aO, ae, Pu.w64, Int.toNat_natCast, decide_eq_true_eq, Int.ofNat_lt, Int.ofNat_le, if_true, if_false, Int.natCast_nonneg, decide_true, decide_false, Bool.not_true, Bool.not_false, Bool.false_eq_true, Bool.not_eq_true, Bool.true_and, Bool.and_true, Bool.false_and, Bool.and_false, h1, Pu.lG h1]
  · by_cases h2 : (p.length : Int) ≤ i
    · simp only [↓ar, bt, bo, aL, aP, aM, aC, aD, aE, bh, aH, aJ, aq, ao, aQ, al, aK, aG, bq, br, aN, aO, ae, Pu.w64, Int.toNat_natCast, decide_eq_true_eq, Int.ofNat_lt, Int.ofNat_le, if_true, if_false, Int.natCast_nonneg, decide_true, decide_false, Bool.not_true, Bool.not_false, Bool.false_eq_true, Bool.not_eq_true, Bool.true_and, Bool.and_true, Bool.false_and, Bool.and_false, h1, h2, Pu.yq h2]
    · have h3 : 0 ≤ i := by omega
      have h4 : i.toNat < p.length := by omega
      simp only [↓ar, bt, bo, aL, aP, aM, aC, aD, aE, bh, aH, aJ, aq, ao, aQ, al, aK, aG, bq, br, aN, aO, ae, Pu.w64, Int.toNat_natCast, decide_eq_true_eq, Int.ofNat_lt, Int.ofNat_le, if_true, if_false, Int.natCast_nonneg, decide_true, decide_false, Bool.not_true, Bool.not_false, Bool.false_eq_true, Bool.not_eq_true, Bool.true_and, Bool.and_true, Bool.false_and, Bool.and_false, h1, h2, h3, h4, Pu.atI]
theorem bP.is {k : Nat} {t : Pu.Tab} {r c : Int} (hk : 2 ≤ k) (hi : Pu.bN t.1 = true) (h1 : -1000000000 ≤ c) (h2 : c ≤ 1000000000) : bP k t r c = some (Pu.entry t r c) := by
  obtain ⟨k, rfl⟩ : ∃ k', k = k' + 1 := ⟨k - 1, by omega⟩
  have hb := Pu.cY hi r
  rw [bP.eq, bP.fC, cO.is (by omega)]
  unfold Pu.entry
  by_cases c1 : r < 0
  · simp only [↓ar, bt, bo, aL, aP, aM, aC, aD, aE, bh, aH, aJ, aq, ao, aQ, al, aK, aG, bq, br, aN, aO, ae, Pu.w64, Int.toNat_natCast, decide_eq_true_eq, Int.ofNat_lt, Int.ofNat_le, if_true, if_false, Int.natCast_nonneg, decide_true, decide_false, Bool.not_true, Bool.not_false, Bool.false_eq_true, Bool.not_eq_true, Bool.true_and, Bool.and_true, Bool.false_and, Bool.and_false, c1]
  · by_cases c2 : (t.2.length : Int) ≤ r
    · simp only [↓ar, bt, bo, aL, aP, aM, aC, aD, aE, bh, aH, aJ, aq, ao, aQ, al, aK, aG, bq, br, aN, aO, ae, Pu.w64, Int.toNat_natCast, decide_eq_true_eq, Int.ofNat_lt, Int.ofNat_le, if_true, if_false, Int.natCast_nonneg, decide_true, decide_false, Bool.not_true, Bool.not_false, Bool.false_eq_true, Bool.not_eq_true, Bool.true_and, Bool.and_true, Bool.false_and, Bool.and_false, c1, c2]
    · have c3 : 0 ≤ r := by omega
      have c4 : r.toNat < t.2.length := by omega
      simp (disch := omega) only [↓ar, bt, bo, aL, aP, aM, aC, aD, aE, bh, aH, aJ, aq, ao, aQ, al, aK, aG, bq, br, aN, aO, ae, Pu.w64, Int.toNat_natCast, decide_eq_true_eq, Int.ofNat_lt, Int.ofNat_le, if_true, if_false, Int.natCast_nonneg, decide_true, decide_false, Bool.not_true, Bool.not_false, Bool.false_eq_true, Bool.not_eq_true, Bool.true_and, Bool.and_true, Bool.false_and, Bool.and_false, c1, c2, c3, c4]
      by_cases d1 : c - Pu.atI t.1 r < 0
      · simp only [↓ar, bt, bo, aL, aP, aM, aC, aD, aE, bh, aH, aJ, aq, ao, aQ, al, aK, aG, bq, br, aN, aO, ae, Pu.w64, Int.toNat_natCast, decide_eq_true_eq, Int.ofNat_lt, Int.ofNat_le, if_true, if_false, Int.natCast_nonneg, decide_true, decide_false, Bool.not_true, Bool.not_false, Bool.false_eq_true, Bool.not_eq_true, Bool.true_and, Bool.and_true, Bool.false_and, Bool.and_false, d1, Pu.lG d1]
      · by_cases d2 : ((t.2.getD r.toNat []).length : Int) ≤ c - Pu.atI t.1 r
        · simp only [↓ar, bt, bo, aL, aP, aM, aC, aD, aE, bh, aH, aJ, aq, ao, aQ, al, aK, aG, bq, br, aN, aO, ae, Pu.w64, Int.toNat_natCast, decide_eq_true_eq, Int.ofNat_lt, Int.ofNat_le, if_true, if_false, Int.natCast_nonneg, decide_true, decide_false, Bool.not_true, Bool.not_false, Bool.false_eq_true, Bool.not_eq_true, Bool.true_and, Bool.and_true, Bool.false_and, Bool.and_false, d1, d2, Pu.yq d2]
        · have d3 : 0 ≤ c - Pu.atI t.1 r := by omega
          have d4 : (c - Pu.atI t.1 r).toNat < (t.2.getD r.toNat []).length := by omega
          rw [bP.eP]
          generalize c - Pu.atI t.1 r = z at *
          simp only [↓ar, bt, bo, aL, aP, aM, aC, aD, aE, bh, aH, aJ, aq, ao, aQ, al, aK, aG, bq, br, aN, aO, ae, Pu.w64, Int.toNat_natCast, decide_eq_true_eq, Int.ofNat_lt, Int.ofNat_le, if_true, if_false, Int.natCast_nonneg, decide_true, decide_false, Bool.not_true, Bool.not_false, Bool.false_eq_true, Bool.not_eq_true, Bool.true_and, Bool.and_true, Bool.false_and, Bool.and_false, c3, c4, d1, d2, d3, d4, Pu.atI]
theorem iH.is {k : Nat} {a b : Int} (hk : 1 ≤ k) : iH k a b = some (max a b) := by
  obtain ⟨k, rfl⟩ : ∃ k', k = k' + 1 := ⟨k - 1, by omega⟩
  rw [iH.eq]
  by_cases h : b < a
  · simp only [↓ar, bt, bo, aL, aP, aM, aC, aD, aE, bh, aH, aJ, aq, ao, aQ, al, aK, aG, bq, br, aN, aO, ae, Pu.w64, Int.toNat_natCast, decide_eq_true_eq, Int.ofNat_lt, Int.ofNat_le, if_true, if_false, Int.natCast_nonneg, decide_true, decide_false, Bool.not_true, Bool.not_false, Bool.false_eq_true, Bool.not_eq_true, Bool.true_and, Bool.and_true, Bool.false_and, Bool.and_false, h]; congr 1; omega
  · simp only [↓ar, bt, bo, aL, aP, aM, aC, aD, aE, bh, aH, aJ, aq, ao, aQ, al, aK, aG, bq, br, aN, aO, ae, Pu.w64, Int.toNat_natCast, decide_eq_true_eq, Int.ofNat_lt, Int.ofNat_le, if_true, if_false, Int.natCast_nonneg, decide_true, decide_false, Bool.not_true, Bool.not_false, Bool.false_eq_true, Bool.not_eq_true, Bool.true_and, Bool.and_true, Bool.false_and, Bool.and_false, h]; congr 1; omega
theorem gA.is {k : Nat} {b : Bool} (hk : 1 ≤ k) : gA k b = some (if b = true then 1 else 0) := by
  obtain ⟨k, rfl⟩ : ∃ k', k = k' + 1 := ⟨k - 1, by omega⟩
  rw [gA.eq]
  cases b <;> rfl
theorem bP.ok {k : Nat} {t : Pu.Tab} {r c : Int} (hk : 2 ≤ k) : Pu.Ok (bP k t r c) fun _ => True := by
  obtain ⟨k, rfl⟩ : ∃ k', k = k' + 1 := ⟨k - 1, by omega⟩
  rw [bP.eq, bP.fC]
  simp only [bt, bo, aL, aP, aM, aC, aD, aE, bh, aH, aJ, aq, ao, aQ, al, aK, aG, oY, bq, br, aN, aO, lR, lT, kn, ir, List.nil_append, List.cons_append]
  refine Pu.Ok.t (fun _ => Pu.Ok.ret trivial) (fun c1 => Pu.Ok.t (fun _ => Pu.Ok.ret trivial) (fun c2 => ?_))
  refine Pu.Ok.nf (cO.is (by omega)) ?_
  generalize IntKind.i64.wrap (c - Pu.atI t.1 r) = z
  refine Pu.Ok.t (fun _ => Pu.Ok.ret trivial) (fun d1 => ?_)
  (repeat (refine Pu.Ok.g (by first | omega | assumption | (simp only [List.length_append, List.length_cons, List.length_nil, List.length_set, List.length_take, List.length_drop, List.length_replicate] at *; omega)) ?_))
  refine Pu.Ok.t (fun _ => Pu.Ok.ret trivial) (fun d2 => ?_)
  rw [bP.eP]
  simp only [bt, bo, aL, aP, aM, aC, aD, aE, bh, aH, aJ, aq, ao, aQ, al, aK, aG, oY, bq, br, aN, aO, lR, lT, kn, ir, List.nil_append, List.cons_append]
  (repeat (refine Pu.Ok.g (by first | omega | assumption | (simp only [List.length_append, List.length_cons, List.length_nil, List.length_set, List.length_take, List.length_drop, List.length_replicate] at *; omega)) ?_))
  exact Pu.Ok.ret trivial
theorem ba.inner {k k1 : Nat} {b o g p1 : List Int} {i : Nat} {c : List Int} {d : List (List Int)} {rs : List (List Int)} (hk : 4194304 ≤ k) (hb : b.length ≤ 1048576) (ho : Pu.ni 9 o) (hi : i < o.length) (hrs : rs.length ≤ 9)
    (key : ∀ (p h : Int) (row : List Int), 0 ≤ p → p ≤ b.length → row.length ≤ 9 → Pu.Ok (ba.L0 k k1 ((i : Int) + 1) p h o p1 b c d g (rs ++ [row])) fun r => r.1.1 = g ∧ Pu.dk 9 9 r.1.2 ∧ 0 ≤ r.2.2.1 ∧ r.2.2.1 ≤ b.length) :
    ∀ (m j : Nat) (x low p h : Int) (row : List Int), (9 - x).toNat ≤ m → m < j → 0 ≤ p → p ≤ b.length → 0 ≤ x → (row.length : Int) ≤ x → row.length ≤ 9 →
    Pu.Ok (ba.L1 k k1 j i low x p h row o p1 b c d g rs) fun r => r.1.1 = g ∧ Pu.dk 9 9 r.1.2 ∧ 0 ≤ r.2.2.1 ∧ r.2.2.1 ≤ b.length
  | m, 0, x, low, p, h, row, _, hj, _, _, _, _, _ => by omega
  | m, j + 1, x, low, p, h, row, hi, hj, h0, h1, h2, h3, h4 => by
    rw [ba.eV]
    simp only [bt, bo, aL, aP, aM, aC, aD, aE, bh, aH, aJ, aq, ao, aQ, al, aK, aG, oY, bq, br, aN, aO, lR, lT, kn, ir, List.nil_append, List.cons_append]
    (repeat (refine Pu.Ok.g (by first | omega | assumption | (simp only [List.length_append, List.length_cons, List.length_nil, List.length_set, List.length_take, List.length_drop, List.length_replicate] at *; omega)) ?_))
    have hlt : i < o.length := by omega
    have hx := ho.2 _ (List.getElem_mem hlt)
    rw [← Pu.aB hlt 0] at hx
    have h9 := ho.1
    (try simp only [Int.toNat_natCast]); (try simp (disch := omega) only [Pu.w64])
    refine Pu.Ok.t (fun hz => ?_) (fun hz => ?_)
    · refine Pu.Ok.bnd (bP.ok (by omega)) fun r1 _ => ?_
      refine Pu.Ok.nf (iH.is (by omega)) ?_
      obtain ⟨r2, i2, h2', e2, b4, b5⟩ := cR.is (k := k) (n := 3) (h := h) (b := b) (by omega) hb h0 h1 (by omega)
      refine Pu.Ok.nf e2 (Pu.Ok.nf (gA.is (by omega)) ?_)
      obtain ⟨r3, i3, h3', e3, a1, a2, a3, a4, a5⟩ := bD.is (k := k) (n := 2) (h := h2') (b := b) (by omega) hb b4 b5 (by omega)
      refine Pu.Ok.nf e3 (Pu.Ok.nf (fD.is (by omega)) ?_)
      dsimp only
      (repeat (refine Pu.Ok.g (by first | omega | assumption | (simp only [List.length_append, List.length_cons, List.length_nil, List.length_set, List.length_take, List.length_drop, List.length_replicate] at *; omega)) ?_))
      (try simp only [Int.toNat_natCast]); (try simp (disch := omega) only [Pu.w64])
      exact ba.inner hk hb ho hlt hrs key (m - 1) j _ _ i3 h3' _ (by omega) (by omega) a4 a5 (by omega) (by rw [List.length_append]; simp; omega) (by rw [List.length_append]; simp; omega)
    · (repeat (refine Pu.Ok.g (by first | omega | assumption | (simp only [List.length_append, List.length_cons, List.length_nil, List.length_set, List.length_take, List.length_drop, List.length_replicate] at *; omega)) ?_))
      exact key p h row h0 h1 h4
theorem ba.loop {k : Nat} {b o g p1 : List Int} {c : List Int} {d : List (List Int)} (hk : 4194304 ≤ k) (hb : b.length ≤ 1048576) (ho : Pu.ni 9 o) (hp : ∀ x ∈ p1, 1 ≤ x ∧ x ≤ 9) : ∀ (m j i : Nat) (p h : Int) (rs : List (List Int)), i + m = o.length → m < j → 0 ≤ p → p ≤ b.length → Pu.dk i 9 rs →
    Pu.Ok (ba.L0 k j i p h o p1 b c d g rs) fun r => r.1.1 = g ∧ Pu.dk 9 9 r.1.2 ∧ 0 ≤ r.2.2.1 ∧ r.2.2.1 ≤ b.length
  | m, 0, i, p, h, rs, _, hj, _, _, _ => by omega
  | 0, j + 1, i, p, h, rs, hi, hj, h0, h1, hr => by
    rw [ba.bS]
    simp only [bt, bo, aL, aP, aM, aC, aD, aE, bh, aH, aJ, aq, ao, aQ, al, aK, aG, oY, bq, br, aN, aO, lR, lT, kn, ir, List.nil_append, List.cons_append]
    have := ho.1
    exact Pu.Ok.no (by omega) (Pu.Ok.ret ⟨rfl, hr.mono (by omega) (by omega), h0, h1⟩)
  | m + 1, j + 1, i, p, h, rs, hi, hj, h0, h1, hr => by
    rw [ba.bS]
    simp only [bt, bo, aL, aP, aM, aC, aD, aE, bh, aH, aJ, aq, ao, aQ, al, aK, aG, oY, bq, br, aN, aO, lR, lT, kn, ir, List.nil_append, List.cons_append]
    (repeat (refine Pu.Ok.g (by first | omega | assumption | (simp only [List.length_append, List.length_cons, List.length_nil, List.length_set, List.length_take, List.length_drop, List.length_replicate] at *; omega)) ?_))
    refine Pu.Ok.nf (cO.is (by omega)) ?_
    have h9 := ho.1
    have hz : 0 ≤ Pu.atI p1 i := by
      rw [Pu.cm]
      by_cases hl : i < p1.length
      · rw [Pu.aB hl]; have := hp _ (List.getElem_mem hl); omega
      · rw [Pu.bw (by omega)]; omega
    refine ba.inner hk hb ho (by omega) (by have := hr.1; omega) ?_ 9 k _ _ p h [] (by omega) (by omega) h0 h1 hz (by simpa using hz) (by simp)
    intro p' h' row q0 q1 q2
    exact ba.loop hk hb ho hp m j (i + 1) p' h' _ (by omega) (by omega) q0 q1 (hr.app q2)
theorem ba.ok {k : Nat} {i h : Int} {b o p : List Int} (hk : 4194304 + 2 ≤ k) (hb : b.length ≤ 1048576) (hi : 0 ≤ i) (hi' : i ≤ b.length) (ho : Pu.ni 9 o) (hp : Pu.ni 9 p) :
    Pu.Ok (ba k i h o p b) fun r => r.1.1 = p ∧ Pu.dk 9 9 r.1.2 ∧ 0 ≤ r.2.2.1 ∧ r.2.2.1 ≤ b.length := by
  obtain ⟨k, rfl⟩ : ∃ k', k = k' + 1 := ⟨k - 1, by omega⟩
  rw [ba.eq]
  simp only [bt, bo, aL, aP, aM, aC, aD, aE, bh, aH, aJ, aq, ao, aQ, al, aK, aG, oY, bq, br, aN, aO, lR, lT, kn, ir, List.nil_append, List.cons_append]
  have := hp.1
  (repeat (refine Pu.Ok.g (by first | omega | assumption | (simp only [List.length_append, List.length_cons, List.length_nil, List.length_set, List.length_take, List.length_drop, List.length_replicate] at *; omega)) ?_))
  exact ba.loop (by omega) hb ho hp.2 o.length k 0 i h [] (by omega) (by have := ho.1; omega) hi hi' ⟨by simp, fun x hx => by cases hx⟩
theorem hO.is {k : Nat} {x lo hi : Int} (hk : 1 ≤ k) : hO k x lo hi = some (Pu.within x lo hi) := by
  obtain ⟨k, rfl⟩ : ∃ k', k = k' + 1 := ⟨k - 1, by omega⟩
  rw [hO.eq]
  by_cases h : lo ≤ x <;> simp [Pu.within, h]
theorem aX.loop {k : Nat} {p : List Int} (hk : 4194304 ≤ k) (hp : p.length ≤ 1048576) : ∀ (m j i : Nat) (s v : Int), i + m = p.length → m < j → (i = 0 → v = 9) → (0 < i → v = p.getD (i - 1) 0) → v ≤ 9 → 0 ≤ s → s ≤ 9 →
    aX.L0 k j s i p = some (Pu.gC (p.drop i) v s)
  | m, 0, i, s, v, _, hj, _, _, _, _, _ => by omega
  | 0, j + 1, i, s, v, hi, _, _, _, _, _, _ => by
    rw [aX.bS]
    have e : i = p.length := by omega
    subst e
    simp [Pu.gC]
  | m + 1, j + 1, i, s, v, hi, hj, h0, h1, hv, hs, hs9 => by
    rw [aX.bS]
    have hlt : i < p.length := by omega
    have hj1 : ∀ x : Int, x = p.getD i 0 → 1 ≤ x → x ≤ v → aX.J1 k j s i p = some (decide (s + x ≤ 9) && Pu.gC (p.drop (i + 1)) x (s + x)) := by
      intro x hx hx1 hx2
      rw [aX.eP]
      simp (disch := omega) only [↓ar, bt, bo, aL, aP, aM, aC, aD, aE, bh, aH, aJ, aq, ao, aQ, al, aK, aG, bq, br, aN, aO, ae, Pu.w64, Int.toNat_natCast, decide_eq_true_eq, Int.ofNat_lt, Int.ofNat_le, if_true, if_false, Int.natCast_nonneg, decide_true, decide_false, Bool.not_true, Bool.not_false, Bool.false_eq_true, Bool.not_eq_true, Bool.true_and, Bool.and_true, Bool.false_and, Bool.and_false, hlt, ← hx]
      by_cases c : 9 < s + x
      · have : ¬ s + x ≤ 9 := by omega
        simp [c, this]
      · have c' : s + x ≤ 9 := by omega
        have ih := aX.loop hk hp m j (i + 1) (s + x) x (by omega) (by omega) (by omega) (by simp [hx]) (by omega) (by omega) c'
        rw [Int.natCast_succ] at ih
        simp [c, c', ih]
    rw [Pu.drop_cons hlt 0]
    simp (disch := omega) only [↓ar, bt, bo, aL, aP, aM, aC, aD, aE, bh, aH, aJ, aq, ao, aQ, al, aK, aG, bq, br, aN, aO, ae, Pu.w64, Int.toNat_natCast, decide_eq_true_eq, Int.ofNat_lt, Int.ofNat_le, if_true, if_false, Int.natCast_nonneg, decide_true, decide_false, Bool.not_true, Bool.not_false, Bool.false_eq_true, Bool.not_eq_true, Bool.true_and, Bool.and_true, Bool.false_and, Bool.and_false, hlt, hO.is, Pu.gC]
    generalize hx : p.getD i 0 = x at *
    unfold Pu.within
    by_cases c1 : 1 ≤ x
    · by_cases c2 : x ≤ v
      · have c3 : x ≤ 9 := by omega
        have hj := hj1 x rfl c1 c2
        by_cases hi0 : i = 0
        · have hpos : ¬ (0 : Int) < i := by omega
          simp (disch := omega) only [↓ar, bt, bo, aL, aP, aM, aC, aD, aE, bh, aH, aJ, aq, ao, aQ, al, aK, aG, bq, br, aN, aO, ae, Pu.w64, Int.toNat_natCast, decide_eq_true_eq, Int.ofNat_lt, Int.ofNat_le, if_true, if_false, Int.natCast_nonneg, decide_true, decide_false, Bool.not_true, Bool.not_false, Bool.false_eq_true, Bool.not_eq_true, Bool.true_and, Bool.and_true, Bool.false_and, Bool.and_false, c1, c2, c3, hpos, hj]
        · have hv' := h1 (by omega)
          have e : ((i : Int) - 1) = ((i - 1 : Nat) : Int) := by omega
          have hlt' : i - 1 < p.length := by omega
          have hge : ¬ p.getD (i - 1) 0 < x := by rw [← hv']; omega
          have hpos : (0 : Int) < i := by omega
          simp (disch := omega) only [e, ↓ar, bt, bo, aL, aP, aM, aC, aD, aE, bh, aH, aJ, aq, ao, aQ, al, aK, aG, bq, br, aN, aO, ae, Pu.w64, Int.toNat_natCast, decide_eq_true_eq, Int.ofNat_lt, Int.ofNat_le, if_true, if_false, Int.natCast_nonneg, decide_true, decide_false, Bool.not_true, Bool.not_false, Bool.false_eq_true, Bool.not_eq_true, Bool.true_and, Bool.and_true, Bool.false_and, Bool.and_false, hlt', c1, c2, c3, hj, hpos, hge]
      · simp only [c1, c2, ↓ar, bt, bo, aL, aP, aM, aC, aD, aE, bh, aH, aJ, aq, ao, aQ, al, aK, aG, bq, br, aN, aO, ae, Pu.w64, Int.toNat_natCast, decide_eq_true_eq, Int.ofNat_lt, Int.ofNat_le, if_true, if_false, Int.natCast_nonneg, decide_true, decide_false, Bool.not_true, Bool.not_false, Bool.false_eq_true, Bool.not_eq_true, Bool.true_and, Bool.and_true, Bool.false_and, Bool.and_false]
        by_cases c3 : x ≤ 9
        · have hi0 : 0 < i := by
            rcases Nat.eq_zero_or_pos i with h | h
            · have := h0 h; omega
            · exact h
          have hv' := h1 hi0
          have e : ((i : Int) - 1) = ((i - 1 : Nat) : Int) := by omega
          have hlt' : i - 1 < p.length := by omega
          have hge : p.getD (i - 1) 0 < x := by rw [← hv']; omega
          have hpos : (0 : Int) < i := by omega
          simp (disch := omega) only [e, ↓ar, bt, bo, aL, aP, aM, aC, aD, aE, bh, aH, aJ, aq, ao, aQ, al, aK, aG, bq, br, aN, aO, ae, Pu.w64, Int.toNat_natCast, decide_eq_true_eq, Int.ofNat_lt, Int.ofNat_le, if_true, if_false, Int.natCast_nonneg, decide_true, decide_false, Bool.not_true, Bool.not_false, Bool.false_eq_true, Bool.not_eq_true, Bool.true_and, Bool.and_true, Bool.false_and, Bool.and_false, hlt', c3, hpos, hge]
        · simp only [c3, ↓ar, bt, bo, aL, aP, aM, aC, aD, aE, bh, aH, aJ, aq, ao, aQ, al, aK, aG, bq, br, aN, aO, ae, Pu.w64, Int.toNat_natCast, decide_eq_true_eq, Int.ofNat_lt, Int.ofNat_le, if_true, if_false, Int.natCast_nonneg, decide_true, decide_false, Bool.not_true, Bool.not_false, Bool.false_eq_true, Bool.not_eq_true, Bool.true_and, Bool.and_true, Bool.false_and, Bool.and_false]
    · simp only [c1, ↓ar, bt, bo, aL, aP, aM, aC, aD, aE, bh, aH, aJ, aq, ao, aQ, al, aK, aG, bq, br, aN, aO, ae, Pu.w64, Int.toNat_natCast, decide_eq_true_eq, Int.ofNat_lt, Int.ofNat_le, if_true, if_false, Int.natCast_nonneg, decide_true, decide_false, Bool.not_true, Bool.not_false, Bool.false_eq_true, Bool.not_eq_true, Bool.true_and, Bool.and_true, Bool.false_and, Bool.and_false]
theorem aX.is {k : Nat} {p : List Int} (hk : 4194304 + 1 ≤ k) (hp : p.length ≤ 1048576) : aX k p = some (Pu.bN p) := by
  obtain ⟨k, rfl⟩ : ∃ k', k = k' + 1 := ⟨k - 1, by omega⟩
  rw [aX.eq]
  exact aX.loop (k := k) (by omega) hp p.length k 0 0 9 (by omega) (by omega) (fun _ => rfl) (by omega) (by omega) (by omega) (by omega)
theorem cd.loop {k : Nat} {q p : List Int} (hq : q.length ≤ 1048576) (hl : q.length ≤ p.length) (hk : q.length < k) : cd.L1 k k 0 q p = some ((List.range' 0 q.length).all fun i => decide (q.getD i 0 ≤ p.getD i 0)) := by
  have h := Pu.k9 (fun j i => cd.L1 k j (i : Int) q p) q.length (fun i => decide (q.getD i 0 ≤ p.getD i 0)) (some false) (some true)
    (fun j i hi => by
      have hi2 : i < p.length := by omega
      rw [cd.eV]
      simp (disch := omega) only [↓ar, bt, bo, aL, aP, aM, aC, aD, aE, bh, aH, aJ, aq, ao, aQ, al, aK, aG, bq, br, aN, aO, ae, Pu.w64, Int.toNat_natCast, decide_eq_true_eq, Int.ofNat_lt, Int.ofNat_le, if_true, if_false, Int.natCast_nonneg, decide_true, decide_false, Bool.not_true, Bool.not_false, Bool.false_eq_true, Bool.not_eq_true, Bool.true_and, Bool.and_true, Bool.false_and, Bool.and_false, hi, hi2, Int.natCast_add, Int.natCast_one]
      by_cases c : q.getD i 0 ≤ p.getD i 0
      · have c' : ¬ p.getD i 0 < q.getD i 0 := by omega
        simp only [c, c', ↓ar, bt, bo, aL, aP, aM, aC, aD, aE, bh, aH, aJ, aq, ao, aQ, al, aK, aG, bq, br, aN, aO, ae, Pu.w64, Int.toNat_natCast, decide_eq_true_eq, Int.ofNat_lt, Int.ofNat_le, if_true, if_false, Int.natCast_nonneg, decide_true, decide_false, Bool.not_true, Bool.not_false, Bool.false_eq_true, Bool.not_eq_true, Bool.true_and, Bool.and_true, Bool.false_and, Bool.and_false]
      · have c' : p.getD i 0 < q.getD i 0 := by omega
        simp only [c, c', ↓ar, bt, bo, aL, aP, aM, aC, aD, aE, bh, aH, aJ, aq, ao, aQ, al, aK, aG, bq, br, aN, aO, ae, Pu.w64, Int.toNat_natCast, decide_eq_true_eq, Int.ofNat_lt, Int.ofNat_le, if_true, if_false, Int.natCast_nonneg, decide_true, decide_false, Bool.not_true, Bool.not_false, Bool.false_eq_true, Bool.not_eq_true, Bool.true_and, Bool.and_true, Bool.false_and, Bool.and_false])
    (fun j => by
      rw [cd.eV]
      simp only [↓ar, bt, bo, aL, aP, aM, aC, aD, aE, bh, aH, aJ, aq, ao, aQ, al, aK, aG, bq, br, aN, aO, ae, Pu.w64, Int.toNat_natCast, decide_eq_true_eq, Int.ofNat_lt, Int.ofNat_le, if_true, if_false, Int.natCast_nonneg, decide_true, decide_false, Bool.not_true, Bool.not_false, Bool.false_eq_true, Bool.not_eq_true, Bool.true_and, Bool.and_true, Bool.false_and, Bool.and_false, Nat.lt_irrefl]) q.length k 0 (by omega) hk
  simp only [Int.natCast_zero] at h
  rw [h]
  cases (List.range' 0 q.length).all fun i => decide (q.getD i 0 ≤ p.getD i 0) <;> simp
theorem cd.is {k : Nat} {q p : List Int} (hk : 4194304 + 2 ≤ k) (hq : q.length ≤ 1048576) (hp : p.length ≤ 1048576) : cd k q p = some (Pu.dQ q p) := by
  obtain ⟨k, rfl⟩ : ∃ k', k = k' + 1 := ⟨k - 1, by omega⟩
  rw [cd.eq, aX.is (by omega) hq, ae, cd.fC]
  unfold Pu.dQ
  cases c1 : Pu.bN q with
  | false => simp only [↓ar, bt, bo, aL, aP, aM, aC, aD, aE, bh, aH, aJ, aq, ao, aQ, al, aK, aG, bq, br, aN, aO, ae, Pu.w64, Int.toNat_natCast, decide_eq_true_eq, Int.ofNat_lt, Int.ofNat_le, if_true, if_false, Int.natCast_nonneg, decide_true, decide_false, Bool.not_true, Bool.not_false, Bool.false_eq_true, Bool.not_eq_true, Bool.true_and, Bool.and_true, Bool.false_and, Bool.and_false]
  | true =>
    simp only [↓ar, bt, bo, aL, aP, aM, aC, aD, aE, bh, aH, aJ, aq, ao, aQ, al, aK, aG, bq, br, aN, aO, ae, Pu.w64, Int.toNat_natCast, decide_eq_true_eq, Int.ofNat_lt, Int.ofNat_le, if_true, if_false, Int.natCast_nonneg, decide_true, decide_false, Bool.not_true, Bool.not_false, Bool.false_eq_true, Bool.not_eq_true, Bool.true_and, Bool.and_true, Bool.false_and, Bool.and_false]
    rw [aX.is (by omega) hp, ae]
    cases c2 : Pu.bN p with
    | false => simp only [↓ar, bt, bo, aL, aP, aM, aC, aD, aE, bh, aH, aJ, aq, ao, aQ, al, aK, aG, bq, br, aN, aO, ae, Pu.w64, Int.toNat_natCast, decide_eq_true_eq, Int.ofNat_lt, Int.ofNat_le, if_true, if_false, Int.natCast_nonneg, decide_true, decide_false, Bool.not_true, Bool.not_false, Bool.false_eq_true, Bool.not_eq_true, Bool.true_and, Bool.and_true, Bool.false_and, Bool.and_false]
    | true =>
      simp only [↓ar, bt, bo, aL, aP, aM, aC, aD, aE, bh, aH, aJ, aq, ao, aQ, al, aK, aG, bq, br, aN, aO, ae, Pu.w64, Int.toNat_natCast, decide_eq_true_eq, Int.ofNat_lt, Int.ofNat_le, if_true, if_false, Int.natCast_nonneg, decide_true, decide_false, Bool.not_true, Bool.not_false, Bool.false_eq_true, Bool.not_eq_true, Bool.true_and, Bool.and_true, Bool.false_and, Bool.and_false]
      by_cases c3 : p.length < q.length
      · have c3' : ¬ q.length ≤ p.length := by omega
        simp only [c3, c3', ↓ar, bt, bo, aL, aP, aM, aC, aD, aE, bh, aH, aJ, aq, ao, aQ, al, aK, aG, bq, br, aN, aO, ae, Pu.w64, Int.toNat_natCast, decide_eq_true_eq, Int.ofNat_lt, Int.ofNat_le, if_true, if_false, Int.natCast_nonneg, decide_true, decide_false, Bool.not_true, Bool.not_false, Bool.false_eq_true, Bool.not_eq_true, Bool.true_and, Bool.and_true, Bool.false_and, Bool.and_false]
      · have c3' : q.length ≤ p.length := by omega
        simp only [c3, c3', ↓ar, bt, bo, aL, aP, aM, aC, aD, aE, bh, aH, aJ, aq, ao, aQ, al, aK, aG, bq, br, aN, aO, ae, Pu.w64, Int.toNat_natCast, decide_eq_true_eq, Int.ofNat_lt, Int.ofNat_le, if_true, if_false, Int.natCast_nonneg, decide_true, decide_false, Bool.not_true, Bool.not_false, Bool.false_eq_true, Bool.not_eq_true, Bool.true_and, Bool.and_true, Bool.false_and, Bool.and_false]
        exact cd.loop hq c3' (by omega)
theorem gq.is {k : Nat} {s : List Int × List Int} (hk : 4194304 + 3 ≤ k) (hq : s.1.length ≤ 1048576) (hp : s.2.length ≤ 1048576) : gq k s = some (Pu.dQ s.2 s.1) := by
  obtain ⟨k, rfl⟩ : ∃ k', k = k' + 1 := ⟨k - 1, by omega⟩
  rw [gq.eq, cd.is (by omega) hp hq]
  rfl
theorem bZ.loop {k : Nat} {t : Pu.Tab} {x3 x4 : List Int} (hk : 4194304 + 3 ≤ k) (hi : Pu.bN t.1 = true) (h2 : t.2.length ≤ 9) (hr : ∀ x ∈ t.2, x.length ≤ 1048576) : ∀ (m j i : Nat) (acc : List Int), i + m = t.2.length → m < j → acc.length = i →
    bZ.L1 k j i t.1 t.2 x3 x4 acc t.1 = some (if Pu.dQ t.1 (acc ++ Pu.fN t.1 i (t.2.drop i)) = true then ((acc ++ Pu.fN t.1 i (t.2.drop i), t.1), true) else (([], []), false))
  | m, 0, i, acc, _, hj, _ => by omega
  | 0, j + 1, i, acc, hm, _, hacc => by
    rw [bZ.eV]
    have e : i = t.2.length := by omega
    have h9 := (Pu.bn hi).2.2.1
    have hlt : ¬ i < t.2.length := by omega
    rw [gq.is (by omega) (by simp only; omega) (by simp only; omega), e]
    simp only [↓ar, bt, bo, aL, aP, aM, aC, aD, aE, bh, aH, aJ, aq, ao, aQ, al, aK, aG, bq, br, aN, aO, ae, Pu.w64, Int.toNat_natCast, decide_eq_true_eq, Int.ofNat_lt, Int.ofNat_le, if_true, if_false, Int.natCast_nonneg, decide_true, decide_false, Bool.not_true, Bool.not_false, Bool.false_eq_true, Bool.not_eq_true, Bool.true_and, Bool.and_true, Bool.false_and, Bool.and_false, Nat.lt_irrefl, List.drop_length, Pu.fN, List.append_nil]
    cases Pu.dQ t.1 acc <;> simp
  | m + 1, j + 1, i, acc, hm, hj, hacc => by
    rw [bZ.eV]
    have hlt : i < t.2.length := by omega
    have hb := Pu.cY hi i
    have hrow := hr t.2[i] (List.getElem_mem hlt)
    rw [← Pu.aB hlt []] at hrow
    rw [cO.is (by omega)]
    have ih := bZ.loop (x3 := x3) (x4 := x4) hk hi h2 hr m j (i + 1) (acc ++ [Pu.atI t.1 i + (t.2.getD i []).length]) (by omega) (by omega) (by simp [hacc])
    rw [Int.natCast_succ] at ih
    rw [Pu.drop_cons hlt []]
    have hl : (acc ++ [Pu.atI t.1 i + ((t.2.getD i []).length : Int)]).length ≤ 1099511627776 := by simp; omega
    simp (disch := omega) only [↓ar, bt, bo, aL, aP, aM, aC, aD, aE, bh, aH, aJ, aq, ao, aQ, al, aK, aG, bq, br, aN, aO, ae, Pu.w64, Int.toNat_natCast, decide_eq_true_eq, Int.ofNat_lt, Int.ofNat_le, if_true, if_false, Int.natCast_nonneg, decide_true, decide_false, Bool.not_true, Bool.not_false, Bool.false_eq_true, Bool.not_eq_true, Bool.true_and, Bool.and_true, Bool.false_and, Bool.and_false, hlt, hl, ih, Pu.fN]
    simp only [List.append_assoc, List.singleton_append, Pu.cm]
    rfl
theorem bZ.is {k : Nat} {t : Pu.Tab} (hk : 4194304 + 4 ≤ k) (h1 : t.1.length ≤ 1048576) (h2 : t.2.length ≤ 1048576) (hr : ∀ x ∈ t.2, x.length ≤ 1048576) : bZ k t = some (Pu.shapeOf t) := by
  obtain ⟨k, rfl⟩ : ∃ k', k = k' + 1 := ⟨k - 1, by omega⟩
  rw [bZ.eq, aX.is (by omega) h1, bZ.fC]
  have hl : t.1.length ≤ 1099511627776 := by omega
  simp only [↓ar, bt, bo, aL, aP, aM, aC, aD, aE, bh, aH, aJ, aq, ao, aQ, al, aK, aG, bq, br, aN, aO, ae, Pu.w64, Int.toNat_natCast, decide_eq_true_eq, Int.ofNat_lt, Int.ofNat_le, if_true, if_false, Int.natCast_nonneg, decide_true, decide_false, Bool.not_true, Bool.not_false, Bool.false_eq_true, Bool.not_eq_true, Bool.true_and, Bool.and_true, Bool.false_and, Bool.and_false, List.nil_append, hl]
  unfold Pu.shapeOf
  cases c1 : Pu.bN t.1 with
  | false =>
    have : Pu.dB t = false := by unfold Pu.dB; rw [c1]; rfl
    simp only [this, ↓ar, bt, bo, aL, aP, aM, aC, aD, aE, bh, aH, aJ, aq, ao, aQ, al, aK, aG, bq, br, aN, aO, ae, Pu.w64, Int.toNat_natCast, decide_eq_true_eq, Int.ofNat_lt, Int.ofNat_le, if_true, if_false, Int.natCast_nonneg, decide_true, decide_false, Bool.not_true, Bool.not_false, Bool.false_eq_true, Bool.not_eq_true, Bool.true_and, Bool.and_true, Bool.false_and, Bool.and_false]
  | true =>
    by_cases c2 : t.2.length < t.1.length
    · have : Pu.dB t = false := by
        have : ¬ t.1.length ≤ t.2.length := by omega
        unfold Pu.dB; simp [this]
      simp only [this, c2, ↓ar, bt, bo, aL, aP, aM, aC, aD, aE, bh, aH, aJ, aq, ao, aQ, al, aK, aG, bq, br, aN, aO, ae, Pu.w64, Int.toNat_natCast, decide_eq_true_eq, Int.ofNat_lt, Int.ofNat_le, if_true, if_false, Int.natCast_nonneg, decide_true, decide_false, Bool.not_true, Bool.not_false, Bool.false_eq_true, Bool.not_eq_true, Bool.true_and, Bool.and_true, Bool.false_and, Bool.and_false]
    · by_cases c3 : 9 < t.2.length
      · have : Pu.dB t = false := by
          cases h : Pu.dB t with
          | false => rfl
          | true => have := Pu.xU h; omega
        have c3' : (9 : Int) < t.2.length := by omega
        simp only [this, c2, c3', ↓ar, bt, bo, aL, aP, aM, aC, aD, aE, bh, aH, aJ, aq, ao, aQ, al, aK, aG, bq, br, aN, aO, ae, Pu.w64, Int.toNat_natCast, decide_eq_true_eq, Int.ofNat_lt, Int.ofNat_le, if_true, if_false, Int.natCast_nonneg, decide_true, decide_false, Bool.not_true, Bool.not_false, Bool.false_eq_true, Bool.not_eq_true, Bool.true_and, Bool.and_true, Bool.false_and, Bool.and_false]
      · have c3' : ¬ (9 : Int) < t.2.length := by omega
        have c2' : t.1.length ≤ t.2.length := by omega
        have hloop := bZ.loop (k := k) (t := t) (x3 := []) (x4 := []) (by omega) c1 (by omega) hr t.2.length k 0 [] (by omega) (by omega) rfl
        rw [Int.natCast_zero] at hloop
        simp only [c2, c3', ↓ar, bt, bo, aL, aP, aM, aC, aD, aE, bh, aH, aJ, aq, ao, aQ, al, aK, aG, bq, br, aN, aO, ae, Pu.w64, Int.toNat_natCast, decide_eq_true_eq, Int.ofNat_lt, Int.ofNat_le, if_true, if_false, Int.natCast_nonneg, decide_true, decide_false, Bool.not_true, Bool.not_false, Bool.false_eq_true, Bool.not_eq_true, Bool.true_and, Bool.and_true, Bool.false_and, Bool.and_false]
        rw [hloop]
        have : Pu.dB t = Pu.dQ t.1 (Pu.outer t) := by unfold Pu.dB; simp [c1, c2']
        rw [this]
        rfl
theorem aF.DB {k k1 k2 : Nat} {t : Pu.Tab} {r : Nat} {c x v : Int} {o n : List Int} (hk : 3 ≤ k) (hi : Pu.bN t.1 = true) (h1 : 0 ≤ c) (h2 : c ≤ 10000000) (hr : r ≤ 1048576) :
    aF.J2 k k1 k2 r c x v t.1 t.2 o n = if (Pu.within x 1 9 && (decide (v ≤ x) && decide (Pu.entry t ((r : Int) - 1) c < x))) = true then aF.L1 k k1 k2 r (c + 1) t.1 t.2 o n else some false := by
  have he := bP.is (k := k) (t := t) (r := (r : Int) - 1) (c := c) (by omega) hi (by omega) (by omega)
  rw [aF.j8, hO.is (by omega), aF.jd]
  simp (disch := omega) only [↓ar, bt, bo, aL, aP, aM, aC, aD, aE, bh, aH, aJ, aq, ao, aQ, al, aK, aG, bq, br, aN, aO, ae, Pu.w64, Int.toNat_natCast, decide_eq_true_eq, Int.ofNat_lt, Int.ofNat_le, if_true, if_false, Int.natCast_nonneg, decide_true, decide_false, Bool.not_true, Bool.not_false, Bool.false_eq_true, Bool.not_eq_true, Bool.true_and, Bool.and_true, Bool.false_and, Bool.and_false, he]
  cases Pu.within x 1 9 with
  | false => simp
  | true =>
    by_cases c1 : v ≤ x
    · have c1' : ¬ x < v := by omega
      by_cases c2 : Pu.entry t ((r : Int) - 1) c < x
      · have c2' : ¬ x ≤ Pu.entry t ((r : Int) - 1) c := by omega
        simp [c1, c1', c2, c2']
      · have c2' : x ≤ Pu.entry t ((r : Int) - 1) c := by omega
        simp [c1, c1', c2, c2']
    · have c1' : x < v := by omega
      simp [c1, c1']
theorem aF.inner {k k1 : Nat} {t : Pu.Tab} {r : Nat} {n : List Int} (hk : 4194304 ≤ k) (hi : Pu.bN t.1 = true) (ht : t.2.length ≤ 1048576) (hr : ∀ x ∈ t.2, x.length ≤ 1048576) (hlt : r < t.2.length) :
    aF.L1 k k1 k r (t.1.getD r 0) t.1 t.2 (Pu.outer t) n = if ((List.range' 0 (t.2.getD r []).length).all fun q => Pu.fm t r q) = true then aF.L0 k k1 ((r : Int) + 1) t.1 t.2 (Pu.outer t) n else some false := by
  have hx := hr _ (List.getElem_mem hlt)
  rw [← Pu.aB hlt []] at hx
  have hb := Pu.cY hi r
  rw [Pu.cm] at hb
  have hol : r < (Pu.outer t).length := by unfold Pu.outer; rw [Pu.kg]; exact hlt
  have ho : (Pu.outer t).getD r 0 = t.1.getD r 0 + ((t.2.getD r []).length : Int) := by
    have := Pu.e9 t.1 t.2 0 r hlt
    rw [Nat.zero_add] at this
    exact this
  have h := Pu.k9 (fun j q => aF.L1 k k1 j r (t.1.getD r 0 + (q : Int)) t.1 t.2 (Pu.outer t) n) (t.2.getD r []).length (fun q => Pu.fm t r q) (some false) (aF.L0 k k1 ((r : Int) + 1) t.1 t.2 (Pu.outer t) n)
    (fun j q hq => by
      rw [aF.eV]
      have hc : t.1.getD r 0 + (q : Int) < (Pu.outer t).getD r 0 := by rw [ho]; omega
      have e1 := bP.is (k := k) (t := t) (r := r) (c := t.1.getD r 0 + q) (by omega) hi (by omega) (by omega)
      have e2 := bP.is (k := k) (t := t) (r := r) (c := t.1.getD r 0 + q - 1) (by omega) hi (by omega) (by omega)
      rw [Pu.wS hlt] at e1
      rw [Pu.yF hlt] at e2
      have ej := fun v => aF.DB (k := k) (k1 := k1) (k2 := j) (t := t) (r := r) (c := t.1.getD r 0 + q) (x := (t.2.getD r []).getD q 0) (v := v) (o := Pu.outer t) (n := n) (by omega) hi (by omega) (by omega) (by omega)
      have en : t.1.getD r 0 + (q : Int) + 1 = t.1.getD r 0 + ((q + 1 : Nat) : Int) := by omega
      rw [en] at ej
      have key : ∀ v : Int, v = (if q = 0 then 0 else (t.2.getD r []).getD (q - 1) 0) → (Pu.within ((t.2.getD r []).getD q 0) 1 9 && (decide (v ≤ (t.2.getD r []).getD q 0) && decide (Pu.entry t ((r : Int) - 1) (t.1.getD r 0 + q) < (t.2.getD r []).getD q 0))) = Pu.fm t r q := by
        intro v hv
        unfold Pu.fm
        cases hw : Pu.within ((t.2.getD r []).getD q 0) 1 9 with
        | false => rfl
        | true =>
          have hw1 : 1 ≤ (t.2.getD r []).getD q 0 := by
            simp only [Pu.within, Bool.and_eq_true, decide_eq_true_eq] at hw; exact hw.1
          simp only [Bool.true_and]
          congr 1
          · by_cases e : q = 0
            · have : v ≤ (t.2.getD r []).getD q 0 := by rw [hv, if_pos e]; omega
              simp [e, this]
              simpa [e] using this
            · rw [hv, if_neg e]; simp [e]
          · by_cases e : r = 0
            · subst e
              rw [Pu.Ao (by omega), decide_eq_true (show (0 : Int) < (t.2.getD 0 []).getD q 0 by omega)]
              simp only [decide_true, Bool.true_or]
            · simp [e]
      by_cases hc0 : 0 < t.1.getD r 0 + (q : Int)
      · simp (disch := omega) only [↓ar, bt, bo, aL, aP, aM, aC, aD, aE, bh, aH, aJ, aq, ao, aQ, al, aK, aG, bq, br, aN, aO, ae, Pu.w64, Int.toNat_natCast, decide_eq_true_eq, Int.ofNat_lt, Int.ofNat_le, if_true, if_false, Int.natCast_nonneg, decide_true, decide_false, Bool.not_true, Bool.not_false, Bool.false_eq_true, Bool.not_eq_true, Bool.true_and, Bool.and_true, Bool.false_and, Bool.and_false, hol, hc, e1, hc0, e2, ej]
        rw [key _ rfl]
      · simp (disch := omega) only [↓ar, bt, bo, aL, aP, aM, aC, aD, aE, bh, aH, aJ, aq, ao, aQ, al, aK, aG, bq, br, aN, aO, ae, Pu.w64, Int.toNat_natCast, decide_eq_true_eq, Int.ofNat_lt, Int.ofNat_le, if_true, if_false, Int.natCast_nonneg, decide_true, decide_false, Bool.not_true, Bool.not_false, Bool.false_eq_true, Bool.not_eq_true, Bool.true_and, Bool.and_true, Bool.false_and, Bool.and_false, hol, hc, e1, hc0, ej]
        rw [key 0 (by have : q = 0 := by omega
                      rw [if_pos this])])
    (fun j => by
      rw [aF.eV]
      have hc : ¬ t.1.getD r 0 + ((t.2.getD r []).length : Int) < (Pu.outer t).getD r 0 := by rw [ho]; omega
      simp (disch := omega) only [↓ar, bt, bo, aL, aP, aM, aC, aD, aE, bh, aH, aJ, aq, ao, aQ, al, aK, aG, bq, br, aN, aO, ae, Pu.w64, Int.toNat_natCast, decide_eq_true_eq, Int.ofNat_lt, Int.ofNat_le, if_true, if_false, Int.natCast_nonneg, decide_true, decide_false, Bool.not_true, Bool.not_false, Bool.false_eq_true, Bool.not_eq_true, Bool.true_and, Bool.and_true, Bool.false_and, Bool.and_false, hol, hc]) (t.2.getD r []).length k 0 (by omega) (by omega)
  simp only [Int.natCast_zero, Int.add_zero] at h
  exact h
theorem aF.is {k : Nat} {t : Pu.Tab} (hk : 4194304 + 5 ≤ k) (h1 : t.1.length ≤ 1048576) (ht : t.2.length ≤ 1048576) (hr : ∀ x ∈ t.2, x.length ≤ 1048576) : aF k t = some (Pu.cz t) := by
  obtain ⟨k, rfl⟩ : ∃ k', k = k' + 1 := ⟨k - 1, by omega⟩
  rw [aF.eq, bZ.is (by omega) h1 ht hr, ae]
  unfold Pu.cz Pu.shapeOf
  cases hs : Pu.dB t with
  | false => simp [hs]
  | true =>
    have hi : Pu.bN t.1 = true := by
      simp only [Pu.dB, Bool.and_eq_true] at hs; exact hs.1
    have hol : (Pu.outer t).length = t.2.length := by unfold Pu.outer; rw [Pu.kg]
    have h := Pu.k9 (fun j r => aF.L0 k j r t.1 t.2 (Pu.outer t) t.1) t.2.length (fun r => (List.range' 0 (t.2.getD r []).length).all fun q => Pu.fm t r q) (some false) (some true)
      (fun j r hlt => by
        rw [aF.bS, cO.is (by omega), Pu.cm]
        simp (disch := omega) only [↓ar, bt, bo, aL, aP, aM, aC, aD, aE, bh, aH, aJ, aq, ao, aQ, al, aK, aG, bq, br, aN, aO, ae, Pu.w64, Int.toNat_natCast, decide_eq_true_eq, Int.ofNat_lt, Int.ofNat_le, if_true, if_false, Int.natCast_nonneg, decide_true, decide_false, Bool.not_true, Bool.not_false, Bool.false_eq_true, Bool.not_eq_true, Bool.true_and, Bool.and_true, Bool.false_and, Bool.and_false, hol, hlt, aF.inner (k1 := j) (n := t.1) (show 4194304 ≤ k by omega) hi ht hr hlt, Int.natCast_add, Int.natCast_one])
      (fun j => by
        rw [aF.bS]
        simp (disch := omega) only [↓ar, bt, bo, aL, aP, aM, aC, aD, aE, bh, aH, aJ, aq, ao, aQ, al, aK, aG, bq, br, aN, aO, ae, Pu.w64, Int.toNat_natCast, decide_eq_true_eq, Int.ofNat_lt, Int.ofNat_le, if_true, if_false, Int.natCast_nonneg, decide_true, decide_false, Bool.not_true, Bool.not_false, Bool.false_eq_true, Bool.not_eq_true, Bool.true_and, Bool.and_true, Bool.false_and, Bool.and_false, hol, Nat.lt_irrefl]) t.2.length k 0 (by omega) (by omega)
    simp only [Int.natCast_zero] at h
    simp only [if_true, ↓ar, bt, bo, aL, aP, aM, aC, aD, aE, bh, aH, aJ, aq, ao, aQ, al, aK, aG, bq, br, aN, aO, ae, Pu.w64, Int.toNat_natCast, decide_eq_true_eq, Int.ofNat_lt, Int.ofNat_le, if_true, if_false, Int.natCast_nonneg, decide_true, decide_false, Bool.not_true, Bool.not_false, Bool.false_eq_true, Bool.not_eq_true, Bool.true_and, Bool.and_true, Bool.false_and, Bool.and_false]
    rw [h]
    cases (List.range' 0 t.2.length).all fun r => (List.range' 0 (t.2.getD r []).length).all fun q => Pu.fm t r q <;> simp
theorem eD.ok {k : Nat} {m i h : Int} {b : List Int} (hk : 4194304 + 15 ≤ k) (hb : b.length ≤ 1048576) (hi : 0 ≤ i) (hi' : i ≤ b.length) (hm : 1 ≤ m) (hm' : m ≤ 9) :
    Pu.Ok (eD k m i h b) fun r => nL 9 9 9 r.1 ∧ 0 ≤ r.2.2.1 ∧ r.2.2.1 ≤ b.length := by
  obtain ⟨k, rfl⟩ : ∃ k', k = k' + 1 := ⟨k - 1, by omega⟩
  rw [eD.eq]
  refine Pu.Ok.bnd (bG.ok (by omega) hb hi hi' hm hm') ?_
  rintro ⟨⟨o, p⟩, _, i1, h1⟩ ⟨ho, hp, a4, a5⟩
  dsimp only at *
  refine Pu.Ok.bnd (ba.ok (by omega) hb a4 a5 ho hp) ?_
  rintro ⟨⟨q, rs⟩, _, i2, h2⟩ ⟨e2, hr, b4, b5⟩
  simp only at e2
  subst e2
  have ht : nL 9 9 9 ((q, rs) : Pu.Tab) := ⟨hp.1, hr⟩
  obtain ⟨c1, c2, c3⟩ := ht.tab (by omega) (by omega) (by omega)
  dsimp only
  refine Pu.Ok.nf (aF.is (by omega) c1 c2 c3) ?_
  refine Pu.Ok.tn (fun _ => Pu.Ok.ret ⟨⟨by simp, by simp, fun x hx => ?_⟩, b4, b5⟩) (fun _ => Pu.Ok.ret ⟨ht, b4, b5⟩)
  simp only [List.mem_cons, List.not_mem_nil, or_false] at hx
  rcases hx with rfl | rfl <;> simp
theorem cS.is {k : Nat} {l : List Int} {i h : Int} {b : List Int} (hk : 3 ≤ k) (hb : b.length ≤ 1048576) (hi : 0 ≤ i) (hi' : i ≤ b.length) (hl : 0 < l.length) (hl' : l.length ≤ 256) :
    ∃ r i' h', cS k i h l b = some (r, ((), (i', h'))) ∧ r ∈ l ∧ 0 ≤ i' ∧ i' ≤ b.length := by
  obtain ⟨k, rfl⟩ : ∃ k', k = k' + 1 := ⟨k - 1, by omega⟩
  rw [cS.eq]
  obtain ⟨r, i', h', e, h1, h2, h3, h4, h5⟩ := bD.is (k := k) (n := l.length) (h := h) (b := b) (by omega) hb hi hi' (by omega)
  have h3 := h3 (by omega)
  have hn : r.toNat < l.length := by omega
  refine ⟨l.getD r.toNat 0, i', h', ?_, ?_, h4, h5⟩
  · simp only [↓ar, bt, bo, aL, aP, aM, aC, aD, aE, bh, aH, aJ, aq, ao, aQ, al, aK, aG, bq, br, aN, aO, ae, Pu.w64, Int.toNat_natCast, decide_eq_true_eq, Int.ofNat_lt, Int.ofNat_le, if_true, if_false, Int.natCast_nonneg, decide_true, decide_false, Bool.not_true, Bool.not_false, Bool.false_eq_true, Bool.not_eq_true, Bool.true_and, Bool.and_true, Bool.false_and, Bool.and_false, e, h1, hn]
  · rw [Pu.aB hn 0]; exact List.getElem_mem hn
theorem dA.ok {k : Nat} {m i h : Int} {b : List Int} (hk : 4194304 + 16 ≤ k) (hb : b.length ≤ 1048576) (hi : 0 ≤ i) (hi' : i ≤ b.length) (hm : 1 ≤ m) (hm' : m ≤ 9) :
    Pu.Ok (dA k m i h b) fun r => nL 10 9 10 r.1 ∧ 0 ≤ r.2.2.1 ∧ r.2.2.1 ≤ b.length := by
  obtain ⟨k, rfl⟩ : ∃ k', k = k' + 1 := ⟨k - 1, by omega⟩
  rw [dA.eq]
  refine Pu.Ok.bnd (eD.ok (by omega) hb hi hi' hm hm') ?_
  rintro ⟨⟨q, rs⟩, _, i1, h1⟩ ⟨⟨hq, hr⟩, a4, a5⟩
  dsimp only at *
  have hr' : Pu.dk 9 10 rs := hr.mono (by omega) (by omega)
  simp only [bt, bo, aL, aP, aM, aC, aD, aE, bh, aH, aJ, aq, ao, aQ, al, aK, aG, oY, bq, br, aN, aO, lR, lT, kn, ir, List.nil_append, List.cons_append]
  refine Pu.Ok.t (fun _ => Pu.Ok.ret ⟨⟨by dsimp only; omega, hr'⟩, a4, a5⟩) (fun h0 => ?_)
  have hlen := hr.1
  obtain ⟨r, i2, h2, e2, b1, b2, b3, b4, b5⟩ := bD.is (k := k) (n := rs.length) (h := h1) (b := b) (by omega) hb a4 a5 (by omega)
  have b3 := b3 (by omega)
  obtain ⟨r', i3, h3, e3, c1, c2, c3, c4, c5⟩ := bD.is (k := k) (n := 16) (h := h2) (b := b) (by omega) hb b4 b5 (by omega)
  refine Pu.Ok.nf e2 ?_
  dsimp only
  refine Pu.Ok.nf e3 ?_
  dsimp only
  have hrow := hr.at r.toNat
  refine Pu.Ok.t (fun _ => ?_) (fun _ => Pu.Ok.t (fun _ => ?_) (fun _ => Pu.Ok.t (fun _ => ?_) (fun _ => Pu.Ok.ret ⟨⟨by dsimp only; omega, hr'⟩, c4, c5⟩)))
  · (repeat (refine Pu.Ok.g (by first | omega | assumption | (simp only [List.length_append, List.length_cons, List.length_nil, List.length_set, List.length_take, List.length_drop, List.length_replicate] at *; omega)) ?_))
    obtain ⟨x, i4, h4, e4, d1, d4, d5⟩ := cS.is (k := k) (l := [0, 9, 10, -1]) (h := h3) (b := b) (by omega) hb c4 c5 (by simp) (by simp)
    refine Pu.Ok.nf e4 ?_
    dsimp only
    (repeat (refine Pu.Ok.g (by first | omega | assumption | (simp only [List.length_append, List.length_cons, List.length_nil, List.length_set, List.length_take, List.length_drop, List.length_replicate] at *; omega)) ?_))
    refine Pu.Ok.g trivial (Pu.Ok.ret ⟨⟨by dsimp only; omega, hr'.set _ ?_⟩, d4, d5⟩)
    rw [List.length_append, List.length_singleton]; omega
  · (repeat (refine Pu.Ok.g (by first | omega | assumption | (simp only [List.length_append, List.length_cons, List.length_nil, List.length_set, List.length_take, List.length_drop, List.length_replicate] at *; omega)) ?_))
    refine Pu.Ok.t (fun hz => ?_) (fun _ => Pu.Ok.ret ⟨⟨by dsimp only; omega, hr'⟩, c4, c5⟩)
    have hz' : (0 : Int).toNat < (rs.getD r.toNat []).length := by
      show 0 < _
      omega
    (repeat (refine Pu.Ok.g (by first | omega | assumption | (simp only [List.length_append, List.length_cons, List.length_nil, List.length_set, List.length_take, List.length_drop, List.length_replicate] at *; omega)) ?_))
    refine Pu.Ok.ret ⟨⟨by dsimp only; omega, hr'.set _ ?_⟩, c4, c5⟩
    rw [List.length_set]; omega
  · obtain ⟨x, i4, h4, e4, d1, d4, d5⟩ := cS.is (k := k) (l := [1, 0, -1, 9]) (h := h3) (b := b) (by omega) hb c4 c5 (by simp) (by simp)
    refine Pu.Ok.nf e4 ?_
    dsimp only
    (repeat (refine Pu.Ok.g (by first | omega | assumption | (simp only [List.length_append, List.length_cons, List.length_nil, List.length_set, List.length_take, List.length_drop, List.length_replicate] at *; omega)) ?_))
    refine Pu.Ok.ret ⟨⟨?_, hr'⟩, d4, d5⟩
    dsimp only
    rw [List.length_append, List.length_singleton]; omega
theorem bL.loop {k : Nat} {z : Int} {b : List Int} {e : List Int} {d : List (List Int)} (hb : b.length ≤ 1048576) : ∀ (m0 j i : Nat) (h : Int), i + m0 = 4000 → m0 < j → ∃ h', bL.L0 k j h i z b e d = bL.J2 k h' z b e d
  | m0, 0, i, h, _, hj => by omega
  | 0, j + 1, i, h, hi, _ => by
    rw [bL.bS, Pu.lM, Pu.lM]
    have h4 : ¬ (i : Int) < 4000 := by omega
    refine ⟨h, ?_⟩
    rw [if_neg h4, ite_self]
  | m0 + 1, j + 1, i, h, hi, hj => by
    rw [bL.bS, Pu.lM, Pu.lM]
    have h4 : (i : Int) < 4000 := by omega
    by_cases hlt : i < b.length
    · have ew : IntKind.i64.wrap ((i : Int) + 1) = ((i + 1 : Nat) : Int) := by rw [Pu.w64 (by omega) (by omega)]; omega
      have hlt' : (i : Int) < D.ofN (D.len b) := by show (i : Int) < (b.length : Int); omega
      rw [if_pos hlt', if_pos h4, bL.eP]
      obtain ⟨h', ih⟩ := bL.loop (k := k) (z := z) (e := e) (d := d) hb m0 j (i + 1) (D.andI .i64 (D.wrap .i64 (D.add (D.wrap .i64 (D.add (D.wrap .i64 (D.mul h 131)) (D.wrap .i64 (D.rd b (D.nat (i : Int)) 0)))) 7)) 1073741823) (by omega) (by omega)
      refine ⟨h', ?_⟩
      have t1 : D.le 0 (i : Int) = true := decide_eq_true (by omega)
      have t2 : D.ltN (D.nat (i : Int)) (D.len b) = true := decide_eq_true (by show (i : Int).toNat < b.length; omega)
      rw [ar, if_pos t1, ar, if_pos t2, ar, if_pos t2]
      have ew' : D.wrap .i64 (D.add (i : Int) 1) = ((i + 1 : Nat) : Int) := ew
      rw [ew']
      exact ih
    · have hlt' : ¬ (i : Int) < D.ofN (D.len b) := by show ¬ (i : Int) < (b.length : Int); omega
      exact ⟨h, by rw [if_neg hlt']⟩
theorem bL.ok {k : Nat} {b : List Int} (hk : 4194304 + 20 ≤ k) (hb : b.length ≤ 1048576) : Pu.Ok (bL k b) fun r => nL 10 9 10 r.1 := by
  obtain ⟨k, rfl⟩ : ∃ k', k = k' + 2 := ⟨k - 2, by omega⟩
  rw [bL.eq]
  obtain ⟨h', e⟩ := bL.loop (k := k) (z := 0) (e := ([] : List Int)) (d := ([] : List (List Int))) hb 4000 k 0 (D.wrap .i64 (D.add 26583 (D.ofN (D.len b)))) (by omega) (by omega)
  rw [Int.natCast_zero] at e
  rw [e, bL.j8]
  refine Pu.Ok.bnd (dA.ok (by show _ ≤ k + 1; omega) hb (by omega) (by omega) (by omega) (by omega)) ?_
  rintro ⟨⟨q, rs⟩, _, i1, h1⟩ ⟨ht, a4, a5⟩
  dsimp only at *
  obtain ⟨r2, i2, h2, e2, _, _, _, b4, b5⟩ := bD.is (k := HAdd.hAdd k 1) (n := 5) (h := h1) (b := b) (by show _ ≤ k + 1; omega) hb a4 a5 (by omega)
  refine Pu.Ok.nf e2 ?_
  dsimp only
  obtain ⟨r3, i3, h3, e3, c4, c5⟩ := cR.is (k := HAdd.hAdd k 1) (n := 8) (h := h2) (b := b) (by show _ ≤ k + 1; omega) hb b4 b5 (by omega)
  refine Pu.Ok.nf e3 ?_
  dsimp only
  refine Pu.Ok.nf (gA.is (by show _ ≤ k + 1; omega)) ?_
  exact Pu.Ok.ret ht
theorem dW.ok {k : Nat} {b : List Int} (hk : 4194304 + 22 ≤ k) (hb : b.length ≤ 1048576) : Pu.Ok (dW k b) fun r => nL 10 9 10 r.1 := by
  obtain ⟨k, rfl⟩ : ∃ k', k = k' + 2 := ⟨k - 2, by omega⟩
  rw [dW.eq]
  exact Pu.Ok.bnd (bL.ok (by show _ ≤ k + 1; omega) hb) fun r h => Pu.Ok.ret h
theorem cI.is {k : Nat} {x lo hi : Int} (hk : 1 ≤ k) : cI k x lo hi = some (Pu.within x lo hi) := by
  obtain ⟨k, rfl⟩ : ∃ k', k = k' + 1 := ⟨k - 1, by omega⟩
  rw [cI.eq]
  by_cases h : lo ≤ x <;> simp [Pu.within, h]
theorem aZ.loop {k : Nat} {p : List Int} (hk : 4194304 ≤ k) (hp : p.length ≤ 1048576) : ∀ (m j i : Nat) (s v : Int), i + m = p.length → m < j → (i = 0 → v = 9) → (0 < i → v = p.getD (i - 1) 0) → v ≤ 9 → 0 ≤ s → s ≤ 9 →
    aZ.L0 k j s p.length i p = some (Pu.gC (p.drop i) v s)
  | m, 0, i, s, v, _, hj, _, _, _, _, _ => by omega
  | 0, j + 1, i, s, v, hi, _, _, _, _, _, _ => by
    rw [aZ.bS]
    have e : i = p.length := by omega
    subst e
    simp [Pu.gC]
  | m + 1, j + 1, i, s, v, hi, hj, h0, h1, hv, hs, hs9 => by
    rw [aZ.bS]
    have hlt : i < p.length := by omega
    have hj1 : ∀ x : Int, x = p.getD i 0 → 1 ≤ x → x ≤ v → aZ.J1 k j s x p.length i p = some (decide (s + x ≤ 9) && Pu.gC (p.drop (i + 1)) x (s + x)) := by
      intro x hx hx1 hx2
      rw [aZ.eP]
      simp (disch := omega) only [↓ar, bt, bo, aL, aP, aM, aC, aD, aE, bh, aH, aJ, aq, ao, aQ, al, aK, aG, bq, br, aN, aO, ae, Pu.w64, Int.toNat_natCast, decide_eq_true_eq, Int.ofNat_lt, Int.ofNat_le, if_true, if_false, Int.natCast_nonneg, decide_true, decide_false, Bool.not_true, Bool.not_false, Bool.false_eq_true, Bool.not_eq_true, Bool.true_and, Bool.and_true, Bool.false_and, Bool.and_false]
      by_cases c : 9 < s + x
      · have : ¬ s + x ≤ 9 := by omega
        simp [c, this]
      · have c' : s + x ≤ 9 := by omega
        have ih := aZ.loop hk hp m j (i + 1) (s + x) x (by omega) (by omega) (by omega) (by simp [hx]) (by omega) (by omega) c'
        rw [Int.natCast_succ] at ih
        simp [c, c', ih]
    rw [Pu.drop_cons hlt 0]
    simp (disch := omega) only [↓ar, bt, bo, aL, aP, aM, aC, aD, aE, bh, aH, aJ, aq, ao, aQ, al, aK, aG, bq, br, aN, aO, ae, Pu.w64, Int.toNat_natCast, decide_eq_true_eq, Int.ofNat_lt, Int.ofNat_le, if_true, if_false, Int.natCast_nonneg, decide_true, decide_false, Bool.not_true, Bool.not_false, Bool.false_eq_true, Bool.not_eq_true, Bool.true_and, Bool.and_true, Bool.false_and, Bool.and_false, hlt, cI.is, Pu.gC]
    generalize hx : p.getD i 0 = x at *
    unfold Pu.within
    by_cases c1 : 1 ≤ x
    · by_cases c2 : x ≤ v
      · have c3 : x ≤ 9 := by omega
        have hj := hj1 x rfl c1 c2
        by_cases hi0 : i = 0
        · have hpos : ¬ (0 : Int) < i := by omega
          simp (disch := omega) only [↓ar, bt, bo, aL, aP, aM, aC, aD, aE, bh, aH, aJ, aq, ao, aQ, al, aK, aG, bq, br, aN, aO, ae, Pu.w64, Int.toNat_natCast, decide_eq_true_eq, Int.ofNat_lt, Int.ofNat_le, if_true, if_false, Int.natCast_nonneg, decide_true, decide_false, Bool.not_true, Bool.not_false, Bool.false_eq_true, Bool.not_eq_true, Bool.true_and, Bool.and_true, Bool.false_and, Bool.and_false, c1, c2, c3, hpos, hj]
        · have hv' := h1 (by omega)
          have e : ((i : Int) - 1) = ((i - 1 : Nat) : Int) := by omega
          have hlt' : i - 1 < p.length := by omega
          have hge : ¬ p.getD (i - 1) 0 < x := by rw [← hv']; omega
          have hpos : (0 : Int) < i := by omega
          simp (disch := omega) only [e, ↓ar, bt, bo, aL, aP, aM, aC, aD, aE, bh, aH, aJ, aq, ao, aQ, al, aK, aG, bq, br, aN, aO, ae, Pu.w64, Int.toNat_natCast, decide_eq_true_eq, Int.ofNat_lt, Int.ofNat_le, if_true, if_false, Int.natCast_nonneg, decide_true, decide_false, Bool.not_true, Bool.not_false, Bool.false_eq_true, Bool.not_eq_true, Bool.true_and, Bool.and_true, Bool.false_and, Bool.and_false, hlt', c1, c2, c3, hj, hpos, hge]
      · simp only [c1, c2, ↓ar, bt, bo, aL, aP, aM, aC, aD, aE, bh, aH, aJ, aq, ao, aQ, al, aK, aG, bq, br, aN, aO, ae, Pu.w64, Int.toNat_natCast, decide_eq_true_eq, Int.ofNat_lt, Int.ofNat_le, if_true, if_false, Int.natCast_nonneg, decide_true, decide_false, Bool.not_true, Bool.not_false, Bool.false_eq_true, Bool.not_eq_true, Bool.true_and, Bool.and_true, Bool.false_and, Bool.and_false]
        by_cases c3 : x ≤ 9
        · have hi0 : 0 < i := by
            rcases Nat.eq_zero_or_pos i with h | h
            · have := h0 h; omega
            · exact h
          have hv' := h1 hi0
          have e : ((i : Int) - 1) = ((i - 1 : Nat) : Int) := by omega
          have hlt' : i - 1 < p.length := by omega
          have hge : p.getD (i - 1) 0 < x := by rw [← hv']; omega
          have hpos : (0 : Int) < i := by omega
          simp (disch := omega) only [e, ↓ar, bt, bo, aL, aP, aM, aC, aD, aE, bh, aH, aJ, aq, ao, aQ, al, aK, aG, bq, br, aN, aO, ae, Pu.w64, Int.toNat_natCast, decide_eq_true_eq, Int.ofNat_lt, Int.ofNat_le, if_true, if_false, Int.natCast_nonneg, decide_true, decide_false, Bool.not_true, Bool.not_false, Bool.false_eq_true, Bool.not_eq_true, Bool.true_and, Bool.and_true, Bool.false_and, Bool.and_false, hlt', c3, hpos, hge]
        · simp only [c3, ↓ar, bt, bo, aL, aP, aM, aC, aD, aE, bh, aH, aJ, aq, ao, aQ, al, aK, aG, bq, br, aN, aO, ae, Pu.w64, Int.toNat_natCast, decide_eq_true_eq, Int.ofNat_lt, Int.ofNat_le, if_true, if_false, Int.natCast_nonneg, decide_true, decide_false, Bool.not_true, Bool.not_false, Bool.false_eq_true, Bool.not_eq_true, Bool.true_and, Bool.and_true, Bool.false_and, Bool.and_false]
    · simp only [c1, ↓ar, bt, bo, aL, aP, aM, aC, aD, aE, bh, aH, aJ, aq, ao, aQ, al, aK, aG, bq, br, aN, aO, ae, Pu.w64, Int.toNat_natCast, decide_eq_true_eq, Int.ofNat_lt, Int.ofNat_le, if_true, if_false, Int.natCast_nonneg, decide_true, decide_false, Bool.not_true, Bool.not_false, Bool.false_eq_true, Bool.not_eq_true, Bool.true_and, Bool.and_true, Bool.false_and, Bool.and_false]
theorem aZ.is {k : Nat} {p : List Int} (hk : 4194304 + 1 ≤ k) (hp : p.length ≤ 1048576) : aZ k p = some (Pu.bN p) := by
  obtain ⟨k, rfl⟩ : ∃ k', k = k' + 1 := ⟨k - 1, by omega⟩
  rw [aZ.eq]
  exact aZ.loop (k := k) (by omega) hp p.length k 0 0 9 (by omega) (by omega) (fun _ => rfl) (by omega) (by omega) (by omega) (by omega)
theorem bF.is {k : Nat} {a : List Int} (hk : 1 ≤ k) (ha : a.length ≤ 1099511627776) : bF k a = some a := by
  obtain ⟨k, rfl⟩ : ∃ k', k = k' + 1 := ⟨k - 1, by omega⟩
  rw [bF.eq]
  by_cases h : a.length = 0
  · have : a = [] := List.eq_nil_of_length_eq_zero h
    subst this
    simp [C1, AD]
  · simp [h, ha]
theorem dO.is {k : Nat} {p : List Int} {i : Int} (hk : 2 ≤ k) (hp : p.length ≤ 1048576) : dO k p i = some (Pu.atI p i) := by
  obtain ⟨k, rfl⟩ : ∃ k', k = k' + 1 := ⟨k - 1, by omega⟩
  rw [dO.eq, cI.is (by omega)]
  unfold Pu.within
  by_cases h1 : 0 ≤ i
  · have h0 : ¬ i < 0 := by omega
    by_cases h2 : i ≤ (p.length : Int) - 1
    · have h4 : i.toNat < p.length := by omega
      simp (disch := omega) only [↓ar, bt, bo, aL, aP, aM, aC, aD, aE, bh, aH, aJ, aq, ao, aQ, al, aK, aG, bq, br, aN, aO, ae, Pu.w64, Int.toNat_natCast, decide_eq_true_eq, Int.ofNat_lt, Int.ofNat_le, if_true, if_false, Int.natCast_nonneg, decide_true, decide_false, Bool.not_true, Bool.not_false, Bool.false_eq_true, Bool.not_eq_true, Bool.true_and, Bool.and_true, Bool.false_and, Bool.and_false, h0, h1, h2, h4, Pu.atI]
    · simp (disch := omega) only [↓ar, bt, bo, aL, aP, aM, aC, aD, aE, bh, aH, aJ, aq, ao, aQ, al, aK, aG, bq, br, aN, aO, ae, Pu.w64, Int.toNat_natCast, decide_eq_true_eq, Int.ofNat_lt, Int.ofNat_le, if_true, if_false, Int.natCast_nonneg, decide_true, decide_false, Bool.not_true, Bool.not_false, Bool.false_eq_true, Bool.not_eq_true, Bool.true_and, Bool.and_true, Bool.false_and, Bool.and_false, h1, h2, Pu.yq (p := p) (i := i) (by omega)]
  · simp (disch := omega) only [↓ar, bt, bo, aL, aP, aM, aC, aD, aE, bh, aH, aJ, aq, ao, aQ, al, aK, aG, bq, br, aN, aO, ae, Pu.w64, Int.toNat_natCast, decide_eq_true_eq, Int.ofNat_lt, Int.ofNat_le, if_true, if_false, Int.natCast_nonneg, decide_true, decide_false, Bool.not_true, Bool.not_false, Bool.false_eq_true, Bool.not_eq_true, Bool.true_and, Bool.and_true, Bool.false_and, Bool.and_false, h1, Pu.lG (p := p) (i := i) (by omega)]
theorem cg.loop {k : Nat} {q p : List Int} (hq : q.length ≤ 1048576) (hp : p.length ≤ 1048576) (hk : 4194304 + 2 ≤ k) : cg.L1 k k q.length 0 p q = some ((List.range' 0 q.length).all fun i => decide (q.getD i 0 ≤ p.getD i 0)) := by
  have h := Pu.k9 (fun j i => cg.L1 k j q.length (i : Int) p q) q.length (fun i => decide (q.getD i 0 ≤ p.getD i 0)) (some false) (some true)
    (fun j i hi => by
      rw [cg.eV, dO.is (by omega) hp, Pu.cm]
      simp (disch := omega) only [↓ar, bt, bo, aL, aP, aM, aC, aD, aE, bh, aH, aJ, aq, ao, aQ, al, aK, aG, bq, br, aN, aO, ae, Pu.w64, Int.toNat_natCast, decide_eq_true_eq, Int.ofNat_lt, Int.ofNat_le, if_true, if_false, Int.natCast_nonneg, decide_true, decide_false, Bool.not_true, Bool.not_false, Bool.false_eq_true, Bool.not_eq_true, Bool.true_and, Bool.and_true, Bool.false_and, Bool.and_false, hi, Int.natCast_add, Int.natCast_one]
      by_cases c : q.getD i 0 ≤ p.getD i 0
      · have c' : ¬ p.getD i 0 < q.getD i 0 := by omega
        simp only [c, c', ↓ar, bt, bo, aL, aP, aM, aC, aD, aE, bh, aH, aJ, aq, ao, aQ, al, aK, aG, bq, br, aN, aO, ae, Pu.w64, Int.toNat_natCast, decide_eq_true_eq, Int.ofNat_lt, Int.ofNat_le, if_true, if_false, Int.natCast_nonneg, decide_true, decide_false, Bool.not_true, Bool.not_false, Bool.false_eq_true, Bool.not_eq_true, Bool.true_and, Bool.and_true, Bool.false_and, Bool.and_false]
      · have c' : p.getD i 0 < q.getD i 0 := by omega
        simp only [c, c', ↓ar, bt, bo, aL, aP, aM, aC, aD, aE, bh, aH, aJ, aq, ao, aQ, al, aK, aG, bq, br, aN, aO, ae, Pu.w64, Int.toNat_natCast, decide_eq_true_eq, Int.ofNat_lt, Int.ofNat_le, if_true, if_false, Int.natCast_nonneg, decide_true, decide_false, Bool.not_true, Bool.not_false, Bool.false_eq_true, Bool.not_eq_true, Bool.true_and, Bool.and_true, Bool.false_and, Bool.and_false])
    (fun j => by
      rw [cg.eV]
      simp only [↓ar, bt, bo, aL, aP, aM, aC, aD, aE, bh, aH, aJ, aq, ao, aQ, al, aK, aG, bq, br, aN, aO, ae, Pu.w64, Int.toNat_natCast, decide_eq_true_eq, Int.ofNat_lt, Int.ofNat_le, if_true, if_false, Int.natCast_nonneg, decide_true, decide_false, Bool.not_true, Bool.not_false, Bool.false_eq_true, Bool.not_eq_true, Bool.true_and, Bool.and_true, Bool.false_and, Bool.and_false, Nat.lt_irrefl]) q.length k 0 (by omega) (by omega)
  simp only [Int.natCast_zero] at h
  rw [h]
  cases (List.range' 0 q.length).all fun i => decide (q.getD i 0 ≤ p.getD i 0) <;> simp
theorem cg.is {k : Nat} {q p : List Int} (hk : 4194304 + 3 ≤ k) (hq : q.length ≤ 1048576) (hp : p.length ≤ 1048576) : cg k q p = some (Pu.dQ q p) := by
  obtain ⟨k, rfl⟩ : ∃ k', k = k' + 1 := ⟨k - 1, by omega⟩
  rw [cg.eq, aZ.is (by omega) hq, ae, cg.fC, Pu.xJ]
  cases c1 : Pu.bN q with
  | false => simp only [↓ar, bt, bo, aL, aP, aM, aC, aD, aE, bh, aH, aJ, aq, ao, aQ, al, aK, aG, bq, br, aN, aO, ae, Pu.w64, Int.toNat_natCast, decide_eq_true_eq, Int.ofNat_lt, Int.ofNat_le, if_true, if_false, Int.natCast_nonneg, decide_true, decide_false, Bool.not_true, Bool.not_false, Bool.false_eq_true, Bool.not_eq_true, Bool.true_and, Bool.and_true, Bool.false_and, Bool.and_false]
  | true =>
    simp only [↓ar, bt, bo, aL, aP, aM, aC, aD, aE, bh, aH, aJ, aq, ao, aQ, al, aK, aG, bq, br, aN, aO, ae, Pu.w64, Int.toNat_natCast, decide_eq_true_eq, Int.ofNat_lt, Int.ofNat_le, if_true, if_false, Int.natCast_nonneg, decide_true, decide_false, Bool.not_true, Bool.not_false, Bool.false_eq_true, Bool.not_eq_true, Bool.true_and, Bool.and_true, Bool.false_and, Bool.and_false]
    rw [aZ.is (by omega) hp, ae]
    cases c2 : Pu.bN p with
    | false => simp only [↓ar, bt, bo, aL, aP, aM, aC, aD, aE, bh, aH, aJ, aq, ao, aQ, al, aK, aG, bq, br, aN, aO, ae, Pu.w64, Int.toNat_natCast, decide_eq_true_eq, Int.ofNat_lt, Int.ofNat_le, if_true, if_false, Int.natCast_nonneg, decide_true, decide_false, Bool.not_true, Bool.not_false, Bool.false_eq_true, Bool.not_eq_true, Bool.true_and, Bool.and_true, Bool.false_and, Bool.and_false]
    | true =>
      simp only [↓ar, bt, bo, aL, aP, aM, aC, aD, aE, bh, aH, aJ, aq, ao, aQ, al, aK, aG, bq, br, aN, aO, ae, Pu.w64, Int.toNat_natCast, decide_eq_true_eq, Int.ofNat_lt, Int.ofNat_le, if_true, if_false, Int.natCast_nonneg, decide_true, decide_false, Bool.not_true, Bool.not_false, Bool.false_eq_true, Bool.not_eq_true, Bool.true_and, Bool.and_true, Bool.false_and, Bool.and_false]
      exact cg.loop hq hp (by omega)
theorem gu.is {k : Nat} {s : List Int × List Int} (hk : 4194304 + 4 ≤ k) (hq : s.1.length ≤ 1048576) (hp : s.2.length ≤ 1048576) : gu k s = some (Pu.dQ s.2 s.1) := by
  obtain ⟨k, rfl⟩ : ∃ k', k = k' + 1 := ⟨k - 1, by omega⟩
  rw [gu.eq, cg.is (by omega) hp hq]
  rfl
theorem ca.loop {k : Nat} {t : Pu.Tab} {x3 x4 : List Int} (hk : 4194304 + 4 ≤ k) (hi : Pu.bN t.1 = true) (h2 : t.2.length ≤ 1048576) (hr : ∀ x ∈ t.2, x.length ≤ 1048576) : ∀ (m j i : Nat) (acc : List Int), i + m = t.2.length → m < j → acc.length = i →
    ca.L1 k j t.2.length i t.2 t.1 x3 x4 acc t.1 = some (if Pu.dQ t.1 (acc ++ Pu.fN t.1 i (t.2.drop i)) = true then ((acc ++ Pu.fN t.1 i (t.2.drop i), t.1), true) else (([], []), false))
  | m, 0, i, acc, _, hj, _ => by omega
  | 0, j + 1, i, acc, hm, _, hacc => by
    rw [ca.eV]
    have e : i = t.2.length := by omega
    have h9 := (Pu.bn hi).2.2.1
    have hlt : ¬ i < t.2.length := by omega
    rw [gu.is (by omega) (by simp only; omega) (by simp only; omega), e]
    simp only [↓ar, bt, bo, aL, aP, aM, aC, aD, aE, bh, aH, aJ, aq, ao, aQ, al, aK, aG, bq, br, aN, aO, ae, Pu.w64, Int.toNat_natCast, decide_eq_true_eq, Int.ofNat_lt, Int.ofNat_le, if_true, if_false, Int.natCast_nonneg, decide_true, decide_false, Bool.not_true, Bool.not_false, Bool.false_eq_true, Bool.not_eq_true, Bool.true_and, Bool.and_true, Bool.false_and, Bool.and_false, Nat.lt_irrefl, List.drop_length, Pu.fN, List.append_nil]
    cases Pu.dQ t.1 acc <;> simp
  | m + 1, j + 1, i, acc, hm, hj, hacc => by
    rw [ca.eV]
    have hlt : i < t.2.length := by omega
    have hb := Pu.cY hi i
    have h9 := (Pu.bn hi).2.2.1
    have hrow := hr t.2[i] (List.getElem_mem hlt)
    rw [← Pu.aB hlt []] at hrow
    rw [dO.is (by omega) (by omega)]
    have ih := ca.loop (x3 := x3) (x4 := x4) hk hi h2 hr m j (i + 1) (acc ++ [Pu.atI t.1 i + (t.2.getD i []).length]) (by omega) (by omega) (by simp [hacc])
    rw [Int.natCast_succ] at ih
    rw [Pu.drop_cons hlt []]
    have hl : (acc ++ [Pu.atI t.1 i + ((t.2.getD i []).length : Int)]).length ≤ 1099511627776 := by simp; omega
    simp (disch := omega) only [↓ar, bt, bo, aL, aP, aM, aC, aD, aE, bh, aH, aJ, aq, ao, aQ, al, aK, aG, bq, br, aN, aO, ae, Pu.w64, Int.toNat_natCast, decide_eq_true_eq, Int.ofNat_lt, Int.ofNat_le, if_true, if_false, Int.natCast_nonneg, decide_true, decide_false, Bool.not_true, Bool.not_false, Bool.false_eq_true, Bool.not_eq_true, Bool.true_and, Bool.and_true, Bool.false_and, Bool.and_false, hlt, hl, ih, Pu.fN]
    simp only [List.append_assoc, List.singleton_append, Pu.cm]
    rfl
theorem ca.is {k : Nat} {t : Pu.Tab} (hk : 4194304 + 5 ≤ k) (h1 : t.1.length ≤ 1048576) (h2 : t.2.length ≤ 1048576) (hr : ∀ x ∈ t.2, x.length ≤ 1048576) : ca k t = some (Pu.shapeOf t) := by
  obtain ⟨k, rfl⟩ : ∃ k', k = k' + 1 := ⟨k - 1, by omega⟩
  rw [ca.eq, aZ.is (by omega) h1, ca.fC, bF.is (by omega) (by omega)]
  simp only [↓ar, bt, bo, aL, aP, aM, aC, aD, aE, bh, aH, aJ, aq, ao, aQ, al, aK, aG, bq, br, aN, aO, ae, Pu.w64, Int.toNat_natCast, decide_eq_true_eq, Int.ofNat_lt, Int.ofNat_le, if_true, if_false, Int.natCast_nonneg, decide_true, decide_false, Bool.not_true, Bool.not_false, Bool.false_eq_true, Bool.not_eq_true, Bool.true_and, Bool.and_true, Bool.false_and, Bool.and_false]
  unfold Pu.shapeOf
  cases c1 : Pu.bN t.1 with
  | false =>
    have : Pu.dB t = false := by unfold Pu.dB; rw [c1]; rfl
    simp only [this, ↓ar, bt, bo, aL, aP, aM, aC, aD, aE, bh, aH, aJ, aq, ao, aQ, al, aK, aG, bq, br, aN, aO, ae, Pu.w64, Int.toNat_natCast, decide_eq_true_eq, Int.ofNat_lt, Int.ofNat_le, if_true, if_false, Int.natCast_nonneg, decide_true, decide_false, Bool.not_true, Bool.not_false, Bool.false_eq_true, Bool.not_eq_true, Bool.true_and, Bool.and_true, Bool.false_and, Bool.and_false]
  | true =>
    by_cases c2 : t.2.length < t.1.length
    · have : Pu.dB t = false := by
        have : ¬ t.1.length ≤ t.2.length := by omega
        unfold Pu.dB; simp [this]
      simp only [this, c2, ↓ar, bt, bo, aL, aP, aM, aC, aD, aE, bh, aH, aJ, aq, ao, aQ, al, aK, aG, bq, br, aN, aO, ae, Pu.w64, Int.toNat_natCast, decide_eq_true_eq, Int.ofNat_lt, Int.ofNat_le, if_true, if_false, Int.natCast_nonneg, decide_true, decide_false, Bool.not_true, Bool.not_false, Bool.false_eq_true, Bool.not_eq_true, Bool.true_and, Bool.and_true, Bool.false_and, Bool.and_false]
    · have c2' : t.1.length ≤ t.2.length := by omega
      have hloop := ca.loop (k := k) (t := t) (x3 := []) (x4 := []) (by omega) c1 h2 hr t.2.length k 0 [] (by omega) (by omega) rfl
      rw [Int.natCast_zero] at hloop
      simp only [c2, ↓ar, bt, bo, aL, aP, aM, aC, aD, aE, bh, aH, aJ, aq, ao, aQ, al, aK, aG, bq, br, aN, aO, ae, Pu.w64, Int.toNat_natCast, decide_eq_true_eq, Int.ofNat_lt, Int.ofNat_le, if_true, if_false, Int.natCast_nonneg, decide_true, decide_false, Bool.not_true, Bool.not_false, Bool.false_eq_true, Bool.not_eq_true, Bool.true_and, Bool.and_true, Bool.false_and, Bool.and_false]
      rw [hloop]
      have : Pu.dB t = Pu.dQ t.1 (Pu.outer t) := by unfold Pu.dB; simp [c1, c2']
      rw [this]
      rfl
theorem dE.is {k : Nat} {t : Pu.Tab} {r c : Int} (hk : 3 ≤ k) (hi : Pu.bN t.1 = true) (ht : t.2.length ≤ 1048576) (hr : ∀ x ∈ t.2, x.length ≤ 1048576) (h1 : -1000000000 ≤ c) (h2 : c ≤ 1000000000) : dE k t r c = some (Pu.entry t r c) := by
  obtain ⟨k, rfl⟩ : ∃ k', k = k' + 1 := ⟨k - 1, by omega⟩
  have hb := Pu.cY hi r
  have h9 := (Pu.bn hi).2.2.1
  rw [dE.eq, cI.is (by omega)]
  unfold Pu.entry Pu.within
  by_cases c1 : r < 0
  · have c1' : ¬ 0 ≤ r := by omega
    simp (disch := omega) only [↓ar, bt, bo, aL, aP, aM, aC, aD, aE, bh, aH, aJ, aq, ao, aQ, al, aK, aG, bq, br, aN, aO, ae, Pu.w64, Int.toNat_natCast, decide_eq_true_eq, Int.ofNat_lt, Int.ofNat_le, if_true, if_false, Int.natCast_nonneg, decide_true, decide_false, Bool.not_true, Bool.not_false, Bool.false_eq_true, Bool.not_eq_true, Bool.true_and, Bool.and_true, Bool.false_and, Bool.and_false, c1, c1']
  · have c3 : 0 ≤ r := by omega
    by_cases c2 : (t.2.length : Int) ≤ r
    · have c2' : ¬ r ≤ (t.2.length : Int) - 1 := by omega
      simp (disch := omega) only [↓ar, bt, bo, aL, aP, aM, aC, aD, aE, bh, aH, aJ, aq, ao, aQ, al, aK, aG, bq, br, aN, aO, ae, Pu.w64, Int.toNat_natCast, decide_eq_true_eq, Int.ofNat_lt, Int.ofNat_le, if_true, if_false, Int.natCast_nonneg, decide_true, decide_false, Bool.not_true, Bool.not_false, Bool.false_eq_true, Bool.not_eq_true, Bool.true_and, Bool.and_true, Bool.false_and, Bool.and_false, c1, c3, c2, c2']
    · have c2' : r ≤ (t.2.length : Int) - 1 := by omega
      have c4 : r.toNat < t.2.length := by omega
      have hx := hr _ (List.getElem_mem c4)
      rw [← Pu.aB c4 []] at hx
      simp (disch := omega) only [↓ar, bt, bo, aL, aP, aM, aC, aD, aE, bh, aH, aJ, aq, ao, aQ, al, aK, aG, bq, br, aN, aO, ae, Pu.w64, Int.toNat_natCast, decide_eq_true_eq, Int.ofNat_lt, Int.ofNat_le, if_true, if_false, Int.natCast_nonneg, decide_true, decide_false, Bool.not_true, Bool.not_false, Bool.false_eq_true, Bool.not_eq_true, Bool.true_and, Bool.and_true, Bool.false_and, Bool.and_false, c1, c2, c2', c3, c4, dO.is]
theorem aT.inner {k k1 : Nat} {t : Pu.Tab} {r : Nat} (hk : 4194304 ≤ k) (hi : Pu.bN t.1 = true) (ht : t.2.length ≤ 1048576) (hr : ∀ x ∈ t.2, x.length ≤ 1048576) (hlt : r < t.2.length) (n : Int) :
    aT.L1 k k1 k r r n r r (t.2.getD r []).length 0 t.2 t.1 = if ((List.range' 0 (t.2.getD r []).length).all fun q => Pu.fm t r q) = true then aT.L0 k k1 n ((r : Int) + 1) t.2 t.1 else some false := by
  have hx := hr _ (List.getElem_mem hlt)
  rw [← Pu.aB hlt []] at hx
  have hb := Pu.cY hi r
  have h9 := (Pu.bn hi).2.2.1
  have h := Pu.k9 (fun j q => aT.L1 k k1 j r r n r r (t.2.getD r []).length (q : Int) t.2 t.1) (t.2.getD r []).length (fun q => Pu.fm t r q) (some false) (aT.L0 k k1 n ((r : Int) + 1) t.2 t.1)
    (fun j q hq => by
      have e3 := dE.is (k := k) (t := t) (r := (r : Int) - 1) (c := t.1.getD r 0 + q) (by omega) hi ht hr (by rw [Pu.cm] at hb; omega) (by rw [Pu.cm] at hb; omega)
      have ea := dO.is (k := k) (p := t.1) (i := r) (by omega) (by omega)
      rw [Pu.cm] at ea
      rw [Pu.cm] at hb
      rw [aT.eV]
      simp (maxSteps := 10000000) (disch := omega) only [↓ar, bt, bo, aL, aP, aM, aC, aD, aE, bh, aH, aJ, aq, ao, aQ, al, aK, aG, bq, br, aN, aO, ae, Pu.w64, Int.toNat_natCast, decide_eq_true_eq, Int.ofNat_lt, Int.ofNat_le, if_true, if_false, Int.natCast_nonneg, decide_true, decide_false, Bool.not_true, Bool.not_false, Bool.false_eq_true, Bool.not_eq_true, Bool.true_and, Bool.and_true, Bool.false_and, Bool.and_false, hlt, hq, cI.is, ea, e3, aT.j8, Int.natCast_add, Int.natCast_one]
      unfold Pu.fm
      generalize hx0 : (t.2.getD r []).getD q 0 = x at *
      cases Pu.within x 1 9 with
      | false => simp
      | true =>
        have up : (if (0 : Int) < r then (if x ≤ Pu.entry t ((r : Int) - 1) (t.1.getD r 0 + q) then some false else aT.L1 k k1 j r r n r r (t.2.getD r []).length ((q : Int) + 1) t.2 t.1) else aT.L1 k k1 j r r n r r (t.2.getD r []).length ((q : Int) + 1) t.2 t.1) =
            if (decide (r = 0) || decide (Pu.entry t ((r : Int) - 1) (t.1.getD r 0 + q) < x)) = true then aT.L1 k k1 j r r n r r (t.2.getD r []).length ((q : Int) + 1) t.2 t.1 else some false := by
          by_cases e : r = 0
          · subst e; simp
          · have e' : (0 : Int) < r := by omega
            by_cases c : x ≤ Pu.entry t ((r : Int) - 1) (t.1.getD r 0 + q)
            · have c' : ¬ Pu.entry t ((r : Int) - 1) (t.1.getD r 0 + q) < x := by omega
              simp only [e', c, c', e, if_true, if_false, decide_false, Bool.or_false, Bool.false_eq_true]
            · have c' : Pu.entry t ((r : Int) - 1) (t.1.getD r 0 + q) < x := by omega
              simp only [e', c, c', e, if_true, if_false, decide_true, decide_false, Bool.false_or]
        by_cases e : q = 0
        · have e' : ¬ (0 : Int) < q := by omega
          simp only [e', e, ↓ar, bt, bo, aL, aP, aM, aC, aD, aE, bh, aH, aJ, aq, ao, aQ, al, aK, aG, bq, br, aN, aO, ae, Pu.w64, Int.toNat_natCast, decide_eq_true_eq, Int.ofNat_lt, Int.ofNat_le, if_true, if_false, Int.natCast_nonneg, decide_true, decide_false, Bool.not_true, Bool.not_false, Bool.false_eq_true, Bool.not_eq_true, Bool.true_and, Bool.and_true, Bool.false_and, Bool.and_false, Bool.true_or]
          rw [e] at up
          exact up
        · have e' : (0 : Int) < q := by omega
          have eq : (q : Int) - 1 = ((q - 1 : Nat) : Int) := by omega
          have hq' : q - 1 < (t.2.getD r []).length := by omega
          simp (disch := omega) only [e', e, ↓ar, bt, bo, aL, aP, aM, aC, aD, aE, bh, aH, aJ, aq, ao, aQ, al, aK, aG, bq, br, aN, aO, ae, Pu.w64, Int.toNat_natCast, decide_eq_true_eq, Int.ofNat_lt, Int.ofNat_le, if_true, if_false, Int.natCast_nonneg, decide_true, decide_false, Bool.not_true, Bool.not_false, Bool.false_eq_true, Bool.not_eq_true, Bool.true_and, Bool.and_true, Bool.false_and, Bool.and_false, eq, hq', Bool.false_or]
          by_cases c : x < (t.2.getD r []).getD (q - 1) 0
          · have c' : ¬ (t.2.getD r []).getD (q - 1) 0 ≤ x := by omega
            simp only [c, c', ↓ar, bt, bo, aL, aP, aM, aC, aD, aE, bh, aH, aJ, aq, ao, aQ, al, aK, aG, bq, br, aN, aO, ae, Pu.w64, Int.toNat_natCast, decide_eq_true_eq, Int.ofNat_lt, Int.ofNat_le, if_true, if_false, Int.natCast_nonneg, decide_true, decide_false, Bool.not_true, Bool.not_false, Bool.false_eq_true, Bool.not_eq_true, Bool.true_and, Bool.and_true, Bool.false_and, Bool.and_false]
          · have c' : (t.2.getD r []).getD (q - 1) 0 ≤ x := by omega
            simp only [c, c', ↓ar, bt, bo, aL, aP, aM, aC, aD, aE, bh, aH, aJ, aq, ao, aQ, al, aK, aG, bq, br, aN, aO, ae, Pu.w64, Int.toNat_natCast, decide_eq_true_eq, Int.ofNat_lt, Int.ofNat_le, if_true, if_false, Int.natCast_nonneg, decide_true, decide_false, Bool.not_true, Bool.not_false, Bool.false_eq_true, Bool.not_eq_true, Bool.true_and, Bool.and_true, Bool.false_and, Bool.and_false]
            exact up)
    (fun j => by
      rw [aT.eV]
      simp (maxSteps := 10000000) (disch := omega) only [↓ar, bt, bo, aL, aP, aM, aC, aD, aE, bh, aH, aJ, aq, ao, aQ, al, aK, aG, bq, br, aN, aO, ae, Pu.w64, Int.toNat_natCast, decide_eq_true_eq, Int.ofNat_lt, Int.ofNat_le, if_true, if_false, Int.natCast_nonneg, decide_true, decide_false, Bool.not_true, Bool.not_false, Bool.false_eq_true, Bool.not_eq_true, Bool.true_and, Bool.and_true, Bool.false_and, Bool.and_false, Nat.lt_irrefl]) (t.2.getD r []).length k 0 (by omega) (by omega)
  simp only [Int.natCast_zero] at h
  exact h
theorem aT.is {k : Nat} {t : Pu.Tab} (hk : 4194304 + 6 ≤ k) (h1 : t.1.length ≤ 1048576) (ht : t.2.length ≤ 1048576) (hr : ∀ x ∈ t.2, x.length ≤ 1048576) : aT k t = some (Pu.cz t) := by
  obtain ⟨k, rfl⟩ : ∃ k', k = k' + 1 := ⟨k - 1, by omega⟩
  rw [aT.eq, ca.is (by omega) h1 ht hr, ae]
  unfold Pu.cz Pu.shapeOf
  cases hs : Pu.dB t with
  | false => simp [hs]
  | true =>
    have hi : Pu.bN t.1 = true := by
      simp only [Pu.dB, Bool.and_eq_true] at hs; exact hs.1
    have h := Pu.k9 (fun j r => aT.L0 k j t.2.length r t.2 t.1) t.2.length (fun r => (List.range' 0 (t.2.getD r []).length).all fun q => Pu.fm t r q) (some false) (some true)
      (fun j r hlt => by
        rw [aT.bS]
        simp (disch := omega) only [↓ar, bt, bo, aL, aP, aM, aC, aD, aE, bh, aH, aJ, aq, ao, aQ, al, aK, aG, bq, br, aN, aO, ae, Pu.w64, Int.toNat_natCast, decide_eq_true_eq, Int.ofNat_lt, Int.ofNat_le, if_true, if_false, Int.natCast_nonneg, decide_true, decide_false, Bool.not_true, Bool.not_false, Bool.false_eq_true, Bool.not_eq_true, Bool.true_and, Bool.and_true, Bool.false_and, Bool.and_false, hlt, aT.inner (k1 := j) (show 4194304 ≤ k by omega) hi ht hr hlt, Int.natCast_add, Int.natCast_one])
      (fun j => by
        rw [aT.bS]
        simp (disch := omega) only [↓ar, bt, bo, aL, aP, aM, aC, aD, aE, bh, aH, aJ, aq, ao, aQ, al, aK, aG, bq, br, aN, aO, ae, Pu.w64, Int.toNat_natCast, decide_eq_true_eq, Int.ofNat_lt, Int.ofNat_le, if_true, if_false, Int.natCast_nonneg, decide_true, decide_false, Bool.not_true, Bool.not_false, Bool.false_eq_true, Bool.not_eq_true, Bool.true_and, Bool.and_true, Bool.false_and, Bool.and_false, Nat.lt_irrefl]) t.2.length k 0 (by omega) (by omega)
    simp only [Int.natCast_zero] at h
    simp only [if_true, ↓ar, bt, bo, aL, aP, aM, aC, aD, aE, bh, aH, aJ, aq, ao, aQ, al, aK, aG, bq, br, aN, aO, ae, Pu.w64, Int.toNat_natCast, decide_eq_true_eq, Int.ofNat_lt, Int.ofNat_le, if_true, if_false, Int.natCast_nonneg, decide_true, decide_false, Bool.not_true, Bool.not_false, Bool.false_eq_true, Bool.not_eq_true, Bool.true_and, Bool.and_true, Bool.false_and, Bool.and_false]
    rw [h]
    cases (List.range' 0 t.2.length).all fun r => (List.range' 0 (t.2.getD r []).length).all fun q => Pu.fm t r q <;> simp
theorem bU.loop {k : Nat} {p : List Int} (hk : 2 ≤ k) (hp : p.length ≤ 1000000) : ∀ (m j i : Nat) (acc : List Int), i + m = p.length → m < j → acc.length ≤ i → bU.L0 k j p.length i p acc = some (acc ++ Pu.gW p m i)
  | m, 0, i, acc, _, hj, _ => by omega
  | 0, j + 1, i, acc, hi, _, ha => by
    rw [bU.bS]
    have hn : ¬ ((i : Int) < (p.length : Int)) := by omega
    simp only [↓ar, bt, bo, aL, aP, aM, aC, aD, aE, bh, aH, aJ, aq, ao, aQ, al, aK, aG, bq, br, aN, aO, ae, Pu.w64, Int.toNat_natCast, decide_eq_true_eq, Int.ofNat_lt, Int.ofNat_le, if_true, if_false, Int.natCast_nonneg, decide_true, decide_false, Bool.not_true, Bool.not_false, Bool.false_eq_true, Bool.not_eq_true, Bool.true_and, Bool.and_true, Bool.false_and, Bool.and_false, hn, Pu.gW, List.append_nil]
  | m + 1, j + 1, i, acc, hi, hj, ha => by
    rw [bU.bS]
    have h1 : i < p.length := by omega
    have e : (i : Int) + 1 = ((i + 1 : Nat) : Int) := by omega
    have ih := fun acc h => bU.loop hk hp m j (i + 1) acc (by omega) (by omega) h
    have hl : (acc ++ [(i : Int)]).length ≤ 1099511627776 := by rw [List.length_append, List.length_singleton]; omega
    have h2 := ih (acc ++ [(i : Int)]) (by rw [List.length_append, List.length_singleton]; omega)
    have h3 := ih acc (by omega)
    have ea : dO k p ((i : Int) + 1) = some (p.getD (i + 1) 0) := by rw [dO.is (by omega) (by omega), e, Pu.cm]
    rw [← e] at h2 h3
    unfold Pu.gW
    by_cases c : p.getD (i + 1) 0 < p.getD i 0
    · simp (disch := omega) only [↓ar, bt, bo, aL, aP, aM, aC, aD, aE, bh, aH, aJ, aq, ao, aQ, al, aK, aG, bq, br, aN, aO, ae, Pu.w64, Int.toNat_natCast, decide_eq_true_eq, Int.ofNat_lt, Int.ofNat_le, if_true, if_false, Int.natCast_nonneg, decide_true, decide_false, Bool.not_true, Bool.not_false, Bool.false_eq_true, Bool.not_eq_true, Bool.true_and, Bool.and_true, Bool.false_and, Bool.and_false, h1, ea, c, hl, bU.eP, h2, List.append_assoc, List.cons_append, List.nil_append]
    · simp (disch := omega) only [↓ar, bt, bo, aL, aP, aM, aC, aD, aE, bh, aH, aJ, aq, ao, aQ, al, aK, aG, bq, br, aN, aO, ae, Pu.w64, Int.toNat_natCast, decide_eq_true_eq, Int.ofNat_lt, Int.ofNat_le, if_true, if_false, Int.natCast_nonneg, decide_true, decide_false, Bool.not_true, Bool.not_false, Bool.false_eq_true, Bool.not_eq_true, Bool.true_and, Bool.and_true, Bool.false_and, Bool.and_false, h1, ea, c, bU.eP, h3]
theorem bU.is {k : Nat} {p : List Int} (hk : 4194304 + 3 ≤ k) (hp : p.length ≤ 1000000) : bU k p = some (Pu.fU p) := by
  obtain ⟨k, rfl⟩ : ∃ k', k = k' + 1 := ⟨k - 1, by omega⟩
  rw [bU.eq, aZ.is (by omega) (by omega), ae]
  unfold Pu.fU
  have h := bU.loop (k := k) (p := p) (by omega) hp p.length k 0 [] (by omega) (by omega) (by simp)
  rw [Int.natCast_zero, List.nil_append] at h
  cases hb : Pu.bN p with
  | true => simp only [↓ar, bt, bo, aL, aP, aM, aC, aD, aE, bh, aH, aJ, aq, ao, aQ, al, aK, aG, bq, br, aN, aO, ae, Pu.w64, Int.toNat_natCast, decide_eq_true_eq, Int.ofNat_lt, Int.ofNat_le, if_true, if_false, Int.natCast_nonneg, decide_true, decide_false, Bool.not_true, Bool.not_false, Bool.false_eq_true, Bool.not_eq_true, Bool.true_and, Bool.and_true, Bool.false_and, Bool.and_false, h]
  | false => simp only [↓ar, bt, bo, aL, aP, aM, aC, aD, aE, bh, aH, aJ, aq, ao, aQ, al, aK, aG, bq, br, aN, aO, ae, Pu.w64, Int.toNat_natCast, decide_eq_true_eq, Int.ofNat_lt, Int.ofNat_le, if_true, if_false, Int.natCast_nonneg, decide_true, decide_false, Bool.not_true, Bool.not_false, Bool.false_eq_true, Bool.not_eq_true, Bool.true_and, Bool.and_true, Bool.false_and, Bool.and_false]
theorem bR.is {k : Nat} {r : List Int} {x : Int} (hk : 4194304 + 1 ≤ k) (hr : r.length ≤ 1048577) : bR k r x = some (Pu.xi (fun y => decide (x = y)) r) := by
  obtain ⟨k, rfl⟩ : ∃ k', k = k' + 1 := ⟨k - 1, by omega⟩
  rw [bR.eq]
  have h := Pu.sG r 0 (fun y => decide (x = y)) (fun j i => bR.L0 k j x r.length i r) (fun i => some (i : Int)) (some (-1))
    (fun j i hi => by
      rw [bR.bS]
      by_cases c : x = r.getD i 0
      · simp (disch := omega) only [↓ar, bt, bo, aL, aP, aM, aC, aD, aE, bh, aH, aJ, aq, ao, aQ, al, aK, aG, bq, br, aN, aO, ae, Pu.w64, Int.toNat_natCast, decide_eq_true_eq, Int.ofNat_lt, Int.ofNat_le, if_true, if_false, Int.natCast_nonneg, decide_true, decide_false, Bool.not_true, Bool.not_false, Bool.false_eq_true, Bool.not_eq_true, Bool.true_and, Bool.and_true, Bool.false_and, Bool.and_false, hi, ← c]
      · simp (disch := omega) only [↓ar, bt, bo, aL, aP, aM, aC, aD, aE, bh, aH, aJ, aq, ao, aQ, al, aK, aG, bq, br, aN, aO, ae, Pu.w64, Int.toNat_natCast, decide_eq_true_eq, Int.ofNat_lt, Int.ofNat_le, if_true, if_false, Int.natCast_nonneg, decide_true, decide_false, Bool.not_true, Bool.not_false, Bool.false_eq_true, Bool.not_eq_true, Bool.true_and, Bool.and_true, Bool.false_and, Bool.and_false, hi, c, Int.natCast_add, Int.natCast_one])
    (fun j => by
      rw [bR.bS]
      simp only [↓ar, bt, bo, aL, aP, aM, aC, aD, aE, bh, aH, aJ, aq, ao, aQ, al, aK, aG, bq, br, aN, aO, ae, Pu.w64, Int.toNat_natCast, decide_eq_true_eq, Int.ofNat_lt, Int.ofNat_le, if_true, if_false, Int.natCast_nonneg, decide_true, decide_false, Bool.not_true, Bool.not_false, Bool.false_eq_true, Bool.not_eq_true, Bool.true_and, Bool.and_true, Bool.false_and, Bool.and_false, Nat.lt_irrefl]) r.length k 0 (by omega) (by omega) (by omega)
  simp only [Int.natCast_zero] at h
  simp only [aD, aC]
  rw [h]
  unfold Pu.xi
  split <;> rfl
theorem cr.is {k : Nat} {r : List Int} {x : Int} (hk : 4194304 + 2 ≤ k) (hr : r.length ≤ 1048577) : cr k r x = some (Pu.has r x) := by
  obtain ⟨k, rfl⟩ : ∃ k', k = k' + 1 := ⟨k - 1, by omega⟩
  rw [cr.eq, bR.is (by omega) hr, ae, bo, Pu.wU]
  rfl
theorem bk.stay {k j : Nat} {x0 : Int} {x1 : Bool} {x2 : Int} {x3 x4 : Bool} {x5 : Int} {x6 : Nat} {x7 x8 : Int} {x9 : Nat} {y x11 x12 x13 : List Int} (hl : y.length ≤ 9) (h0 : 0 < y.length) (h : ¬ y.getD (y.length - 1) 0 = 0) :
    bk.L0 k (j + 1) x0 x1 x2 x3 x4 x5 x6 x7 x8 x9 y x11 x12 x13 = some (y, true) := by
  rw [bk.bS]
  have p0 : (0 : Int) < y.length := by omega
  have p1 : (0 : Int) ≤ (y.length : Int) - 1 := by omega
  have p2 : ((y.length : Int) - 1).toNat = y.length - 1 := by omega
  have p3 : y.length - 1 < y.length := by omega
  have p4 : y.take y.length = y := List.take_of_length_le (Nat.le_refl _)
  simp (disch := omega) only [↓ar, bt, bo, aL, aP, aM, aC, aD, aE, bh, aH, aJ, aq, ao, aQ, al, aK, aG, bq, br, aN, aO, ae, Pu.w64, Int.toNat_natCast, decide_eq_true_eq, Int.ofNat_lt, Int.ofNat_le, if_true, if_false, Int.natCast_nonneg, decide_true, decide_false, Bool.not_true, Bool.not_false, Bool.false_eq_true, Bool.not_eq_true, Bool.true_and, Bool.and_true, Bool.false_and, Bool.and_false, p0, p1, p2, p3, p4, h, Int.le_refl, Nat.le_refl]
theorem bk.inner {k j : Nat} {n : Nat} {x2 : Int} {x3 : Bool} {x4 : Int} {x5 x6 : Bool} {x7 : Int} {x8 : Nat} {x9 x10 : Int} {x11 : Nat} {y x13 x14 x15 : List Int} (hn : n ≤ 9) (hl : y.length = n + 1) (h : 0 < n → ¬ y.getD (n - 1) 0 = 0) :
    bk.L2 k (j + 1) 0 n x2 x3 x4 x5 x6 x7 x8 x9 x10 x11 y x13 x14 x15 = some (y.take n, true) := by
  rw [bk.zH]
  have e : (y.take n).take n = y.take n := by rw [List.take_take, Nat.min_self]
  by_cases c : 0 < n
  · have p0 : (0 : Int) < n := by omega
    have p1 : (0 : Int) ≤ (n : Int) - 1 := by omega
    have p2 : ((n : Int) - 1).toNat = n - 1 := by omega
    have p3 : n - 1 < n := by omega
    have p4 : n - 1 < y.length := by omega
    have h' := h c
    simp (disch := omega) only [↓ar, bt, bo, aL, aP, aM, aC, aD, aE, bh, aH, aJ, aq, ao, aQ, al, aK, aG, bq, br, aN, aO, ae, Pu.w64, Int.toNat_natCast, decide_eq_true_eq, Int.ofNat_lt, Int.ofNat_le, if_true, if_false, Int.natCast_nonneg, decide_true, decide_false, Bool.not_true, Bool.not_false, Bool.false_eq_true, Bool.not_eq_true, Bool.true_and, Bool.and_true, Bool.false_and, Bool.and_false, kn, Nat.zero_add, p0, p1, p2, p3, p4, h', Int.le_refl, Nat.le_refl, List.drop_zero, e]
  · have : n = 0 := by omega
    subst this
    simp (disch := omega) only [↓ar, bt, bo, aL, aP, aM, aC, aD, aE, bh, aH, aJ, aq, ao, aQ, al, aK, aG, bq, br, aN, aO, ae, Pu.w64, Int.toNat_natCast, decide_eq_true_eq, Int.ofNat_lt, Int.ofNat_le, if_true, if_false, Int.natCast_nonneg, decide_true, decide_false, Bool.not_true, Bool.not_false, Bool.false_eq_true, Bool.not_eq_true, Bool.true_and, Bool.and_true, Bool.false_and, Bool.and_false, kn, Nat.zero_add, Int.natCast_zero, Int.lt_irrefl, Int.le_refl, Nat.le_refl, List.drop_zero, Int.toNat_zero, List.take_zero]
theorem bk.cut {k j : Nat} {n : Nat} {x0 : Int} {x1 : Bool} {x2 : Int} {x3 x4 : Bool} {x5 : Int} {x6 : Nat} {x7 x8 : Int} {x9 : Nat} {y x11 x12 x13 : List Int} (hn : n ≤ 9) (hl : y.length = n + 1) (h0 : y.getD n 0 = 0) (h : 0 < n → ¬ y.getD (n - 1) 0 = 0) :
    bk.L0 k (j + 1 + 1) x0 x1 x2 x3 x4 x5 x6 x7 x8 x9 y x11 x12 x13 = some (y.take n, true) := by
  rw [bk.bS, bk.eP]
  have p0 : (0 : Int) < ((n + 1 : Nat) : Int) := by omega
  have p2 : ((n + 1 : Nat) : Int) - 1 = (n : Int) := by omega
  have p3 : n < n + 1 := by omega
  have p4 : n ≤ n + 1 := by omega
  have hi := fun x2 x3 x4 x5 x6 x7 x8 x9 x10 x11 x13 x14 x15 => bk.inner (k := k) (j := j) (n := n) (x2 := x2) (x3 := x3) (x4 := x4) (x5 := x5) (x6 := x6) (x7 := x7) (x8 := x8) (x9 := x9) (x10 := x10) (x11 := x11) (y := y) (x13 := x13) (x14 := x14) (x15 := x15) hn hl h
  simp (disch := omega) only [↓ar, bt, bo, aL, aP, aM, aC, aD, aE, bh, aH, aJ, aq, ao, aQ, al, aK, aG, bq, br, aN, aO, ae, Pu.w64, Int.toNat_natCast, decide_eq_true_eq, Int.ofNat_lt, Int.ofNat_le, if_true, if_false, Int.natCast_nonneg, decide_true, decide_false, Bool.not_true, Bool.not_false, Bool.false_eq_true, Bool.not_eq_true, Bool.true_and, Bool.and_true, Bool.false_and, Bool.and_false, hl, p0, p2, p3, p4, h0, ir, Nat.sub_zero, hi]
theorem bk.is {k : Nat} {p : List Int} {n : Nat} (hk : 4194304 + 8 ≤ k) (hp : Pu.bN p = true) (hn : n < p.length) (hc : p.getD (n + 1) 0 < p.getD n 0) : bk k p n = some (Pu.az p n, true) := by
  obtain ⟨k, rfl⟩ : ∃ k', k = k' + 3 := ⟨k - 3, by omega⟩
  have h9 := (Pu.bn hp).2.2.1
  have hb := Pu.cY hp n
  rw [Pu.cm] at hb
  have h1 : ∀ i, i < p.length → 1 ≤ p.getD i 0 := fun i hi => by
    rw [Pu.aB hi]
    exact ((Pu.bn hp).1 _ (List.getElem_mem hi)).1
  have hco := bU.is (k := k + 2) (p := p) (by omega) (by omega)
  have hct := cr.is (k := k + 2) (x := (n : Int)) (r := Pu.fU p) (by omega) (by have := Pu.lL p; omega)
  rw [Pu.rE hp hn hc] at hct
  have hcl := bF.is (k := k + 2) (a := p) (by omega) (by omega)
  have hyl : (p.set n (p.getD n 0 - 1)).length = p.length := List.length_set
  have key : ∀ x0 x1 x2 x3 x4 x5 x6 x7 x8 x9 x11 x12 x13, bk.L0 k (k + 1) x0 x1 x2 x3 x4 x5 x6 x7 x8 x9 (p.set n (p.getD n 0 - 1)) x11 x12 x13 = some (Pu.az p n, true) := by
    intro x0 x1 x2 x3 x4 x5 x6 x7 x8 x9 x11 x12 x13
    unfold Pu.az
    by_cases h : p.getD n 0 - 1 = 0
    · have hl := Pu.oz hp hc h
      rw [if_pos h]
      obtain ⟨k', rfl⟩ : ∃ k', k = k' + 1 := ⟨k - 1, by omega⟩
      rw [bk.cut (n := n) (by omega) (by omega) (by rw [Pu.aB (by omega), List.getElem_set_self, h]) (fun h0 => by
        rw [Pu.getD_set_ne (by omega)]
        have := h1 (n - 1) (by omega)
        omega), List.take_set_of_le (Nat.le_refl n)]
    · rw [if_neg h, bk.stay (by omega) (by omega)]
      rw [hyl]
      by_cases e : p.length - 1 = n
      · rw [e, Pu.aB (by omega), List.getElem_set_self]; exact h
      · rw [Pu.getD_set_ne (Ne.symm e)]
        have := h1 (p.length - 1) (by omega)
        omega
  rw [bk.eq]
  simp (disch := omega) only [↓ar, bt, bo, aL, aP, aM, aC, aD, aE, bh, aH, aJ, aq, ao, aQ, al, aK, aG, bq, br, aN, aO, ae, Pu.w64, Int.toNat_natCast, decide_eq_true_eq, Int.ofNat_lt, Int.ofNat_le, if_true, if_false, Int.natCast_nonneg, decide_true, decide_false, Bool.not_true, Bool.not_false, Bool.false_eq_true, Bool.not_eq_true, Bool.true_and, Bool.and_true, Bool.false_and, Bool.and_false, hco, hct, hcl, hn, key]
theorem ai.app {k : Nat} {a : List (List Int)} (ha : a.length ≤ 1048576) (hf : a.flatten.length ≤ 1099511627776) : ∀ (m j i : Nat), i + m = a.length → m < j →
    ai.L4 k j a.length i (a.take i).flatten a = some a.flatten
  | m, 0, i, _, hj => by omega
  | 0, j + 1, i, hm, _ => by
    rw [ai.xR]
    have e : i = a.length := by omega
    subst e
    simp
  | m + 1, j + 1, i, hm, hj => by
    rw [ai.xR]
    have hlt : i < a.length := by omega
    have ih := ai.app (k := k) ha hf m j (i + 1) (by omega) (by omega)
    rw [Int.natCast_succ, Pu.take_succ hlt []] at ih
    have hl : ((a.take i).flatten ++ a.getD i []).length ≤ 1099511627776 := by
      refine Nat.le_trans ?_ hf
      have e : a.flatten = (a.take i).flatten ++ (a.drop i).flatten := by rw [← List.flatten_append, List.take_append_drop]
      rw [e, Pu.drop_cons hlt []]
      simp only [List.flatten_cons, List.length_append]
      omega
    simp only [List.flatten_append, List.flatten_cons, List.flatten_nil, List.append_nil] at ih
    simp (disch := omega) only [↓ar, bt, bo, aL, aP, aM, aC, aD, aE, bh, aH, aJ, aq, ao, aQ, al, aK, aG, bq, br, aN, aO, ae, Pu.w64, Int.toNat_natCast, decide_eq_true_eq, Int.ofNat_lt, Int.ofNat_le, if_true, if_false, Int.natCast_nonneg, decide_true, decide_false, Bool.not_true, Bool.not_false, Bool.false_eq_true, Bool.not_eq_true, Bool.true_and, Bool.and_true, Bool.false_and, Bool.and_false, hlt, hl, ih]
theorem ai.tail {k : Nat} {a : List (List Int)} {y : List Int} (hk : 4194304 ≤ k) (ha : a.length ≤ 1048576) (hf : a.flatten.length ≤ 1099511627776) : ai.L3 k (HAdd.hAdd k 1) 0 0 a.length 0 y a = some a.flatten := by
  rw [ai.C7]
  by_cases h0 : a.length = 0
  · have : a = [] := List.eq_nil_of_length_eq_zero h0
    subst this
    simp
  · have hlt : 0 < a.length := by omega
    have h := ai.app (k := k) ha hf (a.length - 1) k 1 (by omega) (by omega)
    have e : (a.take 1).flatten = a.getD 0 [] := by rw [Pu.take_succ hlt []]; simp
    rw [e] at h
    have hl : (a.getD 0 []).length ≤ 1099511627776 := by
      refine Nat.le_trans ?_ hf
      have e2 : a.flatten = (a.take 1).flatten ++ (a.drop 1).flatten := by rw [← List.flatten_append, List.take_append_drop]
      rw [e2, e]
      simp
    have hlt' : (0 : Int) < a.length := by omega
    simp (disch := omega) only [↓ar, bt, bo, aL, aP, aM, aC, aD, aE, bh, aH, aJ, aq, ao, aQ, al, aK, aG, bq, br, aN, aO, ae, Pu.w64, Int.toNat_natCast, decide_eq_true_eq, Int.ofNat_lt, Int.ofNat_le, if_true, if_false, Int.natCast_nonneg, decide_true, decide_false, Bool.not_true, Bool.not_false, Bool.false_eq_true, Bool.not_eq_true, Bool.true_and, Bool.and_true, Bool.false_and, Bool.and_false, hlt, hlt', hl, List.take_zero, List.nil_append, Int.toNat_zero, Int.zero_add]
    simpa using h
theorem ai.loop {k : Nat} {a : List (List Int)} (hk : 4194304 ≤ k) (ha : a.length ≤ 1048576) (hf : a.flatten.length ≤ 1099511627776) : ∀ (m j i : Nat), i + m = a.length → m < j →
    ai.L0 k j (a.take i).flatten.length a.length i a = some a.flatten
  | m, 0, i, _, hj => by omega
  | 0, j + 1, i, hm, _ => by
    rw [ai.bS, ai.j8]
    have e : i = a.length := by omega
    subst e
    rw [List.take_length]
    have hn : ¬ ((a.flatten.length : Nat) : Int) < 0 := by omega
    simp (disch := omega) only [↓ar, bt, bo, aL, aP, aM, aC, aD, aE, bh, aH, aJ, aq, ao, aQ, al, aK, aG, bq, br, aN, aO, ae, Pu.w64, Int.toNat_natCast, decide_eq_true_eq, Int.ofNat_lt, Int.ofNat_le, if_true, if_false, Int.natCast_nonneg, decide_true, decide_false, Bool.not_true, Bool.not_false, Bool.false_eq_true, Bool.not_eq_true, Bool.true_and, Bool.and_true, Bool.false_and, Bool.and_false, Nat.lt_irrefl, hn, Int.sub_zero, Int.sub_self]
    by_cases h0 : a.flatten.length = 0
    · have h0' : ¬ (0 : Int) < (a.flatten.length : Nat) := by omega
      have h := ai.app (k := k) ha hf a.length (k + 1) 0 (by omega) (by omega)
      simp only [h0', ↓ar, bt, bo, aL, aP, aM, aC, aD, aE, bh, aH, aJ, aq, ao, aQ, al, aK, aG, bq, br, aN, aO, ae, Pu.w64, Int.toNat_natCast, decide_eq_true_eq, Int.ofNat_lt, Int.ofNat_le, if_true, if_false, Int.natCast_nonneg, decide_true, decide_false, Bool.not_true, Bool.not_false, Bool.false_eq_true, Bool.not_eq_true, Bool.true_and, Bool.and_true, Bool.false_and, Bool.and_false]
      simpa using h
    · have h0' : (0 : Int) < (a.flatten.length : Nat) := by omega
      have h1 : (1 : Int) ≤ (a.flatten.length : Nat) := by omega
      simp (disch := omega) only [h0', h1, hf, ↓ar, bt, bo, aL, aP, aM, aC, aD, aE, bh, aH, aJ, aq, ao, aQ, al, aK, aG, bq, br, aN, aO, ae, Pu.w64, Int.toNat_natCast, decide_eq_true_eq, Int.ofNat_lt, Int.ofNat_le, if_true, if_false, Int.natCast_nonneg, decide_true, decide_false, Bool.not_true, Bool.not_false, Bool.false_eq_true, Bool.not_eq_true, Bool.true_and, Bool.and_true, Bool.false_and, Bool.and_false, Int.toNat_zero, Nat.le_refl, Int.le_refl, List.length_replicate, Nat.zero_le, ir, Nat.sub_self]
      exact ai.tail hk ha hf
  | m + 1, j + 1, i, hm, hj => by
    rw [ai.bS]
    have hlt : i < a.length := by omega
    have ih := ai.loop (k := k) hk ha hf m j (i + 1) (by omega) (by omega)
    rw [Int.natCast_succ, Pu.take_succ hlt []] at ih
    have hl : ((a.take i).flatten ++ a.getD i []).length ≤ 1099511627776 := by
      refine Nat.le_trans ?_ hf
      have e : a.flatten = (a.take i).flatten ++ (a.drop i).flatten := by rw [← List.flatten_append, List.take_append_drop]
      rw [e, Pu.drop_cons hlt []]
      simp only [List.flatten_cons, List.length_append]
      omega
    simp only [List.flatten_append, List.flatten_cons, List.flatten_nil, List.append_nil, List.length_append, Int.natCast_add] at ih hl
    have hn : ¬ (((a.take i).flatten.length : Int) + (a.getD i []).length < 0) := by omega
    simp (disch := omega) only [↓ar, bt, bo, aL, aP, aM, aC, aD, aE, bh, aH, aJ, aq, ao, aQ, al, aK, aG, bq, br, aN, aO, ae, Pu.w64, Int.toNat_natCast, decide_eq_true_eq, Int.ofNat_lt, Int.ofNat_le, if_true, if_false, Int.natCast_nonneg, decide_true, decide_false, Bool.not_true, Bool.not_false, Bool.false_eq_true, Bool.not_eq_true, Bool.true_and, Bool.and_true, Bool.false_and, Bool.and_false, hlt, hn, ai.eP, ih]
theorem ai.is {k : Nat} {a : List (List Int)} (hk : 4194304 + 2 ≤ k) (ha : a.length ≤ 1048576) (hf : a.flatten.length ≤ 1099511627776) : ai k a = some a.flatten := by
  obtain ⟨k, rfl⟩ : ∃ k', k = k' + 2 := ⟨k - 2, by omega⟩
  rw [ai.eq]
  exact ai.loop (k := k) (by omega) ha hf a.length (k + 1) 0 (by omega) (by omega)
theorem bO.loop {k : Nat} {t : Pu.Tab} (hk : 4194304 + 2 ≤ k) (hi : Pu.bN t.1 = true) (ht : Pu.dk 1048576 1048576 t.2) : ∀ (m j i : Nat), i + m = t.2.length → m < j →
    bO.L0 k j t.2.length i ((Pu.bT t).take i) t.2 t.1 = some (Pu.bT t)
  | m, 0, i, _, hj => by omega
  | 0, j + 1, i, hm, _ => by
    rw [bO.bS]
    have e : i = t.2.length := by omega
    subst e
    rw [← Pu.eY t, List.take_length]
    simp only [↓ar, bt, bo, aL, aP, aM, aC, aD, aE, bh, aH, aJ, aq, ao, aQ, al, aK, aG, bq, br, aN, aO, ae, Pu.w64, Int.toNat_natCast, decide_eq_true_eq, Int.ofNat_lt, Int.ofNat_le, if_true, if_false, Int.natCast_nonneg, decide_true, decide_false, Bool.not_true, Bool.not_false, Bool.false_eq_true, Bool.not_eq_true, Bool.true_and, Bool.and_true, Bool.false_and, Bool.and_false, Nat.lt_irrefl]
  | m + 1, j + 1, i, hm, hj => by
    rw [bO.bS]
    have hlt : i < t.2.length := by omega
    have hg : i < (Pu.bT t).length := by rw [Pu.eY]; exact hlt
    have hl := ht.1
    have h9 := (Pu.bn hi).2.2.1
    have hb := Pu.cY hi i
    rw [Pu.cm] at hb
    have hrow := ht.at i
    have ha := dO.is (k := k) (p := t.1) (i := (i : Int)) (by omega) (by omega)
    rw [Pu.cm] at ha
    have ih := bO.loop (k := k) (t := t) hk hi ht m j (i + 1) (by omega) (by omega)
    rw [Int.natCast_succ, Pu.take_succ hg [], Pu.pX hlt] at ih
    have hc := ai.is (k := k) (a := [List.replicate (t.1.getD i 0).toNat 0, t.2.getD i []]) hk (by simp) (by simp only [List.flatten_cons, List.flatten_nil, List.append_nil, List.length_append, List.length_replicate]; omega)
    simp only [List.flatten_cons, List.flatten_nil, List.append_nil] at hc
    have hn : (t.1.getD i 0).toNat ≤ 1099511627776 := by omega
    have hb1 := hb.1
    have hln : ((Pu.bT t).take i ++ [List.replicate (t.1.getD i 0).toNat 0 ++ t.2.getD i []]).length ≤ 1099511627776 := by
      rw [List.length_append, List.length_take, Pu.eY]; simp; omega
    simp (disch := omega) only [↓ar, bt, bo, aL, aP, aM, aC, aD, aE, bh, aH, aJ, aq, ao, aQ, al, aK, aG, bq, br, aN, aO, ae, Pu.w64, Int.toNat_natCast, decide_eq_true_eq, Int.ofNat_lt, Int.ofNat_le, if_true, if_false, Int.natCast_nonneg, decide_true, decide_false, Bool.not_true, Bool.not_false, Bool.false_eq_true, Bool.not_eq_true, Bool.true_and, Bool.and_true, Bool.false_and, Bool.and_false, hlt, ha, hb1, Int.le_refl, hn, hc, hln, ih]
theorem bO.is {k : Nat} {t : Pu.Tab} (hk : 4194304 + 3 ≤ k) (hi : Pu.bN t.1 = true) (ht : Pu.dk 1048576 1048576 t.2) : bO k t = some (Pu.bT t) := by
  obtain ⟨k, rfl⟩ : ∃ k', k = k' + 1 := ⟨k - 1, by omega⟩
  rw [bO.eq]
  have hl := ht.1
  have h := bO.loop (k := k) (t := t) (by omega) hi ht t.2.length k 0 (by omega) (by omega)
  rw [Int.natCast_zero, List.take_zero] at h
  exact h
theorem ed.is {k : Nat} {a : List (List Int)} {i c : Int} (hk : 3 ≤ k) (ha : Pu.dk 1048576 1048576 a) : ed k a i c = some (Pu.nJ a i c) := by
  obtain ⟨k, rfl⟩ : ∃ k', k = k' + 1 := ⟨k - 1, by omega⟩
  have hl := ha.1
  rw [ed.eq]
  by_cases h0 : i < 0
  · have h1 : ¬ 0 ≤ i := by omega
    rw [Pu.u4 h0]
    simp (disch := omega) only [↓ar, bt, bo, aL, aP, aM, aC, aD, aE, bh, aH, aJ, aq, ao, aQ, al, aK, aG, bq, br, aN, aO, ae, Pu.w64, Int.toNat_natCast, decide_eq_true_eq, Int.ofNat_lt, Int.ofNat_le, if_true, if_false, Int.natCast_nonneg, decide_true, decide_false, Bool.not_true, Bool.not_false, Bool.false_eq_true, Bool.not_eq_true, Bool.true_and, Bool.and_true, Bool.false_and, Bool.and_false, cI.is, Pu.within, h1]
  · have h1 : 0 ≤ i := by omega
    by_cases h2 : i ≤ (a.length : Int) - 1
    · have h3 : i.toNat < a.length := by omega
      have he := dO.is (k := k) (p := a.getD i.toNat []) (i := c) (by omega) (ha.at _)
      unfold Pu.nJ
      simp (disch := omega) only [↓ar, bt, bo, aL, aP, aM, aC, aD, aE, bh, aH, aJ, aq, ao, aQ, al, aK, aG, bq, br, aN, aO, ae, Pu.w64, Int.toNat_natCast, decide_eq_true_eq, Int.ofNat_lt, Int.ofNat_le, if_true, if_false, Int.natCast_nonneg, decide_true, decide_false, Bool.not_true, Bool.not_false, Bool.false_eq_true, Bool.not_eq_true, Bool.true_and, Bool.and_true, Bool.false_and, Bool.and_false, cI.is, Pu.within, h0, h1, h2, h3, he]
    · rw [Pu.BE (by omega)]
      simp (disch := omega) only [↓ar, bt, bo, aL, aP, aM, aC, aD, aE, bh, aH, aJ, aq, ao, aQ, al, aK, aG, bq, br, aN, aO, ae, Pu.w64, Int.toNat_natCast, decide_eq_true_eq, Int.ofNat_lt, Int.ofNat_le, if_true, if_false, Int.natCast_nonneg, decide_true, decide_false, Bool.not_true, Bool.not_false, Bool.false_eq_true, Bool.not_eq_true, Bool.true_and, Bool.and_true, Bool.false_and, Bool.and_false, cI.is, Pu.within, h1, h2]
theorem au.loop {k : Nat} {q x4 : List Int} {x5 : List (List Int)} (hk : 4 ≤ k) : ∀ (m j : Nat) (g : List (List Int)) (i c : Nat), Pu.dk 9 9 g → i < g.length → c < (g.getD i []).length → m < j →
    Pu.cel (Pu.bI m g i c).1 (Pu.bI m g i c).2.1 ((Pu.bI m g i c).2.2 + 1) = 0 → Pu.cel (Pu.bI m g i c).1 ((Pu.bI m g i c).2.1 + 1) (Pu.bI m g i c).2.2 = 0 →
    au.L1 k j i c q g x4 x5 = au.J2 k (Pu.bI m g i c).2.1 (Pu.bI m g i c).2.2 q (Pu.bI m g i c).1 x4 x5
  | m, 0, g, i, c, _, _, _, hj, _, _ => by omega
  | 0, j + 1, g, i, c, hg, hi, hc, _, s1, s2 => by
    have hl := hg.1
    have hw := hg.at i
    have e5 := ed.is (k := k + 1) (a := g) (i := i) (c := (c : Int) + 1) (by omega) (hg.mono (by omega) (by omega))
    have e6 := ed.is (k := k + 1) (a := g) (i := (i : Int) + 1) (c := c) (by omega) (hg.mono (by omega) (by omega))
    rw [show (c : Int) + 1 = ((c + 1 : Nat) : Int) by omega, Pu.kG] at e5
    rw [show (i : Int) + 1 = ((i + 1 : Nat) : Int) by omega, Pu.kG] at e6
    have s1 : (g.getD i []).getD (c + 1) 0 = 0 := s1
    have s2 : (g.getD (i + 1) []).getD c 0 = 0 := s2
    rw [s1] at e5
    rw [s2] at e6
    rw [Int.natCast_succ] at e5 e6
    rw [au.eV]
    simp (disch := omega) only [↓ar, bt, bo, aL, aP, aM, aC, aD, aE, bh, aH, aJ, aq, ao, aQ, al, aK, aG, bq, br, aN, aO, ae, Pu.w64, Int.toNat_natCast, decide_eq_true_eq, Int.ofNat_lt, Int.ofNat_le, if_true, if_false, Int.natCast_nonneg, decide_true, decide_false, Bool.not_true, Bool.not_false, Bool.false_eq_true, Bool.not_eq_true, Bool.true_and, Bool.and_true, Bool.false_and, Bool.and_false, e5, e6, Pu.bI]
  | m + 1, j + 1, g, i, c, hg, hi, hc, hj, s1, s2 => by
    have hl := hg.1
    have hw := hg.at i
    have e5 := ed.is (k := k + 1) (a := g) (i := i) (c := (c : Int) + 1) (by omega) (hg.mono (by omega) (by omega))
    have e6 := ed.is (k := k + 1) (a := g) (i := (i : Int) + 1) (c := c) (by omega) (hg.mono (by omega) (by omega))
    rw [show (c : Int) + 1 = ((c + 1 : Nat) : Int) by omega, Pu.kG, Int.natCast_succ, show (g.getD i []).getD (c + 1) 0 = Pu.cel g i (c + 1) from rfl] at e5
    rw [show (i : Int) + 1 = ((i + 1 : Nat) : Int) by omega, Pu.kG, Int.natCast_succ, show (g.getD (i + 1) []).getD c 0 = Pu.cel g (i + 1) c from rfl] at e6
    have hs : ∀ v, Pu.dk 9 9 (Pu.dq g i c v) := fun v => hg.set i (by rw [List.length_set]; exact hw)
    have es : ∀ v, g.set i ((g.getD i []).set c v) = Pu.dq g i c v := fun _ => rfl
    rw [au.eV]
    unfold Pu.bI at s1 s2 ⊢
    by_cases c1 : Pu.cel g i (c + 1) = 0 ∧ Pu.cel g (i + 1) c = 0
    · rw [if_pos c1] at s1 s2 ⊢
      rw [c1.1] at e5
      rw [c1.2] at e6
      simp (disch := omega) only [↓ar, bt, bo, aL, aP, aM, aC, aD, aE, bh, aH, aJ, aq, ao, aQ, al, aK, aG, bq, br, aN, aO, ae, Pu.w64, Int.toNat_natCast, decide_eq_true_eq, Int.ofNat_lt, Int.ofNat_le, if_true, if_false, Int.natCast_nonneg, decide_true, decide_false, Bool.not_true, Bool.not_false, Bool.false_eq_true, Bool.not_eq_true, Bool.true_and, Bool.and_true, Bool.false_and, Bool.and_false, e5, e6]
    · rw [if_neg c1] at s1 s2 ⊢
      by_cases c2 : Pu.cel g i (c + 1) = 0 ∨ (0 < Pu.cel g (i + 1) c ∧ Pu.cel g (i + 1) c ≤ Pu.cel g i (c + 1))
      · rw [if_pos c2] at s1 s2 ⊢
        have hb : Pu.cel g (i + 1) c ≠ 0 := fun e => by
          rcases c2 with c2 | c2
          · exact c1 ⟨c2, e⟩
          · omega
        obtain ⟨b1, b2⟩ := Pu.iq hb
        have ih := au.loop (q := q) (x4 := x4) (x5 := x5) hk m j (Pu.dq g i c (Pu.cel g (i + 1) c)) (i + 1) c (hs _) (by rw [Pu.cj]; exact b1) (by rw [Pu.bm]; exact b2) (by omega) s1 s2
        rw [Int.natCast_succ] at ih
        by_cases c3 : Pu.cel g i (c + 1) = 0
        · rw [c3] at e5
          simp (disch := omega) only [↓ar, bt, bo, aL, aP, aM, aC, aD, aE, bh, aH, aJ, aq, ao, aQ, al, aK, aG, bq, br, aN, aO, ae, Pu.w64, Int.toNat_natCast, decide_eq_true_eq, Int.ofNat_lt, Int.ofNat_le, if_true, if_false, Int.natCast_nonneg, decide_true, decide_false, Bool.not_true, Bool.not_false, Bool.false_eq_true, Bool.not_eq_true, Bool.true_and, Bool.and_true, Bool.false_and, Bool.and_false, e5, e6, hb, hi, hc, es, au.jd, ih]
        · have c4 : 0 < Pu.cel g (i + 1) c ∧ Pu.cel g (i + 1) c ≤ Pu.cel g i (c + 1) := c2.resolve_left c3
          simp (disch := omega) only [↓ar, bt, bo, aL, aP, aM, aC, aD, aE, bh, aH, aJ, aq, ao, aQ, al, aK, aG, bq, br, aN, aO, ae, Pu.w64, Int.toNat_natCast, decide_eq_true_eq, Int.ofNat_lt, Int.ofNat_le, if_true, if_false, Int.natCast_nonneg, decide_true, decide_false, Bool.not_true, Bool.not_false, Bool.false_eq_true, Bool.not_eq_true, Bool.true_and, Bool.and_true, Bool.false_and, Bool.and_false, e5, e6, c3, c4.1, c4.2, hi, hc, es, au.jd, ih]
      · rw [if_neg c2] at s1 s2 ⊢
        have c3 : ¬ Pu.cel g i (c + 1) = 0 := fun e => c2 (.inl e)
        obtain ⟨b1, b2⟩ := Pu.iq c3
        have ih := au.loop (q := q) (x4 := x4) (x5 := x5) hk m j (Pu.dq g i c (Pu.cel g i (c + 1))) i (c + 1) (hs _) (by rw [Pu.cj]; exact b1) (by rw [Pu.bm]; exact b2) (by omega) s1 s2
        rw [Int.natCast_succ] at ih
        by_cases c4 : 0 < Pu.cel g (i + 1) c
        · have c5 : ¬ Pu.cel g (i + 1) c ≤ Pu.cel g i (c + 1) := fun e => c2 (.inr ⟨c4, e⟩)
          simp (disch := omega) only [↓ar, bt, bo, aL, aP, aM, aC, aD, aE, bh, aH, aJ, aq, ao, aQ, al, aK, aG, bq, br, aN, aO, ae, Pu.w64, Int.toNat_natCast, decide_eq_true_eq, Int.ofNat_lt, Int.ofNat_le, if_true, if_false, Int.natCast_nonneg, decide_true, decide_false, Bool.not_true, Bool.not_false, Bool.false_eq_true, Bool.not_eq_true, Bool.true_and, Bool.and_true, Bool.false_and, Bool.and_false, e5, e6, c3, c4, c5, hi, hc, es, au.jd, ih]
        · simp (disch := omega) only [↓ar, bt, bo, aL, aP, aM, aC, aD, aE, bh, aH, aJ, aq, ao, aQ, al, aK, aG, bq, br, aN, aO, ae, Pu.w64, Int.toNat_natCast, decide_eq_true_eq, Int.ofNat_lt, Int.ofNat_le, if_true, if_false, Int.natCast_nonneg, decide_true, decide_false, Bool.not_true, Bool.not_false, Bool.false_eq_true, Bool.not_eq_true, Bool.true_and, Bool.and_true, Bool.false_and, Bool.and_false, e5, e6, c3, c4, hi, hc, es, au.jd, ih]
theorem au.rows {k : Nat} {q : List Int} {G : List (List Int)} {N : Nat} {x2 x3 x4 x5 : Int} {x6 : Nat} {x7 : Int} {x8 : Nat} {x11 : List Int} {x12 : List (List Int)} {x14 : List Int} {x15 : List (List Int)} (hk : 4 ≤ k) (hG : Pu.dk 9 9 G) (hq : q.length ≤ 9) (hN : N ≤ G.length)
    (h1 : ∀ r, r < N → 0 < (G.getD r []).length ∧ 0 ≤ q.getD r 0 ∧ q.getD r 0 ≤ (G.getD r []).length) (h2 : ∀ r, N ≤ r → (G.getD r []).length = 0) : ∀ (m j i : Nat), i + m = G.length → m < j →
    au.L4 k j G.length i x2 x3 x4 x5 x6 x7 x8 q G x11 x12 ((Pu.cl q G N).take i) x14 x15 = some ((q, Pu.cl q G N), (x2, true))
  | m, 0, i, _, hj => by omega
  | 0, j + 1, i, hm, _ => by
    rw [au.xR]
    have e : i = G.length := by omega
    subst e
    rw [List.take_of_length_le (by rw [Pu.b8]; exact hN)]
    simp only [↓ar, bt, bo, aL, aP, aM, aC, aD, aE, bh, aH, aJ, aq, ao, aQ, al, aK, aG, bq, br, aN, aO, ae, Pu.w64, Int.toNat_natCast, decide_eq_true_eq, Int.ofNat_lt, Int.ofNat_le, if_true, if_false, Int.natCast_nonneg, decide_true, decide_false, Bool.not_true, Bool.not_false, Bool.false_eq_true, Bool.not_eq_true, Bool.true_and, Bool.and_true, Bool.false_and, Bool.and_false, Nat.lt_irrefl]
  | m + 1, j + 1, i, hm, hj => by
    have hl := hG.1
    have hw := hG.at i
    have hi : i < G.length := by omega
    have ih := au.rows (k := k) (x2 := x2) (x3 := x3) (x4 := x4) (x5 := x5) (x6 := x6) (x7 := x7) (x8 := x8) (x11 := x11) (x12 := x12) (x14 := x14) (x15 := x15) hk hG hq hN h1 h2 m j (i + 1) (by omega) (by omega)
    rw [Int.natCast_succ] at ih
    rw [au.xR]
    by_cases c : i < N
    · obtain ⟨a1, a2, a3⟩ := h1 i c
      rw [Pu.take_succ (by rw [Pu.b8]; exact c) [], Pu.dm c] at ih
      have ha := dO.is (k := k) (p := q) (i := (i : Int)) (by omega) (by omega)
      rw [Pu.cm] at ha
      have et : (G.getD i []).drop (q.getD i 0).toNat = ((G.getD i []).drop (q.getD i 0).toNat).take ((G.getD i []).length - (q.getD i 0).toNat) := (List.take_of_length_le (by rw [List.length_drop]; exact Nat.le_refl _)).symm
      have hcl := bF.is (k := k) (a := (G.getD i []).drop (q.getD i 0).toNat) (by omega) (by rw [List.length_drop]; omega)
      have hln : ((Pu.cl q G N).take i ++ [(G.getD i []).drop (q.getD i 0).toNat]).length ≤ 1099511627776 := by
        rw [List.length_append, List.length_take, List.length_singleton]; omega
      have a4 : (0 : Int) < (G.getD i []).length := by omega
      have a5 : (q.getD i 0).toNat ≤ (G.getD i []).length := by omega
      simp (disch := omega) only [↓ar, bt, bo, aL, aP, aM, aC, aD, aE, bh, aH, aJ, aq, ao, aQ, al, aK, aG, bq, br, aN, aO, ae, Pu.w64, Int.toNat_natCast, decide_eq_true_eq, Int.ofNat_lt, Int.ofNat_le, if_true, if_false, Int.natCast_nonneg, decide_true, decide_false, Bool.not_true, Bool.not_false, Bool.false_eq_true, Bool.not_eq_true, Bool.true_and, Bool.and_true, Bool.false_and, Bool.and_false, hi, a2, a4, a5, ha, ir, ← et, hcl, hln, au.uh, ih]
    · have a4 : ¬ (0 : Int) < (G.getD i []).length := by have := h2 i (by omega); omega
      have e1 : (Pu.cl q G N).take (i + 1) = (Pu.cl q G N).take i := by
        rw [List.take_of_length_le (by rw [Pu.b8]; omega), List.take_of_length_le (by rw [Pu.b8]; omega)]
      rw [e1] at ih
      simp (disch := omega) only [↓ar, bt, bo, aL, aP, aM, aC, aD, aE, bh, aH, aJ, aq, ao, aQ, al, aK, aG, bq, br, aN, aO, ae, Pu.w64, Int.toNat_natCast, decide_eq_true_eq, Int.ofNat_lt, Int.ofNat_le, if_true, if_false, Int.natCast_nonneg, decide_true, decide_false, Bool.not_true, Bool.not_false, Bool.false_eq_true, Bool.not_eq_true, Bool.true_and, Bool.and_true, Bool.false_and, Bool.and_false, hi, a4, au.uh, ih]
theorem au.is {k : Nat} {t : Pu.Tab} {n : Nat} (hk : 4194304 + 20 ≤ k) (h : Pu.cz t = true) (hn : n < t.1.length) (hc : t.1.getD (n + 1) 0 < t.1.getD n 0) : au k t n = some ((Pu.cf t n).1, ((Pu.cf t n).2 : Int), true) := by
  obtain ⟨k, rfl⟩ : ∃ k', k = k' + 2 := ⟨k - 2, by omega⟩
  obtain ⟨z1, z2⟩ := Pu.gH h
  obtain ⟨hp, ho, hl, _⟩ := Pu.ct h
  have hit := aT.is (k := k + 1) (t := t) (by omega) (by omega) (by have := z2.1; omega) (fun r hr => by have := z2.2 r hr; omega)
  rw [h] at hit
  have hco := bU.is (k := k + 1) (p := t.1) (by omega) (by omega)
  have hct := cr.is (k := k + 1) (x := (n : Int)) (r := Pu.fU t.1) (by omega) (by have := Pu.lL t.1; omega)
  rw [Pu.rE hp hn hc] at hct
  have hrb := bk.is (k := k + 1) (p := t.1) (n := n) (by omega) hp hn hc
  have hgr := bO.is (k := k + 1) (t := t) (by omega) hp (z2.mono (by omega) (by omega))
  have hb := Pu.cY hp n
  rw [Pu.cm] at hb
  have hpos : 1 ≤ t.1.getD n 0 := by
    rw [Pu.aB hn]
    exact ((Pu.bn hp).1 _ (List.getElem_mem hn)).1
  obtain ⟨E, s1, s2⟩ := Pu.AR h hn hc
  have hst := Pu.nA h hn hc
  have a2 := au.loop (k := k) (q := Pu.az t.1 n) (x4 := []) (x5 := []) (by omega) 18 (k + 1) (Pu.bT t) n (t.1.getD n 0 - 1).toNat ⟨by rw [Pu.eY]; exact z2.1, fun r hr => by
    obtain ⟨q, hq, rfl⟩ := List.getElem_of_mem hr
    have a := Pu.eF hp q
    have b := (Pu.cY ho q).2
    rw [Pu.cm] at b
    rw [Pu.aB hq] at a
    omega⟩ hst.hi hst.hc (by omega) s1 s2
  rw [show (((t.1.getD n 0 - 1).toNat : Nat) : Int) = t.1.getD n 0 - 1 by omega] at a2
  have hS : Pu.bI 18 (Pu.bT t) n (t.1.getD n 0 - 1).toNat = Pu.bB t n := rfl
  rw [hS] at a2
  rw [au.eq, au.fC, show ((t.1, t.2) : Pu.Tab) = t from rfl]
  unfold Pu.cf
  generalize Pu.bB t n = S at *
  obtain ⟨g, i, c⟩ := S
  simp only at E a2 ⊢
  have hdl := Pu.iK (Pu.outer t) i
  have hql := Pu.iK t.1 n
  have hol := Pu.ck t
  have hgl := E.len
  have hcl : (Pu.jg g i c).length = g.length := Pu.mT g i c
  have hi := E.sl.hi
  have hcc := E.sl.hc
  have hR := fun x3 x4 x5 x6 x7 x8 x11 x12 x14 x15 => au.rows (k := k) (q := Pu.az t.1 n) (G := Pu.jg g i c) (N := (Pu.az (Pu.outer t) i).length) (x2 := (i : Int)) (x3 := x3) (x4 := x4) (x5 := x5) (x6 := x6) (x7 := x7) (x8 := x8) (x11 := x11) (x12 := x12) (x14 := x14) (x15 := x15) (by omega) E.rows (by omega) (by omega)
    (fun r hr => by
      have a := E.cutl r
      have b := Pu.sJ ho E.hi E.cor hr
      have d := E.ins r
      exact ⟨by omega, E.sl.q0 r, by omega⟩)
    (fun r hr => by
      have a := E.cutl r
      rw [Pu.bw hr] at a
      omega) (Pu.jg g i c).length k 0 (by omega) (by have := E.rows.1; omega)
  simp only [Int.natCast_zero, List.take_zero] at hR
  have ec : g.set i ((g.getD i []).take c) = Pu.jg g i c := rfl
  have hcc' : c ≤ (g.getD i []).length := by omega
  rw [au.j8] at a2
  simp (disch := omega) only [↓ar, bt, bo, aL, aP, aM, aC, aD, aE, bh, aH, aJ, aq, ao, aQ, al, aK, aG, bq, br, aN, aO, ae, Pu.w64, Int.toNat_natCast, decide_eq_true_eq, Int.ofNat_lt, Int.ofNat_le, if_true, if_false, Int.natCast_nonneg, decide_true, decide_false, Bool.not_true, Bool.not_false, Bool.false_eq_true, Bool.not_eq_true, Bool.true_and, Bool.and_true, Bool.false_and, Bool.and_false, hi, hcc', ir, Nat.sub_zero, List.drop_zero, ec, hR, beq_self_eq_true] at a2
  simp (disch := omega) only [↓ar, bt, bo, aL, aP, aM, aC, aD, aE, bh, aH, aJ, aq, ao, aQ, al, aK, aG, bq, br, aN, aO, ae, Pu.w64, Int.toNat_natCast, decide_eq_true_eq, Int.ofNat_lt, Int.ofNat_le, if_true, if_false, Int.natCast_nonneg, decide_true, decide_false, Bool.not_true, Bool.not_false, Bool.false_eq_true, Bool.not_eq_true, Bool.true_and, Bool.and_true, Bool.false_and, Bool.and_false, hit, hco, hct, hrb, hgr, hn, a2]
theorem au.all {k : Nat} {t : Pu.Tab} {n : Int} (hk : 4194304 + 30 ≤ k) (h1 : t.1.length ≤ 1000000) (ht : t.2.length ≤ 1048576) (hr : ∀ x ∈ t.2, x.length ≤ 1048576) : au k t n = some (Pu.dY t n) := by
  by_cases c : Pu.cz t = true ∧ Pu.has (Pu.fU t.1) n = true
  · obtain ⟨_, m, rfl, h3, h4⟩ := Pu.lE (Pu.kz.1 c.2)
    rw [au.is (by omega) c.1 h3 h4]
    unfold Pu.dY
    rw [if_pos c, Int.toNat_natCast]
  · obtain ⟨k, rfl⟩ : ∃ k', k = k' + 2 := ⟨k - 2, by omega⟩
    have hit := aT.is (k := k + 1) (t := t) (by omega) (by omega) ht hr
    rw [au.eq, show ((t.1, t.2) : Pu.Tab) = t from rfl]
    unfold Pu.dY
    rw [if_neg c]
    refine Pu.bE hit ?_
    cases hb : Pu.cz t with
    | false => rfl
    | true =>
      refine Pu.tN (Pu.bE (bU.is (by omega) h1) (Pu.bE (cr.is (by omega) (by have := Pu.lL t.1; omega)) ?_))
      cases hc : Pu.has (Pu.fU t.1) n with
      | false => rfl
      | true => exact absurd ⟨hb, hc⟩ c
theorem ch.loop {k : Nat} {p : List Int} (hk : 1 ≤ k) (hp : p.length ≤ 1000000) : ∀ (m j i : Nat) (acc : List Int), i + m = p.length → m < j → acc.length ≤ i → ch.L0 k j i p acc = some (acc ++ Pu.gW p m i)
  | m, 0, i, acc, _, hj, _ => by omega
  | 0, j + 1, i, acc, hi, _, ha => by
    rw [ch.bS]
    have hn : ¬ ((i : Int) < (p.length : Int)) := by omega
    simp only [↓ar, bt, bo, aL, aP, aM, aC, aD, aE, bh, aH, aJ, aq, ao, aQ, al, aK, aG, bq, br, aN, aO, ae, Pu.w64, Int.toNat_natCast, decide_eq_true_eq, Int.ofNat_lt, Int.ofNat_le, if_true, if_false, Int.natCast_nonneg, decide_true, decide_false, Bool.not_true, Bool.not_false, Bool.false_eq_true, Bool.not_eq_true, Bool.true_and, Bool.and_true, Bool.false_and, Bool.and_false, hn, Pu.gW, List.append_nil]
  | m + 1, j + 1, i, acc, hi, hj, ha => by
    rw [ch.bS]
    have h1 : i < p.length := by omega
    have e : (i : Int) + 1 = ((i + 1 : Nat) : Int) := by omega
    have ih := fun acc h => ch.loop hk hp m j (i + 1) acc (by omega) (by omega) h
    have hl : (acc ++ [(i : Int)]).length ≤ 1099511627776 := by rw [List.length_append, List.length_singleton]; omega
    have h2 := ih (acc ++ [(i : Int)]) (by rw [List.length_append, List.length_singleton]; omega)
    have h3 := ih acc (by omega)
    have ea : cO k p ((i : Int) + 1) = some (p.getD (i + 1) 0) := by rw [cO.is (by omega), e, Pu.cm]
    rw [← e] at h2 h3
    unfold Pu.gW
    by_cases c : p.getD (i + 1) 0 < p.getD i 0
    · simp (disch := omega) only [↓ar, bt, bo, aL, aP, aM, aC, aD, aE, bh, aH, aJ, aq, ao, aQ, al, aK, aG, bq, br, aN, aO, ae, Pu.w64, Int.toNat_natCast, decide_eq_true_eq, Int.ofNat_lt, Int.ofNat_le, if_true, if_false, Int.natCast_nonneg, decide_true, decide_false, Bool.not_true, Bool.not_false, Bool.false_eq_true, Bool.not_eq_true, Bool.true_and, Bool.and_true, Bool.false_and, Bool.and_false, h1, ea, c, hl, ch.eP, h2, List.append_assoc, List.cons_append, List.nil_append]
    · simp (disch := omega) only [↓ar, bt, bo, aL, aP, aM, aC, aD, aE, bh, aH, aJ, aq, ao, aQ, al, aK, aG, bq, br, aN, aO, ae, Pu.w64, Int.toNat_natCast, decide_eq_true_eq, Int.ofNat_lt, Int.ofNat_le, if_true, if_false, Int.natCast_nonneg, decide_true, decide_false, Bool.not_true, Bool.not_false, Bool.false_eq_true, Bool.not_eq_true, Bool.true_and, Bool.and_true, Bool.false_and, Bool.and_false, h1, ea, c, ch.eP, h3]
theorem ch.is {k : Nat} {p : List Int} (hk : 4194304 + 3 ≤ k) (hp : p.length ≤ 1000000) : ch k p = some (Pu.fU p) := by
  obtain ⟨k, rfl⟩ : ∃ k', k = k' + 1 := ⟨k - 1, by omega⟩
  rw [ch.eq, aX.is (by omega) (by omega), ae]
  unfold Pu.fU
  have h := ch.loop (k := k) (p := p) (by omega) hp p.length k 0 [] (by omega) (by omega) (by simp)
  rw [Int.natCast_zero, List.nil_append] at h
  cases hb : Pu.bN p with
  | true => simp only [↓ar, bt, bo, aL, aP, aM, aC, aD, aE, bh, aH, aJ, aq, ao, aQ, al, aK, aG, bq, br, aN, aO, ae, Pu.w64, Int.toNat_natCast, decide_eq_true_eq, Int.ofNat_lt, Int.ofNat_le, if_true, if_false, Int.natCast_nonneg, decide_true, decide_false, Bool.not_true, Bool.not_false, Bool.false_eq_true, Bool.not_eq_true, Bool.true_and, Bool.and_true, Bool.false_and, Bool.and_false, h]
  | false => simp only [↓ar, bt, bo, aL, aP, aM, aC, aD, aE, bh, aH, aJ, aq, ao, aQ, al, aK, aG, bq, br, aN, aO, ae, Pu.w64, Int.toNat_natCast, decide_eq_true_eq, Int.ofNat_lt, Int.ofNat_le, if_true, if_false, Int.natCast_nonneg, decide_true, decide_false, Bool.not_true, Bool.not_false, Bool.false_eq_true, Bool.not_eq_true, Bool.true_and, Bool.and_true, Bool.false_and, Bool.and_false]
theorem dh.loop {k : Nat} {x : Int} {r : List Int} (hr : r.length ≤ 1048577) : ∀ (m j i : Nat), i + m = r.length → m < j → dh.L0 k j x i r = some (Pu.has (r.drop i) x)
  | m, 0, i, _, hj => by omega
  | 0, j + 1, i, hi, _ => by
    rw [dh.bS]
    have e : i = r.length := by omega
    subst e
    simp [Pu.has]
  | m + 1, j + 1, i, hi, hj => by
    rw [dh.bS]
    have h1 : i < r.length := by omega
    have ih := dh.loop (k := k) (x := x) hr m j (i + 1) (by omega) (by omega)
    rw [Int.natCast_succ] at ih
    have e : Pu.has (r.drop i) x = (decide (x = r.getD i 0) || Pu.has (r.drop (i + 1)) x) := by
      rw [Pu.drop_cons h1 0]; rfl
    rw [e]
    by_cases c : r.getD i 0 = x
    · have c' : x = r.getD i 0 := c.symm
      simp (disch := omega) only [↓ar, bt, bo, aL, aP, aM, aC, aD, aE, bh, aH, aJ, aq, ao, aQ, al, aK, aG, bq, br, aN, aO, ae, Pu.w64, Int.toNat_natCast, decide_eq_true_eq, Int.ofNat_lt, Int.ofNat_le, if_true, if_false, Int.natCast_nonneg, decide_true, decide_false, Bool.not_true, Bool.not_false, Bool.false_eq_true, Bool.not_eq_true, Bool.true_and, Bool.and_true, Bool.false_and, Bool.and_false, h1, c, Bool.true_or]
    · have c' : ¬ x = r.getD i 0 := fun h => c h.symm
      simp (disch := omega) only [↓ar, bt, bo, aL, aP, aM, aC, aD, aE, bh, aH, aJ, aq, ao, aQ, al, aK, aG, bq, br, aN, aO, ae, Pu.w64, Int.toNat_natCast, decide_eq_true_eq, Int.ofNat_lt, Int.ofNat_le, if_true, if_false, Int.natCast_nonneg, decide_true, decide_false, Bool.not_true, Bool.not_false, Bool.false_eq_true, Bool.not_eq_true, Bool.true_and, Bool.and_true, Bool.false_and, Bool.and_false, h1, c, c', Bool.false_or, ih]
theorem dh.is {k : Nat} {x : Int} {r : List Int} (hk : 4194304 + 2 ≤ k) (hr : r.length ≤ 1048577) : dh k r x = some (Pu.has r x) := by
  obtain ⟨k, rfl⟩ : ∃ k', k = k' + 1 := ⟨k - 1, by omega⟩
  rw [dh.eq]
  have h := dh.loop (k := k) (x := x) hr r.length k 0 (by omega) (by omega)
  rw [Int.natCast_zero, List.drop_zero] at h
  exact h
theorem cL.is {k : Nat} {p : List Int} {n : Nat} (hk : 4194304 + 3 ≤ k) (hp : Pu.bN p = true) (hn : n < p.length) (hc : p.getD (n + 1) 0 < p.getD n 0) : cL k p n = some (Pu.az p n, true) := by
  obtain ⟨k, rfl⟩ : ∃ k', k = k' + 1 := ⟨k - 1, by omega⟩
  have h9 := (Pu.bn hp).2.2.1
  have ha := cO.is (k := k) (p := p) (i := (n : Int) + 1) (by omega)
  have e : (n : Int) + 1 = ((n + 1 : Nat) : Int) := by omega
  rw [e, Pu.cm] at ha
  have hb := Pu.cY hp n
  rw [Pu.cm] at hb
  have h1 : ¬ (n : Int) < 0 := by omega
  have h2 : ¬ (p.length : Int) ≤ n := by omega
  have h3 : ¬ p.getD n 0 = p.getD (n + 1) 0 := by omega
  have h4 : n ≤ p.length := by omega
  have h5 : p.length ≤ 1099511627776 := by omega
  have hset : (p.set n (p.getD n 0 - 1)).getD n 0 = p.getD n 0 - 1 := by
    rw [Pu.aB (by rw [List.length_set]; exact hn), List.getElem_set_self]
  have hpt := aX.is (k := k) (p := p) (by omega) (by omega)
  rw [cL.eq, hpt, ae, hp]
  unfold Pu.az
  by_cases c : p.getD n 0 - 1 = 0
  · simp (disch := omega) only [↓ar, bt, bo, aL, aP, aM, aC, aD, aE, bh, aH, aJ, aq, ao, aQ, al, aK, aG, bq, br, aN, aO, ae, Pu.w64, Int.toNat_natCast, decide_eq_true_eq, Int.ofNat_lt, Int.ofNat_le, if_true, if_false, Int.natCast_nonneg, decide_true, decide_false, Bool.not_true, Bool.not_false, Bool.false_eq_true, Bool.not_eq_true, Bool.true_and, Bool.and_true, Bool.false_and, Bool.and_false, h1, h2, h3, h4, h5, hn, cL.fC, e, ha, List.nil_append, List.length_set, hset, c, ir, Nat.sub_zero, List.drop_zero, if_true]
    rw [c] at hset
    simp (disch := omega) only [↓ar, bt, bo, aL, aP, aM, aC, aD, aE, bh, aH, aJ, aq, ao, aQ, al, aK, aG, bq, br, aN, aO, ae, Pu.w64, Int.toNat_natCast, decide_eq_true_eq, Int.ofNat_lt, Int.ofNat_le, if_true, if_false, Int.natCast_nonneg, decide_true, decide_false, Bool.not_true, Bool.not_false, Bool.false_eq_true, Bool.not_eq_true, Bool.true_and, Bool.and_true, Bool.false_and, Bool.and_false, hset, h4, Nat.sub_zero, List.drop_zero, List.take_set_of_le (Nat.le_refl n)]
  · simp (disch := omega) only [↓ar, bt, bo, aL, aP, aM, aC, aD, aE, bh, aH, aJ, aq, ao, aQ, al, aK, aG, bq, br, aN, aO, ae, Pu.w64, Int.toNat_natCast, decide_eq_true_eq, Int.ofNat_lt, Int.ofNat_le, if_true, if_false, Int.natCast_nonneg, decide_true, decide_false, Bool.not_true, Bool.not_false, Bool.false_eq_true, Bool.not_eq_true, Bool.true_and, Bool.and_true, Bool.false_and, Bool.and_false, h1, h2, h3, h4, h5, hn, cL.fC, e, ha, List.nil_append, List.length_set, hset, c, if_false]
theorem bK.row {k k1 : Nat} {t : Pu.Tab} {r : Nat} {acc : List (List Int)} (hk : 3 ≤ k) (hi : Pu.bN t.1 = true) (hr : r ≤ 10) (ha : acc.length ≤ 20) : ∀ (m j i : Nat), i + m = 11 → m < j →
    bK.L1 k k1 j r i acc ((Pu.jx t r).take i ++ List.replicate (11 - i) 0) t.1 t.2 = bK.L0 k k1 ((r + 1 : Nat) : Int) (acc ++ [Pu.jx t r]) t.1 t.2
  | m, 0, i, _, hj => by omega
  | 0, j + 1, i, hm, _ => by
    rw [bK.eV]
    have e : i = 11 := by omega
    subst e
    have hn : ¬ ((11 : Nat) : Int) ≤ 10 := by omega
    have hl : (acc ++ [(Pu.jx t r).take 11 ++ List.replicate (11 - 11) 0]).length ≤ 1099511627776 := by rw [List.length_append, List.length_singleton]; omega
    have et : (Pu.jx t r).take 11 ++ List.replicate (11 - 11) 0 = Pu.jx t r := by
      rw [Nat.sub_self, List.replicate_zero, List.append_nil]
      exact List.take_of_length_le (by rw [Pu.iJ]; omega)
    rw [et] at hl ⊢
    simp (disch := omega) only [↓ar, bt, bo, aL, aP, aM, aC, aD, aE, bh, aH, aJ, aq, ao, aQ, al, aK, aG, bq, br, aN, aO, ae, Pu.w64, Int.toNat_natCast, decide_eq_true_eq, Int.ofNat_lt, Int.ofNat_le, if_true, if_false, Int.natCast_nonneg, decide_true, decide_false, Bool.not_true, Bool.not_false, Bool.false_eq_true, Bool.not_eq_true, Bool.true_and, Bool.and_true, Bool.false_and, Bool.and_false, hn, hl, Int.natCast_add, Int.natCast_one]
  | m + 1, j + 1, i, hm, hj => by
    rw [bK.eV]
    have ih := bK.row (k := k) (k1 := k1) (t := t) (r := r) (acc := acc) hk hi hr ha m j (i + 1) (by omega) (by omega)
    have hf := Pu.AF (xs := Pu.jx t r) (i := i) (by rw [Pu.iJ]; omega) 0 0
    rw [Pu.iJ, Pu.tS (by omega)] at hf
    rw [← hf] at ih
    have he := bP.is (k := k) (t := t) (r := (r : Int)) (c := (i : Int)) (by omega) hi (by omega) (by omega)
    have h1 : (i : Int) ≤ 10 := by omega
    have hlen : ((Pu.jx t r).take i ++ List.replicate (11 - i) 0).length = 11 := by
      rw [List.length_append, List.length_take, List.length_replicate, Pu.iJ]; omega
    have h2 : i < 11 := by omega
    have e1 : ((i + 1 : Nat) : Int) = (i : Int) + 1 := by omega
    rw [e1] at ih
    rw [show ((t.1, t.2) : Pu.Tab) = t from rfl]
    simp (disch := omega) only [↓ar, bt, bo, aL, aP, aM, aC, aD, aE, bh, aH, aJ, aq, ao, aQ, al, aK, aG, bq, br, aN, aO, ae, Pu.w64, Int.toNat_natCast, decide_eq_true_eq, Int.ofNat_lt, Int.ofNat_le, if_true, if_false, Int.natCast_nonneg, decide_true, decide_false, Bool.not_true, Bool.not_false, Bool.false_eq_true, Bool.not_eq_true, Bool.true_and, Bool.and_true, Bool.false_and, Bool.and_false, h1, he, hlen, h2, ih]
theorem bK.loop {k : Nat} {t : Pu.Tab} (hk : 20 ≤ k) (hi : Pu.bN t.1 = true) : ∀ (m j i : Nat), i + m = 11 → m < j →
    bK.L0 k j i ((Pu.kU t).take i) t.1 t.2 = some (Pu.kU t)
  | m, 0, i, _, hj => by omega
  | 0, j + 1, i, hm, _ => by
    rw [bK.bS]
    have e : i = 11 := by omega
    subst e
    have hn : ¬ ((11 : Nat) : Int) ≤ 10 := by omega
    have et : (Pu.kU t).take 11 = Pu.kU t := List.take_of_length_le (by rw [Pu.ou]; omega)
    rw [et]
    simp only [↓ar, bt, bo, aL, aP, aM, aC, aD, aE, bh, aH, aJ, aq, ao, aQ, al, aK, aG, bq, br, aN, aO, ae, Pu.w64, Int.toNat_natCast, decide_eq_true_eq, Int.ofNat_lt, Int.ofNat_le, if_true, if_false, Int.natCast_nonneg, decide_true, decide_false, Bool.not_true, Bool.not_false, Bool.false_eq_true, Bool.not_eq_true, Bool.true_and, Bool.and_true, Bool.false_and, Bool.and_false, hn]
  | m + 1, j + 1, i, hm, hj => by
    rw [bK.bS]
    have ih := bK.loop (k := k) (t := t) hk hi m j (i + 1) (by omega) (by omega)
    rw [Pu.take_succ (by rw [Pu.ou]; omega) [], Pu.sh (by omega)] at ih
    have hr := bK.row (k := k) (k1 := j) (t := t) (r := i) (acc := (Pu.kU t).take i) (by omega) hi (by omega) (by rw [List.length_take, Pu.ou]; omega) 11 k 0 (by omega) (by omega)
    rw [ih, List.take_zero, List.nil_append, Nat.sub_zero, Int.natCast_zero] at hr
    have h1 : (i : Int) ≤ 10 := by omega
    have h2 : Int.toNat 11 = 11 := rfl
    have h3 : (0 : Int) ≤ 11 := by omega
    have h4 : (11 : Nat) ≤ 1099511627776 := by omega
    simp (disch := omega) only [↓ar, bt, bo, aL, aP, aM, aC, aD, aE, bh, aH, aJ, aq, ao, aQ, al, aK, aG, bq, br, aN, aO, ae, Pu.w64, Int.toNat_natCast, decide_eq_true_eq, Int.ofNat_lt, Int.ofNat_le, if_true, if_false, Int.natCast_nonneg, decide_true, decide_false, Bool.not_true, Bool.not_false, Bool.false_eq_true, Bool.not_eq_true, Bool.true_and, Bool.and_true, Bool.false_and, Bool.and_false, h1, h2, h3, h4, Int.le_refl, hr]
theorem bK.is {k : Nat} {t : Pu.Tab} (hk : 30 ≤ k) (hi : Pu.bN t.1 = true) : bK k t = some (Pu.kU t) := by
  obtain ⟨k, rfl⟩ : ∃ k', k = k' + 1 := ⟨k - 1, by omega⟩
  rw [bK.eq]
  have h := bK.loop (k := k) (t := t) (by omega) hi 11 k 0 (by omega) (by omega)
  rw [Int.natCast_zero, List.take_zero] at h
  exact h
theorem bp.row {k k1 : Nat} {g R : List (List Int)} {q o x6 : List Int} {x7 : List (List Int)} {x8 : List Int} {acc : List (List Int)} {r : Nat} (hro : r < o.length) (hrg : r < g.length) (ha : acc.length ≤ 20) (h0 : 0 ≤ q.getD r 0) (h9 : o.getD r 0 ≤ 20) (hl : o.getD r 0 = q.getD r 0 + (R.getD r []).length)
    (hx : ∀ x, x < (R.getD r []).length → (q.getD r 0).toNat + x < (g.getD r []).length ∧ Pu.cel g r ((q.getD r 0).toNat + x) = (R.getD r []).getD x 0) (hr : (r : Int) ≤ 20) : ∀ (m j x : Nat), x + m = (R.getD r []).length → m < j →
    bp.L1 k k1 j r (((q.getD r 0).toNat + x : Nat) : Int) g q o ((R.getD r []).take x) x6 x7 x8 acc = bp.L0 k k1 ((r + 1 : Nat) : Int) g q o x6 x7 x8 (acc ++ [R.getD r []])
  | m, 0, x, _, hj => by omega
  | 0, j + 1, x, hm, _ => by
    rw [bp.eV]
    have e : x = (R.getD r []).length := by omega
    subst e
    rw [List.take_length]
    have hn : ¬ (((q.getD r 0).toNat + (R.getD r []).length : Nat) : Int) < o.getD r 0 := by omega
    generalize (q.getD r 0).toNat + (R.getD r []).length = y at *
    have hln : (acc ++ [R.getD r []]).length ≤ 1099511627776 := by rw [List.length_append, List.length_singleton]; omega
    simp (disch := omega) only [↓ar, bt, bo, aL, aP, aM, aC, aD, aE, bh, aH, aJ, aq, ao, aQ, al, aK, aG, bq, br, aN, aO, ae, Pu.w64, Int.toNat_natCast, decide_eq_true_eq, Int.ofNat_lt, Int.ofNat_le, if_true, if_false, Int.natCast_nonneg, decide_true, decide_false, Bool.not_true, Bool.not_false, Bool.false_eq_true, Bool.not_eq_true, Bool.true_and, Bool.and_true, Bool.false_and, Bool.and_false, hro, hn, hln, Int.natCast_add, Int.natCast_one]
  | m + 1, j + 1, x, hm, hj => by
    rw [bp.eV]
    have hlt : x < (R.getD r []).length := by omega
    obtain ⟨b1, b2⟩ := hx x hlt
    have ih := bp.row (k := k) (k1 := k1) (q := q) (x6 := x6) (x7 := x7) (x8 := x8) hro hrg ha h0 h9 hl hx hr m j (x + 1) (by omega) (by omega)
    rw [Pu.take_succ hlt 0, ← b2] at ih
    have hc : (((q.getD r 0).toNat + x : Nat) : Int) < o.getD r 0 := by omega
    have e1 : (((q.getD r 0).toNat + (x + 1) : Nat) : Int) = (((q.getD r 0).toNat + x : Nat) : Int) + 1 := by omega
    rw [e1] at ih
    have hln : ((R.getD r []).take x ++ [Pu.cel g r ((q.getD r 0).toNat + x)]).length ≤ 1099511627776 := by
      rw [List.length_append, List.length_take, List.length_singleton]; omega
    have ec : (g.getD r []).getD ((q.getD r 0).toNat + x) 0 = Pu.cel g r ((q.getD r 0).toNat + x) := rfl
    generalize hy : (q.getD r 0).toNat + x = y at *
    simp (maxSteps := 10000000) (disch := omega) only [↓ar, bt, bo, aL, aP, aM, aC, aD, aE, bh, aH, aJ, aq, ao, aQ, al, aK, aG, bq, br, aN, aO, ae, Pu.w64, Int.toNat_natCast, decide_eq_true_eq, Int.ofNat_lt, Int.ofNat_le, if_true, if_false, Int.natCast_nonneg, decide_true, decide_false, Bool.not_true, Bool.not_false, Bool.false_eq_true, Bool.not_eq_true, Bool.true_and, Bool.and_true, Bool.false_and, Bool.and_false, hro, hrg, hc, b1, ec, hln, ih]
theorem bp.loop {k : Nat} {g R : List (List Int)} {q o x4 : List Int} {x5 : List (List Int)} {x6 : List Int} (hk : 40 ≤ k) (hol : o.length ≤ 9) (hg : o.length ≤ g.length) (hR : R.length = o.length)
    (h : ∀ r, r < o.length → 0 ≤ q.getD r 0 ∧ o.getD r 0 ≤ 20 ∧ o.getD r 0 = q.getD r 0 + (R.getD r []).length ∧ ∀ x, x < (R.getD r []).length → (q.getD r 0).toNat + x < (g.getD r []).length ∧ Pu.cel g r ((q.getD r 0).toNat + x) = (R.getD r []).getD x 0) : ∀ (m j i : Nat), i + m = o.length → m < j →
    bp.L0 k j i g q o x4 x5 x6 (R.take i) = some (x6, R)
  | m, 0, i, _, hj => by omega
  | 0, j + 1, i, hm, _ => by
    rw [bp.bS]
    have e : i = o.length := by omega
    subst e
    rw [List.take_of_length_le (by omega)]
    simp only [↓ar, bt, bo, aL, aP, aM, aC, aD, aE, bh, aH, aJ, aq, ao, aQ, al, aK, aG, bq, br, aN, aO, ae, Pu.w64, Int.toNat_natCast, decide_eq_true_eq, Int.ofNat_lt, Int.ofNat_le, if_true, if_false, Int.natCast_nonneg, decide_true, decide_false, Bool.not_true, Bool.not_false, Bool.false_eq_true, Bool.not_eq_true, Bool.true_and, Bool.and_true, Bool.false_and, Bool.and_false, Nat.lt_irrefl]
  | m + 1, j + 1, i, hm, hj => by
    rw [bp.bS]
    have hi : i < o.length := by omega
    obtain ⟨a1, a2, a3, a4⟩ := h i hi
    have ih := bp.loop (q := q) (x4 := x4) (x5 := x5) (x6 := x6) hk hol hg hR h m j (i + 1) (by omega) (by omega)
    rw [Pu.take_succ (by omega) []] at ih
    have hr := bp.row (k := k) (k1 := j) (q := q) (x6 := x4) (x7 := x5) (x8 := x6) (acc := R.take i) hi (by omega) (by rw [List.length_take]; omega) a1 a2 a3 a4 (by omega) (R.getD i []).length k 0 (by omega) (by omega)
    rw [ih, List.take_zero, Nat.add_zero, show (((q.getD i 0).toNat : Nat) : Int) = q.getD i 0 by omega] at hr
    have ha := cO.is (k := k) (p := q) (i := (i : Int)) (by omega)
    rw [Pu.cm] at ha
    simp (disch := omega) only [↓ar, bt, bo, aL, aP, aM, aC, aD, aE, bh, aH, aJ, aq, ao, aQ, al, aK, aG, bq, br, aN, aO, ae, Pu.w64, Int.toNat_natCast, decide_eq_true_eq, Int.ofNat_lt, Int.ofNat_le, if_true, if_false, Int.natCast_nonneg, decide_true, decide_false, Bool.not_true, Bool.not_false, Bool.false_eq_true, Bool.not_eq_true, Bool.true_and, Bool.and_true, Bool.false_and, Bool.and_false, hi, ha, hr]
theorem bp.is {k : Nat} {g R : List (List Int)} {q o : List Int} (hk : 50 ≤ k) (hq : q.length ≤ 9) (hol : o.length ≤ 9) (hg : o.length ≤ g.length) (hR : R.length = o.length)
    (h : ∀ r, r < o.length → 0 ≤ q.getD r 0 ∧ o.getD r 0 ≤ 20 ∧ o.getD r 0 = q.getD r 0 + (R.getD r []).length ∧ ∀ x, x < (R.getD r []).length → (q.getD r 0).toNat + x < (g.getD r []).length ∧ Pu.cel g r ((q.getD r 0).toNat + x) = (R.getD r []).getD x 0) :
    bp k g q o = some (q, R) := by
  obtain ⟨k, rfl⟩ : ∃ k', k = k' + 1 := ⟨k - 1, by omega⟩
  rw [bp.eq]
  have hl := bp.loop (k := k) (q := q) (x4 := []) (x5 := []) (x6 := q) (by omega) hol hg hR h o.length k 0 (by omega) (by omega)
  rw [Int.natCast_zero, List.take_zero] at hl
  have hln : q.length ≤ 1099511627776 := by omega
  simp only [↓ar, bt, bo, aL, aP, aM, aC, aD, aE, bh, aH, aJ, aq, ao, aQ, al, aK, aG, bq, br, aN, aO, ae, Pu.w64, Int.toNat_natCast, decide_eq_true_eq, Int.ofNat_lt, Int.ofNat_le, if_true, if_false, Int.natCast_nonneg, decide_true, decide_false, Bool.not_true, Bool.not_false, Bool.false_eq_true, Bool.not_eq_true, Bool.true_and, Bool.and_true, Bool.false_and, Bool.and_false, List.nil_append, hln, hl]
theorem a9.loop {k : Nat} {Q q x4 x6 x7 : List Int} {x5 : List (List Int)} (hk : 4 ≤ k) : ∀ (m j : Nat) (s g : List (List Int)) (i c : Nat), Pu.Sq s g i c → Pu.Sl Q g i c → g.length ≤ 9 → (∀ r, (g.getD r []).length ≤ 9) → m < j →
    Pu.cel (Pu.bI m g i c).1 (Pu.bI m g i c).2.1 ((Pu.bI m g i c).2.2 + 1) = 0 → Pu.cel (Pu.bI m g i c).1 ((Pu.bI m g i c).2.1 + 1) (Pu.bI m g i c).2.2 = 0 →
    ∃ s', Pu.Sq s' (Pu.bI m g i c).1 (Pu.bI m g i c).2.1 (Pu.bI m g i c).2.2 ∧ a9.L0 k j i c q s x4 x5 x6 x7 = a9.J2 k (Pu.bI m g i c).2.1 q s' x4 x5 x6 x7
  | m, 0, s, g, i, c, _, _, _, _, hj, _, _ => by omega
  | 0, j + 1, s, g, i, c, hs, hg, hl, hw, _, s1, s2 => by
    have hi := hg.hi
    have hc := hg.hc
    have hwi := hw i
    refine ⟨s, hs, ?_⟩
    have q1 := hs.row i (by omega)
    have q2 := hs.row (i + 1) (by omega)
    have q0 := hs.len
    have r1 : (s.getD i []).getD (c + 1) 0 = 0 := (hs.at_ i (c + 1) (by omega) (by omega) (by omega)).trans s1
    have r2 : (s.getD (i + 1) []).getD c 0 = 0 := (hs.at_ (i + 1) c (by omega) (by omega) (by omega)).trans s2
    have e1 : (c : Int) + 1 = ((c + 1 : Nat) : Int) := by omega
    have e2 : (i : Int) + 1 = ((i + 1 : Nat) : Int) := by omega
    have g1 : i < 11 := by omega
    have g2 : c + 1 < 11 := by omega
    have g3 : i + 1 < 11 := by omega
    have g4 : c < 11 := by omega
    rw [a9.bS]
    simp (maxSteps := 10000000) (disch := omega) only [↓ar, bt, bo, aL, aP, aM, aC, aD, aE, bh, aH, aJ, aq, ao, aQ, al, aK, aG, bq, br, aN, aO, ae, Pu.w64, Int.toNat_natCast, decide_eq_true_eq, Int.ofNat_lt, Int.ofNat_le, if_true, if_false, Int.natCast_nonneg, decide_true, decide_false, Bool.not_true, Bool.not_false, Bool.false_eq_true, Bool.not_eq_true, Bool.true_and, Bool.and_true, Bool.false_and, Bool.and_false, e1, e2, q0, q1, q2, g1, g2, g3, g4, r1, r2, Int.lt_irrefl, Pu.bI]
  | m + 1, j + 1, s, g, i, c, hs, hg, hl, hw, hj, s1, s2 => by
    have hi := hg.hi
    have hc := hg.hc
    have hwi := hw i
    have q1 := hs.row i (by omega)
    have q2 := hs.row (i + 1) (by omega)
    have q0 := hs.len
    have r1 : (s.getD i []).getD (c + 1) 0 = Pu.cel g i (c + 1) := hs.at_ i (c + 1) (by omega) (by omega) (by omega)
    have r2 : (s.getD (i + 1) []).getD c 0 = Pu.cel g (i + 1) c := hs.at_ (i + 1) c (by omega) (by omega) (by omega)
    have p1 := hg.pos i (c + 1)
    have p2 := hg.pos (i + 1) c
    have e1 : (c : Int) + 1 = ((c + 1 : Nat) : Int) := by omega
    have e2 : (i : Int) + 1 = ((i + 1 : Nat) : Int) := by omega
    have g1 : i < 11 := by omega
    have g2 : c + 1 < 11 := by omega
    have g3 : i + 1 < 11 := by omega
    have g4 : c < 11 := by omega
    have es : ∀ v, s.set i ((s.getD i []).set c v) = Pu.dq s i c v := fun _ => rfl
    have es1 : ∀ v, (Pu.dq s i c v).set (i + 1) (((Pu.dq s i c v).getD (i + 1) []).set c 0) = Pu.dq (Pu.dq s i c v) (i + 1) c 0 := fun _ => rfl
    have es2 : ∀ v, (Pu.dq s i c v).set i (((Pu.dq s i c v).getD i []).set (c + 1) 0) = Pu.dq (Pu.dq s i c v) i (c + 1) 0 := fun _ => rfl
    have z0 : ∀ v, (Pu.dq s i c v).length = 11 := fun v => by rw [Pu.cj]; exact q0
    have z1 : ∀ v, ((Pu.dq s i c v).getD i []).length = 11 := fun v => by rw [Pu.bm]; exact q1
    have z2 : ∀ v, ((Pu.dq s i c v).getD (i + 1) []).length = 11 := fun v => by rw [Pu.bm]; exact q2
    unfold Pu.bI at s1 s2 ⊢
    by_cases c1 : Pu.cel g i (c + 1) = 0 ∧ Pu.cel g (i + 1) c = 0
    · rw [if_pos c1] at s1 s2 ⊢
      refine ⟨s, hs, ?_⟩
      rw [a9.bS]
      simp (maxSteps := 10000000) (disch := omega) only [↓ar, bt, bo, aL, aP, aM, aC, aD, aE, bh, aH, aJ, aq, ao, aQ, al, aK, aG, bq, br, aN, aO, ae, Pu.w64, Int.toNat_natCast, decide_eq_true_eq, Int.ofNat_lt, Int.ofNat_le, if_true, if_false, Int.natCast_nonneg, decide_true, decide_false, Bool.not_true, Bool.not_false, Bool.false_eq_true, Bool.not_eq_true, Bool.true_and, Bool.and_true, Bool.false_and, Bool.and_false, e1, e2, q0, q1, q2, g1, g2, g3, g4, r1, r2, c1.1, c1.2, Int.lt_irrefl]
    · rw [if_neg c1] at s1 s2 ⊢
      by_cases c2 : Pu.cel g i (c + 1) = 0 ∨ (0 < Pu.cel g (i + 1) c ∧ Pu.cel g (i + 1) c ≤ Pu.cel g i (c + 1))
      · rw [if_pos c2] at s1 s2 ⊢
        have hb : Pu.cel g (i + 1) c ≠ 0 := fun e => by
          rcases c2 with c2 | c2
          · exact c1 ⟨c2, e⟩
          · omega
        have hb' : 0 < Pu.cel g (i + 1) c := by omega
        obtain ⟨s', a1, a2⟩ := a9.loop (Q := Q) (q := q) (x4 := x4) (x6 := x6) (x7 := x7) (x5 := x5) hk m j _ _ (i + 1) c (hs.step (i' := i + 1) (c' := c) hi hc g1 g4 g3 g4 (by omega) (Pu.cel g (i + 1) c)) (hg.down hb c2) (by rw [Pu.cj]; exact hl) (fun r => by rw [Pu.bm]; exact hw r) (by omega) s1 s2
        refine ⟨s', a1, ?_⟩
        rw [← a2, a9.bS, a9.eP]
        by_cases c3 : Pu.cel g i (c + 1) = 0
        · simp (maxSteps := 10000000) (disch := omega) only [↓ar, bt, bo, aL, aP, aM, aC, aD, aE, bh, aH, aJ, aq, ao, aQ, al, aK, aG, bq, br, aN, aO, ae, Pu.w64, Int.toNat_natCast, decide_eq_true_eq, Int.ofNat_lt, Int.ofNat_le, if_true, if_false, Int.natCast_nonneg, decide_true, decide_false, Bool.not_true, Bool.not_false, Bool.false_eq_true, Bool.not_eq_true, Bool.true_and, Bool.and_true, Bool.false_and, Bool.and_false, e1, e2, q0, q1, q2, g1, g2, g3, g4, r1, r2, c3, hb', Int.lt_irrefl, es, a9.jd, z0, z1, z2, es1]
        · have c4 : Pu.cel g (i + 1) c ≤ Pu.cel g i (c + 1) := (c2.resolve_left c3).2
          have c5 : 0 < Pu.cel g i (c + 1) := by omega
          simp (maxSteps := 10000000) (disch := omega) only [↓ar, bt, bo, aL, aP, aM, aC, aD, aE, bh, aH, aJ, aq, ao, aQ, al, aK, aG, bq, br, aN, aO, ae, Pu.w64, Int.toNat_natCast, decide_eq_true_eq, Int.ofNat_lt, Int.ofNat_le, if_true, if_false, Int.natCast_nonneg, decide_true, decide_false, Bool.not_true, Bool.not_false, Bool.false_eq_true, Bool.not_eq_true, Bool.true_and, Bool.and_true, Bool.false_and, Bool.and_false, e1, e2, q0, q1, q2, g1, g2, g3, g4, r1, r2, c3, c4, c5, hb', es, a9.jd, z0, z1, z2, es1]
      · rw [if_neg c2] at s1 s2 ⊢
        have c3 : ¬ Pu.cel g i (c + 1) = 0 := fun e => c2 (.inl e)
        have c5 : 0 < Pu.cel g i (c + 1) := by omega
        obtain ⟨s', a1, a2⟩ := a9.loop (Q := Q) (q := q) (x4 := x4) (x6 := x6) (x7 := x7) (x5 := x5) hk m j _ _ i (c + 1) (hs.step (i' := i) (c' := c + 1) hi hc g1 g4 g1 g2 (by omega) (Pu.cel g i (c + 1))) (hg.right c3 (fun e => c2 (.inr e))) (by rw [Pu.cj]; exact hl) (fun r => by rw [Pu.bm]; exact hw r) (by omega) s1 s2
        refine ⟨s', a1, ?_⟩
        rw [← a2, a9.bS, a9.eP]
        by_cases c4 : 0 < Pu.cel g (i + 1) c
        · have c6 : ¬ Pu.cel g (i + 1) c ≤ Pu.cel g i (c + 1) := fun e => c2 (.inr ⟨c4, e⟩)
          simp (maxSteps := 10000000) (disch := omega) only [↓ar, bt, bo, aL, aP, aM, aC, aD, aE, bh, aH, aJ, aq, ao, aQ, al, aK, aG, bq, br, aN, aO, ae, Pu.w64, Int.toNat_natCast, decide_eq_true_eq, Int.ofNat_lt, Int.ofNat_le, if_true, if_false, Int.natCast_nonneg, decide_true, decide_false, Bool.not_true, Bool.not_false, Bool.false_eq_true, Bool.not_eq_true, Bool.true_and, Bool.and_true, Bool.false_and, Bool.and_false, e1, e2, q0, q1, q2, g1, g2, g3, g4, r1, r2, c3, c4, c5, c6, es, a9.jd, z0, z1, z2, es2]
        · simp (maxSteps := 10000000) (disch := omega) only [↓ar, bt, bo, aL, aP, aM, aC, aD, aE, bh, aH, aJ, aq, ao, aQ, al, aK, aG, bq, br, aN, aO, ae, Pu.w64, Int.toNat_natCast, decide_eq_true_eq, Int.ofNat_lt, Int.ofNat_le, if_true, if_false, Int.natCast_nonneg, decide_true, decide_false, Bool.not_true, Bool.not_false, Bool.false_eq_true, Bool.not_eq_true, Bool.true_and, Bool.and_true, Bool.false_and, Bool.and_false, e1, e2, q0, q1, q2, g1, g2, g3, g4, r1, r2, c3, c4, c5, es, a9.jd, z0, z1, z2, es2]
theorem a9.is {k : Nat} {t : Pu.Tab} {n : Nat} (hk : 4194304 + 8 ≤ k) (h : Pu.cz t = true) (hn : n < t.1.length) (hc : t.1.getD (n + 1) 0 < t.1.getD n 0) : a9 k t n = some ((Pu.cf t n).1, ((Pu.cf t n).2 : Int)) := by
  obtain ⟨k, rfl⟩ : ∃ k', k = k' + 1 := ⟨k - 1, by omega⟩
  obtain ⟨z1, z2⟩ := Pu.gH h
  obtain ⟨hp, ho, hl, _⟩ := Pu.ct h
  have hs : Pu.shapeOf t = ((Pu.outer t, t.1), true) := by unfold Pu.shapeOf; rw [if_pos (Pu.kF h)]
  have hsh := bZ.is (k := k) (t := t) (by omega) (by omega) (by have := z2.1; omega) (fun r hr => by have := z2.2 r hr; omega)
  rw [hs] at hsh
  have hrb := cL.is (k := k) (p := t.1) (n := n) (by omega) hp hn hc
  have hgr := bK.is (k := k) (t := t) (by omega) hp
  have hb := Pu.cY hp n
  rw [Pu.cm] at hb
  have hpos : 1 ≤ t.1.getD n 0 := by
    rw [Pu.aB hn]
    exact ((Pu.bn hp).1 _ (List.getElem_mem hn)).1
  obtain ⟨E, s1, s2⟩ := Pu.AR h hn hc
  have hst := Pu.nA h hn hc
  obtain ⟨s', a1, a2⟩ := a9.loop (k := k) (q := Pu.az t.1 n) (x4 := []) (x6 := Pu.outer t) (x7 := t.1) (x5 := []) (by omega) 18 k (Pu.kU t) (Pu.bT t) n (t.1.getD n 0 - 1).toNat (Pu.Bq h hn) hst (by rw [Pu.eY]; exact z2.1) (fun r => by
    have a := Pu.eF hp r
    have b := (Pu.cY ho r).2
    rw [Pu.cm] at b
    omega) (by omega) s1 s2
  rw [show (((t.1.getD n 0 - 1).toNat : Nat) : Int) = t.1.getD n 0 - 1 by omega] at a2
  have hS : Pu.bI 18 (Pu.bT t) n (t.1.getD n 0 - 1).toNat = Pu.bB t n := rfl
  rw [hS] at a1 a2
  rw [a9.eq, show ((t.1, t.2) : Pu.Tab) = t from rfl]
  unfold Pu.cf
  generalize Pu.bB t n = S at *
  obtain ⟨g, i, c⟩ := S
  simp only at E a1 a2 ⊢
  have ho9 := (Pu.bn ho).2.2.1
  have hdl := Pu.iK (Pu.outer t) i
  have hql := Pu.iK t.1 n
  have hrb2 := cL.is (k := k) (p := Pu.outer t) (n := i) (by omega) ho E.hi E.cor
  have htb := bp.is (k := k) (g := s') (R := Pu.cl (Pu.az t.1 n) (Pu.jg g i c) (Pu.az (Pu.outer t) i).length) (q := Pu.az t.1 n) (o := Pu.az (Pu.outer t) i) (by omega) (by omega) (by omega) (by rw [a1.len]; omega) (by rw [Pu.b8]) (fun r hr => by
    have hq := E.sl.q0 r
    have ho20 : (Pu.az (Pu.outer t) i).getD r 0 ≤ 20 := by
      have a := E.cutl r
      have b := E.rows.at r
      omega
    refine ⟨hq, ho20, E.uC hr, fun x hx => ?_⟩
    obtain ⟨c1, c2, c3, c4⟩ := E.cell hr hx
    have b := E.rows.at r
    have a := E.cutl r
    have hx11 : ((Pu.az t.1 n).getD r 0).toNat + x < 11 := by omega
    have hr11 : r < 11 := by omega
    refine ⟨by rw [a1.row r hr11]; exact hx11, ?_⟩
    rw [c4]
    exact a1.at_ r _ hr11 hx11 c3)
  rw [a9.j8, hrb2, ae, htb, ae] at a2
  simp (disch := omega) only [↓ar, bt, bo, aL, aP, aM, aC, aD, aE, bh, aH, aJ, aq, ao, aQ, al, aK, aG, bq, br, aN, aO, ae, Pu.w64, Int.toNat_natCast, decide_eq_true_eq, Int.ofNat_lt, Int.ofNat_le, if_true, if_false, Int.natCast_nonneg, decide_true, decide_false, Bool.not_true, Bool.not_false, Bool.false_eq_true, Bool.not_eq_true, Bool.true_and, Bool.and_true, Bool.false_and, Bool.and_false, hsh, hrb, hgr, hn, a2]
theorem dt.is {k : Nat} {t : Pu.Tab} {n : Int} (hk : 4194304 + 30 ≤ k) (h1 : t.1.length ≤ 1000000) (ht : t.2.length ≤ 1048576) (hr : ∀ x ∈ t.2, x.length ≤ 1048576) : dt k t n = some (Pu.dY t n) := by
  obtain ⟨k, rfl⟩ : ∃ k', k = k' + 1 := ⟨k - 1, by omega⟩
  have hit := aF.is (k := k) (t := t) (by omega) (by omega) ht hr
  rw [dt.eq, show ((t.1, t.2) : Pu.Tab) = t from rfl]
  unfold Pu.dY
  refine Pu.bE hit ?_
  cases hb : Pu.cz t with
  | false => rfl
  | true =>
    refine Pu.tN (Pu.bE (ch.is (by omega) h1) (Pu.bE (dh.is (by omega) (by have := Pu.lL t.1; omega)) ?_))
    cases hc : Pu.has (Pu.fU t.1) n with
    | false => simp [hb]
    | true =>
      obtain ⟨_, m, rfl, h3, h4⟩ := Pu.lE (Pu.kz.1 hc)
      have := a9.is (k := k) (t := t) (n := m) (by omega) hb h3 h4
      refine Pu.tN ?_
      rw [dt.fC]
      refine Pu.bE this ?_
      rw [if_pos ⟨rfl, rfl⟩, Int.toNat_natCast]
theorem eE.ok {k : Nat} {b : List Int} (hk : 4194304 + 22 ≤ k) (hb : b.length ≤ 1048576) : Pu.Ok (eE k b) fun r => nL 10 9 10 r.1 := by
  obtain ⟨k, rfl⟩ : ∃ k', k = k' + 2 := ⟨k - 2, by omega⟩
  rw [eE.eq]
  exact Pu.Ok.bnd (bL.ok (by show _ ≤ k + 1; omega) hb) fun r h => Pu.Ok.ret h
theorem cu.tail {k : Nat} {o p : List Int} {r : Int} (hk : 4194304 + 1 ≤ k) (hp : p.length ≤ 1048576) (hb : ∀ x ∈ p, x ≤ 1000000000 ∧ -1000000000 ≤ x) (h0 : 0 ≤ r) (h1 : r < p.length) :
    cu.J1 k r p = some (if Pu.bN (p.set r.toNat (p.getD r.toNat 0 + 1)) = true then (p.set r.toNat (p.getD r.toNat 0 + 1), true) else ([], false)) := by
  rw [cu.eP]
  have hn : r.toNat < p.length := by omega
  have hx := hb _ (List.getElem_mem hn)
  rw [← Pu.aB hn 0] at hx
  have ew : IntKind.i64.wrap (p.getD r.toNat 0 + 1) = p.getD r.toNat 0 + 1 := Pu.w64 (by omega) (by omega)
  have hi := aZ.is (k := k) (p := p.set r.toNat (p.getD r.toNat 0 + 1)) hk (by rw [List.length_set]; exact hp)
  by_cases hq : Pu.bN (p.set r.toNat (p.getD r.toNat 0 + 1)) = true
  · simp only [↓ar, bt, bo, aL, aP, aM, aC, aD, aE, bh, aH, aJ, aq, ao, aQ, al, aK, aG, bq, br, aN, aO, ae, Pu.w64, Int.toNat_natCast, decide_eq_true_eq, Int.ofNat_lt, Int.ofNat_le, if_true, if_false, Int.natCast_nonneg, decide_true, decide_false, Bool.not_true, Bool.not_false, Bool.false_eq_true, Bool.not_eq_true, Bool.true_and, Bool.and_true, Bool.false_and, Bool.and_false, h0, hn, ew, hi, hq]
  · simp only [Bool.not_eq_true] at hq
    simp only [↓ar, bt, bo, aL, aP, aM, aC, aD, aE, bh, aH, aJ, aq, ao, aQ, al, aK, aG, bq, br, aN, aO, ae, Pu.w64, Int.toNat_natCast, decide_eq_true_eq, Int.ofNat_lt, Int.ofNat_le, if_true, if_false, Int.natCast_nonneg, decide_true, decide_false, Bool.not_true, Bool.not_false, Bool.false_eq_true, Bool.not_eq_true, Bool.true_and, Bool.and_true, Bool.false_and, Bool.and_false, h0, hn, ew, hi, hq]
theorem cu.is {k : Nat} {p : List Int} {r : Int} (hk : 4194304 + 3 ≤ k) (hp : p.length ≤ 1000000) : cu k p r = some (Pu.dy p r) := by
  obtain ⟨k, rfl⟩ : ∃ k', k = k' + 1 := ⟨k - 1, by omega⟩
  rw [cu.eq, aZ.is (by omega) (by omega), ae]
  unfold Pu.dy
  by_cases h1 : Pu.bN p = true
  · have hb : ∀ x ∈ p, x ≤ 1000000000 ∧ -1000000000 ≤ x := fun x hx => by
      have := (Pu.bn h1).1 x hx
      omega
    rw [aC, aD, cI.is (by omega), ae]
    by_cases h2 : 0 ≤ r ∧ r ≤ p.length
    · obtain ⟨h2, h3⟩ := h2
      rw [cu.fC, bF.is (by omega) (by omega), ae]
      by_cases e : r = p.length
      · have hr : r < (p ++ [0]).length := by rw [List.length_append]; simp; omega
        have ht := cu.tail (o := p) (k := k) (p := p ++ [0]) (r := r) (by omega) (by rw [List.length_append]; simp; omega) (fun x hx => by
          rcases List.mem_append.1 hx with h | h
          · exact hb x h
          · simp at h; omega) h2 hr
        have hlim : (p ++ [(0 : Int)]).length ≤ 1099511627776 := by rw [List.length_append]; simp; omega
        have e' : (r = (p.length : Int)) = True := eq_true e
        have hw : Pu.within r 0 p.length = true := by simp [Pu.within, h2, h3]
        simp only [↓ar, bt, bo, aL, aP, aM, aC, aD, aE, bh, aH, aJ, aq, ao, aQ, al, aK, aG, bq, br, aN, aO, ae, Pu.w64, Int.toNat_natCast, decide_eq_true_eq, Int.ofNat_lt, Int.ofNat_le, if_true, if_false, Int.natCast_nonneg, decide_true, decide_false, Bool.not_true, Bool.not_false, Bool.false_eq_true, Bool.not_eq_true, Bool.true_and, Bool.and_true, Bool.false_and, Bool.and_false, h1, hw, e', hlim]
        rw [ht]; simp only [h2, h3, and_self, if_true]
      · have ht := cu.tail (o := p) (k := k) (p := p) (r := r) (by omega) (by omega) hb h2 (by omega)
        have hw : Pu.within r 0 p.length = true := by simp [Pu.within, h2, h3]
        simp only [↓ar, bt, bo, aL, aP, aM, aC, aD, aE, bh, aH, aJ, aq, ao, aQ, al, aK, aG, bq, br, aN, aO, ae, Pu.w64, Int.toNat_natCast, decide_eq_true_eq, Int.ofNat_lt, Int.ofNat_le, if_true, if_false, Int.natCast_nonneg, decide_true, decide_false, Bool.not_true, Bool.not_false, Bool.false_eq_true, Bool.not_eq_true, Bool.true_and, Bool.and_true, Bool.false_and, Bool.and_false, h1, hw, e]
        rw [ht]; simp only [h2, h3, and_self, if_true]
    · simp only [↓ar, bt, bo, aL, aP, aM, aC, aD, aE, bh, aH, aJ, aq, ao, aQ, al, aK, aG, bq, br, aN, aO, ae, Pu.w64, Int.toNat_natCast, decide_eq_true_eq, Int.ofNat_lt, Int.ofNat_le, if_true, if_false, Int.natCast_nonneg, decide_true, decide_false, Bool.not_true, Bool.not_false, Bool.false_eq_true, Bool.not_eq_true, Bool.true_and, Bool.and_true, Bool.false_and, Bool.and_false, h1, Pu.within]
      by_cases h3 : 0 ≤ r
      · have h4 : ¬ r ≤ p.length := fun h => h2 ⟨h3, h⟩
        simp [h1, h3, h4]
      · simp [h1, h3]
  · simp only [Bool.not_eq_true] at h1
    simp [h1]
theorem an.loop {k : Nat} {x3 : List Int} {x4 : List (List Int)} {x5 : List Int} {x6 : List (List Int)} (hk : 4 ≤ k) : ∀ (m j : Nat) (g : List (List Int)) (i c : Nat), Pu.dk 10 10 g → (∀ r x, 0 ≤ Pu.cel g r x) → i < g.length → c < (g.getD i []).length → m < j →
    Pu.leftOf (Pu.cp m g i c).1 (Pu.cp m g i c).2.1 (Pu.cp m g i c).2.2 = 0 → Pu.fz (Pu.cp m g i c).1 (Pu.cp m g i c).2.1 (Pu.cp m g i c).2.2 = 0 →
    an.L2 k j i c g x3 x4 x5 x6 = an.J3 k (Pu.cp m g i c).2.1 (Pu.cp m g i c).2.2 (Pu.cp m g i c).1 x3 x4 x5 x6
  | m, 0, g, i, c, _, _, _, _, hj, _, _ => by omega
  | 0, j + 1, g, i, c, hg, hpos, hi, hc, _, s1, s2 => by
    have hl := hg.1
    have hw := hg.at i
    have e5 := ed.is (k := k + 1) (a := g) (i := i) (c := (c : Int) - 1) (by omega) (hg.mono (by omega) (by omega))
    have e6 := ed.is (k := k + 1) (a := g) (i := (i : Int) - 1) (c := c) (by omega) (hg.mono (by omega) (by omega))
    have s1 : Pu.leftOf g i c = 0 := s1
    have s2 : Pu.fz g i c = 0 := s2
    rw [Pu.uP, s1] at e5
    rw [Pu.zw, s2] at e6
    rw [an.zH]
    simp (disch := omega) only [↓ar, bt, bo, aL, aP, aM, aC, aD, aE, bh, aH, aJ, aq, ao, aQ, al, aK, aG, bq, br, aN, aO, ae, Pu.w64, Int.toNat_natCast, decide_eq_true_eq, Int.ofNat_lt, Int.ofNat_le, if_true, if_false, Int.natCast_nonneg, decide_true, decide_false, Bool.not_true, Bool.not_false, Bool.false_eq_true, Bool.not_eq_true, Bool.true_and, Bool.and_true, Bool.false_and, Bool.and_false, e5, e6, Pu.cp]
  | m + 1, j + 1, g, i, c, hg, hpos, hi, hc, hj, s1, s2 => by
    have hl := hg.1
    have hw := hg.at i
    have e5 := ed.is (k := k + 1) (a := g) (i := i) (c := (c : Int) - 1) (by omega) (hg.mono (by omega) (by omega))
    have e6 := ed.is (k := k + 1) (a := g) (i := (i : Int) - 1) (c := c) (by omega) (hg.mono (by omega) (by omega))
    rw [Pu.uP] at e5
    rw [Pu.zw] at e6
    have hs : ∀ v, Pu.dk 10 10 (Pu.dq g i c v) := fun v => hg.set i (by rw [List.length_set]; exact hw)
    have es : ∀ v, g.set i ((g.getD i []).set c v) = Pu.dq g i c v := fun _ => rfl
    have pl : 0 ≤ Pu.leftOf g i c := Pu.wZ (V := fun v => 0 ≤ v) (Int.le_refl 0) hpos i c
    have pu : 0 ≤ Pu.fz g i c := Pu.BQ (V := fun v => 0 ≤ v) (Int.le_refl 0) hpos i c
    rw [an.zH]
    unfold Pu.cp at s1 s2 ⊢
    by_cases c1 : Pu.leftOf g i c = 0 ∧ Pu.fz g i c = 0
    · rw [if_pos c1] at s1 s2 ⊢
      rw [c1.1] at e5
      rw [c1.2] at e6
      simp (disch := omega) only [↓ar, bt, bo, aL, aP, aM, aC, aD, aE, bh, aH, aJ, aq, ao, aQ, al, aK, aG, bq, br, aN, aO, ae, Pu.w64, Int.toNat_natCast, decide_eq_true_eq, Int.ofNat_lt, Int.ofNat_le, if_true, if_false, Int.natCast_nonneg, decide_true, decide_false, Bool.not_true, Bool.not_false, Bool.false_eq_true, Bool.not_eq_true, Bool.true_and, Bool.and_true, Bool.false_and, Bool.and_false, e5, e6]
    · rw [if_neg c1] at s1 s2 ⊢
      by_cases c2 : Pu.leftOf g i c ≤ Pu.fz g i c
      · rw [if_pos c2] at s1 s2 ⊢
        have hb : Pu.fz g i c ≠ 0 := fun e => c1 ⟨by omega, e⟩
        obtain ⟨b0, b1, b2⟩ := Pu.Cy hb
        have ih := an.loop (x3 := x3) (x4 := x4) (x5 := x5) (x6 := x6) hk m j (Pu.dq g i c (Pu.fz g i c)) (i - 1) c (hs _) (Pu.rZ hpos i c pu) (by rw [Pu.cj]; exact b1) (by rw [Pu.bm]; exact b2) (by omega) s1 s2
        rw [show ((i - 1 : Nat) : Int) = (i : Int) - 1 by omega] at ih
        by_cases c3 : Pu.leftOf g i c = 0
        · simp (disch := omega) only [↓ar, bt, bo, aL, aP, aM, aC, aD, aE, bh, aH, aJ, aq, ao, aQ, al, aK, aG, bq, br, aN, aO, ae, Pu.w64, Int.toNat_natCast, decide_eq_true_eq, Int.ofNat_lt, Int.ofNat_le, if_true, if_false, Int.natCast_nonneg, decide_true, decide_false, Bool.not_true, Bool.not_false, Bool.false_eq_true, Bool.not_eq_true, Bool.true_and, Bool.and_true, Bool.false_and, Bool.and_false, e5, e6, c3, hb, c2, hi, hc, es, an.xx, pu, ih]
        · simp (disch := omega) only [↓ar, bt, bo, aL, aP, aM, aC, aD, aE, bh, aH, aJ, aq, ao, aQ, al, aK, aG, bq, br, aN, aO, ae, Pu.w64, Int.toNat_natCast, decide_eq_true_eq, Int.ofNat_lt, Int.ofNat_le, if_true, if_false, Int.natCast_nonneg, decide_true, decide_false, Bool.not_true, Bool.not_false, Bool.false_eq_true, Bool.not_eq_true, Bool.true_and, Bool.and_true, Bool.false_and, Bool.and_false, e5, e6, c3, c2, hi, hc, es, an.xx, ih]
      · rw [if_neg c2] at s1 s2 ⊢
        have c3 : ¬ Pu.leftOf g i c = 0 := fun e => c2 (by omega)
        obtain ⟨b0, b1, b2⟩ := Pu.zA c3
        have ih := an.loop (x3 := x3) (x4 := x4) (x5 := x5) (x6 := x6) hk m j (Pu.dq g i c (Pu.leftOf g i c)) i (c - 1) (hs _) (Pu.rZ hpos i c pl) (by rw [Pu.cj]; exact b1) (by rw [Pu.bm]; exact b2) (by omega) s1 s2
        rw [show ((c - 1 : Nat) : Int) = (c : Int) - 1 by omega] at ih
        simp (disch := omega) only [↓ar, bt, bo, aL, aP, aM, aC, aD, aE, bh, aH, aJ, aq, ao, aQ, al, aK, aG, bq, br, aN, aO, ae, Pu.w64, Int.toNat_natCast, decide_eq_true_eq, Int.ofNat_lt, Int.ofNat_le, if_true, if_false, Int.natCast_nonneg, decide_true, decide_false, Bool.not_true, Bool.not_false, Bool.false_eq_true, Bool.not_eq_true, Bool.true_and, Bool.and_true, Bool.false_and, Bool.and_false, e5, e6, c3, c2, hi, hc, es, an.xx, ih]
theorem an.rows {k : Nat} {q : List Int} {G : List (List Int)} {x2 : Int} {x5 : List Int} {x6 : List (List Int)} {x8 : List Int} {x9 : List (List Int)} (hk : 4 ≤ k) (hG : Pu.dk 10 10 G) (hq : q.length ≤ 100)
    (h1 : ∀ r, r < G.length → 0 < (G.getD r []).length → 0 ≤ q.getD r 0 ∧ q.getD r 0 ≤ (G.getD r []).length) : ∀ (m j i : Nat) (acc : List (List Int)), i + m = G.length → m < j → acc.length ≤ i →
    an.L6 k j G.length i x2 q G x5 x6 acc x8 x9 = some ((q, acc ++ Pu.rS q i (G.drop i)), (x2, true))
  | m, 0, i, acc, _, hj, _ => by omega
  | 0, j + 1, i, acc, hm, _, _ => by
    rw [an.CE]
    have e : i = G.length := by omega
    subst e
    simp only [↓ar, bt, bo, aL, aP, aM, aC, aD, aE, bh, aH, aJ, aq, ao, aQ, al, aK, aG, bq, br, aN, aO, ae, Pu.w64, Int.toNat_natCast, decide_eq_true_eq, Int.ofNat_lt, Int.ofNat_le, if_true, if_false, Int.natCast_nonneg, decide_true, decide_false, Bool.not_true, Bool.not_false, Bool.false_eq_true, Bool.not_eq_true, Bool.true_and, Bool.and_true, Bool.false_and, Bool.and_false, Nat.lt_irrefl, List.drop_length, Pu.rS, List.append_nil]
  | m + 1, j + 1, i, acc, hm, hj, ha => by
    have hl := hG.1
    have hw := hG.at i
    have hi : i < G.length := by omega
    rw [an.CE, Pu.drop_cons hi []]
    unfold Pu.rS
    by_cases c : 0 < (G.getD i []).length
    · obtain ⟨a2, a3⟩ := h1 i hi c
      have ih := an.rows (x2 := x2) (x5 := x5) (x6 := x6) (x8 := x8) (x9 := x9) hk hG hq h1 m j (i + 1) (acc ++ [(G.getD i []).drop (q.getD i 0).toNat]) (by omega) (by omega) (by rw [List.length_append, List.length_singleton]; omega)
      rw [Int.natCast_succ] at ih
      have hat := dO.is (k := k) (p := q) (i := (i : Int)) (by omega) (by omega)
      rw [Pu.cm] at hat
      have et : (G.getD i []).drop (q.getD i 0).toNat = ((G.getD i []).drop (q.getD i 0).toNat).take ((G.getD i []).length - (q.getD i 0).toNat) := (List.take_of_length_le (by rw [List.length_drop]; exact Nat.le_refl _)).symm
      have hcl := bF.is (k := k) (a := (G.getD i []).drop (q.getD i 0).toNat) (by omega) (by rw [List.length_drop]; omega)
      have hln : (acc ++ [(G.getD i []).drop (q.getD i 0).toNat]).length ≤ 1099511627776 := by
        rw [List.length_append, List.length_singleton]; omega
      have a4 : (0 : Int) < (G.getD i []).length := by omega
      have a5 : (q.getD i 0).toNat ≤ (G.getD i []).length := by omega
      rw [if_pos c]
      simp (disch := omega) only [↓ar, bt, bo, aL, aP, aM, aC, aD, aE, bh, aH, aJ, aq, ao, aQ, al, aK, aG, bq, br, aN, aO, ae, Pu.w64, Int.toNat_natCast, decide_eq_true_eq, Int.ofNat_lt, Int.ofNat_le, if_true, if_false, Int.natCast_nonneg, decide_true, decide_false, Bool.not_true, Bool.not_false, Bool.false_eq_true, Bool.not_eq_true, Bool.true_and, Bool.and_true, Bool.false_and, Bool.and_false, hi, a2, a4, a5, hat, ir, ← et, hcl, hln, an.zD, ih, List.append_assoc, List.cons_append, List.nil_append]
    · have a4 : ¬ (0 : Int) < (G.getD i []).length := by omega
      have ih := an.rows (x2 := x2) (x5 := x5) (x6 := x6) (x8 := x8) (x9 := x9) hk hG hq h1 m j (i + 1) acc (by omega) (by omega) (by omega)
      rw [Int.natCast_succ] at ih
      rw [if_neg c]
      simp (disch := omega) only [↓ar, bt, bo, aL, aP, aM, aC, aD, aE, bh, aH, aJ, aq, ao, aQ, al, aK, aG, bq, br, aN, aO, ae, Pu.w64, Int.toNat_natCast, decide_eq_true_eq, Int.ofNat_lt, Int.ofNat_le, if_true, if_false, Int.natCast_nonneg, decide_true, decide_false, Bool.not_true, Bool.not_false, Bool.false_eq_true, Bool.not_eq_true, Bool.true_and, Bool.and_true, Bool.false_and, Bool.and_false, hi, a4, an.zD, ih]
theorem an.is {k : Nat} {t : Pu.Tab} {n i c : Nat} {p q : List Int} {g : List (List Int)} (hk : 4194304 + 30 ≤ k) (h : Pu.cz t = true) (hp : Pu.dy (Pu.outer t) n = (p, true)) (hpos : ∀ r x, 0 ≤ Pu.cel (Pu.du t n) r x)
    (hs : Pu.cp 18 (Pu.du t n) n (p.getD n 0 - 1).toNat = (g, (i, c))) (h1 : Pu.leftOf g i c = 0) (h2 : Pu.fz g i c = 0) (hg : Pu.dk 10 10 g) (hq : Pu.dy t.1 i = (q, true)) (hc : q.getD i 0 = c + 1)
    (hin : ∀ r, r < g.length → 0 < (g.getD r []).length → 0 ≤ q.getD r 0 ∧ q.getD r 0 ≤ (g.getD r []).length) : an k t n = some ((q, Pu.rS q 0 g), ((i : Int), true)) := by
  obtain ⟨k, rfl⟩ : ∃ k', k = k' + 2 := ⟨k - 2, by omega⟩
  obtain ⟨z1, z2⟩ := Pu.gH h
  obtain ⟨hp1, ho, hl, _⟩ := Pu.ct h
  have zl := z2.1
  have hit := aT.is (k := k + 1) (t := t) (by omega) (by omega) (by omega) (fun r hr => by have := z2.2 r hr; omega)
  rw [h] at hit
  have hsh := ca.is (k := k + 1) (t := t) (by omega) (by omega) (by omega) (fun r hr => by have := z2.2 r hr; omega)
  have hso : Pu.shapeOf t = ((Pu.outer t, t.1), true) := by unfold Pu.shapeOf; rw [if_pos (Pu.kF h)]
  rw [hso] at hsh
  have hol := Pu.ck t
  have hab := cu.is (k := k + 1) (p := Pu.outer t) (r := (n : Int)) (by omega) (by omega)
  rw [hp] at hab
  have hab2 := cu.is (k := k + 1) (p := t.1) (r := (i : Int)) (by omega) (by omega)
  rw [hq] at hab2
  have hgr := bO.is (k := k + 1) (t := t) (by omega) hp1 (z2.mono (by omega) (by omega))
  obtain ⟨b1, b2, b3, b4, b5⟩ := Pu.fx hp
  obtain ⟨d1, d2, d3, d4, d5⟩ := Pu.fx hq
  rw [hol] at b1 b3
  have hpn := b4 n
  rw [if_pos rfl] at hpn
  have hon := Pu.eF hp1 n
  have hrn := Pu.ox b1 n
  rw [if_pos rfl] at hrn
  have hoL := Pu.zC (t := t) (n := n)
  have hnL : n < (Pu.du t n).length := by rw [hoL]; split <;> omega
  have hrl : ∀ r, ((Pu.bT t).getD r []).length ≤ 9 := fun r => by
    have a := Pu.eF hp1 r
    have b := (Pu.cY ho r).2
    rw [Pu.cm] at b
    omega
  have hR : Pu.dk 10 10 (Pu.du t n) := by
    refine ⟨by rw [hoL]; split <;> omega, fun r hr => ?_⟩
    obtain ⟨y, hy, rfl⟩ := List.getElem_of_mem hr
    rw [← Pu.aB hy [], Pu.ox b1]
    have := hrl y
    have := hrl n
    split
    · rw [List.length_append, List.length_singleton]; omega
    · omega
  have hcc : (p.getD n 0 - 1).toNat < ((Pu.du t n).getD n []).length := by
    rw [hrn, List.length_append, List.length_singleton]; omega
  have a2 := an.loop (k := k) (x3 := t.1) (x4 := t.2) (x5 := []) (x6 := []) (by omega) 18 (k + 1) (Pu.du t n) n (p.getD n 0 - 1).toNat hR hpos hnL hcc (by omega) (by rw [hs]; exact h1) (by rw [hs]; exact h2)
  rw [hs, show (((p.getD n 0 - 1).toNat : Nat) : Int) = p.getD n 0 - 1 by omega] at a2
  simp only at a2
  have hrw := an.rows (k := k) (q := q) (G := g) (x2 := (i : Int)) (x5 := []) (x6 := []) (x8 := []) (x9 := []) (by omega) hg (by omega) hin g.length k 0 [] (by omega) (by have := hg.1; omega) (by simp)
  rw [Int.natCast_zero, List.drop_zero, List.nil_append] at hrw
  have hp9 : p.getD n 0 ≤ 9 := by
    have := (Pu.cY b5 n).2
    rw [Pu.cm] at this
    exact this
  have hJ3 : an.J3 k i c g t.1 t.2 [] [] = some ((q, Pu.rS q 0 g), ((i : Int), true)) := by
    have hc9 : (c : Int) + 1 ≤ 9 := by
      have := (Pu.cY d5 i).2
      rw [Pu.cm] at this
      omega
    rw [an.jd]
    simp (disch := omega) only [↓ar, bt, bo, aL, aP, aM, aC, aD, aE, bh, aH, aJ, aq, ao, aQ, al, aK, aG, bq, br, aN, aO, ae, Pu.w64, Int.toNat_natCast, decide_eq_true_eq, Int.ofNat_lt, Int.ofNat_le, if_true, if_false, Int.natCast_nonneg, decide_true, decide_false, Bool.not_true, Bool.not_false, Bool.false_eq_true, Bool.not_eq_true, Bool.true_and, Bool.and_true, Bool.false_and, Bool.and_false, hab2, d2, hc, an.uh, hrw]
  rw [hJ3] at a2
  have hJ1 : ∀ G0 : List (List Int), G0 = (if n = t.2.length then Pu.bT t ++ [[]] else Pu.bT t) → an.J1 k n p G0 t.1 t.2 [] [] = some ((q, Pu.rS q 0 g), ((i : Int), true)) := by
    intro G0 hG0
    have hnG : n < G0.length := by
      have : (Pu.du t n).length = G0.length := by unfold Pu.du; rw [List.length_set, ← hG0]
      omega
    have hset : G0.set n (G0.getD n [] ++ [0]) = Pu.du t n := by unfold Pu.du; rw [← hG0]
    have hap : (G0.getD n [] ++ [0]).length ≤ 1099511627776 := by
      have := hR.at n
      have hgg : (Pu.du t n).getD n [] = G0.getD n [] ++ [0] := by
        rw [← hset, Pu.aB (by rw [List.length_set]; exact hnG), List.getElem_set_self]
      rw [hgg] at this
      omega
    rw [an.eP]
    simp (disch := omega) only [↓ar, bt, bo, aL, aP, aM, aC, aD, aE, bh, aH, aJ, aq, ao, aQ, al, aK, aG, bq, br, aN, aO, ae, Pu.w64, Int.toNat_natCast, decide_eq_true_eq, Int.ofNat_lt, Int.ofNat_le, if_true, if_false, Int.natCast_nonneg, decide_true, decide_false, Bool.not_true, Bool.not_false, Bool.false_eq_true, Bool.not_eq_true, Bool.true_and, Bool.and_true, Bool.false_and, Bool.and_false, hnG, hap, hset, b2, a2]
  have hgl := Pu.eY t
  rw [an.eq, show ((t.1, t.2) : Pu.Tab) = t from rfl, hsh, ae, hab, ae, hit, ae]
  have e2 : ∀ (x : Option (Pu.Tab × (Int × Bool))) y, D.test (!true) y x = x := fun _ _ => rfl
  rw [show D.no true = !true from rfl, e2, e2, an.fC, show ((t.1, t.2) : Pu.Tab) = t from rfl, hgr, ae]
  by_cases e : n = t.2.length
  · have e' : (n : Int) = (t.2.length : Int) := by omega
    have hap : (Pu.bT t ++ [[]]).length ≤ 1099511627776 := by rw [List.length_append, List.length_singleton]; omega
    have := hJ1 (Pu.bT t ++ [[]]) (by rw [if_pos e])
    simp only [↓ar, bt, bo, aL, aP, aM, aC, aD, aE, bh, aH, aJ, aq, ao, aQ, al, aK, aG, bq, br, aN, aO, ae, Pu.w64, Int.toNat_natCast, decide_eq_true_eq, Int.ofNat_lt, Int.ofNat_le, if_true, if_false, Int.natCast_nonneg, decide_true, decide_false, Bool.not_true, Bool.not_false, Bool.false_eq_true, Bool.not_eq_true, Bool.true_and, Bool.and_true, Bool.false_and, Bool.and_false, hgl, hap, this]
    rw [if_pos e']
  · have e' : ¬ (n : Int) = (t.2.length : Int) := by omega
    have := hJ1 (Pu.bT t) (by rw [if_neg e])
    simp only [↓ar, bt, bo, aL, aP, aM, aC, aD, aE, bh, aH, aJ, aq, ao, aQ, al, aK, aG, bq, br, aN, aO, ae, Pu.w64, Int.toNat_natCast, decide_eq_true_eq, Int.ofNat_lt, Int.ofNat_le, if_true, if_false, Int.natCast_nonneg, decide_true, decide_false, Bool.not_true, Bool.not_false, Bool.false_eq_true, Bool.not_eq_true, Bool.true_and, Bool.and_true, Bool.false_and, Bool.and_false, hgl, e', this]
theorem an.all {k : Nat} {t : Pu.Tab} {n : Int} (hk : 4194304 + 40 ≤ k) (h1 : t.1.length ≤ 1000000) (ht : t.2.length ≤ 1000000) (hr : ∀ x ∈ t.2, x.length ≤ 1048576) : an k t n = some (Pu.dL t n) := by
  unfold Pu.dL
  by_cases c : Pu.cz t = true ∧ (Pu.dy (Pu.outer t) n).2 = true
  · obtain ⟨hb, hc⟩ := c
    rw [if_pos ⟨hb, hc⟩]
    obtain ⟨n, rfl, p, hp⟩ := Pu.mK hc
    obtain ⟨b1, b2, b3, b4, b5⟩ := Pu.fx hp
    obtain ⟨z1, z2⟩ := Pu.tQ hb hp
    obtain ⟨⟨q, E⟩, _⟩ := Pu.BS hb hp
    have hp9 := (Pu.bn b5).2.2.1
    have hrow := E.row
    have hpos : ∀ r, r < (Pu.eS t n p).1.length → 0 < ((Pu.eS t n p).1.getD r []).length := fun r h => by
      rw [E.len] at h
      have a := hrow r
      have b := Pu.jh b5 h
      omega
    have hof := Pu.Ah (q := q) hpos
    rw [E.len] at hof
    rw [Int.toNat_natCast, E.eq hp, ← hof]
    refine an.is (p := p) (by omega) hb hp z1.pos (show Pu.cp 18 (Pu.du t n) n (p.getD n 0 - 1).toNat = _ from rfl) E.l0 E.u0 ⟨?_, fun r hm => ?_⟩ E.add E.qi fun r h1 h2 => ?_
    · show (Pu.eS t n p).1.length ≤ 10
      rw [E.len]; omega
    · obtain ⟨i, hi, rfl⟩ := List.getElem_of_mem hm
      rw [← Pu.aB hi []]
      have a := hrow i
      have b := (Pu.eX b5 i).2
      show ((Pu.eS t n p).1.getD i []).length ≤ 10
      omega
    · have a := hrow r
      have b := E.ins r
      have c := (Pu.eX E.qp r).1
      show 0 ≤ q.getD r 0 ∧ q.getD r 0 ≤ ((Pu.eS t n p).1.getD r []).length
      omega
  · rw [if_neg c]
    obtain ⟨k, rfl⟩ : ∃ k', k = k' + 2 := ⟨k - 2, by omega⟩
    have hsl : (Pu.shapeOf t).1.1.length ≤ 1000000 := by
      unfold Pu.shapeOf
      split
      · have := Pu.ck t
        show (Pu.outer t).length ≤ _
        omega
      · simp
    have hit := aT.is (k := k + 1) (t := t) (by omega) (by omega) (by omega) hr
    rw [an.eq, show ((t.1, t.2) : Pu.Tab) = t from rfl]
    refine Pu.bE (ca.is (by omega) (by omega) (by omega) hr) (Pu.bE (cu.is (by omega) hsl) (Pu.bE hit ?_))
    cases hb : Pu.cz t with
    | false => rfl
    | true =>
      have hs : Pu.shapeOf t = ((Pu.outer t, t.1), true) := by unfold Pu.shapeOf; rw [if_pos (Pu.kF hb)]
      refine Pu.tN ?_
      rw [hs]
      cases hc : (Pu.dy (Pu.outer t) n).2 with
      | false => simp only [hc]; rfl
      | true => exact absurd ⟨hb, hc⟩ c
theorem cw.tail {k : Nat} {o p : List Int} {r : Int} (hk : 4194304 + 1 ≤ k) (hp : p.length ≤ 1048576) (hb : ∀ x ∈ p, x ≤ 1000000000 ∧ -1000000000 ≤ x) (h0 : 0 ≤ r) (h1 : r < p.length) :
    cw.J1 k r p = some (if Pu.bN (p.set r.toNat (p.getD r.toNat 0 + 1)) = true then (p.set r.toNat (p.getD r.toNat 0 + 1), true) else ([], false)) := by
  rw [cw.eP]
  have hn : r.toNat < p.length := by omega
  have hx := hb _ (List.getElem_mem hn)
  rw [← Pu.aB hn 0] at hx
  have ew : IntKind.i64.wrap (p.getD r.toNat 0 + 1) = p.getD r.toNat 0 + 1 := Pu.w64 (by omega) (by omega)
  have hi := aX.is (k := k) (p := p.set r.toNat (p.getD r.toNat 0 + 1)) hk (by rw [List.length_set]; exact hp)
  by_cases hq : Pu.bN (p.set r.toNat (p.getD r.toNat 0 + 1)) = true
  · simp only [↓ar, bt, bo, aL, aP, aM, aC, aD, aE, bh, aH, aJ, aq, ao, aQ, al, aK, aG, bq, br, aN, aO, ae, Pu.w64, Int.toNat_natCast, decide_eq_true_eq, Int.ofNat_lt, Int.ofNat_le, if_true, if_false, Int.natCast_nonneg, decide_true, decide_false, Bool.not_true, Bool.not_false, Bool.false_eq_true, Bool.not_eq_true, Bool.true_and, Bool.and_true, Bool.false_and, Bool.and_false, h0, hn, ew, hi, hq]
  · simp only [Bool.not_eq_true] at hq
    simp only [↓ar, bt, bo, aL, aP, aM, aC, aD, aE, bh, aH, aJ, aq, ao, aQ, al, aK, aG, bq, br, aN, aO, ae, Pu.w64, Int.toNat_natCast, decide_eq_true_eq, Int.ofNat_lt, Int.ofNat_le, if_true, if_false, Int.natCast_nonneg, decide_true, decide_false, Bool.not_true, Bool.not_false, Bool.false_eq_true, Bool.not_eq_true, Bool.true_and, Bool.and_true, Bool.false_and, Bool.and_false, h0, hn, ew, hi, hq]
theorem cw.is {k : Nat} {p : List Int} {r : Int} (hk : 4194304 + 3 ≤ k) (hp : p.length ≤ 1000000) : cw k p r = some (Pu.dy p r) := by
  obtain ⟨k, rfl⟩ : ∃ k', k = k' + 1 := ⟨k - 1, by omega⟩
  rw [cw.eq, aX.is (by omega) (by omega), ae]
  unfold Pu.dy
  by_cases h1 : Pu.bN p = true
  · have hb : ∀ x ∈ p, x ≤ 1000000000 ∧ -1000000000 ≤ x := fun x hx => by
      have := (Pu.bn h1).1 x hx
      omega
    by_cases h2 : r < 0
    · have h3 : ¬ 0 ≤ r := by omega
      simp [h1, h2, h3]
    · by_cases h3 : (p.length : Int) < r
      · have h4 : ¬ r ≤ p.length := by omega
        simp [h1, h2, h3, h4]
      · have h2' : 0 ≤ r := by omega
        have h3' : r ≤ p.length := by omega
        have hl : ([] ++ p).length ≤ 1099511627776 := by simp; omega
        rw [cw.fC]
        by_cases e : r = p.length
        · have hr : r < (p ++ [0]).length := by rw [List.length_append]; simp; omega
          have ht := cw.tail (o := p) (k := k) (p := p ++ [0]) (r := r) (by omega) (by rw [List.length_append]; simp; omega) (fun x hx => by
            rcases List.mem_append.1 hx with h | h
            · exact hb x h
            · simp at h; omega) h2' hr
          have hlim : (p ++ [(0 : Int)]).length ≤ 1099511627776 := by rw [List.length_append]; simp; omega
          have hlim' : p.length ≤ 1099511627776 := by omega
          have e' : (r = (p.length : Int)) = True := eq_true e
          simp only [↓ar, bt, bo, aL, aP, aM, aC, aD, aE, bh, aH, aJ, aq, ao, aQ, al, aK, aG, bq, br, aN, aO, ae, Pu.w64, Int.toNat_natCast, decide_eq_true_eq, Int.ofNat_lt, Int.ofNat_le, if_true, if_false, Int.natCast_nonneg, decide_true, decide_false, Bool.not_true, Bool.not_false, Bool.false_eq_true, Bool.not_eq_true, Bool.true_and, Bool.and_true, Bool.false_and, Bool.and_false, h1, h2, h3, e', hlim, hlim', List.nil_append]
          rw [ht]; simp only [h2', h3', and_self, if_true]
        · have ht := cw.tail (o := p) (k := k) (p := p) (r := r) (by omega) (by omega) hb h2' (by omega)
          have hlim' : p.length ≤ 1099511627776 := by omega
          simp only [↓ar, bt, bo, aL, aP, aM, aC, aD, aE, bh, aH, aJ, aq, ao, aQ, al, aK, aG, bq, br, aN, aO, ae, Pu.w64, Int.toNat_natCast, decide_eq_true_eq, Int.ofNat_lt, Int.ofNat_le, if_true, if_false, Int.natCast_nonneg, decide_true, decide_false, Bool.not_true, Bool.not_false, Bool.false_eq_true, Bool.not_eq_true, Bool.true_and, Bool.and_true, Bool.false_and, Bool.and_false, h1, h2, h3, e, hlim', List.nil_append]
          rw [ht]; simp only [h2', h3', and_self, if_true]
  · simp only [Bool.not_eq_true] at h1
    simp [h1]
theorem aw.loop {k : Nat} {p x4 x6 : List Int} {x5 x7 : List (List Int)} (hk : 4 ≤ k) : ∀ (m j : Nat) (s g : List (List Int)) (i c : Nat), Pu.Sq s g i c → (∀ r x, 0 ≤ Pu.cel g r x) → i < g.length → c < (g.getD i []).length → g.length ≤ 9 → (∀ r, (g.getD r []).length ≤ 9) → m < j →
    Pu.leftOf (Pu.cp m g i c).1 (Pu.cp m g i c).2.1 (Pu.cp m g i c).2.2 = 0 → Pu.fz (Pu.cp m g i c).1 (Pu.cp m g i c).2.1 (Pu.cp m g i c).2.2 = 0 →
    ∃ s', Pu.Sq s' (Pu.cp m g i c).1 (Pu.cp m g i c).2.1 (Pu.cp m g i c).2.2 ∧ aw.L1 k j i c p s x4 x5 x6 x7 = aw.J4 k (Pu.cp m g i c).2.1 (Pu.cp m g i c).2.2 p s' x4 x5 x6 x7
  | m, 0, s, g, i, c, _, _, _, _, _, _, hj, _, _ => by omega
  | m, j + 1, s, g, i, c, hs, hpos, hi, hc, hl, hw, hj, s1, s2 => by
    have hwi := hw i
    have q0 := hs.len
    have q1 := hs.row i (by omega)
    have g1 : i < s.length := by omega
    have g2 : c < (s.getD i []).length := by omega
    have pl : 0 ≤ Pu.leftOf g i c := Pu.wZ (V := fun v => 0 ≤ v) (Int.le_refl 0) hpos i c
    have pu : 0 ≤ Pu.fz g i c := Pu.BQ (V := fun v => 0 ≤ v) (Int.le_refl 0) hpos i c
    have eL : ∀ R, aw.J2 k j i c (Pu.leftOf g i c) p s x4 x5 x6 x7 = R → aw.L1 k (j + 1) i c p s x4 x5 x6 x7 = R := by
      intro R hR
      rw [aw.eV]
      by_cases e : c = 0
      · subst e
        exact Pu.tX (by show ¬ (0 : Int) < ((0 : Nat) : Int); omega) hR
      · have ew : IntKind.i64.wrap ((c : Int) - 1) = ((c - 1 : Nat) : Int) := by rw [Pu.w64 (by omega) (by omega)]; omega
        have hv : (s.getD i []).getD (c - 1) 0 = Pu.leftOf g i c := by
          unfold Pu.leftOf
          rw [if_neg e]
          exact hs.at_ i (c - 1) (by omega) (by omega) (by omega)
        have g3 : c - 1 < (s.getD i []).length := by omega
        simp only [aE, aC, aD, bh, aG, al, Int.toNat_natCast, ew, hv]
        refine Pu.tG (by omega) (Pu.tG (Int.natCast_nonneg _) (Pu.tG g1 (Pu.tG g1 (Pu.tG g1 (Pu.tG (Int.natCast_nonneg _) (Pu.tG g3 (Pu.tG g1 (Pu.tG g3 hR))))))))
    have eU : ∀ R, aw.J3 k j i c (Pu.leftOf g i c) (Pu.fz g i c) p s x4 x5 x6 x7 = R → aw.J2 k j i c (Pu.leftOf g i c) p s x4 x5 x6 x7 = R := by
      intro R hR
      rw [aw.j8]
      by_cases e : i = 0
      · subst e
        exact Pu.tX (by show ¬ (0 : Int) < ((0 : Nat) : Int); omega) hR
      · have ew : IntKind.i64.wrap ((i : Int) - 1) = ((i - 1 : Nat) : Int) := by rw [Pu.w64 (by omega) (by omega)]; omega
        have hv : (s.getD (i - 1) []).getD c 0 = Pu.fz g i c := by
          unfold Pu.fz
          rw [if_neg e]
          exact hs.at_ (i - 1) c (by omega) (by omega) (by omega)
        have g3 : i - 1 < s.length := by omega
        have g4 : c < (s.getD (i - 1) []).length := by rw [hs.row _ (by omega)]; omega
        simp only [aE, aC, aD, bh, aG, al, Int.toNat_natCast, ew, hv]
        refine Pu.tG (by omega) (Pu.tG (Int.natCast_nonneg _) (Pu.tG g3 (Pu.tG g3 (Pu.tG g3 (Pu.tG (Int.natCast_nonneg _) (Pu.tG g4 (Pu.tG g3 (Pu.tG g4 hR))))))))
    have eH : ∀ (v : Int) (i' c' : Nat), i' < 11 → c' < 11 → aw.J7 k j i' c' p (Pu.dq s i c v) x4 x5 x6 x7 = aw.L1 k j i' c' p (Pu.dq (Pu.dq s i c v) i' c' 0) x4 x5 x6 x7 := by
      intro v i' c' h1 h2
      rw [aw.zD]
      have g3 : i' < (Pu.dq s i c v).length := by rw [Pu.cj]; omega
      have g4 : c' < ((Pu.dq s i c v).getD i' []).length := by rw [Pu.bm, hs.row _ h1]; exact h2
      simp only [aE, aC, aD, bh, aH, Int.toNat_natCast]
      exact Pu.tG (Int.natCast_nonneg _) (Pu.tG g3 (Pu.tG g3 (Pu.tG g3 (Pu.tG (Int.natCast_nonneg _) (Pu.tG g4 (Pu.tG g3 (Pu.tG g4 rfl)))))))
    cases m with
    | zero =>
      have s1 : Pu.leftOf g i c = 0 := s1
      have s2 : Pu.fz g i c = 0 := s2
      refine ⟨s, hs, eL _ (eU _ ?_)⟩
      rw [aw.jd, s1, s2]
      exact Pu.tG rfl (Pu.tG rfl rfl)
    | succ m =>
      unfold Pu.cp at s1 s2 ⊢
      by_cases c1 : Pu.leftOf g i c = 0 ∧ Pu.fz g i c = 0
      · rw [if_pos c1] at s1 s2 ⊢
        refine ⟨s, hs, eL _ (eU _ ?_)⟩
        rw [aw.jd, c1.1, c1.2]
        exact Pu.tG rfl (Pu.tG rfl rfl)
      · rw [if_neg c1] at s1 s2 ⊢
        have e5 : aw.J3 k j i c (Pu.leftOf g i c) (Pu.fz g i c) p s x4 x5 x6 x7 = aw.J5 k j i c (Pu.leftOf g i c) (Pu.fz g i c) p s x4 x5 x6 x7 := by
          rw [aw.jd]
          by_cases e : Pu.leftOf g i c = 0
          · exact Pu.tG e (Pu.tX (fun e' => c1 ⟨e, e'⟩) rfl)
          · exact Pu.tX e rfl
        by_cases c2 : Pu.leftOf g i c ≤ Pu.fz g i c
        · rw [if_pos c2] at s1 s2 ⊢
          have hu : Pu.fz g i c ≠ 0 := fun e => c1 ⟨by omega, e⟩
          obtain ⟨u0, b1, b2⟩ := Pu.Cy hu
          obtain ⟨s', a1, a2⟩ := aw.loop (p := p) (x4 := x4) (x5 := x5) (x6 := x6) (x7 := x7) hk m j _ _ (i - 1) c (hs.step (i' := i - 1) (c' := c) hi hc (by omega) (by omega) (by omega) (by omega) (by omega) (Pu.fz g i c)) (Pu.rZ hpos i c pu) (by rw [Pu.cj]; exact b1) (by rw [Pu.bm]; exact b2) (by rw [Pu.cj]; exact hl) (fun r => by rw [Pu.bm]; exact hw r) (by omega) s1 s2
          refine ⟨s', a1, eL _ (eU _ ?_)⟩
          rw [e5, ← a2, ← eH _ _ _ (by omega) (by omega), aw.uh]
          have ew : IntKind.i64.wrap ((i : Int) - 1) = ((i - 1 : Nat) : Int) := by rw [Pu.w64 (by omega) (by omega)]; omega
          simp only [aE, aC, aD, bh, aH, aG, al, Int.toNat_natCast, ew]
          exact Pu.tG c2 (Pu.tG (Int.natCast_nonneg _) (Pu.tG g1 (Pu.tG g1 (Pu.tG g1 (Pu.tG (Int.natCast_nonneg _) (Pu.tG g2 (Pu.tG g1 (Pu.tG g2 rfl))))))))
        · rw [if_neg c2] at s1 s2 ⊢
          have hv : Pu.leftOf g i c ≠ 0 := fun e => c2 (by omega)
          obtain ⟨u0, b1, b2⟩ := Pu.zA hv
          obtain ⟨s', a1, a2⟩ := aw.loop (p := p) (x4 := x4) (x5 := x5) (x6 := x6) (x7 := x7) hk m j _ _ i (c - 1) (hs.step (i' := i) (c' := c - 1) hi hc (by omega) (by omega) (by omega) (by omega) (by omega) (Pu.leftOf g i c)) (Pu.rZ hpos i c pl) (by rw [Pu.cj]; exact b1) (by rw [Pu.bm]; exact b2) (by rw [Pu.cj]; exact hl) (fun r => by rw [Pu.bm]; exact hw r) (by omega) s1 s2
          refine ⟨s', a1, eL _ (eU _ ?_)⟩
          rw [e5, ← a2, ← eH _ _ _ (by omega) (by omega), aw.uh]
          have ew : IntKind.i64.wrap ((c : Int) - 1) = ((c - 1 : Nat) : Int) := by rw [Pu.w64 (by omega) (by omega)]; omega
          simp only [aE, aC, aD, bh, aH, aG, al, Int.toNat_natCast, ew]
          exact Pu.tX c2 (Pu.tG (Int.natCast_nonneg _) (Pu.tG g1 (Pu.tG g1 (Pu.tG g1 (Pu.tG (Int.natCast_nonneg _) (Pu.tG g2 (Pu.tG g1 (Pu.tG g2 rfl))))))))
theorem aw.is {k : Nat} {t : Pu.Tab} {n : Int} (hk : 4194304 + 40 ≤ k) (h1 : t.1.length ≤ 1000000) (ht : t.2.length ≤ 1000000) (hr : ∀ x ∈ t.2, x.length ≤ 1048576) : aw k t n = some (Pu.dL t n) := by
  obtain ⟨k, rfl⟩ : ∃ k', k = k' + 1 := ⟨k - 1, by omega⟩
  have hsh := bZ.is (k := k) (t := t) (by omega) (by omega) (by omega) hr
  have hit := aF.is (k := k) (t := t) (by omega) (by omega) (by omega) hr
  rw [aw.eq, show ((t.1, t.2) : Pu.Tab) = t from rfl]
  unfold Pu.dL
  refine Pu.bE hsh ?_
  by_cases hb : Pu.cz t = true
  · have hs : Pu.shapeOf t = ((Pu.outer t, t.1), true) := by unfold Pu.shapeOf; rw [if_pos (Pu.kF hb)]
    have hol := Pu.ck t
    rw [hb] at hit
    rw [hs]
    refine Pu.bE (cw.is (by omega) (by show (Pu.outer t).length ≤ _; omega)) (Pu.tN (Pu.bE hit (Pu.tN ?_)))
    by_cases hc : (Pu.dy (Pu.outer t) n).2 = true
    · obtain ⟨n, rfl, p, hp⟩ := Pu.mK hc
      rw [if_pos ⟨hb, hc⟩]
      simp only [hp]
      refine Pu.tN ?_
      obtain ⟨hq, ho, hl, _⟩ := Pu.ct hb
      obtain ⟨b1, b2, b3, b4, b5⟩ := Pu.fx hp
      obtain ⟨o1, o2, o3⟩ := Pu.nv hb hp
      obtain ⟨z1, z2⟩ := Pu.tQ hb hp
      obtain ⟨⟨q, E⟩, _⟩ := Pu.BS hb hp
      have hp9 := (Pu.bn b5).2.2.1
      have hq9 := (Pu.bn E.qp).2.2.1
      have hsq : Pu.Sq (Pu.kU t) (Pu.du t n) n (p.getD n 0 - 1).toNat := by
        have hpn := (Pu.eX b5 n).2
        refine ⟨Pu.ou t, fun r hr => by rw [Pu.sh hr, Pu.iJ], fun r x hr hx _ => by rw [Pu.si hq hr hx, o3], ?_⟩
        rw [Pu.si hq (by omega) (by omega)]
        unfold Pu.cel
        rw [Pu.bw]
        have := Pu.eF hq n
        have h4 := b4 n
        rw [if_pos rfl] at h4
        omega
      have hE := Pu.BS hb hp
      obtain ⟨s', a1, a2⟩ := aw.loop (k := k) (p := p) (x4 := t.1) (x5 := t.2) (x6 := []) (x7 := []) (by omega) 18 k (Pu.kU t) (Pu.du t n) n (p.getD n 0 - 1).toNat hsq z1.pos z1.hi z1.hc (by omega) (fun r => by
        have := o2 r
        have := (Pu.eX b5 r).2
        omega) (by omega) E.l0 E.u0
      rw [show (((p.getD n 0 - 1).toNat : Nat) : Int) = p.getD n 0 - 1 by
        have := Pu.jh b5 b2
        omega] at a2
      have hS : Pu.cp 18 (Pu.du t n) n (p.getD n 0 - 1).toNat = Pu.eS t n p := rfl
      rw [hS] at a1 a2
      have hgr := bK.is (k := k) (t := t) (by omega) hq
      rw [Int.toNat_natCast, E.eq hp]
      obtain ⟨d1, d2, d3, d4, d5⟩ := Pu.fx E.add
      generalize Pu.eS t n p = S at *
      obtain ⟨g, i, c⟩ := S
      simp only at E a1 a2 d1 d2 d3 d4 ⊢
      have hcl := E.sl.hq
      have htb := bp.is (k := k) (g := s') (R := Pu.cl q g p.length) (q := q) (o := p) (by omega) hq9 hp9 (by rw [a1.len]; omega) (by rw [Pu.b8]) (fun r hr => by
        have hq0 := (Pu.eX d5 r).1
        have hp20 := (Pu.eX b5 r).2
        have hins := E.ins r
        have hrow := E.row r
        refine ⟨hq0, by omega, by rw [Pu.dm hr, List.length_drop]; omega, fun x hx => ?_⟩
        rw [Pu.dm hr, List.length_drop] at hx
        have hx11 : (q.getD r 0).toNat + x < 11 := by omega
        have hr11 : r < 11 := by omega
        refine ⟨by rw [a1.row r hr11]; exact hx11, ?_⟩
        rw [Pu.dm hr, Pu.fc]
        refine a1.at_ r _ hr11 hx11 fun e => ?_
        have := E.qi
        rw [e.1] at e
        omega)
      rw [aw.fC, show ((t.1, t.2) : Pu.Tab) = t from rfl]
      refine Pu.bE hgr ?_
      have ew : IntKind.i64.wrap (p.getD n 0 - 1) = p.getD n 0 - 1 := by
        have h1 := (Pu.eX b5 n).1
        have h2 := (Pu.eX b5 n).2
        rw [Pu.w64 (by omega) (by omega)]
      simp only [aE, aC, aD, bh, aG, al, Int.toNat_natCast, ew]
      refine Pu.tG (Int.natCast_nonneg _) (Pu.tG b2 (Pu.tG b2 ?_))
      rw [a2, aw.xx]
      have hab := cw.is (k := k) (p := t.1) (r := (i : Int)) (by omega) (by omega)
      rw [E.add] at hab
      refine Pu.bE hab (Pu.tN ?_)
      have hc9 := (Pu.eX d5 i).2
      have ew2 : IntKind.i64.wrap (q.getD i 0 - 1) = (c : Int) := by
        have := E.qi
        rw [Pu.w64 (by omega) (by omega)]; omega
      simp only [aE, aC, aD, bh, aG, al, Int.toNat_natCast, ew2]
      refine Pu.tG (Int.natCast_nonneg _) (Pu.tG d2 (Pu.tG d2 (Pu.tE rfl ?_)))
      rw [aw.DI]
      exact Pu.bE htb rfl
    · rw [if_neg fun h => hc h.2]
      rw [Bool.not_eq_true] at hc
      rw [hc]
      rfl
  · rw [if_neg fun h => hb h.1]
    rw [Bool.not_eq_true] at hb
    rw [hb] at hit
    have hsl : (Pu.shapeOf t).1.1.length ≤ 1000000 := by
      unfold Pu.shapeOf
      split
      · have := Pu.ck t
        show (Pu.outer t).length ≤ _
        omega
      · simp
    refine Pu.bE (cw.is (by omega) hsl) ?_
    cases (Pu.shapeOf t).2 with
    | false => rfl
    | true => exact Pu.tN (Pu.bE hit rfl)
theorem bj.loop {k : Nat} {b : List Int} {e : List Int} {d : List (List Int)} (hb : b.length ≤ 1048576) : ∀ (m0 j i : Nat) (h : Int), i + m0 = 4000 → m0 < j → ∃ h', bj.L0 k j h i b e d = bj.J2 k h' b e d
  | m0, 0, i, h, _, hj => by omega
  | 0, j + 1, i, h, hi, _ => by
    rw [bj.bS, Pu.lM, Pu.lM]
    have h4 : ¬ (i : Int) < 4000 := by omega
    refine ⟨h, ?_⟩
    rw [if_neg h4, ite_self]
  | m0 + 1, j + 1, i, h, hi, hj => by
    rw [bj.bS, Pu.lM, Pu.lM]
    have h4 : (i : Int) < 4000 := by omega
    by_cases hlt : i < b.length
    · have ew : IntKind.i64.wrap ((i : Int) + 1) = ((i + 1 : Nat) : Int) := by rw [Pu.w64 (by omega) (by omega)]; omega
      have hlt' : (i : Int) < D.ofN (D.len b) := by show (i : Int) < (b.length : Int); omega
      rw [if_pos hlt', if_pos h4, bj.eP]
      obtain ⟨h', ih⟩ := bj.loop (k := k) (e := e) (d := d) hb m0 j (i + 1) (D.andI .i64 (D.wrap .i64 (D.add (D.wrap .i64 (D.add (D.wrap .i64 (D.mul h 131)) (D.wrap .i64 (D.rd b (D.nat (i : Int)) 0)))) 7)) 1073741823) (by omega) (by omega)
      refine ⟨h', ?_⟩
      have t1 : D.le 0 (i : Int) = true := decide_eq_true (by omega)
      have t2 : D.ltN (D.nat (i : Int)) (D.len b) = true := decide_eq_true (by show (i : Int).toNat < b.length; omega)
      rw [ar, if_pos t1, ar, if_pos t2, ar, if_pos t2]
      have ew' : D.wrap .i64 (D.add (i : Int) 1) = ((i + 1 : Nat) : Int) := ew
      rw [ew']
      exact ih
    · have hlt' : ¬ (i : Int) < D.ofN (D.len b) := by show ¬ (i : Int) < (b.length : Int); omega
      exact ⟨h, by rw [if_neg hlt']⟩
theorem bj.ok {k : Nat} {b : List Int} (hk : 4194304 + 20 ≤ k) (hb : b.length ≤ 1048576) : Pu.Ok (bj k b) fun r => nL 10 9 10 r := by
  obtain ⟨k, rfl⟩ : ∃ k', k = k' + 2 := ⟨k - 2, by omega⟩
  rw [bj.eq]
  obtain ⟨h', e⟩ := bj.loop (k := k) (e := ([] : List Int)) (d := ([] : List (List Int))) hb 4000 k 0 (D.wrap .i64 (D.add 26583 (D.ofN (D.len b)))) (by omega) (by omega)
  rw [Int.natCast_zero] at e
  rw [e, bj.j8]
  refine Pu.Ok.bnd (dA.ok (by show _ ≤ k + 1; omega) hb (by omega) (by omega) (by omega) (by omega)) ?_
  rintro ⟨⟨q, rs⟩, _, i1, h1⟩ ⟨ht, a4, a5⟩
  exact Pu.Ok.ret ht
theorem cb.loop {k : Nat} {t : Pu.Tab} {x3 x4 : List Int} {x5 : List (List Int)} (hk : 1 ≤ k) (ht : t.2.length ≤ 1048576) (hr : ∀ x ∈ t.2, x.length ≤ 1048576) : ∀ (m j i : Nat), i + m = t.2.length → m < j →
    cb.L0 k j t.2.length i t.2 x3 x5 x4 (t.2.take i) = some (x4, t.2)
  | m, 0, i, _, hj => by omega
  | 0, j + 1, i, hm, _ => by
    rw [cb.bS]
    have e : i = t.2.length := by omega
    subst e
    simp
  | m + 1, j + 1, i, hm, hj => by
    rw [cb.bS]
    have hlt : i < t.2.length := by omega
    have hx := hr _ (List.getElem_mem hlt)
    rw [← Pu.aB hlt []] at hx
    have ih := cb.loop (k := k) (x3 := x3) (x4 := x4) (x5 := x5) hk ht hr m j (i + 1) (by omega) (by omega)
    rw [Int.natCast_succ, Pu.take_succ hlt []] at ih
    have hl : (t.2.take i ++ [t.2.getD i []]).length ≤ 1099511627776 := by simp; omega
    simp (disch := omega) only [↓ar, bt, bo, aL, aP, aM, aC, aD, aE, bh, aH, aJ, aq, ao, aQ, al, aK, aG, bq, br, aN, aO, ae, Pu.w64, Int.toNat_natCast, decide_eq_true_eq, Int.ofNat_lt, Int.ofNat_le, if_true, if_false, Int.natCast_nonneg, decide_true, decide_false, Bool.not_true, Bool.not_false, Bool.false_eq_true, Bool.not_eq_true, Bool.true_and, Bool.and_true, Bool.false_and, Bool.and_false, hlt, hl, bF.is, ih]
theorem cb.is {k : Nat} {t : Pu.Tab} (hk : 4194304 + 1 ≤ k) (h1 : t.1.length ≤ 1048576) (ht : t.2.length ≤ 1048576) (hr : ∀ x ∈ t.2, x.length ≤ 1048576) : cb k t = some t := by
  obtain ⟨k, rfl⟩ : ∃ k', k = k' + 1 := ⟨k - 1, by omega⟩
  rw [cb.eq, bF.is (by omega) (by omega)]
  have h := cb.loop (k := k) (t := t) (x3 := []) (x4 := t.1) (x5 := []) (by omega) ht hr t.2.length k 0 (by omega) (by omega)
  rw [Int.natCast_zero, List.take_zero] at h
  exact h
theorem cy.loop {k : Nat} {x0 : List Int} {x1 : List (List Int)} (hk : 4194304 + 20 ≤ k) : ∀ (m j : Nat) (t : Pu.Tab), Pu.cz t = true → Pu.dC t.1 ≤ m → m < j → cy.L0 k j x0 x1 t.1 t.2 = some (Pu.jj m t, true)
  | m, 0, t, _, _, hj => by omega
  | 0, j + 1, t, h, hs, _ => by
    have hp := (Pu.ct h).1
    have := (Pu.bn hp).2.2.2
    rw [cy.bS]
    have hn : ¬ (0 : Int) < t.1.length := by omega
    simp only [↓ar, bt, bo, aL, aP, aM, aC, aD, aE, bh, aH, aJ, aq, ao, aQ, al, aK, aG, bq, br, aN, aO, ae, Pu.w64, Int.toNat_natCast, decide_eq_true_eq, Int.ofNat_lt, Int.ofNat_le, if_true, if_false, Int.natCast_nonneg, decide_true, decide_false, Bool.not_true, Bool.not_false, Bool.false_eq_true, Bool.not_eq_true, Bool.true_and, Bool.and_true, Bool.false_and, Bool.and_false, hn, Pu.jj, Prod.eta]
  | m + 1, j + 1, t, h, hs, hj => by
    have hp := (Pu.ct h).1
    have hz := (Pu.gH h).1
    rw [cy.bS]
    unfold Pu.jj
    by_cases c : t.1.length = 0
    · have hn : ¬ (0 : Int) < t.1.length := by omega
      rw [if_pos c]
      simp only [↓ar, bt, bo, aL, aP, aM, aC, aD, aE, bh, aH, aJ, aq, ao, aQ, al, aK, aG, bq, br, aN, aO, ae, Pu.w64, Int.toNat_natCast, decide_eq_true_eq, Int.ofNat_lt, Int.ofNat_le, if_true, if_false, Int.natCast_nonneg, decide_true, decide_false, Bool.not_true, Bool.not_false, Bool.false_eq_true, Bool.not_eq_true, Bool.true_and, Bool.and_true, Bool.false_and, Bool.and_false, hn, Prod.eta]
    · have hn : (0 : Int) < t.1.length := by omega
      have hc := Pu.j7 hp (by omega)
      have hi := au.is (k := k) (t := t) (n := t.1.length - 1) hk h (by omega) hc
      rw [show ((t.1.length - 1 : Nat) : Int) = (t.1.length : Int) - 1 by omega] at hi
      have ih := cy.loop (x0 := x0) (x1 := x1) hk m j (Pu.cf t (t.1.length - 1)).1 (Pu.gI h (by omega) hc) (by
        have := Pu.pJ hp (show t.1.length - 1 < t.1.length by omega) hc
        show Pu.dC (Pu.az t.1 (t.1.length - 1)) ≤ m
        omega) (by omega)
      rw [if_neg c, show ((t.1, t.2) : Pu.Tab) = t from rfl]
      simp (disch := omega) only [↓ar, bt, bo, aL, aP, aM, aC, aD, aE, bh, aH, aJ, aq, ao, aQ, al, aK, aG, bq, br, aN, aO, ae, Pu.w64, Int.toNat_natCast, decide_eq_true_eq, Int.ofNat_lt, Int.ofNat_le, if_true, if_false, Int.natCast_nonneg, decide_true, decide_false, Bool.not_true, Bool.not_false, Bool.false_eq_true, Bool.not_eq_true, Bool.true_and, Bool.and_true, Bool.false_and, Bool.and_false, hn, hi, ih]
theorem cy.is {k : Nat} {t : Pu.Tab} (hk : 4194304 + 30 ≤ k) (h1 : t.1.length ≤ 1048576) (ht : t.2.length ≤ 1048576) (hr : ∀ x ∈ t.2, x.length ≤ 1048576) : cy k t = some (Pu.cN t) := by
  obtain ⟨k, rfl⟩ : ∃ k', k = k' + 1 := ⟨k - 1, by omega⟩
  rw [cy.eq, show ((t.1, t.2) : Pu.Tab) = t from rfl, aT.is (by omega) h1 ht hr, ae]
  unfold Pu.cN
  cases hb : Pu.cz t with
  | false => simp
  | true =>
    have h9 := (Pu.bn (Pu.ct hb).1).2.1
    have hcp := cb.is (k := k) (t := t) (by omega) h1 ht hr
    have hl := cy.loop (k := k) (x0 := []) (x1 := []) (by omega) 9 k t hb h9 (by omega)
    simp only [↓ar, bt, bo, aL, aP, aM, aC, aD, aE, bh, aH, aJ, aq, ao, aQ, al, aK, aG, bq, br, aN, aO, ae, Pu.w64, Int.toNat_natCast, decide_eq_true_eq, Int.ofNat_lt, Int.ofNat_le, if_true, if_false, Int.natCast_nonneg, decide_true, decide_false, Bool.not_true, Bool.not_false, Bool.false_eq_true, Bool.not_eq_true, Bool.true_and, Bool.and_true, Bool.false_and, Bool.and_false, hcp, hl]
theorem dg.loop {k : Nat} {t : Pu.Tab} {x3 x4 : List Int} {x5 : List (List Int)} (ht : t.2.length ≤ 1048576) (hr : ∀ x ∈ t.2, x.length ≤ 1048576) : ∀ (m j i : Nat), i + m = t.2.length → m < j →
    dg.L0 k j i t.1 t.2 x3 x5 x4 (t.2.take i) = some (x4, t.2)
  | m, 0, i, _, hj => by omega
  | 0, j + 1, i, hm, _ => by
    rw [dg.bS]
    have e : i = t.2.length := by omega
    subst e
    simp
  | m + 1, j + 1, i, hm, hj => by
    rw [dg.bS]
    have hlt : i < t.2.length := by omega
    have hx := hr _ (List.getElem_mem hlt)
    rw [← Pu.aB hlt []] at hx
    have ih := dg.loop (k := k) (x3 := x3) (x4 := x4) (x5 := x5) ht hr m j (i + 1) (by omega) (by omega)
    rw [Int.natCast_succ, Pu.take_succ hlt []] at ih
    have hl : (t.2.take i ++ [t.2.getD i []]).length ≤ 1099511627776 := by simp; omega
    have hx' : (t.2.getD i []).length ≤ 1099511627776 := by omega
    simp (disch := omega) only [↓ar, bt, bo, aL, aP, aM, aC, aD, aE, bh, aH, aJ, aq, ao, aQ, al, aK, aG, bq, br, aN, aO, ae, Pu.w64, Int.toNat_natCast, decide_eq_true_eq, Int.ofNat_lt, Int.ofNat_le, if_true, if_false, Int.natCast_nonneg, decide_true, decide_false, Bool.not_true, Bool.not_false, Bool.false_eq_true, Bool.not_eq_true, Bool.true_and, Bool.and_true, Bool.false_and, Bool.and_false, hlt, hl, hx', List.nil_append, ih]
theorem dg.is {k : Nat} {t : Pu.Tab} (hk : 4194304 + 1 ≤ k) (h1 : t.1.length ≤ 1048576) (ht : t.2.length ≤ 1048576) (hr : ∀ x ∈ t.2, x.length ≤ 1048576) : dg k t = some t := by
  obtain ⟨k, rfl⟩ : ∃ k', k = k' + 1 := ⟨k - 1, by omega⟩
  rw [dg.eq]
  have h := dg.loop (k := k) (t := t) (x3 := []) (x4 := t.1) (x5 := []) ht hr t.2.length k 0 (by omega) (by omega)
  rw [Int.natCast_zero, List.take_zero] at h
  have hl : t.1.length ≤ 1099511627776 := by omega
  simp only [↓ar, bt, bo, aL, aP, aM, aC, aD, aE, bh, aH, aJ, aq, ao, aQ, al, aK, aG, bq, br, aN, aO, ae, Pu.w64, Int.toNat_natCast, decide_eq_true_eq, Int.ofNat_lt, Int.ofNat_le, if_true, if_false, Int.natCast_nonneg, decide_true, decide_false, Bool.not_true, Bool.not_false, Bool.false_eq_true, Bool.not_eq_true, Bool.true_and, Bool.and_true, Bool.false_and, Bool.and_false, List.nil_append, hl, h]
theorem cM.loop {k : Nat} {x0 : List Int} {x1 : List (List Int)} (hk : 4194304 + 8 ≤ k) : ∀ (m j : Nat) (t : Pu.Tab), Pu.cz t = true → Pu.dC t.1 ≤ m → m < j → cM.L0 k j x0 x1 t.1 t.2 = some (Pu.jj m t, true)
  | m, 0, t, _, _, hj => by omega
  | 0, j + 1, t, h, hs, _ => by
    have hp := (Pu.ct h).1
    have := (Pu.bn hp).2.2.2
    rw [cM.bS]
    have hn : ¬ (0 : Int) < t.1.length := by omega
    simp only [↓ar, bt, bo, aL, aP, aM, aC, aD, aE, bh, aH, aJ, aq, ao, aQ, al, aK, aG, bq, br, aN, aO, ae, Pu.w64, Int.toNat_natCast, decide_eq_true_eq, Int.ofNat_lt, Int.ofNat_le, if_true, if_false, Int.natCast_nonneg, decide_true, decide_false, Bool.not_true, Bool.not_false, Bool.false_eq_true, Bool.not_eq_true, Bool.true_and, Bool.and_true, Bool.false_and, Bool.and_false, hn, Pu.jj, Prod.eta]
  | m + 1, j + 1, t, h, hs, hj => by
    have hp := (Pu.ct h).1
    have hz := (Pu.gH h).1
    rw [cM.bS]
    unfold Pu.jj
    by_cases c : t.1.length = 0
    · have hn : ¬ (0 : Int) < t.1.length := by omega
      rw [if_pos c]
      simp only [↓ar, bt, bo, aL, aP, aM, aC, aD, aE, bh, aH, aJ, aq, ao, aQ, al, aK, aG, bq, br, aN, aO, ae, Pu.w64, Int.toNat_natCast, decide_eq_true_eq, Int.ofNat_lt, Int.ofNat_le, if_true, if_false, Int.natCast_nonneg, decide_true, decide_false, Bool.not_true, Bool.not_false, Bool.false_eq_true, Bool.not_eq_true, Bool.true_and, Bool.and_true, Bool.false_and, Bool.and_false, hn, Prod.eta]
    · have hn : (0 : Int) < t.1.length := by omega
      have hc := Pu.j7 hp (by omega)
      have hi := a9.is (k := k) (t := t) (n := t.1.length - 1) hk h (by omega) hc
      rw [show ((t.1.length - 1 : Nat) : Int) = (t.1.length : Int) - 1 by omega] at hi
      have ih := cM.loop (x0 := x0) (x1 := x1) hk m j (Pu.cf t (t.1.length - 1)).1 (Pu.gI h (by omega) hc) (by
        have := Pu.pJ hp (show t.1.length - 1 < t.1.length by omega) hc
        show Pu.dC (Pu.az t.1 (t.1.length - 1)) ≤ m
        omega) (by omega)
      rw [if_neg c, show ((t.1, t.2) : Pu.Tab) = t from rfl]
      simp (disch := omega) only [↓ar, bt, bo, aL, aP, aM, aC, aD, aE, bh, aH, aJ, aq, ao, aQ, al, aK, aG, bq, br, aN, aO, ae, Pu.w64, Int.toNat_natCast, decide_eq_true_eq, Int.ofNat_lt, Int.ofNat_le, if_true, if_false, Int.natCast_nonneg, decide_true, decide_false, Bool.not_true, Bool.not_false, Bool.false_eq_true, Bool.not_eq_true, Bool.true_and, Bool.and_true, Bool.false_and, Bool.and_false, hn, hi, ih]
theorem cM.is {k : Nat} {t : Pu.Tab} (hk : 4194304 + 30 ≤ k) (h1 : t.1.length ≤ 1048576) (ht : t.2.length ≤ 1048576) (hr : ∀ x ∈ t.2, x.length ≤ 1048576) : cM k t = some (Pu.cN t) := by
  obtain ⟨k, rfl⟩ : ∃ k', k = k' + 1 := ⟨k - 1, by omega⟩
  rw [cM.eq, show ((t.1, t.2) : Pu.Tab) = t from rfl, aF.is (by omega) h1 ht hr, ae]
  unfold Pu.cN
  cases hb : Pu.cz t with
  | false => simp
  | true =>
    have h9 := (Pu.bn (Pu.ct hb).1).2.1
    have hcp := dg.is (k := k) (t := t) (by omega) h1 ht hr
    have hl := cM.loop (k := k) (x0 := []) (x1 := []) (by omega) 9 k t hb h9 (by omega)
    simp only [↓ar, bt, bo, aL, aP, aM, aC, aD, aE, bh, aH, aJ, aq, ao, aQ, al, aK, aG, bq, br, aN, aO, ae, Pu.w64, Int.toNat_natCast, decide_eq_true_eq, Int.ofNat_lt, Int.ofNat_le, if_true, if_false, Int.natCast_nonneg, decide_true, decide_false, Bool.not_true, Bool.not_false, Bool.false_eq_true, Bool.not_eq_true, Bool.true_and, Bool.and_true, Bool.false_and, Bool.and_false, hcp, hl]
theorem cP.loop {k : Nat} {a b : List Int} (hl : a.length = b.length) (ha : a.length ≤ 1048576) : ∀ (m j i : Nat), i + m = a.length → m < j → cP.L0 k j i a b = some (decide (a.drop i = b.drop i))
  | m, 0, i, _, hj => by omega
  | 0, j + 1, i, hi, _ => by
    rw [cP.bS]
    have e : i = a.length := by omega
    subst e
    simp [hl]
  | m + 1, j + 1, i, hi, hj => by
    rw [cP.bS]
    have h1 : i < a.length := by omega
    have h2 : i < b.length := by omega
    have ih := cP.loop (k := k) hl ha m j (i + 1) (by omega) (by omega)
    rw [Int.natCast_succ] at ih
    rw [Pu.drop_cons h1 0, Pu.drop_cons h2 0]
    by_cases e : a.getD i 0 = b.getD i 0 <;> simp (disch := omega) only [ar, bt, bo, aL, aC, aD, aE, bh, al, aK, bq, br, Pu.w64, Int.toNat_natCast, decide_eq_true_eq, Int.ofNat_lt, h1, h2, if_true, Int.natCast_nonneg, decide_true, ih, e, List.cons.injEq, true_and, false_and, decide_false, Bool.not_true, Bool.not_false, if_false, Bool.false_eq_true]
theorem cP.is {k : Nat} {a b : List Int} (hk : 4194304 + 1 ≤ k) (ha : a.length ≤ 1048576) : cP k a b = some (decide (a = b)) := by
  obtain ⟨k, rfl⟩ : ∃ k', k = k' + 1 := ⟨k - 1, by omega⟩
  rw [cP.eq]
  by_cases hl : a.length = b.length
  · have h := cP.loop (k := k) hl ha a.length k 0 (by omega) (by omega)
    rw [Int.natCast_zero] at h
    simp only [List.drop_zero] at h
    have hl' : (a.length : Int) = b.length := by omega
    simp only [ar, bq, br, aD, aC, hl', decide_true, Bool.not_true, Bool.false_eq_true, if_false, h]
  · have hne : a ≠ b := fun e => hl (by rw [e])
    have hl' : ¬ (a.length : Int) = b.length := by omega
    simp [hl', hne]
theorem aW.loop {k : Nat} {p q : List Int} {a b : List (List Int)} (hk : 4194304 + 1 ≤ k) (hl : a.length = b.length) (ha : a.length ≤ 1048576) (hr : ∀ x ∈ a, x.length ≤ 1048576) : ∀ (m j i : Nat), i + m = a.length → m < j → aW.L1 k j i p a q b = some (decide (a.drop i = b.drop i))
  | m, 0, i, _, hj => by omega
  | 0, j + 1, i, hi, _ => by
    rw [aW.eV]
    have e : i = a.length := by omega
    subst e
    simp [hl]
  | m + 1, j + 1, i, hi, hj => by
    rw [aW.eV]
    have h1 : i < a.length := by omega
    have h2 : i < b.length := by omega
    have ih := aW.loop (k := k) (p := p) (q := q) hk hl ha hr m j (i + 1) (by omega) (by omega)
    rw [Int.natCast_succ] at ih
    have hx : (a.getD i []).length ≤ 1048576 := by rw [Pu.aB h1 []]; exact hr _ (List.getElem_mem h1)
    have hs := cP.is (k := k) (b := b.getD i []) hk hx
    rw [Pu.drop_cons h1 [], Pu.drop_cons h2 []]
    by_cases e : a.getD i [] = b.getD i []
    · rw [e] at hs
      simp (disch := omega) only [↓ar, bt, bo, aL, aP, aM, aC, aD, aE, bh, aH, aJ, aq, ao, aQ, al, aK, aG, bq, br, aN, aO, ae, Pu.w64, Int.toNat_natCast, decide_eq_true_eq, Int.ofNat_lt, Int.ofNat_le, if_true, if_false, Int.natCast_nonneg, decide_true, decide_false, Bool.not_true, Bool.not_false, Bool.false_eq_true, Bool.not_eq_true, Bool.true_and, Bool.and_true, Bool.false_and, Bool.and_false, h1, h2, hs, ih, e, List.cons.injEq, true_and, false_and, eq_self]
    · simp (disch := omega) only [↓ar, bt, bo, aL, aP, aM, aC, aD, aE, bh, aH, aJ, aq, ao, aQ, al, aK, aG, bq, br, aN, aO, ae, Pu.w64, Int.toNat_natCast, decide_eq_true_eq, Int.ofNat_lt, Int.ofNat_le, if_true, if_false, Int.natCast_nonneg, decide_true, decide_false, Bool.not_true, Bool.not_false, Bool.false_eq_true, Bool.not_eq_true, Bool.true_and, Bool.and_true, Bool.false_and, Bool.and_false, h1, h2, hs, ih, e, List.cons.injEq, true_and, false_and]
theorem aW.is {k : Nat} {a b : List Int × List (List Int)} (hk : 4194304 + 2 ≤ k) (h1 : a.1.length ≤ 1048576) (ha : a.2.length ≤ 1048576) (hr : ∀ x ∈ a.2, x.length ≤ 1048576) : aW k a b = some (decide (a = b)) := by
  obtain ⟨k, rfl⟩ : ∃ k', k = k' + 1 := ⟨k - 1, by omega⟩
  obtain ⟨a1, a2⟩ := a
  obtain ⟨b1, b2⟩ := b
  have hs := cP.is (k := k) (a := a1) (b := b1) (by omega) h1
  rw [aW.eq, hs, ae, aW.fC]
  by_cases e1 : a1 = b1
  · subst e1
    by_cases hl : a2.length = b2.length
    · have h := aW.loop (k := k) (p := a1) (q := a1) (a := a2) (b := b2) (by omega) hl ha hr a2.length k 0 (by omega) (by simp only at ha; omega)
      rw [Int.natCast_zero] at h
      simp only [List.drop_zero] at h
      have hl' : (a2.length : Int) = b2.length := by omega
      simp only [↓ar, bt, bo, aL, aP, aM, aC, aD, aE, bh, aH, aJ, aq, ao, aQ, al, aK, aG, bq, br, aN, aO, ae, Pu.w64, Int.toNat_natCast, decide_eq_true_eq, Int.ofNat_lt, Int.ofNat_le, if_true, if_false, Int.natCast_nonneg, decide_true, decide_false, Bool.not_true, Bool.not_false, Bool.false_eq_true, Bool.not_eq_true, Bool.true_and, Bool.and_true, Bool.false_and, Bool.and_false, hl', h, Prod.mk.injEq, true_and, eq_self]
    · have hne : a2 ≠ b2 := fun e => hl (by rw [e])
      have hl' : ¬ (a2.length : Int) = b2.length := by omega
      simp [hl', hne]
  · simp [e1]
theorem eQ.loop {k : Nat} {w : List Int} (hw : w.length ≤ 1048576) (hb : ∀ x ∈ w, -1000000 ≤ x ∧ x ≤ 1000000) : ∀ (m j i : Nat) (s : Int), i + m = w.length → m < j → -1000000 * i ≤ s → s ≤ 1000000 * i → eQ.L0 k j s w.length i w = some (s + Pu.dC (w.drop i))
  | m, 0, i, s, _, hj, _, _ => by omega
  | 0, j + 1, i, s, hm, _, _, _ => by
    rw [eQ.bS]
    have e : i = w.length := by omega
    subst e
    simp [Pu.dC]
  | m + 1, j + 1, i, s, hm, hj, hs1, hs2 => by
    rw [eQ.bS]
    have hlt : i < w.length := by omega
    have hx := hb _ (List.getElem_mem hlt)
    rw [← Pu.aB hlt 0] at hx
    have ih := eQ.loop (k := k) hw hb m j (i + 1) (s + w.getD i 0) (by omega) (by omega) (by omega) (by omega)
    rw [Int.natCast_succ] at ih
    rw [Pu.drop_cons hlt 0]
    simp (disch := omega) only [↓ar, bt, bo, aL, aP, aM, aC, aD, aE, bh, aH, aJ, aq, ao, aQ, al, aK, aG, bq, br, aN, aO, ae, Pu.w64, Int.toNat_natCast, decide_eq_true_eq, Int.ofNat_lt, Int.ofNat_le, if_true, if_false, Int.natCast_nonneg, decide_true, decide_false, Bool.not_true, Bool.not_false, Bool.false_eq_true, Bool.not_eq_true, Bool.true_and, Bool.and_true, Bool.false_and, Bool.and_false, hlt, ih, Pu.dC, Int.add_assoc]
theorem eQ.is {k : Nat} {w : List Int} (hk : 4194304 + 1 ≤ k) (hw : w.length ≤ 1048576) (hb : ∀ x ∈ w, -1000000 ≤ x ∧ x ≤ 1000000) : eQ k w = some (Pu.dC w) := by
  obtain ⟨k, rfl⟩ : ∃ k', k = k' + 1 := ⟨k - 1, by omega⟩
  rw [eQ.eq]
  have h := eQ.loop (k := k) hw hb w.length k 0 0 (by omega) (by omega) (by omega) (by omega)
  rw [Int.natCast_zero] at h
  simp only [aD, aC]
  rw [h, Int.zero_add, List.drop_zero]
theorem eT.is {k : Nat} {t : Pu.Tab} (hk : 4194304 + 30 ≤ k) (h1 : t.1.length ≤ 1000000) (ht : t.2.length ≤ 1048576) (hr : ∀ x ∈ t.2, x.length ≤ 1048576) : eT k t = some (Pu.lr t) := by
  obtain ⟨k, rfl⟩ : ∃ k', k = k' + 1 := ⟨k - 1, by omega⟩
  rw [eT.eq, show ((t.1, t.2) : Pu.Tab) = t from rfl]
  unfold Pu.lr
  refine Pu.bE (aT.is (by omega) (by omega) ht hr) ?_
  cases hb : Pu.cz t with
  | false => rfl
  | true =>
    have hp := (Pu.bn (Pu.ct hb).1).1
    exact Pu.tN (Pu.bE (eQ.is (by omega) (by omega) fun x hx => by have := hp x hx; omega) rfl)
theorem de.loop {k : Nat} {w : List Int} (hw : w.length ≤ 1048576) (hb : ∀ x ∈ w, -1000000 ≤ x ∧ x ≤ 1000000) : ∀ (m j i : Nat) (s : Int), i + m = w.length → m < j → -1000000 * i ≤ s → s ≤ 1000000 * i → de.L0 k j s i w = some (s + Pu.dC (w.drop i))
  | m, 0, i, s, _, hj, _, _ => by omega
  | 0, j + 1, i, s, hm, _, _, _ => by
    rw [de.bS]
    have e : i = w.length := by omega
    subst e
    simp [Pu.dC]
  | m + 1, j + 1, i, s, hm, hj, hs1, hs2 => by
    rw [de.bS]
    have hlt : i < w.length := by omega
    have hx := hb _ (List.getElem_mem hlt)
    rw [← Pu.aB hlt 0] at hx
    have ih := de.loop (k := k) hw hb m j (i + 1) (s + w.getD i 0) (by omega) (by omega) (by omega) (by omega)
    rw [Int.natCast_succ] at ih
    rw [Pu.drop_cons hlt 0]
    simp (disch := omega) only [↓ar, bt, bo, aL, aP, aM, aC, aD, aE, bh, aH, aJ, aq, ao, aQ, al, aK, aG, bq, br, aN, aO, ae, Pu.w64, Int.toNat_natCast, decide_eq_true_eq, Int.ofNat_lt, Int.ofNat_le, if_true, if_false, Int.natCast_nonneg, decide_true, decide_false, Bool.not_true, Bool.not_false, Bool.false_eq_true, Bool.not_eq_true, Bool.true_and, Bool.and_true, Bool.false_and, Bool.and_false, hlt, ih, Pu.dC, Int.add_assoc]
theorem de.is {k : Nat} {w : List Int} (hk : 4194304 + 1 ≤ k) (hw : w.length ≤ 1048576) (hb : ∀ x ∈ w, -1000000 ≤ x ∧ x ≤ 1000000) : de k w = some (Pu.dC w) := by
  obtain ⟨k, rfl⟩ : ∃ k', k = k' + 1 := ⟨k - 1, by omega⟩
  rw [de.eq]
  have h := de.loop (k := k) hw hb w.length k 0 0 (by omega) (by omega) (by omega) (by omega)
  rw [Int.natCast_zero] at h
  rw [h, Int.zero_add, List.drop_zero]
theorem eR.is {k : Nat} {t : Pu.Tab} (hk : 4194304 + 30 ≤ k) (h1 : t.1.length ≤ 1000000) (ht : t.2.length ≤ 1048576) (hr : ∀ x ∈ t.2, x.length ≤ 1048576) : eR k t = some (Pu.lr t) := by
  obtain ⟨k, rfl⟩ : ∃ k', k = k' + 1 := ⟨k - 1, by omega⟩
  rw [eR.eq, show ((t.1, t.2) : Pu.Tab) = t from rfl]
  unfold Pu.lr
  refine Pu.bE (aF.is (by omega) (by omega) ht hr) ?_
  cases hb : Pu.cz t with
  | false => rfl
  | true =>
    have hp := (Pu.bn (Pu.ct hb).1).1
    exact Pu.tN (Pu.bE (de.is (by omega) (by omega) fun x hx => by have := hp x hx; omega) rfl)
theorem bH.loop {k : Nat} {t : Pu.Tab} (hk : 4194304 + 8 ≤ k) (h1 : t.1.length ≤ 1048576) (ht : t.2.length ≤ 1048576) (hr : ∀ x ∈ t.2, x.length ≤ 1048576) (hb : Pu.cz t = true) : ∀ (m j : Nat) (w : List Int), m ≤ t.2.length → m < j → w.length + Pu.mh (t.2.take m) ≤ 1099511627776 → bH.L0 k j ((m : Int) - 1) w t.1 t.2 = some (w ++ (t.2.take m).reverse.flatten)
  | m, 0, w, _, hj, _ => by omega
  | 0, j + 1, w, _, _, _ => by
    rw [bH.bS]
    have hn : ¬ (0 : Int) ≤ ((0 : Nat) : Int) - 1 := by omega
    simp only [↓ar, bt, bo, aL, aP, aM, aC, aD, aE, bh, aH, aJ, aq, ao, aQ, al, aK, aG, bq, br, aN, aO, ae, Pu.w64, Int.toNat_natCast, decide_eq_true_eq, Int.ofNat_lt, Int.ofNat_le, if_true, if_false, Int.natCast_nonneg, decide_true, decide_false, Bool.not_true, Bool.not_false, Bool.false_eq_true, Bool.not_eq_true, Bool.true_and, Bool.and_true, Bool.false_and, Bool.and_false, hn]
    simp
  | m + 1, j + 1, w, hm, hj, hs => by
    rw [bH.bS, show ((t.1, t.2) : Pu.Tab) = t from rfl, bH.eP]
    have e : (((m + 1 : Nat) : Int) - 1) = (m : Int) := by omega
    have hlt : m < t.2.length := by omega
    have htk := Pu.take_succ hlt []
    have hsz : ∀ (a b : List (List Int)), Pu.mh (a ++ b) = Pu.mh a + Pu.mh b := by
      intro a b
      induction a with
      | nil => simp [Pu.mh]
      | cons x a ih => simp only [List.cons_append, Pu.mh, ih]; omega
    rw [htk, hsz] at hs
    simp only [Pu.mh] at hs
    have hl : (w ++ t.2.getD m []).length ≤ 1099511627776 := by rw [List.length_append]; omega
    have h0 : (0 : Int) ≤ (m : Int) := by omega
    have ih := bH.loop hk h1 ht hr hb m j (w ++ t.2.getD m []) (by omega) (by omega) (by rw [List.length_append]; omega)
    have hit := aF.is (k := k) (t := t) (by omega) h1 ht hr
    rw [hb] at hit
    rw [e]
    simp (disch := omega) only [↓ar, bt, bo, aL, aP, aM, aC, aD, aE, bh, aH, aJ, aq, ao, aQ, al, aK, aG, bq, br, aN, aO, ae, Pu.w64, Int.toNat_natCast, decide_eq_true_eq, Int.ofNat_lt, Int.ofNat_le, if_true, if_false, Int.natCast_nonneg, decide_true, decide_false, Bool.not_true, Bool.not_false, Bool.false_eq_true, Bool.not_eq_true, Bool.true_and, Bool.and_true, Bool.false_and, Bool.and_false, h0, hlt, hl, hit, ih]
    rw [htk, List.reverse_append, List.flatten_append]
    simp
theorem bH.is {k : Nat} {t : Pu.Tab} (hk : 4194304 + 10 ≤ k) (h1 : t.1.length ≤ 1048576) (ht : t.2.length ≤ 1048576) (hr : ∀ x ∈ t.2, x.length ≤ 1048576) : bH k t = some (if Pu.cz t = true then t.2.reverse.flatten else []) := by
  obtain ⟨k, rfl⟩ : ∃ k', k = k' + 1 := ⟨k - 1, by omega⟩
  rw [bH.eq]
  have ew : D.wrap .i64 (D.sub (D.ofN (D.len t.2)) 1) = (t.2.length : Int) - 1 := by
    show IntKind.i64.wrap ((t.2.length : Int) - 1) = _
    rw [Pu.w64 (by omega) (by omega)]
  rw [ew]
  cases hb : Pu.cz t with
  | false =>
    have hit := aF.is (k := k) (t := t) (by omega) h1 ht hr
    rw [hb] at hit
    obtain ⟨j, rfl⟩ : ∃ j, k = j + 1 := ⟨k - 1, by omega⟩
    rw [bH.bS, show ((t.1, t.2) : Pu.Tab) = t from rfl]
    by_cases c : (0 : Int) ≤ (t.2.length : Int) - 1
    · exact Pu.tG c (Pu.bE hit rfl)
    · exact Pu.tX c rfl
  | true =>
    have hs := Pu.Ak ht hr
    have hl := bH.loop (k := k) (t := t) (by omega) h1 ht hr hb t.2.length k [] (Nat.le_refl _) (by omega) (by rw [List.take_length]; simpa using hs)
    rw [List.take_length] at hl
    rw [hl, List.nil_append, if_pos rfl]
theorem fg.is {k : Nat} {x : Int} (hk : 2 ≤ k) : fg k x = some (!Pu.within x 1 9, ()) := by
  obtain ⟨k, rfl⟩ : ∃ k', k = k' + 1 := ⟨k - 1, by omega⟩
  rw [fg.eq, cI.is (by omega)]
  rfl
theorem aR.is {k : Nat} {r : List Int} (hk : 4194304 + 1 ≤ k) (hr : r.length ≤ 1048577) : aR k r = some (Pu.xi (fun y => !Pu.within y 1 9) r, ()) := by
  obtain ⟨k, rfl⟩ : ∃ k', k = k' + 1 := ⟨k - 1, by omega⟩
  rw [aR.eq]
  have h := Pu.sG r 0 (fun y => !Pu.within y 1 9) (fun j i => aR.L0 k j r.length i r) (fun i => some ((i : Int), ())) (some (-1, ()))
    (fun j i hi => by
      rw [aR.bS, fg.is (by omega)]
      cases c : Pu.within (r.getD i 0) 1 9 <;> simp (disch := omega) only [↓ar, bt, bo, aL, aP, aM, aC, aD, aE, bh, aH, aJ, aq, ao, aQ, al, aK, aG, bq, br, aN, aO, ae, Pu.w64, Int.toNat_natCast, decide_eq_true_eq, Int.ofNat_lt, Int.ofNat_le, if_true, if_false, Int.natCast_nonneg, decide_true, decide_false, Bool.not_true, Bool.not_false, Bool.false_eq_true, Bool.not_eq_true, Bool.true_and, Bool.and_true, Bool.false_and, Bool.and_false, hi, c, Int.natCast_add, Int.natCast_one])
    (fun j => by
      rw [aR.bS]
      simp only [↓ar, bt, bo, aL, aP, aM, aC, aD, aE, bh, aH, aJ, aq, ao, aQ, al, aK, aG, bq, br, aN, aO, ae, Pu.w64, Int.toNat_natCast, decide_eq_true_eq, Int.ofNat_lt, Int.ofNat_le, if_true, if_false, Int.natCast_nonneg, decide_true, decide_false, Bool.not_true, Bool.not_false, Bool.false_eq_true, Bool.not_eq_true, Bool.true_and, Bool.and_true, Bool.false_and, Bool.and_false, Nat.lt_irrefl]) r.length k 0 (by omega) (by omega) (by omega)
  simp only [Int.natCast_zero] at h
  simp only [aD, aC]
  rw [h]
  unfold Pu.xi
  split <;> rfl
theorem bJ.is {k : Nat} {r : List Int} (hk : 4194304 + 2 ≤ k) (hr : r.length ≤ 1048577) : bJ k r = some (r.any fun y => !Pu.within y 1 9, ()) := by
  obtain ⟨k, rfl⟩ : ∃ k', k = k' + 1 := ⟨k - 1, by omega⟩
  rw [bJ.eq, aR.is (by omega) hr, ae, bo, Pu.wU]
theorem gU.is {k : Nat} {w : List Int} (hk : 4194304 + 3 ≤ k) (hw : w.length ≤ 1048576) : gU k w = some (Pu.isWord w) := by
  obtain ⟨k, rfl⟩ : ∃ k', k = k' + 1 := ⟨k - 1, by omega⟩
  rw [gU.eq, bJ.is (by omega) (by omega), ae]
  unfold Pu.isWord
  have e : (!w.any fun y => !Pu.within y 1 9) = w.all fun n => Pu.within n 1 9 := by rw [List.all_eq_not_any_not]
  by_cases c : w.length ≤ 9
  · have c' : (w.length : Int) ≤ 9 := by omega
    simp only [↓ar, bt, bo, aL, aP, aM, aC, aD, aE, bh, aH, aJ, aq, ao, aQ, al, aK, aG, bq, br, aN, aO, ae, Pu.w64, Int.toNat_natCast, decide_eq_true_eq, Int.ofNat_lt, Int.ofNat_le, if_true, if_false, Int.natCast_nonneg, decide_true, decide_false, Bool.not_true, Bool.not_false, Bool.false_eq_true, Bool.not_eq_true, Bool.true_and, Bool.and_true, Bool.false_and, Bool.and_false, c, c', e]
  · have c' : ¬ (w.length : Int) ≤ 9 := by omega
    simp only [↓ar, bt, bo, aL, aP, aM, aC, aD, aE, bh, aH, aJ, aq, ao, aQ, al, aK, aG, bq, br, aN, aO, ae, Pu.w64, Int.toNat_natCast, decide_eq_true_eq, Int.ofNat_lt, Int.ofNat_le, if_true, if_false, Int.natCast_nonneg, decide_true, decide_false, Bool.not_true, Bool.not_false, Bool.false_eq_true, Bool.not_eq_true, Bool.true_and, Bool.and_true, Bool.false_and, Bool.and_false, c, c']
theorem dP.loop {k : Nat} {n : Nat} (hn : n ≤ 1000) : ∀ (m j i : Nat), i + m = n → m < j → dP.L0 k j n i (Pu.lk i) = some (Pu.lk n)
  | m, 0, i, _, hj => by omega
  | 0, j + 1, i, hi, _ => by
    rw [dP.bS]
    have e : i = n := by omega
    have hc : ¬ (i : Int) < (n : Int) := by omega
    exact Pu.tX hc (by rw [e])
  | m + 1, j + 1, i, hi, hj => by
    have hc : (i : Int) < (n : Int) := by omega
    have ih := dP.loop (k := k) hn m j (i + 1) (by omega) (by omega)
    have hws : IntKind.i64.wrap ((i : Int) + 1) = ((i + 1 : Nat) : Int) := by rw [Pu.w64 (by omega) (by omega)]; omega
    have hu : Pu.lk i ++ [((i + 1 : Nat) : Int)] = Pu.lk (i + 1) := by
      unfold Pu.lk
      rw [List.range_succ, List.map_append]
      rfl
    have hap : (Pu.lk i ++ [((i + 1 : Nat) : Int)]).length ≤ 1099511627776 := by rw [hu, Pu.mj]; omega
    rw [dP.bS]
    simp only [aK, al, aJ, aC, hws]
    refine Pu.tG hc (Pu.tG hap ?_)
    rw [hu, ih]
theorem dP.is {k n : Nat} (hk : 4194304 + 1 ≤ k) (hn : n ≤ 1000) : dP k n = some (Pu.lk n) := by
  obtain ⟨k, rfl⟩ : ∃ k', k = k' + 1 := ⟨k - 1, by omega⟩
  have h := dP.loop (k := k) hn n k 0 (by omega) (by omega)
  rw [Int.natCast_zero] at h
  rw [dP.eq]
  exact h
theorem cQ.is {k : Nat} {n x : Int} (hk : 1 ≤ k) : cQ k n x = some (decide (x < n), x) := by
  obtain ⟨k, rfl⟩ : ∃ k', k = k' + 1 := ⟨k - 1, by omega⟩
  rw [cQ.eq]
  rfl
theorem aj.loop {k : Nat} {r : List Int} {x : Int} (hk : 1 ≤ k) (hr : r.length ≤ 1048577) : ∀ (m j i : Nat), i + m = r.length → m < j → i ≤ r.findIdx (fun n => decide (x < n)) →
    aj.L0 k j r.length i r x = some (if r.findIdx (fun n => decide (x < n)) < r.length then ((r.findIdx (fun n => decide (x < n)) : Nat) : Int) else -1, x)
  | m, 0, i, _, hj, _ => by omega
  | 0, j + 1, i, hm, _, hi => by
    rw [aj.bS]
    have e : i = r.length := by omega
    have h : ¬ r.findIdx (fun n => decide (x < n)) < r.length := by omega
    subst e
    rw [if_neg h]
    simp
  | m + 1, j + 1, i, hm, hj, hi => by
    rw [aj.bS]
    have hlt : i < r.length := by omega
    simp (disch := omega) only [↓ar, bt, bo, aL, aP, aM, aC, aD, aE, bh, aH, aJ, aq, ao, aQ, al, aK, aG, bq, br, aN, aO, ae, Pu.w64, Int.toNat_natCast, decide_eq_true_eq, Int.ofNat_lt, Int.ofNat_le, if_true, if_false, Int.natCast_nonneg, decide_true, decide_false, Bool.not_true, Bool.not_false, Bool.false_eq_true, Bool.not_eq_true, Bool.true_and, Bool.and_true, Bool.false_and, Bool.and_false, hlt, cQ.is]
    by_cases c : x < r.getD i 0
    · have e : r.findIdx (fun n => decide (x < n)) = i := by
        refine Nat.le_antisymm ?_ hi
        exact Pu.findIdx_le hlt (by simpa using c)
      simp only [c, ↓ar, bt, bo, aL, aP, aM, aC, aD, aE, bh, aH, aJ, aq, ao, aQ, al, aK, aG, bq, br, aN, aO, ae, Pu.w64, Int.toNat_natCast, decide_eq_true_eq, Int.ofNat_lt, Int.ofNat_le, if_true, if_false, Int.natCast_nonneg, decide_true, decide_false, Bool.not_true, Bool.not_false, Bool.false_eq_true, Bool.not_eq_true, Bool.true_and, Bool.and_true, Bool.false_and, Bool.and_false, e, hlt]
    · have hne : r.findIdx (fun n => decide (x < n)) ≠ i := fun e => by
        have := Pu.sN (p := fun n => decide (x < n)) (r := r) (by rw [e]; exact hlt)
        rw [e] at this
        exact c (by simpa using this)
      have ih := aj.loop (k := k) (x := x) hk hr m j (i + 1) (by omega) (by omega) (by omega)
      rw [Int.natCast_succ] at ih
      simp only [c, ↓ar, bt, bo, aL, aP, aM, aC, aD, aE, bh, aH, aJ, aq, ao, aQ, al, aK, aG, bq, br, aN, aO, ae, Pu.w64, Int.toNat_natCast, decide_eq_true_eq, Int.ofNat_lt, Int.ofNat_le, if_true, if_false, Int.natCast_nonneg, decide_true, decide_false, Bool.not_true, Bool.not_false, Bool.false_eq_true, Bool.not_eq_true, Bool.true_and, Bool.and_true, Bool.false_and, Bool.and_false, ih]
theorem aj.is {k : Nat} {r : List Int} {x : Int} (hk : 4194304 + 1 ≤ k) (hr : r.length ≤ 1048577) :
    aj k x r = some (if r.findIdx (fun n => decide (x < n)) < r.length then ((r.findIdx (fun n => decide (x < n)) : Nat) : Int) else -1, x) := by
  obtain ⟨k, rfl⟩ : ∃ k', k = k' + 1 := ⟨k - 1, by omega⟩
  rw [aj.eq]
  exact aj.loop (k := k) (by omega) hr r.length k 0 (by omega) (by omega) (by omega)
theorem bz.loop {k : Nat} {inner : List Int} (hk : 4194304 + 1 ≤ k) : ∀ (m j i : Nat) (x : Int) (rows : List (List Int)), i + m = rows.length → m < j → rows.length ≤ 1048576 → (∀ r ∈ rows, r.length ≤ 1048576) →
    bz.L0 k j rows.length i x rows inner = some (((i + (Pu.cn (rows.drop i) x).2 : Nat) : Int), (inner, rows.take i ++ (Pu.cn (rows.drop i) x).1))
  | m, 0, i, x, rows, _, hj, _, _ => by omega
  | 0, j + 1, i, x, rows, hm, _, hl, hr => by
    rw [bz.bS]
    have e : i = rows.length := by omega
    subst e
    have h1 : rows.length + 1 ≤ 1099511627776 := by omega
    simp (disch := omega) only [↓ar, bt, bo, aL, aP, aM, aC, aD, aE, bh, aH, aJ, aq, ao, aQ, al, aK, aG, bq, br, aN, aO, ae, Pu.w64, Int.toNat_natCast, decide_eq_true_eq, Int.ofNat_lt, Int.ofNat_le, if_true, if_false, Int.natCast_nonneg, decide_true, decide_false, Bool.not_true, Bool.not_false, Bool.false_eq_true, Bool.not_eq_true, Bool.true_and, Bool.and_true, Bool.false_and, Bool.and_false, Nat.lt_irrefl, h1, List.drop_length, List.take_length, Pu.cn, List.length_append, List.length_cons, List.length_nil, Int.natCast_add, Int.natCast_one, Int.natCast_zero, Int.add_zero, Int.zero_add, Nat.zero_add, Nat.add_zero, Int.add_sub_cancel]
  | m + 1, j + 1, i, x, rows, hm, hj, hl, hr => by
    rw [bz.bS]
    have hlt : i < rows.length := by omega
    have hx := hr _ (List.getElem_mem hlt)
    rw [← Pu.aB hlt []] at hx
    have hi := aj.is (k := k) (r := rows.getD i []) (x := x) (by omega) (by omega)
    rw [Pu.drop_cons hlt []]
    unfold Pu.cn
    generalize hf : (rows.getD i []).findIdx (fun n => decide (x < n)) = f at *
    by_cases c : f < (rows.getD i []).length
    · rw [if_pos c] at hi ⊢
      have ih := bz.loop (inner := inner) hk m j (i + 1) ((rows.getD i []).getD f 0) (rows.set i ((rows.getD i []).set f x)) (by rw [List.length_set]; omega) (by omega) (by rw [List.length_set]; exact hl) (fun r h => by
        rcases List.mem_or_eq_of_mem_set h with h | rfl
        · exact hr r h
        · rw [List.length_set]; exact hx)
      rw [Pu.uK hlt, Pu.uJ, List.length_set, Int.natCast_succ] at ih
      have hn : ¬ (f : Int) < 0 := by omega
      simp (disch := omega) only [↓ar, bt, bo, aL, aP, aM, aC, aD, aE, bh, aH, aJ, aq, ao, aQ, al, aK, aG, bq, br, aN, aO, ae, Pu.w64, Int.toNat_natCast, decide_eq_true_eq, Int.ofNat_lt, Int.ofNat_le, if_true, if_false, Int.natCast_nonneg, decide_true, decide_false, Bool.not_true, Bool.not_false, Bool.false_eq_true, Bool.not_eq_true, Bool.true_and, Bool.and_true, Bool.false_and, Bool.and_false, hlt, hi, hn, c, ih]
      simp only [List.append_assoc, List.singleton_append]
      congr 2
      omega
    · rw [if_neg c] at hi ⊢
      have hn : (-1 : Int) < 0 := by omega
      have h1 : (rows.getD i [] ++ [x]).length ≤ 1099511627776 := by simp only [List.length_append, List.length_cons, List.length_nil]; omega
      simp (disch := omega) only [↓ar, bt, bo, aL, aP, aM, aC, aD, aE, bh, aH, aJ, aq, ao, aQ, al, aK, aG, bq, br, aN, aO, ae, Pu.w64, Int.toNat_natCast, decide_eq_true_eq, Int.ofNat_lt, Int.ofNat_le, if_true, if_false, Int.natCast_nonneg, decide_true, decide_false, Bool.not_true, Bool.not_false, Bool.false_eq_true, Bool.not_eq_true, Bool.true_and, Bool.and_true, Bool.false_and, Bool.and_false, hlt, hi, hn, h1, Nat.add_zero]
      rw [Pu.AL hlt]
theorem bz.is {k : Nat} {inner : List Int} {x : Int} {rows : List (List Int)} (hk : 4194304 + 2 ≤ k) (hl : rows.length ≤ 1048576) (hr : ∀ r ∈ rows, r.length ≤ 1048576) :
    bz k x inner rows = some ((((Pu.cn rows x).2 : Nat) : Int), (inner, (Pu.cn rows x).1)) := by
  obtain ⟨k, rfl⟩ : ∃ k', k = k' + 1 := ⟨k - 1, by omega⟩
  rw [bz.eq]
  have h := bz.loop (k := k) (inner := inner) (by omega) rows.length k 0 x rows (by omega) (by omega) hl hr
  rw [Int.natCast_zero] at h
  simpa using h
theorem bg.add {k k1 : Nat} {i a n : Nat} {W v : List Int} {x4 : List Int} {x5 : List (List Int)} {x6 : List Int} {x7 : List (List Int)} {pi : List Int} {P : List (List Int)} {qi : List Int} {F : List (List Int)} {z : Int} (hi : i < v.length) (hz : v.getD i 0 = z) (ha : a < F.length) (hF : ∀ r, (F.getD r []).length ≤ 1000) (hw : i ≤ 1000) :
    bg.J1 k k1 i a n i v W x4 x5 x6 x7 pi P qi F = bg.L0 k k1 n ((i + 1 : Nat) : Int) v W x4 x5 x6 x7 pi P qi (F.set a (F.getD a [] ++ [z])) := by
  rw [bg.eP]
  have h9 := hF a
  have hws : IntKind.i64.wrap ((i : Int) + 1) = ((i + 1 : Nat) : Int) := by rw [Pu.w64 (by omega) (by omega)]; omega
  have hap : (F.getD a [] ++ [z]).length ≤ 1099511627776 := by rw [List.length_append, List.length_singleton]; omega
  simp only [aE, aC, bh, aH, aJ, aK, al, Int.toNat_natCast, hws, hz]
  have a0 := Int.natCast_nonneg a
  exact Pu.tG a0 (Pu.tG ha (Pu.tG ha (Pu.tG (Int.natCast_nonneg i) (Pu.tG hi (Pu.tG hi (Pu.tG ha (Pu.tG hap (Pu.tG a0 (Pu.tG ha (Pu.tG ha (Pu.tG rfl rfl)))))))))))
theorem bg.loop {k : Nat} {W : List Int} {x4 : List Int} {x5 : List (List Int)} {x6 : List Int} {x7 : List (List Int)} (hk : 4194304 + 20 ≤ k) (hW : W.length ≤ 9) (hx : ∀ x ∈ W, 1 ≤ x ∧ x ≤ 9) : ∀ (m j i : Nat) (P Q : List (List Int)), i + m = W.length → m < j → Pu.Ins P Q i →
    bg.L0 k j W.length i (Pu.lk W.length) W x4 x5 x6 x7 [] P [] Q = some (([], Pu.j9 (W.drop i) P), ([], Pu.Ci (W.drop i) P Q i))
  | m, 0, i, P, Q, _, hj, _ => by omega
  | 0, j + 1, i, P, Q, hi, _, _ => by
    rw [bg.bS]
    have hn : ¬ (i : Int) < W.length := by omega
    refine Pu.tX hn ?_
    rw [List.drop_of_length_le (by omega)]
    rfl
  | m + 1, j + 1, i, P, Q, hi, hj, h => by
    have hlt : i < W.length := by omega
    have hn : (i : Int) < W.length := by omega
    have hxi := hx _ (List.getElem_mem hlt)
    rw [← Pu.aB hlt 0] at hxi
    obtain ⟨s1, _, _⟩ := h.step hxi (by omega)
    have ih := bg.loop (x4 := x4) (x5 := x5) (x6 := x6) (x7 := x7) hk hW hx m j (i + 1) (Pu.cn P (W.getD i 0)).1 (Pu.iW Q (Pu.cn P (W.getD i 0)).2 ((i + 1 : Nat) : Int)) (by omega) (by omega) s1
    have hP := Pu.pk (Pu.Al h (by omega))
    have hQ := Pu.pk h.pl
    have hP1 : P.length ≤ 9 := hP.1
    have hQ1 : Q.length ≤ 9 := hQ.1
    have hins := bz.is (k := k) (inner := []) (x := W.getD i 0) (rows := P) (by omega) (by omega) (fun r hr => by have := hP.2 r hr; omega)
    have ha := (Pu.vD P (W.getD i 0)).1
    rw [h.same.1] at ha
    have hup : (Pu.lk W.length).getD i 0 = ((i + 1 : Nat) : Int) := by
      rw [Pu.aB (by rw [Pu.mj]; exact hlt)]
      simp only [Pu.lk, List.getElem_map, List.getElem_range]
      omega
    have hul : i < (Pu.lk W.length).length := by rw [Pu.mj]; exact hlt
    rw [bg.bS, Pu.drop_cons hlt 0]
    show _ = some (([], Pu.j9 (W.drop (i + 1)) (Pu.cn P (W.getD i 0)).1), ([], Pu.Ci (W.drop (i + 1)) (Pu.cn P (W.getD i 0)).1 (Pu.iW Q (Pu.cn P (W.getD i 0)).2 ((i + 1 : Nat) : Int)) (i + 1)))
    rw [← ih]
    simp only [aE, aC, aD, bh, Int.toNat_natCast]
    refine Pu.tG hn (Pu.tG (Int.natCast_nonneg i) (Pu.tG hlt (Pu.tG hlt (Pu.bE hins ?_))))
    simp only
    have hq9 : ∀ r, (Q.getD r []).length ≤ 9 := fun r => hQ.at r
    generalize (Pu.cn P (W.getD i 0)).2 = a at *
    unfold Pu.iW
    by_cases c : a = Q.length
    · have hc : ((a : Nat) : Int) = (Q.length : Int) := by omega
      have hap : (Q ++ [[]]).length ≤ 1099511627776 := by rw [List.length_append, List.length_singleton]; omega
      have hF : ∀ r, ((Q ++ [[]]).getD r []).length ≤ 1000 := fun r => by
        by_cases hr : r < Q.length
        · simp only [List.getD_eq_getElem?_getD, List.getElem?_append_left hr]
          have := hq9 r
          simp only [List.getD_eq_getElem?_getD] at this
          omega
        · simp only [List.getD_eq_getElem?_getD, List.getElem?_append_right (Nat.le_of_not_lt hr)]
          cases r - Q.length <;> simp
      refine Pu.tG hc (Pu.tG hap ?_)
      simp only [aJ]
      rw [bg.add hul hup (by rw [List.length_append, List.length_singleton]; omega) hF (by omega), if_pos c]
      congr 1
      rw [c]
      simp
    · have hc : ¬ ((a : Nat) : Int) = (Q.length : Int) := by omega
      refine Pu.tX hc ?_
      rw [bg.add hul hup (by omega) (fun r => by have := hq9 r; omega) (by omega), if_neg c]
theorem bg.is {k : Nat} {W : List Int} (hk : 4194304 + 30 ≤ k) (h : Pu.isWord W = true) : bg k W (Pu.lk W.length) = some (([], Pu.j9 W []), ([], Pu.Ci W [] [] 0)) := by
  obtain ⟨k, rfl⟩ : ∃ k', k = k' + 1 := ⟨k - 1, by omega⟩
  obtain ⟨h1, h2⟩ := Pu.nO h
  have hl := bg.loop (k := k) (x4 := []) (x5 := []) (x6 := []) (x7 := []) (by omega) h1 h2 W.length k 0 [] [] (by omega) (by omega) Pu.Ins.nil
  rw [Int.natCast_zero, List.drop_zero] at hl
  rw [bg.eq]
  exact hl
theorem eI.is {k : Nat} {w : List Int} (hk : 4194304 + 40 ≤ k) (hw : w.length ≤ 1048576) : eI k w = some (Pu.mG w) := by
  obtain ⟨k, rfl⟩ : ∃ k', k = k' + 1 := ⟨k - 1, by omega⟩
  have h1 := gU.is (k := k) (w := w) (by omega) hw
  rw [eI.eq]
  unfold Pu.mG
  refine Pu.bE h1 ?_
  cases c : Pu.isWord w with
  | false => exact Pu.tM rfl
  | true =>
    have h9 := (Pu.nO c).1
    exact Pu.tN (Pu.bE (dP.is (n := w.length) (by omega) (by omega)) (Pu.bE (bg.is (by omega) c) rfl))
theorem bc.last {k : Nat} {u : Pu.Tab} (hk : 4194304 + 90 ≤ k) (hu : Pu.lN u) : bc.J3 k (Pu.cN u).2 u.1 u.2 (Pu.cN u).1.1 (Pu.cN u).1.2 = some true := by
  rw [bc.jd]
  have hrw := bH.is (k := k) (t := u) (by omega) hu.1 hu.2.1 hu.2.2
  refine Pu.bE hrw ?_
  by_cases hb : Pu.cz u = true
  · rw [if_pos hb]
    have hw := Pu.xn hb
    have h9 := (Pu.nO hw).1
    have hiw := eI.is (k := k) (w := Pu.ju u) (by omega) (by omega)
    rw [Pu.AJ hb] at hiw
    refine Pu.bE hiw ?_
    have e2 : (Pu.cN u).2 = true := by unfold Pu.cN; rw [if_pos hb]
    have hr := Pu.wg (t := u)
    have he := aW.is (k := k) (a := (Pu.cN u).1) (b := (Pu.cN u).1) (by omega) hr.1 hr.2.1 hr.2.2
    rw [decide_eq_true rfl] at he
    rw [e2]
    exact Pu.tN (Pu.tY (Pu.bE he rfl))
  · rw [if_neg hb]
    have e2 : (Pu.cN u).2 = false := by unfold Pu.cN; rw [if_neg hb]
    rw [e2]
    exact Pu.bE (eI.is (by omega) (by simp)) (Pu.tM rfl)
theorem bc.out {k : Nat} {u d : Pu.Tab} {n : Int} (hk : 4194304 + 90 ≤ k) (hu : Pu.lN u) (hd : Pu.lN d) :
    bc.J2 k n (Pu.dL d n).2.1 (Pu.dL d n).2.2 (Pu.cN u).2 d.1 d.2 (Pu.dL d n).1.1 (Pu.dL d n).1.2 u.1 u.2 (Pu.cN u).1.1 (Pu.cN u).1.2 = some true := by
  rw [bc.j8]
  have hl := bc.last hk hu
  by_cases c : Pu.cz d = true ∧ (Pu.dy (Pu.outer d) n).2 = true
  · obtain ⟨hb, hc⟩ := c
    have e : Pu.dL d n = ((Pu.cU d n.toNat).1, ((Pu.cU d n.toNat).2 : Int), true) := by unfold Pu.dL; rw [if_pos ⟨hb, hc⟩]
    obtain ⟨m, rfl, p, hp⟩ := Pu.mK hc
    rw [Int.toNat_natCast] at e
    obtain ⟨b1, b2, b3⟩ := Pu.y6 hb hp
    have ht := Pu.zT hb hp
    obtain ⟨z1, z2⟩ := Pu.gH ht
    have zl := z2.1
    have hin := au.is (k := k) (t := (Pu.cU d m).1) (n := (Pu.cU d m).2) (by omega) ht b1 b2
    rw [b3] at hin
    have he := aW.is (k := k) (a := d) (b := d) (by omega) hd.1 hd.2.1 hd.2.2
    rw [decide_eq_true rfl] at he
    rw [e]
    exact Pu.tY (Pu.bE hin (Pu.tN (Pu.tE rfl (Pu.bE he (Pu.tN hl)))))
  · have e : Pu.dL d n = (([], []), 0, false) := by unfold Pu.dL; rw [if_neg c]
    rw [e]
    exact Pu.tF hl
theorem bc.D5 {k : Nat} {t u d : Pu.Tab} {r n : Int} (hk : 4194304 + 90 ≤ k) (hu : Pu.lN u) (hd : Pu.lN d) (ht : Pu.lN t) :
    bc.J0 k r (Pu.dY t r).2.1 (Pu.dY t r).2.2 n (Pu.dL d n).2.1 (Pu.dL d n).2.2 (Pu.cN u).2 t.1 t.2 (Pu.dY t r).1.1 (Pu.dY t r).1.2 d.1 d.2 (Pu.dL d n).1.1 (Pu.dL d n).1.2 u.1 u.2 (Pu.cN u).1.1 (Pu.cN u).1.2 = some true := by
  rw [bc.fC]
  have hl := bc.out (n := n) hk hu hd
  by_cases c : Pu.cz t = true ∧ Pu.has (Pu.fU t.1) r = true
  · obtain ⟨hb, hc⟩ := c
    have e : Pu.dY t r = ((Pu.cf t r.toNat).1, ((Pu.cf t r.toNat).2 : Int), true) := by unfold Pu.dY; rw [if_pos ⟨hb, hc⟩]
    obtain ⟨_, m, rfl, h3, h4⟩ := Pu.lE (Pu.kz.1 hc)
    rw [Int.toNat_natCast] at e
    have hs := Pu.gI hb h3 h4
    obtain ⟨z1, z2⟩ := Pu.gH hs
    have zl := z2.1
    have zr : ∀ x ∈ (Pu.cf t m).1.2, x.length ≤ 1048576 := fun x hx => by have := z2.2 x hx; omega
    obtain ⟨u1, u2⟩ := Pu.vP hb h3 h4
    have hso := an.all (k := k) (t := (Pu.cf t m).1) (n := ((Pu.cf t m).2 : Int)) (by omega) (by omega) (by omega) zr
    have e2 : Pu.dL (Pu.cf t m).1 ((Pu.cf t m).2 : Int) = (t, (m : Int), true) := by
      unfold Pu.dL
      rw [if_pos ⟨hs, by rw [u1]⟩, Int.toNat_natCast, u2]
    rw [e2] at hso
    have hit := aT.is (k := k) (t := (Pu.cf t m).1) (by omega) (by omega) (by omega) zr
    rw [hs] at hit
    have he := aW.is (k := k) (a := t) (b := t) (by omega) ht.1 ht.2.1 ht.2.2
    rw [decide_eq_true rfl] at he
    have h5 := cy.is (k := k) (t := (Pu.cf t m).1) (by omega) (by omega) (by omega) zr
    have h6 := cy.is (k := k) (t := t) (by omega) ht.1 ht.2.1 ht.2.2
    rw [Pu.yW hb h3 h4] at h5
    have hr := Pu.wg (t := t)
    have h7 := aW.is (k := k) (a := (Pu.cN t).1) (b := (Pu.cN t).1) (by omega) hr.1 hr.2.1 hr.2.2
    rw [decide_eq_true rfl] at h7
    have e3 : (Pu.cN t).2 = true := by unfold Pu.cN; rw [if_pos hb]
    rw [e]
    refine Pu.tY (Pu.bE hso (Pu.bE hit (Pu.tN (Pu.tN (Pu.tE rfl (Pu.bE he (Pu.tN ?_)))))))
    rw [bc.eP]
    refine Pu.bE h5 (Pu.bE h6 ?_)
    rw [e3]
    exact Pu.tN (Pu.tN (Pu.bE h7 (Pu.tN hl)))
  · have e : Pu.dY t r = (([], []), 0, false) := by unfold Pu.dY; rw [if_neg c]
    rw [e]
    exact Pu.tF hl
theorem bc.at {k : Nat} {p : List Int} (hk : 4194304 + 90 ≤ k) : bc (k + 1) p = some true := by
  rw [bc.eq]
  refine Pu.bE (kR.is (by omega)) ?_
  by_cases c : (1048576 : Int) < p.length
  · rw [decide_eq_true c]; exact Pu.tY rfl
  · rw [decide_eq_false c]
    have hp : p.length ≤ 1048576 := by omega
    obtain ⟨⟨t, r⟩, e1, ht⟩ := dW.ok (k := k) (b := p) (by omega) hp
    obtain ⟨⟨d, n⟩, e2, hd⟩ := eE.ok (k := k) (b := p) (by omega) hp
    obtain ⟨u, e3, hu⟩ := bj.ok (k := k) (b := p) (by omega) hp
    have ht : nL 10 9 10 t := ht
    have hd : nL 10 9 10 d := hd
    obtain ⟨a1, a2, a3⟩ := ht.tab (by omega) (by omega) (by omega)
    obtain ⟨b1, b2, b3⟩ := hd.tab (by omega) (by omega) (by omega)
    obtain ⟨c1, c2, c3⟩ := hu.tab (by omega) (by omega) (by omega)
    have a4 := ht.1
    have b4 := hd.1
    have b5 := hd.2.1
    have c4 := hu.1
    have f1 := au.all (k := k) (t := t) (n := r) (by omega) (by omega) a2 a3
    have f2 := dt.is (k := k) (t := t) (n := r) (by omega) (by omega) a2 a3
    have f3 := an.all (k := k) (t := d) (n := n) (by omega) (by omega) (by omega) b3
    have f4 := aw.is (k := k) (t := d) (n := n) (by omega) (by omega) (by omega) b3
    have f5 := cy.is (k := k) (t := u) (by omega) c1 c2 c3
    have f6 := cM.is (k := k) (t := u) (by omega) c1 c2 c3
    have g1 := Pu.vO (t := t) (n := r)
    have g2 := Pu.wD (t := d) (n := n)
    have g3 := Pu.wg (t := u)
    have h1 := aW.is (k := k) (a := (Pu.dY t r).1) (b := (Pu.dY t r).1) (by omega) g1.1 g1.2.1 g1.2.2
    have h2 := aW.is (k := k) (a := (Pu.dL d n).1) (b := (Pu.dL d n).1) (by omega) g2.1 g2.2.1 g2.2.2
    have h3 := aW.is (k := k) (a := (Pu.cN u).1) (b := (Pu.cN u).1) (by omega) g3.1 g3.2.1 g3.2.2
    rw [decide_eq_true rfl] at h1 h2 h3
    have i1 := eT.is (k := k) (t := u) (by omega) (by omega) c2 c3
    have i2 := eR.is (k := k) (t := u) (by omega) (by omega) c2 c3
    exact Pu.tF (Pu.bE e1 (Pu.bE f1 (Pu.bE f2 (Pu.bE e2 (Pu.bE f3 (Pu.bE f4 (Pu.bE e3 (Pu.bE f5 (Pu.bE f6 (Pu.tB (Pu.tE rfl (Pu.bE h1 (Pu.tN (Pu.tB (Pu.tE rfl (Pu.bE h2 (Pu.tN (Pu.tB (Pu.bE h3 (Pu.tN (Pu.bE i1 (Pu.bE i2 (Pu.tE rfl
      (bc.D5 (by omega) ⟨c1, c2, c3⟩ ⟨b1, b2, b3⟩ ⟨a1, a2, a3⟩))))))))))))))))))))))))
theorem bc.is {p : List Int} (h1 : p.length ≤ maxLen) : ∃ k, bc k p = some true := ⟨_, bc.at (Nat.le_refl (4194304 + 90))⟩
end Go.Am.Seat
