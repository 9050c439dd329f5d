/- Heads, loops and regions of the machine are sound and determined, whatever the program. -/
import Derived.Test.YtilkippgilnhcaaAmT
import Derived.Laws.Tables
set_option linter.unusedSimpArgs false
set_option linter.unusedVariables false
set_option linter.unnecessarySimpa false
set_option linter.unusedSectionVars false
section
/- Soundness: append's run. -/
namespace Go.Am
noncomputable section
attribute [local instance] D.real
section
variable {P : Program} {w0 : cR} {w w' : World} {st st' : St} {g g' : bn} {born : Nat → Prop} {a : Act} {as acts : List Act} {o : Oper} {base : Nat}
def uB (P : Program) (u : TypeId) : Prop := P.underlying u = some .string ∨ ∃ e, P.underlying u = some (.slice e)
theorem zt {t u ty e : TypeId} {i : TypeInfo} {z x : Value} {b : Option Addr} {n c m : Nat} {news olds : List Value} (hu : P.underlying t = some (.slice e)) (hu2 : uB P u) (hi : P.info? e = some i) (hz : i.zero = some z)
    (hlen : (Builtin.lenOf x).run P w = .ok m w) (hnew : ∀ w2 : World, (∀ ad, w2.cell? ad = w.cell? ad) → (Builtin.firstCells i.size m x).run P w2 = .ok news.toArray w2)
    (hold : ∀ w2 : World, (∀ ad, w2.cell? ad = w.cell? ad) → (Builtin.firstCells i.size n (.slice b n c)).run P w2 = .ok olds.toArray w2)
    (h1 : n + m ≤ lim) (h2 : i.bytes ≤ 128) :
    (n + m ≤ c ∧ (Builtin.append_ #[t, u] ty #[.slice b n c, x]).run P w = (match b with
      | some ad => ((storeCells (ad.add (n * i.size)) news).run P w).andThen fun _ w' => .ok (.slice b (n + m) c) w'
      | none => .ok (.slice none (n + m) c) w)) ∨
    (c < n + m ∧ ∃ cap, n + m ≤ cap ∧ (Builtin.append_ #[t, u] ty #[.slice b n c, x]).run P w =
      .ok (.slice (some ⟨w.heap.size, 0, none⟩) (n + m) cap) (w.drew.alloc (.cells (olds.toArray ++ news.toArray ++ Builtin.zeroCells z.cells (cap - (n + m))) e))) := by
  simp only [lim] at h1
  have hn := hnew w (fun _ => rfl)
  have hnd := hnew w.drew (fun _ => rfl)
  have hod := hold w.drew (fun _ => rfl)
  by_cases hle : n + m ≤ c
  · left
    refine ⟨hle, ?_⟩
    rcases hu2 with hd | ⟨e2, hd⟩
    all_goals
      cases b with
      | some ad => simp [Builtin.append_, aK hu, aK hd, sizeOf, typeInfo, hi, hlen, hle, hn]
      | none => simp [Builtin.append_, aK hu, aK hd, sizeOf, typeInfo, hi, hlen, hle, hn]
  · right
    have hcap : (n + m) ≤ grownCap w (n + m) c e := grownCap_ge w _ _ _
    refine ⟨by omega, grownCap w (n + m) c e, hcap, ?_⟩
    have h63 : ¬ (9223372036854775807 < ((n : Int) + (m : Int))) := by omega
    have h48 : ¬ (281474976710656 < Builtin.nextslicecap (n + m) c * i.bytes) := by
      have : Builtin.nextslicecap (n + m) c * i.bytes ≤ 281474976710656 := growslice_fits (by omega) (by
        have := Nat.mul_le_mul h1 h2; omega)
      omega
    rcases hu2 with hd | ⟨e2, hd⟩
    all_goals
      simp [Builtin.append_, aK hu, aK hd, sizeOf, typeInfo, zeroValue, hi, hz, hlen, hle, h63, h48, Question.forced, hnd, hod, newRow, grownCap]
      congr 2
      apply Array.ext'
      simp
theorem sK (z : Array Value) (n m : Nat) : Builtin.zeroCells z n ++ Builtin.zeroCells z m = Builtin.zeroCells z (n + m) := by
  unfold Builtin.zeroCells
  apply Array.ext
  · simp [Nat.add_mul]
  · intro i h1 h2
    simp only [Array.getElem_map, Array.getElem_range, Array.getElem_append, Array.size_map, Array.size_range]
    split
    · rfl
    · next h =>
      have : (i - n * z.size) % z.size = i % z.size := by
        have e : n * z.size = z.size * n := Nat.mul_comm _ _
        conv => rhs; rw [show i = (i - n * z.size) + z.size * n by omega]
        rw [Nat.add_mul_mod_self_left]
      rw [this]
theorem yT {t u ty e : TypeId} {i : TypeInfo} {z : Value} {k k' : IntKind} {n : Int} (hu : P.underlying t = some (.slice e)) (hd : P.underlying u = some (.int k)) (hi : P.info? e = some i) (hz : i.zero = some z)
    (h1 : 1 ≤ n) (h2 : n.toNat ≤ lim) (h3 : i.bytes ≤ 128) (h4 : 0 < i.size) :
    ∃ cap, n.toNat ≤ cap ∧ (Builtin.append_ #[t, u] ty #[.slice none 0 0, .int k' n]).run P w = .ok (.slice (some ⟨w.heap.size, 0, none⟩) n.toNat cap) (w.drew.alloc (.cells (Builtin.zeroCells z.cells cap) e)) := by
  simp only [lim] at h2
  have hcap : n.toNat ≤ grownCap w n.toNat 0 e := grownCap_ge w _ _ _
  refine ⟨grownCap w n.toNat 0 e, hcap, ?_⟩
  have hw : IntKind.i64.wrap n = n := by rw [IntKind.wrap_i64]; omega
  have hb : n * (i.bytes : Int) ≤ 140737488355328 := by
    have : n.toNat * i.bytes ≤ 1099511627776 * 128 := Nat.mul_le_mul h2 h3
    have h5 : ((n.toNat * i.bytes : Nat) : Int) ≤ 140737488355328 := by omega
    rw [Int.natCast_mul, Int.toNat_of_nonneg (by omega)] at h5
    exact h5
  have h48 : ¬ (281474976710656 < n * (i.bytes : Int)) := by omega
  have h48' : ¬ (281474976710656 < Builtin.nextslicecap n.toNat 0 * i.bytes) := by
    have : Builtin.nextslicecap n.toNat 0 * i.bytes ≤ 281474976710656 := growslice_fits (by omega) (by
      have := Nat.mul_le_mul h2 h3; omega)
    omega
  have hn0 : ¬ n < 0 := by omega
  have hns : ¬ (n.toNat * i.size = 0) := by
    have := Nat.mul_pos (show 0 < n.toNat by omega) h4
    omega
  have hnz : ¬ (n ≤ 0) := by omega
  have h63 : ¬ (9223372036854775807 < max n 0) := by omega
  have hf : ∀ w2 : World, (Builtin.firstCells i.size 0 (.slice none 0 0)).run P w2 = .ok #[] w2 := fun w2 => run_firstCells_none w2 _ _ _ _
  unfold grownCap at hcap ⊢
  simp [Builtin.append_, aK hu, aK hd, sizeOf, typeInfo, zeroValue, hi, hz, hw, hn0, h48, h48', hns, hnz, h63, asInt, asIntOf, hf, Question.forced, newRow, sK, Nat.add_sub_cancel' hcap]
end
end
end Go.Am
end
section
/- Soundness: rows appended to. -/
namespace Go.Am
noncomputable section
attribute [local instance] D.real
section
variable {P : Program} {w0 : cR} {w w' : World} {st st' : St} {g g' : bn} {born : Nat → Prop} {a : Act} {as acts : List Act} {o : Oper} {base : Nat}
def ui (v : Value) (G : Nat → Nat → Path → Value) : Path → Value
  | [] => v
  | (i, f) :: q => G i f q
theorem fT {α : Type} {xs zs : List α} {i : Nat} {y : α} (h : (xs ++ zs)[i]? = some y) : (i < xs.length ∧ xs[i]? = some y) ∨ (xs.length ≤ i ∧ zs[i - xs.length]? = some y) := by
  rcases Nat.lt_or_ge i xs.length with h1 | h1
  · rw [List.getElem?_append_left h1] at h; exact .inl ⟨h1, h⟩
  · rw [List.getElem?_append_right h1] at h; exact .inr ⟨h1, h⟩
def lk (n : Nat) (G1 G2 : Nat → Nat → Path → Value) : Nat → Nat → Path → Value := fun i => if i < n then G1 i else G2 (i - n)
theorem ke {n i : Nat} {G1 G2 : Nat → Nat → Path → Value} (h : i < n) : lk n G1 G2 i = G1 i := by simp [lk, h]
theorem jT {n i : Nat} {G1 G2 : Nat → Nat → Path → Value} (h : n ≤ i) : lk n G1 G2 i = G2 (i - n) := by simp [lk, Nat.not_lt.2 h]
theorem l7.join {rw : Bool} {e : Ty} {xs zs : List (den e)} {G1 G2 : Nat → Nat → Path → Value} {c1 c2 : List Value} (h1 : l7 w rw e xs G1 c1) (h2 : l7 w rw e zs G2 c2) :
    l7 w rw e (xs ++ zs) (lk xs.length G1 G2) (c1 ++ c2) := by
  refine ⟨by rw [List.length_append, h1.len, h2.len, List.length_append, Nat.add_mul], fun v hv => (List.mem_append.1 hv).elim (h1.one v) (h2.one v), fun i x hi => ?_⟩
  rcases fT hi with ⟨hlt, hi⟩ | ⟨hge, hi⟩
  · rw [ke hlt]
    refine fq e x _ 0 _ _ (fun b _ => rfl) (fun f _ hf => ?_) (h1.rep i x hi)
    have : (i + 1) * e.size ≤ xs.length * e.size := Nat.mul_le_mul_right _ hlt
    rw [Nat.add_mul] at this
    show (c1 ++ c2)[i * e.size + f]? = c1[i * e.size + f]?
    rw [List.getElem?_append_left (by rw [h1.len]; omega)]
  · rw [jT hge]
    refine fq e x _ 0 _ _ (fun b _ => rfl) (fun f _ hf => ?_) (h2.rep (i - xs.length) x hi)
    have : xs.length * e.size ≤ i * e.size := Nat.mul_le_mul_right _ hge
    show (c1 ++ c2)[i * e.size + f]? = c2[(i - xs.length) * e.size + f]?
    rw [List.getElem?_append_right (by rw [h1.len]; omega), h1.len, Nat.sub_mul]
    congr 1; omega
theorem og {e : Ty} {ys : List (den e)} {G : Nat → Nat → Path → Value} {cells : List Value} (h : l7 w true e ys G cells) {ad : Addr} {cap n : Nat} (hn : n = ys.length) (hle : ys.length ≤ cap)
    (hblk : cap ≠ 0 → ad.spot = none ∧ ∃ arr te, w'.heap[ad.block]? = some (.cells arr te (0, 0)) ∧ ad.off + cap * e.size ≤ arr.size)
    (hc : ∀ k u, cells[k]? = some u → w'.cell? (ad.add k) = some u) (hch : ∀ i x b, ys[i]? = some x → Blk e x (G i) 0 b → w'.heap[b]? = w.heap[b]?) :
    cf w' true e ys (ui (.slice (some ad) n cap) G) := by
  subst hn
  refine .inr ⟨ad, cap, rfl, hle, fun _ hc => hblk hc, fun i x hi => ?_⟩
  refine fq e x _ 0 _ _ (fun b hb => hch i x b hi hb) (fun f _ hf => ?_) (h.rep i x hi)
  have hil : i < ys.length := by
    rcases Nat.lt_or_ge i ys.length with h | h
    · exact h
    · rw [List.getElem?_eq_none h] at hi; cases hi
  have : (i + 1) * e.size ≤ ys.length * e.size := Nat.mul_le_mul_right _ hil
  rw [Nat.add_mul] at this
  have hk : i * e.size + f < cells.length := by rw [h.len]; omega
  have := hc (i * e.size + f) cells[i * e.size + f] (List.getElem?_eq_getElem hk)
  rw [this, List.getElem?_eq_getElem hk]
structure Old (w : World) (e : Ty) (xs : List (den e)) (v : Value) (G : Nat → Nat → Path → Value) (olds : List Value) (B : Nat → Prop) : Prop where
  val : ∃ b c, v = .slice b xs.length c ∧ xs.length ≤ c ∧ (b = none → xs = [] ∧ c = 0)
  el : l7 w true e xs G olds
  cell : ∀ ad n c, v = .slice (some ad) n c → ∀ k u, olds[k]? = some u → w.cell? (ad.add k) = some u
  room : ∀ ad n c, v = .slice (some ad) n c → c ≠ 0 → ad.spot = none ∧ ∃ arr te, w.heap[ad.block]? = some (.cells arr te (0, 0)) ∧ ad.off + c * e.size ≤ arr.size
  blk : ∀ i x b, xs[i]? = some x → Blk e x (G i) 0 b → B b
  own : ∀ ad n c i x, v = .slice (some ad) n c → c ≠ 0 → xs[i]? = some x → ¬ Blk e x (G i) 0 ad.block
  cross : ∀ i j x y b, i ≠ j → xs[i]? = some x → xs[j]? = some y → Blk e x (G i) 0 b → Blk e y (G j) 0 b → False
  sep : ∀ i x, xs[i]? = some x → Sep e x (G i) 0
  lt : ∀ b, B b → b < w.heap.size
def pk (v : Value) (b : Nat) : Prop := ∃ ad n c, v = .slice (some ad) n c ∧ c ≠ 0 ∧ ad.block = b
theorem rB {e : Ty} {xs zs : List (den e)} {v x : Value} {G1 G2 : Nat → Nat → Path → Value} {olds news : List Value} {B : Nat → Prop} {l : List Nat} {t u ty te : TypeId} {i : TypeInfo} {z : Value}
    (O : Old w e xs v G1 olds B) (S : Src P st g w e x zs l G2 news) (hu : P.underlying t = some (.slice te)) (hu2 : uB P u) (hi : P.info? te = some i) (hz : i.zero = some z) (hsz : i.size = e.size) (hby : i.bytes ≤ 128) (hzs : z.cells.size = e.size)
    (hl : ∀ r ∈ l, ∀ b, Own st.get g r b → b < w.heap.size ∧ ¬ B b ∧ ¬ pk v b) (hlen : xs.length + zs.length ≤ lim) :
    ∃ v' w' G', (Builtin.append_ #[t, u] ty #[v, x]).run P w = .ok v' w' ∧ (∃ b c, v' = .slice b (xs ++ zs).length c) ∧ cf w' true e (xs ++ zs) (ui v' G') ∧ dj e (xs ++ zs) (ui v' G') ∧
      (∀ b, bN e (xs ++ zs) (ui v' G') b → w.heap.size ≤ b ∨ pk v b ∨ B b ∨ ∃ r ∈ l, Own st.get g r b) ∧
      (w'.os = w.os ∧ w'.tape = w.tape ∧ w'.output = w.output ∧ w.heap.size ≤ w'.heap.size ∧ ∀ b, b < w.heap.size → w'.heap[b]? = w.heap[b]? ∨ pk v b) ∧
      (∀ ad n c, v = .slice (some ad) n c → c ≠ 0 → ∃ arr arr' te, w.heap[ad.block]? = some (.cells arr te (0, 0)) ∧ w'.heap[ad.block]? = some (.cells arr' te (0, 0)) ∧ arr'.size = arr.size ∧ ∀ k, k < xs.length * e.size → w'.cell? (ad.add k) = w.cell? (ad.add k)) := by
  obtain ⟨b, c, hv, hxc, hbn⟩ := O.val
  have hold : ∀ w2 : World, (∀ ad, w2.cell? ad = w.cell? ad) → (Builtin.firstCells i.size xs.length v).run P w2 = .ok olds.toArray w2 := by
    intro w2 h2
    rw [hsz]
    refine tw O.el.len ?_ (fun ad n c e k u hk => by rw [h2]; exact O.cell ad n c e k u hk)
    cases b with
    | none => obtain ⟨h3, h4⟩ := hbn rfl; subst h3; subst h4; exact .inl ⟨hv, rfl⟩
    | some ad => exact .inr ⟨ad, c, by rw [hv]⟩
  rw [hv] at hold
  have hrun := zt (P := P) (w := w) (t := t) (u := u) (ty := ty) (b := b) (n := xs.length) (c := c) (m := zs.length) hu hu2 hi hz S.len (by rw [hsz]; exact S.cells) hold hlen hby
  rw [← hv] at hrun
  have hjoin := O.el.join S.el
  have hch : ∀ i y bl, (xs ++ zs)[i]? = some y → Blk e y (lk xs.length G1 G2 i) 0 bl → (B bl ∨ ∃ r ∈ l, Own st.get g r bl) ∧ bl < w.heap.size ∧ ¬ pk v bl := by
    intro i y bl hi hb
    rcases fT hi with ⟨hlt, hi⟩ | ⟨hge, hi⟩
    · rw [ke hlt] at hb
      have h1 := O.blk i y bl hi hb
      refine ⟨.inl h1, O.lt bl h1, ?_⟩
      rintro ⟨ad, n, c', h2, h3, rfl⟩
      exact O.own ad n c' i y h2 h3 hi hb
    · rw [jT hge] at hb
      obtain ⟨r, hr, ho⟩ := S.blk _ y bl hi hb
      exact ⟨.inr ⟨r, hr, ho⟩, (hl r hr bl ho).1, (hl r hr bl ho).2.2⟩
  have hcross : ∀ i j x y bl, i ≠ j → (xs ++ zs)[i]? = some x → (xs ++ zs)[j]? = some y → Blk e x (lk xs.length G1 G2 i) 0 bl → Blk e y (lk xs.length G1 G2 j) 0 bl → False := by
    intro i j x y bl hij hi hj hb hb'
    rcases fT hi with ⟨hlt, hi⟩ | ⟨hge, hi⟩
    · rcases fT hj with ⟨hlt', hj⟩ | ⟨hge', hj⟩
      · rw [ke hlt] at hb; rw [ke hlt'] at hb'
        exact O.cross i j x y bl hij hi hj hb hb'
      · rw [ke hlt] at hb; rw [jT hge'] at hb'
        obtain ⟨r, hr, ho⟩ := S.blk _ y bl hj hb'
        exact (hl r hr bl ho).2.1 (O.blk i x bl hi hb)
    · rcases fT hj with ⟨hlt', hj⟩ | ⟨hge', hj⟩
      · rw [jT hge] at hb; rw [ke hlt'] at hb'
        obtain ⟨r, hr, ho⟩ := S.blk _ x bl hi hb
        exact (hl r hr bl ho).2.1 (O.blk j y bl hj hb')
      · rw [jT hge] at hb; rw [jT hge'] at hb'
        exact S.cross _ _ x y bl (by omega) hi hj hb hb'
  have hsepE : ∀ i x, (xs ++ zs)[i]? = some x → Sep e x (lk xs.length G1 G2 i) 0 := by
    intro i x hi
    rcases fT hi with ⟨hlt, hi⟩ | ⟨hge, hi⟩
    · rw [ke hlt]; exact O.sep i x hi
    · rw [jT hge]; exact S.sep _ x hi
  have hsep : ∀ v', (∀ ad n c i x, v' = .slice (some ad) n c → c ≠ 0 → (xs ++ zs)[i]? = some x → ¬ Blk e x (lk xs.length G1 G2 i) 0 ad.block) → dj e (xs ++ zs) (ui v' (lk xs.length G1 G2)) :=
    fun v' h => ⟨fun ad n c i x h1 h2 h3 => h ad n c i x h1 h2 h3, fun i j x y b hij hi hj hb hb' => hcross i j x y b hij hi hj hb hb', fun i x hi => hsepE i x hi⟩
  have hllen : (xs ++ zs).length = xs.length + zs.length := List.length_append
  rcases hrun with ⟨hle, hrun⟩ | ⟨hgt, cap, hcap, hrun⟩
  ·
    cases b with
    | none =>
      obtain ⟨h3, h4⟩ := hbn rfl
      subst h3; subst h4
      have h5 : zs = [] := by
        have : zs.length = 0 := by simpa using hle
        exact List.length_eq_zero_iff.1 this
      subst h5
      refine ⟨_, w, fun _ _ _ => Go.undef, hrun, ⟨_, _, rfl⟩, .inl ⟨rfl, rfl⟩, ⟨fun aa n c i x h _ hx => by simp at hx, fun i j x y b _ h _ => by simp at h, fun i x h => by simp at h⟩, ?_, ⟨rfl, rfl, rfl, Nat.le_refl _, fun _ _ => .inl rfl⟩, fun ad n c h => by rw [hv] at h; cases h⟩
      rintro b (⟨aa, n, c, h, _, _⟩ | ⟨i, x, h, _⟩)
      · cases h
      · simp at h
    | some ad =>
      simp only at hrun
      by_cases hc0 : c = 0
      ·
        subst hc0
        have h3 : xs = [] := List.length_eq_zero_iff.1 (by omega)
        have h5 : zs = [] := List.length_eq_zero_iff.1 (by omega)
        subst h3; subst h5
        have hn : news = [] := List.length_eq_zero_iff.1 (by have := S.el.len; simpa using this)
        subst hn
        have hrun' : (Builtin.append_ #[t, u] ty #[v, x]).run P w = .ok (.slice (some ad) 0 0) w := by
          rw [hrun]; simp [storeCells]
        refine ⟨_, w, fun _ _ _ => Go.undef, hrun', ⟨_, _, rfl⟩, .inr ⟨ad, 0, rfl, Nat.le_refl _, fun _ h => absurd rfl h, fun i x h => by simp at h⟩, ⟨fun aa n c i x h _ hx => by simp at hx, fun i j x y b _ h _ => by simp at h, fun i x h => by simp at h⟩, ?_, ⟨rfl, rfl, rfl, Nat.le_refl _, fun _ _ => .inl rfl⟩, fun ad' n c h hc => ?_⟩
        · rintro b (⟨aa, n, c, h, hc, _⟩ | ⟨i, x, h, _⟩)
          · injection h with _ _ h; omega
          · simp at h
        · rw [hv] at h; injection h with _ _ h; omega
      · obtain ⟨hsp, arr, te', hheap, harr⟩ := O.room ad _ c hv hc0
        have had : ad = ⟨ad.block, ad.off, none⟩ := by cases ad; simp only at hsp; subst hsp; rfl
        have hadd : ∀ k, ad.add k = ⟨ad.block, ad.off + k, none⟩ := by
          intro k
          rw [had, Addr.add_lit]
        have hnl : news.length = zs.length * e.size := S.el.len
        have hfit : ad.off + xs.length * e.size + 0 + news.length ≤ arr.size := by
          have : (xs.length + zs.length) * e.size ≤ c * e.size := Nat.mul_le_mul_right _ hle
          rw [Nat.add_mul] at this
          omega
        have hst := run_storeCells_at P ad.block (ad.off + xs.length * e.size) te' news 0 arr w hheap hfit S.el.one
        rw [← hadd (xs.length * e.size), ← hsz] at hst
        rw [hst] at hrun
        simp only [Result.andThen_ok, Nat.add_zero] at hrun
        rw [hsz] at hrun
        have hdl : (arr.toList.drop (ad.off + xs.length * e.size + news.length)).length = arr.size - (ad.off + xs.length * e.size + news.length) := by simp
        have hnew : (w.setRow ad.block (arr.toList.take (ad.off + xs.length * e.size) ++ news ++ arr.toList.drop (ad.off + xs.length * e.size + news.length)).toArray).heap[ad.block]? = some (.cells (arr.toList.take (ad.off + xs.length * e.size) ++ news ++ arr.toList.drop (ad.off + xs.length * e.size + news.length)).toArray te' (0, 0)) :=
          setRow_heap w ad.block arr _ te' (0, 0) hheap
        have hsize : (arr.toList.take (ad.off + xs.length * e.size) ++ news ++ arr.toList.drop (ad.off + xs.length * e.size + news.length)).toArray.size = arr.size := by
          simp only [List.size_toArray, List.length_append, List.length_take, List.length_drop, Array.length_toList]; omega
        have htl : (arr.toList.take (ad.off + xs.length * e.size)).length = ad.off + xs.length * e.size := by simp only [List.length_take, Array.length_toList]; omega
        have hcells : ∀ k, (w.setRow ad.block (arr.toList.take (ad.off + xs.length * e.size) ++ news ++ arr.toList.drop (ad.off + xs.length * e.size + news.length)).toArray).cell? (ad.add k) =
            (arr.toList.take (ad.off + xs.length * e.size) ++ news ++ arr.toList.drop (ad.off + xs.length * e.size + news.length))[ad.off + k]? := by
          intro k
          rw [hadd, cell_of_row _ _ _ _ _ _ hnew]; simp
        have hcold : ∀ k, w.cell? (ad.add k) = arr.toList[ad.off + k]? := by
          intro k
          rw [hadd, cell_of_row _ _ _ _ _ _ hheap]; simp
        have hlow : ∀ k, k < xs.length * e.size → (w.setRow ad.block (arr.toList.take (ad.off + xs.length * e.size) ++ news ++ arr.toList.drop (ad.off + xs.length * e.size + news.length)).toArray).cell? (ad.add k) = w.cell? (ad.add k) := by
          intro k hk
          rw [hcells, hcold, List.append_assoc, List.getElem?_append_left (by omega), List.getElem?_take, if_pos (by omega)]
        refine ⟨_, _, lk xs.length G1 G2, hrun, ⟨_, _, by rw [hllen]⟩, ?_, hsep _ ?_, ?_, ⟨rfl, rfl, rfl, by simp, fun b _ => ?_⟩, fun ad' n' c' h hc => ?_⟩
        · refine og hjoin hllen.symm (by rw [hllen]; exact hle) (fun _ => ⟨hsp, _, _, hnew, by rw [hsize]; exact harr⟩) (fun k u hk => ?_) (fun i y bl hi hb => ?_)
          · rcases Nat.lt_or_ge k (xs.length * e.size) with h | h
            · rw [hlow k h]
              rw [List.getElem?_append_left (by rw [O.el.len]; exact h)] at hk
              exact O.cell ad _ c hv k u hk
            · rw [hcells, List.append_assoc, List.getElem?_append_right (by omega), htl]
              rw [List.getElem?_append_right (by rw [O.el.len]; exact h), O.el.len] at hk
              have hk2 : k - xs.length * e.size < news.length := by
                rcases Nat.lt_or_ge (k - xs.length * e.size) news.length with h | h
                · exact h
                · rw [List.getElem?_eq_none h] at hk; cases hk
              rw [List.getElem?_append_left (by omega)]
              rw [← hk]; congr 1; omega
          · refine setRow_other w ad.block bl _ fun e' => (hch i y bl hi hb).2.2 ⟨ad, _, c, hv, hc0, e'.symm⟩
        · intro ad' n' c' i y h _ hi hb
          injection h with h _ _
          injection h with h
          subst h
          exact (hch i y _ hi hb).2.2 ⟨ad, _, c, hv, hc0, rfl⟩
        · rintro bl (⟨aa, n, c', h, hc, rfl⟩ | ⟨i, y, hi, hb⟩)
          · injection h with h _ h'
            injection h with h
            subst h
            exact .inr (.inl ⟨ad, _, c, hv, hc0, rfl⟩)
          · exact .inr (.inr (hch i y bl hi hb).1)
        · by_cases e' : b = ad.block
          · exact .inr ⟨ad, _, c, hv, hc0, e'.symm⟩
          · exact .inl (setRow_other w ad.block b _ e')
        · rw [hv] at h
          injection h with h _ h'
          injection h with h
          subst h
          exact ⟨arr, _, te', hheap, hnew, hsize, hlow⟩
  ·
    have hnl : news.length = zs.length * e.size := S.el.len
    have hol : olds.length = xs.length * e.size := O.el.len
    have hzc : (Builtin.zeroCells z.cells (cap - (xs.length + zs.length))).size = (cap - (xs.length + zs.length)) * e.size := by rw [size_zeroCells, hzs]
    have hsize : (olds.toArray ++ news.toArray ++ Builtin.zeroCells z.cells (cap - (xs.length + zs.length))).size = cap * e.size := by
      simp only [Array.size_append, List.size_toArray, hzc, hnl, hol]
      rw [← Nat.add_mul, ← Nat.add_mul]
      congr 1; omega
    have hheap : (w.drew.alloc (.cells (olds.toArray ++ news.toArray ++ Builtin.zeroCells z.cells (cap - (xs.length + zs.length))) te)).heap[w.heap.size]? = some (.cells (olds.toArray ++ news.toArray ++ Builtin.zeroCells z.cells (cap - (xs.length + zs.length))) te (0, 0)) := heap_alloc_new w.drew _
    have hframe : ∀ b, b < w.heap.size → (w.drew.alloc (.cells (olds.toArray ++ news.toArray ++ Builtin.zeroCells z.cells (cap - (xs.length + zs.length))) te)).heap[b]? = w.heap[b]? := fun b hb => RowKit.Below.heap_alloc w.drew _ b hb
    have hhead : ∀ ad n c', v = .slice (some ad) n c' → c' ≠ 0 → ad.block < w.heap.size := by
      intro ad n c' h1 h2
      obtain ⟨_, arr, te', h3, _⟩ := O.room ad n c' h1 h2
      exact (Array.getElem?_eq_some_iff.1 h3).1
    refine ⟨_, _, lk xs.length G1 G2, hrun, ⟨_, _, by rw [hllen]⟩, ?_, hsep _ ?_, ?_, ⟨rfl, rfl, rfl, by simp, fun b hb => .inl (hframe b hb)⟩, fun ad' n' c' h hc => ?_⟩
    · refine og hjoin hllen.symm (by rw [hllen]; exact hcap) (fun _ => ⟨rfl, _, _, hheap, by rw [hsize]; simp⟩) (fun k u hk => ?_) (fun i y bl hi hb => hframe bl (hch i y bl hi hb).2.1)
      rw [Addr.add_lit, Nat.zero_add, cell_of_row _ _ _ _ _ _ hheap]
      have hk2 : k < (olds ++ news).length := by
        rcases Nat.lt_or_ge k (olds ++ news).length with h | h
        · exact h
        · rw [List.getElem?_eq_none h] at hk; cases hk
      rw [Array.getElem?_append_left (by simpa using hk2)]
      simpa using hk
    · intro ad' n' c' i y h _ hi hb
      injection h with h _ _
      injection h with h
      subst h
      have := (hch i y _ hi hb).2.1
      simp at this
    · rintro bl (⟨aa, n, c', h, hc, rfl⟩ | ⟨i, y, hi, hb⟩)
      · injection h with h _ h'
        injection h with h
        subst h
        exact .inl (Nat.le_refl _)
      · exact .inr (.inr (hch i y bl hi hb).1)
    · obtain ⟨_, arr, te', h3, _⟩ := O.room ad' n' c' h hc
      have hlt := hhead ad' n' c' h hc
      exact ⟨arr, arr, te', h3, (hframe _ hlt).trans h3, rfl, fun k _ => nX (by rw [eP]; exact hframe _ hlt)⟩
end
end
end Go.Am
end
section
/- Soundness: append's step. -/
namespace Go.Am
attribute [local instance] D.real
section
variable {P : Program} {w0 : cR} {w w' : World} {st st' : St} {g g' : bn} {born : Nat → Prop} {a : Act} {as acts : List Act} {o : Oper} {base : Nat}
theorem qV {e : Ty} {xs : List (den e)} {H : Path → Value} (h : cf w true e xs H) (hs : dj e xs H) :
    ∃ olds, Old w e xs (H []) (fun i f q => H ((i, f) :: q)) olds (bN e xs H) := by
  obtain ⟨cells, hel, hcl⟩ := lU h
  refine ⟨cells, ?_, hel, hcl, fun ad n c h0 hc => ?_, fun i x b hi hb => .inr ⟨i, x, hi, hb⟩, fun ad n c i x h0 hc hi hb => hs.1 ad n c i x h0 hc hi hb, fun i j x y b hij hi hj hb hb' => hs.2.1 i j x y b hij hi hj hb hb', fun i x hi => hs.2.2 i x hi, fun b hb => um h hb⟩
  · rcases h with ⟨h0, rfl⟩ | ⟨ad, cap, h0, hle, _⟩
    · exact ⟨none, 0, h0, Nat.le_refl _, fun _ => ⟨rfl, rfl⟩⟩
    · exact ⟨some ad, cap, h0, hle, fun h => by cases h⟩
  · rcases h with ⟨h1, _⟩ | ⟨ad', cap, h1, _, h2, _⟩
    · rw [h1] at h0; cases h0
    · rw [h1] at h0
      injection h0 with h0 _ h0'
      injection h0 with h0
      subst h0; subst h0'
      exact h2 rfl hc
theorem mM {e : Ty} {xs : List (den e)} {H : Path → Value} {b : Nat} (h : pk (H []) b) : bN e xs H b := by
  obtain ⟨ad, n, c, h1, h2, h3⟩ := h
  exact .inl ⟨ad, n, c, h1, h2, h3⟩
theorem wm : ∀ (t : Ty) (d : den t) (f : Nat) (g : (c : Ty) → den c → den c), (∀ c d, g c d = d) → ck t d f g = d := by
  intro t
  induction t with
  | pair a b iha ihb =>
    intro d f g hg
    by_cases h : f < a.size
    · rw [jC h, iha _ _ _ hg]
    · rw [iY h, ihb _ _ _ hg]
  | unit => intros; rfl
  | int k => intro d f g hg; unfold ck; cases Nat.beq f 0 <;> simp [hg]
  | bool => intro d f g hg; unfold ck; cases Nat.beq f 0 <;> simp [hg]
  | str => intro d f g hg; unfold ck; cases Nat.beq f 0 <;> simp [hg]
  | sl e => intro d f g hg; unfold ck; cases Nat.beq f 0 <;> simp [hg]
theorem sU : ∀ (p : Path) (t : Ty) (xs : List (den t)), gK t xs p (fun _ ys => ys) = xs
  | [], _, _ => rfl
  | (i, f) :: p, t, xs => by
    show xs.set i (ck t (xs.getD i (b6 t)) f _) = xs
    rw [wm]
    · apply List.ext_getElem?
      intro j
      rw [List.getElem?_set]
      split
      · next e =>
        subst e
        split
        · next h => rw [List.getD_eq_getElem?_getD, List.getElem?_eq_getElem h]; rfl
        · next h => rw [List.getElem?_eq_none (by omega)]
      · rfl
    · intro c d
      cases c <;> first | rfl | exact sU p _ d
theorem yX (R : Rel w0 st g born acts w) {r : Nat} {p : Path} {t e : Ty} {xs : List (den t)} {ys zs : List (den e)} {ok : List Tst} {H' : Path → Value} (hbase : ¬ born base)
    (hg : st.get r = .row true t xs) (hp : p ≠ []) (hrow : rowAt t xs p = (ok, ⟨e, ys⟩)) (hok : bO ok) (hflat : e.flat = true) (hq : ∀ j r' p t xs, st.get j = .pend r' p t xs → r' ≠ r)
    (hb : da w0 w w') (hblk : ∀ b, b < w.heap.size → w'.heap[b]? = w.heap[b]? ∨ pk ((g r).H p) b)
    (hrep : cf w' true e zs H') (hown : ∀ b, bN e zs H' b → w.heap.size ≤ b ∨ pk ((g r).H p) b)
    (hkeep : ∀ ad n c, (g r).H p = .slice (some ad) n c → c ≠ 0 → ∃ arr arr' te, w.heap[ad.block]? = some (.cells arr te (0, 0)) ∧ w'.heap[ad.block]? = some (.cells arr' te (0, 0)) ∧ arr'.size = arr.size ∧ ∀ k, k < ys.length * e.size → w'.cell? (ad.add k) = w.cell? (ad.add k)) :
    Rel w0 (st.eG base (.pend r p e zs)) (eX g base ⟨0, H'⟩) (fun x => born x ∨ x = base) acts w' := by
  have hr := R.roots r
  unfold bJ at hr
  rw [hg] at hr
  obtain ⟨hr1, hr2⟩ := hr
  obtain ⟨c1, c2, c3, c4⟩ := ic p t xs (g r).H ok e ys hrow hok hr1
  have hrb : born r := R.alive r (by rw [hg]; simp)
  have hne : ∀ x, born x → x ≠ base := fun x h e => hbase (e ▸ h)
  have hvr : ∀ b, pk ((g r).H p) b → bN t xs (g r).H b := fun b h => c3 b (mM (H := fun q => (g r).H (p ++ q)) (by simpa using h))
  have hgb : (st.eG base (.pend r p e zs)).get base = .pend r p e zs := cQ _ _ _
  have hgr : (st.eG base (.pend r p e zs)).get r = .row true t xs := by rw [bH (hne r hrb)]; exact hg
  have hgg : eX g base ⟨0, H'⟩ r = g r := bP (hne r hrb)
  have hownR : ∀ b, Own st.get g r b ↔ bN t xs (g r).H b := fun b => by unfold Own; rw [hg]
  have hchild : cf w' true e ys (fun q => (g r).H (p ++ q)) := by
    rcases c1 with ⟨h0, h1⟩ | ⟨ad, cap, h0, hle, hbk, hx⟩
    · exact .inl ⟨h0, h1⟩
    · have h0' : (g r).H p = .slice (some ad) ys.length cap := by simpa using h0
      refine .inr ⟨ad, cap, h0, hle, fun _ hc => ?_, fun i x hi => ?_⟩
      · obtain ⟨h2, arr, te, h3, h4⟩ := hbk rfl hc
        obtain ⟨arr1, arr', te', h5, h6, h7, _⟩ := hkeep ad _ cap h0' hc
        rw [h3] at h5
        injection h5 with h5
        injection h5 with h5 h5'
        exact ⟨h2, arr', te', h6, by rw [h7, ← h5]; exact h4⟩
      · have hil : i < ys.length := by
          rcases Nat.lt_or_ge i ys.length with h | h
          · exact h
          · rw [List.getElem?_eq_none h] at hi; cases hi
        obtain ⟨_, _, _, _, _, _, h8⟩ := hkeep ad _ cap h0' (by omega)
        refine u6 e x _ _ 0 _ _ hflat (hx i x hi) fun k _ hk => h8 _ ?_
        have : (i + 1) * e.size ≤ ys.length * e.size := Nat.mul_le_mul_right _ hil
        rw [Nat.add_mul] at this
        omega
  have hroot : cf w' true t xs (g r).H := by
    have := (vh (w := w) (w' := w') (rw := true) (fun _ ys => ys) p t xs (g r).H ok e ys (fun q => (g r).H (p ++ q)) hrow hok hr1 hr2 (by simp) hchild (c4 hr2)
      (fun b hb1 hb2 => ?_) (fun b hb1 => .inl hb1)).1
    · rw [sU, jJ] at this; exact this
    · rcases hblk b (um hr1 hb1) with h | h
      · exact h
      · exact (hb2 (mM (H := fun q => (g r).H (p ++ q)) (by simpa using h))).elim
  have hownB : ∀ b, Own (st.eG base (.pend r p e zs)).get (eX g base ⟨0, H'⟩) base b → w.heap.size ≤ b := by
    intro b h
    unfold Own at h
    rw [hgb] at h
    simp only [eO] at h
    rcases hown b h.1 with h1 | h1
    · exact h1
    · refine (h.2 ?_).elim
      unfold lW
      rw [hgg]; exact h1
  have hsameO : ∀ x b, x ≠ base → (Own (st.eG base (.pend r p e zs)).get (eX g base ⟨0, H'⟩) x b ↔ Own st.get g x b) := fun x b hx =>
    mh (bH hx) (bP hx) fun q p t xs e => bP (hne q (R.bornR x q (by rw [e]; simp [aD.roots])))
  refine jy (fun x => x = base ∨ x = r) R hb rfl (fun x hx => ⟨fun t ht => ?_, fun hv => ?_⟩) (fun x hx => ⟨bH fun e => hx (.inl e), bP fun e => hx (.inl e), fun b hbo => ?_⟩)
    (fun x r' p' t' xs' hx e' => ?_) (fun x hx => ?_) (fun x y b hx hxy h h' => ?_) (fun x b hx h => ?_) (fun _ h => .inl h) (fun x hx y hy => ?_) (fun x hx h => ?_)
  · rw [bH (hne x hx)] at ht; exact ⟨ht, fun _ _ => by rw [bP (hne x hx)]⟩
  · rw [bH (hne x hx)] at hv; exact ⟨hv, by rw [bP (hne x hx)]⟩
  · rcases hblk b (iR R hbo) with h | h
    · exact h
    · exact (R.sep x r b (fun e => hx (.inr e)) hbo ((hownR b).2 (hvr b h))).elim
  · rintro (e1 | e1)
    · subst e1; exact hbase (R.bornR x r' (by rw [e']; simp [aD.roots]))
    · exact hq x r' p' t' xs' e' e1
  · rcases hx with rfl | rfl
    · unfold bJ
      rw [hgb]
      simp only [eO]
      refine ⟨hrep, hflat, t, xs, hgr, hp, fun b h => ?_⟩
      unfold lW at h
      rw [hgg] at h ⊢
      exact hvr b h
    · unfold bJ
      rw [hgr]
      simp only [hgg]
      exact ⟨hroot, hr2⟩
  · rcases hx with rfl | rfl
    · have h1 := hownB b h
      have := iR R ((hsameO y b fun e => hxy e.symm).1 h')
      omega
    · have h1 := (hsameO x b (hne x hrb)).1 h
      by_cases e : y = base
      · subst e
        have := hownB b h'
        have := iR R h1
        omega
      · exact R.sep x y b hxy h1 ((hsameO y b e).1 h')
  · rcases hx with rfl | rfl
    · exact R.fresh (hownB b h)
    · exact R.low x b ((hsameO x b (hne x hrb)).1 h)
  · rcases hx with rfl | rfl
    · rw [hgb] at hy
      simp only [aD.roots, List.mem_singleton] at hy
      subst hy; exact .inl hrb
    · rw [hgr] at hy; simp [aD.roots] at hy
  · rcases hx with rfl | rfl
    · exact .inr rfl
    · exact .inl hrb
theorem vx (h : w'.os = w.os ∧ w'.tape = w.tape ∧ w'.output = w.output ∧ w.heap.size ≤ w'.heap.size ∧ ∀ b, b < w.heap.size → w'.heap[b]? = w.heap[b]? ∨ ∃ c, c = b ∧ ¬ w0.iT c ∧ ∀ (o : Obj), w.heap[b]? = some o → o.isCells = true) (hB : w0.w.heap.size ≤ w.heap.size) : da w0 w w' :=
  ⟨h.1, h.2.1, h.2.2.1, h.2.2.2.1, fun k hk => (h.2.2.2.2 k (Nat.lt_of_lt_of_le hk.1 hB)).resolve_right fun ⟨c, h1, h2, _⟩ => h2 (h1 ▸ hk), fun k o h1 h2 => by
    rcases h.2.2.2.2 k (Array.getElem?_eq_some_iff.1 h1).1 with h' | ⟨_, _, _, h'⟩
    · exact h'.trans h1
    · rw [h' o h1] at h2; cases h2⟩
theorem step_append {t u ty : TypeId} {sv xv : AV} {s x : Operand} (hrun : ∀ r w', (Builtin.append_ #[t, u] ty #[a.eval s, a.eval x]).run P w = .ok r w' → (execOp a.eval o).run P w = .ok (.value r) w')
    (R : Rel w0 st g born (a :: as) w) (hs : af st.get g sv (a.eval s)) (hx : af st.get g xv (a.eval x)) (hu2 : uB P u)
    (hok : bO (eD P t sv xv st.get base).ok) (hfr : ∀ i, base ≤ i → i ∈ (eD P t sv xv st.get base).upd.map (·.1) → ¬ born i) (hq : cH st.rs (eD P t sv xv st.get base).quiet = true) :
    dJ P o a.eval w (fj w0 st born (a :: as) (eD P t sv xv st.get base)) := by
  revert hfr hq
  unfold eD at hok ⊢
  split at hok
  · exact (bg hok).elim
  next et het =>
  split at hok
  · exact (bg hok).elim
  next agg e hty =>
  generalize hsrc : rm e xv st.get = src at hok
  obtain ⟨ok, zs, l⟩ := src
  simp only at hok ⊢
  unfold mN at hok ⊢
  split at hok
  ·
    intro hfr hq
    obtain ⟨h1, h2⟩ := aP.1 hok
    obtain ⟨h0, h1⟩ := ag.1 h1
    have h2 : zs.length ≤ lim := of_decide_eq_true (show decide (zs.length ≤ lim) = true from (ag.1 h2).1)
    obtain ⟨e', i, z, hu, _, hinf, hsz, hby, hz, hzi, hpos, hce, hzs⟩ := dQ h0
    obtain ⟨⟨hl1, _⟩, G2, news, S⟩ := pB (P := P) R hx hsrc h1
    rw [af] at hs
    have O : Old w e [] (a.eval s) (fun _ _ _ => Go.undef) [] (fun _ => False) := by
      rw [hs]
      exact ⟨⟨none, 0, rfl, Nat.le_refl _, fun _ => ⟨rfl, rfl⟩⟩, l7.nil _ _ _ _, fun ad n c h => by (cases h), fun ad n c h => by (cases h), fun i x b h => by simp at h, fun ad n c i x h => by (cases h), fun i j x y b _ h => by simp at h, fun i x h => by simp at h, fun b h => h.elim⟩
    obtain ⟨v', w', G', k1, k2, k3, k4, k5, k6, _⟩ := rB (ty := ty) O S hu hu2 hinf hz hsz hby hzs (fun r hr b hb => ⟨iR R hb, fun h => h, fun ⟨ad, n, c, h, _⟩ => by rw [hs] at h; cases h⟩) (by simpa using h2)
    have hnv : ∀ b, ¬ pk (a.eval s) b := fun b ⟨ad, n, c, h, _⟩ => by rw [hs] at h; cases h
    have hD := jP (base := base) (ok := .s (fE P t e) :: ok ++ [.d (D.leN (D.len zs) lim)]) (q := gL l) (l := l) (e := e) (xs := zs) (inf := ⟨0, ui v' G'⟩) R (hfr base (Nat.le_refl _) (by simp))
      (ia hq fun r hr => List.mem_map.2 ⟨r, hr, rfl⟩) ⟨k6.1, k6.2.1, k6.2.2.1, k6.2.2.2.1, fun k hk => (k6.2.2.2.2 k (Nat.lt_of_lt_of_le hk.1 R.below.size)).resolve_right (hnv k), fun k o h1 _ => ((k6.2.2.2.2 k (Array.getElem?_eq_some_iff.1 h1).1).resolve_right (hnv k)).trans h1⟩
      (fun b hb => .inl ((k6.2.2.2.2 b hb).resolve_right (hnv b))) k3 k4 (fun b hb => by
        rcases k5 b hb with h | h | h | h
        · exact .inl h
        · exact (hnv b h).elim
        · exact h.elim
        · exact .inr h)
    exact dJ.value (hrun _ _ k1) hD
  · next r p sub =>
    split at hok
    · next e' ys hg =>
      split at hok
      · next he _ =>
        subst he
        intro hfr hq
        simp only [gF] at hok ⊢ hfr
        obtain ⟨h1, h2⟩ := aP.1 hok
        obtain ⟨h0, h1⟩ := ag.1 h1
        obtain ⟨h3, h4⟩ := ag.1 h2
        have hrl : r ∉ l := by
          have : (!l.contains r) = true := h3
          simpa using this
        have h4 : (fL sub ys ++ zs).length ≤ lim := of_decide_eq_true (show decide ((fL sub ys ++ zs).length ≤ lim) = true from (ag.1 h4).1)
        obtain ⟨et', i, z, hu, _, hinf, hsz, hby, hz, hzi, hpos, hce, hzs⟩ := dQ h0
        obtain ⟨⟨hl1, _⟩, G2, news, S⟩ := pB (P := P) R hx hsrc h1
        have hro := R.roots r
        unfold bJ at hro
        rw [hg] at hro
        rw [af] at hs
        have hsub : oW e'.size sub ((g r).H []) (a.eval s) := hs.2 e' e' (by rw [hg]; rfl) rfl
        have hrow := kx hro.1 hsub
        have hrs := g6 hsub hro.2
        obtain ⟨olds, O⟩ := qV hrow hrs
        have hhd : pz sub (a.eval s) (g r).H [] = a.eval s := rfl
        rw [hhd] at O
        have hownR : ∀ b, bN e' (fL sub ys) (pz sub (a.eval s) (g r).H) b → Own st.get g r b := fun b hb => by
          unfold Own; rw [hg]; exact hU hsub hb
        have hvr : ∀ b, pk (a.eval s) b → Own st.get g r b := fun b hb => hownR b (mM (by rw [hhd]; exact hb))
        obtain ⟨v', w', G', k1, k2, k3, k4, k5, k6, _⟩ := rB (ty := ty) O S hu hu2 hinf hz hsz hby hzs (fun r' hr' b hb => ⟨iR R hb, fun h => R.sep r' r b (fun e => hrl (e ▸ hr')) hb (hownR b h), fun h => R.sep r' r b (fun e => hrl (e ▸ hr')) hb (hvr b h)⟩) (by simpa using h4)
        have hupd : eA l ++ [(r, aD.dead), (base, aD.row true e' (fL sub ys ++ zs))] = eA (l ++ [r]) ++ [(base, aD.row true e' (fL sub ys ++ zs))] := by simp [eA]
        have hD := jP (base := base) (ok := []) (q := []) (l := l ++ [r]) (e := e') (xs := fL sub ys ++ zs) (inf := ⟨0, ui v' G'⟩) R (hfr base (Nat.le_refl _) (by simp))
          (ia hq fun x hx => by
            rcases List.mem_append.1 hx with h | h
            · exact List.mem_cons_of_mem _ (List.mem_map.2 ⟨x, h, rfl⟩)
            · rw [List.mem_singleton.1 h]; exact List.mem_cons_self)
          (vx ⟨k6.1, k6.2.1, k6.2.2.1, k6.2.2.2.1, fun b hb => (k6.2.2.2.2 b hb).imp id fun h => ⟨b, rfl, R.low r b (hvr b h), jK R (hvr b h)⟩⟩ R.below.size)
          (fun b hb => (k6.2.2.2.2 b hb).imp id fun h => ⟨r, List.mem_append.2 (.inr (List.mem_singleton.2 rfl)), hvr b h⟩) k3 k4 (fun b hb => by
            rcases k5 b hb with h | h | h | ⟨x, h, h'⟩
            · exact .inl h
            · exact .inr ⟨r, List.mem_append.2 (.inr (List.mem_singleton.2 rfl)), hvr b h⟩
            · exact .inr ⟨r, List.mem_append.2 (.inr (List.mem_singleton.2 rfl)), hownR b h⟩
            · exact .inr ⟨x, List.mem_append.2 (.inl h), h'⟩)
        refine dJ.value (hrun _ _ k1) ?_
        obtain ⟨g', b', d1, d2, d3, d4, d5⟩ := hD
        refine ⟨g', b', ?_, ?_, d3, ?_, d5⟩
        · show Rel w0 (st.bB (eA l ++ [(r, aD.dead), (base, aD.row true e' (fL sub ys ++ zs))])) _ _ _ _
          rw [hupd]; exact d1
        · show af (st.bB (eA l ++ [(r, aD.dead), (base, aD.row true e' (fL sub ys ++ zs))])).get _ _ _
          rw [hupd]; exact d2
        · show ∀ r', b' r' → born r' ∨ r' ∈ (eA l ++ [(r, aD.dead), (base, aD.row true e' (fL sub ys ++ zs))]).map (·.1)
          rw [hupd]; exact d4
      · exact (bg hok).elim
    · next q p t' xs hg =>
      split at hok
      · next ok' e' ys hrow =>
        split at hok
        · next he _ =>
          subst he
          intro hfr hq
          simp only [gF] at hok ⊢ hfr
          obtain ⟨h1, h2⟩ := aP.1 hok
          obtain ⟨h1, h3⟩ := aP.1 h1
          obtain ⟨h0, h1⟩ := ag.1 h1
          obtain ⟨h4, h5⟩ := ag.1 h2
          have h4 : e'.flat = true := h4
          have h5 : (ys ++ zs).length ≤ lim := of_decide_eq_true (show decide ((ys ++ zs).length ≤ lim) = true from (ag.1 h5).1)
          obtain ⟨et', i, z, hu, _, hinf, hsz, hby, hz, hzi, hpos, hce, hzs⟩ := dQ h0
          obtain ⟨⟨_, hl0⟩, G2, news, S⟩ := pB (P := P) R hx hsrc h1
          obtain rfl := hl0 h4
          have hro := R.roots r
          unfold bJ at hro
          rw [hg] at hro
          obtain ⟨c1, c2, c3, c4⟩ := ic (q :: p) t' xs (g r).H ok' e' ys hrow h3 hro.1
          rw [af] at hs
          have hsub : a.eval s = (g r).H (q :: p) := hs.2 t' e' (by rw [hg]; rfl) c2
          obtain ⟨olds, O⟩ := qV c1 (c4 hro.2)
          have hhd : (g r).H (q :: p ++ []) = a.eval s := by simp [hsub]
          rw [hhd] at O
          obtain ⟨v', w', G', k1, k2, k3, k4, k5, k6, k7⟩ := rB (ty := ty) O S hu hu2 hinf hz hsz hby hzs (fun r' hr' => by cases hr') (by simpa using h5)
          have hBv : ∀ b, bN e' ys (fun q' => (g r).H (q :: p ++ q')) b → pk ((g r).H (q :: p)) b := by
            rintro b (⟨ad, n, c, h, h', h''⟩ | ⟨i, x, _, hb⟩)
            · exact ⟨ad, n, c, by simpa using h, h', h''⟩
            · exact (lq e' x _ 0 b h4 hb).elim
          have hvo : ∀ b, pk ((g r).H (q :: p)) b → Own st.get g r b := fun b h => (by
            unfold Own; rw [hg]; exact c3 b (mM (H := fun q' => (g r).H (q :: p ++ q')) (by simpa using h)))
          have hvr : ∀ b, pk ((g r).H (q :: p)) b → ¬ w0.iT b := fun b h => R.low r b (hvo b h)
          rw [hsub] at k5 k6 k7
          have R' := yX (base := base) (w' := w') (zs := ys ++ zs) (H' := ui v' G') R (hfr base (Nat.le_refl _) (by simp)) hg (by simp) hrow h3 h4
            (fun j r' p t xs e er => by
              have := List.all_eq_true.1 hq (r, none) (by simp)
              have := mY (st := st) this e er
              cases this)
            (vx ⟨k6.1, k6.2.1, k6.2.2.1, k6.2.2.2.1, fun b hb => (k6.2.2.2.2 b hb).imp id fun h => ⟨b, rfl, hvr b h, jK R (hvo b h)⟩⟩ R.below.size) k6.2.2.2.2 k3
            (fun b hb => by
              rcases k5 b hb with h | h | h | ⟨x, h, _⟩
              · exact .inl h
              · exact .inr h
              · exact .inr (hBv b h)
              · cases h) k7
          refine dJ.value (hrun _ _ k1) ⟨_, _, R', ?_, fun x hx => ?_, fun x hx => hx.imp id fun e => ?_, fun x hx => .inl hx⟩
          · show af _ _ (.sl base [] none) _
            rw [af]
            refine ⟨by obtain ⟨b, c, e⟩ := k2; exact ⟨_, _, _, e⟩, fun t2 e2 _ _ => ?_⟩
            show v' = (eX g base ⟨0, ui v' G'⟩ base).H []
            rw [eO]; rfl
          · simp only [AV.roots, List.mem_singleton] at hx; exact .inr hx
          · subst e; simp
        · exact (bg hok).elim
      · exact (bg hok).elim
    · exact (bg hok).elim
  · exact (bg hok).elim
theorem yb (z : Array Value) (n : Nat) : Builtin.zeroCells z n = madeCells z (n * z.size) := rfl
theorem yc {t u ty : TypeId} {k : IntKind} {s x : Operand} (hrun : ∀ r w', (Builtin.append_ #[t, u] ty #[a.eval s, a.eval x]).run P w = .ok r w' → (execOp a.eval o).run P w = .ok (.value r) w')
    (hd : P.underlying u = some (.int k)) (R : Rel w0 st g born (a :: as) w) (hok : bO (lA P t (aC st s) (aC st x) base).ok)
    (hfr : ∀ i, base ≤ i → i ∈ (lA P t (aC st s) (aC st x) base).upd.map (·.1) → ¬ born i) :
    dJ P o a.eval w (fj w0 st born (a :: as) (lA P t (aC st s) (aC st x) base)) := by
  obtain ⟨hs, _⟩ := cn R s
  obtain ⟨hx, _⟩ := cn R x
  revert hfr
  unfold lA at hok ⊢
  split at hok
  · next e kk n he h1 h2 =>
    rw [h1, af] at hs
    rw [h2, af] at hx
    split at hok
    · next agg te hty =>
      intro hfr
      obtain ⟨k1, k2⟩ := ag.1 hok
      obtain ⟨k2, k3⟩ := ag.1 k2
      have k2 : 1 ≤ n := of_decide_eq_true (show decide (1 ≤ n) = true from k2)
      have k3 : n.toNat ≤ lim := of_decide_eq_true (show decide (n.toNat ≤ lim) = true from (ag.1 k3).1)
      obtain ⟨e', i, z, hu, _, hinf, hsz, hby, hz, hzi, hpos, hce, hzs⟩ := dQ k1
      obtain ⟨cap, hcap, hr⟩ := yT (P := P) (w := w) (ty := ty) (k' := kk) hu hd hinf hz k2 k3 hby (by omega)
      rw [yb, hzs] at hr
      obtain ⟨r1, r2, r3⟩ := sZ (w := w.drew) (e := e') (l := n.toNat) (c := cap) hzi hzs hpos hcap
      have hB : da w0 w w.drew := ⟨rfl, rfl, rfl, Nat.le_refl _, fun _ _ => rfl, fun _ _ h _ => h⟩
      have hD := jP (base := base) (ok := [.s (fE P t te), .d (D.le 1 n), .d (D.leN (D.nat n) lim)]) (q := []) (l := []) (inf := ⟨0, _⟩) R (hfr base (Nat.le_refl _) (by simp))
        (fun r hr => by cases hr) (hB.alloc R.below.size _) (fun b hb => .inl (RowKit.Below.heap_alloc _ _ _ hb)) r1 r2 (fun b hb => .inl (by rw [r3 b hb]; exact Nat.le_refl _))
      refine dJ.value ?_ hD
      refine hrun _ _ ?_
      rw [hs, hx]
      exact hr
    · exact (bg hok).elim
  · exact (bg hok).elim
theorem yS {t ty : TypeId} {x : Operand} (hrun : ∀ v, a.eval x = v → ∀ r, (Builtin.cap_ #[t] ty #[v]).run P w = .ok r w → (execOp a.eval o).run P w = .ok (.value r) w)
    (R : Rel w0 st g born (a :: as) w) (hok : bO (pQ P t (aC st x)).ok) : dJ P o a.eval w (fj w0 st born (a :: as) (pQ P t (aC st x))) := by
  obtain ⟨hx, _⟩ := cn R x
  unfold pQ at hok ⊢
  split at hok
  · next hn =>
    rw [hn, af] at hx
    obtain ⟨e, he⟩ := Option.isSome_iff_exists.1 (show (gI P t).isSome = true from (ag.1 hok).1)
    refine cl R rfl rfl (v := .int .i64 0) (hrun _ rfl _ ?_) (by rw [af]) (fun r h => by simp [AV.roots] at h)
    rw [hx]
    simp [Builtin.cap_, aK (gT he), goInt]
  · exact (bg hok).elim
end
end Go.Am
end
section
/- Soundness: stores into rows. -/
namespace Go.Am
noncomputable section
attribute [local instance] D.real
section
variable {P : Program} {w0 : cR} {w w' : World} {st st' : St} {g g' : bn} {born : Nat → Prop} {a : Act} {as acts : List Act} {o : Oper} {base : Nat}
theorem oh : ∀ (p : Path) (i f : Nat) (N H : Path → Value), du (p ++ [(i, f)]) N H = du p (du [(i, f)] N (fun q => H (p ++ q))) H
  | [], i, f, N, H => rfl
  | (j, k) :: p, i, f, N, H => by
    funext q
    cases q with
    | nil => rfl
    | cons x q =>
      obtain ⟨j', k'⟩ := x
      show (if j' = j ∧ k' = k then du (p ++ [(i, f)]) N (fun q => H ((j, k) :: q)) q else H ((j', k') :: q)) = _
      rw [oh p i f N]
      rfl
theorem xN {s j k i f : Nat} (hk : k < s) (hf : f < s) (h : j * s + k = i * s + f) : j = i ∧ k = f := by
  rcases Nat.lt_trichotomy j i with h1 | h1 | h1
  · have : (j + 1) * s ≤ i * s := Nat.mul_le_mul_right _ h1
    rw [Nat.add_mul] at this; omega
  · subst h1; exact ⟨rfl, by omega⟩
  · have : (i + 1) * s ≤ j * s := Nat.mul_le_mul_right _ h1
    rw [Nat.add_mul] at this; omega
theorem o8 {t e : Ty} {xs : List (den t)} {ys : List (den e)} {H N : Path → Value} {p : Path} {ok : List Tst} {i f n cap : Nat} {ad : Addr} {v : Value} {G : (c : Ty) → den c → den c}
    (hr : cf w true t xs H) (hs : dj t xs H) (hrow : rowAt t xs p = (ok, ⟨e, ys⟩)) (hok : bO ok) (hi : i < ys.length) (hf : f < e.size) (had : H p = .slice (some ad) n cap)
    (hcell : Rep (w.setCell (ad.add (i * e.size + f)) v) true (cellAt e (ys.getD i (b6 e)) f).1 (G (cellAt e (ys.getD i (b6 e)) f).1 (cellAt e (ys.getD i (b6 e)) f).2) (atI (du [(i, f)] N (fun q => H (p ++ q))) i) (0 + f)
      (fun k => (w.setCell (ad.add (i * e.size + f)) v).cell? (ad.add (i * e.size + k))))
    (hsepc : Sep (cellAt e (ys.getD i (b6 e)) f).1 (G (cellAt e (ys.getD i (b6 e)) f).1 (cellAt e (ys.getD i (b6 e)) f).2) (atI (du [(i, f)] N (fun q => H (p ++ q))) i) (0 + f))
    (hblkc : ∀ b, ki e (ys.getD i (b6 e)) f G (atI (du [(i, f)] N (fun q => H (p ++ q))) i) 0 b → kg e (ys.getD i (b6 e)) f (atI (fun q => H (p ++ q)) i) 0 b ∨ ¬ bN t xs H b) :
    cf (w.setCell (ad.add (i * e.size + f)) v) true t (gK t xs p (fun e zs => zs.set i (ck e (zs.getD i (b6 e)) f G))) (du (p ++ [(i, f)]) N H) ∧
    dj t (gK t xs p (fun e zs => zs.set i (ck e (zs.getD i (b6 e)) f G))) (du (p ++ [(i, f)]) N H) ∧
    ∀ b, bN t (gK t xs p (fun e zs => zs.set i (ck e (zs.getD i (b6 e)) f G))) (du (p ++ [(i, f)]) N H) b → bN t xs H b ∨ ki e (ys.getD i (b6 e)) f G (atI (du [(i, f)] N (fun q => H (p ++ q))) i) 0 b := by
  obtain ⟨c1, c2, c3, c4⟩ := ic p t xs H ok e ys hrow hok hr
  have c4 := c4 hs
  have hget : ys[i]? = some (ys.getD i (b6 e)) := ed hi
  rw [oh]
  have had0 : (fun q => H (p ++ q)) [] = .slice (some ad) n cap := by simpa using had
  obtain ⟨hcap, hsp, arr, te, hheap, harr⟩ : cap ≠ 0 ∧ ad.spot = none ∧ ∃ arr te, w.heap[ad.block]? = some (.cells arr te (0, 0)) ∧ ad.off + cap * e.size ≤ arr.size := by
    rcases c1 with ⟨h0, h1⟩ | ⟨ad', cap', h0, hle, hbk, _⟩
    · rw [h1] at hi; simp at hi
    · rw [had0] at h0
      injection h0 with h0 h0' h0''
      injection h0 with h0
      subst h0; subst h0''
      have hc : cap ≠ 0 := by omega
      exact ⟨hc, (hbk rfl hc).1, (hbk rfl hc).2⟩
  have hadd : ∀ k, ad.add k = ⟨ad.block, ad.off + k, none⟩ := by
    intro k
    have : ad = ⟨ad.block, ad.off, none⟩ := by cases ad; simp only at hsp; subst hsp; rfl
    rw [this, Addr.add_lit]
  have hnew : (w.setCell (ad.add (i * e.size + f)) v).heap[ad.block]? = some (.cells (arr.setIfInBounds (ad.off + (i * e.size + f)) v) te (0, 0)) := by
    rw [hadd]; exact heap_setCell_same w ad.block _ arr te v hheap
  have hoth : ∀ b, b ≠ ad.block → (w.setCell (ad.add (i * e.size + f)) v).heap[b]? = w.heap[b]? := fun b hb => by
    rw [hadd]; exact heap_setCell_other w _ b v hb
  have hH : ∀ j k q, (j, k) ≠ (i, f) → du [(i, f)] N (fun q => H (p ++ q)) ((j, k) :: q) = (fun q => H (p ++ q)) ((j, k) :: q) := by
    intro j k q hne
    show (if j = i ∧ k = f then N q else H (p ++ (j, k) :: q)) = _
    rw [if_neg (fun e => hne (by rw [e.1, e.2]))]
  have hcells : ∀ j k, j < ys.length → k < e.size → (j, k) ≠ (i, f) → (w.setCell (ad.add (i * e.size + f)) v).cell? (ad.add (j * e.size + k)) = w.cell? (ad.add (j * e.size + k)) := by
    intro j k _ hk hne
    refine World.cell?_setCell_other w _ _ v fun e' => hne ?_
    rw [hadd, hadd] at e'
    injection e' with _ e' _
    obtain ⟨h1, h2⟩ := xN hf hk (show i * e.size + f = j * e.size + k by omega)
    rw [h1, h2]
  have hchild : ∀ b j x, ys[j]? = some x → Blk e x (atI (fun q => H (p ++ q)) j) 0 b → (w.setCell (ad.add (i * e.size + f)) v).heap[b]? = w.heap[b]? := by
    intro b j x hj hb
    exact hoth b fun e' => by subst e'; exact c4.1 ad n cap j x had0 hcap hj hb
  have M := vS (w := w) (w' := w.setCell (ad.add (i * e.size + f)) v) (rw := true) (H := fun q => H (p ++ q)) (H' := du [(i, f)] N (fun q => H (p ++ q))) (g := G) hi hf c1 c4 rfl hH
    (fun a n' c' h0 => by
      have h0 : H (p ++ []) = .slice (some a) n' c' := h0
      rw [List.append_nil, had] at h0
      injection h0 with h0 _ _
      injection h0 with h0
      subst h0
      exact ⟨hcells, fun _ arr2 te2 h2 => by
        rw [hheap] at h2
        injection h2 with h2
        injection h2 with h2 h2' _
        subst h2; subst h2'
        exact ⟨_, hnew, by simp⟩⟩)
    (fun b j x hj hb _ => hchild b j x hj hb)
    (fun a n' c' h0 => by
      have h0 : H (p ++ []) = .slice (some a) n' c' := h0
      rw [List.append_nil, had] at h0
      injection h0 with h0 _ _
      injection h0 with h0
      subst h0
      exact hcell)
  have hin : ∀ b, bN e ys (fun q => H (p ++ q)) b → bN t xs H b := c3
  have S := vB (H := fun q => H (p ++ q)) (H' := du [(i, f)] N (fun q => H (p ++ q))) (g := G) hi hf c4 rfl hH hsepc (fun b hb => (hblkc b hb).imp id fun h h' => h (hin b h'))
  have hB0 : ∀ b, bN e (ys.set i (ck e (ys.getD i (b6 e)) f G)) (du [(i, f)] N (fun q => H (p ++ q))) b → ki e (ys.getD i (b6 e)) f G (atI (du [(i, f)] N (fun q => H (p ++ q))) i) 0 b ∨ (bN e ys (fun q => H (p ++ q)) b ∧ ¬ kg e (ys.getD i (b6 e)) f (atI (fun q => H (p ++ q)) i) 0 b) :=
    fun b hb => vm (H := fun q => H (p ++ q)) (g := G) hi hf c4 rfl hH hb
  obtain ⟨m1, m2, m3⟩ := vh (w := w) (w' := w.setCell (ad.add (i * e.size + f)) v) (rw := true) (fun e zs => zs.set i (ck e (zs.getD i (b6 e)) f G)) p t xs H ok e ys (du [(i, f)] N (fun q => H (p ++ q))) hrow hok hr hs (by show H (p ++ []) = H p; simp) M S
    (fun b hb hnb => hoth b fun e' => hnb (by subst e'; exact .inl ⟨ad, n, cap, had0, hcap, rfl⟩))
    (fun b hb => by
      rcases hB0 b hb with h | h
      · rcases hblkc b h with h' | h'
        · exact .inl (.inr ⟨i, _, hget, dc e _ _ 0 f b hf h'⟩)
        · exact .inr h'
      · exact .inl h.1)
  refine ⟨m1, m2, fun b hb => ?_⟩
  rcases m3 b hb with h | h
  · rcases hB0 b h with h | h
    · exact .inr h
    · exact .inl (hin b h.1)
  · exact .inl h.1
def zN (x : aD) : Option (Nat × Nat) → aD
  | none => x
  | some (r0, n) => x.cut r0 n
def AM (fr : List (List AV)) : Option (Nat × Nat) → List (List AV)
  | none => fr
  | some (r0, n) => fr.map (AV.fR r0 n)
theorem py (R : Rel w0 st g born acts w) {r : Nat} {t : Ty} {xs xs' : List (den t)} {p : Path} {i f : Nat} {N : Path → Value} {l : List Nat} {cut : Option (Nat × Nat)} {ad : Addr} {v : Value}
    (hg : st.get r = .row true t xs) (hrl : r ∉ l) (hq : ∀ j r' p t xs, st.get j = .pend r' p t xs → (r' = r → j ∈ l) ∧ ∀ x ∈ l, r' ≠ x)
    (hfr : st'.fr = AM st.fr cut)
    (hget : ∀ x, st'.get x = if x = r then .row true t xs' else if x ∈ l then .dead else zN (st.get x) cut)
    (hcut : (cut = none ∧ du (p ++ [(i, f)]) N (g r).H = (g r).H) ∨ cut = some (r, p.length + 1))
    (hadb : bN t xs (g r).H ad.block) (hadd : ad.spot = none)
    (h1 : cf (w.setCell ad v) true t xs' (du (p ++ [(i, f)]) N (g r).H)) (h2 : dj t xs' (du (p ++ [(i, f)]) N (g r).H))
    (h3 : ∀ b, bN t xs' (du (p ++ [(i, f)]) N (g r).H) b → bN t xs (g r).H b ∨ ∃ x ∈ l, Own st.get g x b) :
    Rel w0 st' (eX g r ⟨(g r).b, du (p ++ [(i, f)]) N (g r).H⟩) born acts (w.setCell ad v) := by
  have hownR : ∀ b, Own st.get g r b ↔ bN t xs (g r).H b := fun b => by unfold Own; rw [hg]
  have hrb : born r := R.alive r (by rw [hg]; simp)
  have hlow : ¬ w0.iT ad.block := R.low r _ ((hownR _).2 hadb)
  have hoth : ∀ b, b ≠ ad.block → (w.setCell ad v).heap[b]? = w.heap[b]? := fun b hb => heap_setCell_other w ad b v hb
  have hbel : da w0 w (w.setCell ad v) := (da.refl _ _).setCell hlow v
  have hgr : st'.get r = .row true t xs' := by rw [hget]; simp
  have hdead : ∀ x, x ∈ l → st'.get x = .dead := fun x hx => by rw [hget, if_neg (fun e : x = r => hrl (e ▸ hx)), if_pos hx]
  have hsg : eX g r ⟨(g r).b, du (p ++ [(i, f)]) N (g r).H⟩ r = ⟨(g r).b, du (p ++ [(i, f)]) N (g r).H⟩ := eO _ _ _
  have hOwn' : ∀ b, Own st'.get (eX g r ⟨(g r).b, du (p ++ [(i, f)]) N (g r).H⟩) r b → bN t xs' (du (p ++ [(i, f)]) N (g r).H) b := by
    intro b h
    unfold Own at h
    rw [hgr] at h
    simp only [hsg] at h
    exact h
  have hRoot : bJ w0 (w.setCell ad v) st'.get (eX g r ⟨(g r).b, du (p ++ [(i, f)]) N (g r).H⟩) r := by
    unfold bJ; rw [hgr]; simp only [hsg]; exact ⟨h1, h2⟩
  have hC : ∀ x, (x = r ∨ x ∈ l) → bJ w0 (w.setCell ad v) st'.get (eX g r ⟨(g r).b, du (p ++ [(i, f)]) N (g r).H⟩) x := by
    rintro x (rfl | hx)
    · exact hRoot
    · unfold bJ; rw [hdead x hx]; trivial
  have hpend : ∀ x r' p' t' xs', ¬ (x = r ∨ x ∈ l) → st.get x = .pend r' p' t' xs' → ¬ (r' = r ∨ r' ∈ l) := by
    rintro x r' p' t' xs' hx e (e1 | e1)
    · exact hx (.inr ((hq x r' p' t' xs' e).1 e1))
    · exact (hq x r' p' t' xs' e).2 r' e1 rfl
  have hheap : ∀ x, ¬ (x = r ∨ x ∈ l) → ∀ b, Own st.get g x b → (w.setCell ad v).heap[b]? = w.heap[b]? := by
    intro x hx b hb
    exact hoth b fun e => by subst e; exact R.sep x r _ (fun e => hx (.inl e)) hb ((hownR _).2 hadb)
  have ownO : ∀ x b, ¬ (x = r ∨ x ∈ l) → Own st'.get (eX g r ⟨(g r).b, du (p ++ [(i, f)]) N (g r).H⟩) x b → Own st.get g x b := by
    intro x b hx h
    have e2 : eX g r ⟨(g r).b, du (p ++ [(i, f)]) N (g r).H⟩ x = g x := bP fun e => hx (.inl e)
    have e1 := hget x
    rw [if_neg (fun e => hx (.inl e)), if_neg (fun e => hx (.inr e))] at e1
    unfold Own at h ⊢
    cases hgx : st.get x with
    | dead =>
      have : st'.get x = .dead := by rw [e1, hgx]; cases cut <;> rfl
      rw [this] at h; exact h
    | var cs =>
      have : ∃ cs', st'.get x = .var cs' := by
        rw [e1, hgx]
        cases cut with
        | none => exact ⟨_, rfl⟩
        | some c => exact ⟨_, rfl⟩
      obtain ⟨cs', hcs⟩ := this
      rw [hcs] at h; simp only [e2] at h; exact h
    | row rw t2 xs2 =>
      have : st'.get x = .row rw t2 xs2 := by rw [e1, hgx]; cases cut <;> rfl
      rw [this] at h; cases rw <;> simp only [e2] at h <;> exact h
    | pend q p2 t2 xs2 =>
      have : st'.get x = .pend q p2 t2 xs2 := by rw [e1, hgx]; cases cut <;> rfl
      rw [this] at h
      have hqr : q ≠ r := fun e => (hpend x q p2 t2 xs2 hx hgx) (.inl e)
      simp only [e2, lW, bP hqr] at h
      exact h
  have hsepC : ∀ x y b, (x = r ∨ x ∈ l) → x ≠ y → Own st'.get (eX g r ⟨(g r).b, du (p ++ [(i, f)]) N (g r).H⟩) x b → Own st'.get (eX g r ⟨(g r).b, du (p ++ [(i, f)]) N (g r).H⟩) y b → False := by
    rintro x y b (rfl | hx) hxy h h'
    · by_cases hy : y ∈ l
      · unfold Own at h'; rw [hdead y hy] at h'; exact h'
      · have h' := ownO y b (by rintro (e | e); exact hxy e.symm; exact hy e) h'
        rcases h3 b (hOwn' b h) with h4 | ⟨z, hz, h4⟩
        · exact R.sep x y b hxy ((hownR b).2 h4) h'
        · exact R.sep z y b (fun e => hy (e ▸ hz)) h4 h'
    · unfold Own at h; rw [hdead x hx] at h; exact h
  have hlowC : ∀ x b, (x = r ∨ x ∈ l) → Own st'.get (eX g r ⟨(g r).b, du (p ++ [(i, f)]) N (g r).H⟩) x b → ¬ w0.iT b := by
    rintro x b (rfl | hx) h
    · rcases h3 b (hOwn' b h) with h4 | ⟨z, hz, h4⟩
      · exact R.low x b ((hownR b).2 h4)
      · exact R.low z b h4
    · unfold Own at h; rw [hdead x hx] at h; exact h.elim
  have hbornC : ∀ x, (x = r ∨ x ∈ l) → ∀ y ∈ (st'.get x).roots, born y := by
    rintro x (rfl | hx) y hy
    · rw [hgr] at hy; simp [aD.roots] at hy
    · rw [hdead x hx] at hy; simp [aD.roots] at hy
  have haliveC : ∀ x, (x = r ∨ x ∈ l) → st'.get x ≠ .dead → born x := by
    rintro x (rfl | hx) h
    · exact hrb
    · exact absurd (hdead x hx) h
  have hbr : (eX g r ⟨(g r).b, du (p ++ [(i, f)]) N (g r).H⟩ r).b = (g r).b := by rw [hsg]
  rcases hcut with ⟨rfl, hsame⟩ | rfl
  ·
    have hgg : ∀ x, eX g r ⟨(g r).b, du (p ++ [(i, f)]) N (g r).H⟩ x = g x := by
      intro x
      by_cases e : x = r
      · subst e; rw [hsg, hsame]
      · exact bP e
    refine jy (fun x => x = r ∨ x ∈ l) R hbel hfr (fun x _ => ⟨fun t2 ht => ?_, fun hv => ?_⟩) (fun x hx => ⟨?_, hgg x, hheap x hx⟩) hpend hC hsepC hlowC (fun _ h => h) hbornC haliveC
    · refine ⟨?_, fun _ _ => by rw [hgg]⟩
      by_cases e : x = r
      · subst e; rw [hgr] at ht; rw [hg]; exact ht
      · by_cases hx : x ∈ l
        · rw [hdead x hx] at ht; simp [cz] at ht
        · rw [hget, if_neg e, if_neg hx] at ht; exact ht
    · refine ⟨?_, by rw [hgg]⟩
      by_cases e : x = r
      · subst e; rw [hgr] at hv; simp [isVar] at hv
      · by_cases hx : x ∈ l
        · rw [hdead x hx] at hv; simp [isVar] at hv
        · rw [hget, if_neg e, if_neg hx] at hv; exact hv
    · rw [hget, if_neg (fun e => hx (.inl e)), if_neg (fun e => hx (.inr e))]; rfl
  · refine wY (r0 := r) (n := p.length + 1) (fun x => x = r ∨ x ∈ l) R hbel hfr (fun x _ => ⟨fun t2 ht => ?_, fun hv => ?_⟩) (fun x hx => ⟨?_, bP fun e => hx (.inl e), hheap x hx⟩) hpend hC hsepC hlowC (fun _ h => h) hbornC haliveC
    · by_cases e : x = r
      · subst e
        rw [hgr] at ht
        refine ⟨by rw [hg]; exact ht, fun q hq => ?_⟩
        rw [hsg]
        exact sD _ _ _ q (by have := hq rfl; simpa using this)
      · by_cases hx : x ∈ l
        · rw [hdead x hx] at ht; simp [cz] at ht
        · rw [hget, if_neg e, if_neg hx] at ht
          refine ⟨?_, fun _ _ => by rw [bP e]⟩
          have ht : cz ((st.get x).cut r (p.length + 1)) = some t2 := ht
          generalize st.get x = y at ht ⊢
          cases y <;> exact ht
    · by_cases e : x = r
      · subst e; rw [hgr] at hv; simp [isVar] at hv
      · by_cases hx : x ∈ l
        · rw [hdead x hx] at hv; simp [isVar] at hv
        · rw [hget, if_neg e, if_neg hx] at hv
          refine ⟨?_, by rw [bP e]⟩
          have hv : isVar ((st.get x).cut r (p.length + 1)) = true := hv
          generalize st.get x = y at hv ⊢
          cases y <;> exact hv
    · rw [hget, if_neg (fun e => hx (.inl e)), if_neg (fun e => hx (.inr e))]; rfl
end
end
end Go.Am
end
section
/- Soundness: the stores' steps. -/
namespace Go.Am
attribute [local instance] D.real
section
variable {P : Program} {w0 : cR} {w w' : World} {st st' : St} {g g' : bn} {born : Nat → Prop} {a : Act} {as acts : List Act} {o : Oper} {base : Nat}
theorem rD (st : St) (c : Option (Nat × Nat)) (x : Nat) : (st.cut c).get x = zN (st.get x) c := by
  cases c with
  | none => rfl
  | some c =>
    obtain ⟨r0, n⟩ := c
    show (st.rs.map (aD.cut r0 n)).getD x .dead = (st.rs.getD x .dead).cut r0 n
    simp only [List.getD_eq_getElem?_getD, List.getElem?_map]
    cases st.rs[x]? <;> rfl
theorem tU (st : St) (c : Option (Nat × Nat)) : (st.cut c).fr = AM st.fr c := by
  cases c with
  | none => rfl
  | some c => rfl
theorem lu {v : Value} (h : v.oneCell' = true) : v.cells = #[v] := by
  cases v <;> first | rfl | simp [Value.oneCell'] at h
theorem tK {t : TypeId} {ad : Addr} {v : Value} {arr : Array Value} {te : TypeId} (h1 : P.cellsOf t = 1) (h2 : v.oneCell' = true) (h3 : w.heap[ad.block]? = some (.cells arr te (0, 0))) (h4 : ad.spot = none) (h5 : ad.off < arr.size) :
    (Instr.storeAt t (.pointer (some ad)) v).run P w = .ok () (w.setCell ad v) := by
  obtain ⟨i, hi⟩ := pR (P := P) (t := t) (by omega)
  have had : ad = ⟨ad.block, ad.off, none⟩ := by cases ad; simp only at h4; subst h4; rfl
  have hc : w.cell? ad = some arr[ad.off] := by
    have e : w.cell? ad = w.cell? ⟨ad.block, ad.off, none⟩ := congrArg w.cell? had
    rw [e, cell_of_row _ _ _ _ _ _ h3]; simp [h5]
  have hf : w.frozen? ad = false := by rw [had]; exact frozen_of_row _ _ _ _ _ h3
  have hst : (store (ad.add 0) v).run P w = .ok () (w.setCell ad v) := by
    rw [show ad.add 0 = ad from rfl, run_store P w ad v _ h2, hc]
    simp [hf]
  simp [Instr.storeAt, Instr.sureAddr, storeVar, lu h2, dA hi, h1, storeCells, hst]
theorem ng {Post : Value → World → Prop} {t : TypeId} {x y : Operand} (ho : o.op = .store t x y) (h : (Instr.storeAt t (a.eval x) (a.eval y)).run P w = .ok () w') (hp : Post Go.undef w') : dJ P o a.eval w Post := by
  refine ⟨Go.undef, w', hp, .inr ⟨?_, rfl⟩⟩
  unfold execOp; rw [ho]
  simp [h]
theorem jG (get : Get) (g : bn) : af get g (.tup []) Go.undef := by
  rw [af]; exact ⟨#[], rfl, by rw [ak]⟩
theorem mE : ∀ (t : Ty) (f : Nat) (v : AV), dk v (fc t f) = true → f < t.size := by
  intro t
  have leaf : ∀ (t : Ty) (f : Nat) (v : AV), t.size = 1 → (fc t f = bif Nat.beq f 0 then t else .unit) → dk v (fc t f) = true → f < t.size := by
    intro t f v h1 h2 h3
    rw [h2] at h3
    cases hb : Nat.beq f 0 with
    | true => have := dC hb; omega
    | false => rw [hb] at h3; simp [dk] at h3
  induction t with
  | pair a b iha ihb =>
    intro f v h
    unfold fc at h
    simp only [Ty.size]
    cases hb : Nat.blt f a.size with
    | true => have := di hb; omega
    | false =>
      rw [hb] at h
      have := ihb _ v h
      have h2 : ¬ f < a.size := fun h => by rw [← Nat.blt_eq, hb] at h; cases h
      omega
  | unit => intro f v h; simp [fc, dk] at h
  | int k => intro f v h; exact leaf _ f v rfl rfl h
  | bool => intro f v h; exact leaf _ f v rfl rfl h
  | str => intro f v h; exact leaf _ f v rfl rfl h
  | sl e => intro f v h; exact leaf _ f v rfl rfl h
theorem mH (R : Rel w0 st g born acts w) {r : Nat} {p : Path} {i f : Nat} {t e : Ty} {xs : List (den t)} {ys : List (den e)} {ok : List Tst} {v : Value}
    (hg : st.get r = .row true t xs) (hrow : rowAt t xs p = (ok, ⟨e, ys⟩)) (hok : bO ok) (hi : i < ys.length) (hf : f < e.size) (hv : af st.get g (.pe r p i f) v) :
    ∃ ad n cap, (g r).H p = .slice (some ad) n cap ∧ v = .pointer (some (ad.add (i * e.size + f))) ∧ ad.spot = none ∧ bN t xs (g r).H ad.block ∧ cap ≠ 0 ∧
      (∃ arr te, w.heap[ad.block]? = some (.cells arr te (0, 0)) ∧ ad.off + (i * e.size + f) < arr.size) ∧ cf w true t xs (g r).H ∧ dj t xs (g r).H ∧
      cf w true e ys (fun q => (g r).H (p ++ q)) ∧ dj e ys (fun q => (g r).H (p ++ q)) := by
  have hr := R.roots r
  unfold bJ at hr
  rw [hg] at hr
  obtain ⟨hr1, hr2⟩ := hr
  obtain ⟨c1, c2, c3, c4⟩ := ic p t xs (g r).H ok e ys hrow hok hr1
  rw [af] at hv
  obtain ⟨ad, n, cap, h1, h2⟩ := hv.2 t e (by rw [hg]; rfl) c2
  rcases c1 with ⟨h3, h4⟩ | ⟨ad', cap', h3, hle, hbk, hx⟩
  · rw [h4] at hi; simp at hi
  · have h3' : (g r).H p = .slice (some ad') ys.length cap' := by simpa using h3
    rw [h1] at h3'
    injection h3' with e1 _ e3
    injection e1 with e1
    subst e1; subst e3
    have hc : cap ≠ 0 := by omega
    obtain ⟨k1, arr, te, k2, k3⟩ := hbk rfl hc
    refine ⟨ad, n, cap, h1, h2, k1, c3 _ (mM (H := fun q => (g r).H (p ++ q)) ⟨ad, _, _, by simpa using h1, hc, rfl⟩), hc, ⟨arr, te, k2, ?_⟩, hr1, hr2, .inr ⟨ad, cap, h3, hle, hbk, hx⟩, c4 hr2⟩
    have : (i + 1) * e.size ≤ cap * e.size := Nat.mul_le_mul_right _ (by omega)
    rw [Nat.add_mul] at this
    omega
theorem kS {ad : Addr} (h : ad.spot = none) (n : Nat) : ad.add n = ⟨ad.block, ad.off + n, none⟩ := by
  have : ad = ⟨ad.block, ad.off, none⟩ := by cases ad; simp only at h; subst h; rfl
  rw [this, Addr.add_lit]
theorem sn {t : TypeId} {x y : Operand} {vv : AV} (ho : o.op = .store t x y) (hct : P.cellsOf t = 1) (R : Rel w0 st g born (a :: as) w) {r : Nat} {p : Path} {i f : Nat} {t' e : Ty} {xs : List (den t')} {ys : List (den e)} {ok : List Tst} {q : List (Nat × Option Nat)} {ok' : List Tst}
    (hx : af st.get g (.pe r p i f) (a.eval x)) (hy : af st.get g vv (a.eval y)) (hg : st.get r = .row true t' xs) (hrow : rowAt t' xs p = (ok, ⟨e, ys⟩)) (hok : bO ok) (hi : i < ys.length)
    (hfit : dk vv (cellAt e (ys.getD i (b6 e)) f).1 = true) (hq : ∀ j r' p t xs, st.get j = .pend r' p t xs → r' ≠ r) :
    dJ P o a.eval w (fj w0 st born (a :: as) { ok := ok', v := .tup [], upd := [(r, jz t' xs p i f (eZ vv))], quiet := q }) := by
  have hf : f < e.size := mE e f vv (by rw [← iG e (ys.getD i (b6 e)) f]; exact hfit)
  obtain ⟨ad, n, cap, h1, h2, h3, h4, hc, ⟨arr, te, h5, h6⟩, h7, h8, h9, h10⟩ := mH R hg hrow hok hi hf hx
  have hone : (a.eval y).oneCell' = true := by
    cases vv <;> first
      | (rw [af] at hy; rw [hy]; rfl)
      | (exfalso; generalize (cellAt e (ys.getD i (b6 e)) f).1 = c at hfit; cases c <;> simp [dk] at hfit)
  have hrun := tK (P := P) (w := w) (t := t) (ad := ad.add (i * e.size + f)) (v := a.eval y) (arr := arr) (te := te) hct hone (by rw [eP]; exact h5) (kQ h3 _) (by rw [uh]; exact h6)
  rw [← h2] at hrun
  have hsame : du [(i, f)] (fun q => (g r).H (p ++ (i, f) :: q)) (fun q => (g r).H (p ++ q)) = fun q => (g r).H (p ++ q) := jJ [(i, f)] (fun q => (g r).H (p ++ q))
  have hcell : w.cell? (ad.add (i * e.size + f)) = some arr[ad.off + (i * e.size + f)] := by
    rw [kS h3, cell_of_row _ _ _ _ _ _ h5]; simp [h6]
  have hS := o8 (w := w) (N := fun q => (g r).H (p ++ (i, f) :: q)) (v := a.eval y) (G := eZ vv) h7 h8 hrow hok hi hf h1
    (by
      rw [hsame]
      have hnew : (fun k => (w.setCell (ad.add (i * e.size + f)) (a.eval y)).cell? (ad.add (i * e.size + k))) (0 + f) = some (a.eval y) := by
        simp only [Nat.zero_add]
        exact World.cell?_setCell_same w _ _ hcell
      generalize (cellAt e (ys.getD i (b6 e)) f) = c at hfit ⊢
      obtain ⟨c, d⟩ := c
      cases c <;> simp only [dk] at hfit <;> cases vv <;> simp only [Bool.false_eq_true] at hfit
      all_goals (rw [af] at hy)
      · have hk := of_decide_eq_true hfit
        subst hk
        rw [hy] at hnew
        rw [hy]; exact hnew
      · rw [hy] at hnew; rw [hy]; exact hnew
      · rw [hy] at hnew; rw [hy]; exact hnew
      · rw [hy] at hnew; rw [hy]; exact hnew)
    (by
      generalize (cellAt e (ys.getD i (b6 e)) f) = c at hfit ⊢
      obtain ⟨c, d⟩ := c
      cases c <;> first | (simp [dk] at hfit; done) | trivial)
    (fun b hb => by
      unfold ki at hb
      generalize (cellAt e (ys.getD i (b6 e)) f) = c at hfit hb
      obtain ⟨c, d⟩ := c
      cases c <;> first | (simp [dk] at hfit; done) | exact hb.elim)
  have hpp : du (p ++ [(i, f)]) (fun q => (g r).H (p ++ (i, f) :: q)) (g r).H = (g r).H := by
    rw [oh, hsame, jJ]
  obtain ⟨s1, s2, s3⟩ := hS
  have R' := py (st' := st.bB [(r, jz t' xs p i f (eZ vv))]) (l := []) (cut := none) (v := a.eval y) R hg (by simp) (fun j r' p t xs e => ⟨fun e' => absurd e' (hq j r' p t xs e), fun x hx => by cases hx⟩) rfl
    (fun x => by
      show (st.eG r _).get x = _
      rw [eR]
      by_cases e : x = r
      · simp only [e, if_true]; rfl
      · simp [e, zN]) (.inl ⟨rfl, hpp⟩) (by rw [eP]; exact h4) (kQ h3 _) s1 s2 (fun b hb => by
      rcases s3 b hb with h | h
      · exact .inl h
      · unfold ki at h
        generalize (cellAt e (ys.getD i (b6 e)) f) = c at hfit h
        obtain ⟨c, d⟩ := c
        cases c <;> first | (simp [dk] at hfit; done) | exact h.elim)
  exact ng ho hrun ⟨_, born, R', jG _ _, fun r h => by simp [AV.roots, AV.ai] at h, fun r h => .inl h, fun r h => h⟩
theorem jb {t : TypeId} {x y : Operand} (ho : o.op = .store t x y) (hct : P.cellsOf t = 1) (R : Rel w0 st g born (a :: as) w) {r : Nat} {p : Path} {i f : Nat} {t' e ec : Ty} {xs : List (den t')} {ys : List (den e)} {ok : List Tst} {q : List (Nat × Option Nat)} {ok' : List Tst}
    {l : List Nat} {zs : List (den ec)} {N : Path → Value} {upd : List (Nat × aD)}
    (hx : af st.get g (.pe r p i f) (a.eval x)) (hg : st.get r = .row true t' xs) (hrow : rowAt t' xs p = (ok, ⟨e, ys⟩)) (hok : bO ok) (hi : i < ys.length)
    {d : List (den ec)} (hc0 : cellAt e (ys.getD i (b6 e)) f = ⟨.sl ec, d⟩) (hrl : r ∉ l) (hq : ∀ j r' p t xs, st.get j = .pend r' p t xs → (r' = r → j ∈ l) ∧ ∀ x ∈ l, r' ≠ x)
    (hN : N [] = a.eval y) (hN1 : cf w true ec zs N) (hN2 : dj ec zs N) (hN3 : ∀ b, bN ec zs N b → bN ec d (fun q => (g r).H (p ++ (i, f) :: q)) b ∨ ∃ x ∈ l, Own st.get g x b)
    (hupd : ∀ x, (st.bB upd).get x = if x = r then jz t' xs p i f (mR ec zs) else if x ∈ l then .dead else st.get x) :
    dJ P o a.eval w (fj w0 st born (a :: as) { ok := ok', v := .tup [], upd := upd, cut := some (r, p.length + 1), quiet := q }) := by
  have hf : f < e.size := pM e f ec (by rw [← iG e (ys.getD i (b6 e)) f, hc0])
  obtain ⟨ad, n, cap, h1, h2, h3, h4, hc, ⟨arr, te, h5, h6⟩, h7, h8, h9, h10⟩ := mH R hg hrow hok hi hf hx
  have hone : (a.eval y).oneCell' = true := by
    rw [← hN]
    rcases hN1 with ⟨h, _⟩ | ⟨_, _, h, _⟩ <;> rw [h] <;> rfl
  have hrun := tK (P := P) (w := w) (t := t) (ad := ad.add (i * e.size + f)) (v := a.eval y) (arr := arr) (te := te) hct hone (by rw [eP]; exact h5) (kQ h3 _) (by rw [uh]; exact h6)
  rw [← h2] at hrun
  have hcell : w.cell? (ad.add (i * e.size + f)) = some arr[ad.off + (i * e.size + f)] := by
    rw [kS h3, cell_of_row _ _ _ _ _ _ h5]; simp [h6]
  have hget : ys[i]? = some (ys.getD i (b6 e)) := ed hi
  have hownR : ∀ b, Own st.get g r b ↔ bN t' xs (g r).H b := fun b => by unfold Own; rw [hg]
  have hold : ∀ b, bN ec d (fun q => (g r).H (p ++ (i, f) :: q)) b ↔ kg e (ys.getD i (b6 e)) f (atI (fun q => (g r).H (p ++ q)) i) 0 b := by
    intro b
    unfold kg
    rw [hc0]
    simp only [Nat.zero_add]
    exact Iff.rfl
  have hoad : ∀ b, bN ec d (fun q => (g r).H (p ++ (i, f) :: q)) b → b ≠ ad.block := by
    intro b hb e'
    subst e'
    exact h10.1 ad n cap i _ (by simpa using h1) hc hget (dc e _ _ 0 f _ hf ((hold _).1 hb))
  have hNad : ∀ b, bN ec zs N b → b ≠ ad.block := by
    intro b hb
    rcases hN3 b hb with h | ⟨z, hz, h⟩
    · exact hoad b h
    · intro e'; subst e'
      exact R.sep z r _ (fun e => hrl (e ▸ hz)) h ((hownR _).2 h4)
  have hoth : ∀ b, b ≠ ad.block → (w.setCell (ad.add (i * e.size + f)) (a.eval y)).heap[b]? = w.heap[b]? := fun b hb => heap_setCell_other w _ b _ (by rw [eP]; exact hb)
  have hN1' : cf (w.setCell (ad.add (i * e.size + f)) (a.eval y)) true ec zs N := iI (fun b hb => hoth b (hNad b hb)) hN1
  have hput : mR ec zs (.sl ec) d = zs := by
    have hd : decEq ec ec = .isTrue rfl := by
      cases decEq ec ec with
      | isTrue h => rfl
      | isFalse h => exact absurd rfl h
    simp only [mR, hd, gF]
  have hat : atI (du [(i, f)] N (fun q => (g r).H (p ++ q))) i f = N := by
    funext q
    show (if i = i ∧ f = f then N q else _) = N q
    simp
  have hS := o8 (w := w) (N := N) (v := a.eval y) (G := mR ec zs) h7 h8 hrow hok hi hf h1
    (by
      rw [hc0]
      simp only [Nat.zero_add, hput]
      refine ⟨?_, ?_⟩
      · rw [hat, hN]
        exact World.cell?_setCell_same w _ _ hcell
      · rw [hat]; exact hN1')
    (by
      rw [hc0]
      simp only [Nat.zero_add, hput]
      show dj ec zs (atI _ i f)
      rw [hat]; exact hN2)
    (fun b hb => by
      unfold ki at hb
      rw [hc0] at hb
      simp only [Nat.zero_add, hput] at hb
      have hb : bN ec zs (atI (du [(i, f)] N (fun q => (g r).H (p ++ q))) i f) b := hb
      rw [hat] at hb
      rcases hN3 b hb with h | ⟨z, hz, h⟩
      · exact .inl ((hold b).1 h)
      · exact .inr fun h' => R.sep z r b (fun e => hrl (e ▸ hz)) h ((hownR b).2 h'))
  obtain ⟨s1, s2, s3⟩ := hS
  have R' := py (st' := (st.bB upd).cut (some (r, p.length + 1))) (l := l) (cut := some (r, p.length + 1)) (N := N) (v := a.eval y) R hg hrl hq (tU _ _)
    (fun x => by
      rw [rD, hupd]
      by_cases e : x = r
      · simp only [e, if_true]; rfl
      · by_cases hx : x ∈ l
        · simp only [e, hx, if_false, if_true]; rfl
        · simp only [e, hx, if_false]) (.inr rfl) (by rw [eP]; exact h4) (kQ h3 _) s1 s2 (fun b hb => by
      rcases s3 b hb with h | h
      · exact .inl h
      · unfold ki at h
        rw [hc0] at h
        simp only [Nat.zero_add, hput] at h
        have h : bN ec zs (atI (du [(i, f)] N (fun q => (g r).H (p ++ q))) i f) b := h
        rw [hat] at h
        rcases hN3 b h with h | h
        · refine .inl ?_
          exact (ic p t' xs (g r).H ok e ys hrow hok h7).2.2.1 b (.inr ⟨i, _, hget, dc e _ _ 0 f b hf ((hold b).1 h)⟩)
        · exact .inr h)
  exact ng ho hrun ⟨_, born, R', jG _ _, fun r h => by simp [AV.roots, AV.ai] at h, fun r h => .inl h, fun r h => h⟩
end
end Go.Am
end
section
/- Soundness: the store's step, put together. -/
namespace Go.Am
attribute [local instance] D.real
section
variable {P : Program} {w0 : cR} {w w' : World} {st st' : St} {g g' : bn} {born : Nat → Prop} {a : Act} {as acts : List Act} {o : Oper} {base : Nat}
theorem zB (R : Rel w0 st g born acts w) {r : Nat} {cs cs' : List AV} {arr arr' : Array Value} {te : TypeId} (hg : st.get r = .var cs) (hh : w.heap[(g r).b]? = some (.cells arr te (0, 0)))
    (hA : ak st.get g cs' arr'.toList) (h1 : ∀ x ∈ arr'.toList, x.oneCell' = true) (hb : ∀ x ∈ AV.ai cs', born x) :
    Rel w0 (st.eG r (.var cs')) g born acts (w.setRow (g r).b arr') := by
  have hown : Own st.get g r (g r).b := by unfold Own; rw [hg]
  have hlow := R.low r _ hown
  have hgr : (st.eG r (.var cs')).get r = .var cs' := cQ _ _ _
  have hold : ∀ x, jO st.get (st.eG r (.var cs')).get g g x fun _ => True := by
    intro x
    by_cases e : x = r
    · subst e
      exact ⟨fun t ht => by rw [hgr] at ht; simp [cz] at ht, fun _ => ⟨by rw [hg]; rfl, rfl⟩⟩
    · exact ⟨fun t ht => by rw [bH e] at ht; exact ⟨ht, fun _ _ => rfl⟩, fun hv => by rw [bH e] at hv; exact ⟨hv, rfl⟩⟩
  have hoth : ∀ b, b ≠ (g r).b → (w.setRow (g r).b arr').heap[b]? = w.heap[b]? := fun b hb => setRow_other w _ b _ hb
  have hownO : ∀ x b, x ≠ r → (Own (st.eG r (.var cs')).get g x b ↔ Own st.get g x b) := fun x b hx => mh (bH hx) rfl fun _ _ _ _ _ => rfl
  have hownR : ∀ b, Own (st.eG r (.var cs')).get g r b → b = (g r).b := fun b h => by unfold Own at h; rw [hgr] at h; exact h
  refine jy (fun x => x = r) R ⟨rfl, rfl, rfl, by simp, fun k hk => hoth k (fun e => hlow (e ▸ hk)), fun k o h1 h2 => (hoth k fun e => by rw [jK R (e ▸ hown) o h1] at h2; cases h2).trans h1⟩ rfl (fun x _ => hold x) (fun x hx => ⟨bH hx, rfl, fun b hbo => hoth b fun e => by subst e; exact R.sep x r _ hx hbo hown⟩)
    (fun x r' p t xs hx e e' => ?_) (fun x hx => ?_) (fun x y b hx hxy h h' => ?_) (fun x b hx h => ?_) (fun _ h => h) (fun x hx y hy => ?_) (fun x hx _ => ?_)
  · have h := R.roots x
    unfold bJ at h
    rw [e] at h
    obtain ⟨_, _, t', xs', h3, _⟩ := h
    rw [e', hg] at h3; cases h3
  · subst hx
    unfold bJ
    rw [hgr]
    exact ⟨arr', te, setRow_heap w _ arr arr' te (0, 0) hh, h1, dg _ _ (fun x _ => hold x) hA⟩
  · subst hx
    have := hownR b h
    subst this
    exact R.sep x y _ hxy hown ((hownO y _ fun e => hxy e.symm).1 h')
  · subst hx; rw [hownR b h]; exact hlow
  · subst hx; rw [hgr] at hy; exact hb y hy
  · subst hx; exact R.alive x (by rw [hg]; simp)
theorem sc : ∀ (p : Path) (t : Ty) (xs : List (den t)) (ok : List Tst) (e ec : Ty) (ys : List (den e)) (d : List (den ec)) (i f : Nat), rowAt t xs p = (ok, ⟨e, ys⟩) → cellAt e (ys.getD i (b6 e)) f = ⟨.sl ec, d⟩ → bO ok →
    (rowAt t xs (p ++ [(i, f)])).2 = ⟨ec, d⟩
  | [], t, xs, ok, e, ec, ys, d, i, f, h, hc, _ => by
    simp only [rowAt, Prod.mk.injEq, Sigma.mk.injEq] at h
    obtain ⟨-, rfl, h⟩ := h
    obtain rfl := eq_of_heq h
    have hc' : cellAt t (D.rd xs i (b6 t)) f = ⟨.sl ec, d⟩ := hc
    simp only [List.nil_append, rowAt, hc']
  | (j, k) :: p, t, xs, ok, e, ec, ys, d, i, f, h, hc, hok => by
    simp only [rowAt] at h
    simp only [List.cons_append, rowAt]
    generalize cellAt t (D.rd xs j (b6 t)) k = c at h ⊢
    obtain ⟨c, dd⟩ := c
    cases c with
    | sl e2 =>
      simp only at h ⊢
      generalize hra : rowAt e2 dd p = ra at h
      obtain ⟨ok', r⟩ := ra
      simp only [Prod.mk.injEq] at h
      obtain ⟨rfl, rfl⟩ := h
      have := sc p e2 dd ok' e ec ys d i f hra hc (ag.1 hok).2
      generalize rowAt e2 dd (p ++ [(i, f)]) = z at this ⊢
      obtain ⟨z1, z2⟩ := z
      exact this
    | _ => simp only [Prod.mk.injEq] at h; obtain ⟨rfl, _⟩ := h; exact (bg hok).elim
theorem iP {st : St} {q : List (Nat × Option Nat)} {r : Nat} (h : cH st.rs q = true) (hm : (r, none) ∈ q) : ∀ j r' p t xs, st.get j = .pend r' p t xs → r' ≠ r := by
  intro j r' p t xs e er
  have := List.all_eq_true.1 h (r, none) hm
  have := mY (st := st) this e er
  cases this
theorem uT (st : St) (r : Nat) (x : aD) (y : Nat) : (st.bB [(r, x)]).get y = if y = r then x else if y ∈ ([] : List Nat) then .dead else st.get y := by
  show (st.eG r x).get y = _
  rw [eR]; simp
theorem uJ (st : St) (r r2 : Nat) (x : aD) (y : Nat) : (st.bB [(r2, .dead), (r, x)]).get y = if y = r then x else if y ∈ [r2] then .dead else st.get y := by
  show ((st.eG r2 .dead).eG r x).get y = _
  rw [eR, eR]; simp
theorem rT {t : TypeId} {x y : Operand} (ho : o.op = .store t x y) (hct : P.cellsOf t = 1) (R : Rel w0 st g born (a :: as) w) {r : Nat} {p : Path} {i f : Nat} {t' : Ty} {xs : List (den t')} {vv : AV}
    (hx : af st.get g (.pe r p i f) (a.eval x)) (hy : af st.get g vv (a.eval y)) (hg : st.get r = .row true t' xs)
    (hok : bO (hZ vv r p i f t' xs st.get).ok) (hq : cH st.rs (hZ vv r p i f t' xs st.get).quiet = true) : dJ P o a.eval w (fj w0 st born (a :: as) (hZ vv r p i f t' xs st.get)) := by
  revert hq
  unfold hZ at hok ⊢
  generalize hrow : Go.Am.rowAt t' xs p = rr at hok
  obtain ⟨ok, e, ys⟩ := rr
  simp only at hok ⊢
  have hce : cellAt e (D.rd ys i (b6 e)) f = cellAt e (ys.getD i (b6 e)) f := rfl
  rw [hce] at hok ⊢
  generalize hcc : cellAt e (ys.getD i (b6 e)) f = c at hok
  obtain ⟨c, d⟩ := c
  have key : ∀ (c : Ty) (d : den c), cellAt e (ys.getD i (b6 e)) f = ⟨c, d⟩ → bO (ok ++ [.d (D.ltN i (D.len ys)), .s (dk vv c)]) → cH st.rs [(r, none)] = true →
      dJ P o a.eval w (fj w0 st born (a :: as) { ok := ok ++ [.d (D.ltN i (D.len ys)), .s (dk vv c)], v := .tup [], upd := [(r, jz t' xs p i f (eZ vv))], quiet := [(r, none)] }) := by
    intro c d hcc hok hq
    obtain ⟨h1, h2⟩ := aP.1 hok
    obtain ⟨h2, h3⟩ := ag.1 h2
    have h2 : i < ys.length := of_decide_eq_true (show decide (i < ys.length) = true from h2)
    have h3 : dk vv c = true := (ag.1 h3).1
    exact sn ho hct R hx hy hg hrow h1 h2 (by rw [hcc]; exact h3) (iP hq (by simp))
  cases c with
  | int k => simp only at hok ⊢; exact key _ d hcc hok
  | bool => simp only at hok ⊢; exact key _ d hcc hok
  | str => simp only at hok ⊢; exact key _ d hcc hok
  | pair c1 c2 => simp only at hok ⊢; exact key _ d hcc hok
  | unit => simp only at hok ⊢; exact key _ d hcc hok
  | sl ec =>
    simp only at hok ⊢
    unfold my at hok ⊢
    split at hok
    ·
      intro hq
      obtain ⟨h1, h2⟩ := aP.1 hok
      have h2 : i < ys.length := of_decide_eq_true (show decide (i < ys.length) = true from (ag.1 h2).1)
      rw [af] at hy
      exact jb (l := []) (zs := ([] : List (den ec))) (N := fun _ => .slice none 0 0) ho hct R hx hg hrow h1 h2 hcc (by simp) (fun j r' p t xs e => ⟨fun e' => absurd e' (iP hq (by simp) j r' p t xs e), fun x hx => by cases hx⟩)
        hy.symm (n5 w ec).1 (n5 w ec).2 (fun b hb => (qe ec b hb).elim) (uT st r _)
    · next r2 q sub =>
      cases hrr : Nat.beq r2 r with
      | true =>
        have hrr := dC hrr
        subst hrr
        rw [hrr] at hok
        simp only [cond_true] at hok ⊢
        generalize hrow2 : Go.Am.rowAt t' xs q = rr2 at hok
        obtain ⟨ok2, e2, ys2⟩ := rr2
        simp only at hok ⊢
        split at hok
        · next he _ =>
          intro hq
          subst he
          simp only [gF] at hok hq ⊢
          obtain ⟨h1, h3⟩ := aP.1 hok
          obtain ⟨h1, h2⟩ := aP.1 h1
          obtain ⟨h1, h4⟩ := aP.1 h1
          have h4 : i < ys.length := of_decide_eq_true (show decide (i < ys.length) = true from (ag.1 h4).1)
          have h3 : q = p ++ [(i, f)] := of_decide_eq_true (show decide (q = p ++ [(i, f)]) = true from (ag.1 h3).1)
          subst h3
          have hsn := sc p t' xs ok e e2 ys d i f hrow hcc h1
          rw [hrow2] at hsn
          simp only [Sigma.mk.injEq, heq_eq_eq, true_and] at hsn
          subst hsn
          have hro := R.roots r2
          unfold bJ at hro
          rw [hg] at hro
          obtain ⟨k1, k2, _, k4⟩ := ic (p ++ [(i, f)]) t' xs (g r2).H ok2 e2 ys2 hrow2 h2 hro.1
          rw [af] at hy
          have hsub : oW e2.size sub ((g r2).H (p ++ [(i, f)] ++ [])) (a.eval y) := by
            rw [List.append_nil]; exact hy.2 t' e2 (by rw [hg]; rfl) k2
          exact jb (l := []) (zs := fL sub ys2) (N := pz sub (a.eval y) fun q => (g r2).H (p ++ [(i, f)] ++ q)) ho hct R hx hg hrow h1 h4 hcc (by simp) (fun j r' p t xs e => ⟨fun e' => absurd e' (iP hq (by simp) j r' p t xs e), fun x hx => by cases hx⟩)
            rfl (kx k1 hsub) (g6 hsub (k4 hro.2)) (fun b hb => .inl (by
              have := hU hsub hb
              have e : (fun q => (g r2).H (p ++ (i, f) :: q)) = fun q => (g r2).H (p ++ [(i, f)] ++ q) := by funext q; simp
              rw [e]; exact this)) (uT st r2 _)
        · exact (bg hok).elim
      | false =>
        have hne : r2 ≠ r := by
          intro e; subst e; simp at hrr
        rw [hrr] at hok
        simp only [cond_false] at hok ⊢
        split at hok
        · next e2 ys2 hg2 =>
          split at hok
          · next he _ =>
            intro hq
            subst he
            simp only [gF] at hok hq ⊢
            obtain ⟨h1, h4⟩ := aP.1 hok
            have h4 : i < ys.length := of_decide_eq_true (show decide (i < ys.length) = true from (ag.1 h4).1)
            have hro := R.roots r2
            unfold bJ at hro
            rw [hg2] at hro
            rw [af] at hy
            have hsub : oW e2.size sub ((g r2).H []) (a.eval y) := hy.2 e2 e2 (by rw [hg2]; rfl) rfl
            refine jb (l := [r2]) (zs := fL sub ys2) (N := pz sub (a.eval y) (g r2).H) ho hct R hx hg hrow h1 h4 hcc (by simp; exact fun e => hne e.symm) (fun j r' p t xs e => ⟨fun e' => absurd e' (iP hq (by simp) j r' p t xs e), fun x hx => ?_⟩)
              rfl (kx hro.1 hsub) (g6 hsub hro.2) (fun b hb => .inr ⟨r2, List.mem_singleton.2 rfl, by unfold Own; rw [hg2]; exact hU hsub hb⟩) (uJ st r r2 _)
            rw [List.mem_singleton.1 hx]
            exact iP hq (by simp) j r' p t xs e
          · exact (bg hok).elim
        · next r' p' e2 ys2 hg2 =>
          split at hok
          · next he _ =>
            intro hq
            subst he
            simp only [gF] at hok hq ⊢
            obtain ⟨h1, h3⟩ := aP.1 hok
            obtain ⟨h1, h4⟩ := aP.1 h1
            have h4 : i < ys.length := of_decide_eq_true (show decide (i < ys.length) = true from (ag.1 h4).1)
            obtain ⟨h5, h6⟩ := ag.1 h3
            have h5 : r' = r := dC h5
            have h6 : p' = p ++ [(i, f)] := of_decide_eq_true (show decide (p' = p ++ [(i, f)]) = true from (ag.1 h6).1)
            subst h5; subst h6
            have hro := R.roots r2
            unfold bJ at hro
            rw [hg2] at hro
            obtain ⟨k1, k2, t2, xs2, k3, k4, k5⟩ := hro
            rw [af] at hy
            have hsub : a.eval y = (g r2).H [] := hy.2 e2 e2 (by rw [hg2]; rfl) rfl
            have hflatsep : dj e2 ys2 (g r2).H := ⟨fun aa n c i x _ _ _ hb => lq e2 x _ 0 _ k2 hb, fun i j x y b _ _ _ hb => (lq e2 x _ 0 _ k2 hb).elim, fun i x _ => uP e2 x _ 0 k2⟩
            refine jb (l := [r2]) (zs := ys2) (N := (g r2).H) ho hct R hx hg hrow h1 h4 hcc (by simp; exact fun e => hne e.symm) (fun j r'' p t xs e => ⟨fun e' => ?_, fun x hx => ?_⟩)
              hsub.symm k1 hflatsep (fun b hb => ?_) (uJ st r' r2 _)
            · have := List.all_eq_true.1 hq (r', some r2) (by simp)
              have := mY (st := st) this e e'
              injection this with this
              rw [this]; exact List.mem_singleton.2 rfl
            · rw [List.mem_singleton.1 hx]
              intro e'
              have h := R.roots j
              unfold bJ at h
              rw [e] at h
              obtain ⟨_, _, t', xs', h3, _⟩ := h
              rw [e', hg2] at h3; cases h3
            · by_cases hh : lW g r' (p ++ [(i, f)]) b
              · obtain ⟨ad, n, c, q1, q2, q3⟩ := hh
                exact .inl (.inl ⟨ad, n, c, q1, q2, q3⟩)
              · exact .inr ⟨r2, List.mem_singleton.2 rfl, by unfold Own; rw [hg2]; exact ⟨hb, hh⟩⟩
          · exact (bg hok).elim
        · exact (bg hok).elim
    · exact (bg hok).elim
theorem yl (R : Rel w0 st g born acts w) {r i f n cap : Nat} {t' : Ty} {xs : List (den t')} {vv : AV} {v : Value} {ad : Addr} (hg : st.get r = .row true t' xs) (had : (g r).H [] = .slice (some ad) n cap) (hi : i < xs.length) (hy : af st.get g vv v)
    (hfit : dk vv (cellAt t' (xs.getD i (b6 t')) f).1 = true) (hq : ∀ j r' p t xs, st.get j = .pend r' p t xs → r' ≠ r)
    (hfr : st'.fr = st.fr) (hget : ∀ x, st'.get x = if x = r then .row true t' (xs.set i (ck t' (xs.getD i (b6 t')) f (eZ vv))) else st.get x) :
    Rel w0 st' g born acts (w.setCell (ad.add (i * t'.size + f)) v) ∧ ad.spot = none ∧ ∃ arr te, w.heap[ad.block]? = some (.cells arr te (0, 0)) ∧ ad.off + (i * t'.size + f) < arr.size := by
  have hx : af st.get g (.pe r [] i f) (.pointer (some (ad.add (i * t'.size + f)))) := by
    rw [af]
    refine ⟨⟨_, rfl⟩, fun t e ht he => ?_⟩
    rw [hg] at ht
    injection ht with ht
    subst ht
    injection he with he
    subst he
    exact ⟨ad, n, cap, had, rfl⟩
  have hf : f < t'.size := mE t' f vv (by rw [← iG t' (xs.getD i (b6 t')) f]; exact hfit)
  have hrow : rowAt t' xs [] = ([], ⟨t', xs⟩) := rfl
  have hok : bO ([] : List Tst) := fun _ h => by cases h
  obtain ⟨ad', n', cap', h1, h2, h3, h4, hc, ⟨arr, te, h5, h6⟩, h7, h8, h9, h10⟩ := mH R hg hrow hok hi hf hx
  have e1 : ad' = ad := by
    rw [had] at h1
    injection h1 with h1
    injection h1 with h1
    exact h1.symm
  subst e1
  have hsame : du [(i, f)] (fun q => (g r).H ([] ++ (i, f) :: q)) (fun q => (g r).H ([] ++ q)) = fun q => (g r).H ([] ++ q) := jJ [(i, f)] (fun q => (g r).H ([] ++ q))
  have hcell : w.cell? (ad'.add (i * t'.size + f)) = some arr[ad'.off + (i * t'.size + f)] := by
    rw [kS h3, cell_of_row _ _ _ _ _ _ h5]; simp [h6]
  have hS := o8 (w := w) (N := fun q => (g r).H ([] ++ (i, f) :: q)) (v := v) (G := eZ vv) h7 h8 hrow hok hi hf h1
    (by
      rw [hsame]
      have hnew : (fun k => (w.setCell (ad'.add (i * t'.size + f)) v).cell? (ad'.add (i * t'.size + k))) (0 + f) = some v := by
        simp only [Nat.zero_add]
        exact World.cell?_setCell_same w _ _ hcell
      generalize (cellAt t' (xs.getD i (b6 t')) f) = c at hfit ⊢
      obtain ⟨c, d⟩ := c
      cases c <;> simp only [dk] at hfit <;> cases vv <;> simp only [Bool.false_eq_true] at hfit
      all_goals (rw [af] at hy)
      · have hk := of_decide_eq_true hfit
        subst hk
        rw [hy] at hnew
        rw [hy]; exact hnew
      · rw [hy] at hnew; rw [hy]; exact hnew
      · rw [hy] at hnew; rw [hy]; exact hnew
      · rw [hy] at hnew; rw [hy]; exact hnew)
    (by
      generalize (cellAt t' (xs.getD i (b6 t')) f) = c at hfit ⊢
      obtain ⟨c, d⟩ := c
      cases c <;> first | (simp [dk] at hfit; done) | trivial)
    (fun b hb => by
      unfold ki at hb
      generalize (cellAt t' (xs.getD i (b6 t')) f) = c at hfit hb
      obtain ⟨c, d⟩ := c
      cases c <;> first | (simp [dk] at hfit; done) | exact hb.elim)
  have hpp : du ([] ++ [(i, f)]) (fun q => (g r).H ([] ++ (i, f) :: q)) (g r).H = (g r).H := by
    rw [oh, hsame, jJ]
  obtain ⟨s1, s2, s3⟩ := hS
  have R' := py (st' := st') (l := []) (cut := none) (v := v) R hg (by simp) (fun j r' p t xs e => ⟨fun e' => absurd e' (hq j r' p t xs e), fun x hx => by cases hx⟩) hfr
    (fun x => by
      rw [hget]
      by_cases e : x = r
      · simp only [e, if_true]; rfl
      · simp [e, zN]) (.inl ⟨rfl, hpp⟩) (by rw [eP]; exact h4) (kQ h3 _) s1 s2 (fun b hb => by
      rcases s3 b hb with h | h
      · exact .inl h
      · unfold ki at h
        generalize (cellAt t' (xs.getD i (b6 t')) f) = c at hfit h
        obtain ⟨c, d⟩ := c
        cases c <;> first | (simp [dk] at hfit; done) | exact h.elim)
  have hgg : eX g r ⟨(g r).b, du ([] ++ [(i, f)]) (fun q => (g r).H ([] ++ (i, f) :: q)) (g r).H⟩ = g := by
    rw [hpp]
    funext x
    unfold eX
    split
    · next e => rw [e]
    · rfl
  rw [hgg] at R'
  exact ⟨R', h3, arr, te, h5, h6⟩
theorem tJ {r i n cap : Nat} {t' : Ty} {ad : Addr} (hgH : (g r).H [] = .slice (some ad) n cap) (te : TypeId) : ∀ (vs : List AV) (us : List Value) (f : Nat) (xs : List (den t')) (st st' : St) (w : World) (arr : Array Value),
    Rel w0 st g born acts w → st.get r = .row true t' xs → i < xs.length → ak st.get g vs us → jd t' f vs = true → (∀ j r' p t xs, st.get j = .pend r' p t xs → r' ≠ r) → w.heap[ad.block]? = some (.cells arr te (0, 0)) →
    ad.off + (i * t'.size + f) + us.length ≤ arr.size → ad.spot = none → st'.fr = st.fr → (∀ x, st'.get x = if x = r then .row true t' (xs.set i (mX t' (xs.getD i (b6 t')) f vs)) else st.get x) →
    Rel w0 st' g born acts (w.setRow ad.block (arr.toList.take (ad.off + (i * t'.size + f)) ++ us ++ arr.toList.drop (ad.off + (i * t'.size + f) + us.length)).toArray)
  | [], us, f, xs, st, st', w, arr, R, hg, hi, hA, _, _, hh, _, _, hfr, hget => by
    have hu : us = [] := by rw [ak] at hA; exact hA
    subst hu
    have e0 : (arr.toList.take (ad.off + (i * t'.size + f)) ++ ([] : List Value) ++ arr.toList.drop (ad.off + (i * t'.size + f) + ([] : List Value).length)).toArray = arr := by
      simp only [List.append_nil, List.length_nil, Nat.add_zero, List.take_append_drop, Array.toArray_toList]
    rw [e0, setRow_self w ad.block arr te (0, 0) hh]
    refine lg R hfr fun x => ?_
    rw [hget]
    split
    · next e =>
      rw [e, hg]
      congr 1
      show xs.set i (xs.getD i (b6 t')) = xs
      refine List.ext_getElem? fun k => ?_
      rw [List.getElem?_set]
      split
      · next e2 =>
        subst e2
        first
          | (rw [if_pos hi]; exact (ed hi).symm)
          | exact (ed hi).symm
      · rfl
    · rfl
  | v :: vs, us, f, xs, st, st', w, arr, R, hg, hi, hA, hfit, hq, hh, hsz, hsp, hfr, hget => by
    rw [ak] at hA
    obtain ⟨u, us', rfl, hA1, hA2⟩ := hA
    generalize us' = us at hA2 hsz ⊢
    unfold jd at hfit
    simp only [Bool.and_eq_true] at hfit
    obtain ⟨f1, f2⟩ := hfit
    have f1 : dk v (cellAt t' (xs.getD i (b6 t')) f).1 = true := by rw [iG] at f1 ⊢; exact f1
    simp only [List.length_cons] at hsz
    have hxl : i < (xs.set i (ck t' (xs.getD i (b6 t')) f (eZ v))).length := by rw [List.length_set]; exact hi
    have hgetI : ∀ x, (st.eG r (.row true t' (xs.set i (ck t' (xs.getD i (b6 t')) f (eZ v))))).get x = if x = r then .row true t' (xs.set i (ck t' (xs.getD i (b6 t')) f (eZ v))) else st.get x := fun x => eR _ _ _ _
    obtain ⟨R1, _, arr0, te0, k1, k2⟩ := yl (st' := st.eG r (.row true t' (xs.set i (ck t' (xs.getD i (b6 t')) f (eZ v))))) R hg hgH hi hA1 f1 hq rfl hgetI
    have hflat : ∀ (vs : List AV) (us : List Value) (f' : Nat), ak st.get g vs us → jd t' f' vs = true → ak (st.eG r (.row true t' (xs.set i (ck t' (xs.getD i (b6 t')) f (eZ v))))).get g vs us := by
      intro vs
      induction vs with
      | nil => intro us f' h _; rw [ak] at h ⊢; exact h
      | cons a vs ih =>
        intro us f' h hf
        rw [ak] at h ⊢
        obtain ⟨b, us', e, h1, h3⟩ := h
        unfold jd at hf
        simp only [Bool.and_eq_true] at hf
        refine ⟨b, us', e, ?_, ih us' (f' + 1) h3 hf.2⟩
        have h2 := hf.1
        generalize (cellAt t' (b6 t') f').1 = c at h2
        cases c <;> simp only [dk] at h2 <;> cases a <;> simp only [Bool.false_eq_true] at h2
        all_goals (rw [af] at h1 ⊢; exact h1)
    have hwc : w.setCell (ad.add (i * t'.size + f)) u = w.setRow ad.block (arr.setIfInBounds (ad.off + (i * t'.size + f)) u) := by
      rw [kS hsp]
      exact setCell_eq_setRow w _ _ arr te (0, 0) u hh
    rw [hwc] at R1
    have hx1 : (xs.set i (ck t' (xs.getD i (b6 t')) f (eZ v))).getD i (b6 t') = ck t' (xs.getD i (b6 t')) f (eZ v) := by
      rw [List.getD_eq_getElem?_getD, List.getElem?_set, if_pos rfl, if_pos hi]; rfl
    have ih := tJ hgH te vs us (f + 1) (xs.set i (ck t' (xs.getD i (b6 t')) f (eZ v))) (st.eG r (.row true t' (xs.set i (ck t' (xs.getD i (b6 t')) f (eZ v))))) st' (w.setRow ad.block (arr.setIfInBounds (ad.off + (i * t'.size + f)) u)) (arr.setIfInBounds (ad.off + (i * t'.size + f)) u)
      R1 (cQ _ _ _) hxl (hflat vs us (f + 1) hA2 f2) f2 (fun j r' p t xs' e => by
        rw [hgetI] at e
        split at e
        · cases e
        · exact hq j r' p t xs' e) (setRow_heap w _ arr _ te (0, 0) hh) (by rw [Array.size_setIfInBounds]; omega) hsp hfr (fun x => by
        rw [hget, hgetI]
        split
        · rw [hx1, List.set_set]; rfl
        · rfl)
    rw [setRow_setRow] at ih
    have hl : (arr.setIfInBounds (ad.off + (i * t'.size + f)) u).toList.take (ad.off + (i * t'.size + (f + 1))) ++ us ++ (arr.setIfInBounds (ad.off + (i * t'.size + f)) u).toList.drop (ad.off + (i * t'.size + (f + 1)) + us.length) =
        arr.toList.take (ad.off + (i * t'.size + f)) ++ u :: us ++ arr.toList.drop (ad.off + (i * t'.size + f) + (us.length + 1)) := by
      have hlt : ad.off + (i * t'.size + f) < arr.toList.length := by simp; omega
      have hts : (arr.toList.set (ad.off + (i * t'.size + f)) u).take (ad.off + (i * t'.size + f) + 1) = arr.toList.take (ad.off + (i * t'.size + f)) ++ [u] := by
        rw [List.take_succ_eq_append_getElem (by rw [List.length_set]; exact hlt), List.take_set_of_le (Nat.le_refl _), List.getElem_set_self]
      rw [Array.toList_setIfInBounds, show ad.off + (i * t'.size + (f + 1)) = ad.off + (i * t'.size + f) + 1 by omega, hts, List.drop_set_of_lt (by omega), show ad.off + (i * t'.size + f) + 1 + us.length = ad.off + (i * t'.size + f) + (us.length + 1) by omega]
      simp
    rw [hl] at ih
    exact ih
theorem sH {t : TypeId} {x y : Operand} (ho : o.op = .store t x y) (R : Rel w0 st g born (a :: as) w) {r i f : Nat} {t' : Ty} {xs : List (den t')} {vs : List AV} {ok' : List Tst} {q : List (Nat × Option Nat)}
    (hx : af st.get g (.pe r [] i f) (a.eval x)) (hg : st.get r = .row true t' xs) (hk : fP P t = true) (hlen : vs.length = P.cellsOf t) (hne : vs ≠ []) (hfit : jd t' f vs = true) (hi : i < xs.length)
    (hA : ak st.get g vs (a.eval y).cells.toList) (hone : ∀ z ∈ (a.eval y).cells.toList, z.oneCell' = true) (hq : ∀ j r' p t xs, st.get j = .pend r' p t xs → r' ≠ r) :
    dJ P o a.eval w (fj w0 st born (a :: as) { ok := ok', v := .tup [], upd := [(r, .row true t' (xs.set i (mX t' (xs.getD i (b6 t')) f vs)))], quiet := q }) := by
  have hrow : rowAt t' xs [] = ([], ⟨t', xs⟩) := rfl
  have hok : bO ([] : List Tst) := fun _ h => by cases h
  have hlen1 := dx hA
  have hsz : ∀ (vs : List AV) (f : Nat), jd t' f vs = true → f + vs.length ≤ t'.size ∨ vs = [] := by
    intro vs
    induction vs with
    | nil => intro _ _; exact .inr rfl
    | cons v vs ih =>
      intro f h
      unfold jd at h
      simp only [Bool.and_eq_true] at h
      have h1 := mE t' f v (by rw [← iG t' (b6 t') f]; exact h.1)
      rcases ih (f + 1) h.2 with h2 | h2
      · left; simp only [List.length_cons]; omega
      · left; rw [h2]; simp only [List.length_cons, List.length_nil]; omega
  have hb : f + vs.length ≤ t'.size := (hsz vs f hfit).resolve_right hne
  have hpos : 0 < vs.length := List.length_pos_iff.2 hne
  obtain ⟨ad, n, cap, h1, h2, h3, h4, hc, ⟨arr, te, h5, h6⟩, h7, h8, h9, h10⟩ := mH R hg hrow hok hi (show f < t'.size by omega) hx
  have hx' : af st.get g (.pe r [] i (f + vs.length - 1)) (.pointer (some (ad.add (i * t'.size + (f + vs.length - 1))))) := by
    rw [af]
    refine ⟨⟨_, rfl⟩, fun t e ht he => ?_⟩
    rw [hg] at ht
    injection ht with ht
    subst ht
    injection he with he
    subst he
    exact ⟨ad, n, cap, h1, rfl⟩
  obtain ⟨ad', n', cap', q1, q2, q3, q4, qc, ⟨arr', te', q5, q6⟩, _⟩ := mH R hg hrow hok hi (show f + vs.length - 1 < t'.size by omega) hx'
  have e1 : ad' = ad := by
    rw [h1] at q1
    injection q1 with q1
    injection q1 with q1
    exact q1.symm
  subst e1
  rw [h5] at q5
  injection q5 with q5
  injection q5 with q5
  subst q5
  have hus : (a.eval y).cells.toList.length = vs.length := by omega
  have hbound : ad'.off + (i * t'.size + f) + (a.eval y).cells.toList.length ≤ arr.size := by omega
  have hst := run_storeCells_at P ad'.block (ad'.off + (i * t'.size + f)) te (a.eval y).cells.toList 0 arr w h5 (by omega) hone
  have hrun : (Instr.storeAt t (a.eval x) (a.eval y)).run P w = .ok () (w.setRow ad'.block (arr.toList.take (ad'.off + (i * t'.size + f)) ++ (a.eval y).cells.toList ++ arr.toList.drop (ad'.off + (i * t'.size + f) + (a.eval y).cells.toList.length)).toArray) := by
    rw [h2, kS h3]
    have hcs : (a.eval y).cells.size = P.cellsOf t := by simp at hus; omega
    simp only [Instr.storeAt, Instr.sureAddr, storeVar, Sem.run_bind, Sem.run_pure, Result.andThen_ok, jY hk, hcs]
    simp only [ne_eq, not_true_eq_false, if_false]
    simpa using hst
  have R' := tJ h1 te vs (a.eval y).cells.toList f xs st (st.bB [(r, .row true t' (xs.set i (mX t' (xs.getD i (b6 t')) f vs)))]) w arr R hg hi hA hfit hq h5 hbound h3 rfl (fun x => by
    show (st.eG r _).get x = _
    rw [eR])
  exact ng ho hrun ⟨_, born, R', jG _ _, fun r h => by simp [AV.roots, AV.ai] at h, fun r h => .inl h, fun r h => h⟩
theorem wP {t : TypeId} {x y : Operand} (ho : o.op = .store t x y) (R : Rel w0 st g born (a :: as) w) (hok : bO (gn P t (aC st x) (aC st y) st.get base).ok)
    (hfr : ∀ i, base ≤ i → i ∈ (gn P t (aC st x) (aC st y) st.get base).upd.map (·.1) → ¬ born i) (hq : cH st.rs (gn P t (aC st x) (aC st y) st.get base).quiet = true) :
    dJ P o a.eval w (fj w0 st born (a :: as) (gn P t (aC st x) (aC st y) st.get base)) := by
  obtain ⟨hx, hbx⟩ := cn R x
  obtain ⟨hy, hby⟩ := cn R y
  revert hfr hq
  unfold gn at hok ⊢
  split at hok
  · next r c hpv =>
    rw [hpv] at hx hbx
    split at hok
    · next cs hg =>
      generalize hf : lB P t (aC st y) base = ff at hok
      obtain ⟨v', rs⟩ := ff
      simp only at hok ⊢
      intro hfr hq
      obtain ⟨h0, h1⟩ := ag.1 hok
      obtain ⟨h1, h2⟩ := ag.1 h1
      obtain ⟨h2, h3⟩ := ag.1 h2
      have h2 : c + P.cellsOf t ≤ cs.length := iN h2
      have h3 : v'.cells.length = P.cellsOf t := dC (ag.1 h3).1
      obtain ⟨g', b', R', L, A, B⟩ := mn R hy hby hf (fun i h1 h2 => hfr i h1 (by
        rw [List.map_append, List.mem_append]; exact .inl ((cm _ _ _).2 ⟨h1, h2⟩)))
      obtain ⟨c1, c2, c3⟩ := g8 A (show v'.ju = true from h1)
      have hrb : born r := hbx r (by simp [AV.roots])
      obtain ⟨e1, e2⟩ := L.old r hrb
      have hro := R'.roots r
      unfold bJ at hro
      rw [e1, hg] at hro
      obtain ⟨arr, te, k1, k2, k3⟩ := hro
      rw [af] at hx
      have hv := hx.2 (by rw [hg]; rfl)
      have hlen := dx k3
      have hlen1 := dx c1
      have hst := run_storeCells_at P (g' r).b c te (a.eval y).cells.toList 0 arr w k1 (by simp at hlen hlen1 ⊢; omega) c2
      rw [e2] at hst
      have hrun : (Instr.storeAt t (a.eval x) (a.eval y)).run P w = .ok () (w.setRow (g r).b (arr.toList.take c ++ (a.eval y).cells.toList ++ arr.toList.drop (c + (a.eval y).cells.toList.length)).toArray) := by
        rw [hv]
        have hcs : (a.eval y).cells.size = P.cellsOf t := by simp at hlen1; omega
        simp only [Instr.storeAt, Instr.sureAddr, storeVar, Sem.run_bind, Sem.run_pure, Result.andThen_ok, jY h0, hcs]
        simp only [ne_eq, not_true_eq_false, if_false]
        simpa using hst
      have hR2 := zB (cs' := gq cs c v'.cells) (arr' := (arr.toList.take c ++ (a.eval y).cells.toList ++ arr.toList.drop (c + (a.eval y).cells.toList.length)).toArray) R' (by rw [e1]; exact hg) k1 (by
          unfold gq
          simp only [List.toList_toArray]
          rw [← hlen1]
          exact dn (dn (fy _ k3) c1) (fu _ k3))
        (fun z hz => by
          simp only [List.toList_toArray, List.mem_append] at hz
          rcases hz with (hz | hz) | hz
          · exact k2 z (List.take_subset _ _ hz)
          · exact c2 z hz
          · exact k2 z (List.drop_subset _ _ hz))
        (fun z hz => by
          unfold gq at hz
          rcases eN hz with hz | hz
          · rcases eN hz with hz | hz
            · exact (L.born_iff z).2 (.inl (R.bornR r z (by rw [hg]; exact hO _ hz)))
            · exact B z (c3 z hz)
          · exact (L.born_iff z).2 (.inl (R.bornR r z (by rw [hg]; exact gu _ hz))))
      rw [e2] at hR2
      refine ng ho hrun ⟨g', b', ?_, jG _ _, fun r h => by simp [AV.roots, AV.ai] at h, fun z hz => ?_, fun z hz => (L.born_iff z).2 (.inl hz)⟩
      · show Rel w0 (st.bB (aq base rs ++ [(r, aD.var (gq cs c v'.cells))])) g' b' (a :: as) _
        rw [je]; exact hR2
      · rcases (L.born_iff z).1 hz with h | h
        · exact .inl h
        · refine .inr ?_
          show z ∈ (aq base rs ++ [(r, aD.var (gq cs c v'.cells))]).map (·.1)
          rw [List.map_append, List.mem_append]
          exact .inl ((cm _ _ _).2 h)
    · exact (bg hok).elim
  · next r p i f hpe =>
    rw [hpe] at hx
    cases hct : Nat.beq (P.cellsOf t) 1 with
    | true =>
      rw [hct] at hok
      simp only [cond_true] at hok ⊢
      split at hok
      · next t' xs hg =>
        intro _ hq
        exact rT ho (dC hct) R hx hy hg hok hq
      · exact (bg hok).elim
    | false =>
      rw [hct] at hok
      simp only [cond_false] at hok ⊢
      split at hok
      · next t' xs hg =>
        intro _ hq
        unfold td at hok hq ⊢
        obtain ⟨h0, h1⟩ := ag.1 hok
        obtain ⟨h1, h2⟩ := ag.1 h1
        obtain ⟨h2, h3⟩ := ag.1 h2
        obtain ⟨h5, h3⟩ := ag.1 h3
        obtain ⟨h3, h4⟩ := ag.1 h3
        have h5 : (aC st y).cells ≠ [] := fun e => by
          have h5 : (!(aC st y).cells.isEmpty) = true := h5
          rw [e] at h5; cases h5
        have h2 : (aC st y).cells.length = P.cellsOf t := dC h2
        have h3 : jd t' f (aC st y).cells = true := h3
        have h4 : i < xs.length := of_decide_eq_true (show decide (i < xs.length) = true from (ag.1 h4).1)
        obtain ⟨c1, c2, c3⟩ := g8 hy (show (aC st y).ju = true from h1)
        exact sH ho R hx hg h0 h2 h5 h3 h4 c1 c2 (iP hq (by simp))
      · exact (bg hok).elim
  · exact (bg hok).elim
end
end Go.Am
end
section
/- Soundness: literals of structs and arrays. -/
namespace Go.Am
attribute [local instance] D.real
section
variable {P : Program} {w0 : cR} {w w' : World} {st st' : St} {g g' : bn} {born : Nat → Prop} {a : Act} {as acts : List Act} {o : Oper} {base : Nat}
theorem vj {vs : List Value} {off : Nat} {cells : Array Value} (h : off + vs.length ≤ cells.size) :
    ((vs.zipIdx).foldl (fun cs x => cs.setIfInBounds (off + x.2) x.1) cells).toList = cells.toList.take off ++ vs ++ cells.toList.drop (off + vs.length) := by
  obtain ⟨h1, h2⟩ := se vs 0 off cells
  apply List.ext_getElem?
  intro q
  have := h2 q
  rw [Array.getElem?_toList, this, List.append_assoc]
  have ht : (cells.toList.take off).length = off := by simp; omega
  rcases Nat.lt_or_ge q off with hq | hq
  · rw [if_neg (by omega), List.getElem?_append_left (by omega), List.getElem?_take, if_pos hq]; simp
  · rw [List.getElem?_append_right (by omega), ht]
    rcases Nat.lt_or_ge q (off + vs.length) with hq2 | hq2
    · rw [if_pos (by omega), List.getElem?_append_left (by omega)]
      rfl
    · rw [if_neg (by omega), List.getElem?_append_right (by omega), List.getElem?_drop]
      have : off + vs.length + (q - off - vs.length) = q := by omega
      rw [this]; simp
theorem nC {place : Nat → Option (Nat × TypeId)} {place' : Nat → Option (Nat × Nat)} (hpl : ∀ i off t, place i = some (off, t) → place' i = some (off, P.cellsOf t)) :
    ∀ (pa : List (Nat × AV)) (pv : List (Nat × Value)) (st : St) (g : bn) (born : Nat → Prop) (base : Nat) (cs cs' : List AV) (cells : Array Value) (ok : List Tst) (rs : List aD),
      Rel w0 st g born acts w → ak st.get g cs cells.toList → (∀ x ∈ cells.toList, x.oneCell' = true) → (∀ r ∈ AV.ai cs, born r) → pa.map (·.1) = pv.map (·.1) → ak st.get g (pa.map (·.2)) (pv.map (·.2)) → (∀ r ∈ AV.ai (pa.map (·.2)), born r) →
      iK P place pa cs base = (ok, cs', rs) → bO ok → (∀ i, base ≤ i → i < base + rs.length → ¬ born i) →
      ∃ cells', Instr.fill place' cells pv = some cells' ∧ ∃ g' born', Rel w0 (st.bB (aq base rs)) g' born' acts w ∧ Laid st (st.bB (aq base rs)) g g' born born' base (base + rs.length) ∧
        ak (st.bB (aq base rs)).get g' cs' cells'.toList ∧ (∀ x ∈ cells'.toList, x.oneCell' = true) ∧ ∀ r ∈ AV.ai cs', born' r
  | [], pv, st, g, born, base, cs, cs', cells, ok, rs, R, hA, h1, hb, he, _, _, h, _, _ => by
    have : pv = [] := by cases pv with
      | nil => rfl
      | cons => simp at he
    subst this
    simp only [iK, Prod.mk.injEq] at h
    obtain ⟨_, rfl, rfl⟩ := h
    exact ⟨cells, rfl, g, born, R, Laid.refl _ _ _ _, hA, h1, hb⟩
  | (i, v) :: pa, pv, st, g, born, base, cs, cs', cells, ok, rs, R, hA, h1, hb, he, hP, hPb, h, hok, hfr => by
    cases pv with
    | nil => simp at he
    | cons q pv =>
      obtain ⟨i', u⟩ := q
      simp only [List.map_cons, List.cons.injEq] at he
      obtain ⟨rfl, he⟩ := he
      unfold iK at h
      split at h
      · simp only [Prod.mk.injEq] at h; obtain ⟨rfl, _⟩ := h; exact (bg hok).elim
      · next off t hpi =>
        generalize hf : lB P t v base = ff at h
        obtain ⟨v', rs1⟩ := ff
        simp only at h
        generalize hf2 : iK P place pa (gq cs off v'.cells) (base + rs1.length) = f2 at h
        obtain ⟨ok2, cs2, rs2⟩ := f2
        simp only [Prod.mk.injEq] at h
        obtain ⟨rfl, rfl, rfl⟩ := h
        obtain ⟨k1, k2⟩ := aP.1 hok
        obtain ⟨k1, k3⟩ := ag.1 k1
        obtain ⟨k3, k4⟩ := ag.1 k3
        have k3 : v'.cells.length = P.cellsOf t := dC k3
        have k4 : off + P.cellsOf t ≤ cs.length := iN (ag.1 k4).1
        simp only [List.map_cons] at hP hPb
        rw [ak] at hP
        obtain ⟨x, xs, e, hv, hP⟩ := hP
        injection e with e1 e2
        subst e1; subst e2
        obtain ⟨g1, b1, R1, L1, A1, B1⟩ := mn R hv (fun r hr => hPb r (by simp only [AV.ai, List.mem_append]; exact .inl hr)) hf (fun i h1 h2 => hfr i h1 (by simp; omega))
        obtain ⟨c1, c2, c3⟩ := g8 A1 (show v'.ju = true from k1)
        have hl1 := dx c1
        have hl2 := dx hA
        have hus : u.cells.size = P.cellsOf t := by simp at hl1; omega
        have hfit : off + P.cellsOf t ≤ cells.size := by simp at hl2; omega
        have hfill := fill_eq (place := place') (cells := cells) (i := i) (v := u) (rest := pv) (hpl i off t hpi) hus hfit
        have hto := vj (vs := u.cells.toList) (off := off) (cells := cells) (by simp; omega)
        have hA1 : ak (st.bB (aq base rs1)).get g1 (gq cs off v'.cells) ((u.cells.toList.zipIdx).foldl (fun cs x => cs.setIfInBounds (off + x.2) x.1) cells).toList := by
          rw [hto]
          unfold gq
          have hA' := dg (get' := (st.bB (aq base rs1)).get) (g' := g1) cs _ (fun r hr => L1.holds (hb r hr)) hA
          rw [hl1]
          exact dn (dn (fy _ hA') c1) (fu _ hA')
        obtain ⟨cells', o1, g2, b2, R2, L2, A2, O2, B2⟩ := nC hpl pa pv _ g1 b1 (base + rs1.length) _ _ _ ok2 rs2 R1 hA1 (fun y hy => by
            rw [hto] at hy
            simp only [List.mem_append] at hy
            rcases hy with (hy | hy) | hy
            · exact h1 y (List.take_subset _ _ hy)
            · exact c2 y hy
            · exact h1 y (List.drop_subset _ _ hy))
          (fun r hr => by
            unfold gq at hr
            rcases eN hr with hr | hr
            · rcases eN hr with hr | hr
              · exact (L1.born_iff r).2 (.inl (hb r (hO _ hr)))
              · exact B1 r (c3 r hr)
            · exact (L1.born_iff r).2 (.inl (hb r (gu _ hr))))
          he (dg _ _ (fun r hr => L1.holds (hPb r (by simp only [AV.ai, List.mem_append]; exact .inr hr))) hP)
          (fun r hr => (L1.born_iff r).2 (.inl (hPb r (by simp only [AV.ai, List.mem_append]; exact .inr hr)))) hf2 k2
          (fun i h1 h2 hbi => ((L1.born_iff i).1 hbi).elim (hfr i (by omega) (by simp; omega)) fun h => by omega)
        have hset : st.bB (aq base (rs1 ++ rs2)) = (st.bB (aq base rs1)).bB (aq (base + rs1.length) rs2) := by
          rw [gE, je]
        rw [hset]
        refine ⟨cells', by rw [hfill]; exact o1, g2, b2, R2, ?_, A2, O2, B2⟩
        have := Laid.trans (by omega) (by omega) L1 L2
        rw [List.length_append, ← Nat.add_assoc]; exact this
theorem tc : ∀ (fs : List Field), (fs.all fun f => (P.info? f.type).isSome) = true → ∃ places, fs.mapM (fun f => (P.info? f.type).map fun i => (f.offset, i.size)) = some places ∧ ∀ (i : Nat) (f : Field), fs[i]? = some f → places[i]? = some (f.offset, P.cellsOf f.type)
  | [], _ => ⟨[], rfl, fun i f h => by simp at h⟩
  | f :: fs, h => by
    simp only [List.all_cons, Bool.and_eq_true] at h
    obtain ⟨i, hi⟩ := Option.isSome_iff_exists.1 h.1
    obtain ⟨places, h1, h2⟩ := tc fs h.2
    refine ⟨(f.offset, i.size) :: places, by simp [List.mapM_cons, hi, h1], fun j f' hj => ?_⟩
    cases j with
    | zero =>
      simp only [List.getElem?_cons_zero, Option.some.injEq] at hj
      subst hj
      simp [Program.cellsOf, hi]
    | succ j => simpa using h2 j f' (by simpa using hj)
theorem wE {t : TypeId} {ps : Array (Nat × Operand)} (ho : o.op = .build t ps) (R : Rel w0 st g born (a :: as) w)
    (hok : bO (lb P t ((ps.toList.map (·.1)).zip ((ps.toList.map (·.2)).map (aC st))) base).ok)
    (hfr : ∀ i, base ≤ i → i ∈ (lb P t ((ps.toList.map (·.1)).zip ((ps.toList.map (·.2)).map (aC st))) base).upd.map (·.1) → ¬ born i) :
    dJ P o a.eval w (fj w0 st born (a :: as) (lb P t ((ps.toList.map (·.1)).zip ((ps.toList.map (·.2)).map (aC st))) base)) := by
  rw [mG] at hok hfr ⊢
  obtain ⟨hA, hAb⟩ := mK R (ps.toList.map (·.2))
  revert hfr
  unfold lb at hok ⊢
  split at hok
  · exact (bg hok).elim
  next cs rs hz =>
  generalize hf : iK P (placeOf P t) (ps.toList.map fun p => (p.1, aC st p.2)) cs (base + rs.length) = ff at hok
  obtain ⟨ok, cs', rs'⟩ := ff
  simp only at hok ⊢
  intro hfr
  obtain ⟨k1, k2⟩ := aP.1 hok
  have k2 : sx P t = true := (ag.1 k2).1
  obtain ⟨z, i, z1, z2, _, z3, g1, b1, R1, L1, A1, B1⟩ := vQ R hz (fun i h1 h2 => hfr i h1 ((cm _ _ _).2 ⟨h1, by simp; omega⟩))
  obtain ⟨place', hpl, hbuilt⟩ : ∃ place' : Nat → Option (Nat × Nat), (∀ i off t', placeOf P t i = some (off, t') → place' i = some (off, P.cellsOf t')) ∧ ∀ pv cells', Instr.fill place' z.cells pv = some cells' → P.built t pv = some cells' := by
    unfold sx at k2
    split at k2
    · next fs hu =>
      obtain ⟨places, p1, p2⟩ := tc fs.toList k2
      refine ⟨(places.toArray[·]?), fun i off t' h => ?_, fun pv cells' h => ?_⟩
      · unfold placeOf at h
        rw [hu] at h
        simp only at h
        obtain ⟨fs', fld, q1, q2, rfl, rfl⟩ := jD h
        rw [hu] at q1
        injection q1 with q1
        injection q1 with q1
        subst q1
        have := p2 i fld (by simpa using q2)
        simpa using this
      · unfold Program.built
        rw [z1, hu]
        simp only [z2, p1]
        exact h
    · next m e hu =>
      obtain ⟨ie, hie⟩ := Option.isSome_iff_exists.1 k2
      refine ⟨fun i => some (i * ie.size, ie.size), fun i off t' h => ?_, fun pv cells' h => ?_⟩
      · unfold placeOf at h
        rw [hu] at h
        simp only at h
        cases hb : Nat.blt i m with
        | true =>
          rw [hb] at h
          simp only [cond_true, Option.some.injEq, Prod.mk.injEq] at h
          obtain ⟨rfl, rfl⟩ := h
          simp [Program.cellsOf, hie]
        | false => rw [hb] at h; cases h
      · unfold Program.built
        rw [z1, hu]
        simp only [z2, hie]
        exact h
    · cases k2
  obtain ⟨cells', o1, g2, b2, R2, L2, A2, O2, B2⟩ := nC (P := P) hpl (ps.toList.map fun p => (p.1, aC st p.2)) (ps.toList.map fun p => (p.1, a.eval p.2)) _ g1 b1 (base + rs.length) cs cs' z.cells ok rs' R1 A1 z3 B1 (by simp)
    (by
      have e1 : (ps.toList.map fun p => (p.1, aC st p.2)).map (·.2) = (ps.toList.map (·.2)).map (aC st) := by simp
      have e2 : (ps.toList.map fun p => (p.1, a.eval p.2)).map (·.2) = (ps.toList.map (·.2)).map a.eval := by simp
      rw [e1, e2]
      exact dg _ _ (fun r hr => L1.holds (hAb r hr)) hA)
    (fun r hr => by
      have e1 : (ps.toList.map fun p => (p.1, aC st p.2)).map (·.2) = (ps.toList.map (·.2)).map (aC st) := by simp
      rw [e1] at hr
      exact (L1.born_iff r).2 (.inl (hAb r hr))) hf k1
    (fun i h1 h2 hbi => ((L1.born_iff i).1 hbi).elim (hfr i (by omega) ((cm _ _ _).2 ⟨by omega, by simp; omega⟩)) fun h => by omega)
  have hset : st.bB (aq base (rs ++ rs')) = (st.bB (aq base rs)).bB (aq (base + rs.length) rs') := by
    rw [gE, je]
  have L := Laid.trans (by omega) (by omega) L1 L2
  have hrun : (execOp a.eval o).run P w = .ok (.value (.agg cells')) w := by
    have := run_build (P := P) w t (ps.map fun (x : Nat × Operand) => (x.1, a.eval x.2)) cells' (hbuilt _ _ (by simpa using o1))
    unfold execOp; rw [ho]
    simp [this]
  refine dJ.value hrun ⟨g2, b2, ?_, ?_, fun r hr => B2 r (by simpa [AV.roots] using hr), fun r hr => ?_, fun r hr => (L.born_iff r).2 (.inl hr)⟩
  · show Rel w0 (st.bB (aq base (rs ++ rs'))) g2 b2 (a :: as) w
    rw [hset]; exact R2
  · show af (st.bB (aq base (rs ++ rs'))).get g2 (.agg cs') _
    rw [hset, af]
    exact ⟨cells', rfl, O2, A2⟩
  · refine ((L.born_iff r).1 hr).imp id fun h => ?_
    show r ∈ (aq base (rs ++ rs')).map (·.1)
    rw [cm, List.length_append]; omega
end
end Go.Am
end
section
/- Soundness: each operation's step. -/
namespace Go.Am
attribute [local instance] D.real
section
variable {P : Program} {w0 : cR} {w w' : World} {st st' : St} {g g' : bn} {born : Nat → Prop} {a : Act} {as acts : List Act} {o : Oper} {base : Nat}
theorem ur {c : Call} {b : Builtin} (ho : o.op = .call c) (hc : c.callee = .builtin b) : execOp a.eval o = builtin b c.argTypes o.type (c.args.map fun | .const _ => true | _ => false) (c.args.map a.eval) := by
  unfold execOp; rw [ho]
  simp only [resolve, hc]
  rfl
theorem yH {c : Call} {b : Builtin} (hc : c.callee = .builtin b) : c.operands.toList = c.args.toList := by
  unfold Call.operands; rw [hc]; simp
theorem zz (hcall : ∀ c, o.op = .call c → ∃ b, c.callee = .builtin b) (R : Rel w0 st g born (a :: as) w)
    (hok : bO (bD P o (o.op.operands.toList.map (aC st)) st.get base).ok)
    (hfr : ∀ i, base ≤ i → i ∈ (bD P o (o.op.operands.toList.map (aC st)) st.get base).upd.map (·.1) → ¬ born i)
    (hq : cH st.rs (bD P o (o.op.operands.toList.map (aC st)) st.get base).quiet = true) :
    dJ P o a.eval w (fj w0 st born (a :: as) (bD P o (o.op.operands.toList.map (aC st)) st.get base)) := by
  generalize hop : o.op = op
  cases op with
  | move x =>
    have e : bD P o (o.op.operands.toList.map (aC st)) st.get base = { ok := [], v := aC st x } := by unfold bD; rw [hop]; rfl
    rw [← hop, e]
    exact cl R rfl rfl (by unfold execOp; rw [hop]; rfl) (cn R x).1 (cn R x).2
  | assign x =>
    have e : bD P o (o.op.operands.toList.map (aC st)) st.get base = { ok := [], v := (lB P o.type (aC st x) base).1, upd := aq base (lB P o.type (aC st x) base).2 } := by unfold bD; rw [hop]; rfl
    rw [← hop, e]; rw [e] at hfr
    exact xG (x := x) (by unfold execOp; rw [hop]; rfl) R hfr
  | pick c x y => rw [← hop]; exact xI hop R hok
  | alloc t =>
    have e : bD P o (o.op.operands.toList.map (aC st)) st.get base = match gw P t (base + 1) with
      | some (cs, rs) => { ok := [], v := .pv base 0, upd := (base, .var cs) :: aq (base + 1) rs }
      | none => .bad := by unfold bD; rw [hop]; rfl
    rw [← hop, e]; rw [e] at hfr hok
    revert hfr
    generalize hz : gw P t (base + 1) = z at hok
    cases z with
    | none => exact (bg hok).elim
    | some z => obtain ⟨cs, rs⟩ := z; exact fun hfr => wu hop R hz hfr
  | box t x =>
    have e : bD P o (o.op.operands.toList.map (aC st)) st.get base = match lB P t (aC st x) (base + 1) with
      | (v, rs) => { ok := [.s v.ju], v := .pv base 0, upd := (base, .var v.cells) :: aq (base + 1) rs } := by unfold bD; rw [hop]; rfl
    rw [← hop, e]; rw [e] at hfr hok
    revert hfr
    generalize hz : lB P t (aC st x) (base + 1) = z at hok
    obtain ⟨v, rs⟩ := z
    exact fun hfr => uO hop R hz hok hfr
  | build t ps =>
    have e : bD P o (o.op.operands.toList.map (aC st)) st.get base = lb P t ((ps.toList.map (·.1)).zip ((ps.toList.map (·.2)).map (aC st))) base := by
      unfold bD; rw [hop]; simp only [Op.operands, List.toList_toArray]
    rw [← hop, e]; rw [e] at hfr hok
    exact wE hop R hok hfr
  | buildSlice t n ps =>
    have e : bD P o (o.op.operands.toList.map (aC st)) st.get base = dD P t n ((ps.toList.map (·.1)).zip ((ps.toList.map (·.2)).map (aC st))) st.get base := by
      unfold bD; rw [hop]; simp only [Op.operands, List.toList_toArray]
    rw [← hop, e]; rw [e] at hfr hok hq
    exact qG hop R hok hfr hq
  | load t x =>
    have e : bD P o (o.op.operands.toList.map (aC st)) st.get base = eM P t (aC st x) st.get := by unfold bD; rw [hop]; rfl
    rw [← hop, e]; rw [e] at hok
    exact xV hop R hok
  | store t x y =>
    have e : bD P o (o.op.operands.toList.map (aC st)) st.get base = gn P t (aC st x) (aC st y) st.get base := by unfold bD; rw [hop]; rfl
    rw [← hop, e]; rw [e] at hok hfr hq
    exact wP hop R hok hfr hq
  | nilCheck x => rw [← hop]; exact sO hop R hok
  | binOp op t x y yt => rw [← hop]; exact vA hop R hok
  | unOp op t x => rw [← hop]; exact xX hop R hok
  | convert s d x =>
    have e : bD P o (o.op.operands.toList.map (aC st)) st.get base = mu P s d (aC st x) st.get := by unfold bD; rw [hop]; rfl
    rw [← hop, e]; rw [e] at hok
    exact uu hop R hok
  | makeFunc fn first cap =>
    have e : bD P o (o.op.operands.toList.map (aC st)) st.get base = oH fn first.size ((first ++ cap).toList.map (aC st)) := by unfold bD; rw [hop]; rfl
    rw [← hop, e]; rw [e] at hok
    exact sM hop R hok
  | makeSlice t l c =>
    have e : bD P o (o.op.operands.toList.map (aC st)) st.get base = ni P t [aC st l, aC st c] base := by unfold bD; rw [hop]; rfl
    rw [← hop, e]; rw [e] at hok hfr
    exact rW hop R hok hfr
  | slice t x lo hi mx =>
    cases mx with
    | none =>
      have e0 : (o.op.operands.toList.map (aC st)) = aC st x :: (lo.toList ++ (hi.toList ++ [])).map (aC st) := by
        rw [hop]; cases lo <;> cases hi <;> simp [Op.operands]
      obtain ⟨l1, l2, l3⟩ := rf R lo (hi.toList ++ [])
      obtain ⟨h1, h2, _⟩ := rf R hi []
      have e : bD P o (o.op.operands.toList.map (aC st)) st.get base = jm P t (aC st x) (mC ((lo.toList ++ (hi.toList ++ [])).map (aC st)) lo).1 (mC ((hi.toList ++ []).map (aC st)) hi).1 st.get := by
        rw [e0]; unfold bD; rw [hop]; simp only [List.headD_cons, List.tail_cons]; rw [l3]
      rw [← hop, e]; rw [e] at hok
      exact wC hop R l1 l2 h1 h2 hok
    | some m =>
      have e : bD P o (o.op.operands.toList.map (aC st)) st.get base = bif isZero m && hi.any isZero && lo.all isZero then gH P t (aC st x) st.get base else jR P t lo (o.op.operands.toList.map (aC st)) st.get base := by
        unfold bD; rw [hop]; cases lo <;> cases hi <;> rfl
      rw [← hop, e]; rw [e] at hok hfr
      cases hc : (isZero m && hi.any isZero && lo.all isZero) with
      | false =>
        rw [e] at hq
        rw [hc] at hok hfr hq
        simp only [cond_false] at hok hfr hq ⊢
        rw [hop] at hok hfr hq
        rw [show o.op.operands.toList.map (aC st) = (Op.slice t x lo hi (some m)).operands.toList.map (aC st) by rw [hop]]
        cases lo with
        | some l => exact (bg hok).elim
        | none =>
          cases hi with
          | none =>
            have eo : (Op.slice t x none none (some m)).operands.toList.map (aC st) = [aC st x, aC st m] := rfl
            rw [eo] at hok
            unfold jR at hok
            split at hok
            · next heq => simp at heq
            · exact (bg hok).elim
          | some h =>
            have eo : (Op.slice t x none (some h) (some m)).operands.toList.map (aC st) = [aC st x, aC st h, aC st m] := rfl
            rw [eo] at hok hfr hq ⊢
            unfold jR at hok hfr hq ⊢
            have eh := (cn R h).1
            have em := (cn R m).1
            generalize hxe : aC st x = xv at hok hfr hq ⊢
            generalize aC st h = hv at eh hok hfr hq ⊢
            generalize aC st m = mv at em hok hfr hq ⊢
            split at hok
            · next x' kh hh kc cc _ heq =>
              injection heq with q1 q2
              injection q2 with q2 q3
              injection q3 with q3 _
              subst q1; subst q2; subst q3
              rw [af] at eh em
              exact rY hop hxe eh em R hok hfr hq
            · exact (bg hok).elim
      | true =>
        rw [hc] at hok hfr
        simp only [cond_true] at hok hfr ⊢
        simp only [Bool.and_eq_true] at hc
        obtain ⟨⟨c1, c2⟩, c3⟩ := hc
        cases hi with
        | none => simp at c2
        | some h => exact rX (lo := m) hop (by simpa using c2) c1 c3 R hok hfr
  | fieldAddr s x i =>
    have e : bD P o (o.op.operands.toList.map (aC st)) st.get base = ij P s i [aC st x] := by unfold bD; rw [hop]; rfl
    rw [← hop, e]; rw [e] at hok
    exact rM hop R hok
  | field s x i => rw [← hop]; exact wI hop R hok
  | indexAddr t x i =>
    have e : bD P o (o.op.operands.toList.map (aC st)) st.get base = eS P t (aC st x) (aC st i) st.get := by unfold bD; rw [hop]; rfl
    rw [← hop, e]; rw [e] at hok
    exact rj hop R hok
  | index t x i =>
    have e : bD P o (o.op.operands.toList.map (aC st)) st.get base = me P t (aC st x) (aC st i) := by unfold bD; rw [hop]; rfl
    rw [← hop, e]; rw [e] at hok
    exact xd hop R hok
  | extract x i => rw [← hop]; exact uF hop R hok
  | call c =>
    obtain ⟨b, hb⟩ := hcall c hop
    have hex := ur (a := a) hop hb
    have e0 : o.op.operands.toList.map (aC st) = c.args.toList.map (aC st) := by
      rw [hop]; show c.operands.toList.map _ = _; rw [yH hb]
    obtain ⟨hA, hAb⟩ := mK R c.args.toList
    rw [← hop]
    rw [e0] at hok hfr hq ⊢
    have bad : bD P o (c.args.toList.map (aC st)) st.get base = .bad → dJ P o a.eval w (fj w0 st born (a :: as) (bD P o (c.args.toList.map (aC st)) st.get base)) := fun e => by
      rw [e] at hok; exact (bg hok).elim
    have hopc : bD P o (c.args.toList.map (aC st)) st.get base = match b with
      | .len => (match c.argTypes[0]? with
        | some t => lS P t ((c.args.toList.map (aC st)).headD .undef) st.get
        | none => .bad)
      | .cap => (match c.argTypes[0]? with
        | some t => pQ P t ((c.args.toList.map (aC st)).headD .undef)
        | none => .bad)
      | .append => (match (c.args.toList.map (aC st)), c.argTypes[0]?, c.argTypes[1]? with
        | [s, x], some t, some u => (match P.underlying u with
          | some .string => eD P t s x st.get base
          | some (.slice _) => eD P t s x st.get base
          | some (.int _) => lA P t s x base
          | _ => .bad)
        | _, _, _ => .bad)
      | .min => kH false (c.args.toList.map (aC st))
      | .max => kH true (c.args.toList.map (aC st))
      | _ => .bad := by
      unfold bD; rw [hop]
      obtain ⟨callee, args, ats⟩ := c
      simp only at hb
      subst hb
      cases b <;> rfl
    cases b with
    | len =>
      simp only at hopc
      cases ht : c.argTypes[0]? with
      | none => rw [ht] at hopc; exact bad hopc
      | some t =>
        rw [ht] at hopc
        simp only at hopc
        cases hargs : c.args.toList with
        | nil =>
          rw [hargs] at hopc hok
          rw [hopc] at hok
          exact (bg hok).elim
        | cons x xs =>
          have hopc' : bD P o (c.args.toList.map (aC st)) st.get base = lS P t (aC st x) st.get := by rw [hopc, hargs]; rfl
          rw [hopc'] at hok
          rw [← hargs, hopc']
          refine yY (x := x) (ty := o.type) (fun v hv r hr => ?_) R (cn R x).1 hok
          rw [hex]
          have h0 : (c.args.map a.eval)[0]? = some v := by
            have : c.args[0]? = some x := by rw [← Array.getElem?_toList, hargs]; rfl
            simp [this, hv]
          have : (Builtin.len_ c.argTypes o.type (c.args.map a.eval)).run P w = .ok r w := by
            rw [← hr]; simp [Builtin.len_, ht, h0]
          simp only [builtin, Sem.run_bind, this, Result.andThen_ok, Sem.run_pure]
    | cap =>
      simp only at hopc
      cases ht : c.argTypes[0]? with
      | none => rw [ht] at hopc; exact bad hopc
      | some t =>
        rw [ht] at hopc
        simp only at hopc
        cases hargs : c.args.toList with
        | nil =>
          rw [hargs] at hopc hok
          rw [hopc] at hok
          exact (bg hok).elim
        | cons x xs =>
          have hopc' : bD P o (c.args.toList.map (aC st)) st.get base = pQ P t (aC st x) := by rw [hopc, hargs]; rfl
          rw [hopc'] at hok
          rw [← hargs, hopc']
          refine yS (x := x) (ty := o.type) (fun v hv r hr => ?_) R hok
          rw [hex]
          have h0 : (c.args.map a.eval)[0]? = some v := by
            have : c.args[0]? = some x := by rw [← Array.getElem?_toList, hargs]; rfl
            simp [this, hv]
          have : (Builtin.cap_ c.argTypes o.type (c.args.map a.eval)).run P w = .ok r w := by
            rw [← hr]; simp [Builtin.cap_, ht, h0]
          simp only [builtin, Sem.run_bind, this, Result.andThen_ok, Sem.run_pure]
    | append =>
      simp only at hopc
      cases ht : c.argTypes[0]? with
      | none =>
        refine bad (hopc.trans ?_)
        rw [ht]
        split <;> first | rfl | (next h _ => cases h)
      | some t =>
        cases hu : c.argTypes[1]? with
        | none =>
          refine bad (hopc.trans ?_)
          rw [hu]
          split <;> first | rfl | (next h => cases h)
        | some u =>
          have hargs : ∀ l, c.args.toList = l → (∃ s x, l = [s, x]) ∨ (∀ s x, l.map (aC st) ≠ [s, x]) := by
            intro l _
            match l with
            | [s, x] => exact .inl ⟨s, x, rfl⟩
            | [] => exact .inr fun s x h => by simp at h
            | [s] => exact .inr fun s' x h => by simp at h
            | s :: x :: y :: r => exact .inr fun s' x' h => by simp at h
          rcases hargs _ rfl with ⟨s, x, hsx⟩ | hno
          · have hca : c.args = #[s, x] := by
              have := congrArg List.toArray hsx
              simpa using this
            have key : uB P u → bD P o (c.args.toList.map (aC st)) st.get base = eD P t (aC st s) (aC st x) st.get base → dJ P o a.eval w (fj w0 st born (a :: as) (bD P o (c.args.toList.map (aC st)) st.get base)) := by
              intro hn e
              rw [e] at hok hfr hq ⊢
              refine step_append (s := s) (x := x) (ty := o.type) (u := u) (fun r w' hr => ?_) R (cn R s).1 (cn R x).1 hn hok hfr hq
              rw [hex]
              have : (Builtin.append_ c.argTypes o.type (c.args.map a.eval)).run P w = .ok r w' := by
                rw [← hr, hca]
                unfold Builtin.append_
                simp [ht, hu]
              simp only [builtin, Sem.run_bind, this, Result.andThen_ok, Sem.run_pure]
            rw [hsx, ht, hu] at hopc
            simp only [List.map_cons, List.map_nil] at hopc
            rw [hsx] at key bad ⊢
            split at hopc
            · next h => exact key (.inl h) hopc
            · next e h => exact key (.inr ⟨e, h⟩) hopc
            · next k h =>
              have hopc' : bD P o (c.args.toList.map (aC st)) st.get base = lA P t (aC st s) (aC st x) base := by rw [hsx]; exact hopc
              rw [← hsx]
              rw [hopc'] at hok hfr ⊢
              refine yc (s := s) (x := x) (ty := o.type) (u := u) (fun r w' hr => ?_) h R hok hfr
              rw [hex]
              have : (Builtin.append_ c.argTypes o.type (c.args.map a.eval)).run P w = .ok r w' := by
                rw [← hr, hca]
                unfold Builtin.append_
                simp [ht, hu]
              simp only [builtin, Sem.run_bind, this, Result.andThen_ok, Sem.run_pure]
            · exact bad hopc
          · refine bad (hopc.trans ?_)
            split
            · next s x _ _ h _ _ => exact absurd h (hno s x)
            · rfl
    | min =>
      simp only at hopc
      rw [hopc] at hok ⊢
      obtain ⟨v, h1, h2, h3, h4, h5⟩ := rE (P := P) (w := w) (ts := c.argTypes) (ty := o.type) hA hok
      refine cl R h4 h5 (v := v) ?_ h2 (fun r hr => by rw [h3] at hr; cases hr)
      rw [hex]
      have h1 : (Builtin.min_ c.argTypes o.type (c.args.map a.eval)).run P w = .ok v w := by
        have e : (c.args.toList.map a.eval).toArray = c.args.map a.eval := by rw [← Array.toList_map]
        rw [← e]; exact h1
      simp only [builtin, Sem.run_bind, h1, Result.andThen_ok, Sem.run_pure]
    | max =>
      simp only at hopc
      rw [hopc] at hok ⊢
      obtain ⟨v, h1, h2, h3, h4, h5⟩ := rE (P := P) (w := w) (ts := c.argTypes) (ty := o.type) hA hok
      refine cl R h4 h5 (v := v) ?_ h2 (fun r hr => by rw [h3] at hr; cases hr)
      rw [hex]
      have h1 : (Builtin.max_ c.argTypes o.type (c.args.map a.eval)).run P w = .ok v w := by
        have e : (c.args.toList.map a.eval).toArray = c.args.map a.eval := by rw [← Array.toList_map]
        rw [← e]; exact h1
      simp only [builtin, Sem.run_bind, h1, Result.andThen_ok, Sem.run_pure]
    | _ => exact bad hopc
  | _ =>
    exfalso
    have e : bD P o (o.op.operands.toList.map (aC st)) st.get base = .bad := by unfold bD; rw [hop]
    rw [e] at hok; exact bg hok
end
end Go.Am
end
