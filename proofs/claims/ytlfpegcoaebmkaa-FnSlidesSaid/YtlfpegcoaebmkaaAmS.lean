/- The relation between the machine's states and worlds is kept by the parts of an operation, whatever the program. -/
import Derived.Test.YtlfpegcoaebmkaaAmM
import Derived.Below
import Derived.Laws.World
import Derived.Laws.Sem
import Derived.RangeFuncFrom
import Derived.Laws.StructEq
set_option linter.unusedSimpArgs false
set_option linter.unusedVariables false
set_option linter.unnecessarySimpa false
set_option linter.unusedSectionVars false
section
/- Soundness, first part: how data lies in the world; what of the world it hangs on. -/
namespace Go.Am
noncomputable section
attribute [local instance] D.real
def qZ {α : Type} (w : World) (rw : Bool) (sz : Nat) (R : α → (Nat → Path → Value) → (Nat → Option Value) → Prop) (xs : List α) (H : Path → Value) : Prop :=
  (H [] = .slice none 0 0 ∧ xs = []) ∨
  ∃ a cap, H [] = .slice (some a) xs.length cap ∧ xs.length ≤ cap ∧
    (rw = true → cap ≠ 0 → a.spot = none ∧ ∃ arr te, w.heap[a.block]? = some (.cells arr te (0, 0)) ∧ a.off + cap * sz ≤ arr.size) ∧
    ∀ i (x : α), xs[i]? = some x → R x (fun f p => H ((i, f) :: p)) (fun f => w.cell? (a.add (i * sz + f)))
def Rep (w : World) (rw : Bool) : (t : Ty) → den t → (Nat → Path → Value) → Nat → (Nat → Option Value) → Prop
  | .int k, n, _, f, rd => rd f = some (.int k n)
  | .bool, b, _, f, rd => rd f = some (.bool b)
  | .str, s, _, f, rd => rd f = some (.string s)
  | .sl e, xs, G, f, rd => rd f = some (G f []) ∧ qZ w rw e.size (fun x G' rd' => Rep w rw e x G' 0 rd') xs (G f)
  | .pair a b, d, G, f, rd => Rep w rw a d.1 G f rd ∧ Rep w rw b d.2 G (f + a.size) rd
  | .unit, _, _, _, _ => True
def qL {α : Type} (B : α → (Nat → Path → Value) → Nat → Prop) (xs : List α) (H : Path → Value) (b : Nat) : Prop :=
  (∃ a n c, H [] = .slice (some a) n c ∧ c ≠ 0 ∧ a.block = b) ∨ ∃ i x, xs[i]? = some x ∧ B x (fun f p => H ((i, f) :: p)) b
def Blk : (t : Ty) → den t → (Nat → Path → Value) → Nat → Nat → Prop
  | .sl e, xs, G, f, b => qL (fun x G' b => Blk e x G' 0 b) xs (G f) b
  | .pair a b', d, G, f, b => Blk a d.1 G f b ∨ Blk b' d.2 G (f + a.size) b
  | _, _, _, _, _ => False
def yD {α : Type} (B : α → (Nat → Path → Value) → Nat → Prop) (S : α → (Nat → Path → Value) → Prop) (xs : List α) (H : Path → Value) : Prop :=
  (∀ a n c i x, H [] = .slice (some a) n c → c ≠ 0 → xs[i]? = some x → ¬ B x (fun f p => H ((i, f) :: p)) a.block) ∧
  (∀ i j x y b, i ≠ j → xs[i]? = some x → xs[j]? = some y → B x (fun f p => H ((i, f) :: p)) b → B y (fun f p => H ((j, f) :: p)) b → False) ∧
  ∀ i x, xs[i]? = some x → S x (fun f p => H ((i, f) :: p))
def Sep : (t : Ty) → den t → (Nat → Path → Value) → Nat → Prop
  | .sl e, xs, G, f => yD (fun x G' b => Blk e x G' 0 b) (fun x G' => Sep e x G' 0) xs (G f)
  | .pair a b, d, G, f => Sep a d.1 G f ∧ Sep b d.2 G (f + a.size) ∧ ∀ bl, Blk a d.1 G f bl → Blk b d.2 G (f + a.size) bl → False
  | _, _, _, _ => True
theorem fI (a : Addr) (n : Nat) : (a.add n).block = a.block := by
  unfold Addr.add; split <;> rfl
theorem pE {w w' : World} {a : Addr} (h : w'.heap[a.block]? = w.heap[a.block]?) : w'.cell? a = w.cell? a := World.cell?_of_block h
theorem gl {w w' : World} {rw : Bool} : ∀ (t : Ty) (d : den t) (G : Nat → Path → Value) (f : Nat) (rd rd' : Nat → Option Value),
    (∀ b, Blk t d G f b → w'.heap[b]? = w.heap[b]?) → (∀ g, f ≤ g → g < f + t.size → rd' g = rd g) → Rep w rw t d G f rd → Rep w' rw t d G f rd' := by
  intro t
  induction t with
  | int k => intro d G f rd rd' _ hr h; exact (hr f (Nat.le_refl _) (by simp [Ty.size])).trans h
  | bool => intro d G f rd rd' _ hr h; exact (hr f (Nat.le_refl _) (by simp [Ty.size])).trans h
  | str => intro d G f rd rd' _ hr h; exact (hr f (Nat.le_refl _) (by simp [Ty.size])).trans h
  | unit => intro d G f rd rd' _ _ _; trivial
  | pair a b iha ihb =>
    intro d G f rd rd' hb hr h
    exact ⟨iha _ _ _ _ _ (fun bl hbl => hb bl (.inl hbl)) (fun g h1 h2 => hr g h1 (by simp only [Ty.size]; omega)) h.1,
      ihb _ _ _ _ _ (fun bl hbl => hb bl (.inr hbl)) (fun g h1 h2 => hr g (by omega) (by simp only [Ty.size]; omega)) h.2⟩
  | sl e ih =>
    intro d G f rd rd' hb hr h
    obtain ⟨h0, h1⟩ := h
    refine ⟨(hr f (Nat.le_refl _) (by simp [Ty.size])).trans h0, ?_⟩
    rcases h1 with h1 | ⟨a, cap, hH, hle, hg, hx⟩
    · exact .inl h1
    · have hab : cap ≠ 0 → w'.heap[a.block]? = w.heap[a.block]? := fun hc => hb _ (.inl ⟨a, _, _, hH, hc, rfl⟩)
      refine .inr ⟨a, cap, hH, hle, fun hrw hc => ?_, fun i x hi => ?_⟩
      · obtain ⟨h2, arr, te, h3, h4⟩ := hg hrw hc
        exact ⟨h2, arr, te, (hab hc).trans h3, h4⟩
      · have hc : cap ≠ 0 := by
          have : i < List.length d := by
            rcases Nat.lt_or_ge i (List.length d) with h | h
            · exact h
            · rw [List.getElem?_eq_none h] at hi; cases hi
          omega
        have hab := hab hc
        refine ih _ _ _ _ _ (fun bl hbl => hb bl (.inr ⟨i, x, hi, hbl⟩)) (fun g _ _ => ?_) (hx i x hi)
        exact pE (by rw [fI]; exact hab)
theorem jC {w w' : World} {rw : Bool} {t : Ty} {xs : List (den t)} {H : Path → Value}
    (hb : ∀ b, qL (fun x G b => Blk t x G 0 b) xs H b → w'.heap[b]? = w.heap[b]?)
    (h : qZ w rw t.size (fun x G rd => Rep w rw t x G 0 rd) xs H) : qZ w' rw t.size (fun x G rd => Rep w' rw t x G 0 rd) xs H := by
  have := gl (w := w) (w' := w') (rw := rw) (.sl t) xs (fun _ => H) 0 (fun _ => some (H [])) (fun _ => some (H [])) hb (fun _ _ _ => rfl) ⟨rfl, h⟩
  exact this.2
theorem C2 {w : World} : ∀ (t : Ty) (d : den t) (G : Nat → Path → Value) (f : Nat) (rd : Nat → Option Value) (rw : Bool), Rep w rw t d G f rd → Rep w false t d G f rd := by
  intro t
  induction t with
  | int k => intro d G f rd rw h; exact h
  | bool => intro d G f rd rw h; exact h
  | str => intro d G f rd rw h; exact h
  | unit => intro d G f rd rw h; trivial
  | pair a b iha ihb => intro d G f rd rw h; exact ⟨iha _ _ _ _ _ h.1, ihb _ _ _ _ _ h.2⟩
  | sl e ih =>
    intro d G f rd rw h
    refine ⟨h.1, ?_⟩
    rcases h.2 with h1 | ⟨a, cap, hH, hle, _, hx⟩
    · exact .inl h1
    · exact .inr ⟨a, cap, hH, hle, (fun h => by cases h), fun i x hi => ih _ _ _ _ _ (hx i x hi)⟩
theorem tg {w : World} {rw : Bool} : ∀ (t : Ty) (d : den t) (G : Nat → Path → Value) (f0 f : Nat) (rd : Nat → Option Value),
    f < t.size → Rep w rw t d G f0 rd → Rep w rw (cellAt t d f).1 (cellAt t d f).2 G (f0 + f) rd := by
  intro t
  induction t with
  | unit => intro d G f0 f rd hf _; simp [Ty.size] at hf
  | pair a b iha ihb =>
    intro d G f0 f rd hf h
    simp only [Ty.size] at hf
    by_cases hlt : f < a.size
    · have e : cellAt (.pair a b) d f = cellAt a d.1 f := by
        have : Nat.blt f a.size = true := by rw [Nat.blt_eq]; exact hlt
        simp [cellAt, this]
      rw [e]; exact iha _ _ _ _ _ hlt h.1
    · have e : cellAt (.pair a b) d f = cellAt b d.2 (f - a.size) := by
        have : Nat.blt f a.size = false := by
          cases hb : Nat.blt f a.size with
          | false => rfl
          | true => rw [Nat.blt_eq] at hb; exact absurd hb hlt
        simp [cellAt, this]
      rw [e]
      have := ihb d.2 G (f0 + a.size) (f - a.size) rd (by omega) h.2
      have e2 : f0 + a.size + (f - a.size) = f0 + f := by omega
      rwa [e2] at this
  | int k => intro d G f0 f rd hf h; simp only [Ty.size] at hf; obtain rfl : f = 0 := by omega
             exact h
  | bool => intro d G f0 f rd hf h; simp only [Ty.size] at hf; obtain rfl : f = 0 := by omega
            exact h
  | str => intro d G f0 f rd hf h; simp only [Ty.size] at hf; obtain rfl : f = 0 := by omega
           exact h
  | sl e => intro d G f0 f rd hf h; simp only [Ty.size] at hf; obtain rfl : f = 0 := by omega
            exact h
def Tst.val : Tst → Bool
  | .s b => b
  | .d b => b
def b7 (l : List Tst) : Prop := ∀ t ∈ l, t.val = true
theorem uQ : b7 [] := fun _ h => by cases h
theorem ag {t : Tst} {l : List Tst} : b7 (t :: l) ↔ t.val = true ∧ b7 l := by simp [b7]
theorem a8 {l m : List Tst} : b7 (l ++ m) ↔ b7 l ∧ b7 m := by
  simp only [b7, List.mem_append]; exact ⟨fun h => ⟨fun t ht => h t (.inl ht), fun t ht => h t (.inr ht)⟩, fun h t ht => ht.elim (h.1 t) (h.2 t)⟩
theorem my {R : Type} : ∀ {l : List Tst} {x : Option R} {r : R}, chk l x = some r → b7 l ∧ x = some r
  | [], _, _, h => ⟨uQ, h⟩
  | .s b :: l, x, r, h => by
    cases b with
    | true => obtain ⟨h1, h2⟩ := my (l := l) (by simpa [chk] using h); exact ⟨ag.2 ⟨rfl, h1⟩, h2⟩
    | false => simp [chk] at h
  | .d b :: l, x, r, h => by
    change (if b = true then chk l x else none) = some r at h
    cases b with
    | true => obtain ⟨h1, h2⟩ := my (l := l) (x := x) (r := r) (by simpa using h); exact ⟨ag.2 ⟨rfl, h1⟩, h2⟩
    | false => simp at h
def fV : Ty → Nat → Ty
  | .pair a b, f => bif Nat.blt f a.size then fV a f else fV b (f - a.size)
  | .unit, _ => .unit
  | .int k, f => bif Nat.beq f 0 then .int k else .unit
  | .bool, f => bif Nat.beq f 0 then .bool else .unit
  | .str, f => bif Nat.beq f 0 then .str else .unit
  | .sl e, f => bif Nat.beq f 0 then .sl e else .unit
theorem jK : ∀ (t : Ty) (d : den t) (f : Nat), (cellAt t d f).1 = fV t f := by
  intro t
  induction t with
  | pair a b iha ihb =>
    intro d f
    unfold cellAt fV
    cases Nat.blt f a.size <;> simp [iha, ihb]
  | unit => intro d f; rfl
  | int k => intro d f; unfold cellAt fV; cases Nat.beq f 0 <;> rfl
  | bool => intro d f; unfold cellAt fV; cases Nat.beq f 0 <;> rfl
  | str => intro d f; unfold cellAt fV; cases Nat.beq f 0 <;> rfl
  | sl e => intro d f; unfold cellAt fV; cases Nat.beq f 0 <;> rfl
theorem qD : ∀ (t : Ty) (f : Nat) (e : Ty), fV t f = .sl e → f < t.size := by
  intro t
  induction t with
  | pair a b iha ihb =>
    intro f e h
    unfold fV at h
    simp only [Ty.size]
    cases hb : Nat.blt f a.size with
    | true => rw [Nat.blt_eq] at hb; omega
    | false =>
      rw [hb] at h
      have := ihb _ _ h
      have h2 : ¬ f < a.size := fun h => by rw [← Nat.blt_eq, hb] at h; cases h
      omega
  | unit => intro f e h; simp [fV] at h
  | int k => intro f e h; unfold fV at h; cases hb : Nat.beq f 0 <;> rw [hb] at h <;> simp at h
  | bool => intro f e h; unfold fV at h; cases hb : Nat.beq f 0 <;> rw [hb] at h <;> simp at h
  | str => intro f e h; unfold fV at h; cases hb : Nat.beq f 0 <;> rw [hb] at h <;> simp at h
  | sl e' => intro f e h; unfold fV at h; cases hb : Nat.beq f 0 with
    | true => have := Nat.eq_of_beq_eq_true hb; subst this; simp [Ty.size]
    | false => rw [hb] at h; simp at h
def typeAt : Ty → Path → Option Ty
  | t, [] => some t
  | t, (_, f) :: p => match fV t f with
    | .sl e => typeAt e p
    | _ => none
abbrev cE (w : World) (rw : Bool) (t : Ty) (xs : List (den t)) (H : Path → Value) : Prop := qZ w rw t.size (fun x G rd => Rep w rw t x G 0 rd) xs H
abbrev b6 (t : Ty) (xs : List (den t)) (H : Path → Value) (b : Nat) : Prop := qL (fun x G b => Blk t x G 0 b) xs H b
abbrev dJ (t : Ty) (xs : List (den t)) (H : Path → Value) : Prop := yD (fun x G b => Blk t x G 0 b) (fun x G => Sep t x G 0) xs H
theorem iP {a b : Ty} {d : den (.pair a b)} {f : Nat} (h : f < a.size) : cellAt (.pair a b) d f = cellAt a d.1 f := by
  have : Nat.blt f a.size = true := by rw [Nat.blt_eq]; exact h
  simp [cellAt, this]
theorem ia {a b : Ty} {d : den (.pair a b)} {f : Nat} (h : ¬ f < a.size) : cellAt (.pair a b) d f = cellAt b d.2 (f - a.size) := by
  have : Nat.blt f a.size = false := by
    cases hb : Nat.blt f a.size with
    | false => rfl
    | true => rw [Nat.blt_eq] at hb; exact absurd hb h
  simp [cellAt, this]
theorem dG : ∀ (t : Ty) (d : den t) (G : Nat → Path → Value) (f0 f b : Nat), f < t.size → Blk (cellAt t d f).1 (cellAt t d f).2 G (f0 + f) b → Blk t d G f0 b := by
  intro t
  induction t with
  | unit => intro d G f0 f b hf _; simp [Ty.size] at hf
  | pair a b' iha ihb =>
    intro d G f0 f b hf h
    simp only [Ty.size] at hf
    by_cases h2 : f < a.size
    · rw [iP h2] at h; exact .inl (iha _ _ _ _ _ h2 h)
    · rw [ia h2] at h
      refine .inr (ihb d.2 G (f0 + a.size) (f - a.size) b (by omega) ?_)
      have e2 : f0 + a.size + (f - a.size) = f0 + f := by omega
      rw [e2]; exact h
  | int k => intro d G f0 f b hf h; simp only [Ty.size] at hf; obtain rfl : f = 0 := by omega
             exact h
  | bool => intro d G f0 f b hf h; simp only [Ty.size] at hf; obtain rfl : f = 0 := by omega
            exact h
  | str => intro d G f0 f b hf h; simp only [Ty.size] at hf; obtain rfl : f = 0 := by omega
           exact h
  | sl e => intro d G f0 f b hf h; simp only [Ty.size] at hf; obtain rfl : f = 0 := by omega
            exact h
theorem ui : ∀ (t : Ty) (d : den t) (G : Nat → Path → Value) (f0 f : Nat), f < t.size → Sep t d G f0 → Sep (cellAt t d f).1 (cellAt t d f).2 G (f0 + f) := by
  intro t
  induction t with
  | unit => intro d G f0 f hf _; simp [Ty.size] at hf
  | pair a b' iha ihb =>
    intro d G f0 f hf h
    simp only [Ty.size] at hf
    by_cases h2 : f < a.size
    · rw [iP h2]; exact iha _ _ _ _ h2 h.1
    · rw [ia h2]
      have := ihb d.2 G (f0 + a.size) (f - a.size) (by omega) h.2.1
      have e2 : f0 + a.size + (f - a.size) = f0 + f := by omega
      rw [e2] at this; exact this
  | int k => intro d G f0 f hf h; simp only [Ty.size] at hf; obtain rfl : f = 0 := by omega
             exact h
  | bool => intro d G f0 f hf h; simp only [Ty.size] at hf; obtain rfl : f = 0 := by omega
            exact h
  | str => intro d G f0 f hf h; simp only [Ty.size] at hf; obtain rfl : f = 0 := by omega
           exact h
  | sl e => intro d G f0 f hf h; simp only [Ty.size] at hf; obtain rfl : f = 0 := by omega
            exact h
theorem fk {α : Type} {xs : List α} {i : Nat} {d : α} (h : i < xs.length) : xs[i]? = some (xs.getD i d) := by
  simp [List.getD, List.getElem?_eq_getElem h]
theorem jk {w : World} {rw : Bool} : ∀ (p : Path) (t : Ty) (xs : List (den t)) (H : Path → Value) (ok : List Tst) (e : Ty) (ys : List (den e)),
    rowAt t xs p = (ok, ⟨e, ys⟩) → b7 ok → cE w rw t xs H →
    cE w rw e ys (fun q => H (p ++ q)) ∧ typeAt t p = some e ∧ (∀ b, b6 e ys (fun q => H (p ++ q)) b → b6 t xs H b) ∧ (dJ t xs H → dJ e ys (fun q => H (p ++ q))) := by
  intro p
  induction p with
  | nil =>
    intro t xs H ok e ys h _ hr
    simp only [rowAt, Prod.mk.injEq, Sigma.mk.injEq] at h
    obtain ⟨-, rfl, h⟩ := h
    obtain rfl := eq_of_heq h
    exact ⟨hr, rfl, fun b hb => hb, fun hs => hs⟩
  | cons q p ih =>
    intro t xs H ok e ys h hok hr
    obtain ⟨i, f⟩ := q
    simp only [rowAt] at h
    have hty := jK t (D.rd xs i (cq t)) f
    generalize hc : cellAt t (D.rd xs i (cq t)) f = c at h hty
    obtain ⟨c, d⟩ := c
    simp only at hty
    cases c with
    | sl e' =>
      simp only at h
      generalize hra : rowAt e' d p = ra at h
      obtain ⟨ok', e'', ys'⟩ := ra
      simp only [Prod.mk.injEq, Sigma.mk.injEq] at h
      obtain ⟨rfl, rfl, h⟩ := h
      obtain rfl := eq_of_heq h
      obtain ⟨hi, hok'⟩ := ag.1 hok
      have hi : i < xs.length := of_decide_eq_true (show decide (i < xs.length) = true from hi)
      have hf : f < t.size := qD t f e' hty.symm
      have hget : xs[i]? = some (D.rd xs i (cq t)) := fk hi
      rcases hr with ⟨_, rfl⟩ | ⟨a, cap, hH, hle, hg, hx⟩
      · simp at hi
      · have h1 := tg t _ _ 0 f _ hf (hx i _ hget)
        rw [hc] at h1
        simp only [Nat.zero_add] at h1
        obtain ⟨h2, h3⟩ := h1
        obtain ⟨r1, r2, r3, r4⟩ := ih e' d (fun q => H ((i, f) :: q)) ok' e'' ys' hra hok' h3
        refine ⟨r1, ?_, fun b hb => ?_, fun hs => ?_⟩
        · simp only [typeAt, ← hty]; exact r2
        · refine .inr ⟨i, _, hget, ?_⟩
          have := r3 b hb
          refine dG t _ _ 0 f b hf ?_
          rw [hc]; simp only [Nat.zero_add]; exact this
        · refine r4 ?_
          have := ui t _ _ 0 f hf (hs.2.2 i _ hget)
          rw [hc] at this
          simp only [Nat.zero_add] at this
          exact this
    | _ =>
      simp only [Prod.mk.injEq] at h
      obtain ⟨rfl, -⟩ := h
      have := (ag.1 hok).1
      simp [Tst.val] at this
end
end Go.Am
end
section
/- Soundness, second part: parts of slices; updates at a path. -/
namespace Go.Am
noncomputable section
attribute [local instance] D.real
def qg (sz : Nat) : Option (Nat × Nat) → Value → Value → Prop
  | none, v0, v => v = v0
  | some (o, l), v0, v => (v0 = .slice none 0 0 ∧ v = .slice none 0 0 ∧ o = 0 ∧ l = 0) ∨
    ∃ a n c j, v0 = .slice (some a) n c ∧ v = .slice (some (a.add (j * sz))) l (c - o) ∧ o + l ≤ n ∧ n ≤ c ∧ j ≤ o ∧ (j = o ∨ o = c)
def q8 (sub : Option (Nat × Nat)) (v : Value) (H : Path → Value) : Path → Value
  | [] => v
  | (i, f) :: q => H ((py sub i, f) :: q)
theorem kr (a : Addr) (m n : Nat) : (a.add m).add n = a.add (m + n) := by
  unfold Addr.add
  by_cases hm : m = 0
  · by_cases hn : n = 0 <;> simp [hm, hn]
  · by_cases hn : n = 0
    · simp [hm, hn]
    · have : m + n ≠ 0 := by omega
      simp [hm, hn, this, Nat.add_assoc]
theorem l6 {a : Addr} (h : a.spot = none) (n : Nat) : (a.add n).spot = none := by
  unfold Addr.add; split <;> simp [h]
theorem vM (a : Addr) (n : Nat) : (a.add n).off = a.off + n := by
  unfold Addr.add; split
  · next h => simp [h]
  · rfl
theorem na {α : Type} {sub : Option (Nat × Nat)} {xs : List α} {i : Nat} {x : α} (h : (gG sub xs)[i]? = some x) : xs[py sub i]? = some x := by
  cases sub with
  | none => exact h
  | some s =>
    obtain ⟨o, l⟩ := s
    change (List.take l (List.drop o xs))[i]? = some x at h
    rw [List.getElem?_take] at h
    split at h
    · rw [List.getElem?_drop] at h; exact h
    · cases h
theorem sub_lt {α : Type} {o l : Nat} {xs : List α} {i : Nat} {x : α} (h : (gG (some (o, l)) xs)[i]? = some x) : i < l := by
  change (List.take l (List.drop o xs))[i]? = some x at h
  rw [List.getElem?_take] at h
  split at h
  · assumption
  · cases h
theorem lO {w : World} {rw : Bool} {t : Ty} {xs : List (den t)} {H : Path → Value} {sub : Option (Nat × Nat)} {v : Value}
    (h : cE w rw t xs H) (hs : qg t.size sub (H []) v) : cE w rw t (gG sub xs) (q8 sub v H) := by
  cases sub with
  | none =>
    have e : v = H [] := hs
    subst e
    rcases h with ⟨h0, h1⟩ | ⟨a, cap, h0, h1, h2, h3⟩
    · exact .inl ⟨h0, h1⟩
    · exact .inr ⟨a, cap, h0, h1, h2, fun i x hx => h3 i x hx⟩
  | some s =>
    obtain ⟨o, l⟩ := s
    rcases h with ⟨h0, rfl⟩ | ⟨a, cap, h0, h1, h2, h3⟩
    · rcases hs with ⟨_, hv, rfl, rfl⟩ | ⟨a, n, c, j, e, _⟩
      · exact .inl ⟨hv, rfl⟩
      · rw [h0] at e; cases e
    · rcases hs with ⟨e, _⟩ | ⟨a', n, c, j, e, hv, hol, hnc, hj, hjo⟩
      · rw [h0] at e; cases e
      · rw [h0] at e
        injection e with e1 e2 e3
        injection e1 with e1
        subst e1; subst e2; subst e3
        have hlen : (gG (some (o, l)) xs).length = l := by
          change (List.take l (List.drop o xs)).length = l
          simp; omega
        refine .inr ⟨a.add (j * t.size), cap - o, ?_, ?_, fun hrw hc => ?_, fun i x hx => ?_⟩
        · rw [hlen]; exact hv
        · rw [hlen]; omega
        · obtain ⟨s1, arr, te, s2, s3⟩ := h2 hrw (by omega)
          refine ⟨l6 s1 _, arr, te, by rw [fI]; exact s2, ?_⟩
          rw [vM]
          have : j * t.size + (cap - o) * t.size ≤ cap * t.size := by
            rw [← Nat.add_mul]; exact Nat.mul_le_mul_right _ (by omega)
          omega
        · have hg := na hx
          have hil : i < l := sub_lt hx
          have hjo' : j = o := by omega
          have := h3 _ _ hg
          have e : ∀ f, (a.add (j * t.size)).add (i * t.size + f) = a.add ((py (some (o, l)) i) * t.size + f) := by
            intro f
            rw [kr, hjo']
            have : o * t.size + (i * t.size + f) = (o + i) * t.size + f := by rw [Nat.add_mul]; omega
            rw [this]; rfl
          simp only [e]
          exact this
theorem iO {t : Ty} {xs : List (den t)} {H : Path → Value} {sub : Option (Nat × Nat)} {v : Value}
    (hs : qg t.size sub (H []) v) {b : Nat} (h : b6 t (gG sub xs) (q8 sub v H) b) : b6 t xs H b := by
  rcases h with ⟨a, n, c, e, hc, rfl⟩ | ⟨i, x, hx, hb⟩
  · change v = _ at e
    subst e
    cases sub with
    | none => exact .inl ⟨a, n, c, hs.symm, hc, rfl⟩
    | some s =>
      rcases hs with ⟨_, hv, _⟩ | ⟨a', n', c', j, h0, hv, _⟩
      · cases hv
      · injection hv with hv1 _ hv3
        injection hv1 with hv1
        subst hv1
        exact .inl ⟨a', n', c', h0, by omega, (fI _ _).symm⟩
  · exact .inr ⟨_, x, na hx, hb⟩
theorem iQ {t : Ty} {xs : List (den t)} {H : Path → Value} {sub : Option (Nat × Nat)} {v : Value}
    (hs : qg t.size sub (H []) v) (h : dJ t xs H) : dJ t (gG sub xs) (q8 sub v H) := by
  obtain ⟨h1, h2, h3⟩ := h
  refine ⟨fun a n c i x e hc hx hb => ?_, fun i j x y b hij hx hy hb hb' => ?_, fun i x hx => h3 _ _ (na hx)⟩
  · change v = _ at e
    subst e
    cases sub with
    | none => exact h1 a n c _ x hs.symm hc (na hx) hb
    | some s =>
      rcases hs with ⟨_, hv, _⟩ | ⟨a', n', c', j, h0, hv, _⟩
      · cases hv
      · injection hv with hv1 _ hv3
        injection hv1 with hv1
        subst hv1
        rw [fI] at hb
        exact h1 a' n' c' _ x h0 (by omega) (na hx) hb
  · refine h2 _ _ x y b (fun e => hij ?_) (na hx) (na hy) hb hb'
    cases sub with
    | none => exact e
    | some s => exact Nat.add_left_cancel e
theorem ke : ∀ (t : Ty) (d : den t) (G G' : Nat → Path → Value) (f b : Nat), (∀ g, f ≤ g → g < f + t.size → G' g = G g) → (Blk t d G' f b ↔ Blk t d G f b) := by
  intro t
  induction t with
  | pair a b' iha ihb =>
    intro d G G' f b h
    simp only [Ty.size] at h
    have h1 := iha d.1 G G' f b (fun g _ _ => h g (by omega) (by omega))
    have h2 := ihb d.2 G G' (f + a.size) b (fun g _ _ => h g (by omega) (by omega))
    exact ⟨fun x => x.imp h1.1 h2.1, fun x => x.imp h1.2 h2.2⟩
  | sl e ih =>
    intro d G G' f b h
    have : G' f = G f := h f (Nat.le_refl _) (by simp [Ty.size])
    show qL _ d (G' f) b ↔ qL _ d (G f) b
    rw [this]
  | unit => intros; exact Iff.rfl
  | int k => intros; exact Iff.rfl
  | bool => intros; exact Iff.rfl
  | str => intros; exact Iff.rfl
theorem sA : ∀ (t : Ty) (d : den t) (G G' : Nat → Path → Value) (f : Nat), (∀ g, f ≤ g → g < f + t.size → G' g = G g) → Sep t d G f → Sep t d G' f := by
  intro t
  induction t with
  | pair a b' iha ihb =>
    intro d G G' f h hs
    simp only [Ty.size] at h
    have h1 : ∀ g, f ≤ g → g < f + a.size → G' g = G g := fun g _ _ => h g (by omega) (by omega)
    have h2 : ∀ g, f + a.size ≤ g → g < f + a.size + b'.size → G' g = G g := fun g _ _ => h g (by omega) (by omega)
    exact ⟨iha _ _ _ _ h1 hs.1, ihb _ _ _ _ h2 hs.2.1, fun bl x y => hs.2.2 bl ((ke a _ _ _ _ _ h1).1 x) ((ke b' _ _ _ _ _ h2).1 y)⟩
  | sl e ih =>
    intro d G G' f h hs
    have : G' f = G f := h f (Nat.le_refl _) (by simp [Ty.size])
    show yD _ _ d (G' f)
    rw [this]; exact hs
  | unit => intros; trivial
  | int k => intros; trivial
  | bool => intros; trivial
  | str => intros; trivial
theorem ib {w : World} {rw : Bool} : ∀ (t : Ty) (d : den t) (G G' : Nat → Path → Value) (f : Nat) (rd : Nat → Option Value),
    (∀ g, f ≤ g → g < f + t.size → G' g = G g) → Rep w rw t d G f rd → Rep w rw t d G' f rd := by
  intro t
  induction t with
  | pair a b' iha ihb =>
    intro d G G' f rd h hs
    simp only [Ty.size] at h
    exact ⟨iha _ _ _ _ _ (fun g _ _ => h g (by omega) (by omega)) hs.1, ihb _ _ _ _ _ (fun g _ _ => h g (by omega) (by omega)) hs.2⟩
  | sl e ih =>
    intro d G G' f rd h hs
    have : G' f = G f := h f (Nat.le_refl _) (by simp [Ty.size])
    show rd f = some (G' f []) ∧ qZ _ _ _ _ d (G' f)
    rw [this]; exact hs
  | unit => intros; trivial
  | int k => intro _ _ _ _ _ _ h; exact h
  | bool => intro _ _ _ _ _ _ h; exact h
  | str => intro _ _ _ _ _ _ h; exact h
theorem kq {a b : Ty} {d : den (.pair a b)} {f : Nat} {g : (c : Ty) → den c → den c} (h : f < a.size) : cG (.pair a b) d f g = (cG a d.1 f g, d.2) := by
  have : Nat.blt f a.size = true := by rw [Nat.blt_eq]; exact h
  simp [cG, this]
theorem jS {a b : Ty} {d : den (.pair a b)} {f : Nat} {g : (c : Ty) → den c → den c} (h : ¬ f < a.size) : cG (.pair a b) d f g = (d.1, cG b d.2 (f - a.size) g) := by
  have : Nat.blt f a.size = false := by
    cases hb : Nat.blt f a.size with
    | false => rfl
    | true => rw [Nat.blt_eq] at hb; exact absurd hb h
  simp [cG, this]
abbrev lq (t : Ty) (d : den t) (f : Nat) (G : Nat → Path → Value) (f0 b : Nat) : Prop := Blk (cellAt t d f).1 (cellAt t d f).2 G (f0 + f) b
abbrev lp (t : Ty) (d : den t) (f : Nat) (g : (c : Ty) → den c → den c) (G : Nat → Path → Value) (f0 b : Nat) : Prop := Blk (cellAt t d f).1 (g (cellAt t d f).1 (cellAt t d f).2) G (f0 + f) b
theorem Co {w w' : World} {rw : Bool} : ∀ (t : Ty) (d : den t) (G G' : Nat → Path → Value) (f0 f : Nat) (rd rd' : Nat → Option Value) (g : (c : Ty) → den c → den c),
    f < t.size → Rep w rw t d G f0 rd → Sep t d G f0 →
    (∀ k, f0 ≤ k → k < f0 + t.size → k ≠ f0 + f → rd' k = rd k) → (∀ k, f0 ≤ k → k < f0 + t.size → k ≠ f0 + f → G' k = G k) →
    (∀ b, Blk t d G f0 b → ¬ lq t d f G f0 b → w'.heap[b]? = w.heap[b]?) →
    Rep w' rw (cellAt t d f).1 (g (cellAt t d f).1 (cellAt t d f).2) G' (f0 + f) rd' → Rep w' rw t (cG t d f g) G' f0 rd' := by
  intro t
  induction t with
  | unit => intro d G G' f0 f rd rd' g hf; simp [Ty.size] at hf
  | pair a b iha ihb =>
    intro d G G' f0 f rd rd' g hf h hs hr hG hb hn
    simp only [Ty.size] at hf hr hG
    by_cases hlt : f < a.size
    · rw [kq hlt]
      rw [iP hlt] at hn
      have hb1 : ∀ bl, Blk (.pair a b) d G f0 bl → ¬ lq a d.1 f G f0 bl → w'.heap[bl]? = w.heap[bl]? := fun bl h1 h2 => hb bl h1 (by unfold lq; rw [iP hlt]; exact h2)
      refine ⟨iha d.1 G G' f0 f rd rd' g hlt h.1 hs.1 (fun k _ _ hk => hr k (by omega) (by omega) hk) (fun k _ _ hk => hG k (by omega) (by omega) hk) (fun bl h1 h2 => hb1 bl (.inl h1) h2) hn, ?_⟩
      refine ib b _ G G' _ _ (fun k _ _ => hG k (by omega) (by omega) (by omega)) (gl b _ G _ rd rd' (fun bl h1 => hb1 bl (.inr h1) fun h2 => ?_) (fun k _ _ => hr k (by omega) (by omega) (by omega)) h.2)
      exact hs.2.2 bl (dG a _ _ _ _ _ hlt h2) h1
    · rw [jS hlt]
      rw [ia hlt] at hn
      have e2 : f0 + a.size + (f - a.size) = f0 + f := by omega
      have hb1 : ∀ bl, Blk (.pair a b) d G f0 bl → ¬ lq b d.2 (f - a.size) G (f0 + a.size) bl → w'.heap[bl]? = w.heap[bl]? := fun bl h1 h2 => hb bl h1 (by unfold lq; rw [ia hlt, ← e2]; exact h2)
      refine ⟨?_, ihb d.2 G G' (f0 + a.size) (f - a.size) rd rd' g (by omega) h.2 hs.2.1 (fun k _ _ hk => hr k (by omega) (by omega) (by omega)) (fun k _ _ hk => hG k (by omega) (by omega) (by omega)) (fun bl h1 h2 => hb1 bl (.inr h1) h2) (by rw [e2]; exact hn)⟩
      refine ib a _ G G' _ _ (fun k _ _ => hG k (by omega) (by omega) (by omega)) (gl a _ G _ rd rd' (fun bl h1 => hb1 bl (.inl h1) fun h2 => ?_) (fun k _ _ => hr k (by omega) (by omega) (by omega)) h.1)
      exact hs.2.2 bl h1 (dG b _ _ _ _ _ (by omega) h2)
  | int k => intro d G G' f0 f rd rd' g hf h hs hr hG hb hn; simp only [Ty.size] at hf; obtain rfl : f = 0 := by omega
             exact hn
  | bool => intro d G G' f0 f rd rd' g hf h hs hr hG hb hn; simp only [Ty.size] at hf; obtain rfl : f = 0 := by omega
            exact hn
  | str => intro d G G' f0 f rd rd' g hf h hs hr hG hb hn; simp only [Ty.size] at hf; obtain rfl : f = 0 := by omega
           exact hn
  | sl e => intro d G G' f0 f rd rd' g hf h hs hr hG hb hn; simp only [Ty.size] at hf; obtain rfl : f = 0 := by omega
            exact hn
theorem sj : ∀ (t : Ty) (d : den t) (G G' : Nat → Path → Value) (f0 f : Nat) (g : (c : Ty) → den c → den c) (b : Nat),
    f < t.size → Sep t d G f0 → (∀ k, f0 ≤ k → k < f0 + t.size → k ≠ f0 + f → G' k = G k) →
    Blk t (cG t d f g) G' f0 b → lp t d f g G' f0 b ∨ (Blk t d G f0 b ∧ ¬ lq t d f G f0 b) := by
  intro t
  induction t with
  | unit => intro d G G' f0 f g b hf; simp [Ty.size] at hf
  | pair a b' iha ihb =>
    intro d G G' f0 f g b hf hs hG h
    simp only [Ty.size] at hf hG
    by_cases hlt : f < a.size
    · rw [kq hlt] at h
      unfold lp lq
      rw [iP hlt]
      rcases h with h | h
      · rcases iha d.1 G G' f0 f g b hlt hs.1 (fun k _ _ hk => hG k (by omega) (by omega) hk) h with h | ⟨h1, h2⟩
        · exact .inl h
        · exact .inr ⟨.inl h1, h2⟩
      · have h := (ke b' d.2 G G' _ _ (fun k _ _ => hG k (by omega) (by omega) (by omega))).1 h
        exact .inr ⟨.inr h, fun h2 => hs.2.2 b (dG a _ _ _ _ _ hlt h2) h⟩
    · rw [jS hlt] at h
      unfold lp lq
      rw [ia hlt]
      have e2 : f0 + a.size + (f - a.size) = f0 + f := by omega
      rcases h with h | h
      · have h := (ke a d.1 G G' _ _ (fun k _ _ => hG k (by omega) (by omega) (by omega))).1 h
        exact .inr ⟨.inl h, fun h2 => hs.2.2 b h (dG b' _ _ _ (f - a.size) _ (by omega) (by rw [e2]; exact h2))⟩
      · rcases ihb d.2 G G' (f0 + a.size) (f - a.size) g b (by omega) hs.2.1 (fun k _ _ hk => hG k (by omega) (by omega) (by omega)) h with h | ⟨h1, h2⟩
        · unfold lp at h; rw [e2] at h; exact .inl h
        · unfold lq at h2; rw [e2] at h2; exact .inr ⟨.inr h1, h2⟩
  | int k => intro d G G' f0 f g b hf hs hG h; exact h.elim
  | bool => intro d G G' f0 f g b hf hs hG h; exact h.elim
  | str => intro d G G' f0 f g b hf hs hG h; exact h.elim
  | sl e => intro d G G' f0 f g b hf hs hG h; simp only [Ty.size] at hf; obtain rfl : f = 0 := by omega
            exact .inl h
theorem B0 : ∀ (t : Ty) (d : den t) (G G' : Nat → Path → Value) (f0 f : Nat) (g : (c : Ty) → den c → den c),
    f < t.size → Sep t d G f0 → (∀ k, f0 ≤ k → k < f0 + t.size → k ≠ f0 + f → G' k = G k) →
    Sep (cellAt t d f).1 (g (cellAt t d f).1 (cellAt t d f).2) G' (f0 + f) → (∀ b, lp t d f g G' f0 b → lq t d f G f0 b ∨ ¬ Blk t d G f0 b) →
    Sep t (cG t d f g) G' f0 := by
  intro t
  induction t with
  | unit => intro d G G' f0 f g hf; simp [Ty.size] at hf
  | pair a b' iha ihb =>
    intro d G G' f0 f g hf hs hG hn hb
    simp only [Ty.size] at hf hG
    by_cases hlt : f < a.size
    · rw [kq hlt]
      unfold lp lq at hb
      rw [iP hlt] at hn hb
      have hGa : ∀ k, f0 ≤ k → k < f0 + a.size → k ≠ f0 + f → G' k = G k := fun k _ _ hk => hG k (by omega) (by omega) hk
      have hGb : ∀ k, f0 + a.size ≤ k → k < f0 + a.size + b'.size → G' k = G k := fun k _ _ => hG k (by omega) (by omega) (by omega)
      refine ⟨iha d.1 G G' f0 f g hlt hs.1 hGa hn (fun b h => (hb b h).imp id fun h1 h2 => h1 (.inl h2)), sA b' _ _ _ _ hGb hs.2.1, fun bl h1 h2 => ?_⟩
      have h2 := (ke b' d.2 G G' _ _ hGb).1 h2
      rcases sj a d.1 G G' f0 f g bl hlt hs.1 hGa h1 with h1 | ⟨h1, _⟩
      · rcases hb bl h1 with h3 | h3
        · exact hs.2.2 bl (dG a _ _ _ _ _ hlt h3) h2
        · exact h3 (.inr h2)
      · exact hs.2.2 bl h1 h2
    · rw [jS hlt]
      unfold lp lq at hb
      rw [ia hlt] at hn hb
      have e2 : f0 + a.size + (f - a.size) = f0 + f := by omega
      have hGb : ∀ k, f0 + a.size ≤ k → k < f0 + a.size + b'.size → k ≠ f0 + a.size + (f - a.size) → G' k = G k := fun k _ _ hk => hG k (by omega) (by omega) (by omega)
      have hGa : ∀ k, f0 ≤ k → k < f0 + a.size → G' k = G k := fun k _ _ => hG k (by omega) (by omega) (by omega)
      rw [← e2] at hn hb
      refine ⟨sA a _ _ _ _ hGa hs.1, ihb d.2 G G' (f0 + a.size) (f - a.size) g (by omega) hs.2.1 hGb hn (fun b h => (hb b h).imp id fun h1 h2 => h1 (.inr h2)), fun bl h1 h2 => ?_⟩
      have h1 := (ke a d.1 G G' _ _ hGa).1 h1
      rcases sj b' d.2 G G' (f0 + a.size) (f - a.size) g bl (by omega) hs.2.1 hGb h2 with h2 | ⟨h2, _⟩
      · rcases hb bl h2 with h3 | h3
        · exact hs.2.2 bl h1 (dG b' _ _ _ _ _ (by omega) h3)
        · exact h3 (.inl h1)
      · exact hs.2.2 bl h1 h2
  | int k => intros; trivial
  | bool => intros; trivial
  | str => intros; trivial
  | sl e => intro d G G' f0 f g hf hs hG hn hb; simp only [Ty.size] at hf; obtain rfl : f = 0 := by omega
            exact hn
end
end Go.Am
end
section
/- Soundness, third part: updates of a row at a path. -/
namespace Go.Am
noncomputable section
attribute [local instance] D.real
abbrev atI (H : Path → Value) (i : Nat) : Nat → Path → Value := fun f p => H ((i, f) :: p)
section
variable {w w' : World} {rw : Bool} {t : Ty} {xs : List (den t)} {H H' : Path → Value} {i f : Nat} {g : (c : Ty) → den c → den c}
theorem gD {α : Type} {xs : List α} {i j : Nat} {x y : α} (h : (xs.set i x)[j]? = some y) : (j = i ∧ i < xs.length ∧ y = x) ∨ (j ≠ i ∧ xs[j]? = some y) := by
  rw [List.getElem?_set] at h
  split at h
  · next e =>
    split at h
    · next hl => injection h with h; exact .inl ⟨e.symm, hl, h.symm⟩
    · cases h
  · next e => exact .inr ⟨fun x => e x.symm, h⟩
theorem wJ (hi : i < xs.length) (hf : f < t.size) (h : cE w rw t xs H) (hs : dJ t xs H) (h0 : H' [] = H [])
    (hH : ∀ j k q, (j, k) ≠ (i, f) → H' ((j, k) :: q) = H ((j, k) :: q))
    (hc : ∀ a n c, H [] = .slice (some a) n c → (∀ j k, j < xs.length → k < t.size → (j, k) ≠ (i, f) → w'.cell? (a.add (j * t.size + k)) = w.cell? (a.add (j * t.size + k))) ∧
      (rw = true → ∀ arr te, w.heap[a.block]? = some (.cells arr te (0, 0)) → ∃ arr', w'.heap[a.block]? = some (.cells arr' te (0, 0)) ∧ arr'.size = arr.size))
    (hb : ∀ b j x, xs[j]? = some x → Blk t x (atI H j) 0 b → ¬ lq t (xs.getD i (cq t)) f (atI H i) 0 b → w'.heap[b]? = w.heap[b]?)
    (hn : ∀ a n c, H [] = .slice (some a) n c → Rep w' rw (cellAt t (xs.getD i (cq t)) f).1 (g (cellAt t (xs.getD i (cq t)) f).1 (cellAt t (xs.getD i (cq t)) f).2) (atI H' i) (0 + f) (fun k => w'.cell? (a.add (i * t.size + k)))) :
    cE w' rw t (xs.set i (cG t (xs.getD i (cq t)) f g)) H' := by
  have hget : xs[i]? = some (xs.getD i (cq t)) := fk hi
  rcases h with ⟨_, rfl⟩ | ⟨a, cap, hH0, hle, hg, hx⟩
  · simp at hi
  · obtain ⟨hc1, hc2⟩ := hc a _ _ hH0
    refine .inr ⟨a, cap, by rw [h0, hH0, List.length_set], by rw [List.length_set]; exact hle, fun hrw hcap => ?_, fun j x hj => ?_⟩
    · obtain ⟨s1, arr, te, s2, s3⟩ := hg hrw hcap
      obtain ⟨arr', s4, s5⟩ := hc2 hrw arr te s2
      exact ⟨s1, arr', te, s4, by omega⟩
    · rcases gD hj with ⟨rfl, _, rfl⟩ | ⟨hji, hj⟩
      · refine Co t _ (atI H j) _ 0 f _ _ g hf (hx j _ hget) (hs.2.2 j _ hget) (fun k _ h2 hk => hc1 j k hi (by omega) (fun e => hk (by injection e; omega))) (fun k _ h2 hk => ?_) (fun b h1 h2 => hb b j _ hget h1 h2) (hn a _ _ hH0)
        funext q
        exact hH j k q (fun e => hk (by injection e; omega))
      · have hlt : j < xs.length := by
          rcases Nat.lt_or_ge j xs.length with h | h
          · exact h
          · rw [List.getElem?_eq_none h] at hj; cases hj
        have ne : ∀ k, (j, k) ≠ (i, f) := fun k e => hji (by injection e)
        refine ib t _ (atI H j) _ 0 _ (fun k _ _ => funext fun q => hH j k q (ne k)) (gl t _ (atI H j) 0 _ _ (fun b hbb => hb b j x hj hbb fun h2 => ?_) (fun k _ hk => hc1 j k hlt (by omega) (ne k)) (hx j x hj))
        exact hs.2.1 j i x _ b hji hj hget hbb (dG t _ _ 0 f b hf h2)
theorem wV (hi : i < xs.length) (hf : f < t.size) (hs : dJ t xs H) (h0 : H' [] = H [])
    (hH : ∀ j k q, (j, k) ≠ (i, f) → H' ((j, k) :: q) = H ((j, k) :: q)) {b : Nat} (h : b6 t (xs.set i (cG t (xs.getD i (cq t)) f g)) H' b) :
    lp t (xs.getD i (cq t)) f g (atI H' i) 0 b ∨ (b6 t xs H b ∧ ¬ lq t (xs.getD i (cq t)) f (atI H i) 0 b) := by
  have hget : xs[i]? = some (xs.getD i (cq t)) := fk hi
  rcases h with ⟨a, n, c, e, hcap, rfl⟩ | ⟨j, x, hj, hb⟩
  · rw [h0] at e
    exact .inr ⟨.inl ⟨a, n, c, e, hcap, rfl⟩, fun h2 => hs.1 a n c i _ e hcap hget (dG t _ _ 0 f _ hf h2)⟩
  · rcases gD hj with ⟨rfl, _, rfl⟩ | ⟨hji, hj⟩
    · rcases sj t _ (atI H j) _ 0 f g b hf (hs.2.2 j _ hget) (fun k _ h2 hk => funext fun q => hH j k q (fun e => hk (by injection e; omega))) hb with h | ⟨h1, h2⟩
      · exact .inl h
      · exact .inr ⟨.inr ⟨j, _, hget, h1⟩, h2⟩
    · have ne : ∀ k, (j, k) ≠ (i, f) := fun k e => hji (by injection e)
      have hb := (ke t x (atI H j) _ 0 b (fun k _ _ => funext fun q => hH j k q (ne k))).1 hb
      exact .inr ⟨.inr ⟨j, x, hj, hb⟩, fun h2 => hs.2.1 j i x _ b hji hj hget hb (dG t _ _ 0 f b hf h2)⟩
theorem wR (hi : i < xs.length) (hf : f < t.size) (hs : dJ t xs H) (h0 : H' [] = H [])
    (hH : ∀ j k q, (j, k) ≠ (i, f) → H' ((j, k) :: q) = H ((j, k) :: q))
    (hn : Sep (cellAt t (xs.getD i (cq t)) f).1 (g (cellAt t (xs.getD i (cq t)) f).1 (cellAt t (xs.getD i (cq t)) f).2) (atI H' i) (0 + f))
    (hb : ∀ b, lp t (xs.getD i (cq t)) f g (atI H' i) 0 b → lq t (xs.getD i (cq t)) f (atI H i) 0 b ∨ ¬ b6 t xs H b) :
    dJ t (xs.set i (cG t (xs.getD i (cq t)) f g)) H' := by
  have hget : xs[i]? = some (xs.getD i (cq t)) := fk hi
  have hGi : ∀ k, 0 ≤ k → k < 0 + t.size → k ≠ 0 + f → atI H' i k = atI H i k := fun k _ h2 hk => funext fun q => hH i k q (fun e => hk (by injection e; omega))
  have old : ∀ j x b, (xs.set i (cG t (xs.getD i (cq t)) f g))[j]? = some x → Blk t x (atI H' j) 0 b →
      (j = i ∧ lp t (xs.getD i (cq t)) f g (atI H' i) 0 b) ∨ ∃ y, xs[j]? = some y ∧ Blk t y (atI H j) 0 b ∧ (j = i → ¬ lq t (xs.getD i (cq t)) f (atI H i) 0 b) := by
    intro j x b hj hbb
    rcases gD hj with ⟨rfl, _, rfl⟩ | ⟨hji, hj⟩
    · rcases sj t _ (atI H j) _ 0 f g b hf (hs.2.2 j _ hget) hGi hbb with h | ⟨h1, h2⟩
      · exact .inl ⟨rfl, h⟩
      · exact .inr ⟨_, hget, h1, fun _ => h2⟩
    · have ne : ∀ k, (j, k) ≠ (i, f) := fun k e => hji (by injection e)
      exact .inr ⟨x, hj, (ke t x (atI H j) _ 0 b (fun k _ _ => funext fun q => hH j k q (ne k))).1 hbb, fun e => absurd e hji⟩
  refine ⟨fun a n c j x e hcap hj hbb => ?_, fun j k x y b hjk hj hk hbj hbk => ?_, fun j x hj => ?_⟩
  · rw [h0] at e
    rcases old j x _ hj hbb with ⟨rfl, h⟩ | ⟨y, hy, h, _⟩
    · rcases hb _ h with h | h
      · exact hs.1 a n c j _ e hcap hget (dG t _ _ 0 f _ hf h)
      · exact h (.inl ⟨a, n, c, e, hcap, rfl⟩)
    · exact hs.1 a n c j y e hcap hy h
  · have key : ∀ j k (y : den t), j ≠ k → j = i → lp t (xs.getD i (cq t)) f g (atI H' i) 0 b → xs[k]? = some y → Blk t y (atI H k) 0 b → False := by
      intro j k y hjk hji h hy h'
      rcases hb _ h with h | h
      · exact hs.2.1 i k _ y b (by omega) hget hy (dG t _ _ 0 f _ hf h) h'
      · exact h (.inr ⟨k, y, hy, h'⟩)
    rcases old j x b hj hbj with ⟨ej, h⟩ | ⟨x', hx', h, _⟩
    · rcases old k y b hk hbk with ⟨ek, h'⟩ | ⟨y', hy', h', _⟩
      · omega
      · exact key j k y' hjk ej h hy' h'
    · rcases old k y b hk hbk with ⟨ek, h'⟩ | ⟨y', hy', h', _⟩
      · exact key k j x' (fun e => hjk e.symm) ek h' hx' h
      · exact hs.2.1 j k x' y' b hjk hx' hy' h h'
  · rcases gD hj with ⟨rfl, _, rfl⟩ | ⟨hji, hj⟩
    · exact B0 t _ (atI H j) _ 0 f g hf (hs.2.2 j _ hget) hGi hn (fun b h => (hb b h).imp id fun h1 h2 => h1 (.inr ⟨j, _, hget, h2⟩))
    · have ne : ∀ k, (j, k) ≠ (i, f) := fun k e => hji (by injection e)
      exact sA t x (atI H j) _ 0 (fun k _ _ => funext fun q => hH j k q (ne k)) (hs.2.2 j x hj)
end
def dR : Path → (Path → Value) → (Path → Value) → Path → Value
  | [], H2, _ => H2
  | (i, f) :: p, H2, H => fun q => match q with
    | [] => H []
    | (j, k) :: q => if j = i ∧ k = f then dR p H2 (fun q => H ((i, f) :: q)) q else H ((j, k) :: q)
theorem su : ∀ (p : Path) (H2 H : Path → Value) (q : Path), q.length < p.length → dR p H2 H q = H q
  | [], _, _, _, h => by simp at h
  | (i, f) :: p, H2, H, [], _ => rfl
  | (i, f) :: p, H2, H, (j, k) :: q, h => by
    simp only [dR]
    split
    · next e => rw [su p _ _ q (by simpa using h), e.1, e.2]
    · rfl
theorem kC : ∀ (p : Path) (H : Path → Value), dR p (fun q => H (p ++ q)) H = H
  | [], _ => rfl
  | (i, f) :: p, H => by
    funext q
    cases q with
    | nil => rfl
    | cons x q =>
      obtain ⟨j, k⟩ := x
      simp only [dR]
      split
      · next e =>
        have := congrFun (kC p (fun q => H ((i, f) :: q))) q
        rw [e.1, e.2]; exact this
      · rfl
theorem wv {w w' : World} {rw : Bool} (F : (e : Ty) → List (den e) → List (den e)) : ∀ (p : Path) (t : Ty) (xs : List (den t)) (H : Path → Value) (ok : List Tst) (e : Ty) (ys : List (den e)) (H2 : Path → Value),
    rowAt t xs p = (ok, ⟨e, ys⟩) → b7 ok → cE w rw t xs H → dJ t xs H → H2 [] = H p →
    cE w' rw e (F e ys) H2 → dJ e (F e ys) H2 →
    (∀ b, b6 t xs H b → ¬ b6 e ys (fun q => H (p ++ q)) b → w'.heap[b]? = w.heap[b]?) →
    (∀ b, b6 e (F e ys) H2 b → b6 e ys (fun q => H (p ++ q)) b ∨ ¬ b6 t xs H b) →
    cE w' rw t (il t xs p F) (dR p H2 H) ∧ dJ t (il t xs p F) (dR p H2 H) ∧
      ∀ b, b6 t (il t xs p F) (dR p H2 H) b → b6 e (F e ys) H2 b ∨ (b6 t xs H b ∧ ¬ b6 e ys (fun q => H (p ++ q)) b) := by
  intro p
  induction p with
  | nil =>
    intro t xs H ok e ys H2 h _ _ _ _ hr hs _ _
    simp only [rowAt, Prod.mk.injEq, Sigma.mk.injEq] at h
    obtain ⟨-, rfl, h⟩ := h
    obtain rfl := eq_of_heq h
    exact ⟨hr, hs, fun b hb => .inl hb⟩
  | cons q p ih =>
    intro t xs H ok e ys H2 h hok hr hs h20 hr2 hs2 hfr hbl
    obtain ⟨i, f⟩ := q
    have hpath := jk (w := w) (rw := rw) ((i, f) :: p) t xs H ok e ys h hok hr
    simp only [rowAt] at h
    have hty := jK t (D.rd xs i (cq t)) f
    have hmod : il t xs ((i, f) :: p) F = xs.set i (cG t (xs.getD i (cq t)) f fun c => match c with
      | .sl e => fun ys => il e ys p F
      | _ => fun d => d) := rfl
    rw [hmod]
    generalize hgg : (fun (c : Ty) => (match c with
      | .sl e => fun ys => il e ys p F
      | _ => fun d => d : den c → den c)) = g
    have hgsl : ∀ e' (zs : List (den e')), g (.sl e') zs = il e' zs p F := by intro e' zs; rw [← hgg]
    have hcell : cellAt t (D.rd xs i (cq t)) f = cellAt t (xs.getD i (cq t)) f := rfl
    rw [hcell] at h hty
    generalize hc : cellAt t (xs.getD i (cq t)) f = c at h hty
    obtain ⟨c, d⟩ := c
    simp only at hty
    cases c with
    | sl e' =>
      simp only at h
      generalize hra : rowAt e' d p = ra at h
      obtain ⟨ok', e'', ys'⟩ := ra
      simp only [Prod.mk.injEq, Sigma.mk.injEq] at h
      obtain ⟨rfl, rfl, h⟩ := h
      obtain rfl := eq_of_heq h
      obtain ⟨hi, hok'⟩ := ag.1 hok
      have hi : i < xs.length := of_decide_eq_true (show decide (i < xs.length) = true from hi)
      have hf : f < t.size := qD t f e' hty.symm
      have hget : xs[i]? = some (xs.getD i (cq t)) := fk hi
      obtain ⟨a, cap, hH0, hle, hg, hx⟩ : ∃ a cap, H [] = .slice (some a) xs.length cap ∧ xs.length ≤ cap ∧
          (rw = true → cap ≠ 0 → a.spot = none ∧ ∃ arr te, w.heap[a.block]? = some (.cells arr te (0, 0)) ∧ a.off + cap * t.size ≤ arr.size) ∧
          ∀ i (x : den t), xs[i]? = some x → Rep w rw t x (fun f p => H ((i, f) :: p)) 0 (fun f => w.cell? (a.add (i * t.size + f))) := by
        rcases hr with ⟨_, rfl⟩ | h
        · simp at hi
        · exact h
      have h1 := tg t _ _ 0 f _ hf (hx i _ hget)
      rw [hc] at h1
      simp only [Nat.zero_add] at h1
      obtain ⟨h2, h3⟩ := h1
      have h4 := ui t _ _ 0 f hf (hs.2.2 i _ hget)
      rw [hc] at h4
      simp only [Nat.zero_add] at h4
      have hcb : ∀ b, lq t (xs.getD i (cq t)) f (atI H i) 0 b ↔ b6 e' d (fun q => H ((i, f) :: q)) b := by
        intro b
        unfold lq
        rw [hc]
        simp only [Nat.zero_add]
        exact Iff.rfl
      have hin : ∀ b, b6 e' d (fun q => H ((i, f) :: q)) b → b6 t xs H b := fun b hb =>
        .inr ⟨i, _, hget, dG t _ _ 0 f b hf ((hcb b).2 hb)⟩
      have hpin : ∀ b, b6 e'' ys' (fun q => H ((i, f) :: p ++ q)) b → b6 e' d (fun q => H ((i, f) :: q)) b :=
        (jk (w := w) (rw := rw) p e' d (fun q => H ((i, f) :: q)) ok' e'' ys' hra hok' h3).2.2.1
      obtain ⟨r1, r2, r3⟩ := ih e' d (fun q => H ((i, f) :: q)) ok' e'' ys' H2 hra hok' h3 h4 h20 hr2 hs2
        (fun b hb hnb => hfr b (hin b hb) hnb) (fun b hb => (hbl b hb).imp id fun hn hb => hn (hin b hb))
      have hown : w'.heap[a.block]? = w.heap[a.block]? := hfr _ (.inl ⟨a, _, _, hH0, by omega, rfl⟩) fun hb =>
        hs.1 a _ _ i _ hH0 (by omega) hget (dG t _ _ 0 f _ hf ((hcb _).2 (hpin _ hb)))
      have hcell' : ∀ n, w'.cell? (a.add n) = w.cell? (a.add n) := fun n => pE (by rw [fI]; exact hown)
      have h0 : dR ((i, f) :: p) H2 H [] = H [] := rfl
      have hH : ∀ j k q, (j, k) ≠ (i, f) → dR ((i, f) :: p) H2 H ((j, k) :: q) = H ((j, k) :: q) := by
        intro j k q hne
        simp only [dR]
        rw [if_neg (fun e => hne (by rw [e.1, e.2]))]
      have hat : (fun q => dR ((i, f) :: p) H2 H ((i, f) :: q)) = dR p H2 (fun q => H ((i, f) :: q)) := by
        funext q; simp [dR]
      have hnb : ∀ b, lp t (xs.getD i (cq t)) f g (atI (dR ((i, f) :: p) H2 H) i) 0 b ↔ b6 e' (il e' d p F) (dR p H2 (fun q => H ((i, f) :: q))) b := by
        intro b
        unfold lp
        rw [hc]
        simp only [Nat.zero_add, hgsl]
        show qL _ _ (fun q => dR ((i, f) :: p) H2 H ((i, f) :: q)) b ↔ _
        rw [hat]
      have hh0 : dR p H2 (fun q => H ((i, f) :: q)) [] = H [(i, f)] := by
        cases p with
        | nil => exact h20
        | cons x p => obtain ⟨j, k⟩ := x; rfl
      refine ⟨wJ hi hf hr hs h0 hH ?_ ?_ ?_, wR hi hf hs h0 hH ?_ ?_, fun b hb => ?_⟩
      · intro a' n c e
        rw [hH0] at e; injection e with e; injection e with e; subst e
        exact ⟨fun j k _ _ _ => hcell' _, fun _ arr te h => ⟨arr, hown.trans h, rfl⟩⟩
      · intro b j x hj hb hnc
        refine hfr b (.inr ⟨j, x, hj, hb⟩) fun h => hnc ((hcb b).2 (hpin b h))
      · intro a' n c e
        rw [hH0] at e; injection e with e; injection e with e; subst e
        rw [hc]
        simp only [Nat.zero_add, hgsl]
        refine ⟨?_, ?_⟩
        · show w'.cell? _ = some (dR ((i, f) :: p) H2 H ((i, f) :: []))
          have := congrFun hat []
          rw [this, hh0, hcell']
          exact h2
        · show cE w' rw e' (il e' d p F) (fun q => dR ((i, f) :: p) H2 H ((i, f) :: q))
          rw [hat]; exact r1
      · rw [hc]
        simp only [Nat.zero_add, hgsl]
        show dJ e' (il e' d p F) (fun q => dR ((i, f) :: p) H2 H ((i, f) :: q))
        rw [hat]; exact r2
      · intro b hb
        rcases r3 b ((hnb b).1 hb) with h | ⟨h, _⟩
        · rcases hbl b h with h | h
          · exact .inl ((hcb b).2 (hpin b h))
          · exact .inr h
        · exact .inl ((hcb b).2 h)
      · rcases wV hi hf hs h0 hH hb with h | ⟨h1, h2⟩
        · rcases r3 b ((hnb b).1 h) with h | ⟨h, h'⟩
          · exact .inl h
          · exact .inr ⟨hin b h, h'⟩
        · exact .inr ⟨h1, fun h => h2 ((hcb b).2 (hpin b h))⟩
    | _ =>
      simp only [Prod.mk.injEq] at h
      obtain ⟨rfl, -⟩ := h
      have := (ag.1 hok).1
      simp [Tst.val] at this
end
end Go.Am
end
section
/- Soundness, fourth part: values, roots, the relation of the machine's state to the world. -/
namespace Go.Am
noncomputable section
attribute [local instance] D.real
structure Info where
  b : Nat
  H : Path → Value
abbrev bC := Nat → Info
def dc : aU → Option Ty
  | .row _ t _ => some t
  | .pend _ _ t _ => some t
  | _ => none
def isVar : aU → Bool
  | .var _ => true
  | _ => false
mutual
def af (get : Get) (g : bC) : AV → Value → Prop
  | .undef, _ => True
  | .int k n, v => v = .int k n
  | .bool b, v => v = .bool b
  | .kb b, v => v = .bool b
  | .nb n, v => ∃ b, v = .bool b ∧ (n ≠ 0 → b = false)
  | .str s, v => v = .string s
  | .nilS, v => v = .slice none 0 0
  | .sl r p sub, v => (∃ a n c, v = .slice a n c) ∧ ∀ t e, dc (get r) = some t → typeAt t p = some e → qg e.size sub ((g r).H p) v
  | .pv r c, v => (∃ a, v = .pointer (some a)) ∧ (isVar (get r) = true → v = .pointer (some ⟨(g r).b, c, none⟩))
  | .lit r n, v => (∃ a m c, v = .slice a m c) ∧ (isVar (get r) = true → v = .slice (some ⟨(g r).b, 0, none⟩) n n)
  | .pe r p i f, v => (∃ a, v = .pointer (some a)) ∧ ∀ t e, dc (get r) = some t → typeAt t p = some e →
      ∃ a n cap, (g r).H p = .slice (some a) n cap ∧ v = .pointer (some (a.add (i * e.size + f)))
  | .fn f a b, v => ∃ vs ws, v = .func (.func f) vs ws ∧ ak get g a vs.toList ∧ ak get g b ws.toList
  | .agg cs, v => ∃ vs, v = .agg vs ∧ (∀ x ∈ vs.toList, x.oneCell' = true) ∧ ak get g cs vs.toList
  | .tup ws, v => ∃ vs, v = .tuple vs ∧ ak get g ws vs.toList
def ak (get : Get) (g : bC) : List AV → List Value → Prop
  | [], l => l = []
  | v :: vs, l => ∃ x xs, l = x :: xs ∧ af get g v x ∧ ak get g vs xs
end
theorem dU {get : Get} {g : bC} : ∀ {vs : List AV} {l : List Value}, ak get g vs l → l.length = vs.length
  | [], _, h => by rw [ak] at h; simp [h]
  | v :: vs, _, h => by
    rw [ak] at h
    obtain ⟨x, xs, rfl, _, h⟩ := h
    simp [dU h]
theorem cX {get : Get} {g : bC} : ∀ {vs : List AV} {l : List Value} {i : Nat} {v : AV}, ak get g vs l → vs[i]? = some v → ∃ x, l[i]? = some x ∧ af get g v x
  | [], _, _, _, _, e => by simp at e
  | v :: vs, _, i, u, h, e => by
    rw [ak] at h
    obtain ⟨x, xs, rfl, h0, h⟩ := h
    cases i with
    | zero => simp only [List.getElem?_cons_zero, Option.some.injEq] at e; subst e; exact ⟨x, rfl, h0⟩
    | succ i => simpa using cX h (by simpa using e)
theorem dN {get : Get} {g : bC} : ∀ {vs us : List AV} {l m : List Value}, ak get g vs l → ak get g us m → ak get g (vs ++ us) (l ++ m)
  | [], _, _, _, h, k => by rw [ak] at h; subst h; exact k
  | v :: vs, us, _, m, h, k => by
    rw [ak] at h
    obtain ⟨x, xs, rfl, h0, h⟩ := h
    show ak get g (v :: (vs ++ us)) _
    rw [ak]
    exact ⟨x, xs ++ m, rfl, h0, dN h k⟩
theorem gn {get : Get} {g : bC} : ∀ (n : Nat) {vs : List AV} {l : List Value}, ak get g vs l → ak get g (vs.drop n) (l.drop n)
  | 0, _, _, h => h
  | n + 1, [], _, h => by rw [ak] at h; subst h; simp [ak]
  | n + 1, v :: vs, _, h => by
    rw [ak] at h
    obtain ⟨x, xs, rfl, _, h⟩ := h
    exact gn n h
theorem gm {get : Get} {g : bC} : ∀ (n : Nat) {vs : List AV} {l : List Value}, ak get g vs l → ak get g (vs.take n) (l.take n)
  | 0, _, _, h => by simp [ak]
  | n + 1, [], _, h => by rw [ak] at h; subst h; simp [ak]
  | n + 1, v :: vs, _, h => by
    rw [ak] at h
    obtain ⟨x, xs, rfl, h0, h⟩ := h
    simp only [List.take_succ_cons]
    rw [ak]
    exact ⟨x, _, rfl, h0, gm n h⟩
structure kT (get get' : Get) (g g' : bC) (r : Nat) (ok : Path → Prop) : Prop where
  row : ∀ t, dc (get' r) = some t → dc (get r) = some t ∧ ∀ p, ok p → (g' r).H p = (g r).H p
  var : isVar (get' r) = true → isVar (get r) = true ∧ (g' r).b = (g r).b
mutual
theorem gR {get get' : Get} {g g' : bC} : ∀ (av : AV) (v : Value), (∀ r ∈ av.roots, kT get get' g g' r fun _ => True) → af get g av v → af get' g' av v
  | .undef, _, _, _ => by simp [af]
  | .int _ _, _, _, h => by rw [af] at h ⊢; exact h
  | .bool _, _, _, h => by rw [af] at h ⊢; exact h
  | .kb _, _, _, h => by rw [af] at h ⊢; exact h
  | .nb _, _, _, h => by rw [af] at h ⊢; exact h
  | .str _, _, _, h => by rw [af] at h ⊢; exact h
  | .nilS, _, _, h => by rw [af] at h ⊢; exact h
  | .sl r p sub, v, k, h => by
    rw [af] at h ⊢
    refine ⟨h.1, fun t e ht he => ?_⟩
    obtain ⟨k1, k2⟩ := (k r (by simp [AV.roots])).row t ht
    rw [k2 p trivial]; exact h.2 t e k1 he
  | .pv r c, v, k, h => by
    rw [af] at h ⊢
    refine ⟨h.1, fun ht => ?_⟩
    obtain ⟨k1, k2⟩ := (k r (by simp [AV.roots])).var ht
    rw [k2]; exact h.2 k1
  | .lit r n, v, k, h => by
    rw [af] at h ⊢
    refine ⟨h.1, fun ht => ?_⟩
    obtain ⟨k1, k2⟩ := (k r (by simp [AV.roots])).var ht
    rw [k2]; exact h.2 k1
  | .pe r p i f, v, k, h => by
    rw [af] at h ⊢
    refine ⟨h.1, fun t e ht he => ?_⟩
    obtain ⟨k1, k2⟩ := (k r (by simp [AV.roots])).row t ht
    rw [k2 p trivial]; exact h.2 t e k1 he
  | .fn f a b, v, k, h => by
    rw [af] at h ⊢
    obtain ⟨vs, ws, rfl, h1, h2⟩ := h
    exact ⟨vs, ws, rfl, dF a _ (fun r hr => k r (by simp [AV.roots, hr])) h1, dF b _ (fun r hr => k r (by simp [AV.roots, hr])) h2⟩
  | .agg cs, v, k, h => by
    rw [af] at h ⊢
    obtain ⟨vs, rfl, h1, h2⟩ := h
    exact ⟨vs, rfl, h1, dF cs _ (fun r hr => k r (by simpa [AV.roots] using hr)) h2⟩
  | .tup cs, v, k, h => by
    rw [af] at h ⊢
    obtain ⟨vs, rfl, h2⟩ := h
    exact ⟨vs, rfl, dF cs _ (fun r hr => k r (by simpa [AV.roots] using hr)) h2⟩
theorem dF {get get' : Get} {g g' : bC} : ∀ (vs : List AV) (l : List Value), (∀ r ∈ AV.ah vs, kT get get' g g' r fun _ => True) → ak get g vs l → ak get' g' vs l
  | [], _, _, h => by rw [ak] at h ⊢; exact h
  | v :: vs, l, k, h => by
    rw [ak] at h ⊢
    obtain ⟨x, xs, rfl, h0, h⟩ := h
    exact ⟨x, xs, rfl, gR v x (fun r hr => k r (by simp [AV.ah, hr])) h0, dF vs xs (fun r hr => k r (by simp [AV.ah, hr])) h⟩
end
mutual
theorem qR {get get' : Get} {g g' : bC} {r0 n : Nat} : ∀ (av : AV) (v : Value), (∀ r ∈ av.roots, kT get get' g g' r fun p => r = r0 → p.length < n) → af get g av v → af get' g' (av.cut r0 n) v
  | .undef, _, _, _ => by simp [af, AV.cut]
  | .int _ _, _, _, h => by rw [af] at h; rw [AV.cut, af]; exact h
  | .bool _, _, _, h => by rw [af] at h; rw [AV.cut, af]; exact h
  | .kb _, _, _, h => by rw [af] at h; rw [AV.cut, af]; exact h
  | .nb _, _, _, h => by rw [af] at h; rw [AV.cut, af]; exact h
  | .str _, _, _, h => by rw [af] at h; rw [AV.cut, af]; exact h
  | .nilS, _, _, h => by rw [af] at h; rw [AV.cut, af]; exact h
  | .sl r p sub, v, k, h => by
    rw [af] at h
    rw [AV.cut]
    cases hb : (Nat.beq r r0 && Nat.ble n p.length) with
    | true => simp [af]
    | false =>
      have hp : r = r0 → p.length < n := by
        intro e; subst e
        simp only [Nat.beq_refl, Bool.true_and] at hb
        rcases Nat.lt_or_ge p.length n with h | h
        · exact h
        · rw [Nat.ble_eq_true_of_le h] at hb; cases hb
      simp only [cond_false]
      rw [af]
      refine ⟨h.1, fun t e ht he => ?_⟩
      obtain ⟨k1, k2⟩ := (k r (by simp [AV.roots])).row t ht
      rw [k2 p hp]; exact h.2 t e k1 he
  | .pv r c, v, k, h => by
    rw [af] at h
    rw [AV.cut, af]
    refine ⟨h.1, fun ht => ?_⟩
    obtain ⟨k1, k2⟩ := (k r (by simp [AV.roots])).var ht
    rw [k2]; exact h.2 k1
  | .lit r n, v, k, h => by
    rw [af] at h
    rw [AV.cut, af]
    refine ⟨h.1, fun ht => ?_⟩
    obtain ⟨k1, k2⟩ := (k r (by simp [AV.roots])).var ht
    rw [k2]; exact h.2 k1
  | .pe r p i f, v, k, h => by
    rw [af] at h
    rw [AV.cut]
    cases hb : (Nat.beq r r0 && Nat.ble n p.length) with
    | true => simp [af]
    | false =>
      have hp : r = r0 → p.length < n := by
        intro e; subst e
        simp only [Nat.beq_refl, Bool.true_and] at hb
        rcases Nat.lt_or_ge p.length n with h | h
        · exact h
        · rw [Nat.ble_eq_true_of_le h] at hb; cases hb
      simp only [cond_false]
      rw [af]
      refine ⟨h.1, fun t e ht he => ?_⟩
      obtain ⟨k1, k2⟩ := (k r (by simp [AV.roots])).row t ht
      rw [k2 p hp]; exact h.2 t e k1 he
  | .fn f a b, v, k, h => by
    rw [af] at h
    rw [AV.cut, af]
    obtain ⟨vs, ws, rfl, h1, h2⟩ := h
    exact ⟨vs, ws, rfl, jD a _ (fun r hr => k r (by simp [AV.roots, hr])) h1, jD b _ (fun r hr => k r (by simp [AV.roots, hr])) h2⟩
  | .agg cs, v, k, h => by
    rw [af] at h
    rw [AV.cut, af]
    obtain ⟨vs, rfl, h1, h2⟩ := h
    exact ⟨vs, rfl, h1, jD cs _ (fun r hr => k r (by simpa [AV.roots] using hr)) h2⟩
  | .tup cs, v, k, h => by
    rw [af] at h
    rw [AV.cut, af]
    obtain ⟨vs, rfl, h2⟩ := h
    exact ⟨vs, rfl, jD cs _ (fun r hr => k r (by simpa [AV.roots] using hr)) h2⟩
theorem jD {get get' : Get} {g g' : bC} {r0 n : Nat} : ∀ (vs : List AV) (l : List Value), (∀ r ∈ AV.ah vs, kT get get' g g' r fun p => r = r0 → p.length < n) → ak get g vs l → ak get' g' (AV.gF r0 n vs) l
  | [], _, _, h => by rw [ak] at h; rw [AV.gF, ak]; exact h
  | v :: vs, l, k, h => by
    rw [ak] at h
    rw [AV.gF, ak]
    obtain ⟨x, xs, rfl, h0, h⟩ := h
    exact ⟨x, xs, rfl, qR v x (fun r hr => k r (by simp [AV.ah, hr])) h0, jD vs xs (fun r hr => k r (by simp [AV.ah, hr])) h⟩
end
def m6 (g : bC) (r : Nat) (p : Path) (b : Nat) : Prop := ∃ a n c, (g r).H p = .slice (some a) n c ∧ c ≠ 0 ∧ a.block = b
structure dx where
  w : World
  lent : Nat → Prop
  clean : ∀ a : Addr, lent a.block → w.cell? a = none
  oth : Nat → Option Obj
  othc : ∀ k o, oth k = some o → o.isCells = false
def dx.of (w : World) : dx := ⟨w, fun _ => False, fun _ h => h.elim, fun _ => none, fun _ _ h => by cases h⟩
def dx.jN (B : dx) (b : Nat) : Prop := b < B.w.heap.size ∧ ¬ B.lent b
structure dD (B : dx) (w w' : World) : Prop where
  os : w'.os = w.os
  tape : w'.tape = w.tape
  output : w'.output = w.output
  size : w.heap.size ≤ w'.heap.size
  block : ∀ k, B.jN k → w'.heap[k]? = w.heap[k]?
  oth : ∀ (k : Nat) (o : Obj), w.heap[k]? = some o → o.isCells = false → w'.heap[k]? = some o
theorem dD.refl (B : dx) (w : World) : dD B w w := ⟨rfl, rfl, rfl, Nat.le_refl _, fun _ _ => rfl, fun _ _ h _ => h⟩
theorem dD.trans {B : dx} {a b c : World} (h : dD B a b) (k : dD B b c) : dD B a c :=
  ⟨k.os.trans h.os, k.tape.trans h.tape, k.output.trans h.output, Nat.le_trans h.size k.size, fun i hi => (k.block i hi).trans (h.block i hi), fun i o h1 h2 => k.oth i o (h.oth i o h1 h2) h2⟩
theorem dD.yd {B : dx} {w w' : World} (h : RowKit.Below w.heap.size w w') (hs : B.w.heap.size ≤ w.heap.size) : dD B w w' :=
  ⟨h.os, h.tape, h.output, h.size, fun k hk => h.block k (Nat.lt_of_lt_of_le hk.1 hs), fun k o h1 _ => (h.block k (Array.getElem?_eq_some_iff.1 h1).1).trans h1⟩
theorem dD.below {W w : World} (h : dD (dx.of W) W w) : RowKit.Below W.heap.size W w :=
  ⟨h.os, h.tape, h.output, h.size, fun k hk => h.block k ⟨hk, fun h => h⟩⟩
theorem dD.alloc {B : dx} {a w : World} (h : dD B a w) (hB : B.w.heap.size ≤ w.heap.size) (o : Obj) : dD B a (w.alloc o) :=
  h.trans ⟨rfl, rfl, rfl, by simp, fun k hk => RowKit.Below.heap_alloc _ _ _ (Nat.lt_of_lt_of_le hk.1 hB), fun k o h1 h2 => (KeepsOthers.alloc w _).same k o h1 h2⟩
theorem dD.setCell {B : dx} {a w : World} (h : dD B a w) {p : Addr} (hp : ¬ B.jN p.block) (u : Value) : dD B a (w.setCell p u) :=
  h.trans ⟨rfl, rfl, rfl, by simp [World.setCell], fun k hk => RowKit.Below.heap_setCell _ _ _ _ (fun e => hp (e ▸ hk)), fun k o h1 h2 => (KeepsOthers.setCell w _ _).same k o h1 h2⟩
def bW (w0 : dx) (w : World) (get : Get) (g : bC) (r : Nat) : Prop := match get r with
  | .dead => True
  | .var cs => ∃ arr te, w.heap[(g r).b]? = some (.cells arr te (0, 0)) ∧ (∀ x ∈ arr.toList, x.oneCell' = true) ∧ ak get g cs arr.toList
  | .row true t xs => cE w true t xs (g r).H ∧ dJ t xs (g r).H
  | .row false t xs => cE w0.w false t xs (g r).H
  | .pend r' p t xs => cE w true t xs (g r).H ∧ t.flat = true ∧ ∃ t' xs', get r' = .row true t' xs' ∧ p ≠ [] ∧ ∀ b, m6 g r' p b → b6 t' xs' (g r').H b
def Own (get : Get) (g : bC) (r b : Nat) : Prop := match get r with
  | .dead => False
  | .var _ => b = (g r).b
  | .row true t xs => b6 t xs (g r).H b
  | .row false _ _ => False
  | .pend r' p t xs => b6 t xs (g r).H b ∧ ¬ m6 g r' p b
structure sg (get : Get) (g : bC) (f : List AV) (a : Act) : Prop where
  size : f.length ≤ a.tmps.size
  slot : ∀ i, af get g (f.getD i .undef) (a.tmps.getD i Go.undef)
  defers : ∀ d ∈ a.defers, ∃ D, d.target = .collected D
def fj (get : Get) (g : bC) : List (List AV) → List Act → Prop
  | [], l => l = []
  | f :: fs, l => ∃ a as, l = a :: as ∧ sg get g f a ∧ fj get g fs as
def wq (d : Deferred) : List Nat := match d.target with
  | .collected D => [D]
  | _ => []
def marks (a : Act) : List Nat := a.defers.flatMap wq
def gk (acts : List Act) : List Nat := acts.flatMap marks
structure mF (B : dx) (ms : List Nat) (w : World) : Prop where
  nodup : ms.Nodup
  empty : ∀ D ∈ ms, w.heap[D]? = some (.deferred (some [])) ∧ B.w.heap.size ≤ D ∧ B.oth D = none
  oth : ∀ k o, B.oth k = some o → w.heap[k]? = some o
theorem mF.step {B : dx} {ms : List Nat} {w w' : World} (h : mF B ms w) (ho : ∀ (k : Nat) (o : Obj), w.heap[k]? = some o → o.isCells = false → w'.heap[k]? = some o) : mF B ms w' :=
  ⟨h.nodup, fun D hD => ⟨ho D _ (h.empty D hD).1 rfl, (h.empty D hD).2⟩, fun k o hk => ho k o (h.oth k o hk) (B.othc k o hk)⟩
structure Rel (w0 : dx) (st : St) (g : bC) (born : Nat → Prop) (acts : List Act) (w : World) : Prop where
  below : dD w0 w0.w w
  roots : ∀ r, bW w0 w st.get g r
  sep : ∀ r r' b, r ≠ r' → Own st.get g r b → Own st.get g r' b → False
  low : ∀ r b, Own st.get g r b → ¬ w0.jN b
  frames : fj st.get g st.fr acts
  bornF : ∀ f ∈ st.fr, ∀ r ∈ AV.ah f, born r
  bornR : ∀ r, ∀ x ∈ (st.get r).roots, born x
  alive : ∀ r, st.get r ≠ .dead → born r
  marks : mF w0 (gk acts) w
theorem Rel.fresh {w0 : dx} {st : St} {g : bC} {born : Nat → Prop} {acts : List Act} {w : World} (R : Rel w0 st g born acts w) {b : Nat} (h : w.heap.size ≤ b) : ¬ w0.jN b := fun hk => by
  have := R.below.size
  have := hk.1
  omega
end
end Go.Am
end
section
/- Soundness, fifth part: the relation under updates. -/
namespace Go.Am
attribute [local instance] D.real
theorem qJ {r n : Nat} : (∀ av : AV, ∀ x ∈ (av.cut r n).roots, x ∈ av.roots) ∧ ∀ l : List AV, ∀ x ∈ AV.ah (AV.gF r n l), x ∈ AV.ah l := by
  have key : ∀ av : AV, ∀ x ∈ (av.cut r n).roots, x ∈ av.roots := by
    intro av
    refine AV.rec (motive_1 := fun av => ∀ x ∈ (av.cut r n).roots, x ∈ av.roots) (motive_2 := fun l => ∀ x ∈ AV.ah (AV.gF r n l), x ∈ AV.ah l) ?_ ?_ ?_ ?_ ?_ ?_ ?_ ?_ ?_ ?_ ?_ ?_ ?_ ?_ ?_ ?_ av
    · intro x h; rw [AV.cut] at h; exact h
    · intro k m x h; rw [AV.cut] at h; exact h
    · intro b x h; rw [AV.cut] at h; exact h
    · intro b x h; rw [AV.cut] at h; exact h
    · intro b x h; rw [AV.cut] at h; exact h
    · intro s x h; rw [AV.cut] at h; exact h
    · intro x h; rw [AV.cut] at h; exact h
    · intro r' p s x h
      rw [AV.cut] at h
      cases hb : (Nat.beq r' r && Nat.ble n p.length) <;> rw [hb] at h
      · exact h
      · simp [AV.roots] at h
    · intro r' c x h; rw [AV.cut] at h; exact h
    · intro r' p i f x h
      rw [AV.cut] at h
      cases hb : (Nat.beq r' r && Nat.ble n p.length) <;> rw [hb] at h
      · exact h
      · simp [AV.roots] at h
    · intro r' n' x h; rw [AV.cut] at h; exact h
    · intro f a b ha hb x h
      rw [AV.cut] at h
      simp only [AV.roots, List.mem_append] at h ⊢
      exact h.imp (ha x) (hb x)
    · intro cs hc x h; rw [AV.cut] at h; simp only [AV.roots] at h ⊢; exact hc x h
    · intro cs hc x h; rw [AV.cut] at h; simp only [AV.roots] at h ⊢; exact hc x h
    · intro x h; rw [AV.gF] at h; exact h
    · intro v vs hv hvs x h
      rw [AV.gF] at h
      simp only [AV.ah, List.mem_append] at h ⊢
      exact h.imp (hv x) (hvs x)
  refine ⟨key, fun l => ?_⟩
  induction l with
  | nil => intro x h; rw [AV.gF] at h; exact h
  | cons v vs ih =>
    intro x h
    rw [AV.gF] at h
    simp only [AV.ah, List.mem_append] at h ⊢
    exact h.imp (key v x) (ih x)
section
variable {w0 : dx} {w w' : World} {st st' : St} {g g' : bC} {born born' : Nat → Prop} {acts : List Act}
theorem sC : ∀ {l : List AV} {v : AV} {r : Nat}, v ∈ l → r ∈ v.roots → r ∈ AV.ah l
  | u :: us, v, r, hm, hr => by
    simp only [AV.ah, List.mem_append]
    rcases List.mem_cons.1 hm with rfl | hm
    · exact .inl hr
    · exact .inr (sC hm hr)
theorem g6 {f : List AV} {i r : Nat} (h : r ∈ (f.getD i .undef).roots) : r ∈ AV.ah f := by
  rcases Nat.lt_or_ge i f.length with hi | hi
  · refine sC (v := f.getD i .undef) ?_ h
    simp [List.getD, List.getElem?_eq_getElem hi]
  · have : f.getD i .undef = .undef := by simp [List.getD, List.getElem?_eq_none hi]
    rw [this] at h; simp [AV.roots] at h
theorem rp {get get' : Get} : ∀ {fr : List (List AV)} {acts : List Act}, (∀ f ∈ fr, ∀ r ∈ AV.ah f, kT get get' g g' r fun _ => True) → fj get g fr acts → fj get' g' fr acts
  | [], _, _, h => h
  | f :: fs, _, k, ⟨a, as, e, h1, h2⟩ =>
    ⟨a, as, e, ⟨h1.size, fun i => gR _ _ (fun r hr => k f List.mem_cons_self r (g6 hr)) (h1.slot i), h1.defers⟩,
      rp (fun f' hf => k f' (List.mem_cons_of_mem _ hf)) h2⟩
theorem AA {r n : Nat} (f : List AV) (i : Nat) : (AV.gF r n f).getD i .undef = (f.getD i .undef).cut r n := by
  induction f generalizing i with
  | nil => rw [AV.gF]; simp [AV.cut]
  | cons v vs ih =>
    rw [AV.gF]
    cases i with
    | zero => simp
    | succ i => simpa using ih i
theorem w7 {r n : Nat} (f : List AV) : (AV.gF r n f).length = f.length := by
  induction f with
  | nil => rw [AV.gF]
  | cons v vs ih => rw [AV.gF]; simp [ih]
theorem tj {get get' : Get} {r0 n : Nat} : ∀ {fr : List (List AV)} {acts : List Act}, (∀ f ∈ fr, ∀ r ∈ AV.ah f, kT get get' g g' r fun p => r = r0 → p.length < n) → fj get g fr acts → fj get' g' (fr.map (AV.gF r0 n)) acts
  | [], _, _, h => h
  | f :: fs, _, k, ⟨a, as, e, h1, h2⟩ =>
    ⟨a, as, e, ⟨by rw [w7]; exact h1.size, fun i => by rw [AA]; exact qR _ _ (fun r hr => k f List.mem_cons_self r (g6 hr)) (h1.slot i), h1.defers⟩,
      tj (fun f' hf => k f' (List.mem_cons_of_mem _ hf)) h2⟩
theorem xO (C : Nat → Prop) (R : Rel w0 st g born acts w) (hb : dD w0 w0.w w') (hmk : mF w0 (gk acts) w') (hfr : st'.fr = st.fr)
    (hholds : ∀ r, born r → kT st.get st'.get g g' r fun _ => True)
    (hsame : ∀ r, ¬ C r → st'.get r = st.get r ∧ g' r = g r ∧ ∀ b, Own st.get g r b → w'.heap[b]? = w.heap[b]?)
    (hpend : ∀ r r' p t xs, ¬ C r → st.get r = .pend r' p t xs → ¬ C r')
    (hC : ∀ r, C r → bW w0 w' st'.get g' r)
    (hsepC : ∀ r r' b, C r → r ≠ r' → Own st'.get g' r b → Own st'.get g' r' b → False)
    (hlowC : ∀ r b, C r → Own st'.get g' r b → ¬ w0.jN b)
    (hborn : ∀ r, born r → born' r) (hbornC : ∀ r, C r → ∀ x ∈ (st'.get r).roots, born' x) (haliveC : ∀ r, C r → st'.get r ≠ .dead → born' r) :
    Rel w0 st' g' born' acts w' := by
  have hown : ∀ r b, ¬ C r → (Own st'.get g' r b ↔ Own st.get g r b) := by
    intro r b hr
    obtain ⟨e1, e2, _⟩ := hsame r hr
    unfold Own
    rw [e1]
    cases hg : st.get r with
    | dead => exact Iff.rfl
    | var cs => simp only [e2]
    | row rw t xs => cases rw <;> simp only [e2]
    | pend r' p t xs =>
      have e3 := (hsame r' (hpend r r' p t xs hr hg)).2.1
      simp only [e2, m6, e3]
  refine ⟨hb, fun r => ?_, fun r r' b hne h1 h2 => ?_, fun r b h => ?_, ?_, fun f hf r hr => ?_, fun r x hx => ?_, fun r hr => ?_, hmk⟩
  · by_cases hr : C r
    · exact hC r hr
    · obtain ⟨e1, e2, e3⟩ := hsame r hr
      have h := R.roots r
      unfold bW at h ⊢
      rw [e1]
      cases hg : st.get r with
      | dead => trivial
      | var cs =>
        rw [hg] at h
        obtain ⟨arr, te, h1, h2, h3⟩ := h
        refine ⟨arr, te, ?_, h2, dF _ _ (fun x hx => hholds x (R.bornR r x (by rw [hg]; exact hx))) h3⟩
        rw [e2, e3 _ (by unfold Own; rw [hg])]
        exact h1
      | row rw t xs =>
        rw [hg] at h
        cases rw with
        | true =>
          refine ⟨?_, by rw [e2]; exact h.2⟩
          rw [e2]
          exact jC (fun b hb => e3 b (by unfold Own; rw [hg]; exact hb)) h.1
        | false => simp only at h ⊢; rw [e2]; exact h
      | pend r' p t xs =>
        rw [hg] at h
        obtain ⟨h1, h2, t', xs', h3, h4, h5⟩ := h
        obtain ⟨e4, e5, e6⟩ := hsame r' (hpend r r' p t xs hr hg)
        refine ⟨?_, h2, t', xs', by rw [e4]; exact h3, h4, ?_⟩
        · rw [e2]
          refine jC (fun b hb => ?_) h1
          by_cases hh : m6 g r' p b
          · exact e6 b (by unfold Own; rw [h3]; exact h5 b hh)
          · exact e3 b (by unfold Own; rw [hg]; exact ⟨hb, hh⟩)
        · intro b hb
          unfold m6 at hb
          rw [e5] at hb ⊢
          exact h5 b hb
  · by_cases hr : C r
    · exact hsepC r r' b hr hne h1 h2
    · by_cases hr' : C r'
      · exact hsepC r' r b hr' (fun e => hne e.symm) h2 h1
      · exact R.sep r r' b hne ((hown r b hr).1 h1) ((hown r' b hr').1 h2)
  · by_cases hr : C r
    · exact hlowC r b hr h
    · exact R.low r b ((hown r b hr).1 h)
  · rw [hfr]
    exact rp (fun f hf r hr => hholds r (R.bornF f hf r hr)) R.frames
  · rw [hfr] at hf; exact hborn r (R.bornF f hf r hr)
  · by_cases hr : C r
    · exact hbornC r hr x hx
    · rw [(hsame r hr).1] at hx; exact hborn x (R.bornR r x hx)
  · by_cases hc : C r
    · exact haliveC r hc hr
    · rw [(hsame r hc).1] at hr; exact hborn r (R.alive r hr)
theorem ku (C : Nat → Prop) (R : Rel w0 st g born acts w) (hb : dD w0 w w') (hfr : st'.fr = st.fr)
    (hholds : ∀ r, born r → kT st.get st'.get g g' r fun _ => True)
    (hsame : ∀ r, ¬ C r → st'.get r = st.get r ∧ g' r = g r ∧ ∀ b, Own st.get g r b → w'.heap[b]? = w.heap[b]?)
    (hpend : ∀ r r' p t xs, ¬ C r → st.get r = .pend r' p t xs → ¬ C r')
    (hC : ∀ r, C r → bW w0 w' st'.get g' r)
    (hsepC : ∀ r r' b, C r → r ≠ r' → Own st'.get g' r b → Own st'.get g' r' b → False)
    (hlowC : ∀ r b, C r → Own st'.get g' r b → ¬ w0.jN b)
    (hborn : ∀ r, born r → born' r) (hbornC : ∀ r, C r → ∀ x ∈ (st'.get r).roots, born' x) (haliveC : ∀ r, C r → st'.get r ≠ .dead → born' r) :
    Rel w0 st' g' born' acts w' :=
  xO C R (R.below.trans hb) (R.marks.step hb.oth) hfr hholds hsame hpend hC hsepC hlowC hborn hbornC haliveC
theorem y9 {r0 n : Nat} (C : Nat → Prop) (R : Rel w0 st g born acts w) (hb : dD w0 w w') (hfr : st'.fr = st.fr.map (AV.gF r0 n))
    (hholds : ∀ r, born r → kT st.get st'.get g g' r fun p => r = r0 → p.length < n)
    (hsame : ∀ r, ¬ C r → st'.get r = (st.get r).cut r0 n ∧ g' r = g r ∧ ∀ b, Own st.get g r b → w'.heap[b]? = w.heap[b]?)
    (hpend : ∀ r r' p t xs, ¬ C r → st.get r = .pend r' p t xs → ¬ C r')
    (hC : ∀ r, C r → bW w0 w' st'.get g' r)
    (hsepC : ∀ r r' b, C r → r ≠ r' → Own st'.get g' r b → Own st'.get g' r' b → False)
    (hlowC : ∀ r b, C r → Own st'.get g' r b → ¬ w0.jN b)
    (hborn : ∀ r, born r → born' r) (hbornC : ∀ r, C r → ∀ x ∈ (st'.get r).roots, born' x) (haliveC : ∀ r, C r → st'.get r ≠ .dead → born' r) :
    Rel w0 st' g' born' acts w' := by
  have hown : ∀ r b, ¬ C r → (Own st'.get g' r b ↔ Own st.get g r b) := by
    intro r b hr
    obtain ⟨e1, e2, _⟩ := hsame r hr
    unfold Own
    rw [e1]
    cases hg : st.get r with
    | dead => exact Iff.rfl
    | var cs => simp only [e2, aU.cut]
    | row rw t xs => cases rw <;> simp only [e2, aU.cut]
    | pend r' p t xs =>
      have e3 := (hsame r' (hpend r r' p t xs hr hg)).2.1
      simp only [e2, m6, e3, aU.cut]
  refine ⟨R.below.trans hb, fun r => ?_, fun r r' b hne h1 h2 => ?_, fun r b h => ?_, ?_, fun f hf r hr => ?_, fun r x hx => ?_, fun r hr => ?_, R.marks.step hb.oth⟩
  · by_cases hr : C r
    · exact hC r hr
    · obtain ⟨e1, e2, e3⟩ := hsame r hr
      have h := R.roots r
      unfold bW at h ⊢
      rw [e1]
      cases hg : st.get r with
      | dead => trivial
      | var cs =>
        rw [hg] at h
        obtain ⟨arr, te, h1, h2, h3⟩ := h
        refine ⟨arr, te, ?_, h2, jD _ _ (fun x hx => hholds x (R.bornR r x (by rw [hg]; exact hx))) h3⟩
        rw [e2, e3 _ (by unfold Own; rw [hg])]
        exact h1
      | row rw t xs =>
        rw [hg] at h
        cases rw with
        | true =>
          refine ⟨?_, by rw [e2]; exact h.2⟩
          rw [e2]
          exact jC (fun b hb => e3 b (by unfold Own; rw [hg]; exact hb)) h.1
        | false => simp only at h ⊢; rw [e2]; exact h
      | pend r' p t xs =>
        rw [hg] at h
        obtain ⟨h1, h2, t', xs', h3, h4, h5⟩ := h
        obtain ⟨e4, e5, e6⟩ := hsame r' (hpend r r' p t xs hr hg)
        refine ⟨?_, h2, t', xs', by rw [e4, h3]; rfl, h4, ?_⟩
        · rw [e2]
          refine jC (fun b hb => ?_) h1
          by_cases hh : m6 g r' p b
          · exact e6 b (by unfold Own; rw [h3]; exact h5 b hh)
          · exact e3 b (by unfold Own; rw [hg]; exact ⟨hb, hh⟩)
        · intro b hb
          unfold m6 at hb
          rw [e5] at hb ⊢
          exact h5 b hb
  · by_cases hr : C r
    · exact hsepC r r' b hr hne h1 h2
    · by_cases hr' : C r'
      · exact hsepC r' r b hr' (fun e => hne e.symm) h2 h1
      · exact R.sep r r' b hne ((hown r b hr).1 h1) ((hown r' b hr').1 h2)
  · by_cases hr : C r
    · exact hlowC r b hr h
    · exact R.low r b ((hown r b hr).1 h)
  · rw [hfr]
    exact tj (fun f hf r hr => hholds r (R.bornF f hf r hr)) R.frames
  · rw [hfr] at hf
    obtain ⟨f0, hf0, rfl⟩ := List.mem_map.1 hf
    exact hborn r (R.bornF f0 hf0 r (qJ.2 f0 r hr))
  · by_cases hr : C r
    · exact hbornC r hr x hx
    · rw [(hsame r hr).1] at hx
      refine hborn x (R.bornR r x ?_)
      generalize st.get r = y at hx ⊢
      cases y <;> first | exact hx | exact qJ.2 _ _ hx
  · by_cases hc : C r
    · exact haliveC r hc hr
    · rw [(hsame r hc).1] at hr
      exact hborn r (R.alive r fun e => hr (by rw [e]; rfl))
end
end Go.Am
end
section
/- Soundness, sixth part: states: force, put, roots set, roots new, roots dropped. -/
namespace Go.Am
noncomputable section
attribute [local instance] D.real
section
variable {R : Type}
theorem hU (n : Nat) (k : Nat → Option R) : qM n k = k n := by cases n <;> rfl
theorem np : ∀ (p : Path) (k : Path → Option R), ue p k = k p
  | [], _ => rfl
  | (i, f) :: p, k => by simp only [ue, hU, np p]
mutual
theorem AV.force_eq : ∀ (v : AV) (k : AV → Option R), v.force k = k v
  | .undef, _ => by rw [AV.force]
  | .nilS, _ => by rw [AV.force]
  | .int _ _, _ => by rw [AV.force]
  | .bool _, _ => by rw [AV.force]
  | .kb true, _ => by rw [AV.force]
  | .kb false, _ => by rw [AV.force]
  | .nb _, _ => by rw [AV.force]
  | .str _, _ => by rw [AV.force]
  | .sl r p none, k => by rw [AV.force, hU, np]
  | .sl r p (some (o, l)), k => by rw [AV.force, hU, np]
  | .pv r c, k => by rw [AV.force, hU, hU]
  | .lit r n, k => by rw [AV.force, hU, hU]
  | .pe r p i f, k => by rw [AV.force, hU, np, hU]
  | .fn f a b, k => by rw [AV.force, AV.jG a, AV.jG b]
  | .agg cs, k => by rw [AV.force, AV.jG cs]
  | .tup cs, k => by rw [AV.force, AV.jG cs]
theorem AV.jG : ∀ (vs : List AV) (k : List AV → Option R), AV.lP vs k = k vs
  | [], _ => by rw [AV.lP]
  | v :: vs, k => by rw [AV.lP, AV.force_eq v, AV.jG vs]
end
theorem aU.force_eq (x : aU) (k : aU → Option R) : x.force k = k x := by
  cases x with
  | dead => rfl
  | var cs => simp only [aU.force, AV.jG]
  | row rw t xs => rfl
  | pend r p t xs => simp only [aU.force, hU, np]
theorem iL : ∀ (l : List aU) (k : List aU → Option R), qN l k = k l
  | [], _ => rfl
  | x :: l, k => by simp only [qN, aU.force_eq, iL l]
theorem sB : ∀ (l : List (List AV)) (k : List (List AV) → Option R), sc l k = k l
  | [], _ => rfl
  | x :: l, k => by simp only [sc, AV.jG, sB l]
theorem St.force_eq (st : St) (k : St → Option R) : st.force k = k st := by
  simp only [St.force, sB, iL]
theorem fQ : ∀ (l : List Nat) (k : List Nat → Option R), lB l k = k l
  | [], _ => rfl
  | x :: l, k => by simp only [lB, hU, fQ l]
end
theorem yi (rs : List aU) (i : Nat) (x : aU) (r : Nat) : (setAt rs i x).getD r .dead = if r = i then x else rs.getD r .dead := by
  unfold setAt
  cases hb : Nat.blt i rs.length with
  | true =>
    rw [Nat.blt_eq] at hb
    simp only [cond_true, List.getD_eq_getElem?_getD, List.getElem?_set]
    by_cases e : r = i
    · subst e; simp [hb]
    · rw [if_neg (Ne.symm e), if_neg e]
  | false =>
    have hge : rs.length ≤ i := by
      rcases Nat.lt_or_ge i rs.length with h | h
      · rw [← Nat.blt_eq, hb] at h; cases h
      · exact h
    simp only [cond_false, List.getD_eq_getElem?_getD, List.append_assoc]
    by_cases e : r = i
    · subst e
      rw [List.getElem?_append_right hge, List.getElem?_append_right (by simp)]
      simp
    · simp only [e, if_false]
      rcases Nat.lt_or_ge r rs.length with h | h
      · rw [List.getElem?_append_left h]
      · rw [List.getElem?_append_right h, List.getElem?_eq_none h]
        rcases Nat.lt_or_ge (r - rs.length) (i - rs.length) with h2 | h2
        · rw [List.getElem?_append_left (by simpa using h2), List.getElem?_replicate]
          simp [h2]
        · rw [List.getElem?_append_right (by simpa using h2)]
          have : r - rs.length - (List.replicate (i - rs.length) aU.dead).length = (r - i - 1) + 1 := by simp; omega
          rw [this]; rfl
def St.fB (st : St) (i : Nat) (x : aU) : St := { st with rs := setAt st.rs i x }
def St.bM (st : St) (l : List (Nat × aU)) : St := { st with rs := gz st.rs l }
theorem Bx (st : St) : st.bM [] = st := rfl
theorem jz (st : St) (i : Nat) (x : aU) (l : List (Nat × aU)) : st.bM ((i, x) :: l) = (st.fB i x).bM l := rfl
theorem j4 (l m : List (Nat × aU)) : ∀ (st : St), st.bM (l ++ m) = (st.bM l).bM m := by
  induction l with
  | nil => intro st; rfl
  | cons a l ih => intro st; obtain ⟨i, x⟩ := a; rw [List.cons_append, jz, jz, ih]
theorem fM (st : St) (i : Nat) (x : aU) (r : Nat) : (st.fB i x).get r = if r = i then x else st.get r := yi _ _ _ _
theorem dw (st : St) (i : Nat) (x : aU) : (st.fB i x).get i = x := by rw [fM, if_pos rfl]
theorem bV {st : St} {i : Nat} {x : aU} {r : Nat} (h : r ≠ i) : (st.fB i x).get r = st.get r := by rw [fM, if_neg h]
def fR (g : bC) (i : Nat) (x : Info) : bC := fun r => if r = i then x else g r
theorem fJ (g : bC) (i : Nat) (x : Info) : fR g i x i = x := by simp [fR]
theorem b9 {g : bC} {i : Nat} {x : Info} {r : Nat} (h : r ≠ i) : fR g i x r = g r := by simp [fR, h]
theorem nz : ∀ (rs : List aU) (r : Nat) (ex : Option Nat) (j0 : Nat), mR r ex j0 rs = true → ∀ j r' p t xs, rs.getD j .dead = .pend r' p t xs → r' = r → ex = some (j0 + j)
  | [], _, _, _, _, j, _, _, _, _, e, _ => by simp at e
  | x :: rs, r, ex, j0, h, j, r', p, t, xs, e, er => by
    unfold mR at h
    simp only [Bool.and_eq_true] at h
    cases j with
    | zero =>
      simp only [List.getD_cons_zero] at e
      subst e; subst er
      have h1 := h.1
      simp at h1
      exact h1
    | succ j =>
      have := nz rs r ex (j0 + 1) h.2 j r' p t xs (by simpa using e) er
      rw [this]; congr 1; omega
theorem oG {st : St} {r : Nat} {ex : Option Nat} (h : mR r ex 0 st.rs = true) {j r' : Nat} {p : Path} {t : Ty} {xs : List (den t)} (e : st.get j = .pend r' p t xs) (er : r' = r) : ex = some j := by
  have := nz st.rs r ex 0 h j r' p t xs e er
  simpa using this
section
variable {w0 : dx} {w w' : World} {st st' : St} {g g' : bC} {born born' : Nat → Prop} {acts : List Act} {a : Act}
theorem tL (w0 : dx) (w : World) : dD w0 w w := dD.refl _ _
theorem BM (R : Rel w0 st g born acts w) (i : Nat) (hq : ∀ j r' p t xs, st.get j = .pend r' p t xs → r' ≠ i ∨ j = i) : Rel w0 (st.fB i .dead) g born acts w := by
  refine ku (fun r => r = i) R (tL _ _) rfl (fun r _ => ⟨fun t ht => ?_, fun hv => ?_⟩) (fun r hr => ⟨bV hr, rfl, fun _ _ => rfl⟩)
    (fun r r' p t xs hr e => ?_) (fun r hr => ?_) (fun r r' b hr _ h => ?_) (fun r b hr h => ?_) (fun _ h => h) (fun r hr x hx => ?_) (fun r hr h => ?_)
  · rw [fM] at ht
    split at ht
    · simp [dc] at ht
    · exact ⟨ht, fun _ _ => rfl⟩
  · rw [fM] at hv
    split at hv
    · simp [isVar] at hv
    · exact ⟨hv, rfl⟩
  · exact (hq r r' p t xs e).resolve_right hr
  · subst hr; unfold bW; rw [dw]; trivial
  · subst hr; unfold Own at h; rw [dw] at h; exact h.elim
  · subst hr; unfold Own at h; rw [dw] at h; exact h.elim
  · subst hr; rw [dw] at hx; simp [aU.roots] at hx
  · subst hr; rw [dw] at h; exact absurd rfl h
theorem BY (R : Rel w0 st g born acts w) (i : Nat) (x : aU) (inf : Info) (hi : ¬ born i) (hb : RowKit.Below w.heap.size w w')
    (hok : bW w0 w' (st.fB i x).get (fR g i inf) i) (hlow : ∀ b, Own (st.fB i x).get (fR g i inf) i b → w.heap.size ≤ b)
    (hx : ∀ r ∈ x.roots, born r) : Rel w0 (st.fB i x) (fR g i inf) (fun r => born r ∨ r = i) acts w' := by
  have hne : ∀ r, born r → r ≠ i := fun r h e => hi (e ▸ h)
  have hlt : ∀ r b, Own st.get g r b → b < w.heap.size := by
    intro r b h
    have hr := R.roots r
    unfold Own at h
    unfold bW at hr
    have lt_of : ∀ {t : Ty} {xs : List (den t)} {H : Path → Value}, cE w true t xs H → ∀ b, b6 t xs H b → b < w.heap.size := by
      intro t xs H h1 b hb
      have : ∀ (t : Ty) (d : den t) (G : Nat → Path → Value) (f : Nat) (rd : Nat → Option Value), Rep w true t d G f rd → ∀ b, Blk t d G f b → b < w.heap.size := by
        intro t
        induction t with
        | pair a b iha ihb => intro d G f rd h b hb; exact hb.elim (iha _ _ _ _ h.1 b) (ihb _ _ _ _ h.2 b)
        | sl e ih =>
          intro d G f rd h b hb
          rcases h.2 with ⟨h0, rfl⟩ | ⟨a, cap, h0, _, h2, h3⟩
          · rcases hb with ⟨a, n, c, e, _⟩ | ⟨i, x, hx, _⟩
            · rw [h0] at e; cases e
            · simp at hx
          · rcases hb with ⟨a', n, c, e, hc, rfl⟩ | ⟨i, x, hx, hb⟩
            · rw [h0] at e; injection e with e _ ec; injection e with e; subst e; subst ec
              obtain ⟨_, arr, te, h4, _⟩ := h2 rfl hc
              exact (Array.getElem?_eq_some_iff.1 h4).1
            · exact ih _ _ _ _ (h3 i x hx) b hb
        | unit => intro _ _ _ _ _ _ h; exact h.elim
        | int k => intro _ _ _ _ _ _ h; exact h.elim
        | bool => intro _ _ _ _ _ _ h; exact h.elim
        | str => intro _ _ _ _ _ _ h; exact h.elim
      exact this (.sl t) xs (fun _ => H) 0 (fun _ => some (H [])) ⟨rfl, h1⟩ b hb
    cases hg : st.get r with
    | dead => rw [hg] at h; exact h.elim
    | var cs =>
      rw [hg] at h hr
      obtain ⟨arr, te, h1, _⟩ := hr
      subst h
      exact (Array.getElem?_eq_some_iff.1 h1).1
    | row rw t xs =>
      rw [hg] at h hr
      cases rw with
      | true => exact lt_of hr.1 b h
      | false => exact h.elim
    | pend r' p t xs =>
      rw [hg] at h hr
      exact lt_of hr.1 b h.1
  refine ku (fun r => r = i) R (dD.yd hb R.below.size) rfl (fun r hr => ⟨fun t ht => ?_, fun hv => ?_⟩)
    (fun r hr => ⟨bV hr, b9 hr, fun b hb' => hb.block b (hlt r b hb')⟩)
    (fun r r' p t xs hr e => ?_) (fun r hr => by subst hr; exact hok) (fun r r' b hr hrr h h' => ?_) (fun r b hr h => ?_) (fun _ h => .inl h) (fun r hr y hy => ?_) (fun r hr _ => .inr hr)
  · rw [bV (hne r hr)] at ht; exact ⟨ht, fun _ _ => by rw [b9 (hne r hr)]⟩
  · rw [bV (hne r hr)] at hv; exact ⟨hv, by rw [b9 (hne r hr)]⟩
  · intro e'; subst e'
    exact hi (R.bornR r r' (by rw [e]; simp [aU.roots]))
  · subst hr
    have h1 := hlow b h
    have h2 : Own st.get g r' b := by
      have e1 : (st.fB r x).get r' = st.get r' := bV (fun e => hrr e.symm)
      have e2 : fR g r inf r' = g r' := b9 (fun e => hrr e.symm)
      unfold Own at h' ⊢
      rw [e1] at h'
      cases hg : st.get r' with
      | dead => rw [hg] at h'; exact h'
      | var cs => rw [hg] at h'; simp only [e2] at h'; exact h'
      | row rw t xs => rw [hg] at h'; cases rw <;> simp only [e2] at h' <;> exact h'
      | pend q p t xs =>
        rw [hg] at h'
        have hq : q ≠ r := fun e => hi (by subst e; exact R.bornR r' q (by rw [hg]; simp [aU.roots]))
        simp only [e2, m6, b9 hq] at h'
        exact h'
    have := hlt r' b h2
    omega
  · subst hr
    exact R.fresh (hlow b h)
  · subst hr
    rw [dw] at hy; exact .inl (hx y hy)
theorem jW {v : Value} {av : AV} (R : Rel w0 st g born (a :: acts) w) (dst : Option Tmp) (hv : af st.get g av v) (hb : ∀ r ∈ av.roots, born r) :
    Rel w0 (st.put dst av) g born (a.put dst v :: acts) w := by
  cases dst with
  | none => exact R
  | some d =>
    obtain ⟨fr, rs⟩ := st
    have hfr := R.frames
    cases fr with
    | nil => simp only [fj] at hfr; cases hfr
    | cons f fs =>
      obtain ⟨a', as, e, h1, h2⟩ := hfr
      injection e with e1 e2
      subst e1; subst e2
      refine ⟨R.below, R.roots, R.sep, R.low, ⟨_, _, rfl, ⟨?_, fun i => ?_, h1.defers⟩, h2⟩, fun f' hf' r hr => ?_, R.bornR, R.alive, R.marks⟩
      · simp only [List.length_set, Act.put, Array.size_setIfInBounds]; exact h1.size
      · show af _ g ((f.set d av).getD i .undef) ((a.tmps.setIfInBounds d v).getD i Go.undef)
        have hs := h1.slot i
        by_cases e : i = d
        · subst e
          rcases Nat.lt_or_ge i f.length with h | h
          · have h' : i < a.tmps.size := by have := h1.size; omega
            have e1 : (f.set i av).getD i .undef = av := by simp [List.getD, h]
            have e2 : (a.tmps.setIfInBounds i v).getD i Go.undef = v := by simp [h']
            rw [e1, e2]; exact hv
          · have e1 : (f.set i av).getD i .undef = .undef := by
              simp [List.getD, List.getElem?_eq_none (show (f.set i av).length ≤ i by simpa using h)]
            rw [e1]; simp [af]
        · have e1 : (f.set d av).getD i .undef = f.getD i .undef := by
            simp only [List.getD, List.getElem?_set]; rw [if_neg (Ne.symm e)]
          have e2 : (a.tmps.setIfInBounds d v).getD i Go.undef = a.tmps.getD i Go.undef := by
            simp only [Array.getD_eq_getD_getElem?, Array.getElem?_setIfInBounds]; rw [if_neg (Ne.symm e)]
          rw [e1, e2]; exact hs
      · rcases List.mem_cons.1 hf' with rfl | hf'
        · have : ∀ (l : List AV) (d : Nat), r ∈ AV.ah (l.set d av) → r ∈ AV.ah l ∨ r ∈ av.roots := by
            intro l
            induction l with
            | nil => intro d h; exact .inl h
            | cons u us ih =>
              intro d h
              cases d with
              | zero =>
                simp only [List.set_cons_zero, AV.ah, List.mem_append] at h ⊢
                exact h.elim .inr fun h => .inl (.inr h)
              | succ d =>
                simp only [List.set_cons_succ, AV.ah, List.mem_append] at h ⊢
                rcases h with h | h
                · exact .inl (.inl h)
                · exact (ih d h).imp .inr id
          rcases this f d hr with h | h
          · exact R.bornF f List.mem_cons_self r h
          · exact hb r h
        · exact R.bornF f' (List.mem_cons_of_mem _ hf') r hr
end
end
end Go.Am
end
section
/- Soundness, seventh part: values read as data. -/
namespace Go.Am
noncomputable section
attribute [local instance] D.real
theorem Ce {w w' : World} (hc : ∀ a v, w.cell? a = some v → w'.cell? a = some v) : ∀ (t : Ty) (d : den t) (G : Nat → Path → Value) (f : Nat) (rd rd' : Nat → Option Value),
    (∀ k v, rd k = some v → rd' k = some v) → Rep w false t d G f rd → Rep w' false t d G f rd' := by
  intro t
  induction t with
  | int k => intro d G f rd rd' h r; exact h _ _ r
  | bool => intro d G f rd rd' h r; exact h _ _ r
  | str => intro d G f rd rd' h r; exact h _ _ r
  | unit => intros; trivial
  | pair a b iha ihb => intro d G f rd rd' h r; exact ⟨iha _ _ _ _ _ h r.1, ihb _ _ _ _ _ h r.2⟩
  | sl e ih =>
    intro d G f rd rd' h r
    refine ⟨h _ _ r.1, ?_⟩
    rcases r.2 with h1 | ⟨a, cap, h0, hle, _, hx⟩
    · exact .inl h1
    · exact .inr ⟨a, cap, h0, hle, (fun h => by cases h), fun i x hi => ih _ _ _ _ _ (fun k v hk => hc _ v hk) (hx i x hi)⟩
theorem ql {w w' : World} (hc : ∀ a v, w.cell? a = some v → w'.cell? a = some v) {t : Ty} {xs : List (den t)} {H : Path → Value} (h : cE w false t xs H) : cE w' false t xs H :=
  (Ce hc (.sl t) xs (fun _ => H) 0 (fun _ => some (H [])) (fun _ => some (H [])) (fun _ _ h => h) ⟨rfl, h⟩).2
theorem qK {w : World} {rw : Bool} {t : Ty} {xs : List (den t)} {H : Path → Value} (h : cE w rw t xs H) : cE w false t xs H :=
  (C2 (.sl t) xs (fun _ => H) 0 (fun _ => some (H [])) rw ⟨rfl, h⟩).2
theorem kV {w0 : dx} {w : World} (h : dD w0 w0.w w) (a : Addr) (v : Value) (hv : w0.w.cell? a = some v) : w.cell? a = some v :=
  (World.cell?_of_block (w := w0.w) (h.block a.block ⟨World.block_lt_of_cell? w0.w a hv, fun hl => by rw [w0.clean a hl] at hv; cases hv⟩)).trans hv
def hdr (g : bC) : AV → Value → Path → Value
  | .sl r p sub, v => q8 sub v fun q => (g r).H (p ++ q)
  | _, v => fun _ => v
def Gof (g : bC) (avs : List AV) (vals : List Value) (k : Nat) : Path → Value := hdr g (avs.getD k .undef) (vals.getD k Go.undef)
section
variable {w0 : dx} {w : World} {get : Get} {g : bC}
theorem uX (hR : ∀ r, bW w0 w get g r) (hB : dD w0 w0.w w) {r : Nat} {p : Path} {sub : Option (Nat × Nat)} {v : Value} {ok : List Tst} {e : Ty} {ys : List (den e)}
    (hs : sliceAt get r p = (ok, ⟨e, ys⟩)) (hok : b7 ok) (hv : af get g (.sl r p sub) v) :
    cE w false e (gG sub ys) (hdr g (.sl r p sub) v) := by
  have h := hR r
  unfold bW at h
  unfold sliceAt at hs
  rw [af] at hv
  obtain ⟨_, hv⟩ := hv
  cases hg : get r with
  | dead => rw [hg] at hs; simp only [Prod.mk.injEq] at hs; obtain ⟨rfl, _⟩ := hs; exact absurd (ag.1 hok).1 (by simp [Tst.val])
  | var cs => rw [hg] at hs; simp only [Prod.mk.injEq] at hs; obtain ⟨rfl, _⟩ := hs; exact absurd (ag.1 hok).1 (by simp [Tst.val])
  | row rw t xs =>
    rw [hg] at h hs hv
    have hrow : cE w false t xs (g r).H := by
      cases rw with
      | true => exact qK h.1
      | false => exact ql (kV hB) h
    obtain ⟨h1, h2, _, _⟩ := jk p t xs (g r).H ok e ys hs hok hrow
    exact lO h1 (by have := hv t e rfl h2; simpa using this)
  | pend r' p' t xs =>
    rw [hg] at h hs hv
    cases p with
    | nil =>
      simp only [Prod.mk.injEq, Sigma.mk.injEq] at hs
      obtain ⟨-, rfl, hs⟩ := hs
      obtain rfl := eq_of_heq hs
      exact lO (qK h.1) (hv t t rfl rfl)
    | cons x p => simp only [Prod.mk.injEq] at hs; obtain ⟨rfl, _⟩ := hs; exact absurd (ag.1 hok).1 (by simp [Tst.val])
theorem g7 {a : Ty} (x : List (den a)) : nw rfl x = x := rfl
theorem bu {l : List Tst} (h : b7 (.s false :: l)) : False := by
  have := (ag.1 h).1
  simp [Tst.val] at this
theorem drop_cons {α : Type} {l : List α} {f : Nat} {x : α} {xs : List α} (h : l.drop f = x :: xs) : l[f]? = some x ∧ xs = l.drop (f + 1) ∧ f + 1 ≤ l.length := by
  have hlt : f < l.length := by
    rcases Nat.lt_or_ge f l.length with h' | h'
    · exact h'
    · rw [List.drop_eq_nil_of_le h'] at h; cases h
  rw [List.drop_eq_getElem_cons hlt] at h
  injection h with h1 h2
  exact ⟨by rw [List.getElem?_eq_getElem hlt, h1], h2.symm, hlt⟩
theorem me (hR : ∀ r, bW w0 w get g r) (hB : dD w0 w0.w w) {avs : List AV} {vals : List Value} (hA : ak get g avs vals) :
    ∀ (t : Ty) (f : Nat) (ok : List Tst) (d : den t) (rest : List AV), cF get t (avs.drop f) = (ok, d, rest) → b7 ok →
      Rep w false t d (Gof g avs vals) f (fun k => vals[k]?) ∧ rest = avs.drop (f + t.size) ∧ f + t.size ≤ avs.length ∨ (t.size = 0 ∧ rest = avs.drop f ∧ Rep w false t d (Gof g avs vals) f (fun k => vals[k]?)) := by
  intro t
  induction t with
  | int k =>
    intro f ok d rest h hok
    left
    unfold cF at h
    split at h
    · next k' n vs e =>
      simp only [Prod.mk.injEq] at h
      obtain ⟨rfl, rfl, rfl⟩ := h
      obtain ⟨e1, e2, e3⟩ := drop_cons e
      obtain ⟨x, hx, hr⟩ := cX hA e1
      rw [af] at hr
      have : k' = k := by have := (ag.1 hok).1; simpa [Tst.val] using this
      subst this; subst hr
      exact ⟨hx, e2, e3⟩
    · simp only [Prod.mk.injEq] at h; obtain ⟨rfl, _⟩ := h; exact (bu hok).elim
  | bool =>
    intro f ok d rest h hok
    left
    unfold cF at h
    split at h
    · next b vs e =>
      simp only [Prod.mk.injEq] at h
      obtain ⟨rfl, rfl, rfl⟩ := h
      obtain ⟨e1, e2, e3⟩ := drop_cons e
      obtain ⟨x, hx, hr⟩ := cX hA e1
      rw [af] at hr
      subst hr
      exact ⟨hx, e2, e3⟩
    · next b vs e =>
      simp only [Prod.mk.injEq] at h
      obtain ⟨rfl, rfl, rfl⟩ := h
      obtain ⟨e1, e2, e3⟩ := drop_cons e
      obtain ⟨x, hx, hr⟩ := cX hA e1
      rw [af] at hr
      subst hr
      exact ⟨hx, e2, e3⟩
    · simp only [Prod.mk.injEq] at h; obtain ⟨rfl, _⟩ := h; exact (bu hok).elim
  | str =>
    intro f ok d rest h hok
    left
    unfold cF at h
    split at h
    · next b vs e =>
      simp only [Prod.mk.injEq] at h
      obtain ⟨rfl, rfl, rfl⟩ := h
      obtain ⟨e1, e2, e3⟩ := drop_cons e
      obtain ⟨x, hx, hr⟩ := cX hA e1
      rw [af] at hr
      subst hr
      exact ⟨hx, e2, e3⟩
    · simp only [Prod.mk.injEq] at h; obtain ⟨rfl, _⟩ := h; exact (bu hok).elim
  | unit =>
    intro f ok d rest h hok
    right
    simp only [cF, Prod.mk.injEq] at h
    exact ⟨rfl, h.2.2.symm, trivial⟩
  | pair a b iha ihb =>
    intro f ok d rest h hok
    unfold cF at h
    generalize ha : cF get a (avs.drop f) = ra at h
    obtain ⟨ok1, x, rest1⟩ := ra
    simp only at h
    generalize hb : cF get b rest1 = rb at h
    obtain ⟨ok2, y, rest2⟩ := rb
    simp only [Prod.mk.injEq] at h
    obtain ⟨rfl, rfl, rfl⟩ := h
    obtain ⟨k1, k2⟩ := a8.1 hok
    have hr1 : Rep w false a x (Gof g avs vals) f (fun k => vals[k]?) ∧ rest1 = avs.drop (f + a.size) := by
      rcases iha f ok1 x rest1 ha k1 with ⟨h1, h2, _⟩ | ⟨h0, h1, h2⟩
      · exact ⟨h1, h2⟩
      · exact ⟨h2, by rw [h0]; exact h1⟩
    obtain ⟨r1, rfl⟩ := hr1
    have hlen1 : a.size = 0 ∨ f + a.size ≤ avs.length := by
      rcases iha f ok1 x _ ha k1 with ⟨_, _, h⟩ | ⟨h0, _⟩
      · exact .inr h
      · exact .inl h0
    rcases ihb (f + a.size) ok2 y _ hb k2 with ⟨h1, h2, h3⟩ | ⟨h0, h1, h2⟩
    · left
      refine ⟨⟨r1, h1⟩, ?_, ?_⟩
      · rw [h2]; simp only [Ty.size]; congr 1; omega
      · simp only [Ty.size]; omega
    · rcases hlen1 with h | h
      · right
        refine ⟨by simp only [Ty.size]; omega, ?_, ⟨r1, h2⟩⟩
        rw [h1, h]; rfl
      · left
        refine ⟨⟨r1, h2⟩, ?_, ?_⟩
        · rw [h1]; simp only [Ty.size]; congr 1; omega
        · simp only [Ty.size]; omega
  | sl e ih =>
    intro f ok d rest h hok
    left
    unfold cF at h
    split at h
    · next vs ee =>
      simp only [Prod.mk.injEq] at h
      obtain ⟨rfl, rfl, rfl⟩ := h
      obtain ⟨e1, e2, e3⟩ := drop_cons ee
      obtain ⟨x, hx, hr⟩ := cX hA e1
      rw [af] at hr
      subst hr
      have hG : Gof g avs vals f = fun _ => .slice none 0 0 := by
        unfold Gof
        simp only [List.getD_eq_getElem?_getD, e1, hx, Option.getD_some, hdr]
      refine ⟨⟨?_, ?_⟩, e2, e3⟩
      · rw [hG]; exact hx
      · rw [hG]; exact .inl ⟨rfl, rfl⟩
    · next r p sub vs ee =>
      generalize hs : sliceAt get r p = s at h
      obtain ⟨ok', e', ys⟩ := s
      simp only at h
      split at h
      · next he _ =>
        subst he
        simp only [g7, Prod.mk.injEq] at h
        obtain ⟨rfl, rfl, rfl⟩ := h
        obtain ⟨e1, e2, e3⟩ := drop_cons ee
        obtain ⟨x, hx, hr⟩ := cX hA e1
        have hG : Gof g avs vals f = hdr g (.sl r p sub) x := by
          unfold Gof
          simp only [List.getD_eq_getElem?_getD, e1, hx, Option.getD_some]
        refine ⟨⟨?_, ?_⟩, e2, e3⟩
        · rw [hG]; exact hx
        · rw [hG]; exact uX hR hB hs hok hr
      · simp only [Prod.mk.injEq] at h; obtain ⟨rfl, _⟩ := h; exact (bu hok).elim
    · simp only [Prod.mk.injEq] at h; obtain ⟨rfl, _⟩ := h; exact (bu hok).elim
end
end
end Go.Am
end
section
/- Soundness, eighth part: rows given up. -/
namespace Go.Am
attribute [local instance] D.real
section
variable {w0 : dx} {w : World} {get : Get} {g : bC}
theorem ml (hR : ∀ r, bW w0 w get g r) (hS : ∀ r r' b, r ≠ r' → Own get g r b → Own get g r' b → False)
    {avs : List AV} {vals : List Value} (hA : ak get g avs vals) :
    ∀ (t : Ty) (f : Nat) (ok ok' : List Tst) (d : den t) (l : List Nat) (rest rest' : List AV), cF get t (avs.drop f) = (ok, d, rest) → gives get t (avs.drop f) = (ok', l, rest') → b7 ok → b7 ok' →
      Rep w true t d (Gof g avs vals) f (fun k => vals[k]?) ∧ rest' = rest ∧ (∀ b, Blk t d (Gof g avs vals) f b → ∃ r ∈ l, Own get g r b) ∧ (l.Nodup → Sep t d (Gof g avs vals) f) ∧ rest = avs.drop (f + t.size) := by
  intro t
  induction t with
  | int k =>
    intro f ok ok' d l rest rest' h hg hok hok'
    unfold cF at h
    split at h
    · next k' n vs e =>
      simp only [Prod.mk.injEq] at h
      obtain ⟨rfl, rfl, rfl⟩ := h
      obtain ⟨e1, e2, e3⟩ := drop_cons e
      obtain ⟨x, hx, hr⟩ := cX hA e1
      rw [af] at hr
      have : k' = k := by have := (ag.1 hok).1; simpa [Tst.val] using this
      subst this; subst hr
      simp only [gives, Prod.mk.injEq] at hg
      obtain ⟨rfl, rfl, rfl⟩ := hg
      exact ⟨hx, by rw [e]; rfl, fun b h => h.elim, fun _ => trivial, e2⟩
    · simp only [Prod.mk.injEq] at h; obtain ⟨rfl, _⟩ := h; exact (bu hok).elim
  | bool =>
    intro f ok ok' d l rest rest' h hg hok hok'
    unfold cF at h
    split at h
    · next b vs e =>
      simp only [Prod.mk.injEq] at h
      obtain ⟨rfl, rfl, rfl⟩ := h
      obtain ⟨e1, e2, e3⟩ := drop_cons e
      obtain ⟨x, hx, hr⟩ := cX hA e1
      rw [af] at hr
      subst hr
      simp only [gives, Prod.mk.injEq] at hg
      obtain ⟨rfl, rfl, rfl⟩ := hg
      exact ⟨hx, by rw [e]; rfl, fun b h => h.elim, fun _ => trivial, e2⟩
    · next b vs e =>
      simp only [Prod.mk.injEq] at h
      obtain ⟨rfl, rfl, rfl⟩ := h
      obtain ⟨e1, e2, e3⟩ := drop_cons e
      obtain ⟨x, hx, hr⟩ := cX hA e1
      rw [af] at hr
      subst hr
      simp only [gives, Prod.mk.injEq] at hg
      obtain ⟨rfl, rfl, rfl⟩ := hg
      exact ⟨hx, by rw [e]; rfl, fun b h => h.elim, fun _ => trivial, e2⟩
    · simp only [Prod.mk.injEq] at h; obtain ⟨rfl, _⟩ := h; exact (bu hok).elim
  | str =>
    intro f ok ok' d l rest rest' h hg hok hok'
    unfold cF at h
    split at h
    · next b vs e =>
      simp only [Prod.mk.injEq] at h
      obtain ⟨rfl, rfl, rfl⟩ := h
      obtain ⟨e1, e2, e3⟩ := drop_cons e
      obtain ⟨x, hx, hr⟩ := cX hA e1
      rw [af] at hr
      subst hr
      simp only [gives, Prod.mk.injEq] at hg
      obtain ⟨rfl, rfl, rfl⟩ := hg
      exact ⟨hx, by rw [e]; rfl, fun b h => h.elim, fun _ => trivial, e2⟩
    · simp only [Prod.mk.injEq] at h; obtain ⟨rfl, _⟩ := h; exact (bu hok).elim
  | unit =>
    intro f ok ok' d l rest rest' h hg hok hok'
    simp only [cF, Prod.mk.injEq] at h
    simp only [gives, Prod.mk.injEq] at hg
    obtain ⟨rfl, rfl, rfl⟩ := hg
    exact ⟨trivial, h.2.2, fun b h => h.elim, fun _ => trivial, h.2.2.symm⟩
  | pair a b iha ihb =>
    intro f ok ok' d l rest rest' h hg hok hok'
    unfold cF at h
    unfold gives at hg
    generalize ha : cF get a (avs.drop f) = ra at h
    obtain ⟨ok1, x, rest1⟩ := ra
    simp only at h
    generalize hb : cF get b rest1 = rb at h
    obtain ⟨ok2, y, rest2⟩ := rb
    simp only [Prod.mk.injEq] at h
    obtain ⟨rfl, rfl, rfl⟩ := h
    generalize hga : gives get a (avs.drop f) = ga at hg
    obtain ⟨ok3, l1, rest3⟩ := ga
    simp only at hg
    generalize hgb : gives get b rest3 = gb at hg
    obtain ⟨ok4, l2, rest4⟩ := gb
    simp only [Prod.mk.injEq] at hg
    obtain ⟨rfl, rfl, rfl⟩ := hg
    obtain ⟨k1, k2⟩ := a8.1 hok
    obtain ⟨k3, k4⟩ := a8.1 hok'
    obtain ⟨r1, rfl, b1, s1, rfl⟩ := iha f ok1 ok3 x l1 rest1 rest3 ha hga k1 k3
    obtain ⟨r2, rfl, b2, s2, e2⟩ := ihb (f + a.size) ok2 ok4 y l2 _ _ hb hgb k2 k4
    refine ⟨⟨r1, r2⟩, rfl, fun bl h => ?_, fun hn => ?_, ?_⟩
    · rcases h with h | h
      · obtain ⟨r, hr, ho⟩ := b1 bl h; exact ⟨r, List.mem_append.2 (.inl hr), ho⟩
      · obtain ⟨r, hr, ho⟩ := b2 bl h; exact ⟨r, List.mem_append.2 (.inr hr), ho⟩
    · obtain ⟨n1, n2, n3⟩ := List.nodup_append.1 hn
      refine ⟨s1 n1, s2 n2, fun bl h1 h2 => ?_⟩
      obtain ⟨r, hr, ho⟩ := b1 bl h1
      obtain ⟨r', hr', ho'⟩ := b2 bl h2
      exact hS r r' bl (n3 r hr r' hr') ho ho'
    · rw [e2]; simp only [Ty.size]; congr 1; omega
  | sl e ih =>
    intro f ok ok' d l rest rest' h hg hok hok'
    unfold cF at h
    unfold gives at hg
    split at h
    · next vs ee =>
      simp only [Prod.mk.injEq] at h
      obtain ⟨rfl, rfl, rfl⟩ := h
      rw [ee] at hg
      simp only [Prod.mk.injEq] at hg
      obtain ⟨rfl, rfl, rfl⟩ := hg
      obtain ⟨e1, e2, e3⟩ := drop_cons ee
      obtain ⟨x, hx, hr⟩ := cX hA e1
      rw [af] at hr
      subst hr
      have hG : Gof g avs vals f = fun _ => .slice none 0 0 := by
        unfold Gof
        simp only [List.getD_eq_getElem?_getD, e1, hx, Option.getD_some, hdr]
      refine ⟨⟨?_, ?_⟩, rfl, fun b hb => ?_, fun _ => ?_, e2⟩
      · rw [hG]; exact hx
      · rw [hG]; exact .inl ⟨rfl, rfl⟩
      · change b6 e [] (Gof g avs vals f) b at hb
        rw [hG] at hb
        rcases hb with ⟨a, n, c, h, _⟩ | ⟨i, x, h, _⟩
        · cases h
        · simp at h
      · show dJ e [] (Gof g avs vals f)
        rw [hG]
        exact ⟨fun a n c i x h _ _ => by (cases h), fun i j x y b _ h _ => by simp at h, fun i x h => by simp at h⟩
    · next r p sub vs ee =>
      generalize hs : sliceAt get r p = s at h
      obtain ⟨ok1, e', ys⟩ := s
      simp only at h
      split at h
      · next he _ =>
        subst he
        simp only [g7, Prod.mk.injEq] at h
        obtain ⟨rfl, rfl, rfl⟩ := h
        obtain ⟨e1, e2, e3⟩ := drop_cons ee
        obtain ⟨x, hx, hr⟩ := cX hA e1
        have hG : Gof g avs vals f = hdr g (.sl r p sub) x := by
          unfold Gof
          simp only [List.getD_eq_getElem?_getD, e1, hx, Option.getD_some]
        rw [ee] at hg
        simp only at hg
        split at hg
        · next t xs hgr =>
          simp only [Prod.mk.injEq] at hg
          obtain ⟨rfl, rfl, rfl⟩ := hg
          simp only [sliceAt, hgr] at hs
          have hroot := hR r
          unfold bW at hroot
          rw [hgr] at hroot
          obtain ⟨r1, r2, r3, r4⟩ := jk p t xs (g r).H ok1 e' ys hs hok hroot.1
          rw [af] at hr
          have hsub : qg e'.size sub ((fun q => (g r).H (p ++ q)) []) x := by
            simp only [List.append_nil]
            exact hr.2 t e' (by rw [hgr]; rfl) r2
          refine ⟨⟨?_, ?_⟩, rfl, fun b hb => ⟨r, List.mem_singleton.2 rfl, ?_⟩, fun _ => ?_, e2⟩
          · rw [hG]; exact hx
          · rw [hG]; exact lO r1 hsub
          · change b6 e' _ (Gof g avs vals f) b at hb
            rw [hG] at hb
            unfold Own
            rw [hgr]
            exact r3 b (iO hsub hb)
          · show dJ e' _ (Gof g avs vals f)
            rw [hG]
            exact iQ hsub (r4 hroot.2)
        · simp only [Prod.mk.injEq] at hg; obtain ⟨rfl, _⟩ := hg; exact (bu hok').elim
      · simp only [Prod.mk.injEq] at h; obtain ⟨rfl, _⟩ := h; exact (bu hok).elim
    · simp only [Prod.mk.injEq] at h; obtain ⟨rfl, _⟩ := h; exact (bu hok).elim
end
end Go.Am
end
section
/- Soundness, ninth part: data laid as new roots. -/
namespace Go.Am
attribute [local instance] D.real
section
variable {w0 : dx} {w w' : World} {st st' : St} {g g' : bC} {born born' : Nat → Prop} {acts : List Act} {a : Act}
theorem nP {st st' : St} {g g' : bC} {r b : Nat} (e1 : st'.get r = st.get r) (e2 : g' r = g r) (e3 : ∀ q p t xs, st.get r = .pend q p t xs → g' q = g q) : Own st'.get g' r b ↔ Own st.get g r b := by
  unfold Own
  rw [e1]
  cases hg : st.get r with
  | dead => exact Iff.rfl
  | var cs => simp only [e2]
  | row rw t xs => cases rw <;> simp only [e2]
  | pend q p t xs => simp only [e2, m6, e3 q p t xs hg]
theorem zQ (R : Rel w0 st g born acts w) (i : Nat) (x : aU) (inf : Info) (hi : ¬ born i)
    (hok : bW w0 w (st.fB i x).get (fR g i inf) i) (hlow : ∀ b, Own (st.fB i x).get (fR g i inf) i b → ¬ w0.jN b)
    (hsep : ∀ r b, Own (st.fB i x).get (fR g i inf) i b → Own st.get g r b → False)
    (hx : ∀ r ∈ x.roots, born r) : Rel w0 (st.fB i x) (fR g i inf) (fun r => born r ∨ r = i) acts w := by
  have hne : ∀ r, born r → r ≠ i := fun r h e => hi (e ▸ h)
  refine ku (fun r => r = i) R (tL _ _) rfl (fun r hr => ⟨fun t ht => ?_, fun hv => ?_⟩)
    (fun r hr => ⟨bV hr, b9 hr, fun b _ => rfl⟩)
    (fun r r' p t xs hr e => ?_) (fun r hr => by subst hr; exact hok) (fun r r' b hr hrr h h' => ?_) (fun r b hr h => by subst hr; exact hlow b h) (fun _ h => .inl h) (fun r hr y hy => ?_) (fun r hr _ => .inr hr)
  · rw [bV (hne r hr)] at ht; exact ⟨ht, fun _ _ => by rw [b9 (hne r hr)]⟩
  · rw [bV (hne r hr)] at hv; exact ⟨hv, by rw [b9 (hne r hr)]⟩
  · intro e'; subst e'
    exact hi (R.bornR r r' (by rw [e]; simp [aU.roots]))
  · subst hr
    refine hsep r' b h ((nP (bV fun e => hrr e.symm) (b9 fun e => hrr e.symm) fun q p t xs e => b9 ?_).1 h')
    exact hne q (R.bornR r' q (by rw [e]; simp [aU.roots]))
  · subst hr
    rw [dw] at hy; exact .inl (hx y hy)
theorem hM (base : Nat) (l m : List aU) : ay base (l ++ m) = ay base l ++ ay (base + l.length) m := by
  induction l generalizing base with
  | nil => simp [ay]
  | cons x l ih => simp only [List.cons_append, ay, ih, List.length_cons]; congr 2; congr 1; omega
structure Laid (st st' : St) (g g' : bC) (born born' : Nat → Prop) (lo hi : Nat) : Prop where
  old : ∀ r, born r → st'.get r = st.get r ∧ g' r = g r
  born_iff : ∀ r, born' r ↔ born r ∨ (lo ≤ r ∧ r < hi)
theorem Laid.holds {lo hi r : Nat} (L : Laid st st' g g' born born' lo hi) (h : born r) : kT st.get st'.get g g' r fun _ => True := by
  obtain ⟨e1, e2⟩ := L.old r h
  exact ⟨fun t ht => ⟨by rw [← e1]; exact ht, fun _ _ => by rw [e2]⟩, fun hv => ⟨by rw [← e1]; exact hv, by rw [e2]⟩⟩
theorem wN (rw : Bool) : ∀ (t : Ty) (d : den t) (st : St) (g : bC) (born : Nat → Prop) (base f : Nat) (vals : List Value) (G : Nat → Path → Value) (vs : List AV) (rs : List aU),
    Rel w0 st g born acts w → Rep (bif rw then w else w0.w) rw t d G f (fun k => vals[k]?) → (rw = true → Sep t d G f) →
    (rw = true → ∀ b, Blk t d G f b → ¬ w0.jN b ∧ ∀ r, ¬ Own st.get g r b) → mJ rw t d base = (vs, rs) →
    (∀ i, base ≤ i → i < base + rs.length → ¬ born i) →
    ∃ g' born', Rel w0 (st.bM (ay base rs)) g' born' acts w ∧ Laid st (st.bM (ay base rs)) g g' born born' base (base + rs.length) ∧
      vs.length = t.size ∧ (∀ k, k < t.size → ∃ x, vals[f + k]? = some x ∧ af (st.bM (ay base rs)).get g' (vs.getD k .undef) x ∧ x.oneCell' = true) ∧
      (∀ r ∈ AV.ah vs, base ≤ r ∧ r < base + rs.length) ∧
      (∀ r b, Own (st.bM (ay base rs)).get g' r b → Own st.get g r b ∨ (rw = true ∧ Blk t d G f b)) := by
  intro t
  have one : ∀ (v : AV) (f : Nat) (vals : List Value) (x : Value) (st : St) (g : bC) (born : Nat → Prop) (base : Nat) (B : Nat → Prop), Rel w0 st g born acts w → vals[f]? = some x → af st.get g v x → x.oneCell' = true → v.roots = [] →
      ∃ g' born', Rel w0 (st.bM (ay base [])) g' born' acts w ∧ Laid st (st.bM (ay base [])) g g' born born' base (base + 0) ∧
      [v].length = 1 ∧ (∀ k, k < 1 → ∃ x, vals[f + k]? = some x ∧ af (st.bM (ay base [])).get g' ([v].getD k .undef) x ∧ x.oneCell' = true) ∧
      (∀ r ∈ AV.ah [v], base ≤ r ∧ r < base + 0) ∧ (∀ r b, Own (st.bM (ay base [])).get g' r b → Own st.get g r b ∨ B b) := by
    intro v f vals x st g born base B R hx hv h1 hr
    refine ⟨g, born, R, ⟨fun _ _ => ⟨rfl, rfl⟩, fun r => ⟨.inl, fun h => h.elim id fun h => by omega⟩⟩, rfl, fun k hk => ?_, fun r h => ?_, fun _ _ h => .inl h⟩
    · obtain rfl : k = 0 := by omega
      exact ⟨x, hx, hv, h1⟩
    · simp [AV.ah, hr] at h
  induction t with
  | int k =>
    intro d st g born base f vals G vs rs R hrep _ _ hl hfr
    simp only [mJ, Prod.mk.injEq] at hl
    obtain ⟨rfl, rfl⟩ := hl
    exact one (.int k d) f vals _ st g born base _ R hrep (by rw [af]) rfl rfl
  | bool =>
    intro d st g born base f vals G vs rs R hrep _ _ hl hfr
    simp only [mJ, Prod.mk.injEq] at hl
    obtain ⟨rfl, rfl⟩ := hl
    exact one (.bool d) f vals _ st g born base _ R hrep (by rw [af]) rfl rfl
  | str =>
    intro d st g born base f vals G vs rs R hrep _ _ hl hfr
    simp only [mJ, Prod.mk.injEq] at hl
    obtain ⟨rfl, rfl⟩ := hl
    exact one (.str d) f vals _ st g born base _ R hrep (by rw [af]) rfl rfl
  | unit =>
    intro d st g born base f vals G vs rs R hrep _ _ hl hfr
    simp only [mJ, Prod.mk.injEq] at hl
    obtain ⟨rfl, rfl⟩ := hl
    exact ⟨g, born, R, ⟨fun _ _ => ⟨rfl, rfl⟩, fun r => ⟨.inl, fun h => h.elim id fun h => by simp at h; omega⟩⟩, rfl, fun k hk => by simp [Ty.size] at hk, fun r h => by simp [AV.ah] at h, fun _ _ h => .inl h⟩
  | sl e ih =>
    intro d st g born base f vals G vs rs R hrep hsep hblk hl hfr
    simp only [mJ, Prod.mk.injEq] at hl
    obtain ⟨rfl, rfl⟩ := hl
    have hi : ¬ born base := hfr base (Nat.le_refl _) (by simp)
    have e1 : (st.fB base (.row rw e d)).get base = .row rw e d := dw _ _ _
    have e2 : fR g base ⟨0, G f⟩ base = ⟨0, G f⟩ := fJ _ _ _
    have hown : ∀ b, Own (st.fB base (.row rw e d)).get (fR g base ⟨0, G f⟩) base b → rw = true ∧ b6 e d (G f) b := by
      intro b h
      unfold Own at h
      rw [e1] at h
      cases rw with
      | true => simp only [e2] at h; exact ⟨rfl, h⟩
      | false => exact h.elim
    have R' := zQ R base (.row rw e d) ⟨0, G f⟩ hi (by
        unfold bW
        rw [e1]
        cases rw with
        | true => simp only [e2]; exact ⟨hrep.2, hsep rfl⟩
        | false => simp only [e2]; exact hrep.2)
      (fun b h => (hblk (hown b h).1 b (hown b h).2).1) (fun r b h h' => (hblk (hown b h).1 b (hown b h).2).2 r h') (fun r h => by simp [aU.roots] at h)
    obtain ⟨hrd, hrow⟩ := hrep
    have hsl : ∃ a n c, G f [] = .slice a n c := by
      rcases hrow with ⟨h0, _⟩ | ⟨a, cap, h0, _⟩
      · exact ⟨_, _, _, h0⟩
      · exact ⟨_, _, _, h0⟩
    refine ⟨fR g base ⟨0, G f⟩, _, R', ⟨fun r hr => ⟨bV fun e => hi (e ▸ hr), b9 fun e => hi (e ▸ hr)⟩, fun r => ?_⟩, rfl, fun k hk => ?_, fun r h => ?_, fun r b h => ?_⟩
    · exact ⟨fun h => h.imp id fun h => by subst h; simp, fun h => h.imp id fun h => by simp at h; omega⟩
    · simp only [Ty.size] at hk
      obtain rfl : k = 0 := by omega
      refine ⟨_, hrd, ?_, ?_⟩
      · show af _ _ (.sl base [] none) _
        rw [af]
        refine ⟨hsl, fun t e' ht he => ?_⟩
        show G f [] = (fR g base ⟨0, G f⟩ base).H []
        rw [e2]
      · obtain ⟨a, n, c, h⟩ := hsl; rw [h]; rfl
    · simp [AV.ah, AV.roots] at h
      subst h; simp
    · by_cases hr : r = base
      · subst hr; exact .inr (hown b h)
      · refine .inl ((nP (bV hr) (b9 hr) fun q p t xs e => b9 ?_).1 h)
        intro e'; subst e'
        exact hi (R.bornR r q (by rw [e]; simp [aU.roots]))
  | pair a b iha ihb =>
    intro d st g born base f vals G vs rs R hrep hsep hblk hl hfr
    unfold mJ at hl
    generalize ha : mJ rw a d.1 base = ra at hl
    obtain ⟨vs1, rs1⟩ := ra
    simp only at hl
    generalize hb : mJ rw b d.2 (base + rs1.length) = rb at hl
    obtain ⟨vs2, rs2⟩ := rb
    simp only [Prod.mk.injEq] at hl
    obtain ⟨rfl, rfl⟩ := hl
    obtain ⟨g1, born1, R1, L1, n1, v1, r1, o1⟩ := iha d.1 st g born base f vals G vs1 rs1 R hrep.1 (fun h => (hsep h).1) (fun h bl hb => hblk h bl (.inl hb)) ha (fun i h1 h2 => hfr i h1 (by simp; omega))
    obtain ⟨g2, born2, R2, L2, n2, v2, r2, o2⟩ := ihb d.2 _ g1 born1 (base + rs1.length) (f + a.size) vals G vs2 rs2 R1 hrep.2 (fun h => (hsep h).2.1)
      (fun h bl hb => ⟨(hblk h bl (.inr hb)).1, fun r ho => (o1 r bl ho).elim ((hblk h bl (.inr hb)).2 r) fun ho => (hsep h).2.2 bl ho.2 hb⟩) hb
      (fun i h1 h2 hbi => ((L1.born_iff i).1 hbi).elim (hfr i (by omega) (by simp; omega)) fun h => by omega)
    have hset : st.bM (ay base (rs1 ++ rs2)) = (st.bM (ay base rs1)).bM (ay (base + rs1.length) rs2) := by
      rw [hM, j4]
    rw [hset]
    refine ⟨g2, born2, R2, ⟨fun r hr => ?_, fun r => ?_⟩, ?_, fun k hk => ?_, fun r h => ?_, fun r bl h => ?_⟩
    · obtain ⟨e1, e2⟩ := L1.old r hr
      obtain ⟨e3, e4⟩ := L2.old r ((L1.born_iff r).2 (.inl hr))
      exact ⟨e3.trans e1, e4.trans e2⟩
    · rw [L2.born_iff, L1.born_iff, List.length_append]
      constructor
      · rintro ((h | h) | h)
        · exact .inl h
        · exact .inr ⟨h.1, by omega⟩
        · exact .inr ⟨by omega, by omega⟩
      · rintro (h | h)
        · exact .inl (.inl h)
        · by_cases h' : r < base + rs1.length
          · exact .inl (.inr ⟨h.1, h'⟩)
          · exact .inr ⟨by omega, by omega⟩
    · simp only [List.length_append, Ty.size, n1, n2]
    · simp only [Ty.size] at hk
      by_cases h : k < a.size
      · obtain ⟨x, hx, hv, h1⟩ := v1 k h
        refine ⟨x, hx, ?_, h1⟩
        have e : (vs1 ++ vs2).getD k .undef = vs1.getD k .undef := by
          simp only [List.getD_eq_getElem?_getD]; rw [List.getElem?_append_left (by omega)]
        rw [e]
        refine gR _ _ (fun r hr => L2.holds ((L1.born_iff r).2 (.inr (r1 r (g6 hr))))) hv
      · obtain ⟨x, hx, hv, h1⟩ := v2 (k - a.size) (by omega)
        refine ⟨x, ?_, ?_, h1⟩
        · have : f + a.size + (k - a.size) = f + k := by omega
          rw [← this]; exact hx
        · have e : (vs1 ++ vs2).getD k .undef = vs2.getD (k - a.size) .undef := by
            simp only [List.getD_eq_getElem?_getD]; rw [List.getElem?_append_right (by omega), n1]
          rw [e]; exact hv
    · have : ∀ (l m : List AV), r ∈ AV.ah (l ++ m) → r ∈ AV.ah l ∨ r ∈ AV.ah m := by
        intro l
        induction l with
        | nil => intro m h; exact .inr h
        | cons u us ih =>
          intro m h
          simp only [List.cons_append, AV.ah, List.mem_append] at h ⊢
          rcases h with h | h
          · exact .inl (.inl h)
          · exact (ih m h).imp .inr id
      rw [List.length_append]
      rcases this _ _ h with h | h
      · have := r1 r h; omega
      · have := r2 r h; omega
    · rcases o2 r bl h with h | ⟨h, h'⟩
      · rcases o1 r bl h with h | ⟨h, h'⟩
        · exact .inl h
        · exact .inr ⟨h, .inl h'⟩
      · exact .inr ⟨h, .inr h'⟩
end
end Go.Am
end
section
/- Soundness, tenth part: operands. -/
namespace Go.Am
attribute [local instance] D.real
section
variable {w0 : dx} {w : World} {st : St} {g : bC} {born : Nat → Prop} {acts : List Act} {a : Act}
theorem yM (get : Get) (g : bC) (v : Value) : af get g (match v with
    | .int k n => .int k n
    | .bool b => .kb b
    | .string s => .str s
    | .slice none 0 0 => .nilS
    | _ => .undef) v := by
  split <;> simp [af]
theorem rC (get : Get) (g : bC) : ∀ (l : List Value), ak get g (l.map fun
    | .int k n => .int k n
    | .bool b => .kb b
    | .string s => .str s
    | .slice none 0 0 => .nilS
    | _ => .undef) l
  | [] => by simp [ak]
  | v :: l => by
    rw [List.map_cons, ak]
    exact ⟨v, l, rfl, yM get g v, rC get g l⟩
theorem AO (get : Get) (g : bC) (v : Value) : af get g (oB v) v := by
  unfold oB
  split <;> try simp only [af]
  next cs =>
    cases h : cs.toList.all Value.oneCell' with
    | false => simp only [cond_false, af]
    | true =>
      simp only [cond_true]
      rw [af]
      exact ⟨cs, rfl, fun x hx => List.all_eq_true.1 h x hx, rC get g _⟩
theorem lF : ∀ {l : List AV}, (∀ v ∈ l, v.roots = []) → AV.ah l = []
  | [], _ => by rw [AV.ah]
  | v :: l, h => by rw [AV.ah, h v List.mem_cons_self, lF fun v hv => h v (List.mem_cons_of_mem _ hv)]; rfl
theorem xN (v : Value) : (oB v).roots = [] := by
  unfold oB
  split <;> try rfl
  next cs =>
    cases h : cs.toList.all Value.oneCell' with
    | false => rfl
    | true =>
      simp only [cond_true, AV.roots]
      refine lF fun v hv => ?_
      obtain ⟨x, _, rfl⟩ := List.mem_map.1 hv
      split <;> rfl
theorem cK (R : Rel w0 st g born (a :: acts) w) (x : Operand) : af st.get g (aS st x) (a.eval x) ∧ ∀ r ∈ (aS st x).roots, born r := by
  cases x with
  | tmp i =>
    have hfr := R.frames
    unfold aS St.top Act.eval
    generalize hf : st.fr = fr at hfr
    cases fr with
    | nil => simp only [fj] at hfr; cases hfr
    | cons f fs =>
      obtain ⟨a', as, e, h1, h2⟩ := hfr
      injection e with e1 e2
      subst e1
      refine ⟨h1.slot i, fun r hr => R.bornF f (by rw [hf]; exact List.mem_cons_self) r (g6 hr)⟩
  | const v => exact ⟨AO _ _ v, fun r hr => by rw [show aS st (.const v) = oB v from rfl, xN] at hr; cases hr⟩
  | global n => exact ⟨by show af _ _ .undef _; simp [af], fun r hr => by simp [aS, AV.roots] at hr⟩
  | func f =>
    refine ⟨?_, fun r hr => by simp [aS, AV.roots, AV.ah] at hr⟩
    show af _ _ (.fn f [] []) (.func (.func f) #[] #[])
    rw [af]
    exact ⟨#[], #[], rfl, by simp [ak], by simp [ak]⟩
theorem nM (R : Rel w0 st g born (a :: acts) w) : ∀ (l : List Operand), ak st.get g (l.map (aS st)) (l.map a.eval) ∧ ∀ r ∈ AV.ah (l.map (aS st)), born r
  | [] => ⟨by simp [ak], fun r hr => by simp [AV.ah] at hr⟩
  | x :: l => by
    obtain ⟨h1, h2⟩ := cK R x
    obtain ⟨h3, h4⟩ := nM R l
    refine ⟨?_, fun r hr => ?_⟩
    · rw [List.map_cons, List.map_cons, ak]; exact ⟨_, _, rfl, h1, h3⟩
    · simp only [List.map_cons, AV.ah, List.mem_append] at hr
      exact hr.elim (h2 r) (h4 r)
end
end Go.Am
end
section
/- Soundness, eleventh part: operations without memory. -/
namespace Go.Am
noncomputable section
attribute [local instance] D.real
def eO (P : Program) (o : Oper) (ρ : Operand → Value) (w : World) (Post : Value → World → Prop) : Prop :=
  ∃ v w', Post v w' ∧ ((execOp ρ o).run P w = .ok (.value v) w' ∨ ((execOp ρ o).run P w = .ok .skip w' ∧ v = Go.undef))
theorem yT {P : Program} {o : Oper} {a : Act} {w : World} {Post : Value → World → Prop} {K : Act → World → Prop} {Q : Exit → Act → World → Prop}
    (h : eO P o a.eval w Post) (hk : ∀ v w', Post v w' → K (a.put o.dst v) w') : o.wp P a w K Q := by
  obtain ⟨v, w', hp, h | ⟨h, rfl⟩⟩ := h
  · unfold Oper.wp; rw [h]; exact hk v w' hp
  · unfold Oper.wp; rw [h]; exact hk _ w' hp
def gd (w0 : dx) (st : St) (born : Nat → Prop) (acts : List Act) (out : Out) (v : Value) (w' : World) : Prop :=
  ∃ g' born', Rel w0 ((st.bM out.upd).cut out.cut) g' born' acts w' ∧ af ((st.bM out.upd).cut out.cut).get g' out.v v ∧ (∀ r ∈ out.v.roots, born' r) ∧
    (∀ r, born' r → born r ∨ r ∈ out.upd.map (·.1)) ∧ ∀ r, born r → born' r
section
variable {P : Program} {w0 : dx} {w : World} {st : St} {g : bC} {born : Nat → Prop} {acts : List Act}
theorem gd.val {ok : List Tst} {av : AV} {v : Value} (R : Rel w0 st g born acts w) (hv : af st.get g av v) (hr : ∀ r ∈ av.roots, born r) :
    gd w0 st born acts { ok := ok, v := av } v w :=
  ⟨g, born, R, hv, hr, fun _ h => .inl h, fun _ h => h⟩
theorem yV {op : BinOp} {k : IntKind} {a b : Int} {t : TypeId} {x y : Operand} (hok : b7 (sL op k a b).ok) (get : Get) (g : bC) :
    ∃ v, (do eqGuard op t x y (.int k a) (.int k b); binOp op t (.int k a) (.int k b) : Sem Value).run P w = .ok v w ∧ af get g (sL op k a b).v v ∧ (sL op k a b).v.roots = [] := by
  cases op <;> simp only [sL, Out.bad] at hok ⊢ <;> first
    | exact (bu hok).elim
    | refine ⟨_, by simp [eqGuard, binOp, Op.intArith, Op.intCmp]; rfl, ?_, rfl⟩; rw [af]; try rfl
    | refine ⟨_, by simp [eqGuard, binOp, Op.intBits]; rfl, ?_, rfl⟩; rw [af]; try rfl
    | skip
  all_goals first
    | (have hb : b ≠ 0 := by
         have := (ag.1 hok).1
         intro e; subst e
         exact absurd this (by decide)
       refine ⟨_, by simp [eqGuard, binOp, Op.intDiv, hb]; rfl, ?_, rfl⟩; rw [af]; try rfl)
    | skip
theorem vH {op : BinOp} {k k' : IntKind} {a b : Int} {t : TypeId} {x y : Operand} (hok : b7 (nB op k a b).ok) (get : Get) (g : bC) :
    ∃ v, (do eqGuard op t x y (.int k a) (.int k' b); binOp op t (.int k a) (.int k' b) : Sem Value).run P w = .ok v w ∧ af get g (nB op k a b).v v ∧ (nB op k a b).v.roots = [] := by
  cases op <;> simp only [nB, Out.bad] at hok ⊢ <;> first
    | exact (bu hok).elim
    | (have hb : 0 ≤ b := of_decide_eq_true (ag.1 hok).1
       have hb' : ¬ b < 0 := by omega
       refine ⟨_, by simp [eqGuard, binOp, Op.shift, hb']; rfl, ?_, rfl⟩; rw [af]; try rfl)
theorem y5 {op : BinOp} {a b : ByteArray} {t : TypeId} {x y : Operand} (hok : b7 (qE op a b).ok) (get : Get) (g : bC) :
    ∃ v, (do eqGuard op t x y (.string a) (.string b); binOp op t (.string a) (.string b) : Sem Value).run P w = .ok v w ∧ af get g (qE op a b).v v ∧ (qE op a b).v.roots = [] := by
  cases op
  case add =>
    have hb : a.size + b.size ≤ lim := of_decide_eq_true (ag.1 hok).1
    simp only [lim] at hb
    refine ⟨.string (a ++ b), ?_, by simp only [qE]; rw [af]; rfl, rfl⟩
    have hm : IntKind.i64.max = 9223372036854775807 := by decide
    have : ¬ ((a.size + b.size : Nat) : Int) > IntKind.i64.max := by rw [hm]; omega
    simp only [eqGuard, binOp, Op.stringOp, this, if_false]
    rfl
  all_goals first
    | exact (bu hok).elim
    | (refine ⟨_, rfl, ?_, rfl⟩; simp only [qE]; rw [af]; rfl)
theorem zx {get : Get} {g : bC} {x : AV} {v : Value} (h : af get g x v) : af get g x.toB v := by
  cases x <;> first | exact h | (simp only [AV.toB]; rw [af] at h ⊢; exact h)
theorem Ck {op : BinOp} {x y : AV} {u v : Value} {t : TypeId} {p q : Operand} {get : Get} {g : bC} (hx : af get g x u) (hy : af get g y v) (hok : b7 (qa P t op x y).ok) :
    ∃ z, (do eqGuard op t p q u v; binOp op t u v : Sem Value).run P w = .ok z w ∧ af get g (qa P t op x y).v z ∧ (qa P t op x y).v.roots = [] := by
  have hx' := zx hx
  have hy' := zx hy
  unfold qa at hok ⊢
  split at hok
  · next k a k' b e1 e2 =>
    rw [e1, af] at hx'
    rw [e2, af] at hy'
    subst hx'; subst hy'
    cases hs : zK op with
    | true =>
      rw [hs] at hok
      simp only [cond_true] at hok ⊢
      exact vH hok get g
    | false =>
      rw [hs] at hok
      cases hk : decide (k = k') with
      | false => rw [hk] at hok; exact (bu hok).elim
      | true =>
        have hk := of_decide_eq_true hk
        subst hk
        simp only [decide_true, cond_true, cond_false] at hok ⊢
        exact yV hok get g
  · next a b e1 e2 =>
    rw [e1, af] at hx'
    rw [e2, af] at hy'
    subst hx'; subst hy'
    exact y5 hok get g
  · next a b e1 e2 =>
    rw [e1, af] at hx'
    rw [e2, af] at hy'
    subst hx'; subst hy'
    have key : ∀ b, b7 [Tst.s b] → b = true := fun b h => (ag.1 h).1
    split at hok
    · have ht := key _ hok
      have ht : P.underlying t = some .bool := by
        unfold sd at ht
        split at ht
        · assumption
        · cases ht
      refine ⟨.bool (a == b), ?_, by rw [af]; rfl, rfl⟩
      simp [eqGuard, binOp, Op.equal, Op.maxDepth, run_equalIn_bool w _ t a b ht]
    · have ht := key _ hok
      have ht : P.underlying t = some .bool := by
        unfold sd at ht
        split at ht
        · assumption
        · cases ht
      refine ⟨.bool (!(a == b)), ?_, by rw [af]; rfl, rfl⟩
      simp [eqGuard, binOp, Op.equal, Op.maxDepth, run_equalIn_bool w _ t a b ht]
    · exact (bu hok).elim
  · exact (bu hok).elim
end
end
end Go.Am
end
section
/- Soundness, twelfth part: more operations without memory. -/
namespace Go.Am
attribute [local instance] D.real
section
variable {P : Program} {w0 : dx} {w : World} {st : St} {g : bC} {born : Nat → Prop} {a : Act} {as : List Act}
theorem eO.value {o : Oper} {ρ : Operand → Value} {Post : Value → World → Prop} {v : Value} {w' : World} (h : (execOp ρ o).run P w = .ok (.value v) w') (hp : Post v w') : eO P o ρ w Post := ⟨v, w', hp, .inl h⟩
theorem aY {t : TypeId} {d : TypeDesc} (h : P.underlying t = some d) (w : World) : (underlying t).run P w = .ok d w := by
  simp [underlying, h]
theorem B4 {get : Get} {x y : AV} {l : List Value} (h : ak get g [x, y] l) : ∃ u v, l = [u, v] ∧ af get g x u ∧ af get g y v := by
  rw [ak] at h
  obtain ⟨u, us, rfl, h1, h⟩ := h
  rw [ak] at h
  obtain ⟨v, vs, rfl, h2, h⟩ := h
  rw [ak] at h
  subst h
  exact ⟨u, v, rfl, h1, h2⟩
theorem yE {o : Oper} {op : BinOp} {t yt : TypeId} {x y : Operand} {base : Nat} (ho : o.op = .binOp op t x y yt) (R : Rel w0 st g born (a :: as) w)
    (e : bQ P o (o.op.operands.toList.map (aS st)) st.get base = qa P t op (aS st x) (aS st y))
    (hok : b7 (bQ P o (o.op.operands.toList.map (aS st)) st.get base).ok) :
    eO P o a.eval w fun v w' => gd w0 st born (a :: as) (bQ P o (o.op.operands.toList.map (aS st)) st.get base) v w' := by
  rw [e] at hok ⊢
  obtain ⟨z, hz, hr, hroots⟩ := Ck (P := P) (w := w) (t := t) (p := x) (q := y) (cK R x).1 (cK R y).1 hok
  refine eO.value (v := z) (w' := w) ?_ ?_
  · unfold execOp; rw [ho]
    simp only [Sem.run_bind] at hz ⊢
    rw [hz]; rfl
  · have hnu : (qa P t op (aS st x) (aS st y)).upd = [] ∧ (qa P t op (aS st x) (aS st y)).cut = none := by
      unfold qa
      split
      · next k n k' n' _ _ => cases decide (k = k') <;> cases op <;> exact ⟨rfl, rfl⟩
      · cases op <;> exact ⟨rfl, rfl⟩
      · cases op <;> exact ⟨rfl, rfl⟩
      · exact ⟨rfl, rfl⟩
    refine ⟨g, born, ?_, ?_, ?_, fun r h => .inl h, fun r h => h⟩
    · rw [hnu.1, hnu.2]; exact R
    · rw [hnu.1, hnu.2]; exact hr
    · rw [hroots]; intro r h; cases h
end
end Go.Am
end
section
/- Soundness: steps of operations that answer a value alone. -/
namespace Go.Am
attribute [local instance] D.real
section
variable {P : Program} {w0 : dx} {w : World} {st : St} {g : bC} {born : Nat → Prop} {a : Act} {as : List Act} {o : Oper} {base : Nat}
theorem cH {out : Out} {v : Value} (R : Rel w0 st g born (a :: as) w) (hu : out.upd = []) (hc : out.cut = none) (hrun : (execOp a.eval o).run P w = .ok (.value v) w)
    (hv : af st.get g out.v v) (hr : ∀ r ∈ out.v.roots, born r) : eO P o a.eval w (gd w0 st born (a :: as) out) := by
  refine eO.value hrun ⟨g, born, ?_, ?_, hr, fun r h => .inl h, fun r h => h⟩
  · rw [hu, hc]; exact R
  · rw [hu, hc]; exact hv
theorem As {c x y : Operand} (ho : o.op = .pick c x y) (R : Rel w0 st g born (a :: as) w)
    (hok : b7 (bQ P o (o.op.operands.toList.map (aS st)) st.get base).ok) :
    eO P o a.eval w (gd w0 st born (a :: as) (bQ P o (o.op.operands.toList.map (aS st)) st.get base)) := by
  have e : bQ P o (o.op.operands.toList.map (aS st)) st.get base = zd (aS st c) (aS st x) (aS st y) := by cases o; simp only at ho; subst ho; rfl
  rw [e] at hok ⊢
  have hcc := (cK R c).1
  unfold zd at hok ⊢
  split at hok
  · next h =>
    rw [h, af] at hcc
    exact cH R rfl rfl (v := a.eval x) (by unfold execOp; rw [ho]; simp [asBool, hcc]) (cK R x).1 (cK R x).2
  · next h =>
    rw [h, af] at hcc
    exact cH R rfl rfl (v := a.eval y) (by unfold execOp; rw [ho]; simp [asBool, hcc]) (cK R y).1 (cK R y).2
  · exact (bu hok).elim
theorem Av {op : UnOp} {t : TypeId} {x : Operand} (ho : o.op = .unOp op t x) (R : Rel w0 st g born (a :: as) w)
    (hok : b7 (bQ P o (o.op.operands.toList.map (aS st)) st.get base).ok) :
    eO P o a.eval w (gd w0 st born (a :: as) (bQ P o (o.op.operands.toList.map (aS st)) st.get base)) := by
  have e : bQ P o (o.op.operands.toList.map (aS st)) st.get base = BD op [aS st x] := by cases o; simp only at ho; subst ho; rfl
  rw [e] at hok ⊢
  have hx := (cK R x).1
  unfold BD at hok ⊢
  split at hok
  · next h =>
    injection h with h _
    rw [h, af] at hx
    exact cH R rfl rfl (v := .bool (!_)) (by unfold execOp; rw [ho]; simp only [Op.unary, hx]; rfl) (by rw [af]; rfl) (fun r h => by simp [AV.roots] at h)
  · next h =>
    injection h with h _
    rw [h, af] at hx
    exact cH R rfl rfl (v := .bool (!_)) (by unfold execOp; rw [ho]; simp only [Op.unary, hx]; rfl) (by rw [af]) (fun r h => by simp [AV.roots] at h)
  · next h =>
    injection h with h _
    rw [h, af] at hx
    exact cH R rfl rfl (v := .int _ _) (by unfold execOp; rw [ho]; simp only [Op.unary, hx]; rfl) (by rw [af]; rfl) (fun r h => by simp [AV.roots] at h)
  · exact (bu hok).elim
theorem uG {x : Operand} (ho : o.op = .nilCheck x) (R : Rel w0 st g born (a :: as) w)
    (hok : b7 (bQ P o (o.op.operands.toList.map (aS st)) st.get base).ok) :
    eO P o a.eval w (gd w0 st born (a :: as) (bQ P o (o.op.operands.toList.map (aS st)) st.get base)) := by
  have e : bQ P o (o.op.operands.toList.map (aS st)) st.get base = yj [aS st x] := by cases o; simp only at ho; subst ho; rfl
  rw [e] at hok ⊢
  have hx := cK R x
  unfold yj at hok ⊢
  split at hok
  · next h =>
    injection h with h _
    rw [h] at hx
    have hx1 := hx.1
    rw [af] at hx1
    obtain ⟨⟨ad, hv⟩, _⟩ := hx1
    exact cH R rfl rfl (v := a.eval x) (by unfold execOp; rw [ho]; simp only [hv]; rfl) hx.1 hx.2
  · next h =>
    injection h with h _
    rw [h] at hx
    have hx1 := hx.1
    rw [af] at hx1
    obtain ⟨⟨ad, hv⟩, _⟩ := hx1
    exact cH R rfl rfl (v := a.eval x) (by unfold execOp; rw [ho]; simp only [hv]; rfl) hx.1 hx.2
  · exact (bu hok).elim
theorem v5 {x : Operand} {i : Nat} (ho : o.op = .extract x i) (R : Rel w0 st g born (a :: as) w)
    (hok : b7 (bQ P o (o.op.operands.toList.map (aS st)) st.get base).ok) :
    eO P o a.eval w (gd w0 st born (a :: as) (bQ P o (o.op.operands.toList.map (aS st)) st.get base)) := by
  have e : bQ P o (o.op.operands.toList.map (aS st)) st.get base = pn i [aS st x] := by cases o; simp only at ho; subst ho; rfl
  rw [e] at hok ⊢
  have hx := cK R x
  unfold pn at hok ⊢
  split at hok
  · next vs h =>
    injection h with h _
    rw [h] at hx
    have hx1 := hx.1
    rw [af] at hx1
    obtain ⟨us, hv, hl⟩ := hx1
    have hi : i < vs.length := by have := (ag.1 hok).1; rw [← Nat.blt_eq]; exact this
    obtain ⟨y, hy, hyr⟩ := cX hl (fk (d := AV.undef) hi)
    have hy' : us[i]? = some y := by simpa using hy
    exact cH R rfl rfl (v := y) (by unfold execOp; rw [ho]; simp [hv, Instr.extract, hy']) hyr
      (fun r hr => hx.2 r (by simp only [AV.roots]; exact g6 hr))
  · exact (bu hok).elim
end
end Go.Am
end
section
/- Soundness: parts of aggregates. -/
namespace Go.Am
attribute [local instance] D.real
section
variable {P : Program} {w0 : dx} {w : World} {st : St} {g : bC} {born : Nat → Prop} {a : Act} {as : List Act} {o : Oper} {base : Nat}
theorem tR {t : TypeId} (h : gJ P t = true) : ∃ d i, P.underlying t = some d ∧ P.info? t = some i := by
  unfold gJ at h
  rw [Bool.and_eq_true] at h
  obtain ⟨d, hd⟩ := Option.isSome_iff_exists.1 h.1
  obtain ⟨i, hi⟩ := Option.isSome_iff_exists.1 h.2
  exact ⟨d, i, hd, hi⟩
theorem mz {t : TypeId} (h : gJ P t = true) (w : World) : (isAgg t).run P w = .ok (ki P t) w := by
  obtain ⟨d, i, hd, hi⟩ := tR h
  unfold isAgg ki
  rw [Sem.run_bind, aY hd]
  rw [hd]
  cases d <;> rfl
theorem lf {t : TypeId} (h : gJ P t = true) (w : World) : (sizeOf t).run P w = .ok (P.cellsOf t) w := by
  obtain ⟨d, i, hd, hi⟩ := tR h
  simp [sizeOf, typeInfo, hi, Program.cellsOf]
theorem g5 {l : List AV} {r : Nat} : ∀ (n : Nat), r ∈ AV.ah (l.drop n) → r ∈ AV.ah l := by
  intro n
  induction n generalizing l with
  | zero => exact id
  | succ n ih =>
    intro h
    cases l with
    | nil => exact h
    | cons v l => simp only [AV.ah, List.mem_append]; exact .inr (ih h)
theorem iX {l : List AV} {r : Nat} : ∀ (n : Nat), r ∈ AV.ah (l.take n) → r ∈ AV.ah l := by
  intro n
  induction n generalizing l with
  | zero => intro h; simp [AV.ah] at h
  | succ n ih =>
    intro h
    cases l with
    | nil => exact h
    | cons v l =>
      simp only [List.take_succ_cons, AV.ah, List.mem_append] at h ⊢
      exact h.imp id ih
theorem BI {get : Get} {t : TypeId} {cs : List AV} {vs : Array Value} {f : Nat} (hA : ak get g cs vs.toList) (h1 : ∀ x ∈ vs.toList, x.oneCell' = true) (hok : b7 (fG P t cs f).ok) :
    ∃ v, (part t vs f).run P w = .ok v w ∧ af get g (fG P t cs f).v v ∧ (∀ r ∈ (fG P t cs f).v.roots, r ∈ AV.ah cs) ∧ (fG P t cs f).upd = [] ∧ (fG P t cs f).cut = none ∧ gJ P t = true := by
  unfold fG at hok ⊢
  have hlen := dU hA
  cases hagg : ki P t with
  | true =>
    rw [hagg] at hok
    simp only [cond_true, true_and] at hok ⊢
    obtain ⟨k1, k2⟩ := ag.1 hok
    have k1 : gJ P t = true := k1
    refine ⟨.agg (vs.extract f (f + P.cellsOf t)), ?_, ?_, fun r hr => ?_, k1⟩
    · simp [part, mz k1, hagg, lf k1]
    · rw [af]
      have e : (vs.extract f (f + P.cellsOf t)).toList = (vs.toList.drop f).take (P.cellsOf t) := by
        rw [Array.toList_extract, List.extract_eq_take_drop]; congr 1; omega
      refine ⟨_, rfl, fun x hx => ?_, ?_⟩
      · rw [e] at hx; exact h1 x (List.drop_subset _ _ (List.take_subset _ _ hx))
      · rw [e]; exact gm _ (gn _ hA)
    · simp only [AV.roots] at hr
      exact g5 _ (iX _ hr)
  | false =>
    rw [hagg] at hok
    simp only [cond_false, true_and] at hok ⊢
    obtain ⟨k1, k2⟩ := ag.1 hok
    have k1 : gJ P t = true := k1
    have hf : f < cs.length := by have := (ag.1 k2).1; rw [← Nat.blt_eq]; exact this
    obtain ⟨v, hv, hr⟩ := cX hA (fk (d := AV.undef) hf)
    have hv' : vs[f]? = some v := by simpa using hv
    refine ⟨v, ?_, hr, fun r hr => g6 hr, k1⟩
    simp [part, mz k1, hagg, hv']
theorem kx {s ft : TypeId} {i f : Nat} (h : pL P s i = some (f, ft)) : ∃ fs fld, P.underlying s = some (.struct fs) ∧ fs[i]? = some fld ∧ fld.offset = f ∧ fld.type = ft := by
  unfold pL at h
  split at h
  · next fs hfs =>
    split at h
    · next fld hfld => injection h with h; injection h with h1 h2; exact ⟨fs, fld, hfs, hfld, h1, h2⟩
    · cases h
  · cases h
theorem yl {s : TypeId} {x : Operand} {i : Nat} (ho : o.op = .field s x i) (R : Rel w0 st g born (a :: as) w)
    (hok : b7 (bQ P o (o.op.operands.toList.map (aS st)) st.get base).ok) :
    eO P o a.eval w (gd w0 st born (a :: as) (bQ P o (o.op.operands.toList.map (aS st)) st.get base)) := by
  have e : bQ P o (o.op.operands.toList.map (aS st)) st.get base = ug P s i [aS st x] := by cases o; simp only at ho; subst ho; rfl
  rw [e] at hok ⊢
  have hx := cK R x
  unfold ug at hok ⊢
  split at hok
  · next f ft cs hf h =>
    injection h with h _
    rw [h] at hx
    have hx1 := hx.1
    rw [af] at hx1
    obtain ⟨vs, hv, h1, hA⟩ := hx1
    obtain ⟨fs, fld, hu, hfld, rfl, rfl⟩ := kx hf
    obtain ⟨v, hrun, hr, hroots, e1, e2, _⟩ := BI (P := P) (w := w) hA h1 hok
    refine cH R e1 e2 (v := v) ?_ hr (fun r hr => hx.2 r (by simp only [AV.roots]; exact hroots r hr))
    unfold execOp
    rw [ho]
    simp [Instr.field, aY hu, hfld, hv, asAgg, hrun]
  · exact (bu hok).elim
end
end Go.Am
end
section
/- Soundness: len, fieldAddr. -/
namespace Go.Am
attribute [local instance] D.real
section
variable {P : Program} {w0 : dx} {w : World} {st : St} {g : bC} {born : Nat → Prop} {a : Act} {as : List Act} {o : Oper} {base : Nat}
theorem sb {w : World} {rw : Bool} {t : Ty} {xs : List (den t)} {H : Path → Value} (h : cE w rw t xs H) : ∃ a c, H [] = .slice a xs.length c := by
  rcases h with ⟨h0, rfl⟩ | ⟨a, c, h0, _⟩
  · exact ⟨none, 0, h0⟩
  · exact ⟨some a, c, h0⟩
theorem Cb {α : Type} {sz : Nat} {sub : Option (Nat × Nat)} {v0 v : Value} {xs : List α} {a0 : Option Addr} {c0 : Nat} (h0 : v0 = .slice a0 xs.length c0) (h : qg sz sub v0 v) : ∃ a c, v = .slice a (gB sub xs) c := by
  cases sub with
  | none => exact ⟨a0, c0, (show v = v0 from h).trans h0⟩
  | some s =>
    obtain ⟨o, l⟩ := s
    rcases h with ⟨_, hv, _, rfl⟩ | ⟨a, n, c, j, _, hv, _⟩
    · exact ⟨_, _, hv⟩
    · exact ⟨_, _, hv⟩
theorem By (R : Rel w0 st g born (a :: as) w) {r : Nat} {p : Path} {sub : Option (Nat × Nat)} {v : Value} {rw : Bool} {t e : Ty} {xs : List (den t)} {ys : List (den e)} {ok : List Tst}
    (hg : st.get r = .row rw t xs) (hrow : rowAt t xs p = (ok, ⟨e, ys⟩)) (hok : b7 ok) (hv : af st.get g (.sl r p sub) v) :
    cE w false e ys (fun q => (g r).H (p ++ q)) ∧ qg e.size sub ((g r).H p) v := by
  have h := R.roots r
  unfold bW at h
  rw [hg] at h
  have hR : cE w false t xs (g r).H := by
    cases rw with
    | true => exact qK h.1
    | false => exact ql (kV R.below) h
  obtain ⟨h1, h2, _, _⟩ := jk p t xs (g r).H ok e ys hrow hok hR
  rw [af] at hv
  exact ⟨h1, hv.2 t e (by rw [hg]; rfl) h2⟩
end
end Go.Am
end
