/- Calls and regions with open order are sound, whatever the program. -/
import Derived.Test.YtilkippgilnhcaaAmI
import Derived.OrdersIn
set_option linter.unusedSimpArgs false
set_option linter.unusedVariables false
set_option linter.unnecessarySimpa false
set_option linter.unusedSectionVars false
section
/- Soundness: calls; one operation. -/
namespace Go.Am
noncomputable section
attribute [local instance] D.real
def pL (P : Program) : Prop := ∀ (f : Nat) (fn : Func), P.funcs[f]? = some fn → fn.body.isSome = true → (fn.name == "runtime.NumGoroutine") = false
section
variable {P : Program} {cfg : Cfg} {env : Env P} {w0 : cm} {w w' : World} {st st' : St} {g g' : aK} {born : Nat → Prop} {a : Act} {as acts : List Act} {o : Oper} {base : Nat}
theorem lT {c : Call} {x : Operand} {f : Nat} {first cap : Array Value} {fn : Func} (ho : o.op = .call c) (hc : c.callee = .value x) (hx : a.eval x = .func (.func f) first cap) (hfn : P.funcs[f]? = some fn) (hb : fn.body.isSome = true)
    (hN : (fn.name == "runtime.NumGoroutine") = false) : (execOp a.eval o).run P w = .ok (.enter f (first ++ c.args.map a.eval ++ cap)) w := by
  have hne : fn.name ≠ "runtime.NumGoroutine" := by simpa using hN
  have hbn : fn.body.isNone = false := by
    cases h : fn.body with
    | none => rw [h] at hb; cases hb
    | some c => rfl
  unfold execOp; rw [ho]
  simp only [resolve, hc, hx, Deferred.ofValue, invoke, callFunc, Sem.run_bind, run_program, Result.andThen_ok, Sem.run_pure, hfn, hN, hbn, Bool.false_eq_true, if_false]
theorem wR (rs : List au) (i : Nat) (x : au) : rs.length ≤ (setAt rs i x).length ∧ i < (setAt rs i x).length := by
  unfold setAt
  cases hb : Nat.blt i rs.length with
  | true => have := cD hb; simp; omega
  | false =>
    have hge : rs.length ≤ i := by
      rcases Nat.lt_or_ge i rs.length with h | h
      · rw [← Nat.blt_eq, hb] at h; cases h
      · exact h
    simp; omega
theorem iB : ∀ (l : List (Nat × au)) (st : St), st.rs.length ≤ (st.aP l).rs.length ∧ ∀ i ∈ l.map (·.1), i < (st.aP l).rs.length
  | [], st => ⟨Nat.le_refl _, fun i h => by simp at h⟩
  | (i, x) :: l, st => by
    obtain ⟨h1, h2⟩ := iB l (st.dB i x)
    obtain ⟨h3, h4⟩ := wR st.rs i x
    rw [gU]
    refine ⟨Nat.le_trans h3 h1, fun j hj => ?_⟩
    simp only [List.map_cons, List.mem_cons] at hj
    rcases hj with rfl | hj
    · exact Nat.lt_of_lt_of_le h4 h1
    · exact h2 j hj
theorem nw (st : St) (c : Option (Nat × Nat)) : (st.cut c).rs.length = st.rs.length := by
  cases c with
  | none => rfl
  | some c => show (st.rs.map _).length = _; simp
theorem eV (st : St) (d : Option Tmp) (v : AV) : (st.put d v).rs = st.rs := by
  unfold St.put
  split
  · rfl
  · split <;> rfl
theorem pC {get : Get} : ∀ {vs : List AV} {us : List Value}, ak get g vs us → ag get g (o9 vs) (pG us) ∧ ∀ r ∈ (o9 vs).roots, r ∈ AV.aj vs
  | [], us, h => by
    rw [ak] at h; subst h
    refine ⟨?_, fun r hr => by simp [o9, AV.roots, AV.aj] at hr⟩
    show ag get g (.tup []) (.tuple #[])
    rw [ag]; exact ⟨#[], rfl, by rw [ak]⟩
  | [v], us, h => by
    rw [ak] at h
    obtain ⟨u, us', rfl, h1, h2⟩ := h
    rw [ak] at h2; subst h2
    exact ⟨h1, fun r hr => by have hr : r ∈ v.roots := hr; simpa [AV.aj] using hr⟩
  | v :: v2 :: vs, us, h => by
    have h' := h
    rw [ak] at h
    obtain ⟨u, us', rfl, h1, h2⟩ := h
    rw [ak] at h2
    obtain ⟨u2, us2, rfl, _, _⟩ := h2
    refine ⟨?_, fun r hr => by simpa [o9, AV.roots] using hr⟩
    show ag get g (.tup (v :: v2 :: vs)) (.tuple (u :: u2 :: us2).toArray)
    rw [ag]; exact ⟨_, rfl, by simpa using h'⟩
theorem tD : ∀ (ts : List TypeId) (vs ws : List AV) (us : List Value) (st : St) (g : aK) (born : Nat → Prop) (base : Nat) (rs : List au), Rel w0 st g born acts w → ak st.get g vs us → (∀ r ∈ AV.aj vs, born r) → nf P ts vs base = (ws, rs) →
    (∀ i, base ≤ i → i < base + rs.length → ¬ born i) →
    ∃ g' born', Rel w0 (st.aP (ao base rs)) g' born' acts w ∧ Laid st (st.aP (ao base rs)) g g' born born' base (base + rs.length) ∧ ak (st.aP (ao base rs)).get g' ws us ∧ ∀ r ∈ AV.aj ws, born' r := by
  intro ts
  have triv : ∀ (vs ws : List AV) (us : List Value) (st : St) (g : aK) (born : Nat → Prop) (base : Nat) (rs : List au), Rel w0 st g born acts w → ak st.get g vs us → (∀ r ∈ AV.aj vs, born r) → (vs, ([] : List au)) = (ws, rs) →
      ∃ g' born', Rel w0 (st.aP (ao base rs)) g' born' acts w ∧ Laid st (st.aP (ao base rs)) g g' born born' base (base + rs.length) ∧ ak (st.aP (ao base rs)).get g' ws us ∧ ∀ r ∈ AV.aj ws, born' r := by
    intro vs ws us st g born base rs R hA hb h
    simp only [Prod.mk.injEq] at h
    obtain ⟨rfl, rfl⟩ := h
    exact ⟨g, born, R, Laid.refl _ _ _ _, hA, hb⟩
  induction ts with
  | nil => intro vs ws us st g born base rs R hA hb h _; exact triv vs ws us st g born base rs R hA hb h
  | cons t ts ih =>
    intro vs ws us st g born base rs R hA hb h hfr
    cases vs with
    | nil => exact triv [] ws us st g born base rs R hA hb h
    | cons v vs =>
      unfold nf at h
      generalize hf : kv P t v base = ff at h
      obtain ⟨v', rs1⟩ := ff
      simp only at h
      generalize hf2 : nf P ts vs (base + rs1.length) = f2 at h
      obtain ⟨vs', rs2⟩ := f2
      simp only [Prod.mk.injEq] at h
      obtain ⟨rfl, rfl⟩ := h
      rw [ak] at hA
      obtain ⟨u, us', rfl, hv, hA⟩ := hA
      obtain ⟨g1, b1, R1, L1, A1, B1⟩ := lK R hv (fun r hr => hb r (by simp only [AV.aj, List.mem_append]; exact .inl hr)) hf (fun i h1 h2 => hfr i h1 (by simp; omega))
      obtain ⟨g2, b2, R2, L2, A2, B2⟩ := ih vs vs' us' _ g1 b1 (base + rs1.length) rs2 R1 (cw _ _ (fun r hr => L1.holds (hb r (by simp only [AV.aj, List.mem_append]; exact .inr hr))) hA)
        (fun r hr => (L1.born_iff r).2 (.inl (hb r (by simp only [AV.aj, List.mem_append]; exact .inr hr)))) hf2
        (fun i h1 h2 hbi => ((L1.born_iff i).1 hbi).elim (hfr i (by omega) (by simp; omega)) fun h => by omega)
      have hset : st.aP (ao base (rs1 ++ rs2)) = (st.aP (ao base rs1)).aP (ao (base + rs1.length) rs2) := by
        rw [fy, iq]
      rw [hset]
      refine ⟨g2, b2, R2, ?_, ?_, fun r hr => ?_⟩
      · have := Laid.trans (by omega) (by omega) L1 L2
        rw [List.length_append, ← Nat.add_assoc]; exact this
      · rw [ak]
        exact ⟨u, us', rfl, eX _ _ (fun r hr => L2.holds (B1 r hr)) A1, A2⟩
      · simp only [AV.aj, List.mem_append] at hr
        rcases hr with hr | hr
        · exact (L2.born_iff r).2 (.inl (B1 r hr))
        · exact B2 r hr
theorem tu (f : Nat) (vs ws : List AV) (us : List Value) (st : St) (g : aK) (born : Nat → Prop) (base : Nat) (rs : List au) (R : Rel w0 st g born acts w) (hA : ak st.get g vs us) (hb : ∀ r ∈ AV.aj vs, born r)
    (h : nc P cfg f vs base = (ws, rs)) (hfr : ∀ i, base ≤ i → i < base + rs.length → ¬ born i) :
    ∃ g' born', Rel w0 (st.aP (ao base rs)) g' born' acts w ∧ Laid st (st.aP (ao base rs)) g g' born born' base (base + rs.length) ∧ ak (st.aP (ao base rs)).get g' ws us ∧ ∀ r ∈ AV.aj ws, born' r := by
  unfold nc at h
  cases hm : Nat.beq (cfg.mode f) 2 with
  | true =>
    rw [hm] at h
    simp only [cond_true, Prod.mk.injEq] at h
    obtain ⟨rfl, rfl⟩ := h
    exact ⟨g, born, R, Laid.refl _ _ _ _, hA, hb⟩
  | false =>
    rw [hm] at h
    exact tD _ vs ws us st g born base rs R hA hb h hfr
theorem get_append (fr : List (List AV)) : ∀ (l rs : List au) (r : Nat), (St.mk fr (rs ++ l)).get r = ((St.mk fr rs).aP (ao rs.length l)).get r
  | [], rs, r => by simp [ao]; rfl
  | x :: l, rs, r => by
    rw [ao, gU]
    have := get_append fr l (rs ++ [x]) r
    rw [List.append_assoc] at this
    rw [show x :: l = [x] ++ l from rfl, this]
    have e : (St.mk fr rs).dB rs.length x = St.mk fr (rs ++ [x]) := by
      show St.mk fr (setAt rs rs.length x) = _
      unfold setAt
      have : Nat.blt rs.length rs.length = false := by
        cases h : Nat.blt rs.length rs.length with
        | false => rfl
        | true => have := cD h; omega
      rw [this]; simp
    rw [e]; simp
theorem nT (R : Rel w0 st g born acts w) (hb : RowKit.Below w.heap.size w w') : Rel w0 st g born acts w' := by
  refine iU (fun _ => False) R (cr.uU hb R.below.size) rfl (fun r _ => ⟨fun t ht => ⟨ht, fun _ _ => rfl⟩, fun hv => ⟨hv, rfl⟩⟩) (fun r _ => ⟨rfl, rfl, fun b hbo => hb.block b (gO R hbo)⟩)
    (fun _ _ _ _ _ _ _ h => h) (fun r h => h.elim) (fun r _ _ h => h.elim) (fun r _ h => h.elim) (fun _ h => h) (fun r h => h.elim) (fun r h => h.elim)
theorem wx {Q : Exit → Act → World → Prop} {ops : Array Oper} {x y : Oper} (h0 : ops[0]? = some x) (h1 : ops[1]? = some y) (h2 : ops.size = 2) (gx : x.guard = none) (gy : y.guard = none) (a : Act) (w : World) {id : Nat}
    (h : x.wp P a w (fun a w => y.wp P a w (Q .normal) Q) Q) : (Code.region id ops false).wp P Q a w := by
  refine wp_region ?_
  rw [h2, show List.range 2 = [0, 1] from rfl, wpOps_cons]
  unfold wpOp
  rw [h0]
  have wnt : ∀ {o : Oper} {a : Act}, o.guard = none → Region.wanted o (yielded ops a.tmps) = true := fun h => by unfold Region.wanted; rw [h]
  simp only [wnt gx, if_true]
  refine .inl (Oper.wp_mono (fun a w h => ?_) h)
  rw [wpOps_cons]
  unfold wpOp
  rw [h1]
  simp only [wnt gy, if_true]
  exact .inl h
theorem vD {f f1 : Nat} {t : TypeId} {u v : Value} (hb : sT P f = some (f1, t)) (hbox : ∀ (o : Oper) (a : Act) (x : Operand), o.op = .box t x → a.eval x = u → (execOp a.eval o).run P w = .ok (.value v) w') :
    (∃ fn, P.funcs[f]? = some fn ∧ fn.body.isSome = true) ∧ Calls P f #[u] w fun e w2 => e = .returned (.func (.func f1) #[] #[v]) ∧ w2 = w' := by
  unfold sT at hb
  split at hb
  · cases hb
  next fn hfn =>
  split at hb
  rotate_left
  · cases hb
  next i1 oa i2 ob hbd =>
  split at hb
  rotate_left
  · cases hb
  next p t' q m f1' p' q' m' r h1 h2 h3 h4 hr =>
  generalize hc : (Nat.beq oa.size 2 && (Nat.beq ob.size 2 && (Nat.beq p p' && (Nat.beq m m' && (Nat.beq q' r && (!(Nat.beq q p) && (Nat.blt p fn.ntmps && (Nat.blt m fn.ntmps && Nat.blt r fn.ntmps)))))))) = b at hb
  cases b with
  | false => cases hb
  | true =>
  simp only [cond_true, Option.some.injEq, Prod.mk.injEq] at hb
  obtain ⟨rfl, rfl⟩ := hb
  simp only [Bool.and_eq_true, Bool.not_eq_true'] at hc
  obtain ⟨c1, c2, c3, c4, c5, c6, c7, c8, c9⟩ := hc
  have c1 := cW c1
  have c2 := cW c2
  have c3 := cW c3
  have c4 := cW c4
  have c5 := cW c5
  have c7 := cD c7
  have c8 := cD c8
  have c9 := cD c9
  have c6 : q ≠ p := fun e => by subst e; simp at c6
  subst c3; subst c4; subst c5
  obtain ⟨o0, g0, h1⟩ := Option.bind_eq_some_iff.1 h1
  obtain ⟨o1, g1, h2⟩ := Option.bind_eq_some_iff.1 h2
  obtain ⟨o2, g2, h3⟩ := Option.bind_eq_some_iff.1 h3
  obtain ⟨o3, g3, h4⟩ := Option.bind_eq_some_iff.1 h4
  have m0 : o0.op = .box t' (.tmp 0) ∧ o0.dst = some p ∧ o0.guard = none := by
    unfold y0 at h1
    split at h1
    · next e1 e2 e3 => injection h1 with h1; injection h1 with q1 q2; subst q1; subst q2; exact ⟨e1, e2, e3⟩
    · cases h1
  have m1 : ∃ cv, o1.op = .assign (.const cv) ∧ o1.dst = some q ∧ o1.guard = none := by
    unfold zr at h2
    split at h2
    · next e1 e2 e3 => injection h2 with h2; subst h2; exact ⟨_, e1, e2, e3⟩
    · cases h2
  have m2 : o2.op = .makeFunc (.func f1') #[] #[.tmp p] ∧ o2.dst = some m ∧ o2.guard = none := by
    unfold zn at h3
    split at h3
    · next f2 a b mm e1 e2 e3 =>
      split at h3
      · next pp ea eb =>
        injection h3 with h3; injection h3 with q1 q2; injection q2 with q2 q3; subst q1; subst q2; subst q3
        have ea : a = #[] := by simpa using ea
        have eb : b = #[.tmp pp] := by rw [← Array.toList_inj]; exact eb
        subst ea; subst eb
        exact ⟨e1, e2, e3⟩
      · cases h3
    · cases h3
  have m3 : o3.op = .assign (.tmp m) ∧ o3.dst = some q' ∧ o3.guard = none := by
    unfold zl at h4
    split at h4
    · next e1 e2 e3 => injection h4 with h4; injection h4 with q1 q2; subst q1; subst q2; exact ⟨e1, e2, e3⟩
    · cases h4
  have hr : fn.results = #[.tmp q'] := by
    unfold yX at hr
    split at hr
    · next rr e => injection hr with hr; subst hr; rw [← Array.toList_inj]; exact e
    · cases hr
  obtain ⟨cv, m1⟩ := m1
  refine ⟨⟨fn, hfn, by rw [hbd]; rfl⟩, calls_of_wp hfn hbd (wp_seq (wx g0 g1 c1 m0.2.2 m1.2.2 _ _ ?_))⟩
  have pg : ∀ {a : Act} {d : Nat} {v : Value}, d < a.tmps.size → (a.put (some d) v).tmps.getD d Go.undef = v := fun h => by simp [Act.put, h]
  have po : ∀ {a : Act} {d k : Nat} {v : Value}, d ≠ k → (a.put (some d) v).tmps.getD k Go.undef = a.tmps.getD k Go.undef := fun h => by
    simp only [Act.put, Array.getD_eq_getD_getElem?, Array.getElem?_setIfInBounds]; rw [if_neg h]
  have ps : ∀ {a : Act} {d : Nat} {v : Value}, (a.put (some d) v).tmps.size = a.tmps.size := by simp [Act.put]
  have hsz : fn.ntmps ≤ (#[u] ++ Array.replicate (fn.ntmps - (#[u] : Array Value).size) Go.undef).size := by simp; omega
  generalize htm : (#[u] ++ Array.replicate (fn.ntmps - (#[u] : Array Value).size) Go.undef) = tm at hsz ⊢
  have h0 : tm.getD 0 Go.undef = u := by rw [← htm]; simp [Array.getD_eq_getD_getElem?, Array.getElem?_append]
  unfold Oper.wp
  rw [hbox o0 { tmps := tm, defers := [] } (.tmp 0) m0.1 h0, Oper.upon_value, m0.2.1]
  have e1 : ∀ a : Act, (execOp a.eval o1).run P w' = .ok (.value cv) w' := fun a => by
    unfold execOp; rw [m1.1]
    have : a.eval (.const cv) = cv := rfl
    simp [this]
  rw [e1, Oper.upon_value, m1.2.1]
  refine wp_seq (wx g2 g3 c2 m2.2.2 m3.2.2 _ _ ?_)
  generalize ha2 : ((({ tmps := tm, defers := [] } : Act).put (some p) v).put (some q) cv) = a2
  have v2 : a2.tmps.getD p Go.undef = v := by rw [← ha2, po c6, pg (by show p < tm.size; omega)]
  have s2 : fn.ntmps ≤ a2.tmps.size := by rw [← ha2, ps, ps]; exact hsz
  have d2 : a2.defers = [] := by rw [← ha2]; rfl
  unfold Oper.wp
  have e2 : (execOp a2.eval o2).run P w' = .ok (.value (.func (.func f1') #[] #[v])) w' := by
    have : a2.eval (.tmp p) = v := v2
    unfold execOp; rw [m2.1]
    simp [Instr.makeFunc, this]
  rw [e2, Oper.upon_value, m2.2.1]
  generalize ha3 : a2.put (some m) (.func (.func f1') #[] #[v]) = a3
  have v3 : a3.tmps.getD m Go.undef = .func (.func f1') #[] #[v] := by rw [← ha3, pg (by omega)]
  have s3 : fn.ntmps ≤ a3.tmps.size := by rw [← ha3, ps]; exact s2
  have d3 : a3.defers = [] := by rw [← ha3]; exact d2
  have e3 : (execOp a3.eval o3).run P w' = .ok (.value (.func (.func f1') #[] #[v])) w' := by
    have : a3.eval (.tmp m) = .func (.func f1') #[] #[v] := v3
    unfold execOp; rw [m3.1]
    simp [this]
  rw [e3, Oper.upon_value, m3.2.1]
  refine wp_ret ⟨d3, .func (.func f1') #[] #[v], ?_, rfl, rfl⟩
  unfold results
  rw [hr]
  have : (a3.put (some q') (.func (.func f1') #[] #[v])).tmps.getD q' Go.undef = .func (.func f1') #[] #[v] := pg (by omega)
  simp at this
  simp [this]
theorem xe (hE : jg P env) (hN : pL P) {dr : Bool} {t : Touch} {Q : Exit → Act → World → Prop} {K : Act → World → Prop} (h : opK (R := Touch × St) P cfg env base dr o st (fun t st => some (t, st)) = some (t, st'))
    (R : Rel w0 st g born (a :: as) w) (hfr : ∀ i ∈ t.writes, base ≤ i → ¬ born i) (hlt : ∀ r, born r → r < st.rs.length)
    (hK : ∀ a' w' g' born', Rel w0 st' g' born' (a' :: as) w' → (∀ r, born' r → r < st'.rs.length) → (dr = true → ∀ r, born' r → born r ∨ r ∈ t.writes) → (∃ v, a' = a.put o.dst v) → K a' w') : o.wp P a w K Q := by
  have plain : ∀ (hcall : ∀ c, o.op = .call c → ∃ b, c.callee = .builtin b), ur (R := Touch × St) o (o.op.operands.toList.map (ar st)) (aR P o (o.op.operands.toList.map (ar st)) st.get base) st (fun t st => some (t, st)) = some (t, st') → o.wp P a w K Q := by
    intro hcall h
    rw [gA] at h
    split at h
    · next hok =>
      simp only [Option.some.injEq, Prod.mk.injEq] at h
      obtain ⟨rfl, rfl⟩ := h
      obtain ⟨hq, hok⟩ := ah.1 (iQ.1 hok)
      have hstep := yF hcall R hok (fun i h1 h2 => hfr i h2 h1) hq
      refine vq hstep fun v w' hd => ?_
      obtain ⟨g', b', R', hv, hr, hb1, hb2⟩ := hd
      have hlen : st.rs.length ≤ (rB o (aR P o (o.op.operands.toList.map (ar st)) st.get base) st).rs.length := by
        unfold rB
        rw [eV, nw]
        exact (iB (aR P o (o.op.operands.toList.map (ar st)) st.get base).upd st).1
      refine hK _ w' g' b' (hZ R' o.dst hv hr) (fun r hr => ?_) (fun _ r hr => hb1 r hr) ⟨_, rfl⟩
      rcases hb1 r hr with h | h
      · exact Nat.lt_of_lt_of_le (hlt r h) hlen
      · unfold rB
        rw [eV, nw]
        exact (iB (aR P o (o.op.operands.toList.map (ar st)) st.get base).upd st).2 r h
    · cases h
  unfold opK at h
  split at h
  · next c hop =>
    cases hbk : (fe P c).isSome with
    | true =>
      rw [hbk] at h
      simp only [cond_true] at h
      rw [gA] at h
      split at h
      rotate_left
      · cases h
      next hok =>
      simp only [Option.some.injEq, Prod.mk.injEq] at h
      obtain ⟨rfl, rfl⟩ := h
      obtain ⟨_, hok⟩ := ah.1 (iQ.1 hok)
      obtain ⟨⟨f1, t⟩, hbk⟩ := Option.isSome_iff_exists.1 hbk
      have hcal : ∃ f, c.callee = .value (.func f) ∧ sT P f = some (f1, t) := by
        have hbk' := hbk
        unfold fe at hbk'
        split at hbk'
        · next f hf => exact ⟨f, hf, hbk'⟩
        · cases hbk'
      obtain ⟨f, hcf, hbf⟩ := hcal
      have hops : o.op.operands.toList = .func f :: c.args.toList := by
        rw [hop]
        show c.operands.toList = _
        unfold Call.operands; rw [hcf]; simp
      have eo : aR P o (o.op.operands.toList.map (ar st)) st.get base = pw P c (o.op.operands.toList.map (ar st)) base := by
        unfold aR; rw [hop]
        simp only [hcf]
      have hop' := hop
      rw [eo] at hok hfr hK
      rw [hops, List.map_cons] at hok hfr hK
      generalize hout : pw P c (ar st (.func f) :: c.args.toList.map (ar st)) base = out at hok hfr hK
      unfold pw at hout
      rw [hbk] at hout
      split at hout
      rotate_left
      · subst hout; exact (aF hok).elim
      next f1' t' fv r p sub e1 e2 =>
      injection e1 with e1
      injection e1 with q1 q2
      subst q1; subst q2
      injection e2 with _ e2
      subst hout
      have hone : ∃ x, c.args = #[x] := by
        have h1 := congrArg List.length e2
        simp only [List.length_map, Array.length_toList, List.length_cons, List.length_nil] at h1
        exact ⟨c.args[0], by
          apply Array.ext
          · simpa using h1
          · intro i h2 h3
            have : i = 0 := by omega
            subst this; rfl⟩
      obtain ⟨x, hx⟩ := hone
      rw [hx] at e2
      have e2 : ar st x = .sl r p sub := by simpa using e2
      have hbox := uB (P := P) (o := { o with op := .box t x }) (base := base) (elem := t) (x := x) rfl R (v' := .sl r p sub) (rs := []) (by rw [e2]; rfl) (ah.2 ⟨rfl, sh⟩) (fun i h1 h2 => hfr i (by
        show i ∈ [base]
        simp only [ao, List.map_cons, List.map_nil] at h2
        exact h2) h1)
      obtain ⟨v, w1, hD, hrun⟩ := hbox
      have hbx : ∀ (o' : Oper) (a' : Act) (x' : Operand), o'.op = .box t x' → a'.eval x' = a.eval x → (execOp a'.eval o').run P w = .ok (.value v) w1 := by
        intro o' a' x' ho' hx'
        have e3 : ∀ (o : Oper) (a : Act) (x : Operand), o.op = .box t x → (execOp a.eval o).run P w = (do pure (.value (← Instr.box t (a.eval x))) : Sem Next).run P w := by
          intro o a x ho
          unfold execOp; rw [ho]
        rw [e3 _ _ _ ho', hx']
        rcases hrun with h | ⟨h, _⟩
        · rw [e3 _ _ x rfl] at h; exact h
        · rw [e3 _ _ x rfl] at h
          simp [Instr.box, newVar, newRow] at h
      obtain ⟨⟨fn, hfn, hbody⟩, hcalls⟩ := vD (u := a.eval x) hbf hbx
      unfold Oper.wp
      have hf0 : a.eval (.func f) = .func (.func f) #[] #[] := rfl
      rw [lT hop' hcf hf0 hfn hbody (hN f fn hfn hbody), Oper.upon_enter]
      have earg : (#[] ++ c.args.map a.eval ++ #[] : Array Value) = #[a.eval x] := by rw [hx]; simp
      rw [earg]
      refine Calls.mono hcalls fun e w2 he => ?_
      obtain ⟨rfl, rfl⟩ := he
      obtain ⟨g', b', R', hv, hr, hb1, hb2⟩ := hD
      have hlen : st.rs.length ≤ (st.aP [(base, .var [.sl r p sub])]).rs.length := (iB _ st).1
      refine hK _ w2 g' b' (hZ R' o.dst (av := .fn f1 [] [.pv base 0]) (by
          rw [ag]
          refine ⟨#[], #[v], rfl, by rw [ak], ?_⟩
          rw [ak]
          exact ⟨v, [], rfl, hv, rfl⟩) (fun k hk => hr k (by simpa [AV.roots, AV.aj] using hk))) (fun k hk => ?_) (fun _ k hk => hb1 k hk) ⟨_, rfl⟩
      show k < ((st.aP [(base, .var [.sl r p sub])]).put o.dst (.fn f1 [] [.pv base 0])).rs.length
      rw [eV]
      rcases hb1 k hk with h | h
      · exact Nat.lt_of_lt_of_le (hlt k h) hlen
      · exact (iB [(base, .var [.sl r p sub])] st).2 k h
    | false =>
    rw [hbk] at h
    simp only [cond_false] at h
    unfold nI at h
    split at h
    · next b hb => exact plain (fun c' hc' => by rw [hop] at hc'; injection hc' with hc'; subst hc'; exact ⟨b, hb⟩) h
    · cases h
    · next x hcx =>
      split at h
      · next f first cap hev =>
        obtain ⟨hx, hxb⟩ := bN R x
        rw [hev] at hx hxb
        rw [ag] at hx
        obtain ⟨vf, vc, hvx, hf1, hf2⟩ := hx
        obtain ⟨hA, hAb⟩ := lE R c.args.toList
        cases hm : Nat.beq (cfg.mode f) 0 with
        | true =>
          rw [hm] at h
          simp only [cond_true] at h
          split at h
          · rw [ak] at hf1 hf2
            have e1 : vf = #[] := by simpa using hf1
            have e2 : vc = #[] := by simpa using hf2
            subst e1; subst e2
            generalize hrd : fK st.get (fE P f) ((c.args.toList.map (ar st)).flatMap AV.cells) = rd at h
            obtain ⟨ok, d, rest⟩ := rd
            simp only [hO] at h
            split at h
            · next hok =>
              have h : (env.pc f d).bind _ = _ := h
              cases hpc : env.pc f d with
              | none => rw [hpc] at h; cases h
              | some y =>
                rw [hpc] at h
                simp only [Option.bind_some] at h
                generalize hla : eU P true (dj P f) y base = la at h
                obtain ⟨vs, rs⟩ := la
                simp only [St.force_eq, Option.some.injEq, Prod.mk.injEq] at h
                obtain ⟨rfl, rfl⟩ := h
                obtain ⟨hfit, hok⟩ := ah.1 (iQ.1 hok)
                obtain ⟨_, hok⟩ := ah.1 hok
                obtain ⟨hF, hC, hCb⟩ := kB (fb P f) _ _ hfit hA
                obtain ⟨⟨fn, hfn, hbody⟩, hval⟩ := hE.pc f d y hpc
                have hreads : j1 P w (fb P f) (#[] ++ c.args.map a.eval ++ #[]).toList d := by
                  have e : (#[] ++ c.args.map a.eval ++ #[]).toList = c.args.toList.map a.eval := by simp
                  rw [e]
                  obtain ⟨G, h, _⟩ := wG R.roots R.below hC (fE P f) 0 ok d rest hrd hok
                  exact ⟨hF, G, h⟩
                have hcalls := hval w _ hreads
                unfold Oper.wp
                rw [lT hop hcx hvx hfn hbody (hN f fn hfn hbody), Oper.upon_enter]
                refine Calls.mono hcalls fun e w' he => ?_
                obtain ⟨us, rfl, hbel, hFr, G, hrep, hsep, hblk⟩ := he
                have R1 := nT R hbel
                obtain ⟨g', b', R2, L, A, B, _⟩ := kI (acts := a :: as) true (dj P f) y us (cp us) st g born base 0 G vs rs R1 hFr (fun k _ => by rw [Nat.zero_add]) hrep (fun _ => hsep)
                  (fun _ b hb => ⟨R.fresh (hblk b hb), fun r ho => by have := gO R ho; have := hblk b hb; omega⟩) hla (fun i h1 h2 => hfr i ((bM _ _ _).2 ⟨h1, h2⟩) h1)
                obtain ⟨o1, o2⟩ := pC A
                have hlen := iB (ao base rs) st
                refine hK _ w' g' b' (hZ R2 o.dst o1 (fun r hr => (L.born_iff r).2 (.inr (B r (o2 r hr))))) (fun r hr => ?_) (fun _ r hr => ((L.born_iff r).1 hr).imp id fun h => (bM _ _ _).2 h) ⟨_, rfl⟩
                rw [eV]
                show r < (st.aP (ao base rs)).rs.length
                rcases (L.born_iff r).1 hr with h | h
                · have := hlt r h; omega
                · have := hlen.2 r ((bM _ _ _).2 h); omega
            · cases h
          · cases h
        | false =>
          rw [hm] at h
          simp only [cond_false] at h
          cases dr with
          | true =>
            simp only [cond_true] at h
            cases hm4 : Nat.beq (cfg.mode f) 4 with
            | false => rw [hm4] at h; cases h
            | true =>
            rw [hm4] at h
            simp only [cond_true] at h
            rw [kj] at h
            cases hin : ioD (R := List AV × List (Nat × au) × List Nat × List Nat) env f (first ++ c.args.toList.map (ar st) ++ cap) st base (fun a b c d => some (a, b, c, d)) with
            | none => rw [hin] at h; cases h
            | some p =>
              obtain ⟨vs', upd, rd, qu⟩ := p
              rw [hin] at h
              simp only [Option.bind_some, dL, St.force_eq, Option.some.injEq, Prod.mk.injEq] at h
              obtain ⟨rfl, rfl⟩ := h
              obtain ⟨⟨fn, hfn, hbody⟩, hval⟩ := zc hE hin
              have hall : ak st.get g (first ++ c.args.toList.map (ar st) ++ cap) (vf ++ c.args.map a.eval ++ vc).toList := by
                have e : (vf ++ c.args.map a.eval ++ vc).toList = vf.toList ++ c.args.toList.map a.eval ++ vc.toList := by simp
                rw [e]
                exact cF (cF hf1 hA) hf2
              have hallb : ∀ r ∈ AV.aj (first ++ c.args.toList.map (ar st) ++ cap), born r := by
                intro r hr
                rcases dI hr with hr | hr
                · rcases dI hr with hr | hr
                  · exact hxb r (by simp only [AV.roots, List.mem_append]; exact .inl hr)
                  · exact hAb r hr
                · exact hxb r (by simp only [AV.roots, List.mem_append]; exact .inr hr)
              have hcalls := hval w0 g born (a :: as) w _ R hlt hall hallb hfr
              unfold Oper.wp
              rw [lT hop hcx hvx hfn hbody (hN f fn hfn hbody), Oper.upon_enter]
              have e : (vf ++ c.args.map a.eval ++ vc).toList.toArray = vf ++ c.args.map a.eval ++ vc := by simp
              rw [e] at hcalls
              refine Calls.mono hcalls fun e w' he => ?_
              obtain ⟨us', g', b', rfl, R3, hb3, A3, B3⟩ := he
              obtain ⟨o1, o2⟩ := pC A3
              refine hK _ w' g' b' (hZ R3 o.dst o1 (fun r hr => B3 r (o2 r hr))) (fun r hr => ?_) (fun _ r hr => hb3 r hr) ⟨_, rfl⟩
              rw [eV]
              show r < (st.aP upd).rs.length
              rcases hb3 r hr with h | h
              · have := hlt r h
                exact Nat.lt_of_lt_of_le this (iB upd st).1
              · exact (iB upd st).2 r h
          | false =>
          simp only [cond_false] at h
          generalize hfa : nc P cfg f (first ++ c.args.toList.map (ar st) ++ cap) st.rs.length = fa at h
          obtain ⟨vs, rs⟩ := fa
          simp only at h
          rw [ov hE.det] at h
          cases hin : vx (R := List AV × St) P cfg env f vs { st with rs := st.rs ++ rs } (fun vs st => some (vs, st)) with
          | none => rw [hin] at h; cases h
          | some p =>
            obtain ⟨vs', st2⟩ := p
            rw [hin] at h
            simp only [Option.bind_some, St.force_eq, Option.some.injEq, Prod.mk.injEq] at h
            obtain ⟨rfl, rfl⟩ := h
            obtain ⟨⟨fn, hfn, hbody⟩, hval⟩ := yH hE hin
            have hall : ak st.get g (first ++ c.args.toList.map (ar st) ++ cap) (vf ++ c.args.map a.eval ++ vc).toList := by
              have e : (vf ++ c.args.map a.eval ++ vc).toList = vf.toList ++ c.args.toList.map a.eval ++ vc.toList := by simp
              rw [e]
              exact cF (cF hf1 hA) hf2
            have hallb : ∀ r ∈ AV.aj (first ++ c.args.toList.map (ar st) ++ cap), born r := by
              intro r hr
              rcases dI hr with hr | hr
              · rcases dI hr with hr | hr
                · exact hxb r (by simp only [AV.roots, List.mem_append]; exact .inl hr)
                · exact hAb r hr
              · exact hxb r (by simp only [AV.roots, List.mem_append]; exact .inr hr)
            obtain ⟨g1, b1, R1, L1, A1, B1⟩ := tu (P := P) (cfg := cfg) f _ vs _ st g born st.rs.length rs R hall hallb hfa
              (fun i h1 _ hb => by have := hlt i hb; omega)
            have hget : ∀ r, (St.mk st.fr (st.rs ++ rs)).get r = (st.aP (ao st.rs.length rs)).get r := fun r => get_append st.fr rs st.rs r
            have R2 : Rel w0 { st with rs := st.rs ++ rs } g1 b1 (a :: as) w := j3 R1 rfl hget
            have hcalls := hval w0 g1 b1 (a :: as) w _ R2 (fun r hr => by
                show r < (st.rs ++ rs).length
                rw [List.length_append]
                rcases (L1.born_iff r).1 hr with h | h
                · have := hlt r h; omega
                · omega) (by
                have e : (St.mk st.fr (st.rs ++ rs)).get = (st.aP (ao st.rs.length rs)).get := funext hget
                show ak (St.mk st.fr (st.rs ++ rs)).get g1 vs _
                rw [e]; exact A1) B1
            unfold Oper.wp
            rw [lT hop hcx hvx hfn hbody (hN f fn hfn hbody), Oper.upon_enter]
            have e : (vf ++ c.args.map a.eval ++ vc).toList.toArray = vf ++ c.args.map a.eval ++ vc := by simp
            rw [e] at hcalls
            refine Calls.mono hcalls fun e w' he => ?_
            obtain ⟨us', g', b', rfl, R3, hlt3, A3, B3⟩ := he
            obtain ⟨o1, o2⟩ := pC A3
            exact hK _ w' g' b' (hZ R3 o.dst o1 (fun r hr => B3 r (o2 r hr))) (fun r hr => by rw [eV]; exact hlt3 r hr) (fun h => by cases h) ⟨_, rfl⟩
      · cases h
  · next hno => exact plain (fun c hc => absurd hc (hno c)) h
abbrev rd (ro : Option Nat) : Fence := { fn := fun _ => True, depth := none, alive := false, round := ro }
theorem u0 {ro : Option Nat} {n : Nat} {f : FuncId} {args : Array Value} {R : Ending → World → Prop} (h : Calls P f args w R) : CallsIn (rd ro) n P f args w R := (callsIn_wide (n := n)).2 h
theorem ue {ro : Option Nat} {n : Nat} {f : FuncId} {args : Array Value} {R : Ending → World → Prop} (h : CallsIn (rd ro) n P f args w R) : Calls P f args w R := (callsIn_wide (n := n)).1 h
theorem wz {ro : Option Nat} {n : Nat} {row : String} {args : Array Value} {R : Value → World → Prop} (h : Rows P row args w R) : RowsIn (rd ro) n P row args w R :=
  fun c cs _ => let ⟨v, w', r, s⟩ := h c cs; ⟨v, w', r, stepsIn_wide.2 s⟩
theorem mJ {ro : Option Nat} {n : Nat} {Q : Exit → Act → World → Prop} {K : Act → World → Prop} (hd : ∀ c, o.op ≠ .defer c) (h : o.wp P a w K Q) : o.wpIn (rd ro) n P a w K Q := by
  refine ⟨fun _ _ => trivial, ?_⟩
  rw [Oper.semAt_eq _ _ _ hd]
  unfold Oper.wp at h
  generalize (execOp a.eval o).run P w = r at h ⊢
  cases r with
  | ok x w' =>
    cases x <;> simp only [Oper.upon, Oper.uponIn] at h ⊢ <;> first
      | exact h
      | exact ⟨fun h => by simp at h, u0 h⟩
      | exact ⟨fun h => by simp at h, wz h⟩
      | exact h.elim
  | halt x w' => cases x <;> simp only [Oper.upon, Oper.uponIn] at h ⊢ <;> exact h
theorem tB {R : Type} {dr : Bool} {K : Touch → St → Option R} {r0 : R} (h : opK P cfg env base dr o st K = some r0) : ∀ c, o.op ≠ .defer c := by
  intro c hc
  unfold opK at h
  rw [hc] at h
  simp only at h
  unfold aR at h
  rw [hc] at h
  cases h
end
end
end Go.Am
end
section
/- Soundness: operations in the text's order; the executor as a function. -/
namespace Go.Am
noncomputable section
attribute [local instance] D.real
section
variable {P : Program} {cfg : Cfg} {env : Env P} {w0 : cm} {w w' : World} {st st' : St} {g g' : aK} {born : Nat → Prop} {a : Act} {as acts : List Act} {o : Oper} {base : Nat}
theorem ym (a : Act) (d : Nat) : a.put (some d) (a.tmps.getD d Go.undef) = a := by
  show { a with tmps := a.tmps.setIfInBounds d (a.tmps.getD d Go.undef) } = a
  have : a.tmps.setIfInBounds d (a.tmps.getD d Go.undef) = a.tmps := by
    apply Array.ext_getElem?
    intro i
    rw [Array.getElem?_setIfInBounds]
    split
    · next e =>
      subst e
      split
      · next h => simp [h]
      · next h => rw [Array.getElem?_eq_none (by omega)]
    · rfl
  rw [this]
theorem ya {av : AV} {d : Nat} (R : Rel w0 st g born (a :: as) w) (hv : ag st.get g av (a.tmps.getD d Go.undef)) (hb : ∀ r ∈ av.roots, born r) : Rel w0 (st.put (some d) av) g born (a :: as) w := by
  have := hZ R (some d) hv hb
  rw [ym] at this
  exact this
theorem tS (R : Rel w0 st g born (a :: as) w) (d : Nat) : ag st.get g (st.top.getD d .undef) (a.tmps.getD d Go.undef) := (bN R (.tmp d)).1
theorem xg (R : Rel w0 st g born (a :: as) w) (ops : Array Oper) (i : Nat) (o : Oper) : Rel w0 (iI ops i o st) g born (a :: as) w ∧ (iI ops i o st).rs = st.rs := by
  unfold iI
  generalize o.dst = dd
  cases dd with
  | none => exact ⟨R, rfl⟩
  | some d =>
    have h := tS R d
    simp only
    generalize st.top.getD d .undef = v at h
    cases v with
    | bool b =>
      rw [ag] at h
      simp only
      cases kA ops i with
      | true => simp only [cond_true]; exact ⟨ya R (by rw [ag]; exact h) (fun r hr => by simp [AV.roots] at hr), eV _ _ _⟩
      | false => exact ⟨R, rfl⟩
    | _ => exact ⟨R, rfl⟩
theorem vA {ops : Array Oper} {j d : Nat} {b : Bool} (hd : (ops[j]?).bind (·.dst) = some d) (h : a.tmps.getD d Go.undef = .bool b) : yielded ops a.tmps j = some b := by
  unfold yielded
  rw [hd]
  simp only [Option.bind_some]
  have : a.tmps[d]? = some (.bool b) := by
    rw [Array.getD_eq_getD_getElem?] at h
    cases hx : a.tmps[d]? with
    | none => rw [hx] at h; cases h
    | some x => rw [hx] at h; exact congrArg some h
  rw [this]
theorem ux {ops : Array Oper} {j d : Nat} {l : Array Value} (hd : (ops[j]?).bind (·.dst) = some d) (h : a.tmps.getD d Go.undef = .tuple l) : yielded ops a.tmps j = none := by
  unfold yielded
  rw [hd]
  simp only [Option.bind_some]
  split
  · next b hb =>
    rw [Array.getD_eq_getD_getElem?, hb] at h; cases h
  · rfl
theorem lq (hE : jg P env) (hN : pL P) {ro : Option Nat} {n : Nat} {b0 : Option Nat} {ops : Array Oper} {i : Nat} {t : Touch} {Q : Exit → Act → World → Prop} {K : Act → World → Prop} (h : gL (R := Touch × St) P cfg env b0 ops i st (fun t st => some (t, st)) = some (t, st'))
    (R : Rel w0 st g born (a :: as) w) (hfr : ∀ j ∈ t.writes, ky b0 i st ≤ j → ¬ born j) (hlt : ∀ r, born r → r < st.rs.length)
    (hK : ∀ a' w' g' born', Rel w0 st' g' born' (a' :: as) w' → (∀ r, born' r → r < st'.rs.length) → (b0.isSome = true → ∀ r, born' r → born r ∨ r ∈ t.writes) → (∃ v, a' = a.put ((ops[i]?).bind (·.dst)) v) → K a' w') : wpOpIn (rd ro) n P ops Q i K a w := by
  unfold gL at h
  split at h
  · cases h
  next o hoi =>
  have run : Region.wanted o (yielded ops a.tmps) = true → opK (R := Touch × St) P cfg env (ky b0 i st) b0.isSome o st (fun t st => fG ops i o st fun st => some (t, st)) = some (t, st') → wpOpIn (rd ro) n P ops Q i K a w := by
    intro hw h
    rw [jV hE.det] at h
    cases hop : opK (R := Touch × St) P cfg env (ky b0 i st) b0.isSome o st (fun t st => some (t, st)) with
    | none => rw [hop] at h; cases h
    | some p =>
      obtain ⟨t2, st2⟩ := p
      rw [hop] at h
      simp only [Option.bind_some, j7, Option.some.injEq, Prod.mk.injEq] at h
      obtain ⟨rfl, rfl⟩ := h
      unfold wpOpIn
      rw [hoi]
      simp only [hw, if_true]
      refine mJ (tB hop) (xe hE hN hop R hfr hlt fun a' w' g' b' R' h1 h2 h3 => ?_)
      obtain ⟨s1, s2⟩ := xg R' ops i o
      exact hK a' w' g' b' s1 (fun r hr => by rw [s2]; exact h1 r hr) h2 (by rw [hoi]; exact h3)
  have skip : Region.wanted o (yielded ops a.tmps) = false → some (ep, st.put o.dst (.tup [])) = some (t, st') → wpOpIn (rd ro) n P ops Q i K a w := by
    intro hw h
    simp only [Option.some.injEq, Prod.mk.injEq] at h
    obtain ⟨rfl, rfl⟩ := h
    unfold wpOpIn
    rw [hoi]
    simp only [hw, Bool.false_eq_true, if_false]
    exact ⟨fun _ _ => trivial, hK _ w g born (hZ R o.dst (iW _ _) (fun r hr => by simp [AV.roots, AV.aj] at hr)) (fun r hr => by rw [eV]; exact hlt r hr) (fun _ r hr => .inl hr) ⟨_, by rw [hoi]; rfl⟩⟩
  split at h
  · next hg => exact run (by unfold Region.wanted; rw [hg]) h
  · next j want hg =>
    split at h
    · cases h
    · next d hd =>
      have hs := tS R d
      split at h
      · next b hb =>
        rw [hb, ag] at hs
        have hy := vA (ops := ops) hd hs
        cases hbw : b == want with
        | true =>
          rw [hbw] at h
          exact run (by unfold Region.wanted; rw [hg]; simp only [hy]; have := eq_of_beq hbw; subst this; simp) h
        | false =>
          rw [hbw] at h
          simp only [cond_false, St.force_eq] at h
          exact skip (by unfold Region.wanted; rw [hg]; simp only [hy]; simpa using hbw) h
      · next l hb =>
        rw [hb, ag] at hs
        obtain ⟨vs, hs, _⟩ := hs
        have hy := ux (ops := ops) hd hs
        simp only [St.force_eq] at h
        exact skip (by unfold Region.wanted; rw [hg]; simp only [hy]; rfl) h
      · cases h
theorem mz (hE : jg P env) (hN : pL P) {ro : Option Nat} {n : Nat} {ops : Array Oper} {Q : Exit → Act → World → Prop} {R0 : Type} {r0 : R0} {Kc : List (Nat × Touch) → St → Option R0} :
    ∀ (l : List Nat) (tr : List (Nat × Touch)) (st : St) (g : aK) (born : Nat → Prop) (a : Act) (w : World), dX P cfg env none ops l tr st Kc = some r0 → Rel w0 st g born (a :: as) w → (∀ r, born r → r < st.rs.length) →
      (∀ tr' st' a' w' g' born', Kc tr' st' = some r0 → Rel w0 st' g' born' (a' :: as) w' → (∀ r, born' r → r < st'.rs.length) → Q .normal a' w') → wpOpsIn (rd ro) n P ops Q l a w
  | [], tr, st, g, born, a, w, h, R, hlt, hK => hK tr st a w g born h R hlt
  | i :: l, tr, st, g, born, a, w, h, R, hlt, hK => by
    have h : gL P cfg env none ops i st (fun t st => dX P cfg env none ops l ((i, ep) :: tr) st Kc) = some r0 := h
    rw [jx hE.det] at h
    cases hs : gL (R := Touch × St) P cfg env none ops i st (fun t st => some (t, st)) with
    | none => rw [hs] at h; cases h
    | some p =>
      obtain ⟨t, st2⟩ := p
      rw [hs] at h
      simp only [Option.bind_some] at h
      rw [wpOpsIn_cons]
      exact lq hE hN hs R (fun j _ h1 hb => by have := hlt j hb; have h1 : st.rs.length ≤ j := h1; omega) hlt fun a' w' g' b' R' h1 _ _ =>
        mz hE hN l _ st2 g' b' a' w' h R' h1 hK
theorem dz (hE : fU P env) {b0 : Option Nat} {ops : Array Oper} {R : Type} : ∀ (l : List Nat) (tr : List (Nat × Touch)) (st : St) (K : List (Nat × Touch) → St → Option R),
    dX P cfg env b0 ops l tr st K = (dX (R := List (Nat × Touch) × St) P cfg env b0 ops l tr st fun tr st => some (tr, st)).bind fun p => K p.1 p.2
  | [], tr, st, K => rfl
  | i :: l, tr, st, K => by
    show gL P cfg env b0 ops i st (fun t st => dX P cfg env b0 ops l ((i, bif b0.isSome then t else ep) :: tr) st K) = (gL P cfg env b0 ops i st (fun t st => dX (R := List (Nat × Touch) × St) P cfg env b0 ops l ((i, bif b0.isSome then t else ep) :: tr) st fun tr st => some (tr, st))).bind fun p => K p.1 p.2
    have h1 := jx (cfg := cfg) hE b0 ops i st (fun t st => dX P cfg env b0 ops l ((i, bif b0.isSome then t else ep) :: tr) st K)
    have h2 := jx (R := List (Nat × Touch) × St) (cfg := cfg) hE b0 ops i st (fun t st => dX (R := List (Nat × Touch) × St) P cfg env b0 ops l ((i, bif b0.isSome then t else ep) :: tr) st fun tr st => some (tr, st))
    rw [h1, h2, Option.bind_assoc]
    congr 1
    funext p
    exact dz hE l _ _ K
def jc : cx (Ex × St) := fun e st => some (e, st)
theorem gC {R : Type} (h : Option (List Nat)) (F : St → Option R) (st : St) : eW h F st = F (match h with
    | some live => st.canon live
    | none => st) := by
  unfold eW
  split
  · rw [St.force_eq]; rfl
  · rfl
theorem si {R : Type} {F : {R : Type} → St → cx R → Option R} (hF : ∀ (R : Type) (st : St) (K : cx R), F st K = (F st jc).bind fun p => K p.1 p.2) (K : cx R) (e : Ex) (st : St) :
    mO (fun st K => F st K) K e st = (mO (fun st K => F st K) jc e st).bind fun p => K p.1 p.2 := by
  cases e with
  | normal => exact hF R st K
  | exit i => rfl
  | ret => rfl
theorem pU {F : {R : Type} → St → cx R → Option R} (hF : ∀ (R : Type) (st : St) (K : cx R), F st K = (F st jc).bind fun p => K p.1 p.2) (h : Option (List Nat)) :
    ∀ (n : Nat) (R : Type) (st : St) (K : cx R), gK (fun st K => F st K) h n st K = (gK (fun st K => F st K) h n st jc).bind fun p => K p.1 p.2
  | 0, _, _, _ => rfl
  | n + 1, R, st, K => by
    show F st (mO (fun st' K => eW h (fun st'' => gK (fun st K => F st K) h n st'' K) st') K) = (F st (mO (fun st' K => eW h (fun st'' => gK (fun st K => F st K) h n st'' K) st') jc)).bind fun p => K p.1 p.2
    rw [hF, hF (Ex × St) st (mO _ jc), Option.bind_assoc]
    congr 1
    funext p
    exact si (F := fun {R} st' K => eW h (fun st'' => gK (fun st K => F st K) h n st'' K) st') (fun R st K => by
      simp only [gC]
      exact pU hF h n R _ K) K p.1 p.2
theorem tZ {R : Type} (id : Nat) (K : cx R) (e : Ex) (st : St) : bO id K e st = (bO id jc e st).bind fun p => K p.1 p.2 := by
  cases e with
  | normal => rfl
  | exit i =>
    show (bif Nat.beq i id then K .normal st else K (.exit i) st) = (bif Nat.beq i id then jc .normal st else jc (.exit i) st).bind fun p => K p.1 p.2
    cases Nat.beq i id <;> rfl
  | ret => rfl
def KXp : cx ((Ex × St) ⊕ (Ex × St)) := fun e st => some (.inl (e, st))
def KYp : cx ((Ex × St) ⊕ (Ex × St)) := fun e st => some (.inr (e, st))
def ql {R : Type} (KX K : cx R) : (Ex × St) ⊕ (Ex × St) → Option R
  | .inl p => KX p.1 p.2
  | .inr p => K p.1 p.2
def wu (hand : {R : Type} → cx R → List AV → St → (St → Option R) → Option R) : Prop :=
  ∀ (R : Type) (KX : cx R) (vs : List AV) (st : St) (Kgo : St → Option R), hand KX vs st Kgo = (hand KXp vs st fun s => some (.inr (.normal, s))).bind (ql KX fun _ s => Kgo s)
theorem vH {FA FB : {R : Type} → St → cx R → Option R} (hA : ∀ (R : Type) (st : St) (K : cx R), FA st K = (FA st jc).bind fun p => K p.1 p.2)
    (hB : ∀ (R : Type) (st : St) (K : cx R), FB st K = (FB st jc).bind fun p => K p.1 p.2) (ps : Array Tmp) : wu fun {R} KX vs st Kgo => np (R := R) (fun st K => FA st K) (fun st K => FB st K) ps KX vs st Kgo := by
  intro R KX vs st Kgo
  show np _ _ ps KX vs st Kgo = (np _ _ ps KXp vs st _).bind _
  unfold np
  generalize st.fr = fr
  cases fr with
  | nil => rfl
  | cons it l =>
  cases l with
  | nil => rfl
  | cons top rest =>
    simp only
    cases Nat.beq vs.length ps.size with
    | false => rfl
    | true =>
      simp only [cond_true, St.force_eq]
      rw [hA R, hA ((Ex × St) ⊕ (Ex × St)), Option.bind_assoc]
      congr 1
      funext p
      obtain ⟨e, s⟩ := p
      cases e with
      | normal =>
        show FB s (yg Kgo KX) = (FB s (yg (fun s => some (.inr (.normal, s))) KXp)).bind _
        rw [hB R, hB ((Ex × St) ⊕ (Ex × St)), Option.bind_assoc]
        congr 1
        funext q
        obtain ⟨e, s⟩ := q
        cases e <;> rfl
      | exit i => rfl
      | ret => rfl
theorem oQ {R : Type} {F : {R : Type} → cx R → St → cx R → Option R} (KX : cx R) (hF : ∀ (st : St) (K : cx R), F KX st K = (F KXp st KYp).bind (ql KX K))
    (hF' : ∀ (st : St) (K : cx ((Ex × St) ⊕ (Ex × St))), F KXp st K = (F KXp st KYp).bind (ql KXp K)) (h : Option (List Nat)) :
    ∀ (n : Nat) (st : St) (K : cx R), gK (fun st K => F KX st K) h n st K = (gK (fun st K => F KXp st K) h n st KYp).bind (ql KX K)
  | 0, _, _ => rfl
  | n + 1, st, K => by
    show F KX st (mO (fun st' K => eW h (fun st'' => gK (fun st K => F KX st K) h n st'' K) st') K) = (F KXp st (mO (fun st' K => eW h (fun st'' => gK (fun st K => F KXp st K) h n st'' K) st') KYp)).bind (ql KX K)
    rw [hF, hF' st (mO _ KYp), Option.bind_assoc]
    congr 1
    funext p
    cases p with
    | inl p => rfl
    | inr p =>
      obtain ⟨e, s⟩ := p
      cases e with
      | normal =>
        show eW h _ s = (eW h _ s).bind _
        rw [gC, gC]
        exact oQ KX hF hF' h n _ K
      | exit i => rfl
      | ret => rfl
theorem qL (hE : fU P env) {hand : {R : Type} → cx R → List AV → St → (St → Option R) → Option R} (hh : wu hand) (N kl fid : Nat) : ∀ (c : Code) (R : Type) (KX : cx R) (st : St) (K : cx R),
    dY P cfg env (hand KX) N kl fid c st K = (dY P cfg env (hand KXp) N kl fid c st KYp).bind (ql KX K) := by
  intro c
  induction c with
  | skip => intro R KX st K; rfl
  | region id ops draw =>
    intro R KX st K
    unfold dY
    cases (!draw && ops.toList.all fun o => !(qS o 0)) with
    | false => rfl
    | true =>
      simp only [cond_true]
      rw [dz hE, dz (R := (Ex × St) ⊕ (Ex × St)) hE, Option.bind_assoc]
      rfl
  | seq x y ihx ihy =>
    intro R KX st K
    unfold dY
    split
    · next u _ =>
      obtain ⟨ops, t, args, v, d⟩ := u
      simp only [v8, St.force_eq]
      cases (Nat.blt t N && (Nat.blt v N && Nat.blt d N)) with
      | false => rfl
      | true =>
      simp only [cond_true]
      rw [dz hE, dz (R := (Ex × St) ⊕ (Ex × St)) hE, Option.bind_assoc]
      congr 1
      funext p
      refine (hh R KX _ _ _).trans (Eq.trans ?_ (congrArg (fun x => x.bind (ql KX K)) (hh ((Ex × St) ⊕ (Ex × St)) KXp _ _ _)).symm)
      rw [Option.bind_assoc]
      congr 1
      funext q
      cases q with
      | inl q => rfl
      | inr q => rfl
    · rw [ihx R, ihx ((Ex × St) ⊕ (Ex × St)) KXp st (mO _ KYp), Option.bind_assoc]
      congr 1
      funext p
      cases p with
      | inl p => rfl
      | inr p =>
        obtain ⟨e, s⟩ := p
        cases e with
        | normal =>
          show eW _ _ s = (eW _ _ s).bind _
          rw [gC, gC]
          exact ihy R KX _ K
        | exit i => rfl
        | ret => rfl
  | cond x c d ihc ihd =>
    intro R KX st K
    unfold dY
    generalize ar st x = v
    cases v <;> try rfl
    next b =>
      show (if b = true then _ else _) = (if b = true then _ else _ : Option ((Ex × St) ⊕ (Ex × St))).bind _
      cases b
      · exact ihd R KX st K
      · exact ihc R KX st K
    next b =>
      cases b
      · exact ihd R KX st K
      · exact ihc R KX st K
  | block id c ih =>
    intro R KX st K
    unfold dY
    rw [ih R, ih ((Ex × St) ⊕ (Ex × St)) KXp st (bO id KYp), Option.bind_assoc]
    congr 1
    funext p
    cases p with
    | inl p => rfl
    | inr p =>
      obtain ⟨e, s⟩ := p
      cases e with
      | normal => rfl
      | exit i =>
        show (bif Nat.beq i id then K .normal s else K (.exit i) s) = (bif Nat.beq i id then KYp .normal s else KYp (.exit i) s).bind _
        cases Nat.beq i id <;> rfl
      | ret => rfl
  | loop c ih =>
    intro R KX st K
    unfold dY
    simp only [gC]
    exact oQ (F := fun {R} KX st K => dY P cfg env (hand KX) N kl fid c st K) KX (ih R KX) (ih _ KXp) (cfg.loops fid (key c)) kl _ K
  | exit id => intro R KX st K; rfl
  | ret => intro R KX st K; rfl
  | rangeFunc f ps x y _ _ => intro R KX st K; rfl
  | scope c _ => intro R KX st K; rfl
  | label l => intro R KX st K; rfl
  | goto l => intro R KX st K; rfl
  | refuse s => intro R KX st K; rfl
theorem rN (hE : fU P env) (kl fid : Nat) (hm : Nat.beq (cfg.mode fid) 0 = false) : ∀ (c : Code) (R : Type) (st : St) (K : cx R), exec P cfg env kl fid c st K = (exec P cfg env kl fid c st jc).bind fun p => K p.1 p.2 := by
  intro c
  induction c with
  | skip => intro R st K; rfl
  | region id ops draw =>
    intro R st K
    unfold exec
    cases draw with
    | true =>
      simp only [cond_true, fB, dL]
      rw [dz hE, dz (R := Ex × St) hE, Option.bind_assoc]
      congr 1
      funext p
      cases (jE ops (Region.before ops).toList p.1 && (pq st.rs.length (Region.before ops).toList p.1 && lW ops)) <;> rfl
    | false =>
      simp only [cond_false]
      rw [dz hE, dz (R := Ex × St) hE, Option.bind_assoc]
      rfl
  | seq x y ihx ihy =>
    intro R st K
    unfold exec
    rw [ihx R, ihx (Ex × St) st (mO _ jc), Option.bind_assoc]
    congr 1
    funext p
    exact si (F := fun {R} st K => eW (cfg.joins fid (key y)) (fun st => exec P cfg env kl fid y st K) st) (fun R st K => by
      simp only [gC]
      exact ihy R _ K) K p.1 p.2
  | cond x c d ihc ihd =>
    intro R st K
    unfold exec
    generalize ar st x = v
    cases v <;> try rfl
    next b =>
      show (if b = true then _ else _) = (if b = true then _ else _ : Option (Ex × St)).bind _
      cases b
      · exact ihd R st K
      · exact ihc R st K
    next b =>
      cases b
      · exact ihd R st K
      · exact ihc R st K
    next n =>
      show (bif Nat.beq (cfg.mode fid) 0 then _ else _) = (bif Nat.beq (cfg.mode fid) 0 then _ else _ : Option (Ex × St)).bind _
      rw [hm]; rfl
  | block id c ih =>
    intro R st K
    unfold exec
    rw [ih R, ih (Ex × St) st (bO id jc), Option.bind_assoc]
    congr 1
    funext p
    exact tZ id K p.1 p.2
  | loop c ih =>
    intro R st K
    unfold exec
    simp only [gC]
    exact pU (F := fun {R} st K => exec P cfg env kl fid c st K) ih (cfg.loops fid (key c)) kl R _ K
  | exit id => intro R st K; rfl
  | ret => intro R st K; rfl
  | rangeFunc h ps x y ihx ihy =>
    intro R st K
    unfold exec
    cases (cM x && cM y) with
    | false => rfl
    | true =>
      simp only [cond_true]
      split
      · next f cap _ =>
        split
        · rfl
        · next fn _ =>
          split
          · rfl
          · next c _ =>
            cases fn.results.isEmpty with
            | false => rfl
            | true =>
            simp only [St.force_eq, cond_true]
            have hh := vH (FA := fun {R} st K => exec P cfg env kl fid x st K) (FB := fun {R} st K => exec P cfg env kl fid y st K) ihx ihy ps
            rw [qL hE (hand := fun {R} KX vs st Kgo => np (R := R) (fun st K => exec P cfg env kl fid x st K) (fun st K => exec P cfg env kl fid y st K) ps KX vs st Kgo) hh fn.ntmps kl f c R K,
              qL hE (hand := fun {R} KX vs st Kgo => np (R := R) (fun st K => exec P cfg env kl fid x st K) (fun st K => exec P cfg env kl fid y st K) ps KX vs st Kgo) hh fn.ntmps kl f c (Ex × St) jc, Option.bind_assoc]
            congr 1
            funext p
            cases p with
            | inl p => rfl
            | inr p =>
              obtain ⟨e, s⟩ := p
              cases e <;> rfl
      · rfl
  | scope c _ => intro R st K; rfl
  | label l => intro R st K; rfl
  | goto l => intro R st K; rfl
  | refuse s => intro R st K; rfl
end
end
end Go.Am
end
section
/- Soundness of regions whose order is open, first part: what an operation's answer hangs on. -/
namespace Go.Am
noncomputable section
attribute [local instance] D.real
section
variable {P : Program} {get get' : Get}
def cN (get get' : Get) (l : List Nat) : Prop := ∀ r ∈ l, get r = get' r
theorem cN.cons {v : AV} {vs : List AV} (h : cN get get' (AV.aj (v :: vs))) : cN get get' v.roots ∧ cN get get' (AV.aj vs) :=
  ⟨fun r hr => h r (by simp only [AV.aj, List.mem_append]; exact .inl hr), fun r hr => h r (by simp only [AV.aj, List.mem_append]; exact .inr hr)⟩
theorem mo {r : Nat} {p : Path} (h : get r = get' r) : sliceAt get r p = sliceAt get' r p := by unfold sliceAt; rw [h]
theorem gk : ∀ (t : Ty) (vs : List AV), cN get get' (AV.aj vs) → bJ get t vs = bJ get' t vs ∧ ∀ r ∈ AV.aj (bJ get t vs).2.2, r ∈ AV.aj vs := by
  have tail : ∀ (v : AV) (vs : List AV) (r : Nat), r ∈ AV.aj vs → r ∈ AV.aj (v :: vs) := fun v vs r h => by simp only [AV.aj, List.mem_append]; exact .inr h
  intro t
  induction t with
  | int k =>
    intro vs h
    unfold bJ
    split
    · exact ⟨rfl, fun r hr => tail _ _ r hr⟩
    · exact ⟨rfl, fun r hr => by simp [AV.aj] at hr⟩
  | bool =>
    intro vs h
    unfold bJ
    split
    · exact ⟨rfl, fun r hr => tail _ _ r hr⟩
    · exact ⟨rfl, fun r hr => tail _ _ r hr⟩
    · exact ⟨rfl, fun r hr => by simp [AV.aj] at hr⟩
  | str =>
    intro vs h
    unfold bJ
    split
    · exact ⟨rfl, fun r hr => tail _ _ r hr⟩
    · exact ⟨rfl, fun r hr => by simp [AV.aj] at hr⟩
  | unit => intro vs h; exact ⟨rfl, fun r hr => hr⟩
  | sl e ih =>
    intro vs h
    unfold bJ
    split
    · exact ⟨rfl, fun r hr => tail _ _ r hr⟩
    · next r p sub vs =>
      have e1 : sliceAt get r p = sliceAt get' r p := mo (h r (by simp [AV.aj, AV.roots]))
      rw [e1]
      refine ⟨rfl, fun x hx => ?_⟩
      generalize sliceAt get' r p = s at hx
      obtain ⟨ok, e', ys⟩ := s
      simp only at hx
      split at hx
      · exact tail _ _ x hx
      · simp [AV.aj] at hx
    · exact ⟨rfl, fun r hr => by simp [AV.aj] at hr⟩
  | pair a b iha ihb =>
    intro vs h
    obtain ⟨h1, h2⟩ := iha vs h
    unfold bJ
    rw [← h1]
    generalize bJ get a vs = ra at h2
    obtain ⟨ok, x, rest⟩ := ra
    simp only at h2 ⊢
    obtain ⟨h3, h4⟩ := ihb rest (fun r hr => h r (h2 r hr))
    rw [← h3]
    generalize bJ get b rest = rb at h4
    obtain ⟨ok', y, rest'⟩ := rb
    simp only at h4 ⊢
    exact ⟨trivial, fun r hr => h2 r (h4 r hr)⟩
theorem kT (e : Ty) : ∀ (n : Nat) (vs : List AV), cN get get' (AV.aj vs) → fN (bJ get e) n vs = fN (bJ get' e) n vs
  | 0, _, _ => rfl
  | n + 1, vs, h => by
    obtain ⟨h1, h2⟩ := gk e vs h
    unfold fN
    rw [← h1]
    generalize bJ get e vs = ra at h2
    obtain ⟨ok, x, rest⟩ := ra
    simp only at h2 ⊢
    rw [kT e n rest (fun r hr => h r (h2 r hr))]
theorem xi : ∀ (t : Ty) (vs : List AV), ∀ v ∈ (bJ get t vs).2.2, v ∈ vs := by
  intro t
  induction t with
  | int k => intro vs v h; unfold bJ at h; split at h <;> simp_all
  | bool => intro vs v h; unfold bJ at h; split at h <;> simp_all
  | str => intro vs v h; unfold bJ at h; split at h <;> simp_all
  | unit => intro vs v h; exact h
  | sl e ih =>
    intro vs v h
    unfold bJ at h
    split at h
    · exact List.mem_cons_of_mem _ h
    · next r p sub vs =>
      generalize sliceAt get r p = s at h
      obtain ⟨ok, e', ys⟩ := s
      simp only at h
      split at h
      · exact List.mem_cons_of_mem _ h
      · simp at h
    · simp at h
  | pair a b iha ihb =>
    intro vs v h
    unfold bJ at h
    have h1 := iha vs
    generalize bJ get a vs = ra at h h1
    obtain ⟨ok, x, rest⟩ := ra
    simp only at h h1
    have h2 := ihb rest
    generalize bJ get b rest = rb at h h2
    obtain ⟨ok', y, rest'⟩ := rb
    exact h1 v (h2 v h)
theorem sQ {vs : List AV} {r n : Nat} {cs : List AV} {x : Nat} (h : AV.lit r n ∈ vs) (hg : get r = .var cs) (hx : x ∈ AV.aj cs) : x ∈ gu get vs := by
  unfold gu
  rw [List.mem_flatMap]
  exact ⟨_, h, by simp only [ni, hg]; exact hx⟩
theorem lH : ∀ {vs : List AV}, cN get get' (AV.aj vs) → gu get vs = gu get' vs
  | [], _ => rfl
  | v :: vs, h => by
    obtain ⟨h1, h2⟩ := h.cons
    have e : ni get v = ni get' v := by
      cases v <;> try rfl
      next r n => unfold ni; simp only [h1 r (by simp [AV.roots])]
    have ih := lH h2
    unfold gu at ih ⊢
    rw [List.flatMap_cons, List.flatMap_cons, e, ih]
theorem uG : ∀ (t : Ty) (vs : List AV), cN get get' (AV.aj vs) → (∀ r n cs, AV.lit r n ∈ vs → get r = .var cs → cN get get' (AV.aj cs)) →
    fK get t vs = fK get' t vs ∧ (∀ r ∈ AV.aj (fK get t vs).2.2, r ∈ AV.aj vs) ∧ ∀ v ∈ (fK get t vs).2.2, v ∈ vs := by
  intro t
  have plain : ∀ (t : Ty) (vs : List AV), cN get get' (AV.aj vs) → bJ get t vs = bJ get' t vs ∧ (∀ r ∈ AV.aj (bJ get t vs).2.2, r ∈ AV.aj vs) ∧ ∀ v ∈ (bJ get t vs).2.2, v ∈ vs :=
    fun t vs h => ⟨(gk t vs h).1, (gk t vs h).2, xi t vs⟩
  induction t with
  | int k => intro vs h _; exact plain _ vs h
  | bool => intro vs h _; exact plain _ vs h
  | str => intro vs h _; exact plain _ vs h
  | unit => intro vs h _; exact plain _ vs h
  | sl e ih =>
    intro vs h hv
    unfold fK
    split
    · next r n vs' =>
      have e1 : get r = get' r := h r (by simp [AV.aj, AV.roots])
      rw [← e1]
      cases hg : get r with
      | var cs =>
        simp only
        rw [kT e n cs (hv r n cs (List.mem_cons_self) hg)]
        exact ⟨rfl, fun x hx => by simp only [AV.aj, List.mem_append]; exact .inr hx, fun v h => List.mem_cons_of_mem _ h⟩
      | _ => exact ⟨rfl, fun x hx => by simp [AV.aj] at hx, fun v h => by simp at h⟩
    · exact plain _ _ h
  | pair a b iha ihb =>
    intro vs h hv
    obtain ⟨h1, h2, h5⟩ := iha vs h hv
    unfold fK
    rw [← h1]
    generalize fK get a vs = ra at h2 h5
    obtain ⟨ok, x, rest⟩ := ra
    simp only at h2 h5 ⊢
    obtain ⟨h3, h4, h6⟩ := ihb rest (fun r hr => h r (h2 r hr)) (fun r n cs hm => hv r n cs (h5 _ hm))
    rw [← h3]
    generalize fK get b rest = rb at h4 h6
    obtain ⟨ok', y, rest'⟩ := rb
    simp only at h4 h6 ⊢
    exact ⟨trivial, fun r hr => h2 r (h4 r hr), fun v hv => h5 v (h6 v hv)⟩
theorem oZ : ∀ (t : Ty) (vs : List AV), cN get get' (AV.aj vs) → gives get t vs = gives get' t vs ∧ ∀ r ∈ AV.aj (gives get t vs).2.2, r ∈ AV.aj vs := by
  have tl : ∀ (vs : List AV) (r : Nat), r ∈ AV.aj vs.tail → r ∈ AV.aj vs := by
    intro vs r h
    cases vs with
    | nil => exact h
    | cons v vs => simp only [AV.aj, List.mem_append]; exact .inr h
  intro t
  induction t with
  | int k => intro vs h; exact ⟨rfl, fun r hr => tl vs r hr⟩
  | bool => intro vs h; exact ⟨rfl, fun r hr => tl vs r hr⟩
  | str => intro vs h; exact ⟨rfl, fun r hr => tl vs r hr⟩
  | unit => intro vs h; exact ⟨rfl, fun r hr => hr⟩
  | sl e ih =>
    intro vs h
    unfold gives
    split
    · next vs => exact ⟨rfl, fun r hr => by simp only [AV.aj, List.mem_append]; exact .inr hr⟩
    · next r p x vs =>
      have e1 : get r = get' r := h r (by simp [AV.aj, AV.roots])
      rw [e1]
      refine ⟨rfl, fun y hy => ?_⟩
      generalize get' r = s at hy
      split at hy
      · simp only [AV.aj, List.mem_append]; exact .inr hy
      · simp [AV.aj] at hy
    · exact ⟨rfl, fun r hr => by simp [AV.aj] at hr⟩
  | pair a b iha ihb =>
    intro vs h
    obtain ⟨h1, h2⟩ := iha vs h
    unfold gives
    rw [← h1]
    generalize gives get a vs = ra at h2
    obtain ⟨ok, x, rest⟩ := ra
    simp only at h2 ⊢
    obtain ⟨h3, h4⟩ := ihb rest (fun r hr => h r (h2 r hr))
    rw [← h3]
    generalize gives get b rest = rb at h4
    obtain ⟨ok', y, rest'⟩ := rb
    simp only at h4 ⊢
    exact ⟨trivial, fun r hr => h2 r (h4 r hr)⟩
theorem lB (v : AV) (r : Nat) (h : r ∈ AV.aj v.cells) : r ∈ v.roots := by
  cases v <;> simpa [AV.cells, AV.aj, AV.roots] using h
theorem mA (t : Ty) : ∀ (vs : List AV), cN get get' (AV.aj vs) → readAll get t vs = readAll get' t vs
  | [], _ => rfl
  | v :: vs, h => by
    obtain ⟨h1, h2⟩ := h.cons
    unfold readAll
    rw [(gk t v.cells (fun r hr => h1 r (lB v r hr))).1, mA t vs h2]
theorem kU (t : Ty) : ∀ (vs : List AV), cN get get' (AV.aj vs) → fP get t vs = fP get' t vs
  | [], _ => rfl
  | v :: vs, h => by
    obtain ⟨h1, h2⟩ := h.cons
    unfold fP
    rw [(oZ t v.cells (fun r hr => h1 r (lB v r hr))).1, kU t vs h2]
theorem rz {t : TypeId} {v : AV} (h : cN get get' v.roots) : dF P t v get = dF P t v get' := by
  cases v <;> try rfl
  next r c => unfold dF; simp only [h r (by simp [AV.roots])]
  next r p i f => unfold dF; simp only [h r (by simp [AV.roots])]
theorem sw {s d : TypeId} {v : AV} (h : cN get get' v.roots) : lf P s d v get = lf P s d v get' := by
  have e := (gk (get := get) (get' := get') (.sl (.int .u8)) [v] (fun r hr => h r (by simpa [AV.aj] using hr))).1
  unfold lf
  split
  · rfl
  · rfl
  · simp only [e]
  · rfl
theorem qq {v : AV} {r : Nat} {p : Path} {i f : Nat} {t : Ty} {xs : List (den t)} {e : Ty} {chk : List Tst} (h : cN get get' v.roots) : lC v r p i f t xs e chk get = lC v r p i f t xs e chk get' := by
  cases v <;> try rfl
  next r2 q sub => unfold lC; simp only [h r2 (by simp [AV.roots])]
theorem pd {v : AV} {r : Nat} {p : Path} {i f : Nat} {t : Ty} {xs : List (den t)} (h : cN get get' v.roots) : gd v r p i f t xs get = gd v r p i f t xs get' := by
  unfold gd
  simp only [qq h]
theorem qw {t : TypeId} {a v : AV} {base : Nat} (ha : cN get get' a.roots) (h : cN get get' v.roots) : fk P t a v get base = fk P t a v get' base := by
  cases a <;> try rfl
  next r c => unfold fk; simp only [ha r (by simp [AV.roots])]
  next r p i f => unfold fk; simp only [ha r (by simp [AV.roots]), pd h]
theorem ug {e : Ty} {x : AV} (h : cN get get' x.roots) : qi e x get = qi e x get' := by
  have h1 : cN get get' (AV.aj [x]) := fun r hr => h r (by simpa [AV.aj] using hr)
  have e1 := (gk (.sl e) [x] h1).1
  have e2 := (oZ (.sl e) [x] h1).1
  cases x <;> first | rfl | (unfold qi; simp only [e1, e2])
theorem qz {e : Ty} {s : AV} {ok : List Tst} {zs : List (den e)} {l : List Nat} {base : Nat} (h : cN get get' s.roots) : kY e s ok zs l get base = kY e s ok zs l get' base := by
  cases s <;> try rfl
  next r p sub => unfold kY; simp only [h r (by simp [AV.roots])]
theorem o7 {t : TypeId} {s x : AV} {base : Nat} (hs : cN get get' s.roots) (hx : cN get get' x.roots) : dA P t s x get base = dA P t s x get' base := by
  unfold dA
  simp only [ug hx, qz hs]
theorem pQ {t : TypeId} {x : AV} {lo hi : Option AV} (h : cN get get' x.roots) : iw P t x lo hi get = iw P t x lo hi get' := by
  cases x <;> try rfl
  next r p sub => unfold iw; simp only [h r (by simp [AV.roots])]
theorem pb {t : TypeId} {x : AV} {base : Nat} (h : cN get get' x.roots) : fA P t x get base = fA P t x get' base := by
  cases x <;> try rfl
  next r p sub => unfold fA; simp only [h r (by simp [AV.roots])]
theorem pX {t : TypeId} {lo : Option Operand} {avs : List AV} {base : Nat} (h : cN get get' (AV.aj avs)) : js P t lo avs get base = js P t lo avs get' base := by
  unfold js
  split
  · next x kh hh kc cc =>
    have hx := h.cons.1
    unfold gR
    split
    · next r p sub => simp only [hx r (by simp [AV.roots])]
    · rfl
  · rfl
theorem tj {t : TypeId} {x : AV} (h : cN get get' x.roots) : kH P t x get = kH P t x get' := by
  cases x <;> try rfl
  next r p sub => unfold kH; simp only [h r (by simp [AV.roots])]
theorem sJ {t : TypeId} {op : BinOp} {x y : AV} (h : cN get get' x.roots) : n8 P t op x y get = n8 P t op x y get' := by
  unfold n8
  split
  · rw [h _ (by simp [AV.roots])]
  · rfl
theorem mW {t : TypeId} {x i : AV} (h : cN get get' x.roots) : dK P t x i get = dK P t x i get' := by
  cases x <;> try rfl
  next r p sub => unfold dK; simp only [h r (by simp [AV.roots])]
theorem mh {t : TypeId} {n : Nat} {ps : List (Nat × AV)} {base : Nat} (h : cN get get' (AV.aj (ps.map (·.2)))) : cX P t n ps get base = cX P t n ps get' base := by
  unfold cX
  simp only [mA _ _ h, kU _ _ h]
theorem uo {avs : List AV} (h : cN get get' (AV.aj avs)) : cN get get' (avs.headD .undef).roots := by
  cases avs with
  | nil => intro r hr; simp [AV.roots] at hr
  | cons v vs => exact h.cons.1
theorem mu : ∀ (ks : List Nat) (avs : List AV), cN get get' (AV.aj avs) → cN get get' (AV.aj ((ks.zip avs).map (·.2)))
  | [], _, _ => by intro r hr; simp [AV.aj] at hr
  | _ :: _, [], _ => by intro r hr; simp [AV.aj] at hr
  | k :: ks, v :: vs, h => by
    obtain ⟨h1, h2⟩ := h.cons
    have := mu ks vs h2
    intro r hr
    simp only [List.zip_cons_cons, List.map_cons, AV.aj, List.mem_append] at hr
    exact hr.elim (h1 r) (this r)
theorem uE (o : Oper) (avs : List AV) (base : Nat) (h : cN get get' (AV.aj avs)) : aR P o avs get base = aR P o avs get' base := by
  have hh := uo h
  unfold aR
  split <;> try rfl
  · exact mh (mu _ _ h)
  · exact rz hh
  · split
    · obtain ⟨h1, h2⟩ := h.cons
      exact qw h1 h2.cons.1
    · rfl
  · split
    · exact sJ h.cons.1
    · rfl
  · exact sw hh
  · split
    · exact pQ hh
    · simp only [pb hh, pX h]
  · split
    · exact mW h.cons.1
    · rfl
  · split
    · split
      · exact tj hh
      · rfl
    · rfl
    · split
      · have h1 := h.cons.1
        have h2 := h.cons.2.cons.1
        simp only [o7 h1 h2]
      · rfl
    · rfl
    · rfl
    · rfl
    · rfl
end
end
end Go.Am
end
section
/- Soundness of regions whose order is open, second part: operations whose order is open may change places. -/
namespace Go.Am
noncomputable section
attribute [local instance] D.real
def Eqv (s s' : St) : Prop := s.fr = s'.fr ∧ (∀ r, s.get r = s'.get r) ∧ s.rs.length = s'.rs.length
theorem Eqv.refl (s : St) : Eqv s s := ⟨rfl, fun _ => rfl, rfl⟩
theorem Eqv.trans {s t u : St} (h : Eqv s t) (k : Eqv t u) : Eqv s u := ⟨h.1.trans k.1, fun r => (h.2.1 r).trans (k.2.1 r), h.2.2.trans k.2.2⟩
def sY : List (Nat × au) → Nat
  | [] => 0
  | x :: l => max (x.1 + 1) (sY l)
theorem fT : ∀ (l : List (Nat × au)) (rs : List au), (eH rs l).length = max rs.length (sY l)
  | [], rs => by simp [eH, sY]
  | (i, x) :: l, rs => by
    show (eH (setAt rs i x) l).length = max rs.length (max (i + 1) (sY l))
    rw [fT l]
    have : (setAt rs i x).length = max rs.length (i + 1) := by
      unfold setAt
      cases hb : Nat.blt i rs.length with
      | true => have := cD hb; simp; omega
      | false =>
        have hge : rs.length ≤ i := by
          rcases Nat.lt_or_ge i rs.length with h | h
          · rw [← Nat.blt_eq, hb] at h; cases h
          · exact h
        simp; omega
    omega
theorem lF : ∀ (rs : List au) (r : Nat) (ex : Option Nat) (j0 : Nat), kG r ex j0 rs = true ↔ ∀ j r' p t xs, rs.getD j .dead = .pend r' p t xs → r' = r → ex = some (j0 + j)
  | [], r, ex, j0 => ⟨fun _ j r' p t xs e => by simp at e, fun _ => rfl⟩
  | x :: rs, r, ex, j0 => by
    refine ⟨fun h j r' p t xs e er => lJ (x :: rs) r ex j0 h j r' p t xs e er, fun h => ?_⟩
    unfold kG
    rw [Bool.and_eq_true]
    refine ⟨?_, (lF rs r ex (j0 + 1)).2 fun j r' p t xs e er => ?_⟩
    · cases x with
      | pend r' p t xs =>
        simp only [Bool.or_eq_true, Bool.not_eq_true', decide_eq_true_eq]
        by_cases e : r' = r
        · exact .inr (by simpa using h 0 r' p t xs rfl e)
        · left
          cases hb : Nat.beq r' r with
          | false => rfl
          | true => exact absurd (cW hb) e
      | _ => rfl
    · have := h (j + 1) r' p t xs (by simpa using e) er
      rw [this]; congr 1; omega
theorem jq {s s' : St} {q : List (Nat × Option Nat)} (h : cg s.rs q = true) (hp : ∀ j r p t xs, s'.get j = .pend r p t xs → r ∈ q.map (·.1) → s.get j = s'.get j) : cg s'.rs q = true := by
  unfold cg at h ⊢
  rw [List.all_eq_true] at h ⊢
  intro x hx
  have h1 := (lF s.rs x.1 x.2 0).1 (h x hx)
  refine (lF s'.rs x.1 x.2 0).2 fun j r' p t xs e er => ?_
  have e2 := hp j r' p t xs e (by rw [er]; exact List.mem_map.2 ⟨x, hx, rfl⟩)
  have e : s'.get j = .pend r' p t xs := e
  rw [e] at e2
  exact h1 j r' p t xs e2 er
theorem mI : ∀ (l : List (Nat × au)) (f : Get) (r : Nat), dt l f r = f r ∧ r ∉ l.map (·.1) ∨ ∃ x, (r, x) ∈ l ∧ dt l f r = x
  | [], f, r => .inl ⟨rfl, by simp⟩
  | (i, x) :: l, f, r => by
    rcases mI l (fun r => if r = i then x else f r) r with ⟨h1, h2⟩ | ⟨y, h1, h2⟩
    · by_cases e : r = i
      · subst e
        exact .inr ⟨x, List.mem_cons_self, by show dt l _ r = x; rw [h1]; simp⟩
      · refine .inl ⟨?_, by simp [e]; simpa using h2⟩
        show dt l _ r = f r
        rw [h1]; simp [e]
    · exact .inr ⟨y, List.mem_cons_of_mem _ h1, h2⟩
section
variable {P : Program} {cfg : Cfg} {env : Env P} {w0 : cm} {w w' : World} {st st' : St}
def yC (ops : Array Oper) (i : Nat) : AV → AV
  | .bool b => bif kA ops i then .kb b else .bool b
  | v => v
theorem yE (s : St) (d : Option Tmp) (v u : AV) : (s.put d v).put d u = s.put d u := by
  unfold St.put
  cases d with
  | none => rfl
  | some d =>
    obtain ⟨fr, rs⟩ := s
    cases fr with
    | nil => rfl
    | cons f fs => simp
theorem sj (ops : Array Oper) (i : Nat) (o : Oper) (s : St) (v : AV) : iI ops i o (s.put o.dst v) = s.put o.dst (yC ops i v) := by
  unfold iI
  generalize o.dst = dd
  cases dd with
  | none => rfl
  | some d =>
    simp only
    obtain ⟨fr, rs⟩ := s
    cases fr with
    | nil =>
      have e1 : ∀ u, (St.mk [] rs).put (some d) u = St.mk [] rs := fun u => rfl
      rw [e1, e1]; rfl
    | cons f fs =>
      have e1 : ∀ u, (St.mk (f :: fs) rs).put (some d) u = St.mk (f.set d u :: fs) rs := fun u => rfl
      rw [e1 v]
      have e2 : (St.mk (f.set d v :: fs) rs).top.getD d .undef = if d < f.length then v else .undef := by
        show (f.set d v).getD d .undef = _
        rw [List.getD_eq_getElem?_getD, List.getElem?_set]
        by_cases h : d < f.length <;> simp [h]
      rw [e2]
      by_cases h : d < f.length
      · rw [if_pos h]
        cases v with
        | bool b =>
          unfold yC
          cases kA ops i with
          | true => simp only [cond_true]; rw [← e1 (.bool b), yE]
          | false => simp only [cond_false]; rw [← e1]
        | _ => unfold yC; simp only; rw [← e1]
      · rw [if_neg h]
        have : ∀ u, f.set d u = f := fun u => List.set_eq_of_length_le (Nat.le_of_not_lt h)
        simp only [e1, this]
structure Local (P : Program) (cfg : Cfg) (env : Env P) (b : Nat) (ops : Array Oper) (i : Nat) (o : Oper) (st : St) (t : Touch) (upd : List (Nat × au)) (v : AV) : Prop where
  keys : t.writes = upd.map (·.1)
  waits : ∀ k x, (k, x) ∈ upd → ∀ r, (r ∈ x.waits ∨ r ∈ (st.get k).waits) → r ∈ t.quiet
  again : ∀ s : St, (∀ d ∈ o.looksAt ops, s.top.getD d .undef = st.top.getD d .undef) → (∀ r ∈ t.reads, s.get r = st.get r) → (∀ r ∈ t.writes, s.get r = st.get r) →
    (∀ j r p ty xs, s.get j = .pend r p ty xs → r ∈ t.quiet → st.get j = s.get j) →
    gL (R := Touch × St) P cfg env (some b) ops i s (fun t st => some (t, st)) = some (t, (s.aP upd).put o.dst v)
theorem nE {s : St} {o : Oper} {ops : Array Oper} (h : ∀ d ∈ o.looksAt ops, s.top.getD d .undef = st.top.getD d .undef) : ∀ x ∈ o.op.operands.toList, ar s x = ar st x := by
  intro x hx
  cases x with
  | tmp t => exact h t (List.mem_append_left _ (List.mem_filterMap.2 ⟨.tmp t, hx, rfl⟩))
  | _ => rfl
theorem yo {s : St} {o : Oper} {ops : Array Oper} (h : ∀ d ∈ o.looksAt ops, s.top.getD d .undef = st.top.getD d .undef) : o.op.operands.toList.map (ar s) = o.op.operands.toList.map (ar st) :=
  List.map_congr_left (nE h)
theorem fx {s : St} {upd : List (Nat × au)} (h : ∀ r ∈ upd.map (·.1), s.get r = st.get r) : gw s upd = gw st upd := by
  unfold gw
  have : ∀ l : List (Nat × au), (∀ r ∈ l.map (·.1), s.get r = st.get r) → l.flatMap (fun x => (s.get x.1).waits ++ x.2.waits) = l.flatMap (fun x => (st.get x.1).waits ++ x.2.waits) := by
    intro l
    induction l with
    | nil => intro _; rfl
    | cons x l ih =>
      intro h
      rw [List.flatMap_cons, List.flatMap_cons, h x.1 (by simp), ih (fun r hr => h r (by simp only [List.map_cons, List.mem_cons]; exact .inr hr))]
  exact this upd h
theorem eO {get get' : Get} {r : Nat} (h : get r = get' r) : aY get r = aY get' r := by unfold aY; rw [h]
theorem mR : ∀ (l seen : List Nat) (r : Nat), r ∈ seen → r ∈ jl seen l
  | [], _, _, h => h
  | x :: xs, seen, r, h => by
    unfold jl
    cases seen.contains x with
    | true => exact mR xs seen r h
    | false => exact mR xs _ r (List.mem_append.2 (.inl h))
theorem oJ (get : Get) : ∀ (n : Nat) (seen : List Nat) (r : Nat), r ∈ seen → r ∈ jL get n seen
  | 0, _, _, h => h
  | n + 1, _, r, h => oJ get n _ r (mR _ _ r h)
theorem iM {α β : Type} {f f' : α → List β} : ∀ (l : List α), (∀ r ∈ l, f r = f' r) → l.flatMap f = l.flatMap f'
  | [], _ => rfl
  | x :: l, h => by
    rw [List.flatMap_cons, List.flatMap_cons, h x List.mem_cons_self, iM l fun r hr => h r (List.mem_cons_of_mem _ hr)]
theorem my {get get' : Get} : ∀ (n : Nat) (seen : List Nat), (∀ r ∈ jL get n seen, get r = get' r) → jL get' n seen = jL get n seen
  | 0, _, _ => rfl
  | n + 1, seen, h => by
    have e : (seen.flatMap fun r => AV.oL (aY get' r)) = seen.flatMap fun r => AV.oL (aY get r) :=
      iM seen fun r hr => by rw [eO (h r (oJ get (n + 1) seen r hr))]
    show jL get' n (jl seen _) = jL get n (jl seen _)
    rw [e]
    exact my n _ h
mutual
theorem tJ {get get' : Get} (L : List Nat) : ∀ (v : AV) (b : Nat), cN get get' v.roots → cj get L v b = cj get' L v b
  | .int _ _, _, _ => rfl
  | .bool _, _, _ => rfl
  | .kb _, _, _ => rfl
  | .nb _, _, _ => rfl
  | .str _, _, _ => rfl
  | .nilS, _, _ => rfl
  | .undef, _, _ => rfl
  | .tup _, _, _ => rfl
  | .pe _ _ _ _, _, _ => rfl
  | .pv _ _, _, _ => rfl
  | .lit _ _, _, _ => rfl
  | .sl r p sub, b, h => by
    unfold cj
    rw [mo (h r (by simp [AV.roots]))]
  | .fn f x y, b, h => by
    unfold cj
    rw [gW L x b fun r hr => h r (by simp only [AV.roots, List.mem_append]; exact .inl hr)]
    generalize ef get' L x b = q
    obtain ⟨ok, x', rx⟩ := q
    simp only
    rw [gW L y (b + rx.length) fun r hr => h r (by simp only [AV.roots, List.mem_append]; exact .inr hr)]
  | .agg cs, b, h => by
    unfold cj
    rw [gW L cs b fun r hr => h r (by simpa only [AV.roots] using hr)]
theorem gW {get get' : Get} (L : List Nat) : ∀ (vs : List AV) (b : Nat), cN get get' (AV.aj vs) → ef get L vs b = ef get' L vs b
  | [], _, _ => rfl
  | v :: vs, b, h => by
    unfold ef
    rw [tJ L v b h.cons.1]
    generalize cj get' L v b = q
    obtain ⟨ok, v', r⟩ := q
    simp only
    rw [gW L vs (b + r.length) h.cons.2]
end
theorem mC {get get' getK getK' : Get} (L : List Nat) : ∀ (V : List Nat) (b : Nat), (∀ r ∈ V, get r = get' r) → (∀ r ∈ V, cN getK getK' (AV.aj (aY get r))) → eE get getK L V b = eE get' getK' L V b
  | [], _, _, _ => rfl
  | r :: V, b, h, k => by
    unfold eE
    have h0 := h r List.mem_cons_self
    rw [gW L _ b (k r List.mem_cons_self), eO h0]
    generalize ef getK' L (aY get' r) b = q
    obtain ⟨ok, cs, rs⟩ := q
    simp only
    rw [mC L V (b + rs.length) (fun r hr => h r (List.mem_cons_of_mem _ hr)) fun r hr => k r (List.mem_cons_of_mem _ hr), h0]
theorem ml {get get' : Get} : ∀ (V : List Nat) (cs : List AV), (∀ r ∈ V, get r = get' r) → ij get V cs = ij get' V cs
  | [], _, _ => rfl
  | r :: V, cs, h => by
    unfold ij
    rw [eO (h r List.mem_cons_self), ml V _ fun r hr => h r (List.mem_cons_of_mem _ hr)]
theorem rY {f : Nat} {vs vs' : List AV} {s : St} {base : Nat} {upd : List (Nat × au)} {rd qu : List Nat}
    (h : ioD (R := List AV × List (Nat × au) × List Nat × List Nat) env f vs st base (fun a b c d => some (a, b, c, d)) = some (vs', upd, rd, qu))
    (h2 : ∀ r ∈ rd, s.get r = st.get r) (h4 : ∀ j r p ty xs, s.get j = .pend r p ty xs → r ∈ qu → st.get j = s.get j) :
    ioD (R := List AV × List (Nat × au) × List Nat × List Nat) env f vs s base (fun a b c d => some (a, b, c, d)) = some (vs', upd, rd, qu) := by
  have h0 := h
  unfold ioD at h
  simp only [dL] at h
  generalize hlv : qU st.get vs = lv at h
  generalize hs : kP ⟨lv, [], []⟩ st vs = sS at h
  obtain ⟨ok, stS⟩ := sS
  simp only [St.force_eq, gm] at h
  obtain ⟨hok, hb⟩ := jY h
  have hb : Option.bind (lk env f lv.length 0 (b7.all ⟨lv, [], []⟩).length (stS.rs.map au.strip) stS) _ = _ := hb
  have hrq : rd = AV.aj vs ++ (lv ++ AV.aj (lv.flatMap (aY st.get))) ∧ qu = lv := by
    cases hr : lk env f lv.length 0 (b7.all ⟨lv, [], []⟩).length (stS.rs.map au.strip) stS with
    | none => rw [hr] at hb; cases hb
    | some yx =>
      rw [hr] at hb
      simp only [Option.bind_some, Option.some.injEq, Prod.mk.injEq] at hb
      exact ⟨hb.2.2.1.symm, hb.2.2.2.symm⟩
  obtain ⟨hrd, hqu⟩ := hrq
  have a1 : ∀ r ∈ AV.aj vs, st.get r = s.get r := fun r hr => (h2 r (by rw [hrd]; exact List.mem_append.2 (.inl hr))).symm
  have a2 : ∀ r ∈ lv, st.get r = s.get r := fun r hr => (h2 r (by rw [hrd]; exact List.mem_append.2 (.inr (List.mem_append.2 (.inl hr))))).symm
  have a3 : ∀ r ∈ AV.aj (lv.flatMap (aY st.get)), st.get r = s.get r := fun r hr => (h2 r (by rw [hrd]; exact List.mem_append.2 (.inr (List.mem_append.2 (.inr hr))))).symm
  have elv : qU s.get vs = lv := by
    rw [← hlv]
    unfold qU
    exact my 4 _ fun r hr => a2 r (by rw [← hlv]; exact hr)
  have rootsL_flat : ∀ (l : List Nat) (r : Nat), r ∈ l → ∀ x ∈ AV.aj (aY st.get r), x ∈ AV.aj (l.flatMap (aY st.get)) := by
    have app : ∀ (a b : List AV), AV.aj (a ++ b) = AV.aj a ++ AV.aj b := by
      intro a b
      induction a with
      | nil => rfl
      | cons v a ih => simp only [List.cons_append, AV.aj, ih, List.append_assoc]
    intro l
    induction l with
    | nil => intro r hr; cases hr
    | cons y l ih =>
      intro r hr x hx
      rw [List.flatMap_cons, app, List.mem_append]
      rcases List.mem_cons.1 hr with rfl | hr
      · exact .inl hx
      · exact .inr (ih r hr x hx)
  have eK : ∀ r, st.get r = s.get r → (bif (b7.all ⟨lv, [], []⟩).contains r then au.dead else st.get r) = (bif (b7.all ⟨lv, [], []⟩).contains r then au.dead else s.get r) := fun r e => by rw [e]
  have esub : kP ⟨lv, [], []⟩ s vs = kP ⟨lv, [], []⟩ st vs := by
    unfold kP
    rw [← gW (get := fun r => bif (b7.all ⟨lv, [], []⟩).contains r then au.dead else st.get r) (get' := fun r => bif (b7.all ⟨lv, [], []⟩).contains r then au.dead else s.get r) (b7.all ⟨lv, [], []⟩) vs _ fun r hr => eK r (a1 r hr)]
    generalize ef _ _ vs _ = q
    obtain ⟨okA, vsS, roA⟩ := q
    simp only
    rw [← mC (get := st.get) (get' := s.get) (getK := fun r => bif (b7.all ⟨lv, [], []⟩).contains r then au.dead else st.get r) (getK' := fun r => bif (b7.all ⟨lv, [], []⟩).contains r then au.dead else s.get r) (b7.all ⟨lv, [], []⟩) lv _ a2 fun r hr x hx => eK x (a3 x (rootsL_flat lv r hr x hx))]
    generalize eE _ _ _ lv _ = q
    obtain ⟨okV, vrs, roV⟩ := q
    rfl
  have eupd : ∀ rs0 cells, rj ⟨lv, [], []⟩ s rs0 cells = rj ⟨lv, [], []⟩ st rs0 cells := fun rs0 cells => by
    unfold rj
    rw [iM (f := aY s.get) (f' := aY st.get) lv fun r hr => (eO (a2 r hr)).symm, ml (get := s.get) (get' := st.get) lv _ fun r hr => (a2 r hr).symm]
  obtain ⟨k1, hok⟩ := ah.1 hok
  obtain ⟨k2, hok⟩ := ah.1 hok
  have k2' : cg s.rs (fH (b7.all ⟨lv, [], []⟩)) = true :=
    jq (s := st) k2 fun j r p ty xs e hr => h4 j r p ty xs e (by
      rw [hqu]
      simpa [fH, b7.all] using hr)
  rw [← h0]
  unfold ioD
  simp only [dL]
  rw [elv, esub, hlv, hs]
  simp only [St.force_eq, gm, eupd, iM (f := aY s.get) (f' := aY st.get) lv fun r hr => (eO (a2 r hr)).symm]
  rw [show cg s.rs (fH (b7.all ⟨lv, [], []⟩)) = cg st.rs (fH (b7.all ⟨lv, [], []⟩)) from k2'.trans (show cg st.rs _ = true from k2).symm]
theorem vW {get get' : Get} (o : Oper) (avs : List AV) (base : Nat) (h : cN get get' (nQ o avs)) : aR P o avs get base = aR P o avs get' base := by
  unfold nQ at h
  split at h
  · next x e => unfold aR; rw [e]
  · exact uE o avs base h
theorem yc (hE : fU P env) {b : Nat} {ops : Array Oper} {i : Nat} {o : Oper} {t : Touch} (h : opK (R := Touch × St) P cfg env (b + 16 * i) true o st (fun t st => some (t, st)) = some (t, st')) (hal : t.alone = false) :
    ∃ upd v, st' = (st.aP upd).put o.dst v ∧ t.writes = upd.map (·.1) ∧ (∀ k x, (k, x) ∈ upd → ∀ r, (r ∈ x.waits ∨ r ∈ (st.get k).waits) → r ∈ t.quiet) ∧
      ∀ s : St, (∀ d ∈ o.looksAt ops, s.top.getD d .undef = st.top.getD d .undef) → (∀ r ∈ t.reads, s.get r = st.get r) → (∀ r ∈ t.writes, s.get r = st.get r) →
        (∀ j r p ty xs, s.get j = .pend r p ty xs → r ∈ t.quiet → st.get j = s.get j) →
        opK (R := Touch × St) P cfg env (b + 16 * i) true o s (fun t st => some (t, st)) = some (t, (s.aP upd).put o.dst v) := by
  have plain : (∀ s : St, opK (R := Touch × St) P cfg env (b + 16 * i) true o s (fun t st => some (t, st)) = ur (R := Touch × St) o (o.op.operands.toList.map (ar s)) (aR P o (o.op.operands.toList.map (ar s)) s.get (b + 16 * i)) s (fun t st => some (t, st))) →
      ∃ upd v, st' = (st.aP upd).put o.dst v ∧ t.writes = upd.map (·.1) ∧ (∀ k x, (k, x) ∈ upd → ∀ r, (r ∈ x.waits ∨ r ∈ (st.get k).waits) → r ∈ t.quiet) ∧
      ∀ s : St, (∀ d ∈ o.looksAt ops, s.top.getD d .undef = st.top.getD d .undef) → (∀ r ∈ t.reads, s.get r = st.get r) → (∀ r ∈ t.writes, s.get r = st.get r) →
        (∀ j r p ty xs, s.get j = .pend r p ty xs → r ∈ t.quiet → st.get j = s.get j) →
        opK (R := Touch × St) P cfg env (b + 16 * i) true o s (fun t st => some (t, st)) = some (t, (s.aP upd).put o.dst v) := by
    intro hp
    rw [hp, gA] at h
    split at h
    · next hok =>
      simp only [Option.some.injEq, Prod.mk.injEq] at h
      obtain ⟨rfl, rfl⟩ := h
      have hcut : (aR P o (o.op.operands.toList.map (ar st)) st.get (b + 16 * i)).cut = none := by
        have hal : (aR P o (o.op.operands.toList.map (ar st)) st.get (b + 16 * i)).cut.isSome = false := hal
        cases hc : (aR P o (o.op.operands.toList.map (ar st)) st.get (b + 16 * i)).cut with
        | none => rfl
        | some c => rw [hc] at hal; cases hal
      refine ⟨(aR P o (o.op.operands.toList.map (ar st)) st.get (b + 16 * i)).upd, (aR P o (o.op.operands.toList.map (ar st)) st.get (b + 16 * i)).v, ?_, rfl, fun k x hk r hr => ?_, fun s h1 h2 h3 h4 => ?_⟩
      · unfold rB; rw [hcut]; rfl
      · refine List.mem_append.2 (.inr ?_)
        unfold gw
        rw [List.mem_flatMap]
        exact ⟨(k, x), hk, by rw [List.mem_append]; exact hr.symm⟩
      · rw [hp, yo h1]
        have hout : aR P o (o.op.operands.toList.map (ar st)) s.get (b + 16 * i) = aR P o (o.op.operands.toList.map (ar st)) st.get (b + 16 * i) := vW o _ _ h2
        rw [hout, gA]
        obtain ⟨k1, k2⟩ := ah.1 (iQ.1 hok)
        have hq : cg s.rs (aR P o (o.op.operands.toList.map (ar st)) st.get (b + 16 * i)).quiet = true :=
          jq (s := st) k1 fun j r p ty xs e hr => h4 j r p ty xs e (List.mem_append.2 (.inl hr))
        rw [if_pos (iQ.2 (ah.2 ⟨show (Tst.s (cg s.rs _)).val = true from hq, k2⟩))]
        have ht : kF o (o.op.operands.toList.map (ar st)) (aR P o (o.op.operands.toList.map (ar st)) st.get (b + 16 * i)) s = kF o (o.op.operands.toList.map (ar st)) (aR P o (o.op.operands.toList.map (ar st)) st.get (b + 16 * i)) st := by
          unfold kF
          rw [fx h3]
        rw [ht]
        unfold rB
        rw [hcut]; rfl
    · cases h
  cases hop : o.op with
  | call c =>
    cases hc : c.callee with
    | builtin bb =>
      refine plain fun s => ?_
      unfold opK nI
      rw [hop]
      have : fe P c = none := by unfold fe; rw [hc]
      simp only [hc, this, Option.isSome_none, cond_false]
    | invoke r m =>
      unfold opK nI at h
      rw [hop] at h
      have : fe P c = none := by unfold fe; rw [hc]
      simp only [hc, this, Option.isSome_none, cond_false] at h
      cases h
    | value x =>
      cases hbk : (fe P c).isSome with
      | true =>
        refine plain fun s => ?_
        unfold opK
        rw [hop]
        simp only [hbk, cond_true]
      | false =>
      have hcall : ∀ s : St, opK (R := Touch × St) P cfg env (b + 16 * i) true o s (fun t st => some (t, st)) = nI (R := Touch × St) P cfg env (b + 16 * i) true o c s (fun t st => some (t, st)) := by
        intro s; unfold opK; rw [hop]; simp only [hbk, cond_false]
      rw [hcall] at h
      have hops : o.op.operands.toList = x :: c.args.toList := by
        rw [hop]
        show c.operands.toList = _
        unfold Call.operands; rw [hc]; simp
      have hcK : ∀ s : St, nI (R := Touch × St) P cfg env (b + 16 * i) true o c s (fun t st => some (t, st)) = match ar s x with
          | .fn f first cap => (bif Nat.beq (cfg.mode f) 0 then
              (match first, cap with
              | [], [] =>
                (match fK s.get (fE P f) ((c.args.toList.map (ar s)).flatMap AV.cells) with
                | (ok, x, rest) => chk (.s (kL P (fb P f) (c.args.toList.map (ar s))) :: .s rest.isEmpty :: ok) (D.bnd (env.pc f x) fun r =>
                  match eU P true (dj P f) r (b + 16 * i) with
                  | (vs, rs) => St.force ({ s with rs := eH s.rs (ao (b + 16 * i) rs) }.put o.dst (o9 vs))
                      (fun st => some (⟨AV.aj (c.args.toList.map (ar s)) ++ gu s.get ((c.args.toList.map (ar s)).flatMap AV.cells), (ao (b + 16 * i) rs).map (·.1), gw s (ao (b + 16 * i) rs), false⟩, st))))
              | _, _ => none)
            else (bif Nat.beq (cfg.mode f) 4 then
              ioD env f (first ++ c.args.toList.map (ar s) ++ cap) s (b + 16 * i) fun vs upd rd qu =>
                jG rd fun rd => jG (upd.map (·.1)) fun wr => jG (qu ++ gw s upd) fun qu =>
                St.force ({ s with rs := eH s.rs upd }.put o.dst (o9 vs)) (fun st => some (⟨rd, wr, qu, false⟩, st))
              else none))
          | _ => none := by
        intro s
        unfold nI
        simp only [hc]
        generalize ar s x = v
        cases v <;> rfl
      rw [hcK] at h
      split at h
      · next f first cap hev =>
        cases hm : Nat.beq (cfg.mode f) 0 with
        | false =>
          rw [hm] at h
          simp only [cond_false] at h
          cases hm4 : Nat.beq (cfg.mode f) 4 with
          | false => rw [hm4] at h; cases h
          | true =>
          rw [hm4] at h
          simp only [cond_true] at h
          rw [kj] at h
          cases hin : ioD (R := List AV × List (Nat × au) × List Nat × List Nat) env f (first ++ c.args.toList.map (ar st) ++ cap) st (b + 16 * i) (fun a b c d => some (a, b, c, d)) with
          | none => rw [hin] at h; cases h
          | some p =>
            obtain ⟨vs', upd, rd, qu⟩ := p
            rw [hin] at h
            simp only [Option.bind_some, dL, St.force_eq, Option.some.injEq, Prod.mk.injEq] at h
            obtain ⟨rfl, rfl⟩ := h
            refine ⟨upd, o9 vs', rfl, rfl, fun k x hk r hr => ?_, fun s h1 h2 h3 h4 => ?_⟩
            · show r ∈ qu ++ gw st upd
              refine List.mem_append.2 (.inr ?_)
              unfold gw
              rw [List.mem_flatMap]
              exact ⟨(k, x), hk, by rw [List.mem_append]; exact hr.symm⟩
            · have hex : ar s x = ar st x := nE h1 x (by rw [hops]; exact List.mem_cons_self)
              have hargs : c.args.toList.map (ar s) = c.args.toList.map (ar st) := List.map_congr_left fun y hy => nE h1 y (by rw [hops]; exact List.mem_cons_of_mem _ hy)
              rw [hcall, hcK, hex, hev]
              simp only [hm, cond_false, hm4, cond_true, hargs]
              rw [kj, rY hin (s := s) h2 (fun j r p ty xs e hr => h4 j r p ty xs e (List.mem_append.2 (.inl hr)))]
              simp only [Option.bind_some, dL, St.force_eq]
              rw [fx h3]
              rfl
        | true =>
          rw [hm] at h
          simp only [cond_true] at h
          split at h
          · generalize hrd : fK st.get (fE P f) ((c.args.toList.map (ar st)).flatMap AV.cells) = rd at h
            obtain ⟨ok, d, rest⟩ := rd
            simp only [hO] at h
            split at h
            · next hok =>
              have h : (env.pc f d).bind _ = _ := h
              cases hpc : env.pc f d with
              | none => rw [hpc] at h; cases h
              | some y =>
                rw [hpc] at h
                simp only [Option.bind_some] at h
                generalize hla : eU P true (dj P f) y (b + 16 * i) = la at h
                obtain ⟨vs, rs⟩ := la
                simp only [St.force_eq, Option.some.injEq, Prod.mk.injEq] at h
                obtain ⟨rfl, rfl⟩ := h
                refine ⟨ao (b + 16 * i) rs, o9 vs, rfl, rfl, fun k x hk r hr => ?_, fun s h1 h2 h3 h4 => ?_⟩
                · show r ∈ gw st (ao (b + 16 * i) rs)
                  unfold gw
                  rw [List.mem_flatMap]
                  exact ⟨(k, x), hk, by rw [List.mem_append]; exact hr.symm⟩
                · have hex : ar s x = ar st x := nE h1 x (by rw [hops]; exact List.mem_cons_self)
                  have hargs : c.args.toList.map (ar s) = c.args.toList.map (ar st) := List.map_congr_left fun y hy => nE h1 y (by rw [hops]; exact List.mem_cons_of_mem _ hy)
                  have hcells : cN s.get st.get (AV.aj ((c.args.toList.map (ar st)).flatMap AV.cells)) := by
                    have : ∀ (l : List AV) (r : Nat), r ∈ AV.aj (l.flatMap AV.cells) → r ∈ AV.aj l := by
                      intro l
                      induction l with
                      | nil => intro r h; exact h
                      | cons v l ih =>
                        intro r h
                        rw [List.flatMap_cons] at h
                        simp only [AV.aj, List.mem_append]
                        rcases dI h with h | h
                        · exact .inl (lB v r h)
                        · exact .inr (ih r h)
                    exact fun r hr => h2 r (List.mem_append.2 (.inl (this _ r hr)))
                  have hlit : gu s.get ((c.args.toList.map (ar st)).flatMap AV.cells) = gu st.get ((c.args.toList.map (ar st)).flatMap AV.cells) := lH hcells
                  have hv : ∀ r n cs, AV.lit r n ∈ (c.args.toList.map (ar st)).flatMap AV.cells → st.get r = .var cs → cN st.get s.get (AV.aj cs) :=
                    fun r n cs hm hg x hx => (h2 x (List.mem_append.2 (.inr (sQ hm hg hx)))).symm
                  rw [hcall, hcK, hex, hev]
                  simp only [hm, cond_true, hargs]
                  rw [← (uG (fE P f) _ (fun r hr => (hcells r hr).symm) hv).1, hrd, hlit]
                  simp only [hO, hok, if_true]
                  show (env.pc f d).bind _ = _
                  rw [hpc]
                  simp only [Option.bind_some, hla, St.force_eq]
                  rw [fx h3]
                  rfl
            · cases h
          · cases h
      · cases h
  | _ =>
    refine plain fun s => ?_
    unfold opK
    rw [hop]
end
end
end Go.Am
end
section
/- Soundness of regions whose order is open, third part: places changed. -/
namespace Go.Am
noncomputable section
attribute [local instance] D.real
section
variable {P : Program} {cfg : Cfg} {env : Env P} {w0 : cm} {w w' : World} {st st' : St}
abbrev fL (P : Program) (cfg : Cfg) (env : Env P) (b : Nat) (ops : Array Oper) (i : Nat) (st : St) : Option (Touch × St) := gL (R := Touch × St) P cfg env (some b) ops i st (fun t st => some (t, st))
theorem p0 (hE : fU P env) {b : Nat} {ops : Array Oper} {i : Nat} {o : Oper} {t : Touch} (ho : ops[i]? = some o) (h : fL P cfg env b ops i st = some (t, st')) (hal : t.alone = false) :
    ∃ upd v, st' = (st.aP upd).put o.dst v ∧ Local P cfg env b ops i o st t upd v := by
  have run : ∀ (hst : ∀ s : St, (∀ d ∈ o.looksAt ops, s.top.getD d .undef = st.top.getD d .undef) → fL P cfg env b ops i s = opK (R := Touch × St) P cfg env (b + 16 * i) true o s (fun t st => fG ops i o st fun st => some (t, st))),
      ∃ upd v, st' = (st.aP upd).put o.dst v ∧ Local P cfg env b ops i o st t upd v := by
    intro hst
    have hst' : ∀ s : St, (∀ d ∈ o.looksAt ops, s.top.getD d .undef = st.top.getD d .undef) → fL P cfg env b ops i s = (opK (R := Touch × St) P cfg env (b + 16 * i) true o s (fun t st => some (t, st))).bind fun p => some (p.1, iI ops i o p.2) := by
      intro s hs
      rw [hst s hs, jV hE]
      congr 1
      funext p
      rw [j7]
    rw [hst' st (fun _ _ => rfl)] at h
    cases hop : opK (R := Touch × St) P cfg env (b + 16 * i) true o st (fun t st => some (t, st)) with
    | none => rw [hop] at h; cases h
    | some p =>
      obtain ⟨t2, st2⟩ := p
      rw [hop] at h
      simp only [Option.bind_some, Option.some.injEq, Prod.mk.injEq] at h
      obtain ⟨rfl, rfl⟩ := h
      obtain ⟨upd, v, e1, e2, e3, e4⟩ := yc hE (ops := ops) hop hal
      refine ⟨upd, yC ops i v, by rw [e1, sj], ⟨e2, e3, fun s h1 h2 h3 h4 => ?_⟩⟩
      have := hst' s h1
      show fL P cfg env b ops i s = _
      rw [this, e4 s h1 h2 h3 h4]
      simp only [Option.bind_some]
      rw [sj]
  have skip : ∀ (hst : ∀ s : St, (∀ d ∈ o.looksAt ops, s.top.getD d .undef = st.top.getD d .undef) → fL P cfg env b ops i s = some (ep, s.put o.dst (.tup []))),
      ∃ upd v, st' = (st.aP upd).put o.dst v ∧ Local P cfg env b ops i o st t upd v := by
    intro hst
    rw [hst st (fun _ _ => rfl)] at h
    simp only [Option.some.injEq, Prod.mk.injEq] at h
    obtain ⟨rfl, rfl⟩ := h
    exact ⟨[], .tup [], rfl, ⟨rfl, fun k x hk => by simp at hk, fun s h1 _ _ _ => hst s h1⟩⟩
  have hunf : ∀ s : St, fL P cfg env b ops i s = match o.guard with
      | none => opK (R := Touch × St) P cfg env (b + 16 * i) true o s (fun t st => fG ops i o st fun st => some (t, st))
      | some (j, want) => (match (ops[j]?).bind (·.dst) with
        | none => none
        | some d => (match s.top.getD d .undef with
          | .kb b' => bif b' == want then opK (R := Touch × St) P cfg env (b + 16 * i) true o s (fun t st => fG ops i o st fun st => some (t, st)) else St.force (s.put o.dst (.tup [])) (fun st => some (ep, st))
          | .tup _ => St.force (s.put o.dst (.tup [])) (fun st => some (ep, st))
          | _ => none)) := by
    intro s
    unfold fL gL
    rw [ho]
    rfl
  cases hg : o.guard with
  | none => exact run fun s _ => by rw [hunf, hg]
  | some jw =>
    obtain ⟨j, want⟩ := jw
    cases hd : (ops[j]?).bind (·.dst) with
    | none =>
      exfalso
      rw [hunf, hg] at h
      simp only [hd] at h
      cases h
    | some d =>
      have hlook : d ∈ o.looksAt ops := by
        unfold Oper.looksAt
        rw [hg]
        exact List.mem_append_right _ (by simp only [hd]; simp)
      have hu : ∀ s : St, fL P cfg env b ops i s = (match s.top.getD d .undef with
          | .kb b' => bif b' == want then opK (R := Touch × St) P cfg env (b + 16 * i) true o s (fun t st => fG ops i o st fun st => some (t, st)) else St.force (s.put o.dst (.tup [])) (fun st => some (ep, st))
          | .tup _ => St.force (s.put o.dst (.tup [])) (fun st => some (ep, st))
          | _ => none) := by
        intro s; rw [hunf, hg]; simp only [hd]
      generalize hv : st.top.getD d .undef = v
      cases v with
      | kb b' =>
        cases hbw : b' == want with
        | true => exact run fun s hs => by rw [hu, hs d hlook, hv]; simp only [hbw, cond_true]
        | false => exact skip fun s hs => by rw [hu, hs d hlook, hv]; simp only [hbw, cond_false, St.force_eq]
      | tup l => exact skip fun s hs => by rw [hu, hs d hlook, hv]; simp only [St.force_eq]
      | _ => exfalso; rw [hu, hv] at h; cases h
theorem fQ (s : St) (d : Option Tmp) (v : AV) : (s.put d v).get = s.get := by
  funext r
  show (s.put d v).rs.getD r .dead = s.rs.getD r .dead
  rw [eV]
theorem v9 {s : St} {d : Option Tmp} {v : AV} {x : Nat} (h : d ≠ some x) : (s.put d v).top.getD x .undef = s.top.getD x .undef := by
  unfold St.put
  cases d with
  | none => rfl
  | some d =>
    obtain ⟨fr, rs⟩ := s
    cases fr with
    | nil => rfl
    | cons f fs =>
      show (f.set d v).getD x .undef = f.getD x .undef
      rw [List.getD_eq_getElem?_getD, List.getElem?_set, List.getD_eq_getElem?_getD]
      have : d ≠ x := fun e => h (by rw [e])
      rw [if_neg this]
theorem uh {s u : St} {d e : Option Tmp} {v x : AV} (hfr : s.fr = u.fr) (h : ∀ k, d = some k → e ≠ some k) : ((s.put d v).put e x).fr = ((u.put e x).put d v).fr := by
  unfold St.put
  obtain ⟨fr, rs⟩ := s
  obtain ⟨fr', rs'⟩ := u
  simp only at hfr
  subst hfr
  cases d with
  | none => cases e <;> cases fr <;> rfl
  | some d =>
    cases e with
    | none => cases fr <;> rfl
    | some e =>
      cases fr with
      | nil => rfl
      | cons f fs =>
        show (f.set d v).set e x :: fs = (f.set e x).set d v :: fs
        rw [List.set_comm _ _ (fun h' => h d rfl (by rw [h']))]
theorem sa {s u : St} (d : Option Tmp) (v : AV) (h : s.fr = u.fr) : (s.put d v).fr = (u.put d v).fr := by
  unfold St.put
  obtain ⟨fr, rs⟩ := s
  obtain ⟨fr', rs'⟩ := u
  simp only at h
  subst h
  cases d <;> cases fr <;> rfl
def xU (ops : Array Oper) (i j : Nat) (t u : Touch) : Prop := indep u t = true ∧ ∃ o o', ops[i]? = some o ∧ ops[j]? = some o' ∧ Oper.apart ops o o' = true
theorem l6 {a b : List Nat} (h : xV a b = true) : ∀ x ∈ a, x ∉ b := by
  intro x hx hb
  have := List.all_eq_true.1 h x hx
  simp only [Bool.not_eq_true', List.contains_eq_mem, decide_eq_false_iff_not] at this
  exact this hb
theorem gE {l : List (Nat × au)} {s : St} {r : Nat} (h : r ∉ l.map (·.1)) : (s.aP l).get r = s.get r := by
  rw [dR, fq l _ r h]
theorem wT (hE : fU P env) {b : Nat} {ops : Array Oper} {i j : Nat} {s1 s2 : St} {t u : Touch} (hi : fL P cfg env b ops i st = some (t, s1)) (hj : fL P cfg env b ops j s1 = some (u, s2)) (hind : xU ops i j t u) :
    ∃ s1' s2', fL P cfg env b ops j st = some (u, s1') ∧ fL P cfg env b ops i s1' = some (t, s2') ∧ Eqv s2 s2' := by
  obtain ⟨hind, o, o', ho, ho', hap⟩ := hind
  obtain ⟨a1, a2, a3⟩ := Oper.apart_spec hap
  unfold indep at hind
  simp only [Bool.and_eq_true, Bool.not_eq_true'] at hind
  obtain ⟨⟨⟨⟨⟨d1, d2⟩, d3⟩, d4⟩, d5⟩, d6⟩ := hind
  have d3 := l6 d3
  have d4 := l6 d4
  have d5 := l6 d5
  have d6 := l6 d6
  obtain ⟨ua, va, rfl, La⟩ := p0 hE ho hi d2
  obtain ⟨ub, vb, rfl, Lb⟩ := p0 hE ho' hj d1
  have hka := La.keys
  have hkb := Lb.keys
  have h1 : fL P cfg env b ops j st = some (u, (st.aP ub).put o'.dst vb) := by
    refine Lb.again st (fun d hd => ?_) (fun r hr => ?_) (fun r hr => ?_) (fun k r p ty xs e hr => ?_)
    · rw [v9 fun e => a1 d e hd]; rfl
    · rw [fQ, gE]
      rw [← hka]; exact d5 r hr
    · rw [fQ, gE]
      rw [← hka]; exact d4 r hr
    · rw [fQ]
      by_cases hk : k ∈ ua.map (·.1)
      · exfalso
        obtain ⟨⟨k', x⟩, hx, rfl⟩ := List.mem_map.1 hk
        have := La.waits k' x hx r (.inr (by rw [e]; simp [au.waits]))
        exact d6 r hr this
      · rw [gE hk]
  have h2 : fL P cfg env b ops i ((st.aP ub).put o'.dst vb) = some (t, (((st.aP ub).put o'.dst vb).aP ua).put o.dst va) := by
    refine La.again _ (fun d hd => ?_) (fun r hr => ?_) (fun r hr => ?_) (fun k r p ty xs e hr => ?_)
    · rw [v9 fun e => a3 d e hd]; rfl
    · rw [fQ, gE]
      rw [← hkb]; exact fun h => d3 r h hr
    · rw [fQ, gE]
      rw [← hkb]; exact fun h => d4 r h hr
    · rw [fQ] at e ⊢
      rcases mI ub st.get k with ⟨e1, _⟩ | ⟨x, e1, e2⟩
      · rw [dR, e1]
      · exfalso
        rw [dR, e2] at e
        have := Lb.waits k x e1 r (.inl (by rw [e]; simp [au.waits]))
        exact d6 r this hr
  have c1 : ((((st.aP ua).put o.dst va).aP ub).put o'.dst vb).fr = (((st.aP ua).put o.dst va).put o'.dst vb).fr := sa _ _ rfl
  have c2 : ((((st.aP ub).put o'.dst vb).aP ua).put o.dst va).fr = (((st.aP ub).put o'.dst vb).put o.dst va).fr := sa _ _ rfl
  refine ⟨_, _, h1, h2, ?_, fun r => ?_, ?_⟩
  · rw [c1, c2]
    exact uh rfl (fun k hk => a2 k hk)
  · rw [fQ, fQ, dR, dR, fQ, fQ, dR, dR]
    rcases mI ub (dt ua st.get) r with ⟨e1, e2⟩ | ⟨x, e1, e2⟩
    · rw [e1]
      refine (jB ua _ _ r ?_).symm
      rw [fq ub _ r e2]
    · have hr : r ∈ ub.map (·.1) := List.mem_map.2 ⟨(r, x), e1, rfl⟩
      have hn : r ∉ ua.map (·.1) := by rw [← hka]; rw [← hkb] at hr; exact d4 r hr
      rw [fq ua _ r hn]
      refine jB ub _ _ r ?_
      rw [fq ua _ r hn]
  · rw [eV, eV]
    show (eH ((st.aP ua).put o.dst va).rs ub).length = (eH ((st.aP ub).put o'.dst vb).rs ua).length
    rw [fT, fT, eV, eV]
    show max (eH st.rs ua).length _ = max (eH st.rs ub).length _
    rw [fT, fT]
    omega
theorem yl (hE : fU P env) {b : Nat} {ops : Array Oper} {i : Nat} {s s' s1 : St} {t : Touch} (h : Eqv s s') (hi : fL P cfg env b ops i s = some (t, s1)) : ∃ s1', fL P cfg env b ops i s' = some (t, s1') ∧ Eqv s1 s1' := by
  have htop : s'.top = s.top := by unfold St.top; rw [h.1]
  have hget : s'.get = s.get := funext fun r => (h.2.1 r).symm
  have hev : ∀ x, ar s' x = ar s x := by intro x; cases x <;> first | rfl | (show s'.top.getD _ _ = s.top.getD _ _; rw [htop])
  have hevs : ∀ l : List Operand, l.map (ar s') = l.map (ar s) := fun l => List.map_congr_left fun x _ => hev x
  have put_eqv : ∀ {x y : St} (d : Option Tmp) (v : AV), Eqv x y → Eqv (x.put d v) (y.put d v) := by
    intro x y d v h
    refine ⟨?_, fun r => by rw [fQ, fQ]; exact h.2.1 r, by rw [eV, eV]; exact h.2.2⟩
    unfold St.put
    cases d with
    | none => exact h.1
    | some d =>
      obtain ⟨fr, rs⟩ := x
      obtain ⟨fr', rs'⟩ := y
      have := h.1
      simp only at this
      subst this
      cases fr <;> rfl
  have setL_eqv : ∀ (l : List (Nat × au)), Eqv (s.aP l) (s'.aP l) := fun l => ⟨h.1, fun r => by rw [dR, dR, hget], by
    show (eH s.rs l).length = (eH s'.rs l).length
    rw [fT, fT, h.2.2]⟩
  have cut_eqv : ∀ {x y : St} (c : Option (Nat × Nat)), Eqv x y → Eqv (x.cut c) (y.cut c) := by
    intro x y c h
    exact ⟨by rw [sG, sG, h.1], fun r => by rw [pD, pD, h.2.1], by rw [nw, nw, h.2.2]⟩
  have split_eqv : ∀ {x y : St} (o : Oper), Eqv x y → Eqv (iI ops i o x) (iI ops i o y) := by
    intro x y o h
    have ht : y.top = x.top := by unfold St.top; rw [h.1]
    unfold iI
    generalize o.dst = dd
    cases dd with
    | none => exact h
    | some d =>
      simp only [ht]
      generalize x.top.getD d .undef = v
      cases v with
      | bool bb =>
        simp only
        cases kA ops i with
        | true => exact put_eqv (some d) _ h
        | false => exact h
      | _ => exact h
  have opk : ∀ (o : Oper) (t : Touch) (s2 : St), opK (R := Touch × St) P cfg env (b + 16 * i) true o s (fun t st => some (t, st)) = some (t, s2) → ∃ s2', opK (R := Touch × St) P cfg env (b + 16 * i) true o s' (fun t st => some (t, st)) = some (t, s2') ∧ Eqv s2 s2' := by
    intro o t s2 hop
    have outk : ∀ (avs : List AV), ur (R := Touch × St) o avs (aR P o avs s.get (b + 16 * i)) s (fun t st => some (t, st)) = some (t, s2) → ∃ s2', ur (R := Touch × St) o avs (aR P o avs s.get (b + 16 * i)) s' (fun t st => some (t, st)) = some (t, s2') ∧ Eqv s2 s2' := by
      intro avs ho
      rw [gA] at ho ⊢
      split at ho
      · next hok =>
        simp only [Option.some.injEq, Prod.mk.injEq] at ho
        obtain ⟨rfl, rfl⟩ := ho
        obtain ⟨k1, k2⟩ := ah.1 (iQ.1 hok)
        have hq : cg s'.rs (aR P o avs s.get (b + 16 * i)).quiet = true := jq (s := s) k1 fun j r p ty xs _ _ => h.2.1 j
        rw [if_pos (iQ.2 (ah.2 ⟨show (Tst.s (cg s'.rs _)).val = true from hq, k2⟩))]
        have ht : kF o avs (aR P o avs s.get (b + 16 * i)) s' = kF o avs (aR P o avs s.get (b + 16 * i)) s := by
          unfold kF
          rw [fx (s := s') (st := s) fun r _ => (h.2.1 r).symm]
        rw [ht]
        exact ⟨_, rfl, put_eqv _ _ (cut_eqv _ (setL_eqv _))⟩
      · cases ho
    unfold opK at hop ⊢
    split at hop
    · next c hopc =>
      cases hbk : (fe P c).isSome with
      | true =>
        rw [hbk] at hop
        simp only [cond_true] at hop ⊢
        rw [hevs, hget]; exact outk _ hop
      | false =>
      rw [hbk] at hop
      simp only [cond_false] at hop ⊢
      unfold nI at hop ⊢
      split at hop
      · rw [hevs, hget]; exact outk _ hop
      · cases hop
      · next x hcx =>
        simp only
        rw [hev x]
        split at hop
        · next f first cap hevx =>
          cases hm : Nat.beq (cfg.mode f) 0 with
          | false =>
            rw [hm] at hop
            simp only [cond_false, cond_true] at hop ⊢
            cases hm4 : Nat.beq (cfg.mode f) 4 with
            | false => rw [hm4] at hop; cases hop
            | true =>
              rw [hm4] at hop
              simp only [cond_true] at hop ⊢
              rw [hevs]
              rw [kj] at hop ⊢
              cases hin : ioD (R := List AV × List (Nat × au) × List Nat × List Nat) env f (first ++ c.args.toList.map (ar s) ++ cap) s (b + 16 * i) (fun a b c d => some (a, b, c, d)) with
              | none => rw [hin] at hop; cases hop
              | some p =>
                obtain ⟨vs', upd, rd, qu⟩ := p
                rw [hin] at hop
                rw [rY hin (s := s') (fun r _ => (h.2.1 r).symm) fun j r p ty xs _ _ => h.2.1 j]
                simp only [Option.bind_some, dL, St.force_eq, Option.some.injEq, Prod.mk.injEq] at hop ⊢
                obtain ⟨rfl, rfl⟩ := hop
                exact ⟨_, ⟨by rw [fx (s := s') (st := s) fun r _ => (h.2.1 r).symm], rfl⟩, put_eqv _ _ (setL_eqv _)⟩
          | true =>
            rw [hm] at hop
            simp only [cond_true] at hop ⊢
            split at hop
            · rw [hevs, hget]
              generalize hrd : fK s.get (fE P f) ((c.args.toList.map (ar s)).flatMap AV.cells) = rd at hop ⊢
              obtain ⟨ok, d, rest⟩ := rd
              simp only [hO] at hop ⊢
              split at hop
              · next hok =>
                have hb : ∀ (F : den (resTy P f) → Option (Touch × St)), D.bnd (env.pc f d) F = (env.pc f d).bind F := fun _ => rfl
                rw [hb] at hop
                rw [if_pos hok, hb]
                cases hpc : env.pc f d with
                | none => rw [hpc] at hop; cases hop
                | some y =>
                  rw [hpc] at hop
                  simp only [Option.bind_some] at hop ⊢
                  generalize hla : eU P true (dj P f) y (b + 16 * i) = la at hop ⊢
                  obtain ⟨vs, rs⟩ := la
                  simp only [St.force_eq, Option.some.injEq, Prod.mk.injEq] at hop ⊢
                  obtain ⟨rfl, rfl⟩ := hop
                  exact ⟨_, ⟨by rw [fx (s := s') (st := s) fun r _ => (h.2.1 r).symm], rfl⟩, put_eqv _ _ (setL_eqv _)⟩
              · cases hop
            · cases hop
        · cases hop
    · next hno => rw [hevs, hget]; exact outk _ hop
  have run : ∀ (o : Oper) (t : Touch) (s2 : St), opK (R := Touch × St) P cfg env (b + 16 * i) true o s (fun t st => fG ops i o st fun st => some (t, st)) = some (t, s2) →
      ∃ s2', opK (R := Touch × St) P cfg env (b + 16 * i) true o s' (fun t st => fG ops i o st fun st => some (t, st)) = some (t, s2') ∧ Eqv s2 s2' := by
    intro o t s2 hop
    rw [jV hE] at hop
    cases hopp : opK (R := Touch × St) P cfg env (b + 16 * i) true o s (fun t st => some (t, st)) with
    | none => rw [hopp] at hop; cases hop
    | some p =>
      obtain ⟨t3, s3⟩ := p
      rw [hopp] at hop
      simp only [Option.bind_some, j7, Option.some.injEq, Prod.mk.injEq] at hop
      obtain ⟨rfl, rfl⟩ := hop
      obtain ⟨s3', k1, k2⟩ := opk o t3 s3 hopp
      refine ⟨iI ops i o s3', ?_, split_eqv o k2⟩
      rw [jV hE, k1]
      simp only [Option.bind_some, j7]
  unfold fL gL at hi ⊢
  split at hi
  · cases hi
  · next o ho =>
    split at hi
    · next hg =>
      simp only [hg]
      exact run o t s1 hi
    · next j want hg =>
      simp only [hg]
      split at hi
      · cases hi
      · next d hd =>
        simp only [hd, htop]
        generalize s.top.getD d .undef = v at hi
        cases v with
        | kb bb =>
          simp only at hi ⊢
          cases hbw : bb == want with
          | true => rw [hbw] at hi; simp only [cond_true] at hi ⊢; exact run o t s1 hi
          | false =>
            rw [hbw] at hi
            simp only [cond_false, St.force_eq, Option.some.injEq, Prod.mk.injEq] at hi ⊢
            obtain ⟨rfl, rfl⟩ := hi
            exact ⟨_, ⟨rfl, rfl⟩, put_eqv _ _ h⟩
        | tup l =>
          simp only [St.force_eq, Option.some.injEq, Prod.mk.injEq] at hi ⊢
          obtain ⟨rfl, rfl⟩ := hi
          exact ⟨_, ⟨rfl, rfl⟩, put_eqv _ _ h⟩
        | _ => cases hi
end
end
end Go.Am
end
section
/- Soundness of regions whose order is open, fourth part: all orders. -/
namespace Go.Am
noncomputable section
attribute [local instance] D.real
theorem wc (acc : Nat → Nat) : ∀ (l : List Edge) (s j : Nat), (l.foldl (fun s e => if Region.binds .any e = true then s ||| 2 ^ e.on ||| acc e.on else s) s).testBit j = true →
    s.testBit j = true ∨ ∃ e ∈ l, Region.binds .any e = true ∧ (e.on = j ∨ (acc e.on).testBit j = true)
  | [], s, j, h => .inl h
  | e :: l, s, j, h => by
    rw [List.foldl_cons] at h
    rcases wc acc l _ j h with h | ⟨e', h1, h2⟩
    · split at h
      · next hb =>
        rw [Nat.testBit_or, Nat.testBit_or, Bool.or_eq_true, Bool.or_eq_true, Nat.testBit_two_pow] at h
        rcases h with (h | h) | h
        · exact .inl h
        · exact .inr ⟨e, List.mem_cons_self, hb, .inl (of_decide_eq_true h)⟩
        · exact .inr ⟨e, List.mem_cons_self, hb, .inr h⟩
      · exact .inl h
    · exact .inr ⟨e', List.mem_cons_of_mem _ h1, h2⟩
theorem rG (f : Array Nat → Oper → Nat) : ∀ (l : List Oper) (acc : Array Nat), acc.size ≤ (l.foldl (fun acc o => acc.push (f acc o)) acc).size ∧ (∀ k, k < acc.size → (l.foldl (fun acc o => acc.push (f acc o)) acc).getD k 0 = acc.getD k 0) ∧
    ∀ i o, l[i]? = some o → ∃ acc', acc'.size = acc.size + i ∧ (∀ k, k < acc'.size → (l.foldl (fun acc o => acc.push (f acc o)) acc).getD k 0 = acc'.getD k 0) ∧ (l.foldl (fun acc o => acc.push (f acc o)) acc).getD (acc.size + i) 0 = f acc' o
  | [], acc => ⟨Nat.le_refl _, fun _ _ => rfl, fun i o h => by simp at h⟩
  | x :: l, acc => by
    rw [List.foldl_cons]
    obtain ⟨h1, h2, h3⟩ := rG f l (acc.push (f acc x))
    have hs : (acc.push (f acc x)).size = acc.size + 1 := by simp
    have hp : ∀ k, k < acc.size → (acc.push (f acc x)).getD k 0 = acc.getD k 0 := by
      intro k hk
      simp only [Array.getD_eq_getD_getElem?, Array.getElem?_push]
      rw [if_neg (by omega)]
    refine ⟨by omega, fun k hk => by rw [h2 k (by omega), hp k hk], fun i o hi => ?_⟩
    cases i with
    | zero =>
      simp only [List.getElem?_cons_zero, Option.some.injEq] at hi
      subst hi
      refine ⟨acc, rfl, fun k hk => by rw [h2 k (by omega), hp k hk], ?_⟩
      rw [Nat.add_zero, h2 acc.size (by omega)]
      simp
    | succ i =>
      obtain ⟨acc', k1, k2, k3⟩ := h3 i o (by simpa using hi)
      exact ⟨acc', by omega, k2, by rw [← k3, hs]; congr 1; omega⟩
theorem tQ {ops : Array Oper} {i j : Nat} {o : Oper} (ho : ops[i]? = some o) (h : ((Region.before ops).getD i 0).testBit j = true) :
    ∃ e ∈ o.after, Region.binds .any e = true ∧ (e.on = j ∨ ((Region.before ops).getD e.on 0).testBit j = true) := by
  have e0 : Region.before ops = ops.toList.foldl (fun acc o => acc.push (o.after.toList.foldl (fun s e => if Region.binds .any e = true then s ||| 2 ^ e.on ||| acc.getD e.on 0 else s) 0)) #[] := by
    unfold Region.before
    rw [← Array.foldl_toList]
    congr 1
    funext acc o
    rw [← Array.foldl_toList]
  obtain ⟨_, _, h3⟩ := rG (fun acc o => o.after.toList.foldl (fun s e => if Region.binds .any e = true then s ||| 2 ^ e.on ||| acc.getD e.on 0 else s) 0) ops.toList #[]
  obtain ⟨acc', k1, k2, k3⟩ := h3 i o (by simpa using ho)
  rw [← e0] at k2 k3
  simp only [List.size_toArray, List.length_nil, Nat.zero_add] at k1 k3
  rw [k3] at h
  rcases wc (fun k => acc'.getD k 0) o.after.toList 0 j h with h | ⟨e, h1, h2, h3⟩
  · simp at h
  · refine ⟨e, by simpa using h1, h2, h3.imp id fun h => ?_⟩
    rcases Nat.lt_or_ge e.on acc'.size with hlt | hge
    · rw [k2 e.on hlt]; exact h
    · rw [Array.getD_eq_getD_getElem?, Array.getElem?_eq_none hge] at h
      simp at h
section
variable {P : Program} {cfg : Cfg} {env : Env P} {w0 : cm} {w w' : World} {st st' : St}
inductive sV (P : Program) (cfg : Cfg) (env : Env P) (b : Nat) (ops : Array Oper) : List Nat → St → List (Nat × Touch) → St → Prop
  | nil (s : St) : sV P cfg env b ops [] s [] s
  | cons {i : Nat} {l : List Nat} {s s1 s2 : St} {t : Touch} {T : List (Nat × Touch)} (h : fL P cfg env b ops i s = some (t, s1)) (k : sV P cfg env b ops l s1 T s2) : sV P cfg env b ops (i :: l) s ((i, t) :: T) s2
theorem vX (hE : fU P env) {b : Nat} {ops : Array Oper} : ∀ (l : List Nat) (tr tr' : List (Nat × Touch)) (s s' : St), dX (R := List (Nat × Touch) × St) P cfg env (some b) ops l tr s (fun tr st => some (tr, st)) = some (tr', s') →
    ∃ T, sV P cfg env b ops l s T s' ∧ tr' = T.reverse ++ tr
  | [], tr, tr', s, s', h => by
    simp only [dX, Option.some.injEq, Prod.mk.injEq] at h
    obtain ⟨rfl, rfl⟩ := h
    exact ⟨[], .nil _, rfl⟩
  | i :: l, tr, tr', s, s', h => by
    have h : gL P cfg env (some b) ops i s (fun t st => dX (R := List (Nat × Touch) × St) P cfg env (some b) ops l ((i, t) :: tr) st fun tr st => some (tr, st)) = some (tr', s') := h
    rw [jx hE] at h
    cases hs : gL (R := Touch × St) P cfg env (some b) ops i s (fun t st => some (t, st)) with
    | none => rw [hs] at h; cases h
    | some p =>
      obtain ⟨t, s1⟩ := p
      rw [hs] at h
      simp only [Option.bind_some] at h
      obtain ⟨T, h1, rfl⟩ := vX hE l _ tr' s1 s' h
      exact ⟨(i, t) :: T, .cons hs h1, by simp⟩
theorem xT (hE : fU P env) {b : Nat} {ops : Array Oper} {l : List Nat} {s s2 : St} {T : List (Nat × Touch)} (h : sV P cfg env b ops l s T s2) : ∀ u, Eqv s u → ∃ u2, sV P cfg env b ops l u T u2 ∧ Eqv s2 u2 := by
  induction h with
  | nil s => exact fun u hu => ⟨u, .nil _, hu⟩
  | cons h k ih =>
    intro u hu
    obtain ⟨u1, h1, h2⟩ := yl hE hu h
    obtain ⟨u2, h3, h4⟩ := ih u1 h2
    exact ⟨u2, .cons h1 h3, h4⟩
def yy (ops : Array Oper) (x y : Nat × Touch) : Prop := ((Region.before ops).getD y.1 0).testBit x.1 = true ∨ xU ops x.1 y.1 x.2 y.2
theorem qI (hE : fU P env) {b : Nat} {ops : Array Oper} {i : Nat} {l2 : List Nat} : ∀ (l1 : List Nat) (s s2 : St) (T : List (Nat × Touch)), sV P cfg env b ops (l1 ++ i :: l2) s T s2 → T.Pairwise (yy ops) → (∀ j ∈ l1, ¬ ((Region.before ops).getD i 0).testBit j = true) →
    ∃ T1 t T2 s2', T = T1 ++ (i, t) :: T2 ∧ sV P cfg env b ops (i :: (l1 ++ l2)) s ((i, t) :: (T1 ++ T2)) s2' ∧ Eqv s2 s2'
  | [], s, s2, T, h, _, _ => by
    cases h with
    | cons h k => exact ⟨[], _, _, s2, rfl, .cons h k, Eqv.refl _⟩
  | j :: l1, s, s2, T, h, hp, hb => by
    cases h with
    | cons hj k =>
      rename_i s1 t T'
      rw [List.pairwise_cons] at hp
      obtain ⟨T1, ti, T2, s2', rfl, k1, k2⟩ := qI hE l1 s1 s2 _ k hp.2 (fun x hx => hb x (List.mem_cons_of_mem _ hx))
      cases k1 with
      | cons hi k1 =>
        rename_i s3
        have hok := hp.1 (i, ti) (by simp)
        have hind : xU ops j i t ti := by
          rcases hok with h | h
          · exact absurd h (hb j List.mem_cons_self)
          · exact h
        obtain ⟨a1, a2, m1, m2, m3⟩ := wT hE hj hi hind
        obtain ⟨u2, n1, n2⟩ := xT hE k1 a2 m3
        exact ⟨(j, t) :: T1, ti, T2, u2, rfl, .cons m1 (.cons m2 n1), k2.trans n2⟩
theorem sx {ops : Array Oper} : ∀ (T : List (Nat × Touch)), jE ops (Region.before ops).toList T.reverse = true → T.Pairwise (yy ops) := by
  intro T
  have : ∀ (R : List (Nat × Touch)), jE ops (Region.before ops).toList R = true → R.Pairwise (fun y x => yy ops x y) := by
    intro R
    induction R with
    | nil => intro _; exact .nil
    | cons y R ih =>
      obtain ⟨j, t⟩ := y
      intro h
      unfold jE at h
      rw [Bool.and_eq_true] at h
      rw [List.pairwise_cons]
      refine ⟨fun x hx => ?_, ih h.2⟩
      have h1 := List.all_eq_true.1 h.1 x hx
      rw [Bool.or_eq_true] at h1
      rcases h1 with h1 | h1
      · refine .inl ?_
        have e : (Region.before ops).toList.getD j 0 = (Region.before ops).getD j 0 := by simp [List.getD_eq_getElem?_getD, Array.getD_eq_getD_getElem?]
        rw [e] at h1; exact h1
      · rw [Bool.and_eq_true] at h1
        refine .inr ⟨h1.1, ?_⟩
        have h2 := h1.2
        cases ha : ops[x.1]? with
        | none => rw [ha] at h2; cases h2
        | some o =>
          cases hb : ops[j]? with
          | none => rw [ha, hb] at h2; cases h2
          | some o' => rw [ha, hb] at h2; exact ⟨o, o', rfl, rfl, h2⟩
  intro h
  exact List.pairwise_reverse.1 (this _ h)
theorem m9 {ops : Array Oper} (h : lW ops = true) {i : Nat} {o : Oper} (ho : ops[i]? = some o) : ∀ e ∈ o.after, Region.binds .any e = true → e.on < i := by
  intro e he hb
  have hi : i < ops.size := (Array.getElem?_eq_some_iff.1 ho).1
  have h1 := List.all_eq_true.1 h i (List.mem_range.2 hi)
  rw [ho] at h1
  have h2 := List.all_eq_true.1 h1 e (by simpa using he)
  rw [hb] at h2
  exact cD h2
theorem w9 (hE : jg P env) (hN : pL P) {ro : Option Nat} {n : Nat} {b : Nat} {ops : Array Oper} {Q : Exit → Act → World → Prop} {as : List Act} {sE : St} (hed : lW ops = true)
    (hQ : ∀ s a' w' g' born', Eqv sE s → Rel w0 s g' born' (a' :: as) w' → (∀ r, born' r → r < s.rs.length) → Q .normal a' w') :
    ∀ (fuel : Nat) (listed : Array Bool) (l : List Nat) (T : List (Nat × Touch)) (s s2 : St) (g : aK) (born : Nat → Prop) (a : Act) (w : World), sV P cfg env b ops l s T s2 → Eqv sE s2 → T.Pairwise (yy ops) →
      (∀ x ∈ T, ∀ r ∈ x.2.writes, r < b ∨ (b + 16 * x.1 ≤ r ∧ r < b + 16 * x.1 + 16) ∨ (r < b + 16 * x.1 ∧ ∃ j, ((Region.before ops).getD x.1 0).testBit j = true ∧ b + 16 * j ≤ r ∧ r < b + 16 * j + 16)) → listed.size = ops.size → (∀ i, i ∈ l ↔ i < ops.size ∧ listed.getD i false = false) → l.Pairwise (· < ·) → l.length = fuel →
      (∀ i j, i < ops.size → listed.getD i false = true → ((Region.before ops).getD i 0).testBit j = true → listed.getD j false = true) →
      Rel w0 s g born (a :: as) w → (∀ r, born r → r < s.rs.length) → (∀ r, born r → r < b ∨ ∃ j, listed.getD j false = true ∧ b + 16 * j ≤ r ∧ r < b + 16 * j + 16) →
      wpAnyIn (rd ro) n P .any ops Q fuel listed a w := by
  intro fuel
  induction fuel with
  | zero =>
    intro listed l T s s2 g born a w h he _ _ hsz hl _ hlen _ R hlt _
    have hl0 : l = [] := List.length_eq_zero_iff.1 hlen
    subst hl0
    refine ⟨?_, ?_⟩
    · have : ∀ i, i ∉ Region.ready .any ops listed := by
        intro i hi
        obtain ⟨h1, o, ho, _⟩ := mem_ready.1 hi
        have hi' : i < ops.size := (Array.getElem?_eq_some_iff.1 ho).1
        have hlf : listed.getD i false = false := by
          rw [Array.getD_eq_getD_getElem?] at h1 ⊢
          have : i < listed.size := by omega
          rw [Array.getElem?_eq_getElem this] at h1 ⊢
          exact h1
        have := (hl i).2 ⟨hi', hlf⟩
        cases this
      cases hr : Region.ready .any ops listed with
      | nil => rfl
      | cons x xs => exact absurd (by rw [hr]; exact List.mem_cons_self) (this x)
    · cases h
      exact hQ s a w g born he R hlt
  | succ fuel ih =>
    intro listed l T s s2 g born a w h he hp hpl hsz hl hinc hlen hclo R hlt hwin
    have hgd : ∀ i, i < ops.size → listed.getD i true = listed.getD i false := by
      intro i hi
      rw [Array.getD_eq_getD_getElem?, Array.getD_eq_getD_getElem?]
      have : i < listed.size := by omega
      rw [Array.getElem?_eq_getElem this]; rfl
    refine ⟨fun hr => ?_, fun i hi => ?_⟩
    ·
      exfalso
      cases l with
      | nil => cases hlen
      | cons x xs =>
        obtain ⟨hx1, hx2⟩ := (hl x).1 List.mem_cons_self
        have : x ∈ Region.ready .any ops listed := by
          refine mem_ready.2 ⟨by rw [hgd x hx1]; exact hx2, ops[x], by simp [hx1], fun e he hb => ?_⟩
          have hlt := m9 hed (show ops[x]? = some ops[x] by simp [hx1]) e he hb
          cases hle : listed.getD e.on false with
          | true => rfl
          | false =>
            have hm := (hl e.on).2 ⟨by omega, hle⟩
            rcases List.mem_cons.1 hm with h' | h'
            · omega
            · have := (List.pairwise_cons.1 hinc).1 _ h'
              omega
        rw [hr] at this; cases this
    · obtain ⟨hi1, o, ho, hi2⟩ := mem_ready.1 hi
      have hio : i < ops.size := (Array.getElem?_eq_some_iff.1 ho).1
      rw [hgd i hio] at hi1
      have hil : i ∈ l := (hl i).2 ⟨hio, hi1⟩
      obtain ⟨l1, l2, rfl⟩ := List.append_of_mem hil
      have hnb : ∀ j, ((Region.before ops).getD i 0).testBit j = true → listed.getD j false = true := by
        intro j hj
        obtain ⟨e, he, hb, hc⟩ := tQ ho hj
        have hle := hi2 e he hb
        rcases hc with rfl | hc
        · exact hle
        · exact hclo e.on j (by have := m9 hed ho e he hb; omega) hle hc
      obtain ⟨T1, t, T2, s2', rfl, k1, k2⟩ := qI hE.det l1 s s2 T h hp (fun j hj hb => by
        have := hnb j hb
        have h2 := ((hl j).1 (List.mem_append.2 (.inl hj))).2
        rw [this] at h2; cases h2)
      cases k1 with
      | cons hs k1 =>
        rename_i s1
        have hw := hpl (i, t) (by simp)
        have hfr : ∀ r ∈ t.writes, b + 16 * i ≤ r → ¬ born r := by
          intro r hr h1 h2
          have h3 := hw r hr
          rcases hwin r h2 with h4 | ⟨j, h4, h5, h6⟩
          · omega
          · have : j = i := by omega
            subst this
            rw [h4] at hi1; cases hi1
        refine lq hE hN hs R hfr hlt fun a' w' g' b' R' hlt' hb' _ => ?_
        have hset : ∀ j, (listed.setIfInBounds i true).getD j false = if j = i then true else listed.getD j false := by
          intro j
          rw [Array.getD_eq_getD_getElem?, Array.getElem?_setIfInBounds]
          by_cases e : i = j
          · subst e
            have : i < listed.size := by omega
            simp [this]
          · rw [if_neg e, if_neg (Ne.symm e)]
            rw [Array.getD_eq_getD_getElem?]
        have hin : i ∉ l1 ++ l2 := by
          intro hm
          rw [List.pairwise_append] at hinc
          rcases List.mem_append.1 hm with h1 | h1
          · have := hinc.2.2 i h1 i List.mem_cons_self; omega
          · have := (List.pairwise_cons.1 hinc.2.1).1 i h1; omega
        refine ih (listed.setIfInBounds i true) (l1 ++ l2) (T1 ++ T2) s1 s2' g' b' a' w' k1 (he.trans k2) ?_ (fun x hx => hpl x ?_) (by simpa using hsz) (fun j => ?_) ?_ ?_ (fun j k hj h1 h2 => ?_) R' hlt' (fun r hr => ?_)
        · rw [List.pairwise_append] at hp ⊢
          exact ⟨hp.1, (List.pairwise_cons.1 hp.2.1).2, fun x hx y hy => hp.2.2 x hx y (List.mem_cons_of_mem _ hy)⟩
        · rcases List.mem_append.1 hx with hx | hx
          · exact List.mem_append.2 (.inl hx)
          · exact List.mem_append.2 (.inr (List.mem_cons_of_mem _ hx))
        · rw [hset]
          have hj := hl j
          rw [List.mem_append, List.mem_cons] at hj
          by_cases e : j = i
          · subst e
            rw [if_pos rfl]
            exact ⟨fun h => absurd h hin, fun h => by cases h.2⟩
          · rw [if_neg e, ← hj, List.mem_append]
            exact ⟨fun h => h.imp id .inr, fun h => h.imp id fun h => h.resolve_left e⟩
        · rw [List.pairwise_append] at hinc ⊢
          exact ⟨hinc.1, (List.pairwise_cons.1 hinc.2.1).2, fun x hx y hy => hinc.2.2 x hx y (List.mem_cons_of_mem _ hy)⟩
        · simp only [List.length_append, List.length_cons] at hlen ⊢; omega
        · rw [hset] at h1 ⊢
          by_cases e : j = i
          · subst e
            split
            · rfl
            · exact hnb k h2
          · rw [if_neg e] at h1
            have := hclo j k hj h1 h2
            split
            · rfl
            · exact this
        · rcases hb' rfl r hr with h | h
          · rcases hwin r h with h1 | ⟨j, h1, h2⟩
            · exact .inl h1
            · refine .inr ⟨j, ?_, h2⟩
              rw [hset]; split
              · rfl
              · exact h1
          · rcases hw r h with h1 | h1 | ⟨_, j, h1, h2⟩
            · exact .inl h1
            · exact .inr ⟨i, by rw [hset, if_pos rfl], h1⟩
            · refine .inr ⟨j, ?_, h2⟩
              rw [hset]; split
              · rfl
              · exact hnb j h1
theorem uD (hE : jg P env) (hN : pL P) (hm : P.follows .mixedOrders = true) {ro : Option Nat} {n : Nat} {id : Nat} {ops : Array Oper} {Q : Exit → Act → World → Prop} {as : List Act} {g : aK} {born : Nat → Prop} {a : Act} {tr : List (Nat × Touch)} {sE : St}
    (h : dX (R := List (Nat × Touch) × St) P cfg env (some st.rs.length) ops (List.range ops.size) [] st (fun tr st => some (tr, st)) = some (tr, sE)) (ht : (jE ops (Region.before ops).toList tr && (pq st.rs.length (Region.before ops).toList tr && lW ops)) = true)
    (R : Rel w0 st g born (a :: as) w) (hlt : ∀ r, born r → r < st.rs.length)
    (hQ : ∀ s a' w' g' born', Eqv sE s → Rel w0 s g' born' (a' :: as) w' → (∀ r, born' r → r < s.rs.length) → Q .normal a' w') : (Code.region id ops true).wpIn (rd ro) n P Q a w := by
  simp only [Bool.and_eq_true] at ht
  obtain ⟨h1, h2, h3⟩ := ht
  obtain ⟨T, k1, k2⟩ := vX hE.det _ _ _ _ _ h
  rw [List.append_nil] at k2
  subst k2
  have hR : Rel w0 st g born (a :: as) { w with drawn := w.drawn + 1 } := nT R ⟨rfl, rfl, rfl, Nat.le_refl _, fun _ _ => rfl⟩
  refine wpIn_region_any hm (w9 hE hN h3 hQ ops.size (Array.replicate ops.size false) (List.range ops.size) T st sE g born a _ k1 (Eqv.refl _) (sx T h1) (fun x hx r hr => ?_) (by simp) (fun i => ?_) ?_ (by simp) (fun i j hi h => ?_) hR hlt (fun r hr => .inl (hlt r hr)))
  · have := List.all_eq_true.1 h2 x (List.mem_reverse.2 hx)
    have := List.all_eq_true.1 this r hr
    rw [Bool.or_eq_true, Bool.or_eq_true, Bool.and_eq_true, Bool.and_eq_true] at this
    rcases this with h | ⟨h, h'⟩ | ⟨h, h'⟩
    · exact .inl (cD h)
    · exact .inr (.inl ⟨g8 h, cD h'⟩)
    · rcases Nat.lt_or_ge r st.rs.length with hr | hr
      · exact .inl hr
      · refine .inr (.inr ⟨cD h, (r - st.rs.length) / 16, ?_, by omega, by omega⟩)
        rw [← h', List.getD_eq_getElem?_getD, Array.getElem?_toList, Array.getD_eq_getD_getElem?]
  · simp only [List.mem_range]
    refine ⟨fun h => ⟨h, ?_⟩, fun h => h.1⟩
    simp [Array.getD_eq_getD_getElem?, h]
  · exact List.pairwise_lt_range
  · have : (Array.replicate ops.size false).getD i false = false := by simp [Array.getD_eq_getD_getElem?, hi]
    rw [this] at h; cases h
end
end
end Go.Am
end
