/- The machine is sound: what it makes of data the function makes of it; a law that it answers with true meets its contract. Conditions: the program's orders are followed (Good), its types laid out. -/
import Derived.Test.YtjgncdnkalajkaaAmY
import Derived.ProofKit
import Derived.SizedLaws
import Derived.ChangeOld
import Derived.Carry
import Derived.OpenShut
set_option linter.unusedSimpArgs false
set_option linter.unusedVariables false
set_option linter.unnecessarySimpa false
set_option linter.unusedSectionVars false
section
/- Soundness: the executor. -/
namespace Go.Am
noncomputable section
attribute [local instance] D.real

structure Good (P : Program) : Prop where
  num : NoNum P
  mixed : P.follows .mixedOrders = true

def exOf : Ex → Exit
  | .normal => .normal
  | .exit i => .exit i
  | .ret => .ret

section
variable {P : Program} {cfg : Cfg} {env : Env P} {w0 : Base}

theorem headC_some {R : Type} {h : Option (List Nat)} {F : St → Option R} {st : St} {r0 : R} {g : Ghost} {born : Nat → Prop} {acts : List Act} {w : World} (hh : headC h F st = some r0) (R : Rel w0 st g born acts w) (hlt : ∀ r, born r → r < st.rs.length) :
    ∃ st' g' born', F st' = some r0 ∧ Rel w0 st' g' born' acts w ∧ ∀ r, born' r → r < st'.rs.length := by
  rw [headC_eq] at hh
  cases h with
  | none => exact ⟨st, g, born, hh, R, hlt⟩
  | some live =>
    obtain ⟨g', b', R', h'⟩ := Rel_canon R hlt live
    exact ⟨_, g', b', hh, R', h'⟩

/-- The least of a property's numbers. -/
theorem least {p : Nat → Prop} (h : ∃ n, p n) : ∃ n, p n ∧ ∀ m, p m → n ≤ m := by
  obtain ⟨n, hn⟩ := h
  induction n using Nat.strongRecOn with
  | _ n ih =>
    by_cases hm : ∃ m, m < n ∧ p m
    · obtain ⟨m, h1, h2⟩ := hm
      exact ih m h1 h2
    · exact ⟨n, hn, fun m h => Nat.le_of_not_lt fun h' => hm ⟨m, h', h⟩⟩

theorem exec_sound (hE : EnvOK P env) (hG : Good P) (kl fid : Nat) : ∀ (c : Code) (R0 : Type) (r0 : R0) (K : Kont R0) (Q : Exit → Act → World → Prop) (as : List Act) (st : St) (g : Ghost) (born : Nat → Prop) (a : Act) (w : World),
    exec P cfg env kl fid c st K = some r0 → Rel w0 st g born (a :: as) w → (∀ r, born r → r < st.rs.length) →
    (∀ e st' a' w' g' born', K e st' = some r0 → Rel w0 st' g' born' (a' :: as) w' → (∀ r, born' r → r < st'.rs.length) → Q (exOf e) a' w') → c.wp P Q a w := by
  intro c
  induction c with
  | skip => intro R0 r0 K Q as st g born a w h R hlt hK; exact wp_skip (hK .normal st a w g born h R hlt)
  | region id ops draw =>
    intro R0 r0 K Q as st g born a w h R hlt hK
    unfold exec at h
    cases draw with
    | false =>
      simp only [cond_false] at h
      exact wp_region (runText_sound hE hG.num (List.range ops.size) [] st g born a w h R hlt fun tr' st' a' w' g' b' h' R' hlt' => hK .normal st' a' w' g' b' h' R' hlt')
    | true =>
      simp only [cond_true, natF_eq, natsF_eq] at h
      rw [runOps_bind hE.det] at h
      cases hr : runOps (R := List (Nat × Touch) × St) P cfg env (some st.rs.length) ops (List.range ops.size) [] st (fun tr st => some (tr, st)) with
      | none => rw [hr] at h; cases h
      | some p =>
        obtain ⟨tr, sE⟩ := p
        rw [hr] at h
        simp only [Option.bind_some] at h
        cases ht : (traceOk ops (Region.before ops).toList tr && (placeOk st.rs.length (Region.before ops).toList tr && edgesOk ops)) with
        | false => rw [ht] at h; cases h
        | true =>
          rw [ht] at h
          simp only [cond_true] at h
          refine region_draw hE hG.num hG.mixed hr ht R hlt fun s a' w' g' b' he R' hlt' => ?_
          exact hK .normal sE a' w' g' b' h (Rel_congr R' he.1 he.2.1) (fun r hr => by rw [he.2.2]; exact hlt' r hr)
  | seq x y ihx ihy =>
    intro R0 r0 K Q as st g born a w h R hlt hK
    unfold exec at h
    refine wp_seq (ihx R0 r0 _ _ as st g born a w h R hlt fun e st' a' w' g' b' h' R' hlt' => ?_)
    cases e with
    | normal =>
      have h' : headC (cfg.joins fid (key y)) (fun st => exec P cfg env kl fid y st K) st' = some r0 := h'
      obtain ⟨st2, g2, b2, h2, R2, hlt2⟩ := headC_some h' R' hlt'
      exact ihy R0 r0 K Q as st2 g2 b2 a' w' h2 R2 hlt2 hK
    | exit i => exact hK (.exit i) st' a' w' g' b' h' R' hlt'
    | ret => exact hK .ret st' a' w' g' b' h' R' hlt'
  | cond x c d ihc ihd =>
    intro R0 r0 K Q as st g born a w h R hlt hK
    unfold exec at h
    have hx := (ev_rel R x).1
    generalize evAV st x = v at h hx
    cases v with
    | bool b =>
      rw [AVrel] at hx
      have h : (if b = true then exec P cfg env kl fid c st K else exec P cfg env kl fid d st K) = some r0 := h
      refine wp_cond hx ?_
      cases b with
      | true => exact ihc R0 r0 K Q as st g born a w h R hlt hK
      | false => exact ihd R0 r0 K Q as st g born a w h R hlt hK
    | kb b =>
      rw [AVrel] at hx
      refine wp_cond hx ?_
      cases b with
      | true => exact ihc R0 r0 K Q as st g born a w h R hlt hK
      | false => exact ihd R0 r0 K Q as st g born a w h R hlt hK
    | nb n =>
      rw [AVrel] at hx
      obtain ⟨b, hx, hnb⟩ := hx
      have h : (bif Nat.beq (cfg.mode fid) 0 then (if decide (n = 0) = true then ways (exec P cfg env kl fid c st K) (exec P cfg env kl fid d st K) else exec P cfg env kl fid d st K) else none) = some r0 := h
      cases hm : Nat.beq (cfg.mode fid) 0 with
      | false => rw [hm] at h; cases h
      | true =>
        rw [hm] at h
        simp only [cond_true, decide_eq_true_eq] at h
        refine wp_cond hx ?_
        split at h
        · obtain ⟨h1, h2⟩ := ways_some h
          cases b with
          | true => exact ihc R0 r0 K Q as st g born a w h1 R hlt hK
          | false => exact ihd R0 r0 K Q as st g born a w h2 R hlt hK
        · next hn =>
          rw [hnb hn]
          exact ihd R0 r0 K Q as st g born a w h R hlt hK
    | _ => cases h
  | block id c ih =>
    intro R0 r0 K Q as st g born a w h R hlt hK
    unfold exec at h
    refine wp_block (ih R0 r0 _ _ as st g born a w h R hlt fun e st' a' w' g' b' h' R' hlt' => ?_)
    cases e with
    | normal => exact hK .normal st' a' w' g' b' h' R' hlt'
    | ret => exact hK .ret st' a' w' g' b' h' R' hlt'
    | exit i =>
      have h' : (bif Nat.beq i id then K .normal st' else K (.exit i) st') = some r0 := h'
      show (if i = id then Q .normal a' w' else Q (.exit i) a' w')
      cases hb : Nat.beq i id with
      | true =>
        rw [hb] at h'
        rw [if_pos (beq_of hb)]
        exact hK .normal st' a' w' g' b' h' R' hlt'
      | false =>
        rw [hb] at h'
        have : i ≠ id := fun e => by subst e; simp at hb
        rw [if_neg this]
        exact hK (.exit i) st' a' w' g' b' h' R' hlt'
  | loop c ih =>
    intro R0 r0 K Q as st g born a w h R hlt hK
    unfold exec at h
    obtain ⟨st1, g1, b1, h1, R1, hlt1⟩ := headC_some h R hlt
    -- n rounds are enough
    let J : Nat → Act → World → Prop := fun n a w => ∃ st g born, loopN (fun st K => exec P cfg env kl fid c st K) (cfg.loops fid (key c)) n st K = some r0 ∧ Rel w0 st g born (a :: as) w ∧ ∀ r, born r → r < st.rs.length
    classical
    let μ : Act → World → Nat := fun a w => if h : ∃ n, J n a w then Classical.choose (least h) else 0
    have hμ : ∀ n a w, J n a w → J (μ a w) a w ∧ μ a w ≤ n := by
      intro n a w hj
      have h : ∃ n, J n a w := ⟨n, hj⟩
      have e : μ a w = Classical.choose (least h) := dif_pos h
      have hs := Classical.choose_spec (least h)
      rw [e]
      exact ⟨hs.1, hs.2 n hj⟩
    refine wp_loop (fun a w => ∃ n, J n a w) μ ⟨kl, st1, g1, b1, h1, R1, hlt1⟩ fun a w hj => ?_
    obtain ⟨n, hj⟩ := hj
    obtain ⟨hj, _⟩ := hμ n a w hj
    generalize hn : μ a w = m at hj
    obtain ⟨s, g, born, hl, R, hlt⟩ := hj
    cases m with
    | zero => cases hl
    | succ m =>
      refine ih R0 r0 _ _ as s g born a w hl R hlt fun e st' a' w' g' b' h' R' hlt' => ?_
      cases e with
      | normal =>
        have h' : headC (cfg.loops fid (key c)) (fun st'' => loopN (fun st K => exec P cfg env kl fid c st K) (cfg.loops fid (key c)) m st'' K) st' = some r0 := h'
        obtain ⟨st2, g2, b2, h2, R2, hlt2⟩ := headC_some h' R' hlt'
        have hj' : J m a' w' := ⟨st2, g2, b2, h2, R2, hlt2⟩
        exact ⟨⟨m, hj'⟩, by have := (hμ m a' w' hj').2; omega⟩
      | exit i => exact hK (.exit i) st' a' w' g' b' h' R' hlt'
      | ret => exact hK .ret st' a' w' g' b' h' R' hlt'
  | exit id => intro R0 r0 K Q as st g born a w h R hlt hK; exact wp_exit (hK (.exit id) st a w g born h R hlt)
  | ret => intro R0 r0 K Q as st g born a w h R hlt hK; exact wp_ret (hK .ret st a w g born h R hlt)
  | rangeFunc f ps x y _ _ => intro R0 r0 K Q as st g born a w h; cases h
  | scope c _ => intro R0 r0 K Q as st g born a w h; cases h
  | label l => intro R0 r0 K Q as st g born a w h; cases h
  | goto l => intro R0 r0 K Q as st g born a w h; cases h
  | refuse s => intro R0 r0 K Q as st g born a w h; cases h
end
end
end Go.Am
end

section
/- Soundness: functions. What the machine makes of data, the function makes of it. -/
namespace Go.Am
noncomputable section
attribute [local instance] D.real

section
variable {P : Program} {cfg : Cfg} {env : Env P} {w0 : Base} {w : World} {st : St} {g : Ghost} {born : Nat → Prop} {a : Act} {as acts : List Act}

theorem frameOf_ok {get : Get} {fn : Func} {vs : List AV} {args : Array Value} (h : AVrelL get g vs args.toList) :
    FrameOK get g (frameOf fn vs) { tmps := args ++ Array.replicate (fn.ntmps - args.size) Go.undef, defers := [] } := by
  have hlen := AVrelL_len h
  simp only [Array.length_toList] at hlen
  refine ⟨?_, fun i => ?_, rfl⟩
  · unfold frameOf; simp; omega
  · unfold frameOf
    rw [← hlen]
    rcases Nat.lt_or_ge i vs.length with hi | hi
    · have e1 : (vs ++ List.replicate (fn.ntmps - args.size) (AV.tup [])).getD i .undef = vs.getD i .undef := by
        simp only [List.getD_eq_getElem?_getD]; rw [List.getElem?_append_left hi]
      have e2 : (args ++ Array.replicate (fn.ntmps - args.size) Go.undef).getD i Go.undef = args.getD i Go.undef := by
        simp only [Array.getD_eq_getD_getElem?]; rw [Array.getElem?_append_left (by omega)]
      rw [e1, e2]
      obtain ⟨x, h1, h2⟩ := AVrelL_get h (getD_get (d := AV.undef) hi)
      have : args.getD i Go.undef = x := by
        rw [Array.getD_eq_getD_getElem?]
        rw [Array.getElem?_toList] at h1
        rw [h1]; rfl
      rw [this]; exact h2
    · have e1 : (vs ++ List.replicate (fn.ntmps - args.size) (AV.tup [])).getD i .undef = if i - vs.length < fn.ntmps - args.size then .tup [] else .undef := by
        simp only [List.getD_eq_getElem?_getD]
        rw [List.getElem?_append_right hi, List.getElem?_replicate]
        split <;> rfl
      rw [e1]
      split
      · next h' =>
        have e2 : (args ++ Array.replicate (fn.ntmps - args.size) Go.undef).getD i Go.undef = Go.undef := by
          simp only [Array.getD_eq_getD_getElem?]
          rw [Array.getElem?_append_right (by omega), Array.getElem?_replicate]
          split <;> rfl
        rw [e2]; exact undef_tup _ _
      · simp [AVrel]

theorem frameOf_roots {fn : Func} {vs : List AV} {r : Nat} (h : r ∈ AV.rootsL (frameOf fn vs)) : r ∈ AV.rootsL vs := by
  unfold frameOf at h
  rcases app_roots h with h | h
  · exact h
  · rw [rootsL_none (fun v hv => by rw [List.eq_of_mem_replicate hv]; rfl)] at h
    cases h

theorem Rel_push (R : Rel w0 st g born acts w) {f : List AV} {a : Act} (hf : FrameOK st.get g f a) (hb : ∀ r ∈ AV.rootsL f, born r) : Rel w0 { st with fr := f :: st.fr } g born (a :: acts) w :=
  ⟨R.below, R.roots, R.sep, R.low, ⟨a, acts, rfl, hf, R.frames⟩, fun f' hf' r hr => by
    rcases List.mem_cons.1 hf' with rfl | hf'
    · exact hb r hr
    · exact R.bornF f' hf' r hr, R.bornR, R.alive⟩

theorem Rel_pop (R : Rel w0 st g born (a :: as) w) : Rel w0 { st with fr := st.fr.tail } g born as w ∧ a.defers = [] := by
  have hfr := R.frames
  have hbf := R.bornF
  generalize st.fr = fr at hfr hbf
  cases fr with
  | nil => simp only [FramesOK] at hfr; cases hfr
  | cons f fs =>
    obtain ⟨a', as', e, h1, h2⟩ := hfr
    injection e with e1 e2
    subst e1; subst e2
    exact ⟨⟨R.below, R.roots, R.sep, R.low, h2, fun f' hf' r hr => hbf f' (List.mem_cons_of_mem _ hf') r hr, R.bornR, R.alive⟩, h1.defers⟩

theorem Rel_empty (W : World) : Rel (Base.of W) ⟨[], []⟩ (fun _ => ⟨0, fun _ => Go.undef⟩) (fun _ => False) [] W := by
  have hd : ∀ r, (⟨[], []⟩ : St).get r = .dead := fun r => rfl
  refine ⟨Keeps.refl _ _, fun r => ?_, fun r r' b _ h => ?_, fun r b h => ?_, rfl, fun f h => (by cases h), fun r x h => ?_, fun r h => ?_⟩
  · unfold RootOK; rw [hd]; trivial
  · unfold Own at h; rw [hd] at h; exact h.elim
  · unfold Own at h; rw [hd] at h; exact h.elim
  · rw [hd] at h; simp [Root.roots] at h
  · exact absurd (hd r) h

theorem pure_valid (hE : EnvOK P env) (hG : Good P) {k f : Nat} {fn : Func} {c : Code} {x : den (argTy P f)} {y : den (resTy P f)} (hf : P.funcs[f]? = some fn) (hb : fn.body = some c)
    (h : (match layAll P false (argTys P f) x 0 with
      | (vs, rs) => St.force { fr := [frameOf fn vs], rs := rs } fun st => exec P cfg env k f c st (retC (finish P f fn))) = some y) : Valid P f x y := by
  refine ⟨⟨fn, hf, by rw [hb]; rfl⟩, fun W args hargs => ?_⟩
  obtain ⟨hF, G, hrep⟩ := hargs
  generalize hla : layAll P false (argTys P f) x 0 = la at h
  obtain ⟨vs, rs⟩ := la
  simp only [St.force_eq] at h
  obtain ⟨g, b, R, L, A, B, _⟩ := layAll_rel (P := P) (w0 := Base.of W) (w := W) (acts := []) false (argTys P f) x args.toList (argCells args.toList) ⟨[], []⟩ _ (fun _ => False) 0 0 G vs rs (Rel_empty W) hF (fun k _ => by rw [Nat.zero_add]) hrep
    (fun h => by cases h) (fun h => by cases h) hla (fun _ _ _ h => h)
  have hget : ∀ r, (St.mk [] rs).get r = ((St.mk [] []).setL (numbered 0 rs)).get r := fun r => get_append [] rs [] r
  have R1 : Rel (Base.of W) (St.mk [] rs) g b [] W := Rel_congr R rfl hget
  have A1 : AVrelL (St.mk [] rs).get g vs args.toList := by rw [show (St.mk [] rs).get = _ from funext hget]; exact A
  have R2 := Rel_push R1 (frameOf_ok (fn := fn) A1) (fun r hr => (L.born_iff r).2 (.inr (B r (frameOf_roots hr))))
  refine calls_of_wp hf hb (exec_sound hE hG k f c _ y (retC (finish P f fn)) _ [] _ g b _ W h R2 (fun r hr => ?_) fun e st' a' w' g' b' h' R' hlt' => ?_)
  · show r < rs.length
    have := ((L.born_iff r).1 hr)
    simp only [false_or, Nat.zero_add] at this
    exact this.2
  · have key : finish P f fn st' = some y → a'.defers = [] ∧ ∃ v, (results fn a'.tmps).run P w' = .ok v w' ∧ ∃ us, Ending.returned v = .returned (resV us) ∧ RowKit.Below W.heap.size W w' ∧ ReadsRes P W.heap.size w' (resTys P f) us y := by
      intro hfin
      unfold finish at hfin
      generalize hrt : rets P fn st' = rt at hfin
      obtain ⟨ok, vs'⟩ := rt
      simp only at hfin
      generalize hrd : readD st'.get (resTy P f) (vs'.flatMap AV.cells) = rd at hfin
      obtain ⟨ok1, d, rest⟩ := rd
      simp only at hfin
      generalize hgv : gives st'.get (resTy P f) (vs'.flatMap AV.cells) = gv at hfin
      obtain ⟨ok2, l, rest2⟩ := gv
      simp only [chk_eq] at hfin
      split at hfin
      · next hok =>
        simp only [Option.some.injEq] at hfin
        subst hfin
        have hok := okB_iff.1 hok
        obtain ⟨k1, k4⟩ := okAll_append.1 hok
        obtain ⟨k1, k3⟩ := okAll_append.1 k1
        obtain ⟨k1, k2⟩ := okAll_append.1 k1
        obtain ⟨k4, k5⟩ := okAll_cons.1 k4
        obtain ⟨_, k6⟩ := okAll_cons.1 k5
        have k6 : l.Nodup := of_decide_eq_true (okAll_cons.1 k6).1
        obtain ⟨us, r1, r2, r3⟩ := rets_rel (P := P) (fn := fn) R' (by rw [hrt]; exact k1)
        rw [hrt] at r2
        obtain ⟨f1, f2, f3⟩ := fitAll_rel (resTys P f) vs' us k4 r2
        obtain ⟨q1, _, q3, q4, _⟩ := gives_rel R'.roots R'.sep f2 (resTy P f) 0 ok1 ok2 d l rest rest2 hrd hgv k2 k3
        refine ⟨(Rel_pop R').2, _, r1, us, rfl, R'.below.below, f1, _, q1, q4 k6, fun bl hbl => ?_⟩
        obtain ⟨r, _, ho⟩ := q3 bl hbl
        exact Nat.le_of_not_lt fun hlt => R'.low r bl ho ⟨hlt, fun h => h⟩
      · cases hfin
    cases e with
    | normal => exact key h'
    | ret => exact key h'
    | exit i => cases h'

theorem inl_valid (hE : EnvOK P env) (hG : Good P) {k f : Nat} {vs vs' : List AV} {st st' : St} (h : runInl P cfg env k (R := List AV × St) f vs st (fun vs st => some (vs, st)) = some (vs', st')) : InlOK P f vs st vs' st' := by
  unfold runInl at h
  cases hm : Nat.beq (cfg.mode f) 0 with
  | true => rw [hm] at h; cases h
  | false =>
  rw [hm] at h
  simp only [cond_false] at h
  split at h
  · cases h
  next fn hf =>
  split at h
  · cases h
  next c hb =>
  rw [St.force_eq] at h
  refine ⟨⟨fn, hf, by rw [hb]; rfl⟩, fun w0 g born acts w us R hlt hA hAb => ?_⟩
  have R2 := Rel_push R (frameOf_ok (fn := fn) (args := us.toArray) (by simpa using hA)) (fun r hr => hAb r (frameOf_roots hr))
  refine calls_of_wp hf hb (exec_sound hE hG k f c _ (vs', st') _ _ acts _ g born _ w h R2 hlt fun e st2 a' w' g' b' h' R' hlt' => ?_)
  have key : inlBack P fn (fun vs st => some (vs, st)) st2 = some (vs', st') → a'.defers = [] ∧ ∃ v, (results fn a'.tmps).run P w' = .ok v w' ∧ ∃ us' g' born', Ending.returned v = .returned (resV us') ∧ Rel w0 st' g' born' acts w' ∧ (∀ r, born' r → r < st'.rs.length) ∧ AVrelL st'.get g' vs' us' ∧ ∀ r ∈ AV.rootsL vs', born' r := by
    intro hfin
    unfold inlBack at hfin
    generalize hrt : rets P fn st2 = rt at hfin
    obtain ⟨ok, vs2⟩ := rt
    simp only [chk_eq] at hfin
    split at hfin
    · next hok =>
      simp only [Option.some.injEq, Prod.mk.injEq] at hfin
      obtain ⟨rfl, rfl⟩ := hfin
      obtain ⟨us', r1, r2, r3⟩ := rets_rel (P := P) (fn := fn) R' (by rw [hrt]; exact okB_iff.1 hok)
      rw [hrt] at r2 r3
      obtain ⟨p1, p2⟩ := Rel_pop R'
      exact ⟨p2, _, r1, us', g', b', rfl, p1, hlt', r2, r3⟩
    · cases hfin
  cases e with
  | normal => exact key h'
  | ret => exact key h'
  | exit i => cases h'

theorem runInl_det (hE : EnvDet P env) (k : Nat) : ∀ (R : Type) (f : Nat) (vs : List AV) (st : St) (K : List AV → St → Option R), runInl P cfg env k f vs st K = (runInl P cfg env k (R := List AV × St) f vs st fun vs st => some (vs, st)).bind fun p => K p.1 p.2 := by
  intro R f vs st K
  unfold runInl
  cases hm : Nat.beq (cfg.mode f) 0 with
  | true => rfl
  | false =>
  simp only [cond_false]
  split
  · rfl
  · next fn _ =>
    split
    · rfl
    · next c _ =>
      rw [St.force_eq, St.force_eq, exec_bind hE _ _ hm, exec_bind hE _ _ hm (R := List AV × St) (K := retC (inlBack P fn fun vs st => some (vs, st))), Option.bind_assoc]
      congr 1
      funext p
      obtain ⟨e, s⟩ := p
      have key : inlBack P fn K s = (inlBack P fn (fun vs st => some (vs, st)) s).bind fun p => K p.1 p.2 := by
        unfold inlBack
        generalize rets P fn s = rt
        obtain ⟨ok, vs⟩ := rt
        simp only [chk_eq, ite_bind]
        rfl
      cases e with
      | normal => exact key
      | ret => exact key
      | exit i => rfl

/-- Contracts that are brought hold. -/
def ExtOK (P : Program) (E : Ext P) : Prop := ∀ f gf x y, E f = some gf → gf x = some y → Valid P f x y

theorem envAt_ok (hG : Good P) {E : Ext P} (hX : ExtOK P E) : ∀ k, EnvOK P (envAt P cfg E k)
  | 0 => ⟨fun _ _ _ _ _ => rfl, fun f x y h => (by cases h), fun f vs st vs' st' h => (by cases h)⟩
  | k + 1 => by
    have ih := envAt_ok hG hX k
    refine ⟨fun R f vs st K => runInl_det ih.det k R f vs st K, fun f x y h => ?_, fun f vs st vs' st' h => inl_valid ih hG h⟩
    have h : runPure P cfg E (envAt P cfg E k) k f x = some y := h
    unfold runPure at h
    split at h
    · next gf hgf => exact hX f gf x y hgf h
    · split at h
      · cases h
      · next fn hf =>
        split at h
        · cases h
        · next c hb => exact pure_valid ih hG hf hb h

/-- What the machine makes of data, the function makes of it. -/
theorem amcall_valid (hG : Good P) {E : Ext P} (hX : ExtOK P E) {k f : Nat} {x : den (argTy P f)} {y : den (resTy P f)} (h : amcall P cfg E k f x = some y) : Valid P f x y :=
  (envAt_ok hG hX k).pc f x y h
end
end
end Go.Am
end

section
/- The law's row: arguments read as data; what a law's equation says of the row. -/
namespace Go.Am
noncomputable section
attribute [local instance] D.real
open Go.ChangeShapes Go.RowKit

/-- Data within bounds. -/
def WfD : (t : Ty) → den t → Prop
  | .int k, n => (Lit.int k n).wf = true
  | .bool, _ => True
  | .str, s => s.size ≤ maxLen
  | .sl e, xs => List.length (α := den e) xs ≤ maxLen ∧ ∀ x ∈ (xs : List (den e)), WfD e x
  | .pair a b, d => WfD a d.1 ∧ WfD b d.2
  | .unit, _ => True

def fitFields (F : TypeId → Option Ty) (cells : TypeId → Nat) : List Field → Nat → Option (List Ty)
  | [], _ => some []
  | f :: fs, off => match F f.type with
    | none => none
    | some te => bif Nat.beq f.offset off && Nat.beq (cells f.type) te.size then (match fitFields F cells fs (off + te.size) with
      | some l => some (te :: l)
      | none => none) else none

/-- The tree of a type, its layout checked. -/
def tyFit (P : Program) : Nat → TypeId → Option Ty
  | 0, _ => none
  | n + 1, t => match P.underlying t with
    | some .bool => some .bool
    | some (.int k) => some (.int k)
    | some .string => some .str
    | some (.slice e) => (match tyFit P n e with
      | some te => bif Nat.beq (P.cellsOf e) te.size then some (.sl te) else none
      | none => none)
    | some (.struct fs) => (match fitFields (tyFit P n) P.cellsOf fs.toList 0 with
      | some l => bif Nat.beq (P.cellsOf t) (Ty.all l).size then some (Ty.all l) else none
      | none => none)
    | _ => none

section
variable {H : Type} {enc : TypeId × Value → H} {P : Program} {w : World} {base : Nat} {spare : Nat → Bool} {held : Bool}

theorem skolem {α β : Type} [Inhabited α] [Inhabited β] {n : Nat} {p : Nat → α → β → Prop} (h : ∀ i, i < n → ∃ a b, p i a b) : ∃ (f : Nat → α) (g : Nat → β), ∀ i, i < n → p i (f i) (g i) := by
  classical
  refine ⟨fun i => if h' : i < n then Classical.choose (h i h') else default, fun i => if h' : i < n then Classical.choose (Classical.choose_spec (h i h')) else default, fun i hi => ?_⟩
  simp only [hi, dif_pos]
  exact Classical.choose_spec (Classical.choose_spec (h i hi))

instance : Inhabited (Nat → Path → Value) := ⟨fun _ _ => Go.undef⟩

theorem all_size (t : Ty) (l : List Ty) : (Ty.all (t :: l)).size = t.size + (Ty.all l).size := by
  cases l with
  | nil => simp [Ty.all, Ty.size]
  | cons u r => rfl

/-- Parts in sequence are the whole. -/
theorem rep_all : ∀ (l : List Ty) (f : Nat) (rd : Nat → Option Value), (∀ (pre : List Ty) (t : Ty) (post : List Ty), l = pre ++ t :: post → ∃ (d : den t) (G : Nat → Path → Value), Rep w false t d G (f + (Ty.all pre).size) rd ∧ WfD t d) →
    ∃ (d : den (Ty.all l)) (G : Nat → Path → Value), Rep w false (Ty.all l) d G f rd ∧ WfD (Ty.all l) d
  | [], f, rd, _ => ⟨(), fun _ _ => Go.undef, trivial, trivial⟩
  | [t], f, rd, h => by
    obtain ⟨d, G, h1, h2⟩ := h [] t [] rfl
    exact ⟨d, G, h1, h2⟩
  | t :: u :: r, f, rd, h => by
    obtain ⟨d1, G1, h1, h2⟩ := h [] t (u :: r) rfl
    obtain ⟨d2, G2, h3, h4⟩ := rep_all (u :: r) (f + t.size) rd (fun pre t' post e => by
      obtain ⟨d, G, h5, h6⟩ := h (t :: pre) t' post (by rw [e]; rfl)
      rw [all_size, ← Nat.add_assoc] at h5
      exact ⟨d, G, h5, h6⟩)
    refine ⟨(d1, d2), fun k => if k < f + t.size then G1 k else G2 k, ⟨?_, ?_⟩, ⟨h2, h4⟩⟩
    · exact rep_congG t d1 G1 _ f rd (fun g _ hg => by simp [hg]) (by simpa [Ty.all, Ty.size] using h1)
    · exact rep_congG _ d2 G2 _ (f + t.size) rd (fun g hg _ => by simp [Nat.not_lt.2 hg]) h3

theorem fitFields_spec {F : TypeId → Option Ty} {cells : TypeId → Nat} : ∀ (fs : List Field) (off : Nat) (l : List Ty), fitFields F cells fs off = some l → l.length = fs.length ∧ ∀ (pre : List Ty) (t : Ty) (post : List Ty), l = pre ++ t :: post →
    ∃ f, fs[pre.length]? = some f ∧ F f.type = some t ∧ f.offset = off + (Ty.all pre).size ∧ cells f.type = t.size
  | [], off, l, h => by
    simp only [fitFields, Option.some.injEq] at h
    subst h
    exact ⟨rfl, fun pre t post e => by cases pre <;> cases e⟩
  | f :: fs, off, l, h => by
    unfold fitFields at h
    split at h
    · cases h
    · next te hF =>
      cases hc : (Nat.beq f.offset off && Nat.beq (cells f.type) te.size) with
      | false => rw [hc] at h; cases h
      | true =>
        rw [hc] at h
        simp only [cond_true] at h
        split at h
        · next l' hl =>
          simp only [Option.some.injEq] at h
          subst h
          obtain ⟨h1, h2⟩ := fitFields_spec fs (off + te.size) l' hl
          rw [Bool.and_eq_true] at hc
          refine ⟨by simp [h1], fun pre t post e => ?_⟩
          cases pre with
          | nil =>
            injection e with e1 e2
            subst e1
            exact ⟨f, rfl, hF, by simpa [Ty.all, Ty.size] using beq_of hc.1, beq_of hc.2⟩
          | cons p pre =>
            injection e with e1 e2
            subst e1
            obtain ⟨f', k1, k2, k3, k4⟩ := h2 pre t post e2
            exact ⟨f', by simpa using k1, k2, by rw [all_size]; omega, k4⟩
        · cases h

/-- The part's cells lie in the whole. -/
theorem rep_shift : ∀ (t : Ty) (d : den t) (G : Nat → Path → Value) (f0 o : Nat) (rd rd' : Nat → Option Value), Rep w false t d G f0 rd → (∀ g, f0 ≤ g → g < f0 + t.size → rd' (g + o) = rd g) → Rep w false t d (fun k => G (k - o)) (f0 + o) rd' := by
  intro t
  induction t with
  | int k => intro d G f0 o rd rd' h hr; exact (hr f0 (Nat.le_refl _) (by simp [Ty.size])).trans h
  | bool => intro d G f0 o rd rd' h hr; exact (hr f0 (Nat.le_refl _) (by simp [Ty.size])).trans h
  | str => intro d G f0 o rd rd' h hr; exact (hr f0 (Nat.le_refl _) (by simp [Ty.size])).trans h
  | unit => intros; trivial
  | sl e _ =>
    intro d G f0 o rd rd' h hr
    have e1 : f0 + o - o = f0 := by omega
    refine ⟨?_, ?_⟩
    · show rd' (f0 + o) = some (G (f0 + o - o) [])
      rw [e1]; exact (hr f0 (Nat.le_refl _) (by simp [Ty.size])).trans h.1
    · show RepRow _ _ _ _ _ (G (f0 + o - o))
      rw [e1]; exact h.2
  | pair a b iha ihb =>
    intro d G f0 o rd rd' h hr
    simp only [Ty.size] at hr
    refine ⟨iha d.1 G f0 o rd rd' h.1 fun g h1 h2 => hr g h1 (by omega), ?_⟩
    have := ihb d.2 G (f0 + a.size) o rd rd' h.2 fun g h1 h2 => hr g (by omega) (by omega)
    rw [show f0 + a.size + o = f0 + o + a.size by omega] at this
    exact this

/-- What reads as a datum reads as data. -/
theorem trod_rep : ∀ (n : Nat) (t : TypeId) (ty : Ty) (fuel : Nat) (cs : List Value) (x : DataW H × List MemPlace), tyFit P n t = some ty → DataW.trod enc P w base spare held fuel t cs = some x →
    ∃ (d : den ty) (G : Nat → Path → Value), Rep w false ty d G 0 (fun k => cs[k]?) ∧ WfD ty d := by
  intro n
  induction n with
  | zero => intro t ty fuel cs x h; cases h
  | succ n ih =>
    intro t ty fuel cs x h hx
    unfold tyFit at h
    split at h
    · next hu =>
      injection h with h; subst h
      obtain ⟨b, rfl, _⟩ := DataW.trod_bool hu hx
      exact ⟨b, fun _ _ => Go.undef, rfl, trivial⟩
    · next k hu =>
      injection h with h; subst h
      obtain ⟨m, rfl, _, hw⟩ := DataW.trod_int hu hx
      exact ⟨m, fun _ _ => Go.undef, rfl, hw⟩
    · next hu =>
      injection h with h; subst h
      obtain ⟨s, rfl, _, hs⟩ := DataW.trod_string hu hx
      exact ⟨s, fun _ _ => Go.undef, rfl, hs⟩
    · next e hu =>
      split at h
      · next te hte =>
        cases hc : Nat.beq (P.cellsOf e) te.size with
        | false => rw [hc] at h; cases h
        | true =>
          rw [hc] at h
          injection h with h; subst h
          have hc := beq_of hc
          rcases DataW.trod_slice hu hx with ⟨rfl, _⟩ | ⟨a, len, cap, elems, rest, m, rfl, rfl, _, _, hle, hcap, hel, hi, _⟩
          · exact ⟨([] : List (den te)), fun _ _ => .slice none 0 0, ⟨rfl, .inl ⟨rfl, rfl⟩⟩, Nat.zero_le _, fun x hx => by cases hx⟩
          · have : Inhabited (den te) := ⟨dflt te⟩
            obtain ⟨df, Gf, hdG⟩ := skolem (α := den te) (β := Nat → Path → Value) (n := len) (p := fun i d G => Rep w false te d G 0 (fun f => w.cell? (a.add (i * te.size + f))) ∧ WfD te d) (fun i hil => by
              have h1 := hi i hil
              have hlt : i < elems.length := by omega
              rw [List.getElem?_eq_getElem hlt, Option.bind_eq_some_iff] at h1
              obtain ⟨cs', h2, h3⟩ := h1
              obtain ⟨_, h4, h5⟩ := World.cells?_some h2
              obtain ⟨d, G, h6, h7⟩ := ih e te m cs' _ hte h3
              refine ⟨d, G, rep_frame te d G 0 _ _ (fun _ _ => rfl) (fun g _ hg => ?_) h6, h7⟩
              rw [← hc, ← add_add]
              exact h5 g (by omega))
            refine ⟨((List.range len).map df : List (den te)), fun _ q => match q with
              | [] => .slice (some a) len cap
              | (i, f) :: q => Gf i f q, ⟨rfl, .inr ⟨a, cap, by simp, by simpa using hle, (fun h => by cases h), fun i x hx => ?_⟩⟩, by simpa [WfD] using (Nat.le_trans hle hcap), fun x hx => ?_⟩
            · rw [List.getElem?_map] at hx
              have hil : i < len := by
                rcases Nat.lt_or_ge i len with h | h
                · exact h
                · rw [List.getElem?_eq_none (by simpa using h)] at hx; cases hx
              have hx : df i = x := by simpa [hil] using hx
              subst hx
              exact (hdG i hil).1
            · obtain ⟨i, hi', rfl⟩ := List.mem_map.1 hx
              exact (hdG i (List.mem_range.1 hi')).2
      · cases h
    · next fs hu =>
      split at h
      · next l hl =>
        cases hc : Nat.beq (P.cellsOf t) (Ty.all l).size with
        | false => rw [hc] at h; cases h
        | true =>
          rw [hc] at h
          injection h with h; subst h
          obtain ⟨hlen, hf⟩ := fitFields_spec fs.toList 0 l hl
          obtain ⟨xs, m, rfl, _, hcl, hxl, hfi⟩ := DataW.trod_struct hu hx
          refine rep_all l 0 _ fun pre ty post e => ?_
          obtain ⟨f, k1, k2, k3, k4⟩ := hf pre ty post e
          have hfs : fs[pre.length]? = some f := by simpa using k1
          have h1 := hfi pre.length f hfs
          have hlt : pre.length < xs.length := by rw [hxl]; exact (Array.getElem?_eq_some_iff.1 hfs).1
          rw [List.getElem?_eq_getElem hlt] at h1
          obtain ⟨d, G, h2, h3⟩ := ih f.type ty m _ _ k2 h1
          have hsh := rep_shift ty d G 0 f.offset _ (fun k => cs[k]?) h2 (fun g _ hg => by
            simp only [Nat.zero_add] at hg
            show cs[g + f.offset]? = ((cs.drop f.offset).take (P.cellsOf f.type))[g]?
            rw [List.getElem?_take, if_pos (by omega), List.getElem?_drop, Nat.add_comm])
          rw [k3, Nat.zero_add] at hsh
          exact ⟨d, _, hsh, h3⟩
      · cases h
    · cases h

/-- The arguments' types, as the row needs them. -/
def lawTy (P : Program) (t : TypeId) : Bool := (match tyFit P 6 t with
  | some ty => decide (ty = tyD P t)
  | none => false) && (aggD P t == isAggT P t) && P.readableRec t && Nat.blt t P.types.size

theorem lawTy_spec {t : TypeId} (h : lawTy P t = true) : tyFit P 6 t = some (tyD P t) ∧ aggD P t = isAggT P t ∧ P.readableRec t = true ∧ t < P.types.size := by
  unfold lawTy at h
  simp only [Bool.and_eq_true, beq_iff_eq] at h
  obtain ⟨⟨⟨h1, h2⟩, h3⟩, h4⟩ := h
  refine ⟨?_, h2, h3, lt_of_blt h4⟩
  split at h1
  · next ty hty => rw [hty, of_decide_eq_true h1]
  · cases h1

theorem rep_len : ∀ (t : Ty) (d : den t) (G : Nat → Path → Value) (f : Nat) (cs : List Value), Rep w false t d G f (fun k => cs[k]?) → f ≤ cs.length → f + t.size ≤ cs.length := by
  intro t
  have one : ∀ (f : Nat) (cs : List Value) (v : Value), cs[f]? = some v → f + 1 ≤ cs.length := fun f cs v h => (List.getElem?_eq_some_iff.1 h).1
  induction t with
  | int k => intro d G f cs h _; exact one f cs _ h
  | bool => intro d G f cs h _; exact one f cs _ h
  | str => intro d G f cs h _; exact one f cs _ h
  | unit => intro d G f cs _ h; simpa [Ty.size] using h
  | sl e _ => intro d G f cs h _; exact one f cs _ h.1
  | pair a b iha ihb =>
    intro d G f cs h hf
    simp only [Ty.size]
    have := ihb _ _ _ cs h.2 (iha _ _ _ cs h.1 hf)
    omega

theorem tyFit_cells : ∀ (n : Nat) (t : TypeId) (ty : Ty) (fuel : Nat) (cs : List Value) (x : DataW H × List MemPlace), tyFit P n t = some ty → DataW.trod enc P w base spare held fuel t cs = some x → cs.length = ty.size := by
  intro n t ty fuel cs x h hx
  cases n with
  | zero => cases h
  | succ n =>
    unfold tyFit at h
    split at h
    · next hu => injection h with h; subst h; obtain ⟨b, rfl, _⟩ := DataW.trod_bool hu hx; rfl
    · next k hu => injection h with h; subst h; obtain ⟨m, rfl, _, hw⟩ := DataW.trod_int hu hx; rfl
    · next hu => injection h with h; subst h; obtain ⟨s, rfl, _, hs⟩ := DataW.trod_string hu hx; rfl
    · next e hu =>
      split at h
      · next te hte =>
        cases hc : Nat.beq (P.cellsOf e) te.size with
        | false => rw [hc] at h; cases h
        | true =>
          rw [hc] at h
          injection h with h; subst h
          rcases DataW.trod_slice hu hx with ⟨rfl, _⟩ | ⟨a, len, cap, elems, rest, m, rfl, rfl, _⟩ <;> rfl
      · cases h
    · next fs hu =>
      split at h
      · next l hl =>
        cases hc : Nat.beq (P.cellsOf t) (Ty.all l).size with
        | false => rw [hc] at h; cases h
        | true =>
          rw [hc] at h
          injection h with h; subst h
          obtain ⟨xs, m, rfl, _, hcl, _⟩ := DataW.trod_struct hu hx
          rw [hcl, beq_of hc]
      · cases h
    · cases h

/-- A type that is no struct is one cell. -/
theorem tyFit_base {t : TypeId} {ty : Ty} {n : Nat} (h : tyFit P n t = some ty) (hns : ∀ fs, P.underlying t ≠ some (.struct fs)) :
    P.underlying t = some .bool ∨ (∃ k, P.underlying t = some (.int k)) ∨ P.underlying t = some .string ∨ ∃ e, P.underlying t = some (.slice e) := by
  cases n with
  | zero => cases h
  | succ n =>
    unfold tyFit at h
    split at h
    · next hu => exact .inl hu
    · next k hu => exact .inr (.inl ⟨k, hu⟩)
    · next hu => exact .inr (.inr (.inl hu))
    · next e hu => exact .inr (.inr (.inr ⟨e, hu⟩))
    · next fs hu => exact absurd hu (hns fs)
    · cases h

/-- A value that has its type's outer form and reads as a datum. -/
theorem trod_fit {t : TypeId} {v : Value} {d : DataW H} {ps : List MemPlace} {r : Reach} {b0 : Nat} (hl : lawTy P t = true) (hval : Value.okWide P w r b0 t v) (h : DataW.Trod enc P w base spare held t v d ps) :
    Fit P t v ∧ ∃ (x : den (tyD P t)) (G : Nat → Path → Value), Rep w false (tyD P t) x G 0 (fun k => v.cells.toList[k]?) ∧ WfD (tyD P t) x := by
  obtain ⟨h1, h2, _, _⟩ := lawTy_spec hl
  obtain ⟨fuel, hx⟩ := h
  obtain ⟨x, G, hr, hw⟩ := trod_rep 6 t _ fuel _ _ h1 hx
  have hlen := tyFit_cells 6 t _ fuel _ _ h1 hx
  have hone : ∀ c ∈ v.cells.toList, c.oneCell' = true := by
    intro c hc
    obtain ⟨k, hk, rfl⟩ := List.getElem_of_mem hc
    obtain ⟨u, h3, h4⟩ := rep_cells _ _ _ 0 _ hr k (Nat.zero_le _) (by omega)
    have h3 : v.cells.toList[k]? = some u := h3
    rw [List.getElem?_eq_getElem hk] at h3
    injection h3 with h3
    rw [h3]; exact h4
  refine ⟨?_, x, G, hr, hw⟩
  unfold Fit
  rw [h2]
  unfold Value.okWide at hval
  unfold isAggT
  split at hval
  · next hu =>
    rw [hu]
    obtain ⟨cs, rfl, hcs, _⟩ := hval
    rw [if_pos rfl]
    exact ⟨cs, rfl, by simpa [Value.cells] using hlen, hone⟩
  · next hu =>
    rw [hu]
    obtain ⟨cs, rfl, hcs, _⟩ := hval
    rw [if_pos rfl]
    exact ⟨cs, rfl, by simpa [Value.cells] using hlen, hone⟩
  · next n1 n2 =>
    have hnt := tyFit_base h1 n1
    have hnagg : v.oneCell' = true := by
      rcases hnt with hu | ⟨k, hu⟩ | hu | ⟨e, hu⟩ <;> simp only [Cell.okWide, Cell.ok, hu] at hval <;> split at hval <;> first | rfl | cases hval
    rw [if_neg (by
      rcases hnt with hu | ⟨k, hu⟩ | hu | ⟨e, hu⟩ <;> rw [hu] <;> simp)]
    refine ⟨hnagg, ?_⟩
    rw [one_cells hnagg] at hlen
    simpa using hlen.symm
end
end
end Go.Am
end

section
/- The law's row: a law function that the machine answers with true meets its contract. -/
namespace Go.Am
noncomputable section
attribute [local instance] D.real
open Go.ChangeShapes Go.RowKit

/-- The datum true. -/
def TrueB : (t : Ty) → den t → Prop
  | .bool, b => b = true
  | _, _ => False

section
variable {H : Type} {enc : TypeId × Value → H} {P : Program} {w : World} {base : Nat} {spare : Nat → Bool} {held : Bool} {cfg : Cfg}

theorem trodAll_reads {r : Reach} {b0 : Nat} : ∀ (ts : List TypeId) (us : List Value) (ds : List (DataW H)) (ps : List MemPlace), (∀ t ∈ ts, lawTy P t = true) →
    (∀ (j : Nat) t v, ts[j]? = some t → us[j]? = some v → Value.okWide P w r b0 t v) → DataW.TrodAll enc P w base spare held ts us ds ps → ∃ x : den (tyAll P ts), ReadsArgs P w ts us x ∧ WfD (tyAll P ts) x
  | [], us, ds, ps, _, _, h => by
    obtain ⟨rfl, _, _⟩ := trodAll_nil h
    exact ⟨(), ⟨rfl, fun _ _ => Go.undef, trivial⟩, trivial⟩
  | [t], us, ds, ps, hl, hv, h => by
    obtain ⟨u, us', d, ds', p, q, rfl, rfl, rfl, h1, h2⟩ := trodAll_cons h
    obtain ⟨rfl, _, _⟩ := trodAll_nil h2
    obtain ⟨hf, x, G, hr, hw⟩ := trod_fit (hl t (by simp)) (hv 0 t u rfl rfl) h1
    refine ⟨x, ⟨⟨u, [], rfl, hf, rfl⟩, G, ?_⟩, hw⟩
    have e : argCells [u] = u.cells.toList := by simp [argCells]
    rw [e]; exact hr
  | t :: t2 :: ts, us, ds, ps, hl, hv, h => by
    obtain ⟨u, us', d, ds', p, q, rfl, rfl, rfl, h1, h2⟩ := trodAll_cons h
    obtain ⟨hf, x, G, hr, hw⟩ := trod_fit (hl t (by simp)) (hv 0 t u rfl rfl) h1
    obtain ⟨y, ⟨hf2, G2, hr2⟩, hw2⟩ := trodAll_reads (t2 :: ts) us' ds' q (fun t ht => hl t (by simp [ht])) (fun j t v h1 h2 => hv (j + 1) t v h1 h2) h2
    obtain ⟨hc, _⟩ := fit_cells hf
    refine ⟨(x, y), ⟨⟨u, us', rfl, hf, hf2⟩, fun k => if k < (tyD P t).size then G k else G2 (k - (tyD P t).size), ?_, ?_⟩, ⟨hw, hw2⟩⟩
    · refine rep_frame _ x _ 0 (fun k => u.cells.toList[k]?) _ (fun _ _ => rfl) (fun g _ hg => ?_) (rep_congG _ x G _ 0 _ (fun g _ hg => by simp only [Nat.zero_add] at hg; simp [hg]) hr)
      rw [argCells_cons, List.getElem?_append_left (by simp; omega)]
    · refine rep_congG _ y (fun k => G2 (k - (tyD P t).size)) _ _ _ (fun g hg _ => by simp only [Nat.zero_add] at hg; simp [Nat.not_lt.2 hg]) ?_
      have := rep_shift _ y G2 0 (tyD P t).size (fun k => (argCells us')[k]?) (fun k => (argCells (u :: us'))[k]?) hr2 (fun g _ _ => by
        rw [argCells_cons, List.getElem?_append_right (by simp; omega)]
        congr 1
        simp; omega)
      exact this

theorem trodAll_stays (hlaid : laidOutB P = true) {W W' : World} (hb : Below W.heap.size W W') : ∀ (ts : List TypeId) (us : List Value) (ds : List (DataW H)) (ps : List MemPlace), (∀ t ∈ ts, lawTy P t = true) →
    DataW.TrodAll enc P W 0 (fun _ => true) true ts us ds ps → DataW.TrodAll enc P W' 0 (fun b => decide (b < W.heap.size)) true ts us ds ps
  | [], us, ds, ps, _, h => by
    obtain ⟨rfl, rfl, rfl⟩ := trodAll_nil h
    exact trodAll_mk0
  | t :: ts, us, ds, ps, hl, h => by
    have hlt := DataW.TrodAll.lt h
    obtain ⟨u, us', d, ds', p, q, rfl, rfl, rfl, h1, h2⟩ := trodAll_cons h
    obtain ⟨_, _, h3, h4⟩ := lawTy_spec (hl t (by simp))
    exact trodAll_cons_mk (Below.trod hlaid h3 h4 h1 hb fun x hx => hlt x (List.mem_append.2 (.inl hx))) (trodAll_stays hlaid hb ts us' ds' q (fun t ht => hl t (by simp [ht])) h2)

theorem tyOf_bool {t : TypeId} (h : P.underlying t = some .bool) : tyOf P t = some (false, .bool) := by
  unfold tyOf tyAt
  rw [h]

/-- A law that the machine answers with true, whatever well-formed data it is given, is true. -/
theorem law_contract (hG : Good P) {E : Ext P} (hX : ExtOK P E) (hlaid : laidOutB P = true) {f : Nat} {fn : Func} (hf : P.funcs[f]? = some fn) {s : ChangeSpec} (hvars : s.vars = [])
    (hfn : ∀ (ds : List (DataW H)), ds.length = fn.params.toList.length → s.fn H ds = { results := [.lit (.bool true)], args := ds }) (hts : fn.params.toList.all (lawTy P) = true) {tb : TypeId} (hres : fn.resultTypes.toList = [tb])
    (hb : P.underlying tb = some .bool) (hp : ∀ x : den (argTy P f), WfD (argTy P f) x → ∃ k y, amcall P cfg E k f x = some y ∧ TrueB (resTy P f) y)
    {W : World} {base : Nat} {args : Array Value} {ds gs : List (DataW H)} {before : List MemPlace} (hval : ∀ (j : Nat) t v, fn.params[j]? = some t → args[j]? = some v → Value.okWide P W .any base t v)
    (hW : DataW.Whole enc P fn.params.toList s.vars false W args.toList ds gs before) :
    Calls P f args W fun e W' => ∃ v, e = .returned v ∧ s.post enc P fn false true false false W args v W' := by
  have hW' := hW
  obtain ⟨p, q, hA, hV, rfl, hfz, hnd⟩ := hW
  rw [hvars] at hV
  obtain ⟨rfl, rfl⟩ := trodVars_none hV
  have hl : ∀ t ∈ fn.params.toList, lawTy P t = true := List.all_eq_true.1 hts
  have e1 : argTys P f = fn.params.toList := by unfold argTys; rw [hf]
  have e2 : resTys P f = [tb] := by unfold resTys; rw [hf]; exact hres
  obtain ⟨x, hx, hwf⟩ := trodAll_reads fn.params.toList args.toList ds p hl (fun j t v h1 h2 => hval j t v (by simpa using h1) (by simpa using h2)) hA
  have key : ∃ x : den (argTy P f), ReadsArgs P W (argTys P f) args.toList x ∧ WfD (argTy P f) x := by
    show ∃ x : den (tyAll P (argTys P f)), ReadsArgs P W (argTys P f) args.toList x ∧ WfD (tyAll P (argTys P f)) x
    rw [e1]; exact ⟨x, hx, hwf⟩
  obtain ⟨x, hx, hwf⟩ := key
  obtain ⟨k, y, hy, ht⟩ := hp x hwf
  have hlen : ds.length = fn.params.toList.length := by
    have : ∀ (ts : List TypeId) (us : List Value) (ds : List (DataW H)) (ps : List MemPlace), DataW.TrodAll enc P W 0 (fun _ => true) true ts us ds ps → ds.length = ts.length := by
      intro ts
      induction ts with
      | nil => intro us ds ps h; obtain ⟨_, rfl, _⟩ := trodAll_nil h; rfl
      | cons t ts ih =>
        intro us ds ps h
        obtain ⟨u, us', d, ds', p, q, rfl, rfl, rfl, _, h2⟩ := trodAll_cons h
        simp [ih _ _ _ h2]
    exact this _ _ _ _ hA
  refine ((amcall_valid hG hX hy).2 W args hx).mono fun e W' ⟨us, he, bel, hr⟩ => ?_
  refine ⟨resV us, he, ds, [], p ++ [], [], p, [], hW', ?_, ?_, ?_, bel.frame _, fun h => by cases h⟩
  · -- the result
    have key : us = [.bool true] := by
      have gen : ∀ (rt : List TypeId) (y : den (tyAll P rt)), rt = [tb] → ReadsRes P W.heap.size W' rt us y → TrueB (tyAll P rt) y → us = [.bool true] := by
        intro rt y e hr ht
        subst e
        obtain ⟨⟨u, us', rfl, hfit, hnil⟩, G, hrep, _⟩ := hr
        have hnil : us' = [] := hnil
        subst hnil
        have ht : TrueB (tyD P tb) y := ht
        have hrep : Rep W' true (tyD P tb) y G 0 (fun k => (argCells [u])[k]?) := hrep
        have gen2 : ∀ (ty : Ty) (y : den ty), ty = .bool → TrueB ty y → Rep W' true ty y G 0 (fun k => (argCells [u])[k]?) → (argCells [u])[0]? = some (.bool true) := by
          intro ty y e ht hr
          subst e
          have ht : y = true := ht
          subst ht
          exact hr
        have ht1 := tyOf_bool hb
        have h0 := gen2 (tyD P tb) y (by unfold tyD; rw [ht1]) ht hrep
        unfold Fit at hfit
        rw [show aggD P tb = false by unfold aggD; rw [ht1], if_neg (by simp)] at hfit
        rw [show argCells [u] = u.cells.toList by simp [argCells], one_cells hfit.1] at h0
        simp only [List.getElem?_cons_zero, Option.some.injEq] at h0
        rw [h0]
      exact gen (resTys P f) y e2 hr ht
    subst key
    have hsz : fn.resultTypes.size = 1 := by
      have := congrArg List.length hres
      simpa using this
    rw [hres, hsz, hfn _ (by simpa using hlen)]
    exact trodAll_mk1 (shut_bool hb true)
  · rw [hfn _ (by simpa using hlen)]
    simpa using trodAll_stays hlaid bel fn.params.toList args.toList ds p hl hA
  · rw [hvars, hfn _ (by simpa using hlen)]
    rfl
end
end
end Go.Am
end
