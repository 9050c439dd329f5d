/- A call in a part of the state, to which rows and variables are lent, is sound, whatever the program. -/
import Derived.Calls
import Derived.RunT
import Derived.Test.YtloognjnfelgfaaDoorAmV
import Derived.Shelf.SlSortCmp.InsertionK
import Derived.Sort.Statements
set_option linter.unusedSimpArgs false
set_option linter.unusedVariables false
set_option linter.unnecessarySimpa false
set_option linter.unusedSectionVars false
section
/- No step of the model's machine takes back a draw. -/
namespace Go.Am.Drawn
open Go
theorem tK{p:Program}{w w':World}{at_:Addr}{u:TypeId}{k:Addr}{v:Value}{atomic:Bool}{l:List Addr}(h:w.viewStore p at_ u k v atomic= .ok (w',l)):w'.drawn=w.drawn:=by
 unfold World.viewStore at h
 simp only[bind,Except.bind,pure,Except.pure]at h
 repeat' split at h
 all_goals first
  |(cases h;done)
  |(cases h;rfl)
  |skip
theorem vn{p:Program}{w w':World}{a:Addr}{v:Value}{atomic:Bool}{l:List Addr}(h:w.farStore p a v atomic= .ok (w',l)):w'.drawn=w.drawn:=by
 unfold World.farStore at h
 split at h
 ·split at h
  ·next r hr=>
   cases h
   exact tK hr
  ·cases h
 ·cases h
theorem sn{α:Type}: ∀(x:Ask α) (w:World),w.drawn≤(w.ask x).2.drawn
 | .done a,w=>Nat.le_refl _
 | .ask what range k,w=>by
  unfold World.ask
  dsimp only
  split
  ·exact sn _ _
  ·exact Nat.le_trans (Nat.le_succ _) (sn _ {w with drawn:=w.drawn+1})
theorem DY(w:World)(c:Sys):w.drawn≤(w.sys c).2.drawn:=by
 unfold World.sys
 have h:=sn (Kernel.perform c w.os) w
 split
 ·exact Nat.le_refl _
 ·next r os w' e=>
  rw[e]at h
  exact h
def _root_.Go.Result.w{α:Type}:Result α→World
 | .ok _ w=>w
 | .halt _ w=>w
theorem oU{α:Type}(p:Program): ∀(s:Sem α) (w:World),w.drawn≤(s.run p w).w.drawn:=by
 intro s
 induction s with
 |pure a=>intro w;exact Nat.le_refl _
 |load m a k ih=>
  intro w
  unfold Sem.run
  split
  ·exact ih _ _
  ·split
   ·exact ih _ _
   ·exact Nat.le_refl _
 |store m a v k ih=>
  intro w
  have key:w.drawn≤(match w.cell? a with
   |some _=>if w.frozen? a then .halt (.unsupported (.unsafePointer "a write to bytes that a string shares")) w else k.run p (w.setCell a v)
   |none=>match w.farStore p a v (m== .atomic)with
    | .ok (w,_)=>k.run p w
    | .error h=> .halt h w:Result α).w.drawn:=by
   split
   ·split
    ·exact Nat.le_refl _
    ·exact ih (w.setCell a v)
   ·split
    ·next w' l e=>
     have:=vn e
     rw[←this]
     exact ih _
    ·exact Nat.le_refl _
  cases v<;>first|exact key|exact Nat.le_refl _
 |new o k ih=>intro w;exact ih _ {w with heap:=w.heap.push o}
 |shape r k ih=>intro w;exact ih _ w
 |freeze a n k ih=>
  intro w
  have:(w.freeze a n).drawn=w.drawn:=by unfold World.freeze;split<;>rfl
  have h:=ih (w.freeze a n)
  rw[this]at h
  exact h
 |frozen a k ih=>intro w;exact ih _ w
 |getObj r k ih=>
  intro w
  unfold Sem.run
  split
  ·exact Nat.le_refl _
  ·exact ih _ _
  ·exact Nat.le_refl _
 |setObj r o k ih=>
  intro w
  unfold Sem.run
  split
  ·exact Nat.le_refl _
  ·exact ih {w with heap:=w.heap.setIfInBounds r o}
  ·exact Nat.le_refl _
 |choose q k ih=>
  intro w
  unfold Sem.run
  split
  ·exact ih _ _
  ·exact Nat.le_trans (Nat.le_succ _) (ih _ {w with drawn:=w.drawn+1})
 |sys c k ih=>
  intro w
  exact Nat.le_trans (DY w c) (ih _ _)
 |program k ih=>intro w;exact ih _ w
 |mark m k ih=>intro w;exact ih w
 |halt h=>intro w;exact Nat.le_refl _
theorem gG{α:Type}{p:Program}{s:Sem α}{w w':World}{a:α}(h:s.run p w= .ok a w'):w.drawn≤w'.drawn:=by
 have:=oU p s w
 rw[h]at this
 exact this
theorem run_halt{α:Type}{p:Program}{s:Sem α}{w w':World}{a:Halt}(h:s.run p w= .halt a w'):w.drawn≤w'.drawn:=by
 have:=oU p s w
 rw[h]at this
 exact this
theorem nw{α:Type}(p:Program)(s:Sem α)(w:World)(es:Array Event):w.drawn≤(s.runT p w es).1.w.drawn:=by
 rw[Sem.runT_fst]
 exact oU p s w
def _root_.Go.GStep.ge(d:Nat):GStep→Prop
 | .go _ w _=>d≤w.drawn
 | .comm _ _ _ _ w _=>d≤w.drawn
 | .spawn _ _ w _=>d≤w.drawn
 | .count _ w _=>d≤w.drawn
 | .timer _ _ w _=>d≤w.drawn
 | .alone _ _ w _=>d≤w.drawn
 | .newcoro _ _ _ w _=>d≤w.drawn
 | .coroswitch _ _ _ w _=>d≤w.drawn
 | .collect _ w _=>d≤w.drawn
 | .watch _ w _=>d≤w.drawn
 | .ended _ _ _=>True
theorem lf{d:Nat}{es:Array Event}{s:GStep}(h:s.ge d):(GStep.after es s).ge d:=by cases s<;>exact h
variable {p : Program} {d : Nat} {w : World}
theorem kt(h:d≤w.drawn)(fr:Frame)(m:String):(endThrow fr m w).ge d:=h
theorem BP(fd:Nat)(text:ByteArray)(o:Outcome):(endWith w fd text o).ge d:=by
 unfold endWith
 dsimp only
 split
 ·split<;>trivial
 ·trivial
 ·trivial
theorem oy(h:d≤w.drawn)(fr:Frame)(v:Value):(endPrinting p fr v w).ge d:=by
 unfold endPrinting
 dsimp only
 split
 ·exact h
 ·trivial
theorem tc(h:d≤w.drawn)(fr:Frame)(callers:List Frame)(dying:Option Dying)(m:String):(endFatal p fr callers dying m w).ge d:=by
 unfold endFatal
 dsimp only
 split
 ·next e=>exact Nat.le_trans h (gG e)
 ·trivial
 ·trivial
theorem Br(h:d≤w.drawn)(fr:Frame)(dy:Dying)(f:Fatal):(writeOn p fr dy f w).ge d:=by
 unfold writeOn
 dsimp only
 split
 ·trivial
 ·split
  ·next e=>
   have:=congrArg Prod.fst e
   rw[Sem.runT_fst]at this
   exact Nat.le_trans h (gG this)
  ·next e=>
   have:=congrArg Prod.fst e
   rw[Sem.runT_fst]at this
   exact Nat.le_trans h (run_halt this)
  ·trivial
  ·trivial
theorem yP{c:Prop} [Decidable c]{a b:GStep}(ha:a.ge d)(hb:b.ge d):(if c then a else b).ge d:=by split<;>assumption
theorem runT_eq{α:Type}{s:Sem α}{es0 es:Array Event}{r:Result α}(e:s.runT p w es0=(r,es)):w.drawn≤r.w.drawn:=by
 have h:=nw p s w es0
 rw[e]at h
 exact h
theorem Hs(h:d≤w.drawn)(fr:Frame)(dy:Dying):(die p fr dy w).ge d:=by
 unfold die
 split
 ·exact Br h fr dy _
 ·split
  ·split
   ·exact h
   ·exact BP _ _ _
  ·dsimp only
   split
   ·exact h
   ·split
    ·next e=>exact Nat.le_trans h (gG e)
    ·trivial
   ·rename_i t recv name heq
    have hr:=nw p (invoke (.fn (.method name) #[]) #[.iface t recv]) w #[]
    generalize(invoke (.fn (.method name) #[]) #[.iface t recv]).runT p w #[]=z at hr⊢
    obtain⟨r,es⟩:=z
    refine lf ?_
    dsimp only at hr⊢
    split
    ·exact Nat.le_trans h hr
    ·exact Nat.le_trans h hr
    ·trivial
    ·exact oy (Nat.le_trans h hr) _ _
    ·trivial
   ·trivial
theorem oi(h:d≤w.drawn)(main:Bool)(fr:Frame)(callers:List Frame)(dying:Option Dying)(v:Value):(doReturn p main fr callers dying v w).ge d:=by
 unfold doReturn
 split
 ·split<;>exact h
 ·split
  ·exact h
  ·trivial
  ·split
   ·exact h
   ·split
    ·exact h
    ·trivial
theorem tP(h:d≤w.drawn)(fr:Frame)(callers:List Frame)(dying:Option Dying)(x:Deferred):(callDeferred p fr callers dying x w).ge d:=by
 unfold callDeferred
 refine yP trivial ?_
 split
 rename_i r es heq
 have hr:=runT_eq heq
 refine lf ?_
 clear heq
 repeat' split
 all_goals first
  |trivial
  |exact Nat.le_trans h hr
  |exact tc (Nat.le_trans h hr) _ _ _ _
  |exact kt (Nat.le_trans h hr) _ _
theorem DL(h:d≤w.drawn)(main:Bool)(fr:Frame)(callers:List Frame)(dying:Option Dying):(unwind p main fr callers dying w).ge d:=by
 unfold unwind
 split
 ·split
  rename_i r es heq
  have hr:=runT_eq heq
  refine lf ?_
  split
  ·exact Nat.le_trans h hr
  ·trivial
 ·exact tP h _ _ _ _
 ·split
  ·trivial
  ·split
   ·trivial
   ·split
    ·exact h
    ·split
     ·split
      ·exact h
      ·split
       ·next e=>exact Nat.le_trans h (gG e)
       ·trivial
       ·trivial
     ·split
      ·exact oy h _ _
      ·trivial
  ·split
   ·exact oi h _ _ _ _ _
   ·split
    rename_i r es heq
    have hr:=runT_eq heq
    refine lf ?_
    split
    ·exact oi (Nat.le_trans h hr) _ _ _ _ _
    ·trivial
    ·trivial
theorem Fp(h:d≤w.drawn)(fr:Frame)(callers:List Frame)(dying:Option Dying)(g:Nat):(early p fr callers dying g w).ge d:=by
 unfold early
 dsimp only
 repeat' split
 all_goals first
  |trivial
  |exact h
  |exact Nat.le_trans h (gG (by assumption))
  |(simp only[GStep.ge];exact Nat.le_trans h (gG (by assumption)))
theorem nK (h : d ≤ w.drawn) (fr : Frame) (callers : List Frame) (dying : Option Dying) (s : Sem Next) (listen : Bool) : (stepG.apply p listen fr callers dying s w).ge d := by
  unfold stepG.apply
  dsimp only
  have hr : w.drawn ≤ (if listen = true then s.runT p w #[] else (s.run p w, #[])).1.w.drawn := by
    split
    · exact nw p s w #[]
    · exact oU p s w
  generalize (if listen = true then s.runT p w #[] else (s.run p w, #[])) = z at hr ⊢
  obtain ⟨r, es⟩ := z
  dsimp only at hr ⊢
  refine lf ?_
  split
  all_goals first
    | exact Nat.le_trans h hr
    | trivial
    | exact tc (Nat.le_trans h hr) _ _ _ _
    | exact kt (Nat.le_trans h hr) _ _
    | exact Fp (Nat.le_trans h hr) _ _ _ _
    | (repeat' split
       all_goals first
        | exact Nat.le_trans h hr
        | trivial
        | exact kt (Nat.le_trans h hr) _ _)
theorem CB(h:d≤w.drawn)(fr:Frame)(callers:List Frame)(dying:Option Dying)(listen:Bool):(stepG.oper p listen fr callers dying w).ge d:=by
 unfold stepG.oper
 split
 ·trivial
 ·split
  ·exact nK h _ _ _ _ _
  ·exact nK h _ _ _ _ _
theorem CP{α:Type}{o:Option α}{a:GStep}{f:α→GStep}(h1:a.ge d)(h2: ∀t,(f t).ge d):(o.elim a f).ge d:=by
 cases o with
 |none=>exact h1
 |some t=>exact h2 t
theorem Gy (h : d ≤ w.drawn) (main : Bool) (fr : Frame) (callers : List Frame) (dying : Option Dying) (listen : Bool) : (stepG.exec p main listen fr callers dying w).ge d := by
  unfold stepG.exec
  extract_lets go to_ lost leave
  have hgo : ∀ fr w, d ≤ w.drawn → (go fr w).ge d := fun _ _ h => h
  have hto : ∀ t, (to_ t).ge d := fun _ => h
  have hlost : ∀ s, (lost s).ge d := fun _ => trivial
  have hleave : ∀ jump, (leave jump).ge d := by
    intro jump
    simp only [leave]
    split
    · exact yP (hgo _ _ h) (hlost _)
    · rename_i l hl
      have hr := nw p (Instr.endRound l jump) w #[]
      refine lf ?_
      split
      · rename_i v w' heq
        rw [heq] at hr
        exact oi (Nat.le_trans h hr) _ _ _ _ _
      · trivial
  clear_value go to_ lost leave
  split
  all_goals first
    | exact hto _
    | exact hleave _
    | trivial
    | exact nK h _ _ _ _ _
    | exact CB h _ _ _ _
    | exact CP (hleave _) hto
    | exact CP (hlost _) (fun e => nK h _ _ _ _ _)
    | exact yP (CB h _ _ _ _) (hgo _ _ h)
    | (split
       · exact hto _
       · exact hlost _)
    | (refine yP (hto _) ?_
       split
       · next e => exact hgo _ _ (Nat.le_trans h (gG e))
       · trivial)
    | (split
       rename_i r es heq
       have hr := runT_eq heq
       refine lf ?_
       clear heq
       split
       all_goals first
         | exact hgo _ _ (Nat.le_trans h hr)
         | exact nK (Nat.le_trans h hr) _ _ _ _ _
         | trivial)
    | skip
theorem Ez(h:d≤w.drawn)(main:Bool)(g:Goroutine)(listen:Bool):(stepG p main g w listen).ge d:=by
 unfold stepG
 dsimp only
 split
 ·exact Hs h _ _
 ·exact Gy h _ _ _ _ _
 ·exact DL h _ _ _ _
def _root_.Go.Stepped.ge(d:Nat):Stepped→Prop
 | .next m=>d≤m.world.drawn
 |_=>True
theorem tN{rest:Rest}{cases_:Array CommCase}{w':World}(h:waitingAt rest cases_ w=some w'):w'.drawn=w.drawn:=by
 unfold waitingAt at h
 split at h
 ·split at h
  ·cases h;rfl
  ·cases h
 ·cases h;rfl
theorem vV(h:d≤w.drawn)(rest:Rest)(gs:Array Goroutine)(i:Nat)(g:Goroutine)(cases_:Array CommCase)(blocking:Bool)(shape:CommShape):(communicate p rest gs i g cases_ blocking shape w).1.ge d:=by
 unfold communicate
 extract_lets put illMade me other ready pick
 have hput: ∀g gs w ops,d≤w.drawn→(put g gs w ops).1.ge d:=fun _ _ _ _ h=>h
 clear_value put illMade me other ready pick
 split
 ·trivial
 ·split
  ·split
   ·split
    ·next e=>show d≤World.drawn _;rw[tN e];exact h
    ·trivial
   ·exact hput _ _ _ _ h
  ·split
   ·trivial
   ·rename_i k c way w' e
    have h':d≤w'.drawn:=Nat.le_trans h (gG e)
    clear e
    dsimp only
    split
    ·split
     ·next e2=>exact hput _ _ _ _ (Nat.le_trans h' (run_halt e2))
     ·trivial
    ·exact hput _ _ _ _ h'
    ·exact hput _ _ _ _ h'
    ·split
     ·exact hput _ _ _ _ h'
     ·split
      ·next e2=>
       have h3:=gG e2
       exact hput _ _ _ _ (Nat.le_trans h' h3)
      ·trivial
    ·exact hput _ _ _ _ h'
    ·exact hput _ _ _ _ h'
    ·trivial
theorem Cn(h:d≤w.drawn)(gs:Array Goroutine)(rest:Rest):(look p gs rest w).ge d:=by
 unfold look
 split
 ·dsimp only
  split
  ·trivial
  ·split
   ·trivial
   ·split
    ·next e=>
     have h3:=gG e
     exact Nat.le_trans h h3
    ·trivial
    ·trivial
 ·trivial
theorem wG{m m':Machine}{op:TimerOp}{v:Value}(h:timerOp m op= .ok (v,m')):m'.world.drawn=m.world.drawn:=by
 have retime_d: ∀(m:Machine) k t a b,(retime m k t a b).2.world.drawn=m.world.drawn:=by
  intro m k t a b
  unfold retime
  dsimp only
  split
  ·unfold drain
   split<;>rfl
  ·rfl
 have named_d: ∀(m:Machine) (var:Addr) (f:Nat→Timer→Value×Machine) (v:Value) (m':Machine) (m0:Machine),(∀k t,(f k t).2.world.drawn=m0.world.drawn)→timerOp.named m var f= .ok (v,m')→m'.world.drawn=m0.world.drawn:=by
  intro m var f v m' m0 hf h
  unfold timerOp.named at h
  split at h
  ·rename_i k _
   have:=hf k (m.rest.timers.getD k default)
   rw[Except.ok.injEq]at h
   rw[h]at this
   exact this
  ·cases h
 unfold timerOp at h
 split at h
 ·split at h
  ·cases h;rfl
  ·split at h
   ·split at h
    ·cases h
    ·cases h;rfl
   ·cases h
 ·exact named_d m _ _ _ _ m (fun k t=>retime_d m k t _ _) h
 ·split at h
  ·rename_i m2 e
   have e2:m2.world.drawn=m.world.drawn:=by
    unfold timerOp.opened at e
    split at e
    ·split at e
     ·cases e;rfl
     ·cases e
    ·cases e;rfl
   rw[←e2]
   exact named_d _ _ _ _ _ m2 (fun k t=>retime_d m2 k t _ _) h
  ·cases h
 ·cases h;rfl
theorem Fj{m:Machine}(h:d≤m.world.drawn)(k:Nat):(serve p m k).ge d:=by
 unfold serve
 split
 ·trivial
 ·exact h
 ·dsimp only
  split
  ·trivial
  ·exact h
theorem Gq{m:Machine}(h:d≤m.world.drawn)(i:Nat)(listen:Bool):(runT p m i listen).1.ge d:=by
 unfold runT
 dsimp only
 have hs:=Ez (p:=p) h (i==0) (m.gs.swapAt! i {(default:Goroutine)with status:= .finished}).1 listen
 generalize stepG p (i==0) (m.gs.swapAt! i {(default:Goroutine)with status:= .finished}).1 m.world listen=s at hs⊢
 cases s with
 |ended o w es=>trivial
 |comm g cs b sh w es=>exact vV hs _ _ _ _ _ _ _
 |go g w es=>exact hs
 |spawn g c w es=>exact hs
 |count g w es=>
  dsimp only
  split
  ·trivial
  ·exact hs
 |alone g on w es=>exact hs
 |collect g w es=>exact Cn hs _ _
 |watch g w es=>exact hs
 |newcoro g c x w es=>exact hs
 |coroswitch g c e w es=>
  dsimp only
  split
  ·exact hs
  ·have:=kt (d:=d) hs g.frame "coroswitch on exited coro"
   generalize endThrow g.frame "coroswitch on exited coro" w=z at this⊢
   cases z<;>first|exact this|trivial
  ·trivial
 |timer g op w es=>
  dsimp only
  split
  ·next e=>show d≤World.drawn _;rw[wG e];exact hs
  ·rename_i msg _
   have:=kt (d:=d) hs g.frame msg
   generalize endThrow g.frame msg w=z at this⊢
   cases z<;>first|exact this|trivial
  ·trivial
  ·trivial
def _root_.Go.Move.ge(d:Nat):Move→Prop
 | .goroutine m _=>d≤m.world.drawn
 | .machine s _=>s.ge d
theorem uJ{m:Machine}(h:d≤m.world.drawn):(askOn p m).ge d:=by
 have pick: ∀m:Machine,d≤m.world.drawn→ ∀rs:List Nat,(match (choose (.sched rs.length)).run p m.world with
   | .halt _ w=> .machine (.ended (.stuck "sched" "") w)
   | .ok k world=>
    if rs.length≤1 then .goroutine {m with world} (rs.getD k 0)else
    match (choose (.extern "sched.slice" 65536)).run p world with
    | .halt _ w=> .machine (.ended (.stuck "sched.slice" "") w)
    | .ok n world=> .goroutine {m with world,rest:={m.rest with slice:=if n=0 then none else some (rs.getD k 0,n)}} (rs.getD k 0):Move).ge d:=by
  intro m h rs
  split
  ·trivial
  ·next e=>
   have h1:=Nat.le_trans h (gG e)
   split
   ·exact h1
   ·split
    ·trivial
    ·next e2=>exact Nat.le_trans h1 (gG e2)
 unfold askOn
 extract_lets mono rs ds pk
 have hpk: ∀m:Machine,d≤m.world.drawn→(pk m).ge d:=fun m h=>pick m h rs
 clear_value pk rs ds mono
 split
 ·trivial
 ·rename_i k world e
  have h1:=Nat.le_trans h (gG e)
  dsimp only
  split
  ·exact Fj h1 _
  ·cases rs with
   |nil=>
    dsimp only
    split
    ·exact h1
    ·split
     ·exact h1
     ·split<;>trivial
   |cons a l=>
    dsimp only
    split
    ·exact hpk _ h1
    ·split
     ·trivial
     ·next e2=>
      have h3:=gG e2
      exact hpk _ (Nat.le_trans h1 h3)
     ·next e2=>
      have h3:=gG e2
      exact Nat.le_trans h1 h3
     ·next e2=>
      have h3:=gG e2
      exact hpk _ (Nat.le_trans h1 h3)
theorem ER{m:Machine}(h:d≤m.world.drawn):(ask p m).ge d:=by
 unfold ask
 split
 ·split
  ·trivial
  ·rename_i world e
   have h1:=Cn (p:=p) (Nat.le_trans h (gG e)) m.gs m.rest
   generalize look p m.gs m.rest world=z at h1⊢
   cases z with
   |next m=>exact uJ h1
   |_=>trivial
  ·next e=>exact uJ (Nat.le_trans h (gG e))
 ·exact uJ h
theorem Gx{m:Machine}(h:d≤m.world.drawn):(move p m).ge d:=by
 unfold move
 split
 ·split
  ·exact h
  ·trivial
 ·split
  ·split
   ·exact h
   ·exact ER h
  ·exact ER h
theorem Gs{m:Machine}(h:d≤m.world.drawn):(step p m).ge d:=by
 unfold step stepT
 have hm:=Gx (p:=p) h
 generalize move p m=z at hm⊢
 cases z with
 |goroutine m i=>exact Gq hm _ _
 |machine s ops=>exact hm
theorem Cp: ∀(n:Nat) {m:Machine},d≤m.world.drawn→(runN p n m).ge d
 |0,m,h=>h
 |n+1,m,h=>by
  have h1:=Gs (p:=p) h
  unfold runN
  generalize step p m=z at h1⊢
  cases z with
  |next m=>exact Cp n h1
  |_=>trivial
theorem FK{m m':Machine}(h:Steps p m m'):m.world.drawn≤m'.world.drawn:=by
 obtain⟨n,h⟩:=h
 have:=Cp (p:=p) n (Nat.le_refl m.world.drawn)
 rw[h]at this
 exact this
theorem zc{f:FuncId}{args:Array Value}{R:Ending→World→Prop}(h:Calls p f args w R):Calls p f args w fun e w'=>R e w'∧((∃v,e= .returned v)→w.drawn≤w'.drawn):=by
 intro cs
 obtain⟨e,w',fr,h1,h2,h3,h4⟩:=h cs
 refine⟨e,w',fr,⟨h1,?_⟩,h2,h3,h4⟩
 rintro⟨v,rfl⟩
 exact FK (p:=p) h2
end Go.Am.Drawn
end
section
/- Soundness: calls in a part of the state. The part: its world, its values. -/
namespace Go.Am
noncomputable section
attribute [local instance] D.real
def xD(P:Program)(f:Nat)(vs:List AV)(st:St)(vs':List AV)(st':St):Prop:=
 (∃fn,P.funcs[f]?=some fn∧fn.body.isSome=true)∧
 ∀(w0:bu) (g:aB) (born:Nat→Prop) (acts:List Act) (w:World) (us:List Value),Rel w0 st g born acts w→(∀r,born r→r<st.rs.length)→ai st.get g vs us→(∀r∈AV.ah vs,born r)→
  Calls P f us.toArray w fun e w'=> ∃us' g' born',e= .returned (mR us')∧cg w0 st' g' born' acts w'∧(∀r,born' r→r<st'.rs.length)∧ai st'.get g' vs' us'∧ ∀r∈AV.ah vs',born' r
def y0(P:Program)(f k:Nat):Prop:=
 (∃fn,P.funcs[f]?=some fn∧fn.body.isSome=true)∧
 (∀(a:Option Addr) (c g:Nat) (w:World),Calls P f #[.slice a 0 c,.func (.func g) #[] #[]] w fun e w'=>e= .returned (.tuple #[])∧w'=w)∧
 ∀(enc:Nat→List Value) (cf:Nat→Nat→Int) (g blk off cap:Nat) (d:Array Nat) (w:World),(∀x,(enc x).length=k)→(∀x,∀v∈enc x,v.oneCell'=true)→Sort.SWO (Proofs.ltOf cf)→
  (∀args w,(callFunc g args).run P w= .ok (.enter g args) w)→Proofs.CmpLays P g #[] enc k cf blk off d.size w→Sort.HoldsK enc k w blk off d→blk<w.heap.size→d.size<4611686018427387904→
  Calls P f #[.slice (some ⟨blk,off,none⟩) d.size cap,.func (.func g) #[] #[]] w fun e w'=>e= .returned (.tuple #[])∧ ∃d' n os,Sort.PermIn 0 d.size d d'∧Sort.SortedIn (Proofs.ltOf cf) 0 d.size d'∧w'=Proofs.sortWorldK enc k w blk off n d' os
structure gV (P : Program) (env : Env P) : Prop where
  det : gM P env
  pc : ∀ f x y, env.pc f x = some y → Valid P f x y
  ps : ∀ f x y, env.ps f x = some y → Fb P f x y
  inl : ∀ f vs st vs' st', env.inl (R := List AV × St) f vs st (fun vs st => some (vs, st)) = some (vs', st') → xD P f vs st vs' st'
  srt : ∀ (R : Type) f k (x : Option R) (y : R), env.srt f k x = some y → y0 P f k ∧ x = some y
theorem DC{w:World}{lent:Nat→Prop}{k:Nat}{o:Obj}(h:(blank w lent).heap[k]?=some o)(ho:o.isCells=false):w.heap[k]?=some o:=by
 by_cases hl:lent k
 ·have e:(blank w lent).heap[k]?=(w.heap[k]?).map fun _=> .cells #[] 0 (0,0):=by
   simp[blank,hl]
  rw[e]at h
  cases hw:w.heap[k]? with
  |none=>rw[hw]at h;cases h
  |some x=>
   rw[hw]at h
   injection h with h
   subst h
   cases ho
 ·exact(cZ hl).symm.trans h
def kX(w:World)(lent:Nat→Prop):bu:=⟨blank w lent,blank w lent,lent,fun a x h=>⟨h,(nf h).2⟩,fun _ _ h k=>rT h k,fun _=>none,fun _ _ h=>by cases h⟩
section
variable {w0 : bu} {w w' : World} {st st' : St} {g g' : aB} {born born' : Nat → Prop} {acts : List Act} {a : Act}
theorem jN: ∀(l:List Nat) (st:St) (r:Nat),(st.aH (cH l)).get r=if r∈l then .dead else st.get r
 | [],st,r=>by simp[cH,FP]
 |x::l,st,r=>by
  show((st.ep x .dead).aH (cH l)).get r=_
  rw[jN l,dN]
  by_cases h1:r∈l
  ·simp[h1]
  ·by_cases h2:r=x<;>simp[h1,h2]
theorem o7: ∀(l:List Nat) (st:St),Rel w0 st g born acts w→(∀r∈l,∀j r' p t xs,st.get j= .pend r' p t xs→r'≠r)→Rel w0 (st.aH (cH l)) g born acts w
 | [],st,R,_=>R
 |x::l,st,R,hq=>by
  show Rel w0 ((st.ep x .dead).aH (cH l)) g born acts w
  refine o7 l _ (Ei R x fun j r' p t xs e=> .inl (hq x List.mem_cons_self j r' p t xs e)) fun r hr j r' p t xs e=> ?_
  rw[dN]at e
  split at e
  ·cases e
  ·exact hq r (List.mem_cons_of_mem _ hr) j r' p t xs e
theorem uW(R:Rel w0 st g born acts w)(hb:bL w0 w w')(ho: ∀r b,Own st.get g r b→w'.heap[b]?=w.heap[b]?):Rel w0 st g born acts w':=by
 refine jU (fun _=>False) R hb rfl (fun r _=>⟨fun t ht=>⟨ht,fun _ _=>rfl⟩,fun hv=>⟨hv,rfl⟩⟩) (fun r _=>⟨rfl,rfl,fun b hbo=>ho r b hbo⟩)
  (fun _ _ _ _ _ _ _ h=>h) (fun r h=>h.elim) (fun r _ _ h=>h.elim) (fun r _ h=>h.elim) (fun _ h=>h) (fun r h=>h.elim) (fun r h=>h.elim)
def ky(get:Get)(g:aB)(L:List Nat)(b:Nat):Prop:= ∃r∈L,Own get g r b
theorem ky.low{L:List Nat}(R:Rel w0 st g born acts w){b:Nat}(h:ky st.get g L b): ¬w0.dh b:=by
 obtain⟨r,_,h⟩:=h
 exact R.low r b h
theorem oN{L:List Nat}(R:Rel w0 st g born acts w)(hq: ∀r∈L,∀j r' p t xs,st.get j= .pend r' p t xs→r'≠r){r b:Nat}(h:Own (st.aH (cH L)).get g r b):r∉L∧Own st.get g r b∧ ¬ky st.get g L b:=by
 have hr:r∉L:=fun hr=>by
  unfold Own at h
  rw[jN,if_pos hr]at h
  exact h
 have e:Own st.get g r b:=by
  unfold Own at h⊢
  rw[jN,if_neg hr]at h
  exact h
 exact⟨hr,e,fun⟨r',hr',h'⟩=>R.sep r r' b (fun e=>hr (e▸hr')) e h'⟩
theorem zU{L:List Nat}(R:Rel w0 st g born acts w):bL w0 w (blank w (ky st.get g L)):=
 ⟨rfl,rfl,rfl,by rw[fc];exact Nat.le_refl _,fun k hk=>cZ fun h=>ky.low R h hk,fun k o h1 h2=>(cZ fun⟨r,_,h⟩=>by rw[ib R h o h1]at h2;cases h2).trans h1⟩
theorem DW{L:List Nat}(R:Rel w0 st g born acts w)(hq: ∀r∈L,∀j r' p t xs,st.get j= .pend r' p t xs→r'≠r):
  Rel w0 (st.aH (cH L)) g born acts (blank w (ky st.get g L)):=
 uW (o7 L st R hq) (zU R) fun _ b h=>cZ (oN R hq h).2.2
def Gj(get:Get)(g:aB)(L:List Nat)(getS:Get)(gS:aB):Prop:= ∀r i,idx L 0 r=some i→
 (∀t,bI (getS i)=some t→bI (get r)=some t∧ ∀p,(gS i).H p=(g r).H p)∧(isVar (getS i)=true→isVar (get r)=true∧(gS i).b=(g r).b)
def HI(wb:World)(x:ak)(inf:Info):Prop:= ∃e ys,x= .row false e ys∧aS wb false e ys inf.H∧ ∃a n c,inf.H []= .slice a n c
def rn(wb:World)(rs:List ak)(infs:List Info):Prop:=infs.length=rs.length∧ ∀(k:Nat) (x:ak) (inf:Info),rs[k]?=some x→infs[k]?=some inf→HI wb x inf
theorem rn.nil{wb:World}:rn wb [] []:=⟨rfl,fun k x inf h=>by simp at h⟩
theorem rn.app{wb:World}{rs rs':List ak}{i i':List Info}(h:rn wb rs i)(h':rn wb rs' i'):rn wb (rs++rs') (i++i'):=by
 refine⟨by simp[h.1,h'.1],fun k x inf hx hi=> ?_⟩
 rcases Nat.lt_or_ge k rs.length with hk|hk
 ·rw[List.getElem?_append_left hk]at hx
  rw[List.getElem?_append_left (by rw[h.1];exact hk)]at hi
  exact h.2 k x inf hx hi
 ·rw[List.getElem?_append_right hk]at hx
  rw[List.getElem?_append_right (by rw[h.1];exact hk),h.1]at hi
  exact h'.2 _ x inf hx hi
def At(getS:Get)(gS:aB)(b:Nat)(rs:List ak)(infs:List Info):Prop:= ∀(k:Nat) (x:ak) (inf:Info),rs[k]?=some x→infs[k]?=some inf→getS (b+k)=x∧gS (b+k)=inf
theorem At.left{getS:Get}{gS:aB}{b:Nat}{rs rs':List ak}{i i':List Info}(h:At getS gS b (rs++rs') (i++i'))(hl:i.length=rs.length):At getS gS b rs i:=fun k x inf hx hi=>
 h k x inf (by rw[List.getElem?_append_left (List.getElem?_eq_some_iff.1 hx).1];exact hx) (by rw[List.getElem?_append_left (List.getElem?_eq_some_iff.1 hi).1];exact hi)
theorem At.right{getS:Get}{gS:aB}{b:Nat}{rs rs':List ak}{i i':List Info}(h:At getS gS b (rs++rs') (i++i'))(hl:i.length=rs.length):At getS gS (b+rs.length) rs' i':=fun k x inf hx hi=>by
 have:=h (rs.length+k) x inf (by rw[List.getElem?_append_right (by omega)];simpa using hx) (by rw[List.getElem?_append_right (by omega),hl];simpa using hi)
 rw[Nat.add_assoc];exact this
mutual
theorem DR{getK:Get}{wb:World}{L:List Nat}{get:Get}(hR: ∀r,aF w0 wb getK g r)(hB:Seen w0 wb)(hG: ∀r t,bI (getK r)=some t→bI (get r)=some t):
  ∀(v:AV) (x:Value) (b:Nat) (ok:List Tst) (v':AV) (rs:List ak),bM getK L v b=(ok,v',rs)→aN ok→ae get g v x→
   ∃infs,rn wb rs infs∧(∀r∈v'.roots,r<L.length∨(b≤r∧r<b+rs.length))∧ ∀getS gS,Gj get g L getS gS→At getS gS b rs infs→ae getS gS v' x
 | .int k n,x,b,ok,v',rs,h,_,hx=>by
  rw[bM]at h;simp only[Prod.mk.injEq]at h;obtain⟨_,rfl,rfl⟩:=h
  exact⟨[],.nil,fun r hr=>by simp[AV.roots]at hr,fun _ _ _ _=>by rw[ae]at hx⊢;exact hx⟩
 | .bool n,x,b,ok,v',rs,h,_,hx=>by
  rw[bM]at h;simp only[Prod.mk.injEq]at h;obtain⟨_,rfl,rfl⟩:=h
  exact⟨[],.nil,fun r hr=>by simp[AV.roots]at hr,fun _ _ _ _=>by rw[ae]at hx⊢;exact hx⟩
 | .kb n,x,b,ok,v',rs,h,_,hx=>by
  rw[bM]at h;simp only[Prod.mk.injEq]at h;obtain⟨_,rfl,rfl⟩:=h
  exact⟨[],.nil,fun r hr=>by simp[AV.roots]at hr,fun _ _ _ _=>by rw[ae]at hx;rw[ae];exact hx⟩
 | .ki k n,x,b,ok,v',rs,h,_,hx=>by
  rw[bM]at h;simp only[Prod.mk.injEq]at h;obtain⟨_,rfl,rfl⟩:=h
  exact⟨[],.nil,fun r hr=>by simp[AV.roots]at hr,fun _ _ _ _=>by rw[ae]at hx;rw[ae];exact hx⟩
 | .str n,x,b,ok,v',rs,h,_,hx=>by
  rw[bM]at h;simp only[Prod.mk.injEq]at h;obtain⟨_,rfl,rfl⟩:=h
  exact⟨[],.nil,fun r hr=>by simp[AV.roots]at hr,fun _ _ _ _=>by rw[ae]at hx⊢;exact hx⟩
 | .nilS,x,b,ok,v',rs,h,_,hx=>by
  rw[bM]at h;simp only[Prod.mk.injEq]at h;obtain⟨_,rfl,rfl⟩:=h
  exact⟨[],.nil,fun r hr=>by simp[AV.roots]at hr,fun _ _ _ _=>by rw[ae]at hx⊢;exact hx⟩
 | .undef,x,b,ok,v',rs,h,_,hx=>by
  rw[bM]at h;simp only[Prod.mk.injEq]at h;obtain⟨_,rfl,rfl⟩:=h
  exact⟨[],.nil,fun r hr=>by simp[AV.roots]at hr,fun _ _ _ _=>by simp[ae]⟩
 | .nb n,x,b,ok,v',rs,h,hok,hx=>by
  rw[bM]at h;simp only[Prod.mk.injEq]at h;obtain⟨rfl,_⟩:=h;exact(ay hok).elim
 | .pe r p i f,x,b,ok,v',rs,h,hok,hx=>by
  rw[bM]at h;simp only[Prod.mk.injEq]at h;obtain⟨rfl,_⟩:=h;exact(ay hok).elim
 | .tup vs,x,b,ok,v',rs,h,hok,hx=>by
  rw[bM]at h;simp only[Prod.mk.injEq]at h;obtain⟨rfl,_⟩:=h;exact(ay hok).elim
 | .lit r n,x,b,ok,v',rs,h,hok,hx=>by
  rw[bM]at h
  split at h
  ·next i hi=>
   simp only[Prod.mk.injEq]at h;obtain⟨_,rfl,rfl⟩:=h
   have hlt:=(List.getElem?_eq_some_iff.1 (kI L 0 r i hi).2).1
   refine⟨[],.nil,fun r' hr=> ?_,fun getS gS hc _=> ?_⟩
   ·simp only[AV.roots,List.mem_singleton]at hr;subst hr;left;omega
   ·rw[ae]at hx⊢
    refine⟨hx.1,fun hv=> ?_⟩
    obtain⟨h1,h2⟩:=(hc r i hi).2 hv
    rw[h2];exact hx.2 h1
  ·simp only[Prod.mk.injEq]at h;obtain⟨rfl,_⟩:=h;exact(ay hok).elim
 | .sl r p sub,x,b,ok,v',rs,h,hok,hx=>by
  unfold bM at h
  generalize hi:xp L r p sub=m at h
  cases m with
  |some i=>
   simp only[Prod.mk.injEq]at h;obtain⟨_,rfl,rfl⟩:=h
   have hi':p= []∧sub=none∧idx L 0 r=some i:=by
    cases p with
    |nil=>cases sub with
     |none=>exact⟨rfl,rfl,hi⟩
     |some s=>cases hi
    |cons q p=>cases sub<;>cases hi
   obtain⟨rfl,rfl,hi⟩:=hi'
   have hlt:=(List.getElem?_eq_some_iff.1 (kI L 0 r i hi).2).1
   refine⟨[],.nil,fun r' hr=> ?_,fun getS gS hc _=> ?_⟩
   ·simp only[AV.roots,List.mem_singleton]at hr;subst hr;left;omega
   ·rw[ae]at hx⊢
    refine⟨hx.1,fun t e ht he=> ?_⟩
    obtain⟨h1,h2⟩:=(hc r i hi).1 t ht
    rw[h2];exact hx.2 t e h1 he
  |none=>
   generalize hs:sliceAt getK r p=s at h
   obtain⟨ok1,e,ys⟩:=s
   simp only[Prod.mk.injEq]at h
   obtain⟨rfl,rfl,rfl⟩:=h
   have hxK:ae getK g (.sl r p sub) x:=by
    rw[ae]at hx⊢
    exact⟨hx.1,fun t e ht he=>hx.2 t e (hG r t ht) he⟩
   have hrep:=xn hR hB hs hok hxK
   rw[ae]at hx
   obtain⟨a,n,c,hsl⟩:=hx.1
   have hH:hdr g (.sl r p sub) x []=x:=rfl
   refine⟨[⟨0,hdr g (.sl r p sub) x,fun _=>False⟩],⟨rfl,fun k y inf hy hi=> ?_⟩,fun r' hr=> ?_,fun getS gS _ hat=> ?_⟩
   ·cases k with
    |zero=>
     simp only[List.getElem?_cons_zero,Option.some.injEq]at hy hi
     subst hy;subst hi
     exact⟨e,_,rfl,hrep,a,n,c,hsl⟩
    |succ k=>simp at hy
   ·simp only[AV.roots,List.mem_singleton]at hr;subst hr;right;simp
   ·obtain⟨h1,h2⟩:=hat 0 _ _ rfl rfl
    rw[ae]
    refine⟨⟨a,n,c,hsl⟩,fun t e' ht he=> ?_⟩
    have:(gS b).H []=x:=by
     have h2:gS b=_:=h2
     rw[h2]
     rfl
    exact this.symm
 | .pv r c,x,b,ok,v',rs,h,hok,hx=>by
  rw[bM]at h
  split at h
  ·next i hi=>
   simp only[Prod.mk.injEq]at h;obtain⟨_,rfl,rfl⟩:=h
   have hlt:=(List.getElem?_eq_some_iff.1 (kI L 0 r i hi).2).1
   refine⟨[],.nil,fun r' hr=> ?_,fun getS gS hc _=> ?_⟩
   ·simp only[AV.roots,List.mem_singleton]at hr;subst hr;left;omega
   ·rw[ae]at hx⊢
    refine⟨hx.1,fun hv=> ?_⟩
    obtain⟨h1,h2⟩:=(hc r i hi).2 hv
    rw[h2];exact hx.2 h1
  ·simp only[Prod.mk.injEq]at h;obtain⟨rfl,_⟩:=h;exact(ay hok).elim
 | .fn f p q,x,b,ok,v',rs,h,hok,hx=>by
  rw[bM]at h
  generalize h1:fD getK L p b=s1 at h
  obtain⟨ok1,p',r1⟩:=s1
  simp only at h
  generalize h2:fD getK L q (b+r1.length)=s2 at h
  obtain⟨ok2,q',r2⟩:=s2
  simp only[Prod.mk.injEq]at h
  obtain⟨rfl,rfl,rfl⟩:=h
  obtain⟨k1,k2⟩:=aq.1 hok
  rw[ae]at hx
  obtain⟨vs,ws,rfl,hp,hq⟩:=hx
  obtain⟨i1,o1,b1,a1⟩:=mO hR hB hG p _ b ok1 p' r1 h1 k1 hp
  obtain⟨i2,o2,b2,a2⟩:=mO hR hB hG q _ _ ok2 q' r2 h2 k2 hq
  refine⟨i1++i2,o1.app o2,fun r hr=> ?_,fun getS gS hc hat=> ?_⟩
  ·simp only[AV.roots,List.mem_append]at hr
   simp only[List.length_append]
   rcases hr with hr|hr
   ·rcases b1 r hr with h|h
    ·exact .inl h
    ·exact .inr ⟨h.1,by omega⟩
   ·rcases b2 r hr with h|h
    ·exact .inl h
    ·exact .inr ⟨by omega,by omega⟩
  ·rw[ae]
   exact⟨vs,ws,rfl,a1 getS gS hc (hat.left o1.1),a2 getS gS hc (hat.right o1.1)⟩
 | .agg cs,x,b,ok,v',rs,h,hok,hx=>by
  rw[bM]at h
  generalize h1:fD getK L cs b=s1 at h
  obtain⟨ok1,p',r1⟩:=s1
  simp only[Prod.mk.injEq]at h
  obtain⟨rfl,rfl,rfl⟩:=h
  rw[ae]at hx
  obtain⟨vs,rfl,hone,hp⟩:=hx
  obtain⟨i1,o1,b1,a1⟩:=mO hR hB hG cs _ b ok1 p' r1 h1 hok hp
  refine⟨i1,o1,fun r hr=>b1 r (by simpa[AV.roots]using hr),fun getS gS hc hat=> ?_⟩
  rw[ae]
  exact⟨vs,rfl,hone,a1 getS gS hc hat⟩
theorem mO{getK:Get}{wb:World}{L:List Nat}{get:Get}(hR: ∀r,aF w0 wb getK g r)(hB:Seen w0 wb)(hG: ∀r t,bI (getK r)=some t→bI (get r)=some t):
  ∀(vs:List AV) (xs:List Value) (b:Nat) (ok:List Tst) (vs':List AV) (rs:List ak),fD getK L vs b=(ok,vs',rs)→aN ok→ai get g vs xs→
   ∃infs,rn wb rs infs∧(∀r∈AV.ah vs',r<L.length∨(b≤r∧r<b+rs.length))∧ ∀getS gS,Gj get g L getS gS→At getS gS b rs infs→ai getS gS vs' xs
 | [],xs,b,ok,vs',rs,h,_,hx=>by
  rw[fD]at h;simp only[Prod.mk.injEq]at h;obtain⟨_,rfl,rfl⟩:=h
  exact⟨[],.nil,fun r hr=>by simp[AV.ah]at hr,fun _ _ _ _=>by rw[ai]at hx⊢;exact hx⟩
 |v::vs,xs,b,ok,vs',rs,h,hok,hx=>by
  rw[fD]at h
  generalize h1:bM getK L v b=s1 at h
  obtain⟨ok1,p',r1⟩:=s1
  simp only at h
  generalize h2:fD getK L vs (b+r1.length)=s2 at h
  obtain⟨ok2,q',r2⟩:=s2
  simp only[Prod.mk.injEq]at h
  obtain⟨rfl,rfl,rfl⟩:=h
  obtain⟨k1,k2⟩:=aq.1 hok
  rw[ai]at hx
  obtain⟨x,xs',rfl,hp,hq⟩:=hx
  obtain⟨i1,o1,b1,a1⟩:=DR hR hB hG v x b ok1 p' r1 h1 k1 hp
  obtain⟨i2,o2,b2,a2⟩:=mO hR hB hG vs xs' _ ok2 q' r2 h2 k2 hq
  refine⟨i1++i2,o1.app o2,fun r hr=> ?_,fun getS gS hc hat=> ?_⟩
  ·simp only[AV.ah,List.mem_append]at hr
   simp only[List.length_append]
   rcases hr with hr|hr
   ·rcases b1 r hr with h|h
    ·exact .inl h
    ·exact .inr ⟨h.1,by omega⟩
   ·rcases b2 r hr with h|h
    ·exact .inl h
    ·exact .inr ⟨by omega,by omega⟩
  ·rw[ai]
   exact⟨x,xs',rfl,a1 getS gS hc (hat.left o1.1),a2 getS gS hc (hat.right o1.1)⟩
end
end
end
end Go.Am
end
section
/- Soundness: a whole owned row sorted by slices.SortFunc, whose contract is brought. -/
namespace Go.Am
noncomputable section
attribute [local instance] D.real
section
variable {w : World}
theorem sd: ∀(t:Ty) (d:den t) (G:Nat→Path→Value) (f0 o:Nat) (rd rd':Nat→Option Value),Rep w false t d G f0 rd→(∀g,f0≤g→g<f0+t.size→rd' (g+o)=rd g)→Rep w false t d (fun k=>G (k-o)) (f0+o) rd':=by
 intro t
 induction t with
 |int k=>intro d G f0 o rd rd' h hr;exact(hr f0 (Nat.le_refl _) (by simp[Ty.size])).trans h
 |bool=>intro d G f0 o rd rd' h hr;exact(hr f0 (Nat.le_refl _) (by simp[Ty.size])).trans h
 |str=>intro d G f0 o rd rd' h hr;exact(hr f0 (Nat.le_refl _) (by simp[Ty.size])).trans h
 |unit=>intros;trivial
 |sl e _=>
  intro d G f0 o rd rd' h hr
  have e1:f0+o-o=f0:=by omega
  refine⟨?_,?_⟩
  ·show rd' (f0+o)=some (G (f0+o-o) [])
   rw[e1];exact(hr f0 (Nat.le_refl _) (by simp[Ty.size])).trans h.1
  ·show nM _ _ _ _ _ (G (f0+o-o))
   rw[e1];exact h.2
 |pair a b iha ihb=>
  intro d G f0 o rd rd' h hr
  simp only[Ty.size]at hr
  refine⟨iha d.1 G f0 o rd rd' h.1 fun g h1 h2=>hr g h1 (by omega),?_⟩
  have:=ihb d.2 G (f0+a.size) o rd rd' h.2 fun g h1 h2=>hr g (by omega) (by omega)
  rw[show f0+a.size+o=f0+o+a.size by omega]at this
  exact this
end
section
variable {P : Program} {w0 : bu} {w w' : World} {st : St} {g : aB} {born : Nat → Prop} {acts : List Act}
theorem FF{f:Nat}{fn:Func}(hf:P.funcs[f]?=some fn)(hb:fn.body.isSome=true)(hn:(fn.name== "runtime.NumGoroutine")=false)(args:Array Value)(w:World):(callFunc f args).run P w= .ok (.enter f args) w:=by
 have hbn:fn.body.isNone=false:=by
  cases h:fn.body with
  |none=>rw[h]at hb;cases hb
  |some c=>rfl
 simp only[callFunc,Sem.run_bind,run_program,Result.andThen_ok,Sem.run_pure,hf,hn,hbn,Bool.false_eq_true,if_false]
theorem zI(st:St)(r n x:Nat):(st.cut (some (r,n))).get x=(st.get x).cut r n:=by
 show(st.rs.map (ak.cut r n)).getD x .dead=_
 simp only[List.getD_eq_getElem?_getD,List.getElem?_map]
 show _=(st.rs.getD x .dead).cut r n
 simp only[List.getD_eq_getElem?_getD]
 cases st.rs[x]?<;>rfl
theorem BT(h:RowKit.Below w.heap.size w w')(hd:w.drawn≤w'.drawn): ∃q os,w'=Sort.grow (w.drewN q) os:=by
 refine⟨w'.drawn-w.drawn,w'.heap.extract w.heap.size w'.heap.size,?_⟩
 obtain⟨hp,tp,dr,os_,out⟩:=w
 obtain⟨hp',tp',dr',os',out'⟩:=w'
 have e1:os'=os_:=h.os
 have e2:tp'=tp:=h.tape
 have e3:out'=out:=h.output
 have e4:hp.size≤hp'.size:=h.size
 have e5: ∀k,k<hp.size→hp'[k]?=hp[k]?:=h.block
 subst e1 e2 e3
 have hh:hp'=hp++hp'.extract hp.size hp'.size:=by
  apply Array.ext'
  apply List.ext_getElem?
  intro i
  rw[Array.getElem?_toList,Array.getElem?_toList]
  rcases Nat.lt_or_ge i hp.size with hi|hi
  ·rw[e5 i hi,Array.getElem?_append_left hi]
  ·rw[Array.getElem?_append_right hi,Array.getElem?_extract]
   have:hp.size+(i-hp.size)=i:=by omega
   rw[this]
   split
   ·rfl
   ·rw[Array.getElem?_eq_none (by omega)]
 have hd':dr≤dr':=hd
 have e6:dr+(dr'-dr)=dr':=by omega
 unfold Sort.grow World.drewN
 dsimp only
 rw[e6,←hh]
theorem Dh{t u:Ty}(h:t=u)(x:den t){W:World}{G:Nat→Path→Value}{f:Nat}{rd:Nat→Option Value}:Rep W false u (nE h x) G f rd↔Rep W false t x G f rd:=by
 subst h;exact Iff.rfl
theorem Em{c:Nat}{t:Ty}(hfit:o9 P c t=true)(h1:eH P c= .pair t t)(h2:resTy P c= .int .i64){a b:den t}{z:den (resTy P c)}(hv:Valid P c (nE h1.symm (a,b)) z){W:World}{A B:List Value}
  (hA:A.length=t.size) (hB:B.length=t.size) (h1A: ∀v∈A,v.oneCell'=true) (h1B: ∀v∈B,v.oneCell'=true) {G:Nat→Path→Value} (hrep:Rep W false (.pair t t) (a,b) G 0 (fun k=>(A++B)[k]?)):
  Calls P c #[.agg A.toArray,.agg B.toArray] W fun e w'=>e= .returned (.int .i64 (nE h2 z))∧RowKit.Below W.heap.size W w':=by
 have key: ∀(ts us:List TypeId) (ha:dV P c=ts) (hr:bE P c=us),Calls P c #[.agg A.toArray,.agg B.toArray] W fun e w'=>e= .returned (.int .i64 (nE h2 z))∧RowKit.Below W.heap.size W w':=by
  intro ts us ha hr
  unfold o9 at hfit
  rw[ha,hr]at hfit
  split at hfit
  ·next T1 T2 T3=>
   simp only[Bool.and_eq_true,decide_eq_true_eq,Bool.not_eq_true']at hfit
   obtain⟨_,⟨f1,f2,f3⟩,f4,f5⟩:=hfit
   refine(hv.2 W #[.agg A.toArray,.agg B.toArray] ?_).mono ?_
   ·unfold fN
    refine⟨?_,G,?_⟩
    ·rw[ha]
     refine⟨_,_,rfl,?_,_,_,rfl,?_,rfl⟩
     ·unfold Fit;rw[if_pos f1];exact⟨A.toArray,rfl,by rw[f4];simpa using hA,fun v hv=>h1A v (by simpa using hv)⟩
     ·unfold Fit;rw[if_pos f2];exact⟨B.toArray,rfl,by rw[f5];simpa using hB,fun v hv=>h1B v (by simpa using hv)⟩
    ·have e:bh (#[Value.agg A.toArray,Value.agg B.toArray]:Array Value).toList=A++B:=by simp[bh,Value.cells]
     rw[e]
     exact(Dh h1.symm (a,b)).2 hrep
   ·rintro e w' ⟨vs,rfl,hb,hres⟩
    refine⟨?_,hb⟩
    have hres': ∀(us':List TypeId) (z':den (dw P us')) (hu:us'= [T3]) (hz:dw P us'= .int .i64),jy P W.heap.size w' us' vs z'→vs= [.int .i64 (nE hz z')]:=by
     intro us' z' hu hz hR
     subst hu
     obtain⟨⟨v,l,rfl,hfv,hl⟩,G',hG,_⟩:=hR
     have hl:l= []:=hl
     subst hl
     have f3':=(oR hfv).2
     unfold Fit at hfv
     rw[if_neg (by simp[f3])]at hfv
     have e:bh [v]= [v]:=by simp[bh,hU hfv.1]
     rw[e]at hG
     have: ∀(T:Ty) (z'':den T) (hT:T= .int .i64),Rep w' true T z'' G' 0 (fun k=> [v][k]?)→v= .int .i64 (nE hT z''):=by
      rintro _ z'' rfl hG
      have:some v=some (.int .i64 z''):=hG
      injection this
     rw[this _ z' hz hG]
    have:=hres' (bE P c) z hr h2 hres
    rw[this];rfl
  ·cases hfit
 exact key _ _ rfl rfl
theorem BJ(R:Rel w0 st g born acts w){r:Nat}{t:Ty}{xs ys:List (den t)}(hg:st.get r= .row true t xs)(hq: ∀j r' p t xs,st.get j= .pend r' p t xs→r'≠r){H':Path→Value}(hH:H' []=(g r).H [])
  (hb:bL w0 w w') (hoth: ∀b,b<w.heap.size→(¬ ∃a n c,(g r).H []= .slice (some a) n c∧c≠0∧a.block=b)→w'.heap[b]?=w.heap[b]?) (hrep:aS w' true t ys H') (hsep:bD t ys H') (hblk: ∀b,aD t ys H' b→aD t xs (g r).H b):
  Rel w0 ⟨(st.cut (some (r,1))).fr,cU (st.cut (some (r,1))).rs [(r,.row true t ys)]⟩ (dK g r ⟨(g r).b,H',(g r).S⟩) born acts w':=by
 have hgetC: ∀i,(st.cut (some (r,1))).get i=(st.get i).cut r 1:=zI st r 1
 have hget: ∀i,St.get ⟨(st.cut (some (r,1))).fr,cU (st.cut (some (r,1))).rs [(r,.row true t ys)]⟩ i=if i=r then .row true t ys else(st.get i).cut r 1:=fun i=>by
  have:(⟨(st.cut (some (r,1))).fr,cU (st.cut (some (r,1))).rs [(r,.row true t ys)]⟩:St)=(st.cut (some (r,1))).ep r (.row true t ys):=rfl
  rw[this,dN,hgetC]
 generalize hst2:(⟨(st.cut (some (r,1))).fr,cU (st.cut (some (r,1))).rs [(r,.row true t ys)]⟩:St)=st2 at hget⊢
 have hfr:st2.fr=st.fr.map (AV.gl r 1):=by rw[←hst2];rfl
 have ownO: ∀i b,i≠r→(Own st2.get (dK g r ⟨(g r).b,H',(g r).S⟩) i b↔Own st.get g i b):=fun i b hi=>by
  have e1:=hget i
  rw[if_neg hi]at e1
  have e2:dK g r ⟨(g r).b,H',(g r).S⟩ i=g i:=aE hi
  unfold Own
  rw[e1]
  cases hgi:st.get i with
  |dead=>exact Iff.rfl
  |var cs=>simp only[e2,ak.cut]
  |row rw t xs=>cases rw<;>simp only[e2,ak.cut]
  |half t xs=>simp only[e2,ak.cut]
  |sh t xs=>simp only[e2,ak.cut]
  |pend r' p t xs=>
   have e3:dK g r ⟨(g r).b,H',(g r).S⟩ r'=g r':=aE (hq i r' p t xs hgi)
   simp only[e2,mh,e3,ak.cut]
 have ownR: ∀b,Own st2.get (dK g r ⟨(g r).b,H',(g r).S⟩) r b→Own st.get g r b:=fun b h=>by
  unfold Own at h⊢
  rw[hget,if_pos rfl,bU]at h
  rw[hg]
  exact hblk b h
 have hlt: ∀i b,Own st.get g i b→b<w.heap.size:=fun i b h=>eO R h
 refine wk (r0:=r) (n:=1) (fun i=>i=r) R hb hfr (fun i _=> ?_) (fun i hi=>⟨?_,aE hi,fun b h=> ?_⟩) (fun i r' p t' xs' hi e=>hq i r' p t' xs' e) (fun i hi=> ?_) (fun i i' b hi hne h1 h2=> ?_) (fun i b hi h=> ?_) (fun i h=>h) (fun i hi x hx=> ?_) (fun i hi h=> ?_)
 ·by_cases hi:i=r
  ·subst hi
   refine⟨fun t' ht=> ?_,fun hv=> ?_⟩
   ·rw[hget,if_pos rfl]at ht
    refine⟨by rw[hg];exact ht,fun p hp=> ?_⟩
    have hp0:p= []:=List.eq_nil_of_length_eq_zero (by have:=hp rfl;omega)
    subst hp0
    rw[bU];exact hH
   ·rw[hget,if_pos rfl]at hv;cases hv
  ·have e1:=hget i
   rw[if_neg hi]at e1
   refine⟨fun t' ht=>⟨?_,fun p _=>by rw[aE hi]⟩,fun hv=>⟨?_,by rw[aE hi]⟩⟩
   ·rw[e1]at ht
    cases hgi:st.get i<;>rw[hgi]at ht<;>exact ht
   ·rw[e1]at hv
    cases hgi:st.get i<;>rw[hgi]at hv<;>exact hv
 ·rw[hget,if_neg hi]
 ·refine hoth b (hlt i b h) (fun⟨a,n,c,e1,e2,e3⟩=> ?_)
  refine R.sep i r b hi h ?_
  unfold Own
  rw[hg]
  exact .inl ⟨a,n,c,e1,e2,e3⟩
 ·subst hi
  unfold aF
  rw[hget,if_pos rfl,bU]
  exact⟨hrep,hsep⟩
 ·subst hi
  exact R.sep i i' b hne (ownR b h1) ((ownO i' b (Ne.symm hne)).1 h2)
 ·subst hi
  exact R.low i b (ownR b h)
 ·subst hi
  rw[hget,if_pos rfl]at hx
  cases hx
 ·subst hi
  exact R.alive i (by rw[hg];exact fun h=>by cases h)
end
end
end Go.Am
end
section
/- Soundness: what slices.SortFunc makes of an owned row. -/
namespace Go.Am
noncomputable section
attribute [local instance] D.real
section
variable {P : Program} {w : World} {t : Ty}
theorem addN{a:Addr}(h:a.spot=none)(n:Nat):a.add n=⟨a.block,a.off+n,none⟩:=by
 obtain⟨b,o,s⟩:=a
 obtain rfl:s=none:=h
 unfold Addr.add
 split
 ·subst_vars;rfl
 ·rfl
theorem oT{α:Type} [Inhabited α](enc:α→List Value)(k:Nat)(w:World)(blk off n:Nat)(dk:Array α)(os:Array Obj){b:Nat}(hb:b<w.heap.size)(hne:b≠blk):(Proofs.sortWorldK enc k w blk off n dk os).heap[b]?=w.heap[b]?:=by
 unfold Proofs.sortWorldK Sort.grow Sort.putRowK Sort.putRow Sort.mapBlock Sort.ahead
 dsimp only
 rw[Array.getElem?_append_left (by simpa using hb),Array.getElem?_modify,if_neg (Ne.symm hne)]
theorem E5{α:Type} [Inhabited α](enc:α→List Value)(k:Nat)(w:World)(blk off n:Nat)(dk:Array α)(os:Array Obj){arr:Array Value}{te:TypeId}(h:w.heap[blk]?=some (.cells arr te (0,0))):
  ∃arr',(Proofs.sortWorldK enc k w blk off n dk os).heap[blk]?=some (.cells arr' te (0,0))∧arr'.size=arr.size:=by
 have hb:blk<w.heap.size:=(Array.getElem?_eq_some_iff.1 h).1
 refine⟨Sort.putCells id off (Sort.flatK enc k dk) arr,?_,?_⟩
 ·unfold Proofs.sortWorldK Sort.grow Sort.putRowK Sort.putRow Sort.mapBlock Sort.ahead
  dsimp only
  rw[Array.getElem?_append_left (by simpa using hb),Array.getElem?_modify,if_pos rfl,h]
  rfl
 ·simp[Sort.putCells]
theorem EH{α:Type} [Inhabited α](enc:α→List Value)(k:Nat)(w:World)(blk off n:Nat)(dk:Array α)(os:Array Obj):w.heap.size≤(Proofs.sortWorldK enc k w blk off n dk os).heap.size:=by
 unfold Proofs.sortWorldK Sort.grow Sort.putRowK Sort.putRow Sort.mapBlock Sort.ahead
 simp
theorem C0{α:Type} [Inhabited α](B:bu)(enc:α→List Value)(k:Nat)(w:World)(blk off n:Nat)(dk:Array α)(os:Array Obj)(hlow: ¬B.dh blk)(hB:B.v.heap.size≤w.heap.size){arr:Array Value}{te:TypeId}(h:w.heap[blk]?=some (.cells arr te (0,0))):
  bL B w (Proofs.sortWorldK enc k w blk off n dk os):=by
 refine⟨rfl,rfl,rfl,EH enc k w blk off n dk os,fun j hj=>oT enc k w blk off n dk os (Nat.lt_of_lt_of_le hj.1 hB) (fun e=>hlow (e▸hj)),fun j o h1 h2=> ?_⟩
 have hne:j≠blk:=fun e=>by subst e;rw[h]at h1;cases h1;cases h2
 exact(oT enc k w blk off n dk os (Array.getElem?_eq_some_iff.1 h1).1 hne).trans h1
theorem mj{env:Env P}{c:Nat}{xs ys:List (den t)}(h:q9 env c t xs=some ys):
  ∃(h1:eH P c= .pair t t) (h2:resTy P c= .int .i64),Ea (fun a b=>AH h2 (env.pc c (nE h1.symm (a,b)))) xs=some ys:=by
 unfold q9 at h
 split at h
 ·next h1 h2 _ _=>exact⟨h1,h2,h⟩
 ·cases h
theorem uh{u v:Ty}(h:u=v){x:Option (den u)}{y:den v}(e:AH h x=some y): ∃z,x=some z∧y=nE h z:=by
 subst h;exact⟨y,e,rfl⟩
theorem Ec{env:Env P}(hE:gV P env){f c:Nat}(hS:y0 P f t.size)(hfit:o9 P c t=true){xs ys:List (den t)}(hs:q9 env c t xs=some ys)
  {H:Path→Value} {a:Addr} {cap:Nat} (hne:xs≠ []) (hH:H []= .slice (some a) xs.length cap) (hle:xs.length≤cap) (hsp:a.spot=none) {arr:Array Value} {te:TypeId} (harr:w.heap[a.block]?=some (.cells arr te (0,0)))
  (hfits:a.off+cap*t.size≤arr.size) (hrep: ∀(i:Nat) (x:den t),xs[i]?=some x→Rep w true t x (fun f p=>H ((i,f)::p)) 0 (fun f=>w.cell? (a.add (i*t.size+f)))) (hsep:bD t xs H):
  Calls P f #[.slice (some a) xs.length cap,.func (.func c) #[] #[]] w fun e w'=>e= .returned (.tuple #[])∧ ∃H':Path→Value,H' []=H []∧(∀b,b<w.heap.size→b≠a.block→w'.heap[b]?=w.heap[b]?)∧
   (∀B:bu,¬B.dh a.block→B.v.heap.size≤w.heap.size→bL B w w')∧aS w' true t ys H'∧bD t ys H'∧ ∀b,aD t ys H' b→aD t xs H b:=by
 obtain⟨h1,h2,hs⟩:=mj hs
 generalize hF:(fun(a b:den t)=>AH h2 (env.pc c (nE h1.symm (a,b))))=F at hs
 have hFe: ∀a b,F a b=AH h2 (env.pc c (nE h1.symm (a,b))):=fun a b=>by rw[←hF]
 obtain⟨⟨o1,o2,o3,o4,o5,_⟩,⟨s1,s2⟩,s3⟩:=sj hs
 obtain⟨bl,off,sp⟩:=a
 obtain rfl:sp=none:=hsp
 dsimp only at*
 have hn:0<xs.length:=by
  rcases Nat.eq_zero_or_pos xs.length with h|h
  ·exact absurd (List.eq_nil_of_length_eq_zero h) hne
  ·exact h
 generalize hk:t.size=k at*
 have cl: ∀i,Nat.min i (xs.length-1)<xs.length:=fun i=>by have:=Nat.min_le_right i (xs.length-1);show min i _<_;omega
 generalize hcl:(fun i=>Nat.min i (xs.length-1))=c' at*
 have hc': ∀i,c' i<xs.length:=fun i=>by rw[←hcl];exact cl i
 have hc1: ∀i,i<xs.length→c' i=i:=fun i hi=>by rw[←hcl];show min i _=i;omega
 clear hcl cl
 generalize hX:(fun i=>xs[c' i]'(hc' i))=X
 have hXi: ∀i,xs[c' i]?=some (X i):=fun i=>by rw[←hX];exact List.getElem?_eq_getElem (hc' i)
 have hXm: ∀i,X i∈xs:=fun i=>List.mem_of_getElem? (hXi i)
 generalize henc:(fun i=>(List.range k).map fun j=>(w.cell? ⟨bl,off+(c' i*k+j),none⟩).getD (.bool false))=enc
 have he: ∀i,enc i=(List.range k).map fun j=>(w.cell? ⟨bl,off+(c' i*k+j),none⟩).getD (.bool false):=fun i=>by rw[←henc]
 have hcell: ∀i j,j<k→ ∃v,w.cell? ⟨bl,off+(c' i*k+j),none⟩=some v∧v.oneCell'=true:=fun i j hj=>by
  have:=oP t _ _ 0 _ (hrep (c' i) (X i) (hXi i)) j (Nat.zero_le _) (by omega)
  rw[addN (a:=⟨_,_,none⟩) rfl]at this
  exact this
 have he1: ∀i,(enc i).length=k:=fun i=>by rw[he];simp
 have heg: ∀i j,j<k→(enc i)[j]?=w.cell? ⟨bl,off+(c' i*k+j),none⟩:=fun i j hj=>by
  obtain⟨v,e,_⟩:=hcell i j hj
  rw[he,List.getElem?_map,List.getElem?_range hj,e]
  show some ((w.cell? _).getD _)=_
  rw[e];rfl
 have he2: ∀i,∀v∈enc i,v.oneCell'=true:=fun i v hv=>by
  rw[he]at hv
  obtain⟨j,hj,rfl⟩:=List.mem_map.1 hv
  obtain⟨v,e,e2⟩:=hcell i j (List.mem_range.1 hj)
  rw[e];exact e2
 have hlt:bl<w.heap.size:=(Array.getElem?_eq_some_iff.1 harr).1
 have hz:(Array.range xs.length).size=xs.length:=by simp
 have hr: ∀i,i<xs.length→(Array.range xs.length)[i]! =i:=fun i hi=>by simp[hi]
 have hhold:Sort.HoldsK enc k w bl off (Array.range xs.length):=fun j hj=>by
  rw[Sort.size_flatK,hz]at hj
  have hk0:0<k:=by
   rcases Nat.eq_zero_or_pos k with h|h
   ·subst h;simp at hj
   ·exact h
  have hj1:j/k<xs.length:=Nat.div_lt_of_lt_mul (by rw[Nat.mul_comm];exact hj)
  have hj2:j % k<k:=Nat.mod_lt _ hk0
  refine⟨?_,?_⟩
  ·rw[Sort.get_flatK _ _ _ _ (by rw[hz];exact hj),hr _ hj1]
   obtain⟨v,e,_⟩:=hcell (j/k) (j % k) hj2
   have e3:=heg (j/k) (j % k) hj2
   rw[hc1 _ hj1]at e e3
   have e4:j/k*k+j % k=j:=by rw[Nat.mul_comm];exact Nat.div_add_mod j k
   rw[e4]at e e3
   rw[e,getElem!_def,e3,e];rfl
  ·unfold World.frozen?
   rw[harr]
   simp
 generalize hcf:(fun i j=>(F (X i) (X j)).getD (0:Int))=cf
 have hcfe: ∀i j,cf i j=(F (X i) (X j)).getD (0:Int):=fun i j=>by rw[←hcf]
 have hlo: ∀i j,Proofs.ltOf cf i j=true↔lQ F (X i) (X j):=fun i j=>by unfold Proofs.ltOf lQ;rw[hcfe];exact decide_eq_true_iff
 have hlo': ∀i j,Proofs.ltOf cf i j=false↔ ¬lQ F (X i) (X j):=fun i j=>by rw[←hlo];cases Proofs.ltOf cf i j<;>simp
 have hswo:Sort.SWO (Proofs.ltOf cf):=⟨fun x=>(hlo' x x).2 (o3 _ (hXm x)),fun x y z a b=>(hlo x z).2 (o4 _ (hXm x) _ (hXm y) _ (hXm z) ((hlo x y).1 a) ((hlo y z).1 b)),
  fun x y z a b=>(hlo' x z).2 (o5 _ (hXm x) _ (hXm y) _ (hXm z) ((hlo' x y).1 a) ((hlo' y z).1 b))⟩
 have hkid: ∀i b,Blk t (X i) (fun f p=>H ((c' i,f)::p)) 0 b→b<w.heap.size∧b≠bl:=fun i b hb=>by
  refine⟨FD t _ _ 0 _ (hrep (c' i) (X i) (hXi i)) b hb,fun e=> ?_⟩
  subst e
  refine hsep.1 _ _ _ (c' i) (X i) hH ?_ (hXi i) hb
  omega
 obtain⟨fnc,hfc,hfb⟩: ∃fn,P.funcs[c]?=some fn∧fn.body.isSome=true:=by
  obtain⟨v,hv⟩:=Option.isSome_iff_exists.1 (o2 _ (hXm 0) _ (hXm 0))
  rw[hFe]at hv
  obtain⟨z,hz,_⟩:=uh h2 hv
  exact(hE.pc c _ z hz).1
 have hnm:(fnc.name== "runtime.NumGoroutine")=false:=by
  unfold o9 at hfit
  split at hfit
  ·rw[hfc]at hfit
   simp only[Bool.and_eq_true,Bool.not_eq_true']at hfit
   exact hfit.1
  ·cases hfit
 have hcmp:Proofs.CmpLays P c #[] enc k cf bl off (Array.range xs.length).size w:=fun m os dk hdk x y=>by
  generalize hW:Proofs.sortWorldK enc k w bl off m dk os=W
  obtain⟨v,hv⟩:=Option.isSome_iff_exists.1 (o2 _ (hXm x) _ (hXm y))
  rw[hFe]at hv
  obtain⟨z,hz',rfl⟩:=uh h2 hv
  have hcv:cf x y=nE h2 z:=by rw[hcfe,hFe,hv];rfl
  have hfr: ∀b,b<w.heap.size→b≠bl→W.heap[b]?=w.heap[b]?:=fun b h1 h2=>by rw[←hW];exact oT enc k w bl off m dk os h1 h2
  have hrx: ∀i,Rep W false t (X i) (fun f p=>H ((c' i,f)::p)) 0 (fun q=>(enc i)[q]?):=fun i=>by
   refine dR t _ _ 0 _ _ (fun b hb=>hfr b (hkid i b hb).1 (hkid i b hb).2) (fun q _ hq=> ?_) (Fi t _ _ _ _ _ (hrep (c' i) (X i) (hXi i)))
   rw[addN (a:=⟨_,_,none⟩) rfl]
   exact heg i q (by omega)
  have hpair:Rep W false (.pair t t) (X x,X y) (fun f p=>if f<k then H ((c' x,f)::p)else H ((c' y,f-k)::p)) 0 (fun q=>(enc x++enc y)[q]?):=by
   refine⟨?_,?_⟩
   ·refine fK t _ (fun f p=>H ((c' x,f)::p)) _ 0 _ (fun g _ hg=> ?_) ?_
    ·funext p
     rw[if_pos (by omega)]
    ·refine dR t _ _ 0 _ _ (fun _ _=>rfl) (fun q _ hq=> ?_) (hrx x)
     exact List.getElem?_append_left (by rw[he1];omega)
   ·have:=sd t _ _ 0 k _ (fun q=>(enc x++enc y)[q]?) (hrx y) (fun q _ hq=>by
     show(enc x++enc y)[q+k]?=_
     rw[List.getElem?_append_right (by rw[he1];omega),he1,Nat.add_sub_cancel])
    rw[show 0+t.size=0+k by omega]
    refine fK t _ _ _ (0+k) _ (fun g hg _=> ?_) this
    funext p
    rw[if_neg (by omega)]
  have hcall:=Em hfit h1 h2 (hE.pc c _ z hz') (he1 x|>.trans hk.symm) (he1 y|>.trans hk.symm) (he2 x) (he2 y) hpair
  refine(Drawn.zc hcall).mono ?_
  rintro e w' ⟨⟨rfl,hb⟩,hd⟩
  exact⟨by rw[hcv],BT hb (hd ⟨_,rfl⟩)⟩
 have hrun:=hS.2.2 enc cf c bl off cap (Array.range xs.length) w he1 he2 hswo (fun args w=>FF hfc hfb hnm args w) hcmp hhold hlt (by rw[hz];exact o1)
 rw[hz]at hrun
 refine hrun.mono ?_
 rintro e w' ⟨rfl,d',n,os,⟨p1,_,p3⟩,hsd,rfl⟩
 refine⟨rfl,?_⟩
 rw[hz]at p1
 have p3':d'.toList.Perm (List.range xs.length):=by
  have e1:d'.extract 0 xs.length=d':=by rw[←p1];exact Array.extract_size
  have e2:(Array.range xs.length).extract 0 xs.length=Array.range xs.length:=by
   conv=>lhs;arg 3;rw[←hz]
   exact Array.extract_size
  rw[e1,e2]at p3
  simpa using p3
 have hd: ∀i,i<xs.length→d'[i]!<xs.length∧d'.toList[i]?=some d'[i]!:=fun i hi=>by
  have h0:i<d'.size:=by omega
  have e1:d'[i]! =d'[i]:=getElem!_pos d' i h0
  refine⟨?_,?_⟩
  ·have:d'[i]∈d'.toList:=Array.getElem_mem_toList h0
   rw[e1]
   exact List.mem_range.1 (p3'.mem_iff.1 this)
  ·rw[e1,Array.getElem?_toList,Array.getElem?_eq_getElem h0]
 have hinj: ∀i j,i<xs.length→j<xs.length→d'[i]! =d'[j]!→i=j:=fun i j hi hj e=>by
  have hnd:d'.toList.Nodup:=p3'.nodup_iff.2 List.nodup_range
  have e2:d'.toList[i]?=d'.toList[j]?:=by rw[(hd i hi).2,(hd j hj).2,e]
  exact(List.getElem?_inj (by simpa[p1]using hi) hnd).1 e2
 have hmap:d'.toList.map X=ys:=by
  refine s3 _ ⟨?_,?_⟩
  ·refine(p3'.map X).trans ?_
   have:(List.range xs.length).map X=xs:=by
    apply List.ext_getElem?
    intro i
    rw[List.getElem?_map]
    rcases Nat.lt_or_ge i xs.length with hi|hi
    ·rw[List.getElem?_range hi]
     have:=hXi i
     rw[hc1 i hi]at this
     exact this.symm
    ·rw[List.getElem?_eq_none (by simpa using hi),List.getElem?_eq_none hi];rfl
   rw[this]
  ·intro i j u v hij hu hv
   have hj:j<xs.length:=by
    rcases Nat.lt_or_ge j xs.length with h|h
    ·exact h
    ·rw[List.getElem?_eq_none (by simp[p1];exact h)]at hv;cases hv
   rw[List.getElem?_map,(hd i (by omega)).2]at hu
   rw[List.getElem?_map,(hd j hj).2]at hv
   cases hu;cases hv
   exact(hlo' _ _).1 (hsd i j (Nat.zero_le _) hij (by simpa using hj))
 have hlen:ys.length=xs.length:=by rw[←hmap];simp[p1]
 have hys: ∀i y,ys[i]?=some y→i<xs.length∧y=X d'[i]!:=fun i y hy=>by
  have hi:i<xs.length:=by
   rcases Nat.lt_or_ge i ys.length with h|h
   ·omega
   ·rw[List.getElem?_eq_none h]at hy;cases hy
  refine⟨hi,?_⟩
  rw[←hmap,List.getElem?_map,(hd i hi).2]at hy
  cases hy
  rfl
 generalize hW:Proofs.sortWorldK enc k w bl off n d' os=W
 have hfr: ∀b,b<w.heap.size→b≠bl→W.heap[b]?=w.heap[b]?:=fun b h1 h2=>by rw[←hW];exact oT enc k w bl off n d' os h1 h2
 have hWh:Sort.HoldsK enc k W bl off d':=by rw[←hW];exact Proofs.holdsK_sortWorldK_c enc k w bl off _ d' n os hhold hlt (by rw[p1,hz])
 refine⟨fun p=>match p with
  | []=>H []
  |(i,f)::p=>H ((c' d'[i]!,f)::p),rfl,hfr,fun B h1 h2=>by rw[←hW];exact C0 B enc k w bl off n d' os h1 h2 harr,?_,⟨?_,?_,?_⟩,?_⟩
 ·refine .inr ⟨⟨bl,off,none⟩,cap,by rw[hlen];exact hH,by omega,fun _ _=>⟨rfl,?_⟩,fun i y hy=> ?_⟩
  ·obtain⟨arr',h1,h2⟩:=E5 enc k w bl off n d' os harr
   rw[hW]at h1
   exact⟨arr',te,h1,by rw[h2,hk];exact hfits⟩
  ·obtain⟨hi,rfl⟩:=hys i y hy
   have hdi:=(hd i hi).1
   refine dR t _ _ 0 _ _ (fun b hb=>hfr b (hkid _ b hb).1 (hkid _ b hb).2) (fun q _ hq=> ?_) (hrep (c' d'[i]!) (X d'[i]!) (hXi _))
   rw[addN (a:=⟨_,_,none⟩) rfl,addN (a:=⟨_,_,none⟩) rfl]
   have hq':q<k:=by omega
   have:=(hWh.cell (i:=i) (c:=q) (by omega) hq').1
   rw[Nat.add_assoc]at this
   show W.cell? ⟨bl,off+(i*t.size+q),none⟩=w.cell? ⟨bl,off+(c' d'[i]!*k+q),none⟩
   rw[hk,this,←heg _ q hq',getElem!_def]
   cases e:(enc d'[i]!)[q]? with
   |some v=>rfl
   |none=>rw[List.getElem?_eq_none_iff,he1]at e;omega
 ·intro a' n' c'' i y e1 e2 e3 hb
  obtain⟨hi,rfl⟩:=hys i y e3
  exact hsep.1 a' n' c'' _ _ e1 e2 (hXi _) hb
 ·intro i j y z b hij e1 e2 b1 b2
  obtain⟨hi,rfl⟩:=hys i y e1
  obtain⟨hj,rfl⟩:=hys j z e2
  refine hsep.2.1 _ _ _ _ b (fun e=> ?_) (hXi _) (hXi _) b1 b2
  rw[hc1 _ (hd i hi).1,hc1 _ (hd j hj).1]at e
  exact hij (hinj i j hi hj e)
 ·intro i y e1
  obtain⟨hi,rfl⟩:=hys i y e1
  exact hsep.2.2 _ _ (hXi _)
 ·rintro b (⟨a',n',c'',e1,e2,e3⟩|⟨i,y,e1,e2⟩)
  ·exact .inl ⟨a',n',c'',e1,e2,e3⟩
  ·obtain⟨hi,rfl⟩:=hys i y e1
   exact .inr ⟨_,_,hXi _,e2⟩
theorem GH(st:St)(r:Nat)(x:ak):st.rs.length≤(cU (st.cut (some (r,1))).rs [(r,x)]).length:=by
 show _≤(cU (st.rs.map _) _).length
 have:st.rs.length=(st.rs.map (ak.cut r 1)).length:=by simp
 rw[this]
 show _≤(setAt (st.rs.map (ak.cut r 1)) r x).length
 unfold setAt
 cases Nat.blt r (st.rs.map (ak.cut r 1)).length<;>simp<;>omega
theorem FJ{env:Env P}(hE:gV P env){f:Nat}{vs vs':List AV}{st st':St}(h:xI (R:=List AV×St) env f vs st (fun vs st=>some (vs,st))=some (vs',st')):xD P f vs st vs' st':=by
 unfold xI at h
 split at h
 ·next r c=>
  split at h
  ·next t xs hg=>
   obtain⟨hS,h⟩:=hE.srt _ _ _ _ _ h
   obtain⟨hok,h⟩:=iF h
   obtain⟨t2,hok⟩:=af.1 hok
   obtain⟨t3,_⟩:=af.1 hok
   have hfit:o9 P c t=true:=t3
   have hq: ∀j r' p t xs,st.get j= .pend r' p t xs→r'≠r:=dI (l:= [r]) t2 (fun r hr=>by simp at hr;subst hr;simp[dL]) r (by simp)
   obtain⟨ys,hs,h⟩:=Option.bind_eq_some_iff.1 h
   rw[St.force_eq]at h
   cases h
   refine⟨hS.1,fun w0 g born acts w us R hborn hvs hroots=> ?_⟩
   obtain⟨u,l,rfl,⟨⟨ua,un,uc,hu⟩,hsub⟩,u2,l2,rfl,⟨v1,v2,rfl,hv1,hv2⟩,rfl⟩:=hvs
   have e1:v1= #[]:=by
    have:v1.toList= []:=hv1
    exact Array.toList_eq_nil_iff.1 this
   have e2:v2= #[]:=by
    have:v2.toList= []:=hv2
    exact Array.toList_eq_nil_iff.1 this
   subst e1 e2
   have hv:u=(g r).H []:=hsub t t (by rw[hg];rfl) rfl
   have hR:aS w true t xs (g r).H∧bD t xs (g r).H:=by
    have:=R.roots r
    unfold aF at this
    rw[hg]at this
    exact this
   have fin: ∀(w':World) (H':Path→Value),H' []=(g r).H []→bL w0 w w'→(∀b,b<w.heap.size→(¬ ∃a n c,(g r).H []= .slice (some a) n c∧c≠0∧a.block=b)→w'.heap[b]?=w.heap[b]?)→aS w' true t ys H'→bD t ys H'→(∀b,aD t ys H' b→aD t xs (g r).H b)→
     ∃us' g' born',Ending.returned (.tuple #[])= .returned (mR us')∧cg w0 ⟨(st.cut (some (r,1))).fr,cU (st.cut (some (r,1))).rs [(r,.row true t ys)]⟩ g' born' acts w'∧
      (∀x,born' x→x<(⟨(st.cut (some (r,1))).fr,cU (st.cut (some (r,1))).rs [(r,.row true t ys)]⟩:St).rs.length)∧ai (St.get ⟨(st.cut (some (r,1))).fr,cU (st.cut (some (r,1))).rs [(r,.row true t ys)]⟩) g' [] us'∧ ∀x∈AV.ah [],born' x:=by
    intro w' H' h1 h2 h3 h4 h5 h6
    refine⟨[],_,born,rfl,.of (BJ R hg hq h1 h2 h3 h4 h5 h6),fun x hx=> ?_,rfl,fun x hx=>by cases hx⟩
    have:=hborn x hx
    simpa using Nat.lt_of_lt_of_le this (by simpa using GH st r (.row true t ys))
   rcases hR.1 with⟨hH,rfl⟩|⟨a,cap,hH,hle,hown,hel⟩
   ·have hy:ys= []:=by
     obtain⟨_,_,hs⟩:=mj hs
     exact List.perm_nil.1 (sj hs).2.1.1
    subst hy
    have:=hS.2.1 none 0 c w
    rw[hv,hH]
    refine this.mono ?_
    rintro e w' ⟨rfl,rfl⟩
    exact fin w' (g r).H rfl (bL.refl _ _) (fun _ _ _=>rfl) hR.1 hR.2 fun _ h=>h
   ·by_cases hne:xs= []
    ·subst hne
     have hy:ys= []:=by
      obtain⟨_,_,hs⟩:=mj hs
      exact List.perm_nil.1 (sj hs).2.1.1
     subst hy
     have:=hS.2.1 (some a) cap c w
     rw[hv,hH]
     refine this.mono ?_
     rintro e w' ⟨rfl,rfl⟩
     exact fin w' (g r).H rfl (bL.refl _ _) (fun _ _ _=>rfl) hR.1 hR.2 fun _ h=>h
    ·have hc0:cap≠0:=by
      have:xs.length≠0:=fun h=>hne (List.eq_nil_of_length_eq_zero h)
      omega
     obtain⟨hsp,arr,te,harr,hfits⟩:=hown rfl hc0
     have:=Ec hE hS hfit hs hne hH hle hsp harr hfits hel hR.2
     rw[hv,hH]
     refine this.mono ?_
     rintro e w' ⟨rfl,H',h1,h2,h3,h4,h5,h6⟩
     refine fin w' H' h1 (h3 w0 (R.low r a.block ?_) R.below.size) (fun b hb hn=>h2 b hb fun e=>hn ⟨a,_,_,hH,hc0,e.symm⟩) h4 h5 h6
     unfold Own
     rw[hg]
     exact .inl ⟨a,_,_,hH,hc0,rfl⟩
  ·cases h
 ·cases h
end
end
end Go.Am
end
section
/- Soundness: the part of a state that a call sees stands in the relation. -/
namespace Go.Am
noncomputable section
attribute [local instance] D.real
section
variable {w0 : bu} {w w' : World} {st st' : St} {g g' : aB} {born born' : Nat → Prop} {acts : List Act} {a : Act}
theorem tv{getK:Get}{wb:World}{L:List Nat}(R:Rel w0 st g born acts w)(hR: ∀r,aF w0 wb getK g r)(hB:Seen w0 wb)(hG: ∀r t,bI (getK r)=some t→bI (st.get r)=some t):
  ∀(V:List Nat) (b:Nat) (ok:List Tst) (vr rs:List ak),fI st.get getK L V b=(ok,vr,rs)→aN ok→
   ∃infs,rn wb rs infs∧vr.length=V.length∧ ∀(i r:Nat),V[i]?=some r→ ∃cs cs0 arr te,vr[i]?=some (.var cs)∧st.get r= .var cs0∧cs.length=cs0.length∧
    (∀x∈AV.ah cs,x<L.length∨(b≤x∧x<b+rs.length))∧w.heap[(g r).b]?=some (.cells arr te (0,0))∧(∀x∈arr.toList,x.oneCell'=true)∧ai st.get g cs0 arr.toList∧
    ∀getS gS,Gj st.get g L getS gS→At getS gS b rs infs→ai getS gS cs arr.toList
 | [],b,ok,vr,rs,h,_=>by
  simp only[fI,Prod.mk.injEq]at h;obtain⟨_,rfl,rfl⟩:=h
  exact⟨[],.nil,rfl,fun i r h=>by simp at h⟩
 |r::V,b,ok,vr,rs,h,hok=>by
  unfold fI at h
  generalize h1:fD getK L (aL st.get r) b=s1 at h
  obtain⟨ok1,cs,r1⟩:=s1
  simp only at h
  generalize h2:fI st.get getK L V (b+r1.length)=s2 at h
  obtain⟨ok2,vr2,r2⟩:=s2
  simp only[Prod.mk.injEq]at h
  obtain⟨rfl,rfl,rfl⟩:=h
  obtain⟨k0,k⟩:=af.1 hok
  obtain⟨k1,k2⟩:=aq.1 k
  have hroot:=R.roots r
  unfold aF at hroot
  unfold aL at h1
  cases hg:st.get r with
  |var cs0=>
   rw[hg]at hroot h1
   obtain⟨arr,te,q1,q2,q3⟩:=hroot
   obtain⟨i1,o1,b1,a1⟩:=mO hR hB hG cs0 _ b ok1 cs r1 h1 k1 q3
   obtain⟨i2,o2,l2,a2⟩:=tv R hR hB hG V _ ok2 vr2 r2 h2 k2
   have hlen:cs.length=cs0.length:=by
    have e: ∀(vs:List AV) (b:Nat) (ok:List Tst) (vs':List AV) (rs:List ak),fD getK L vs b=(ok,vs',rs)→vs'.length=vs.length:=by
     intro vs
     induction vs with
     |nil=>intro b ok vs' rs h;rw[fD]at h;simp only[Prod.mk.injEq]at h;obtain⟨_,rfl,_⟩:=h;rfl
     |cons v vs ih=>
      intro b ok vs' rs h
      rw[fD]at h
      generalize bM getK L v b=s1 at h
      obtain⟨ok1,p',r1⟩:=s1
      simp only at h
      generalize h2:fD getK L vs (b+r1.length)=s2 at h
      obtain⟨ok2,q',r2⟩:=s2
      simp only[Prod.mk.injEq]at h
      obtain⟨_,rfl,_⟩:=h
      simp[ih _ _ _ _ h2]
    exact e _ _ _ _ _ h1
   refine⟨i1++i2,o1.app o2,by simp[l2],fun i r' hi=> ?_⟩
   cases i with
   |zero=>
    simp only[List.getElem?_cons_zero,Option.some.injEq]at hi
    subst hi
    refine⟨cs,cs0,arr,te,rfl,hg,hlen,fun x hx=> ?_,q1,q2,q3,fun getS gS hc hat=>a1 getS gS hc (hat.left o1.1)⟩
    rcases b1 x hx with h|h
    ·exact .inl h
    ·right;simp only[List.length_append];omega
   |succ i=>
    obtain⟨cs2,cs20,arr2,te2,p1,p2,p3,p4,p5,p6,p7,p8⟩:=a2 i r' (by simpa using hi)
    refine⟨cs2,cs20,arr2,te2,by simpa using p1,p2,p3,fun x hx=> ?_,p5,p6,p7,fun getS gS hc hat=>p8 getS gS hc (hat.right o1.1)⟩
    rcases p4 x hx with h|h
    ·exact .inl h
    ·right;simp only[List.length_append];omega
  |dead=>rw[hg]at k0;cases k0
  |row=>rw[hg]at k0;cases k0
  |pend=>rw[hg]at k0;cases k0
  |half=>rw[hg]at k0;cases k0
  |sh=>rw[hg]at k0;cases k0
def F2(getK:Get)(L:List Nat)(o c:AV):Prop:= ∃b ok rs,bM getK L o b=(ok,c,rs)∧aN ok∧L.length≤b
def Bk(getK:Get)(L:List Nat)(os cs:List AV):Prop:=cs.length=os.length∧ ∀(j:Nat) (o c:AV),os[j]?=some o→cs[j]?=some c→F2 getK L o c
theorem Bk.app{getK:Get}{L:List Nat}{a b c d:List AV}(h:Bk getK L a b)(k:Bk getK L c d):Bk getK L (a++c) (b++d):=by
 refine⟨by simp[h.1,k.1],fun j o x ho hx=> ?_⟩
 rcases Nat.lt_or_ge j a.length with hj|hj
 ·rw[List.getElem?_append_left hj]at ho
  rw[List.getElem?_append_left (by rw[h.1];exact hj)]at hx
  exact h.2 j o x ho hx
 ·rw[List.getElem?_append_right hj]at ho
  rw[List.getElem?_append_right (by rw[h.1];exact hj),h.1]at hx
  exact k.2 _ o x ho hx
theorem zf{getK:Get}{L:List Nat}: ∀(vs:List AV) (b:Nat) (ok:List Tst) (vs':List AV) (rs:List ak),fD getK L vs b=(ok,vs',rs)→aN ok→L.length≤b→Bk getK L vs vs'
 | [],b,ok,vs',rs,h,_,_=>by
  rw[fD]at h;simp only[Prod.mk.injEq]at h;obtain⟨_,rfl,_⟩:=h
  exact⟨rfl,fun j o c h=>by simp at h⟩
 |v::vs,b,ok,vs',rs,h,hok,hb=>by
  rw[fD]at h
  generalize h1:bM getK L v b=s1 at h
  obtain⟨ok1,p',r1⟩:=s1
  simp only at h
  generalize h2:fD getK L vs (b+r1.length)=s2 at h
  obtain⟨ok2,q',r2⟩:=s2
  simp only[Prod.mk.injEq]at h
  obtain⟨rfl,rfl,rfl⟩:=h
  obtain⟨k1,k2⟩:=aq.1 hok
  obtain⟨i1,i2⟩:=zf vs _ ok2 q' r2 h2 k2 (by omega)
  refine⟨by simp[i1],fun j o c ho hc=> ?_⟩
  cases j with
  |zero=>
   simp only[List.getElem?_cons_zero,Option.some.injEq]at ho hc
   subst ho;subst hc
   exact⟨b,ok1,r1,h1,k1,hb⟩
  |succ j=>exact i2 j o c (by simpa using ho) (by simpa using hc)
theorem tA{getK get:Get}{L:List Nat}: ∀(V:List Nat) (b:Nat) (ok:List Tst) (vr rs:List ak),fI get getK L V b=(ok,vr,rs)→aN ok→L.length≤b→Bk getK L (V.flatMap (aL get)) (vr.flatMap du)
 | [],b,ok,vr,rs,h,_,_=>by
  simp only[fI,Prod.mk.injEq]at h;obtain⟨_,rfl,rfl⟩:=h
  exact⟨rfl,fun j o c h=>by simp at h⟩
 |r::V,b,ok,vr,rs,h,hok,hb=>by
  unfold fI at h
  generalize h1:fD getK L (aL get r) b=s1 at h
  obtain⟨ok1,cs,r1⟩:=s1
  simp only at h
  generalize h2:fI get getK L V (b+r1.length)=s2 at h
  obtain⟨ok2,vr2,r2⟩:=s2
  simp only[Prod.mk.injEq]at h
  obtain⟨rfl,rfl,rfl⟩:=h
  obtain⟨k0,k⟩:=af.1 hok
  obtain⟨k1,k2⟩:=aq.1 k
  simp only[List.flatMap_cons]
  exact(zf _ _ _ _ _ h1 k1 hb).app (tA V _ ok2 vr2 r2 h2 k2 (by omega))
theorem Ae{getS:Get}{gS:aB}: ∀(V:List Nat) (vr:List ak) (f:Nat→List AV),vr.length=V.length→
  (∀(i r:Nat),V[i]?=some r→ ∃cs arr te,vr[i]?=some (.var cs)∧w.heap[(g r).b]?=some (.cells arr te (0,0))∧ai st.get g (f r) arr.toList∧ai getS gS cs arr.toList)→
  ∃vals,ai st.get g (V.flatMap f) vals∧ai getS gS (vr.flatMap du) vals
 | [],vr,f,hl,_=>by
  cases vr with
  |nil=>exact⟨[],by simp[ai],by simp[ai]⟩
  |cons=>simp at hl
 |r::V,vr,f,hl,h=>by
  cases vr with
  |nil=>simp at hl
  |cons y vr=>
   obtain⟨cs,arr,te,p1,p2,p3,p4⟩:=h 0 r rfl
   simp only[List.getElem?_cons_zero,Option.some.injEq]at p1
   subst p1
   obtain⟨vals,q1,q2⟩:=Ae V vr f (by simpa using hl) fun i r' hi=>by
    obtain⟨cs,arr,te,p1,p2,p3,p4⟩:=h (i+1) r' (by simpa using hi)
    exact⟨cs,arr,te,by simpa using p1,p2,p3,p4⟩
   exact⟨arr.toList++vals,by simp only[List.flatMap_cons];exact cK p3 q1,by simp only[List.flatMap_cons];exact cK p4 q2⟩
theorem je(nV nD n m i:Nat)(hn:nV+nD≤n):(kE nV nD n m).getD i .undef=
  if i<nV then .pv i 0 else if i<nV+nD then .sl i [] none else if i<n then .undef else if i<n+m then .sl i [] none else .undef:=by
 unfold kE
 simp only[List.getD_eq_getElem?_getD]
 by_cases h1:i<nV
 ·rw[List.getElem?_append_left (by simpa using h1)]
  simp[h1]
 ·rw[List.getElem?_append_right (by simpa using Nat.le_of_not_lt h1)]
  simp only[List.length_map,List.length_range,h1,if_false]
  by_cases h2:i<nV+nD
  ·rw[List.getElem?_append_left (by simp;omega)]
   have:i-nV<nD:=by omega
   have e:nV+(i-nV)=i:=by omega
   simp[h2,this,e]
  ·rw[List.getElem?_append_right (by simp;omega)]
   simp only[List.length_map,List.length_range,h2,if_false]
   by_cases h3:i<n
   ·rw[List.getElem?_append_left (by simp;omega)]
    have:i-nV-nD<n-nV-nD:=by omega
    simp[h3,this]
   ·rw[List.getElem?_append_right (by simp;omega)]
    simp only[List.length_replicate,h3,if_false]
    by_cases h4:i<n+m
    ·have e1:i-nV-nD-(n-nV-nD)<m:=by omega
     have e2:n+(i-nV-nD-(n-nV-nD))=i:=by omega
     simp[h4,e1,e2]
    ·have e1: ¬i-nV-nD-(n-nV-nD)<m:=by omega
     simp[h4,e1]
theorem Al(nV nD n m:Nat)(hn:nV+nD≤n):(kE nV nD n m).length=n+m:=by
 simp[kE];omega
def lU(gS:aB)(v:AV)(i:Nat):Value:=match v with
 | .pv _ _=> .pointer (some ⟨(gS i).b,0,none⟩)
 | .sl _ _ _=>(gS i).H []
 |_=>Go.undef
theorem oS{m3:Bool}{get:Get}{v:AV}{r:Nat}(h:r∈qx m3 get v): ∃t xs,get r= .row true t xs:=by
 unfold qx at h
 split at h
 ·next r'=>
  cases m3 with
  |false=>simp at h
  |true=>
   simp only[cond_true]at h
   split at h
   ·next t xs e=>simp only[List.mem_singleton]at h;subst h;exact⟨t,xs,e⟩
   ·cases h
 ·cases h
structure Part (w : World) (st : St) (g : aB) (ls : bg) (stS : St) (gS : aB) (actH : Act) : Prop where
  gs : ∀ i, i < ls.all.length → gS i = g (ls.all.getD i 0)
  act : ∀ i, actH.tmps.getD i Go.undef = if i < stS.rs.length then lU gS ((kE ls.lv.length ls.ld.length ls.all.length (stS.rs.length - ls.all.length)).getD i .undef) i else Go.undef
  len : ls.all.length ≤ stS.rs.length
  row : ∀ i, ls.lv.length ≤ i → i < ls.all.length → stS.get i = st.get (ls.all.getD i 0) ∧ ∃ t xs, stS.get i = .row true t xs
  ro : ∀ i, ls.all.length ≤ i → i < stS.rs.length → (∃ e ys, stS.get i = .row false e ys) ∧ ∃ a n c, (gS i).H [] = .slice a n c
  sub : Bk (st.aH (cH ls.all)).get ls.all (ls.lv.flatMap (aL st.get)) ((stS.rs.take ls.lv.length).flatMap du)
  flat : ∃ vals, ai st.get g (ls.lv.flatMap (aL st.get)) vals ∧ ai stS.get gS ((stS.rs.take ls.lv.length).flatMap du) vals
  var : ∀ (i r : Nat), ls.lv[i]? = some r → ∃ cs cs0 arr te, stS.rs[i]? = some (.var cs) ∧ st.get r = .var cs0 ∧ cs.length = cs0.length ∧ w.heap[(g r).b]? = some (.cells arr te (0, 0)) ∧ ai st.get g cs0 arr.toList ∧ ai stS.get gS cs arr.toList
theorem ug{m3:Bool}{vs:List AV}{us:List Value}{ls:bg}{ok:List Tst}{stS:St}(R:Rel w0 st g born acts w)(hq: ∀r∈ls.all,∀j r' p t xs,st.get j= .pend r' p t xs→r'≠r)
  (hn:ls.all.Nodup) (hD: ∀r∈ls.ld++ls.ln,∃t xs,st.get r= .row true t xs) (hA:ai st.get g vs us) (h:jA ls st vs=(ok,stS)) (hok:aN ok):
  ∃gS actH,Rel (kX w (ky st.get g ls.all)) ⟨stS.fr.tail,stS.rs⟩ gS (fun r=>r<stS.rs.length) [actH] w∧ai stS.get gS stS.top us∧(∀r∈AV.ah stS.top,r<stS.rs.length)∧Part w st g ls stS gS actH:=by
 have Rb:=DW R hq
 have hgetK:(fun r=>bif ls.all.contains r then ak.dead else st.get r)=(st.aH (cH ls.all)).get:=by
  funext r
  rw[jN]
  by_cases hr:r∈ls.all
  ·simp[hr]
  ·simp[hr]
 have hG: ∀r t,bI ((st.aH (cH ls.all)).get r)=some t→bI (st.get r)=some t:=by
  intro r t ht
  rw[jN]at ht
  split at ht
  ·simp[bI]at ht
  ·exact ht
 unfold jA at h
 rw[hgetK]at h
 generalize h1:fD (st.aH (cH ls.all)).get ls.all vs ls.all.length=s1 at h
 obtain⟨ok1,vsS,roA⟩:=s1
 simp only at h
 generalize h2:fI st.get (st.aH (cH ls.all)).get ls.all ls.lv (ls.all.length+roA.length)=s2 at h
 obtain⟨ok2,vrs,roV⟩:=s2
 simp only[Prod.mk.injEq]at h
 obtain⟨rfl,rfl⟩:=h
 obtain⟨k1,k2⟩:=aq.1 hok
 obtain⟨iA,oA,bA,aA⟩:=mO Rb.roots (cJ Rb.below) hG vs us _ ok1 vsS roA h1 k1 hA
 obtain⟨iV,oV,lV,aV⟩:=tv R Rb.roots (cJ Rb.below) hG ls.lv _ ok2 vrs roV h2 k2
 have hall:ls.all.length=ls.lv.length+(ls.ld.length+ls.ln.length):=by simp[bg.all]
 have hrl:(vrs++((ls.ld++ls.ln).map st.get++(roA++roV))).length=ls.all.length+(roA.length+roV.length):=by simp[lV,hall];omega
 generalize hrs:vrs++((ls.ld++ls.ln).map st.get++(roA++roV))=rsS at*
 let gS:aB:=fun i=>if i<ls.all.length then g (ls.all.getD i 0)else(iA++iV).getD (i-ls.all.length) ⟨0,fun _=>Go.undef,fun _=>False⟩
 have hg1: ∀i,i<ls.all.length→gS i=g (ls.all.getD i 0):=fun i hi=>if_pos hi
 have getV: ∀i,i<ls.lv.length→rsS[i]?=vrs[i]?:=fun i hi=>by
  rw[←hrs,List.getElem?_append_left (by omega)]
 have getR: ∀i,ls.lv.length≤i→i<ls.all.length→rsS.getD i .dead=st.get (ls.all.getD i 0)∧ls.all.getD i 0∈ls.ld++ls.ln:=fun i h3 h4=>by
  have hlt:i-vrs.length<(ls.ld++ls.ln).length:=by simp;omega
  have e:ls.all.getD i 0=(ls.ld++ls.ln)[i-vrs.length]:=by
   simp only[List.getD_eq_getElem?_getD,bg.all]
   rw[List.getElem?_append_right (by omega),←lV,List.getElem?_eq_getElem hlt];rfl
  refine⟨?_,by rw[e];exact List.getElem_mem hlt⟩
  rw[e,←hrs]
  simp only[List.getD_eq_getElem?_getD]
  rw[List.getElem?_append_right (by omega),List.getElem?_append_left (by simpa using hlt),List.getElem?_map,List.getElem?_eq_getElem hlt]
  rfl
 have getO: ∀i,ls.all.length≤i→rsS[i]?=(roA++roV)[i-ls.all.length]?:=fun i h3=>by
  rw[←hrs,List.getElem?_append_right (by omega),List.getElem?_append_right (by simp;omega)]
  congr 1
  simp[hall];omega
 have ros:=oA.app oV
 have hat:At (St.mk [] rsS).get gS ls.all.length (roA++roV) (iA++iV):=by
  intro k x inf hx hi
  refine⟨?_,?_⟩
  ·show rsS.getD (ls.all.length+k) .dead=x
   simp only[List.getD_eq_getElem?_getD]
   rw[getO _ (by omega),Nat.add_sub_cancel_left,hx];rfl
  ·show(if ls.all.length+k<ls.all.length then _ else _)=inf
   rw[if_neg (by omega),Nat.add_sub_cancel_left]
   simp only[List.getD_eq_getElem?_getD,hi,Option.getD_some]
 have hcorr:Gj st.get g ls.all (St.mk [] rsS).get gS:=by
  intro r i hi
  obtain⟨_,h4⟩:=kI ls.all 0 r i hi
  rw[Nat.sub_zero]at h4
  have hlt:=(List.getElem?_eq_some_iff.1 h4).1
  have er:ls.all.getD i 0=r:=by simp only[List.getD_eq_getElem?_getD,h4];rfl
  rw[hg1 i hlt,er]
  rcases Nat.lt_or_ge i ls.lv.length with h5|h5
  ·have e5:ls.lv[i]?=some r:=by
    rw[←h4];simp only[bg.all];rw[List.getElem?_append_left h5]
   obtain⟨cs,cs0,arr,te,p1,p2,_⟩:=aV i r e5
   have eg:(St.mk [] rsS).get i= .var cs:=by
    show rsS.getD i .dead=_
    simp only[List.getD_eq_getElem?_getD];rw[getV i h5,p1];rfl
   rw[eg]
   exact⟨fun t ht=>by simp[bI]at ht,fun _=>⟨by rw[p2];rfl,rfl⟩⟩
  ·obtain⟨e6,_⟩:=getR i h5 hlt
   have eg:(St.mk [] rsS).get i=st.get r:=by rw[←er];exact e6
   rw[eg]
   exact⟨fun t ht=>⟨ht,fun _=>rfl⟩,fun hv=>⟨hv,rfl⟩⟩
 have hatA:=hat.left oA.1
 have hatV:=hat.right oA.1
 have getro: ∀i,ls.all.length≤i→i<rsS.length→ ∃inf,HI (blank w (ky st.get g ls.all)) (rsS.getD i .dead) inf∧gS i=inf:=by
  intro i h3 h4
  have hlt:i-ls.all.length<(roA++roV).length:=by simp;omega
  have hi:i-ls.all.length<(iA++iV).length:=by rw[ros.1];exact hlt
  have e:=getO i h3
  rw[List.getElem?_eq_getElem hlt]at e
  refine⟨(iA++iV)[i-ls.all.length],?_,?_⟩
  ·have:rsS.getD i .dead=(roA++roV)[i-ls.all.length]:=by simp only[List.getD_eq_getElem?_getD,e];rfl
   rw[this]
   exact ros.2 _ _ _ (List.getElem?_eq_getElem hlt) (List.getElem?_eq_getElem hi)
  ·show(if i<ls.all.length then _ else _)=_
   rw[if_neg (by omega)]
   simp only[List.getD_eq_getElem?_getD,List.getElem?_eq_getElem hi];rfl
 let hs:=kE ls.lv.length ls.ld.length ls.all.length (roA.length+roV.length)
 have hsl:hs.length=rsS.length:=by rw[hrl];exact Al _ _ _ _ (by omega)
 let actH:Act:={tmps:=((List.range rsS.length).map fun i=>lU gS (hs.getD i .undef) i).toArray,defers:= []}
 have hact: ∀i,actH.tmps.getD i Go.undef=if i<rsS.length then lU gS (hs.getD i .undef) i else Go.undef:=by
  intro i
  show(((List.range rsS.length).map fun i=>lU gS (hs.getD i .undef) i).toArray).getD i Go.undef=_
  rw[Array.getD_eq_getD_getElem?]
  simp only[List.getElem?_toArray,List.getElem?_map,List.getElem?_range]
  by_cases hi:i<rsS.length
  ·simp[hi,List.getElem?_range hi]
  ·rw[List.getElem?_eq_none (by simpa using Nat.le_of_not_lt hi),if_neg hi];rfl
 have hvt:(St.mk [] rsS).rs.take ls.lv.length=vrs:=by
  show rsS.take ls.lv.length=vrs
  rw[←hrs,←lV,List.take_left]
 have hsub:rsS.length-ls.all.length=roA.length+roV.length:=by omega
 refine⟨gS,actH,?_,aA (St.mk [] rsS).get gS hcorr hatA,fun r hr=> ?_,⟨hg1,fun i=>by rw[hact i,hsub],by show ls.all.length≤rsS.length;omega,fun i h3 h4=> ?_,fun i h3 h4=> ?_,?_,?_,fun i r hi=> ?_⟩⟩
 rotate_left
 ·rcases bA r hr with h|h
  ·show r<rsS.length;omega
  ·show r<rsS.length;omega
 ·obtain⟨e6,e7⟩:=getR i h3 h4
  obtain⟨t,xs,e8⟩:=hD _ e7
  exact⟨e6,t,xs,e6.trans e8⟩
 ·obtain⟨inf,⟨e,ys,h5,_,h6⟩,h7⟩:=getro i h3 h4
  exact⟨⟨e,ys,h5⟩,by rw[h7];exact h6⟩
 ·rw[hvt]
  exact tA _ _ _ _ _ h2 k2 (by omega)
 ·rw[hvt]
  refine Ae (w:=w) ls.lv vrs _ lV fun i r hi=> ?_
  obtain⟨cs,cs0,arr,te,p1,p2,p3,p4,p5,p6,p7,p8⟩:=aV i r hi
  exact⟨cs,arr,te,p1,p5,by unfold aL;rw[p2];exact p7,p8 _ gS hcorr hatV⟩
 ·obtain⟨cs,cs0,arr,te,p1,p2,p3,p4,p5,p6,p7,p8⟩:=aV i r hi
  have h5:=(List.getElem?_eq_some_iff.1 hi).1
  exact⟨cs,cs0,arr,te,by show rsS[i]?=_;rw[getV i h5,p1],p2,p3,p5,p7,p8 _ gS hcorr hatV⟩
 have lget: ∀i,i<ls.lv.length→ ∃r,ls.lv[i]?=some r∧ls.all.getD i 0=r∧r∈ls.all:=fun i hi=>by
  refine⟨ls.lv[i],List.getElem?_eq_getElem hi,?_,?_⟩
  ·simp only[List.getD_eq_getElem?_getD,bg.all]
   rw[List.getElem?_append_left hi,List.getElem?_eq_getElem hi];rfl
  ·simp only[bg.all,List.mem_append];exact .inl (List.getElem_mem hi)
 have hownS: ∀i b,Own (St.mk [] rsS).get gS i b→i<ls.all.length∧Own st.get g (ls.all.getD i 0) b:=by
  intro i b ho
  rcases Nat.lt_or_ge i ls.all.length with h3|h3
  ·refine⟨h3,?_⟩
   rcases Nat.lt_or_ge i ls.lv.length with h5|h5
   ·obtain⟨r,e5,e6,_⟩:=lget i h5
    obtain⟨cs,cs0,arr,te,p1,p2,_⟩:=aV i r e5
    have eg:(St.mk [] rsS).get i= .var cs:=by
     show rsS.getD i .dead=_
     simp only[List.getD_eq_getElem?_getD];rw[getV i h5,p1];rfl
    unfold Own at ho⊢
    rw[eg]at ho
    rw[e6,p2]
    rw[hg1 i h3,e6]at ho
    exact ho
   ·obtain⟨e6,e7⟩:=getR i h5 h3
    obtain⟨t,xs,e8⟩:=hD _ e7
    have eg:(St.mk [] rsS).get i= .row true t xs:=e6.trans e8
    unfold Own at ho⊢
    rw[eg]at ho
    rw[e8]
    rw[hg1 i h3]at ho
    exact ho
  ·exfalso
   rcases Nat.lt_or_ge i rsS.length with h4|h4
   ·obtain⟨inf,⟨e,ys,h5,_⟩,_⟩:=getro i h3 h4
    have eg:(St.mk [] rsS).get i= .row false e ys:=h5
    unfold Own at ho
    rw[eg]at ho
    exact ho
   ·have eg:(St.mk [] rsS).get i= .dead:=by
     show rsS.getD i .dead=_
     simp only[List.getD_eq_getElem?_getD];rw[List.getElem?_eq_none h4];rfl
    unfold Own at ho
    rw[eg]at ho
    exact ho
 have hmem: ∀i,i<ls.all.length→ls.all.getD i 0∈ls.all:=fun i hi=>by
  simp only[List.getD_eq_getElem?_getD,List.getElem?_eq_getElem hi];exact List.getElem_mem hi
 have hinj: ∀i j,i<ls.all.length→j<ls.all.length→i≠j→ls.all.getD i 0≠ls.all.getD j 0:=fun i j hi hj hij e=>by
  simp only[List.getD_eq_getElem?_getD,List.getElem?_eq_getElem hi,List.getElem?_eq_getElem hj,Option.getD_some]at e
  exact hij (xA hn e)
 refine⟨⟨rfl,rfl,rfl,by show(blank _ _).heap.size≤_;rw[fc];exact Nat.le_refl _,fun k hk=>(cZ hk.2).symm,fun k o h1 h2=>DC h1 h2⟩,fun i=> ?_,fun i j b hij h3 h4=> ?_,fun i b ho=> ?_,?_,fun f hf r hr=> ?_,fun i x hx=> ?_,fun i hi=> ?_,⟨List.nodup_nil,(fun D h=>by cases h),(fun k o h=>by cases h)⟩⟩
 ·
  show aF _ w (St.mk [] rsS).get gS i
  rcases Nat.lt_or_ge i ls.all.length with h3|h3
  ·rcases Nat.lt_or_ge i ls.lv.length with h5|h5
   ·obtain⟨r,e5,e6,_⟩:=lget i h5
    obtain⟨cs,cs0,arr,te,p1,p2,p3,p4,p5,p6,p7,p8⟩:=aV i r e5
    have eg:(St.mk [] rsS).get i= .var cs:=by
     show rsS.getD i .dead=_
     simp only[List.getD_eq_getElem?_getD];rw[getV i h5,p1];rfl
    unfold aF
    rw[eg]
    exact⟨arr,te,by rw[hg1 i h3,e6];exact p5,p6,p8 _ gS hcorr hatV⟩
   ·obtain⟨e6,e7⟩:=getR i h5 h3
    obtain⟨t,xs,e8⟩:=hD _ e7
    have eg:(St.mk [] rsS).get i= .row true t xs:=e6.trans e8
    have hr:=R.roots (ls.all.getD i 0)
    unfold aF at hr⊢
    rw[e8]at hr
    rw[eg]
    simp only[hg1 i h3]
    exact hr
  ·rcases Nat.lt_or_ge i rsS.length with h4|h4
   ·obtain⟨inf,⟨e,ys,h5,h6,_⟩,h7⟩:=getro i h3 h4
    have eg:(St.mk [] rsS).get i= .row false e ys:=h5
    unfold aF
    rw[eg]
    simp only[h7]
    exact h6
   ·have eg:(St.mk [] rsS).get i= .dead:=by
     show rsS.getD i .dead=_
     simp only[List.getD_eq_getElem?_getD];rw[List.getElem?_eq_none h4];rfl
    unfold aF
    rw[eg];trivial
 ·obtain⟨h5,h6⟩:=hownS i b h3
  obtain⟨h7,h8⟩:=hownS j b h4
  exact R.sep _ _ b (hinj i j h5 h7 hij) h6 h8
 ·obtain⟨h5,h6⟩:=hownS i b ho
  exact fun hk=>hk.2 ⟨_,hmem i h5,h6⟩
 ·
  refine⟨actH,[],rfl,⟨?_,fun i=> ?_,(fun d h=>by cases h)⟩,rfl⟩
  ·show hs.length≤actH.tmps.size
   rw[hsl]
   show rsS.length≤(((List.range rsS.length).map _).toArray).size
   simp
  ·show ae (St.mk [] rsS).get gS (hs.getD i .undef) (actH.tmps.getD i Go.undef)
   rw[hact i]
   by_cases hi:i<rsS.length
   ·rw[if_pos hi]
    have hh:=je ls.lv.length ls.ld.length ls.all.length (roA.length+roV.length) i (by omega)
    by_cases c1:i<ls.lv.length
    ·rw[if_pos c1]at hh
     rw[show hs.getD i .undef=_ from hh]
     simp only[lU]
     rw[ae]
     exact⟨⟨_,rfl⟩,fun _=>rfl⟩
    ·rw[if_neg c1]at hh
     have row: ∀(H:Path→Value),(∃a n c,H []= .slice a n c)→(gS i).H=H→ae (St.mk [] rsS).get gS (.sl i [] none) ((gS i).H []):=by
      intro H hH e
      rw[ae]
      refine⟨by rw[e];exact hH,fun _ _ _ _=>rfl⟩
     by_cases c2:i<ls.lv.length+ls.ld.length
     ·rw[if_pos c2]at hh
      rw[show hs.getD i .undef=_ from hh]
      simp only[lU]
      obtain⟨e6,e7⟩:=getR i (by omega) (by omega)
      obtain⟨t,xs,e8⟩:=hD _ e7
      have hr:=R.roots (ls.all.getD i 0)
      unfold aF at hr
      rw[e8]at hr
      refine row _ ?_ rfl
      rw[hg1 i (by omega)]
      rcases hr.1 with⟨h0,_⟩|⟨a,cap,h0,_⟩
      ·exact⟨_,_,_,h0⟩
      ·exact⟨_,_,_,h0⟩
     ·rw[if_neg c2]at hh
      by_cases c3:i<ls.all.length
      ·rw[if_pos c3]at hh
       rw[show hs.getD i .undef=_ from hh]
       simp[ae]
      ·rw[if_neg c3]at hh
       by_cases c4:i<ls.all.length+(roA.length+roV.length)
       ·rw[if_pos c4]at hh
        rw[show hs.getD i .undef=_ from hh]
        simp only[lU]
        obtain⟨inf,⟨e,ys,h5,h6,h7⟩,h8⟩:=getro i (by omega) hi
        exact row _ h7 (by rw[h8])
       ·omega
   ·rw[if_neg hi]
    have:hs.getD i .undef= .undef:=by
     simp only[List.getD_eq_getElem?_getD];rw[List.getElem?_eq_none (by omega)];rfl
    rw[this];simp[ae]
 ·have hf:f∈ [hs]:=hf
  simp only[List.mem_singleton]at hf
  subst hf
  have: ∀l:List AV,(∀v∈l,∀x∈v.roots,x<rsS.length)→ ∀x∈AV.ah l,x<rsS.length:=by
   intro l
   induction l with
   |nil=>intro _ x hx;simp[AV.ah]at hx
   |cons v l ih=>
    intro h x hx
    simp only[AV.ah,List.mem_append]at hx
    exact hx.elim (h v List.mem_cons_self x) (ih (fun u hu=>h u (List.mem_cons_of_mem _ hu)) x)
  refine this hs (fun v hv x hx=> ?_) r hr
  obtain⟨i,hi,e⟩:=List.mem_iff_getElem.1 hv
  have hh:=je ls.lv.length ls.ld.length ls.all.length (roA.length+roV.length) i (by omega)
  have ev:hs.getD i .undef=v:=by simp only[List.getD_eq_getElem?_getD,List.getElem?_eq_getElem hi,e];rfl
  rw[show(kE ls.lv.length ls.ld.length ls.all.length (roA.length+roV.length)).getD i .undef=v from ev]at hh
  have:x=i:=by
   rw[hh]at hx
   split at hx
   ·simpa[AV.roots]using hx
   ·split at hx
    ·simpa[AV.roots]using hx
    ·split at hx
     ·simp[AV.roots]at hx
     ·split at hx
      ·simpa[AV.roots]using hx
      ·simp[AV.roots]at hx
  omega
 ·have hx:x∈((St.mk [] rsS).get i).roots:=hx
  show x<rsS.length
  rcases Nat.lt_or_ge i ls.all.length with h3|h3
  ·rcases Nat.lt_or_ge i ls.lv.length with h5|h5
   ·obtain⟨r,e5,e6,_⟩:=lget i h5
    obtain⟨cs,cs0,arr,te,p1,p2,p3,p4,p5,p6,p7,p8⟩:=aV i r e5
    have eg:(St.mk [] rsS).get i= .var cs:=by
     show rsS.getD i .dead=_
     simp only[List.getD_eq_getElem?_getD];rw[getV i h5,p1];rfl
    rw[eg]at hx
    rcases p4 x hx with h|h<;>omega
   ·obtain⟨e6,e7⟩:=getR i h5 h3
    obtain⟨t,xs,e8⟩:=hD _ e7
    rw[show(St.mk [] rsS).get i= .row true t xs from e6.trans e8]at hx
    simp[ak.roots]at hx
  ·rcases Nat.lt_or_ge i rsS.length with h4|h4
   ·obtain⟨inf,⟨e,ys,h5,_⟩,_⟩:=getro i h3 h4
    rw[show(St.mk [] rsS).get i= .row false e ys from h5]at hx
    simp[ak.roots]at hx
   ·have eg:(St.mk [] rsS).get i= .dead:=by
     show rsS.getD i .dead=_
     simp only[List.getD_eq_getElem?_getD];rw[List.getElem?_eq_none h4];rfl
    rw[eg]at hx
    simp[ak.roots]at hx
 ·rcases Nat.lt_or_ge i rsS.length with h4|h4
  ·exact h4
  ·exfalso
   refine hi ?_
   show rsS.getD i .dead=_
   simp only[List.getD_eq_getElem?_getD];rw[List.getElem?_eq_none h4];rfl
end
end
end Go.Am
end
section
/- Soundness: what comes back of a part. -/
namespace Go.Am
noncomputable section
attribute [local instance] D.real
section
variable {w0 : bu} {w w' : World} {st st' : St} {g g' : aB} {born born' : Nat → Prop} {acts : List Act} {a : Act} {get : Get}
theorem wv: ∀(t:Ty) (vs:List AV) (ok:List Tst) (l:List Nat) (rest:List AV),gives get t vs=(ok,l,rest)→aN ok→ ∀r∈l,∃t xs,get r= .row true t xs:=by
 intro t
 induction t with
 |int k=>intro vs ok l rest h _ r hr;simp only[gives,Prod.mk.injEq]at h;obtain⟨_,rfl,_⟩:=h;cases hr
 |bool=>intro vs ok l rest h _ r hr;simp only[gives,Prod.mk.injEq]at h;obtain⟨_,rfl,_⟩:=h;cases hr
 |str=>intro vs ok l rest h _ r hr;simp only[gives,Prod.mk.injEq]at h;obtain⟨_,rfl,_⟩:=h;cases hr
 |unit=>intro vs ok l rest h _ r hr;simp only[gives,Prod.mk.injEq]at h;obtain⟨_,rfl,_⟩:=h;cases hr
 |pair a b iha ihb=>
  intro vs ok l rest h hok r hr
  unfold gives at h
  split at h
  ·unfold qQ at h
   split at h
   ·next t xs hg=>
    simp only[Prod.mk.injEq]at h;obtain⟨_,rfl,_⟩:=h
    simp only[List.mem_singleton]at hr
    subst hr;exact⟨_,_,hg⟩
   ·simp only[Prod.mk.injEq]at h;obtain⟨_,rfl,_⟩:=h;cases hr
  generalize ha:gives get a vs=ra at h
  obtain⟨ok1,l1,rest1⟩:=ra
  simp only at h
  generalize hb:gives get b rest1=rb at h
  obtain⟨ok2,l2,rest2⟩:=rb
  simp only[Prod.mk.injEq]at h
  obtain⟨rfl,rfl,rfl⟩:=h
  obtain⟨k1,k2⟩:=aq.1 hok
  rcases List.mem_append.1 hr with hr|hr
  ·exact iha _ _ _ _ ha k1 r hr
  ·exact ihb _ _ _ _ hb k2 r hr
 |sl e ih=>
  intro vs ok l rest h hok r hr
  unfold gives at h
  split at h
  ·simp only[Prod.mk.injEq]at h;obtain⟨_,rfl,_⟩:=h;cases hr
  ·split at h
   ·next t xs hg=>
    simp only[Prod.mk.injEq]at h;obtain⟨_,rfl,_⟩:=h
    simp only[List.mem_singleton]at hr
    subst hr;exact⟨_,_,hg⟩
   ·simp only[Prod.mk.injEq]at h;obtain⟨_,rfl,_⟩:=h;cases hr
  ·simp only[Prod.mk.injEq]at h;obtain⟨_,rfl,_⟩:=h;cases hr
def p0(w:World)(get:Get)(g:aB)(l:List Nat)(v:Value)(H:Path→Value):Cell→Prop
 |⟨.sl e,xs⟩=>H []=v∧aS w true e xs H∧(∀b,aD e xs H b→ ∃r∈l,Own get g r b)∧(l.Nodup→bD e xs H)
 |⟨.int k,n⟩=>v= .int k n
 |⟨.bool,b⟩=>v= .bool b
 |⟨.str,s⟩=>v= .string s
 |⟨.unit,_⟩=>True
 |⟨.pair _ _,_⟩=>False
def Ty.one:Ty→Bool
 | .pair _ _=>false
 |_=>true
theorem zX(n:Nat)(rs:List ak)(c:AV):(dZ n rs c).one=true:=by
 unfold dZ
 split<;>try rfl
 next i=>
  cases Nat.blt i n with
  |false=>rfl
  |true=>simp only[cond_true];split<;>rfl
theorem CX(hR: ∀r,aF w0 w get g r)(hS: ∀r r' b,r≠r'→Own get g r b→Own get g r' b→False){t:Ty}{v:AV}{x:Value}{ok:List Tst}{d:den t}{l:List Nat}(ht:t.one=true)
  (hv:ae get g v x) (h:rd1 get t v=(ok,d,l)) (hok:aN ok): ∃H,p0 w get g l x H ⟨t,d⟩∧ ∀r∈l,∃t xs,get r= .row true t xs:=by
 have hA:ai get g [v] [x]:=by rw[ai];exact⟨x,[],rfl,hv,by rw[ai]⟩
 have main: ∀(t:Ty) (d:den t),(match bp get t [v]with
   |(ok,x,_)=>match gives get t [v]with
    |(ok',l,_)=>(ok++ok',x,l))=(ok,d,l)→
   Rep w true t d (Gof g [v] [x]) 0 (fun k=> [x][k]?)∧(∀b,Blk t d (Gof g [v] [x]) 0 b→ ∃r∈l,Own get g r b)∧(l.Nodup→Sep t d (Gof g [v] [x]) 0)∧ ∀r∈l,∃t xs,get r= .row true t xs:=by
  intro t d h
  generalize h1:bp get t [v]=r1 at h
  obtain⟨ok1,d1,rest1⟩:=r1
  simp only at h
  generalize h2:gives get t [v]=r2 at h
  obtain⟨ok2,l2,rest2⟩:=r2
  simp only[Prod.mk.injEq]at h
  obtain⟨rfl,rfl,rfl⟩:=h
  obtain⟨k1,k2⟩:=aq.1 hok
  obtain⟨q1,_,q3,q4,_⟩:=kM hR hS hA t 0 ok1 ok2 d1 l2 rest1 rest2 h1 h2 k1 k2
  exact⟨q1,q3,q4,wv t _ _ _ _ h2 k2⟩
 cases t with
 |pair=>cases ht
 |unit=>
  simp only[rd1,Prod.mk.injEq]at h
  obtain⟨_,_,rfl⟩:=h
  exact⟨fun _=>Go.undef,trivial,fun r h=>by cases h⟩
 |int k=>obtain⟨h1,_,_,h4⟩:=main (.int k) d h;exact⟨fun _=>Go.undef,by have h1: [x][0]?=some (.int k d):=h1;simpa[p0]using h1,h4⟩
 |bool=>obtain⟨h1,_,_,h4⟩:=main .bool d h;exact⟨fun _=>Go.undef,by have h1: [x][0]?=some (.bool d):=h1;simpa[p0]using h1,h4⟩
 |str=>obtain⟨h1,_,_,h4⟩:=main .str d h;exact⟨fun _=>Go.undef,by have h1: [x][0]?=some (.string d):=h1;simpa[p0]using h1,h4⟩
 |sl e=>
  obtain⟨h1,h2,h3,h4⟩:=main (.sl e) d h
  refine⟨Gof g [v] [x] 0,⟨?_,h1.2,h2,h3⟩,h4⟩
  have:=h1.1
  simp only[List.getElem?_cons_zero,Option.some.injEq]at this
  exact this.symm
theorem xR(hR: ∀r,aF w0 w get g r)(hS: ∀r r' b,r≠r'→Own get g r b→Own get g r' b→False): ∀(tys:List Ty) (fin:List AV) (vals:List Value) (ok:List Tst) (x:den (Ty.all tys)) (l:List Nat),
  (∀t∈tys,t.one=true)→ai get g fin vals→tys.length=fin.length→ta get tys fin=(ok,x,l)→aN ok→
  ∃(ll:List (List Nat)),l=ll.flatten∧(gR tys x).length=tys.length∧(gR tys x).map (·.1)=tys∧(∀r∈l,∃t xs,get r= .row true t xs)∧
   ∀(j:Nat) (v:Value),vals[j]?=some v→ ∃c lj H,(gR tys x)[j]?=some c∧ll[j]?=some lj∧p0 w get g lj v H c
 | [],fin,vals,ok,x,l,_,hA,hl,h,_=>by
  simp only[ta,Prod.mk.injEq]at h
  obtain⟨_,_,rfl⟩:=h
  have:fin= []:=by cases fin with
   |nil=>rfl
   |cons=>simp at hl
  subst this
  rw[ai]at hA
  subst hA
  exact⟨[],rfl,rfl,rfl,fun r h=>(by cases h),fun j v h=>(by simp at h)⟩
 | [t],fin,vals,ok,x,l,ho,hA,hl,h,hok=>by
  cases fin with
  |nil=>simp at hl
  |cons f fs=>
   have:fs= []:=by cases fs with
    |nil=>rfl
    |cons=>simp at hl
   subst this
   rw[ai]at hA
   obtain⟨v,vs,rfl,hv,hA⟩:=hA
   rw[ai]at hA
   subst hA
   obtain⟨H,h1,h2⟩:=CX hR hS (ho t (by simp)) hv h hok
   refine⟨[l],by simp,rfl,rfl,h2,fun j v' hj=> ?_⟩
   cases j with
   |zero=>simp only[List.getElem?_cons_zero,Option.some.injEq]at hj;subst hj;exact⟨⟨t,x⟩,l,H,rfl,rfl,h1⟩
   |succ j=>simp at hj
 |t::u::r,fin,vals,ok,x,l,ho,hA,hl,h,hok=>by
  cases fin with
  |nil=>simp at hl
  |cons f fs=>
   unfold ta at h
   generalize h1:rd1 get t ((f::fs).headD .undef)=r1 at h
   obtain⟨ok1,x1,l1⟩:=r1
   simp only at h
   generalize h2:ta get (u::r) (f::fs).tail=r2 at h
   obtain⟨ok2,x2,l2⟩:=r2
   simp only[Prod.mk.injEq]at h
   obtain⟨rfl,rfl,rfl⟩:=h
   obtain⟨k1,k2⟩:=aq.1 hok
   rw[ai]at hA
   obtain⟨v,vs,rfl,hv,hA⟩:=hA
   obtain⟨H,q1,q2⟩:=CX hR hS (ho t (by simp)) hv h1 k1
   obtain⟨ll,p1,p2,p3,p4,p5⟩:=xR hR hS (u::r) fs vs ok2 x2 l2 (fun t' h'=>ho t' (List.mem_cons_of_mem _ h')) hA (by simpa using hl) h2 k2
   refine⟨l1::ll,by simp[p1],?_,?_,fun r' hr=> ?_,fun j v' hj=> ?_⟩
   ·show(gR (u::r) x2).length+1=_;rw[p2];rfl
   ·show t::(gR (u::r) x2).map (·.1)=_;rw[p3]
   ·exact(List.mem_append.1 hr).elim (q2 r') (p4 r')
   ·cases j with
    |zero=>simp only[List.getElem?_cons_zero,Option.some.injEq]at hj;subst hj;exact⟨⟨t,x1⟩,l1,H,rfl,rfl,q1⟩
    |succ j=>
     obtain⟨c,lj,H',s1,s2,s3⟩:=p5 j v' (by simpa using hj)
     exact⟨c,lj,H',by show(⟨t,x1⟩::gR (u::r) x2)[j+1]?=some c;simpa using s1,by simpa using s2,s3⟩
theorem vm(hR: ∀r,aF w0 w' get g' r): ∀(V:List Nat) (hl:List AV) (rl:List ak) (ok:List Tst) (fin:List AV),varsOf get hl rl=(ok,fin)→aN ok→V.length=rl.length→
  (∀(i r:Nat),V[i]?=some r→ae get g' (hl.getD i .undef) (.pointer (some ⟨(g r).b,0,none⟩)))→
  ∃arrs:List (Array Value),arrs.length=V.length∧ai get g' fin (arrs.flatMap (·.toList))∧fin.length=(rl.flatMap du).length∧ ∀(i r:Nat),V[i]?=some r→
   ∃arr te x y cs,arrs[i]?=some arr∧rl[i]?=some y∧w'.heap[(g r).b]?=some (.cells arr te (0,0))∧(∀v∈arr.toList,v.oneCell'=true)∧get x= .var cs∧(g' x).b=(g r).b∧arr.size=(du y).length
 | [],hl,rl,ok,fin,h,hok,hlen,_=>by
  cases rl with
  |cons=>simp at hlen
  |nil=>
   cases hl with
   |nil=>simp only[varsOf,Prod.mk.injEq]at h;obtain⟨_,rfl⟩:=h;exact⟨[],rfl,by simp[ai],rfl,fun i r h=>by simp at h⟩
   |cons=>simp only[varsOf,Prod.mk.injEq]at h;obtain⟨rfl,_⟩:=h;exact(ay hok).elim
 |r::V,hl,rl,ok,fin,h,hok,hlen,hv=>by
  cases rl with
  |nil=>simp at hlen
  |cons y rl=>
   cases hl with
   |nil=>simp only[varsOf,Prod.mk.injEq]at h;obtain⟨rfl,_⟩:=h;exact(ay hok).elim
   |cons u hl=>
    unfold varsOf at h
    have hu:=hv 0 r rfl
    split at h
    ·next x=>
     have hu:ae get g' (.pv x 0) (.pointer (some ⟨(g r).b,0,none⟩)):=hu
     have hroot:=hR x
     unfold aF at hroot
     split at h
     ·next cs' hg=>
      rw[hg]at hroot
      obtain⟨arr,te,q1,q2,q3⟩:=hroot
      generalize h2:varsOf get hl rl=r2 at h
      obtain⟨ok2,fin2⟩:=r2
      simp only[Prod.mk.injEq]at h
      obtain⟨rfl,rfl⟩:=h
      obtain⟨k1,k2⟩:=af.1 hok
      obtain⟨arrs,p1,p2,p2',p3⟩:=vm hR V hl rl ok2 fin2 h2 k2 (by simpa using hlen) fun i r' hi=>hv (i+1) r' (by simpa using hi)
      rw[ae]at hu
      have hb:=hu.2 (by rw[hg];rfl)
      injection hb with hb
      injection hb with hb
      injection hb with hb _ _
      have hcl:cs'.length=(du y).length:=by simpa[Tst.val]using k1
      have hsz:arr.size=cs'.length:=by have:=cW q3;simpa using this
      refine⟨arr::arrs,by simp[p1],?_,by simp[p2',hcl],fun i r' hi=> ?_⟩
      ·simp only[List.flatMap_cons];exact cK q3 p2
      ·cases i with
       |zero=>
        simp only[List.getElem?_cons_zero,Option.some.injEq]at hi
        subst hi
        exact⟨arr,te,x,y,cs',rfl,rfl,by rw[hb];exact q1,q2,hg,hb.symm,by omega⟩
       |succ i=>
        obtain⟨arr',te',x',y',cs'',s1,s2,s3,s4,s5,s6,s7⟩:=p3 i r' (by simpa using hi)
        exact⟨arr',te',x',y',cs'',by simpa using s1,by simpa using s2,s3,s4,s5,s6,s7⟩
     ·simp only[Prod.mk.injEq]at h;obtain⟨rfl,_⟩:=h;exact(ay hok).elim
    ·simp only[Prod.mk.injEq]at h;obtain⟨rfl,_⟩:=h;exact(ay hok).elim
structure HV (getS : Get) (gS : aB) (hv : Nat → Value) : Prop where
  each : ∀ i, (isVar (getS i) = true ∧ hv i = .pointer (some ⟨(gS i).b, 0, none⟩)) ∨ ((bI (getS i)).isSome = true ∧ hv i = (gS i).H [] ∧ ∃ a n c, hv i = .slice a n c) ∨ hv i = Go.undef
theorem wD(p:Option Addr):Go.undef≠ .pointer p:=by unfold Go.undef;exact fun h=>by cases h
theorem tE(a:Option Addr)(n c:Nat):Go.undef≠ .slice a n c:=by unfold Go.undef;exact fun h=>by cases h
mutual
theorem y5{getS:Get}{gS:aB}{n:Nat}{hs:List AV}{hv:Nat→Value}(hH:HV getS gS hv)(hh: ∀i,ae get g' (hs.getD i .undef) (hv i)):
  ∀(c f:AV) (x x':Value),cp get hs n c f=true→ae getS gS c x→ae get g' f x'→x'=x
 | .nilS,f,x,x',h,hx,hx'=>by
  cases f<;>simp only[cp]at h<;>try cases h
  rw[ae]at hx hx'
  rw[hx,hx']
 | .sl i p sub,f,x,x',h,hx,hx'=>by
  cases p with
  |cons q p=>cases f<;>simp[cp]at h
  |nil=>cases sub with
   |some s=>cases f<;>simp[cp]at h
   |none=>cases f with
    |sl r p2 sub2=>cases p2 with
     |cons q p=>simp[cp]at h
     |nil=>cases sub2 with
      |some s=>simp[cp]at h
      |none=>
       simp only[cp,Bool.and_eq_true]at h
       obtain⟨⟨_,h1⟩,h2⟩:=h
       have hi:=hh i
       split at h1
       ·next r' e=>
        rw[e]at hi
        have:r'=r:=by simpa using h1
        subst this
        split at h2
        ·next rw_ t xs hg=>
         rw[ae]at hi hx'
         have i1:hv i=(g' r').H []:=hi.2 t t (by rw[hg];rfl) rfl
         have i2:x'=(g' r').H []:=hx'.2 t t (by rw[hg];rfl) rfl
         obtain⟨a,n,c,hsl⟩:=hi.1
         rw[ae]at hx
         rcases hH.each i with⟨_,e2⟩|⟨e1,e2,_⟩|e2
         ·rw[e2]at hsl;cases hsl
         ·obtain⟨t',ht'⟩:=Option.isSome_iff_exists.1 e1
          have:x=(gS i).H []:=hx.2 t' t' ht' rfl
          rw[i2,←i1,e2,this]
         ·rw[e2]at hsl;exact(tE _ _ _ hsl).elim
        ·cases h2
       ·cases h1
    |_=>simp[cp]at h
 | .pv i c,f,x,x',h,hx,hx'=>by
  cases f<;>simp only[cp]at h<;>try cases h
  next r c'=>
   simp only[Bool.and_eq_true]at h
   obtain⟨⟨h0,h1⟩,h2⟩:=h
   have hc:c=c':=by simpa using h0
   subst hc
   have hi:=hh i
   split at h1
   ·next r' e=>
    rw[e]at hi
    have:r'=r:=by simpa using h1
    subst this
    split at h2
    ·next cs hg=>
     rw[ae]at hi hx'
     have i1:hv i= .pointer (some ⟨(g' r').b,0,none⟩):=hi.2 (by rw[hg];rfl)
     have i2:=hx'.2 (by rw[hg];rfl)
     rw[ae]at hx
     rcases hH.each i with⟨e1,e2⟩|⟨_,_,a,n,c,e2⟩|e2
     ·rw[hx.2 e1,i2]
      rw[i1]at e2
      injection e2 with e2
      injection e2 with e2
      injection e2 with e2 _ _
      rw[e2]
     ·rw[i1]at e2;cases e2
     ·rw[i1]at e2;exact(wD _ e2.symm).elim
    ·cases h2
   ·cases h1
 | .fn f0 p q,f,x,x',h,hx,hx'=>by
  cases f<;>simp only[cp]at h<;>try cases h
  next f1 p' q'=>
   simp only[Bool.and_eq_true]at h
   obtain⟨h0,h1,h2⟩:=h
   have hf:f0=f1:=by simpa using h0
   subst hf
   rw[ae]at hx hx'
   obtain⟨vs,ws,rfl,hp,hq⟩:=hx
   obtain⟨vs',ws',rfl,hp',hq'⟩:=hx'
   have e1:=sI hH hh p p' _ _ h1 hp hp'
   have e2:=sI hH hh q q' _ _ h2 hq hq'
   have e1:vs'=vs:=Array.toList_inj.1 e1
   have e2:ws'=ws:=Array.toList_inj.1 e2
   rw[e1,e2]
 | .undef,f,x,x',h,_,_=>by cases f<;>simp[cp]at h
 | .int k n,f,x,x',h,_,_=>by cases f<;>simp[cp]at h
 | .bool b,f,x,x',h,_,_=>by cases f<;>simp[cp]at h
 | .kb b,f,x,x',h,_,_=>by cases f<;>simp[cp]at h
 | .ki k n,f,x,x',h,_,_=>by cases f<;>simp[cp]at h
 | .nb n,f,x,x',h,_,_=>by cases f<;>simp[cp]at h
 | .str s,f,x,x',h,_,_=>by cases f<;>simp[cp]at h
 | .pe r p i f0,f,x,x',h,_,_=>by cases f<;>simp[cp]at h
 | .agg cs,f,x,x',h,_,_=>by cases f<;>simp[cp]at h
 | .tup cs,f,x,x',h,_,_=>by cases f<;>simp[cp]at h
theorem sI{getS:Get}{gS:aB}{n:Nat}{hs:List AV}{hv:Nat→Value}(hH:HV getS gS hv)(hh: ∀i,ae get g' (hs.getD i .undef) (hv i)):
  ∀(cs fs:List AV) (xs xs':List Value),pL get hs n cs fs=true→ai getS gS cs xs→ai get g' fs xs'→xs'=xs
 | [],[],xs,xs',_,hx,hx'=>by rw[ai]at hx hx';rw[hx,hx']
 | [],f::fs,xs,xs',h,_,_=>by simp[pL]at h
 |c::cs,[],xs,xs',h,_,_=>by simp[pL]at h
 |c::cs,f::fs,xs,xs',h,hx,hx'=>by
  simp only[pL,Bool.and_eq_true]at h
  rw[ai]at hx hx'
  obtain⟨x,xs1,rfl,h1,h2⟩:=hx
  obtain⟨x',xs1',rfl,h3,h4⟩:=hx'
  rw[y5 hH hh c f x x' h.1 h1 h3,sI hH hh cs fs xs1 xs1' h.2 h2 h4]
end
theorem Et{hs:List AV}{hv:Nat→Value}(hh: ∀i,ae get g' (hs.getD i .undef) (hv i)){i:Nat}{f:AV}{x:Value}(h:yW get hs i f=true)(hx:ae get g' f x):x=hv i∧ ∃a n c,hv i= .slice a n c:=by
 unfold yW at h
 split at h
 ·next r=>
  simp only[Bool.and_eq_true]at h
  obtain⟨h1,h2⟩:=h
  have hi:=hh i
  split at h1
  ·next r' e=>
   rw[e]at hi
   have:r'=r:=by simpa using h1
   subst this
   split at h2
   ·next rw_ t xs hg=>
    rw[ae]at hi hx
    have i1:hv i=(g' r').H []:=hi.2 t t (by rw[hg];rfl) rfl
    have i2:x=(g' r').H []:=hx.2 t t (by rw[hg];rfl) rfl
    exact⟨by rw[i1,i2],hi.1⟩
   ·cases h2
  ·cases h1
 ·cases h
theorem oF{n:Nat}{hs:List AV}: ∀(tys:List Ty) (cs fin:List AV) (j:Nat) (c f:AV),rp get hs n tys cs fin=true→tys[j]?=some .unit→cs[j]?=some c→fin[j]?=some f→c= .undef∨(∃i s,c= .sl i [] (some s)∧yW get hs i f=true)∨((∀i s,c≠ .sl i [] (some s))∧cp get hs n c f=true)
 | [],_,_,j,_,_,_,ht,_,_=>by simp at ht
 |t::tys,[],_,j,_,_,_,_,hc,_=>by simp at hc
 |t::tys,_::_,[],j,_,_,_,_,_,hf=>by simp at hf
 |t::tys,c0::cs,f0::fin,j,c,f,h,ht,hc,hf=>by
  simp only[rp,Bool.and_eq_true,List.headD_cons,List.tail_cons]at h
  cases j with
  |zero=>
   simp only[List.getElem?_cons_zero,Option.some.injEq]at ht hc hf
   subst ht;subst hc;subst hf
   have:=h.1
   simp only at this
   split at this
   ·left;rfl
   ·right;left;exact⟨_,_,rfl,this⟩
   ·next _ h2=>right;right;exact⟨fun i s e=>h2 i s e,this⟩
  |succ j=>exact oF tys cs fin j c f h.2 (by simpa using ht) (by simpa using hc) (by simpa using hf)
end
end
end Go.Am
end
section
/- Soundness: the caller's state with what came back. -/
namespace Go.Am
noncomputable section
attribute [local instance] D.real
section
variable {w0 : bu} {w w' : World} {st st' : St} {g g' g2 : aB} {born born' : Nat → Prop} {acts : List Act} {a : Act} {get get2 : Get}
def eT(n:Nat):List Nat→List AV→List AV
 | [],f=>f
 |r::l,f=>eT n l (AV.gl r n f)
def vz(n:Nat):List Nat→ak→ak
 | [],x=>x
 |r::l,x=>vz n l (x.cut r n)
theorem qd(n:Nat): ∀(l:List Nat) (st:St),(ez n l st).fr=st.fr.map (eT n l)
 | [],st=>by simp[ez];exact(List.map_id _).symm
 |r::l,st=>by
  show(ez n l (st.cut (some (r,n)))).fr=_
  rw[qd n l]
  show(st.fr.map (AV.gl r n)).map (eT n l)=_
  rw[List.map_map];rfl
theorem nH(n:Nat): ∀(l:List Nat) (st:St) (x:Nat),(ez n l st).get x=vz n l (st.get x)
 | [],st,x=>rfl
 |r::l,st,x=>by
  show(ez n l (st.cut (some (r,n)))).get x=_
  rw[nH n l,zI];rfl
theorem nS(n:Nat): ∀(l:List Nat) (st:St),(ez n l st).rs.length=st.rs.length
 | [],st=>rfl
 |r::l,st=>by
  show(ez n l (st.cut (some (r,n)))).rs.length=_
  rw[nS n l];show(st.rs.map _).length=_;simp
theorem rV(n:Nat): ∀(l:List Nat) (x:ak),(∀cs,x≠ .var cs)→vz n l x=x
 | [],x,_=>rfl
 |r::l,x,h=>by
  have e:x.cut r n=x:=by
   cases x<;>first|rfl|exact absurd rfl (h _)
  show vz n l (x.cut r n)=x
  rw[e];exact rV n l x h
theorem sq(n:Nat): ∀(l:List Nat) (cs:List AV),vz n l (.var cs)= .var (eT n l cs)
 | [],cs=>rfl
 |r::l,cs=>sq n l (AV.gl r n cs)
theorem jQ(n:Nat): ∀(l:List Nat) (f:List AV),(eT n l f).length=f.length
 | [],f=>rfl
 |r::l,f=>by show(eT n l _).length=_;rw[jQ n l,zA]
theorem kv(n:Nat): ∀(l:List Nat) (f:List AV) (x:Nat),x∈AV.ah (eT n l f)→x∈AV.ah f
 | [],f,x,h=>h
 |r::l,f,x,h=>se.2 f x (kv n l _ x h)
open Classical in
def mix{α:Type}(l:List Nat)(a b:Nat→α):Nat→α:=fun r=>if r∈l then a r else b r
theorem wg(n:Nat)(get2:Get)(g2:aB): ∀(l:List Nat) (get:Get) (g:aB) (v:AV) (x:Value),(∀r∈l,isVar (get2 r)=false∧ ∀t,bI (get2 r)=some t→bI (get r)=some t∧ ∀p:Path,p.length<n→(g2 r).H p=(g r).H p)→
  ae get g v x→ ∃v',eT n l [v]= [v']∧ae (mix l get2 get) (mix l g2 g) v' x
 | [],get,g,v,x,_,hx=>⟨v,rfl,by
  have e1:mix [] get2 get=get:=by funext r;simp[mix]
  have e2:mix [] g2 g=g:=by funext r;simp[mix]
  rw[e1,e2];exact hx⟩
 |r::l,get,g,v,x,h,hx=>by
  classical
  have h1:ae (fun y=>if y=r then get2 r else get y) (fun y=>if y=r then g2 r else g y) (v.cut r n) x:=by
   refine rS v x (fun y _=> ?_) hx
   by_cases e:y=r
   ·subst e
    obtain⟨k1,k2⟩:=h y List.mem_cons_self
    refine⟨fun t ht=> ?_,fun hv=> ?_⟩
    ·simp only[if_true]at ht⊢
     exact⟨(k2 t ht).1,fun p hp=>(k2 t ht).2 p (hp trivial)⟩
    ·simp only[if_true]at hv
     rw[k1]at hv;cases hv
   ·refine⟨fun t ht=> ?_,fun hv=> ?_⟩
    ·simp only[e,if_false]at ht⊢
     exact⟨ht,fun _ _=>trivial⟩
    ·simp only[e,if_false]at hv⊢
     exact⟨hv,trivial⟩
  obtain⟨v',e1,e2⟩:=wg n get2 g2 l _ _ (v.cut r n) x (fun y hy=>by
   obtain⟨k1,k2⟩:=h y (List.mem_cons_of_mem _ hy)
   refine⟨k1,fun t ht=> ?_⟩
   by_cases e:y=r
   ·subst e
    simp only[if_true]
    exact⟨ht,fun _ _=>trivial⟩
   ·simp only[e,if_false]
    exact k2 t ht) h1
  refine⟨v',?_,?_⟩
  ·show eT n l (AV.gl r n [v])=_
   rw[AV.gl,AV.gl];exact e1
  ·have q1:mix l get2 (fun y=>if y=r then get2 r else get y)=mix (r::l) get2 get:=by
    funext y
    simp only[mix,List.mem_cons]
    by_cases e:y∈l
    ·simp[e]
    ·by_cases e':y=r
     ·simp[e']
     ·simp[e,e']
   have q2:mix l g2 (fun y=>if y=r then g2 r else g y)=mix (r::l) g2 g:=by
    funext y
    simp only[mix,List.mem_cons]
    by_cases e:y∈l
    ·simp[e]
    ·by_cases e':y=r
     ·simp[e']
     ·simp[e,e']
   rw[←q1,←q2];exact e2
theorem lr(n:Nat): ∀(l:List Nat) (v:AV) (f:List AV),∃v',eT n l [v]= [v']∧eT n l (v::f)=v'::eT n l f
 | [],v,f=>⟨v,rfl,rfl⟩
 |r::l,v,f=>by
  obtain⟨v',e1,e2⟩:=lr n l (v.cut r n) (AV.gl r n f)
  refine⟨v',?_,?_⟩
  ·show eT n l (AV.gl r n [v])=_
   rw[AV.gl,AV.gl];exact e1
  ·show eT n l (AV.gl r n (v::f))=_
   rw[AV.gl];exact e2
structure Ew (get get2 : Get) (g g2 : aB) (D N : List Nat) : Prop where
  d : ∀ r ∈ D, isVar (get2 r) = false ∧ ∀ t, bI (get2 r) = some t → bI (get r) = some t ∧ (g2 r).H [] = (g r).H []
  n : ∀ r ∈ N, isVar (get2 r) = false ∧ ∀ t, bI (get2 r) = some t → bI (get r) = some t
  else_ : ∀ r, r ∉ D → r ∉ N → Holds get get2 g g2 r fun _ => True
theorem Ab{D N:List Nat}(h:Ew get get2 g g2 D N){v:AV}{x:Value}(hx:ae get g v x): ∃v',eT 0 N (eT 1 D [v])= [v']∧ae get2 g2 v' x:=by
 obtain⟨v1,e1,h1⟩:=wg 1 get2 g2 D get g v x (fun r hr=>⟨(h.d r hr).1,fun t ht=>⟨((h.d r hr).2 t ht).1,fun p hp=>by
  have:p= []:=by cases p with
   |nil=>rfl
   |cons=>simp at hp
  subst this
  exact((h.d r hr).2 t ht).2⟩⟩) hx
 obtain⟨v2,e2,h2⟩:=wg 0 get2 g2 N _ _ v1 x (fun r hr=>⟨(h.n r hr).1,fun t ht=>⟨by
  by_cases e:r∈D
  ·simp only[mix,e,if_true];exact ht
  ·simp only[mix,e,if_false];exact(h.n r hr).2 t ht,fun p hp=>by omega⟩⟩) h1
 refine⟨v2,by rw[e1];exact e2,gO v2 x (fun r _=> ?_) h2⟩
 by_cases e1:r∈N
 ·refine⟨fun t ht=> ?_,fun hv=> ?_⟩
  ·simp only[mix,e1,if_true];exact⟨ht,fun _ _=>trivial⟩
  ·simp only[mix,e1,if_true];exact⟨hv,trivial⟩
 ·by_cases e2:r∈D
  ·refine⟨fun t ht=> ?_,fun hv=> ?_⟩
   ·simp only[mix,e1,e2,if_true,if_false];exact⟨ht,fun _ _=>trivial⟩
   ·simp only[mix,e1,e2,if_true,if_false];exact⟨hv,trivial⟩
  ·refine⟨fun t ht=> ?_,fun hv=> ?_⟩
   ·simp only[mix,e1,e2,if_false];exact(h.else_ r e2 e1).row t ht
   ·simp only[mix,e1,e2,if_false];exact(h.else_ r e2 e1).var hv
theorem xi{D N:List Nat}(h:Ew get get2 g g2 D N): ∀(f:List AV) (i:Nat) (x:Value),ae get g (f.getD i .undef) x→ae get2 g2 ((eT 0 N (eT 1 D f)).getD i .undef) x
 | [],i,x,_=>by
  have:eT 0 N (eT 1 D [])= []:=by
   apply List.eq_nil_of_length_eq_zero
   rw[jQ,jQ];rfl
  rw[this];simp[ae]
 |v::f,i,x,hx=>by
  obtain⟨v1,e1,e2⟩:=lr 1 D v f
  obtain⟨v2,e3,e4⟩:=lr 0 N v1 (eT 1 D f)
  rw[e2,e4]
  cases i with
  |zero=>
   obtain⟨v',q1,q2⟩:=Ab h (v:=v) (x:=x) (by simpa using hx)
   rw[e1,e3]at q1
   injection q1 with q1
   subst q1
   simpa using q2
  |succ i=>simpa using xi h f i x (by simpa using hx)
theorem xr{D N:List Nat}(h:Ew get get2 g g2 D N): ∀(f:List AV) (xs:List Value),ai get g f xs→ai get2 g2 (eT 0 N (eT 1 D f)) xs
 | [],xs,hx=>by
  have:eT 0 N (eT 1 D [])= []:=by
   apply List.eq_nil_of_length_eq_zero
   rw[jQ,jQ];rfl
  rw[this]
  rw[ai]at hx⊢;exact hx
 |v::f,xs,hx=>by
  obtain⟨v1,e1,e2⟩:=lr 1 D v f
  obtain⟨v2,e3,e4⟩:=lr 0 N v1 (eT 1 D f)
  rw[e2,e4]
  rw[ai]at hx⊢
  obtain⟨x,xs,rfl,hv,hx⟩:=hx
  obtain⟨v',q1,q2⟩:=Ab h hv
  rw[e1,e3]at q1
  injection q1 with q1
  subst q1
  exact⟨x,xs,rfl,q2,xr h f xs hx⟩
theorem sU{D N:List Nat}(h:Ew get get2 g g2 D N): ∀{fr:List (List AV)} {acts:List Act},eu get g fr acts→eu get2 g2 (fr.map fun f=>eT 0 N (eT 1 D f)) acts
 | [],_,h=>h
 |f::fs,_,⟨a,asx,e,h1,h2⟩=>⟨a,asx,e,⟨by rw[jQ,jQ];exact h1.size,fun i=>xi h f i _ (h1.slot i),h1.defers⟩,sU h h2⟩
mutual
theorem Cs{getK get':Get}{L:List Nat}{hs:List AV}(hk: ∀r∈L,getK r= .dead)(HH: ∀r,r∉L→Holds get get2 g g2 r fun _=>True)(HV: ∀r∈L,isVar (get2 r)=true→isVar (get r)=true∧(g2 r).b=(g r).b):
  ∀(o:AV) (b:Nat) (ok:List Tst) (c:AV) (rs:List ak) (f:AV) (x:Value),bM getK L o b=(ok,c,rs)→aN ok→cp get' hs L.length c f=true→ae get g o x→ae get2 g2 o x
 | .int k n,b,ok,c,rs,f,x,h,_,hs,_=>by
  rw[bM]at h;simp only[Prod.mk.injEq]at h;obtain⟨_,rfl,_⟩:=h
  cases f<;>simp[cp]at hs
 | .bool n,b,ok,c,rs,f,x,h,_,hs,_=>by
  rw[bM]at h;simp only[Prod.mk.injEq]at h;obtain⟨_,rfl,_⟩:=h
  cases f<;>simp[cp]at hs
 | .kb n,b,ok,c,rs,f,x,h,_,hs,_=>by
  rw[bM]at h;simp only[Prod.mk.injEq]at h;obtain⟨_,rfl,_⟩:=h
  cases f<;>simp[cp]at hs
 | .ki k n,b,ok,c,rs,f,x,h,_,hs,_=>by
  rw[bM]at h;simp only[Prod.mk.injEq]at h;obtain⟨_,rfl,_⟩:=h
  cases f<;>simp[cp]at hs
 | .str n,b,ok,c,rs,f,x,h,_,hs,_=>by
  rw[bM]at h;simp only[Prod.mk.injEq]at h;obtain⟨_,rfl,_⟩:=h
  cases f<;>simp[cp]at hs
 | .nilS,b,ok,c,rs,f,x,h,_,_,hx=>by rw[ae]at hx⊢;exact hx
 | .undef,b,ok,c,rs,f,x,_,_,_,_=>by simp[ae]
 | .nb n,b,ok,c,rs,f,x,h,hok,_,_=>by
  rw[bM]at h;simp only[Prod.mk.injEq]at h;obtain⟨rfl,_⟩:=h;exact(ay hok).elim
 | .pe r p i f0,b,ok,c,rs,f,x,h,hok,_,_=>by
  rw[bM]at h;simp only[Prod.mk.injEq]at h;obtain⟨rfl,_⟩:=h;exact(ay hok).elim
 | .tup vs,b,ok,c,rs,f,x,h,hok,_,_=>by
  rw[bM]at h;simp only[Prod.mk.injEq]at h;obtain⟨rfl,_⟩:=h;exact(ay hok).elim
 | .lit r n,b,ok,c,rs,f,x,h,hok,hs,_=>by
  rw[bM]at h
  split at h
  ·simp only[Prod.mk.injEq]at h;obtain⟨_,rfl,_⟩:=h
   cases f<;>simp[cp]at hs
  ·simp only[Prod.mk.injEq]at h;obtain⟨rfl,_⟩:=h;exact(ay hok).elim
 | .agg cs,b,ok,c,rs,f,x,h,hok,hs,hx=>by
  rw[bM]at h
  generalize h1:fD getK L cs b=s1 at h
  obtain⟨ok1,p',r1⟩:=s1
  simp only[Prod.mk.injEq]at h
  obtain⟨_,rfl,_⟩:=h
  cases f<;>simp[cp]at hs
 | .sl r p sub,b,ok,c,rs,f,x,h,hok,hs,hx=>by
  unfold bM at h
  generalize hi:xp L r p sub=m at h
  cases m with
  |some i=>
   simp only[Prod.mk.injEq]at h;obtain⟨_,rfl,_⟩:=h
   have hi':idx L 0 r=some i:=by
    cases p with
    |nil=>cases sub with
     |none=>exact hi
     |some s=>cases hi
    |cons q p=>cases sub<;>cases hi
   have hlt:=(List.getElem?_eq_some_iff.1 (kI L 0 r i hi').2).1
   exfalso
   cases f with
   |sl r2 p2 sub2=>
    cases p2 with
    |cons=>simp[cp]at hs
    |nil=>cases sub2 with
     |some=>simp[cp]at hs
     |none=>
      simp only[cp,Bool.and_eq_true]at hs
      have:=Nat.le_of_ble_eq_true hs.1.1
      omega
   |_=>simp[cp]at hs
  |none=>
   generalize hsl:sliceAt getK r p=s at h
   obtain⟨ok1,e,ys⟩:=s
   simp only[Prod.mk.injEq]at h
   obtain⟨rfl,_,_⟩:=h
   have hr:r∉L:=fun hr=>by
    unfold sliceAt at hsl
    rw[hk r hr]at hsl
    simp only[Prod.mk.injEq]at hsl
    obtain⟨rfl,_⟩:=hsl
    exact ay hok
   exact gO _ _ (fun r' hr'=>by simp only[AV.roots,List.mem_singleton]at hr';subst hr';exact HH r' hr) hx
 | .pv r c0,b,ok,c,rs,f,x,h,hok,hs,hx=>by
  by_cases hr:r∈L
  ·rw[ae]at hx⊢
   refine⟨hx.1,fun hv=> ?_⟩
   obtain⟨h1,h2⟩:=HV r hr hv
   rw[h2];exact hx.2 h1
  ·exact gO _ _ (fun r' hr'=>by simp only[AV.roots,List.mem_singleton]at hr';subst hr';exact HH r' hr) hx
 | .fn f0 p q,b,ok,c,rs,f,x,h,hok,hs,hx=>by
  rw[bM]at h
  generalize h1:fD getK L p b=s1 at h
  obtain⟨ok1,p',r1⟩:=s1
  simp only at h
  generalize h2:fD getK L q (b+r1.length)=s2 at h
  obtain⟨ok2,q',r2⟩:=s2
  simp only[Prod.mk.injEq]at h
  obtain⟨rfl,rfl,_⟩:=h
  obtain⟨k1,k2⟩:=aq.1 hok
  rw[ae]at hx⊢
  obtain⟨vs,ws,rfl,hp,hq⟩:=hx
  cases f<;>simp only[cp]at hs<;>try cases hs
  next f1 p1 q1=>
   simp only[Bool.and_eq_true]at hs
   exact⟨vs,ws,rfl,ui hk HH HV p b ok1 p' r1 p1 _ h1 k1 hs.2.1 hp,ui hk HH HV q _ ok2 q' r2 q1 _ h2 k2 hs.2.2 hq⟩
theorem ui{getK get':Get}{L:List Nat}{hs:List AV}(hk: ∀r∈L,getK r= .dead)(HH: ∀r,r∉L→Holds get get2 g g2 r fun _=>True)(HV: ∀r∈L,isVar (get2 r)=true→isVar (get r)=true∧(g2 r).b=(g r).b):
  ∀(os:List AV) (b:Nat) (ok:List Tst) (cs:List AV) (rs:List ak) (fs:List AV) (xs:List Value),fD getK L os b=(ok,cs,rs)→aN ok→pL get' hs L.length cs fs=true→ai get g os xs→ai get2 g2 os xs
 | [],b,ok,cs,rs,fs,xs,_,_,_,hx=>by rw[ai]at hx⊢;exact hx
 |o::os,b,ok,cs,rs,fs,xs,h,hok,hs,hx=>by
  rw[fD]at h
  generalize h1:bM getK L o b=s1 at h
  obtain⟨ok1,p',r1⟩:=s1
  simp only at h
  generalize h2:fD getK L os (b+r1.length)=s2 at h
  obtain⟨ok2,q',r2⟩:=s2
  simp only[Prod.mk.injEq]at h
  obtain⟨rfl,rfl,_⟩:=h
  obtain⟨k1,k2⟩:=aq.1 hok
  rw[ai]at hx⊢
  obtain⟨x,xs1,rfl,hp,hq⟩:=hx
  cases fs with
  |nil=>simp[pL]at hs
  |cons f fs=>
   simp only[pL,Bool.and_eq_true]at hs
   exact⟨x,xs1,rfl,Cs hk HH HV o b ok1 p' r1 f x h1 k1 hs.1 hp,ui hk HH HV os _ ok2 q' r2 fs xs1 h2 k2 hs.2 hq⟩
end
theorem ze{getK:Get}{L:List Nat}{o:AV}{i:Nat}(h:F2 getK L o (.sl i [] none))(hi:i<L.length):o= .sl (L.getD i 0) [] none:=by
 obtain⟨b,ok,rs,h,hok,hb⟩:=h
 cases o with
 |sl r p sub=>
  unfold bM at h
  generalize hm:xp L r p sub=m at h
  cases m with
  |some j=>
   simp only[Prod.mk.injEq]at h
   obtain⟨_,h,_⟩:=h
   injection h with h _ _
   subst h
   cases p with
   |cons=>cases sub<;>cases hm
   |nil=>cases sub with
    |some=>cases hm
    |none=>
     have hm:idx L 0 r=some j:=hm
     have:=(kI L 0 r j hm).2
     rw[Nat.sub_zero]at this
     simp only[List.getD_eq_getElem?_getD,this];rfl
  |none=>
   generalize sliceAt getK r p=s at h
   obtain⟨ok1,e,ys⟩:=s
   simp only[Prod.mk.injEq]at h
   obtain⟨_,h,_⟩:=h
   injection h with h _ _
   omega
 |pv r c=>rw[bM]at h;split at h<;>simp at h
 |lit r c=>rw[bM]at h;split at h<;>simp at h
 |fn f p q=>
  rw[bM]at h
  generalize fD getK L p b=s1 at h
  obtain⟨ok1,p',r1⟩:=s1
  simp only at h
  generalize fD getK L q (b+r1.length)=s2 at h
  obtain⟨ok2,q',r2⟩:=s2
  simp at h
 |agg cs=>
  rw[bM]at h
  generalize fD getK L cs b=s1 at h
  obtain⟨ok1,p',r1⟩:=s1
  simp at h
 |_=>rw[bM]at h;simp at h
theorem DU{getK:Get}{L:List Nat}{o:AV}{i:Nat}{s:Nat×Nat}(h:F2 getK L o (.sl i [] (some s))):False:=by
 obtain⟨b,ok,rs,h,hok,hb⟩:=h
 cases o with
 |sl r p sub=>
  unfold bM at h
  generalize xp L r p sub=m at h
  cases m with
  |some j=>simp at h
  |none=>simp at h
 |pv r c=>
  unfold bM at h
  generalize idx L 0 r=m at h
  cases m<;>simp at h
 |lit r n=>
  unfold bM at h
  generalize idx L 0 r=m at h
  cases m<;>simp at h
 |_=>unfold bM at h;simp at h
theorem CZ{getK:Get}{L:List Nat}{o:AV}(h:F2 getK L o .undef):o= .undef:=by
 obtain⟨b,ok,rs,h,hok,hb⟩:=h
 cases o with
 |sl r p sub=>
  unfold bM at h
  generalize xp L r p sub=m at h
  cases m with
  |some j=>simp at h
  |none=>
   generalize sliceAt getK r p=s at h
   obtain⟨ok1,e,ys⟩:=s
   simp at h
 |pv r c=>
  rw[bM]at h
  split at h
  ·simp at h
  ·simp only[Prod.mk.injEq]at h;obtain⟨rfl,_⟩:=h;exact(ay hok).elim
 |fn f p q=>
  rw[bM]at h
  generalize fD getK L p b=s1 at h
  obtain⟨ok1,p',r1⟩:=s1
  simp only at h
  generalize fD getK L q (b+r1.length)=s2 at h
  obtain⟨ok2,q',r2⟩:=s2
  simp at h
 |agg cs=>
  rw[bM]at h
  generalize fD getK L cs b=s1 at h
  obtain⟨ok1,p',r1⟩:=s1
  simp at h
 |nb n=>rw[bM]at h;simp only[Prod.mk.injEq]at h;obtain⟨rfl,_⟩:=h;exact(ay hok).elim
 |pe r p i f=>rw[bM]at h;simp only[Prod.mk.injEq]at h;obtain⟨rfl,_⟩:=h;exact(ay hok).elim
 |tup vs=>rw[bM]at h;simp only[Prod.mk.injEq]at h;obtain⟨rfl,_⟩:=h;exact(ay hok).elim
 |lit r n=>
  rw[bM]at h
  split at h
  ·simp at h
  ·simp only[Prod.mk.injEq]at h;obtain⟨rfl,_⟩:=h;exact(ay hok).elim
 |undef=>rfl
 |_=>rw[bM]at h;simp at h
theorem q8: ∀(os:List AV) (cells:List Cell) (vals:List Value),os.length=cells.length→os.length=vals.length→
  (∀(j:Nat) (o:AV) (c:Cell) (v:Value),os[j]?=some o→cells[j]?=some c→vals[j]?=some v→ae get2 g2 (BX o c) v)→ai get2 g2 (gL os cells) vals
 | [],cells,vals,_,h2,_=>by
  have:vals= []:=by cases vals with
   |nil=>rfl
   |cons=>simp at h2
  subst this
  cases cells<;>simp[gL,ai]
 |o::os,[],vals,h1,_,_=>by simp at h1
 |o::os,c::cells,[],_,h2,_=>by simp at h2
 |o::os,c::cells,v::vals,h1,h2,h=>by
  show ai get2 g2 (BX o c::gL os cells) (v::vals)
  rw[ai]
  exact⟨v,vals,rfl,h 0 o c v rfl rfl rfl,q8 os cells vals (by simpa using h1) (by simpa using h2) fun j o' c' v' a b d=>h (j+1) o' c' v' (by simpa using a) (by simpa using b) (by simpa using d)⟩
theorem AY(o:AV)(c:Cell)(r:Nat)(h:r∈(BX o c).roots):r∈o.roots:=by
 unfold BX at h
 split at h
 ·simp[AV.roots]at h
 ·simp[AV.roots]at h
 ·simp[AV.roots]at h
 ·exact h
theorem oB: ∀(os:List AV) (cells:List Cell) (r:Nat),r∈AV.ah (gL os cells)→r∈AV.ah os
 | [],cells,r,h=>by cases cells<;>simp[gL,AV.ah]at h
 |o::os,[],r,h=>h
 |o::os,c::cells,r,h=>by
  have h:r∈AV.ah (BX o c::gL os cells):=h
  simp only[AV.ah,List.mem_append]at h⊢
  exact h.imp (AY o c r) (oB os cells r)
theorem yC(n:Nat): ∀(l:List AV) (r:Nat),r∈AV.ah (l.take n)→r∈AV.ah l:=by
 induction n with
 |zero=>intro l r h;simp[AV.ah]at h
 |succ n ih=>
  intro l r h
  cases l with
  |nil=>simp[AV.ah]at h
  |cons v l=>
   simp only[List.take_succ_cons,AV.ah,List.mem_append]at h⊢
   exact h.imp id (ih l r)
theorem yw(n:Nat): ∀(l:List AV) (r:Nat),r∈AV.ah (l.drop n)→r∈AV.ah l:=by
 induction n with
 |zero=>intro l r h;exact h
 |succ n ih=>
  intro l r h
  cases l with
  |nil=>simp[AV.ah]at h
  |cons v l=>
   simp only[AV.ah,List.mem_append]
   exact .inr (ih l r h)
theorem qs: ∀(V:List Nat) (cs:List AV),(jW get V cs).map (·.1)=V
 | [],cs=>rfl
 |r::V,cs=>by show r::(jW get V _).map (·.1)=_;rw[qs V]
theorem s9: ∀(V:List Nat) (cs:List AV) (arrs:List (Array Value)),arrs.length=V.length→ai get2 g2 cs (arrs.flatMap (·.toList))→
  (∀(i r:Nat) (arr:Array Value),V[i]?=some r→arrs[i]?=some arr→arr.size=(aL get r).length)→
  ∀(i r:Nat) (arr:Array Value),V[i]?=some r→arrs[i]?=some arr→ ∃seg,(r,ak.var seg)∈jW get V cs∧ai get2 g2 seg arr.toList∧ ∀x∈AV.ah seg,x∈AV.ah cs
 | [],cs,arrs,_,_,_,i,r,arr,h,_=>by simp at h
 |r0::V,cs,[],hl,_,_,i,r,arr,_,h=>by simp at h
 |r0::V,cs,arr0::arrs,hl,hA,hs,i,r,arr,hi,ha=>by
  have h0:=hs 0 r0 arr0 rfl rfl
  simp only[List.flatMap_cons]at hA
  have hT:=fZ (aL get r0).length hA
  have hDr:=gd (aL get r0).length hA
  rw[List.take_left' (by simpa using h0)]at hT
  rw[List.drop_left' (by simpa using h0)]at hDr
  cases i with
  |zero=>
   simp only[List.getElem?_cons_zero,Option.some.injEq]at hi ha
   subst hi;subst ha
   exact⟨_,List.mem_cons_self,hT,fun x hx=>yC _ _ x hx⟩
  |succ i=>
   obtain⟨seg,p1,p2,p3⟩:=s9 V (cs.drop (aL get r0).length) arrs (by simpa using hl) hDr (fun i r arr h1 h2=>hs (i+1) r arr (by simpa using h1) (by simpa using h2)) i r arr (by simpa using hi) (by simpa using ha)
   exact⟨seg,List.mem_cons_of_mem _ p1,p2,fun x hx=>yw _ _ x (p3 x hx)⟩
theorem qS(n:Nat)(L:List Nat)(rs:List ak): ∀(cs:List AV) (bs:List Cell),bs.map (·.1)=cs.map (dZ n rs)→(∀i∈de n rs cs,∃rw t xs,rs.getD i .dead= .row rw t xs)→(fy n L rs cs bs).map (·.1)=(de n rs cs).map fun i=>L.getD i 0
 | [],bs,_,_=>by cases bs<;>rfl
 |c::cs,[],h,_=>by simp at h
 |c::cs,b::bs,h,hr=>by
  simp only[List.map_cons,List.cons.injEq]at h
  obtain⟨h1,h2⟩:=h
  have skip:(∀i∈de n rs cs,∃rw t xs,rs.getD i .dead= .row rw t xs)→(fy n L rs cs bs).map (·.1)=(de n rs cs).map fun i=>L.getD i 0:=qS n L rs cs bs h2
  unfold fy
  unfold de at hr⊢
  split
  ·next i t xs=>
   simp only at hr⊢
   cases hb:Nat.blt i n with
   |true=>
    rw[hb]at hr
    simp only[cond_true,List.map_append,List.map_cons,List.map_nil,List.cons_append,List.nil_append]at hr⊢
    rw[skip fun i hi=>hr i (List.mem_cons_of_mem _ hi)]
   |false=>
    rw[hb]at hr
    simp only[cond_false,List.nil_append]at hr⊢
    exact skip hr
  ·next hno=>
   simp only[List.nil_append]
   split at hr
   ·next i=>
    cases hb:Nat.blt i n with
    |true=>
     exfalso
     rw[hb]at hr
     simp only[cond_true]at hr
     obtain⟨rw_,t,xs,e⟩:=hr i List.mem_cons_self
     have:dZ n rs (.sl i [] none)= .sl t:=by
      simp only[dZ,hb,cond_true,e]
     rw[this]at h1
     obtain⟨t0,x0⟩:=b
     simp only at h1
     subst h1
     exact hno i t x0 rfl rfl
    |false=>
     rw[hb]at hr
     simp only[cond_false]at hr⊢
     exact skip hr
   ·exact skip hr
theorem s8(n:Nat)(L:List Nat)(rs:List ak): ∀(cs:List AV) (bs:List Cell) (J i:Nat) (t:Ty) (xs:List (den t)),cs[J]?=some (.sl i [] none)→bs[J]?=some ⟨.sl t,xs⟩→i<n→(L.getD i 0,ak.row true t xs)∈fy n L rs cs bs
 | [],bs,J,i,t,xs,h,_,_=>by simp at h
 |c::cs,[],J,i,t,xs,_,h,_=>by simp at h
 |c::cs,b::bs,J,i,t,xs,hc,hb,hi=>by
  cases J with
  |zero=>
   simp only[List.getElem?_cons_zero,Option.some.injEq]at hc hb
   subst hc;subst hb
   unfold fy
   have:Nat.blt i n=true:=by rw[Nat.blt_eq];exact hi
   simp[this]
  |succ J=>
   unfold fy
   exact List.mem_append.2 (.inr (s8 n L rs cs bs J i t xs (by simpa using hc) (by simpa using hb) hi))
theorem j5(n:Nat)(rs:List ak): ∀(cs:List AV) (i:Nat),i∈de n rs cs↔i<n∧ ∃J:Nat,cs[J]?=some (.sl i [] none)
 | [],i=>by simp[de]
 |c::cs,i=>by
  have ih:=j5 n rs cs i
  unfold de
  split
  ·next k=>
   cases hb:Nat.blt k n with
   |true=>
    simp only[cond_true,List.mem_cons,ih]
    rw[Nat.blt_eq]at hb
    constructor
    ·rintro(rfl|⟨h1,J,h2⟩)
     ·exact⟨hb,0,rfl⟩
     ·exact⟨h1,J+1,by simpa using h2⟩
    ·rintro⟨h1,J,h2⟩
     cases J with
     |zero=>simp only[List.getElem?_cons_zero,Option.some.injEq,AV.sl.injEq]at h2;exact .inl h2.1.symm
     |succ J=>exact .inr ⟨h1,J,by simpa using h2⟩
   |false=>
    simp only[cond_false,ih]
    have hb: ¬k<n:=fun h=>by rw[←Nat.blt_eq,hb]at h;cases h
    constructor
    ·rintro⟨h1,J,h2⟩;exact⟨h1,J+1,by simpa using h2⟩
    ·rintro⟨h1,J,h2⟩
     cases J with
     |zero=>simp only[List.getElem?_cons_zero,Option.some.injEq,AV.sl.injEq]at h2;omega
     |succ J=>exact⟨h1,J,by simpa using h2⟩
  ·next hno=>
   rw[ih]
   constructor
   ·rintro⟨h1,J,h2⟩;exact⟨h1,J+1,by simpa using h2⟩
   ·rintro⟨h1,J,h2⟩
    cases J with
    |zero=>simp only[List.getElem?_cons_zero,Option.some.injEq]at h2;exact(hno i h2).elim
    |succ J=>exact⟨h1,J,by simpa using h2⟩
theorem sZ(n:Nat)(rs:List ak): ∀(cs:List AV) (i J J':Nat),(de n rs cs).Nodup→i<n→cs[J]?=some (.sl i [] none)→cs[J']?=some (.sl i [] none)→J=J'
 | [],i,J,J',_,_,h,_=>by simp at h
 |c::cs,i,J,J',hn,hi,h,h'=>by
  cases J with
  |zero=>cases J' with
   |zero=>rfl
   |succ J'=>
    exfalso
    simp only[List.getElem?_cons_zero,Option.some.injEq]at h
    subst h
    have hb:Nat.blt i n=true:=by rw[Nat.blt_eq];exact hi
    simp only[de,hb,cond_true,List.nodup_cons]at hn
    exact hn.1 ((j5 n rs cs i).2 ⟨hi,J',by simpa using h'⟩)
  |succ J=>cases J' with
   |zero=>
    exfalso
    simp only[List.getElem?_cons_zero,Option.some.injEq]at h'
    subst h'
    have hb:Nat.blt i n=true:=by rw[Nat.blt_eq];exact hi
    simp only[de,hb,cond_true,List.nodup_cons]at hn
    exact hn.1 ((j5 n rs cs i).2 ⟨hi,J,by simpa using h⟩)
   |succ J'=>
    have hn':(de n rs cs).Nodup:=by
     unfold de at hn
     split at hn
     ·next k=>
      cases hb:Nat.blt k n with
      |true=>rw[hb]at hn;simp only[cond_true,List.nodup_cons]at hn;exact hn.2
      |false=>rw[hb]at hn;exact hn
     ·exact hn
    rw[sZ n rs cs i J J' hn' hi (by simpa using h) (by simpa using h')]
theorem tk: ∀(l:List (Nat×ak)) (f:Get) (r:Nat) (x:ak),(l.map (·.1)).Nodup→(r,x)∈l→eF l f r=x
 | [],f,r,x,_,h=>by cases h
 |(i,y)::l,f,r,x,hn,h=>by
  simp only[List.map_cons,List.nodup_cons]at hn
  unfold eF
  rcases List.mem_cons.1 h with h|h
  ·injection h with h1 h2
   subst h1;subst h2
   rw[gY l _ r hn.1,if_pos rfl]
  ·exact tk l _ r x hn.2 h
end
end
end Go.Am
end
section
/- Soundness: a call in a part of the state. -/
namespace Go.Am
noncomputable section
attribute [local instance] D.real
section
variable {P : Program} {w0 : bu} {w w' : World} {st st' : St} {g g' g2 : aB} {born born' : Nat → Prop} {acts : List Act} {a : Act} {get get2 : Get}
theorem Bu(n:Nat)(rs:List ak)(c:AV):dZ n (rs.map ak.strip) c.strip=dZ n rs c:=by
 have e: ∀i,(match (rs.map ak.strip).getD i .dead with
   | .row _ t _=>Ty.sl t
   |_=> .unit)=(match rs.getD i .dead with
   | .row _ t _=>Ty.sl t
   |_=> .unit):=by
  intro i
  simp only[List.getD_eq_getElem?_getD,List.getElem?_map]
  cases rs[i]? with
  |none=>rfl
  |some x=>cases x<;>rfl
 cases c with
 |sl i p sub=>
  cases p with
  |nil=>cases sub with
   |none=>simp only[AV.strip,dZ];congr 1;exact e _
   |some s=>rfl
  |cons q p=>rfl
 |_=>rfl
theorem nN(x:ak):du x.strip=(du x).map AV.strip:=by cases x<;>rfl
theorem B9(lo:Nat)(c:AV):(nF lo c).strip=nF lo c.strip:=by
 cases c with
 |sl i p sub=>cases p with
  |nil=>cases sub with
   |none=>simp only[nF,AV.strip];cases Nat.blt i lo<;>rfl
   |some s=>rfl
  |cons q p=>rfl
 |_=>rfl
theorem AZ(lo:Nat)(c:AV):(∃i,c= .sl i [] none∧i<lo∧nF lo c= .sl i [] (some (0,0)))∨nF lo c=c:=by
 cases c with
 |sl i p sub=>cases p with
  |nil=>cases sub with
   |none=>
    cases hb:Nat.blt i lo with
    |true=>left;exact⟨i,rfl,by rw[Nat.blt_eq]at hb;exact hb,by simp only[nF,hb,cond_true]⟩
    |false=>right;simp only[nF,hb,cond_false]
   |some s=>right;rfl
  |cons q p=>right;rfl
 |_=>right;rfl
theorem Bg(nV nD:Nat)(rs:List ak):ca nV nD (rs.map ak.strip)=(ca nV nD rs).map AV.strip:=by
 unfold ca
 rw[List.map_append,List.map_map]
 congr 1
 rw[←List.map_take]
 generalize rs.take nV=l
 rw[List.map_map]
 have hh:AV.strip∘nF (nV+nD)=nF (nV+nD)∘AV.strip:=funext fun c=>B9 _ c
 rw[hh,←List.map_map]
 congr 1
 induction l with
 |nil=>rfl
 |cons x l ih=>simp only[List.map_cons,List.flatMap_cons,ih,nN,List.map_append]
theorem BL{n:Nat}{rs:List ak}{c:AV}(h:dZ n rs c= .unit):c.strip=c:=by
 cases c<;>first|rfl|simp[dZ]at h
theorem nu{get:Get}{g:aB}: ∀{vs:List AV} {l:List Value} {i:Nat} {v:AV} {x:Value},ai get g vs l→vs[i]?=some v→l[i]?=some x→ae get g v x:=by
 intro vs l i v x h e e'
 obtain⟨y,h1,h2⟩:=bK h e
 rw[e']at h1
 injection h1 with h1
 rw[h1];exact h2
theorem vL(n:Nat)(L:List Nat)(rs rs':List ak): ∀(cs:List AV) (bs:List Cell),fy n L rs (cs.map AV.strip) bs=fy n L rs' cs bs
 | [],bs=>by cases bs<;>rfl
 |c::cs,[]=>rfl
 |c::cs,b::bs=>by
  have ih:=vL n L rs rs' cs bs
  cases c with
  |sl i p sub=>
   cases p with
   |nil=>cases sub with
    |none=>
     obtain⟨t,x⟩:=b
     cases t<;>simp only[List.map_cons,AV.strip,fy,ih]
    |some s=>simp only[List.map_cons,AV.strip,fy,ih]
   |cons q p=>simp only[List.map_cons,AV.strip,fy,ih]
  |_=>simp only[List.map_cons,AV.strip,fy,ih]
theorem qZ(get:Get): ∀(V:List Nat) (cs:List AV) (x:Nat×ak),x∈jW get V cs→ ∃l,x.2= .var l
 | [],_,_,h=>by cases h
 |r::V,cs,x,h=>by
  rcases List.mem_cons.1 h with h|h
  ·subst h;exact⟨_,rfl⟩
  ·exact qZ get V _ x h
theorem BO{n:Nat}{rs:List ak}{c:AV}{t:Ty}(h:dZ n rs c= .sl t): ∃i,c= .sl i [] none∧i<n:=by
 cases c with
 |sl i p sub=>
  cases p with
  |nil=>cases sub with
   |none=>
    simp only[dZ]at h
    cases hb:Nat.blt i n with
    |true=>rw[Nat.blt_eq]at hb;exact⟨i,rfl,hb⟩
    |false=>rw[hb]at h;cases h
   |some s=>simp[dZ]at h
  |cons q p=>simp[dZ]at h
 |_=>simp[dZ]at h
theorem ph: ∀(l:List (Nat×ak)) (st:St),st.rs.length≤(st.aH l).rs.length
 | [],st=>Nat.le_refl _
 |(i,x)::l,st=>by
  rw[jJ]
  refine Nat.le_trans ?_ (ph l (st.ep i x))
  show st.rs.length≤(setAt st.rs i x).length
  unfold setAt
  cases hb:Nat.blt i st.rs.length with
  |true=>simp
  |false=>simp
theorem yA{t:Ty}{xs:List (den t)}{H:Path→Value}{rw_:Bool}(h:aS w rw_ t xs H): ∃a n c,H []= .slice a n c:=by
 rcases h with⟨h0,_⟩|⟨a,cap,h0,_⟩
 ·exact⟨_,_,_,h0⟩
 ·exact⟨_,_,_,h0⟩
theorem zp{ls:bg}{stS stF:St}{gS:aB}{actH:Act}{f:Nat}{vs':List AV}{us':List Value}{y:den (resTy P f)}{x:den (rN ls.lv.length ls.ld.length ls.all.length (stS.rs.map ak.strip))}{bornF:Nat→Prop}
  (R:Rel w0 st g born acts w) (hq: ∀r∈ls.all,∀j r' p t xs,st.get j= .pend r' p t xs→r'≠r) (hn:ls.all.Nodup) (hlt: ∀r,born r→r<st.rs.length)
  (hidx:de ls.all.length stS.rs (ca ls.lv.length ls.ld.length stS.rs)=List.range' ls.lv.length (ls.ld.length+ls.ln.length))
  (pt:Part w st g ls stS gS actH) {wB:bu} (hle:(kX w (ky st.get g ls.all)).le wB) (R':Rel wB stF g' bornF [actH] w') (hA:ai stF.get g' vs' us')
  (hend:um P f ls.lv.length ls.ld.length ls.all.length (stS.rs.map ak.strip) vs' stF=some (y,x)):
  ∃g2,Rel w0 (l6 ls st (stS.rs.map ak.strip) x) g2 born acts w'∧(∀r,born r→r<(l6 ls st (stS.rs.map ak.strip) x).rs.length)∧yu P (bE P f) us'∧
   ∃G,Rep w' true (dw P (bE P f)) y G 0 (fun k=>(bh us')[k]?)∧Sep (dw P (bE P f)) y G 0∧ ∀b,Blk (dw P (bE P f)) y G 0 b→ ¬w0.dh b∧ ∀r,¬Own (l6 ls st (stS.rs.map ak.strip) x).get g2 r b:=by
 classical
 have hall:ls.all.length=ls.lv.length+(ls.ld.length+ls.ln.length):=by simp[bg.all]
 have KB:=hle.run R'.below
 have hfr:=R'.frames
 have htop:qy stF.get g' stF.top actH:=by
  unfold St.top
  generalize stF.fr=fr at hfr
  cases fr with
  |nil=>simp only[eu]at hfr;cases hfr
  |cons f fs=>
   obtain⟨a',asx,e,h1,_⟩:=hfr
   injection e with e1 _
   subst e1;exact h1
 let hv:Nat→Value:=fun i=>actH.tmps.getD i Go.undef
 have hh: ∀i,ae stF.get g' (stF.top.getD i .undef) (hv i):=htop.slot
 have hvi: ∀i,hv i=if i<stS.rs.length then lU gS ((kE ls.lv.length ls.ld.length ls.all.length (stS.rs.length-ls.all.length)).getD i .undef) i else Go.undef:=pt.act
 have plen:=pt.len
 have hvV: ∀i,i<ls.lv.length→hv i= .pointer (some ⟨(gS i).b,0,none⟩):=fun i hi=>by
  rw[hvi i,if_pos (by omega),je _ _ _ _ _ (by omega),if_pos hi];rfl
 have hvD: ∀i,ls.lv.length≤i→i<ls.lv.length+ls.ld.length→hv i=(gS i).H []:=fun i h1 h2=>by
  rw[hvi i,if_pos (by omega),je _ _ _ _ _ (by omega),if_neg (by omega),if_pos h2];rfl
 have hvar: ∀(i r:Nat),ls.lv[i]?=some r→i<ls.lv.length∧ls.all.getD i 0=r∧r∈ls.all∧gS i=g r:=fun i r hi=>by
  have h1:=(List.getElem?_eq_some_iff.1 hi).1
  have e:ls.all.getD i 0=r:=by
   simp only[List.getD_eq_getElem?_getD,bg.all]
   rw[List.getElem?_append_left h1,hi];rfl
  refine⟨by omega,e,?_,?_⟩
  ·simp only[bg.all,List.mem_append];exact .inl (List.mem_iff_getElem?.2 ⟨i,hi⟩)
  ·rw[pt.gs i (by omega),e]
 have hrow: ∀i,ls.lv.length≤i→i<ls.all.length→stS.get i=st.get (ls.all.getD i 0)∧ ∃t xs,stS.get i= .row true t xs:=pt.row
 have HVS:HV stS.get gS hv:=by
  refine⟨fun i=> ?_⟩
  by_cases h0:i<stS.rs.length
  ·by_cases h1:i<ls.lv.length
   ·left
    refine⟨?_,hvV i h1⟩
    obtain⟨cs,cs0,arr,te,p1,_⟩:=pt.var i (ls.lv[i]'(by omega)) (List.getElem?_eq_getElem _)
    have:stS.get i= .var cs:=by
     show stS.rs.getD i .dead=_
     simp only[List.getD_eq_getElem?_getD,p1];rfl
    rw[this];rfl
   ·by_cases h2:i<ls.lv.length+ls.ld.length
    ·right;left
     obtain⟨e1,t,xs,e2⟩:=hrow i (by omega) (by omega)
     refine⟨by rw[e2];rfl,hvD i (by omega) h2,?_⟩
     rw[hvD i (by omega) h2,pt.gs i (by omega)]
     have hr:=R.roots (ls.all.getD i 0)
     unfold aF at hr
     rw[←e1,e2]at hr
     rcases hr.1 with⟨h0,_⟩|⟨a,cap,h0,_⟩
     ·exact⟨_,_,_,h0⟩
     ·exact⟨_,_,_,h0⟩
    ·by_cases h3:i<ls.all.length
     ·right;right
      rw[hvi i,if_pos h0,je _ _ _ _ _ (by omega),if_neg h1,if_neg h2,if_pos h3];rfl
     ·right;left
      obtain⟨⟨e,ys,e1⟩,e2⟩:=pt.ro i (by omega) h0
      have e3:hv i=(gS i).H []:=by
       rw[hvi i,if_pos h0,je _ _ _ _ _ (by omega),if_neg h1,if_neg h2,if_neg h3,if_pos (by omega)];rfl
      exact⟨by rw[e1];rfl,e3,by rw[e3];exact e2⟩
  ·right;right
   rw[hvi i,if_neg h0]
 unfold um at hend
 generalize hvo:varsOf stF.get (stF.top.take ls.lv.length) ((stS.rs.map ak.strip).take ls.lv.length)=vo at hend
 obtain⟨ok0,fin⟩:=vo
 simp only at hend
 generalize hrd:bp stF.get (resTy P f) (vs'.flatMap AV.cells)=rd at hend
 obtain⟨ok1,y1,rest⟩:=rd
 simp only at hend
 generalize hgv:gives stF.get (resTy P f) (vs'.flatMap AV.cells)=gv at hend
 obtain⟨ok2,l,rest2⟩:=gv
 simp only at hend
 generalize hbl:ta stF.get (iL ls.lv.length ls.ld.length ls.all.length (stS.rs.map ak.strip)) ((stF.top.drop ls.lv.length).take ls.ld.length++fin)=bl at hend
 obtain⟨ok3,x,l'⟩:=bl
 simp only at hend
 obtain⟨hok,hend⟩:=iF hend
 simp only[Option.some.injEq,Prod.mk.injEq]at hend
 obtain⟨rfl,rfl⟩:=hend
 obtain⟨k0,hok⟩:=aq.1 hok
 obtain⟨k1,hok⟩:=aq.1 hok
 obtain⟨k2,hok⟩:=aq.1 hok
 obtain⟨k3,hok⟩:=aq.1 hok
 obtain⟨k4,hok⟩:=af.1 hok
 obtain⟨_,hok⟩:=af.1 hok
 obtain⟨k6,hok⟩:=af.1 hok
 obtain⟨k7,hok⟩:=af.1 hok
 obtain⟨k8,_⟩:=af.1 hok
 have k6:(l++l').Nodup:=of_decide_eq_true k6
 have k7:((stF.top.drop ls.lv.length).take ls.ld.length).length=ls.ld.length:=by simpa[Tst.val]using k7
 have k8:rp stF.get stF.top ls.all.length (iL ls.lv.length ls.ld.length ls.all.length (stS.rs.map ak.strip)) (ca ls.lv.length ls.ld.length (stS.rs.map ak.strip)) ((stF.top.drop ls.lv.length).take ls.ld.length++fin)=true:=k8
 have htake:stS.rs.take ls.lv.length=stS.rs.take ls.lv.length:=rfl
 obtain⟨arrs,a1,a2,a2',a3⟩:=vm (g:=g) R'.roots ls.lv (stF.top.take ls.lv.length) ((stS.rs.map ak.strip).take ls.lv.length) ok0 fin hvo k0 (by rw[List.length_take,List.length_map];omega) (fun i r hi=>by
  obtain⟨h1,_,_,h4⟩:=hvar i r hi
  have e:(stF.top.take ls.lv.length).getD i .undef=stF.top.getD i .undef:=by
   simp only[List.getD_eq_getElem?_getD];rw[List.getElem?_take,if_pos h1]
  rw[e,←h4]
  have:=hh i
  rw[hvV i h1]at this
  exact this)
 let Dv:List Value:=(List.range ls.ld.length).map fun i=>(gS (ls.lv.length+i)).H []
 have hD1:ai stF.get g' ((stF.top.drop ls.lv.length).take ls.ld.length) Dv:=by
  have: ∀(l:List AV) (n k:Nat),l.length=n→(∀i,i<n→ae stF.get g' (l.getD i .undef) ((gS (k+i)).H []))→ai stF.get g' l ((List.range n).map fun i=>(gS (k+i)).H []):=by
   intro l
   induction l with
   |nil=>intro n k hl _;subst hl;simp[ai]
   |cons v l ih=>
    intro n k hl h
    subst hl
    rw[List.length_cons,List.range_succ_eq_map,List.map_cons,List.map_map,ai]
    refine⟨_,_,rfl,by simpa using h 0 (by simp),?_⟩
    have:=ih l.length (k+1) rfl fun i hi=>by
     have:=h (i+1) (by simpa using hi)
     have e:k+1+i=k+(i+1):=by omega
     rw[e];simpa using this
    have e:((fun i=>(gS (k+i)).H [])∘Nat.succ)=fun i=>(gS (k+1+i)).H []:=by
     funext i
     have:k+i.succ=k+1+i:=by omega
     simp only[Function.comp,this]
    rw[e];exact this
  refine this _ ls.ld.length ls.lv.length k7 fun i hi=> ?_
  have e:((stF.top.drop ls.lv.length).take ls.ld.length).getD i .undef=stF.top.getD (ls.lv.length+i) .undef:=by
   simp only[List.getD_eq_getElem?_getD];rw[List.getElem?_take,if_pos hi,List.getElem?_drop]
  rw[e,←hvD (ls.lv.length+i) (by omega) (by omega)]
  exact hh _
 let valsF:List Value:=Dv++arrs.flatMap (·.toList)
 have hF:ai stF.get g' ((stF.top.drop ls.lv.length).take ls.ld.length++fin) valsF:=cK hD1 a2
 obtain⟨vals0,f1,f2⟩:=pt.flat
 have hsubl:=pt.sub
 let OC:=ca ls.lv.length ls.ld.length stS.rs
 have hOC:ca ls.lv.length ls.ld.length (stS.rs.map ak.strip)=OC.map AV.strip:=Bg _ _ _
 have hOCl:OC.length=ls.ld.length+((stS.rs.take ls.lv.length).flatMap du).length:=by simp[OC,ca]
 have htys:iL ls.lv.length ls.ld.length ls.all.length (stS.rs.map ak.strip)=OC.map (dZ ls.all.length stS.rs):=by
  unfold iL
  rw[hOC,List.map_map]
  congr 1
  funext c
  exact Bu _ _ _
 have hfinl:fin.length=((stS.rs.take ls.lv.length).flatMap du).length:=by
  rw[a2',←List.map_take]
  generalize stS.rs.take ls.lv.length=l
  induction l with
  |nil=>rfl
  |cons x l ih=>simp only[List.map_cons,List.flatMap_cons,List.length_append,ih,nN,List.length_map]
 have hFl:((stF.top.drop ls.lv.length).take ls.ld.length++fin).length=OC.length:=by rw[List.length_append,k7,hfinl,hOCl]
 have hvFl:valsF.length=OC.length:=by rw[cW hF,hFl]
 obtain⟨ll,b1,b2,b3,b4,b5⟩:=xR R'.roots R'.sep _ _ valsF ok3 x l' (fun t ht=>by
   rw[htys]at ht
   obtain⟨c,_,rfl⟩:=List.mem_map.1 ht
   exact zX _ _ _) hF (by rw[htys,List.length_map,hFl]) hbl k3
 generalize hcells:gR (iL ls.lv.length ls.ld.length ls.all.length (stS.rs.map ak.strip)) x=cells at*
 have hcl:cells.length=OC.length:=by rw[b2,htys,List.length_map]
 have hcty: ∀(J:Nat) (c:AV) (b:Cell),OC[J]?=some c→cells[J]?=some b→b.1=dZ ls.all.length stS.rs c:=fun J c b h1 h2=>by
  have e:=congrArg (fun l=>l[J]?) b3
  simp only[List.getElem?_map,h2,Option.map_some]at e
  rw[htys]at e
  simp only[List.getElem?_map,h1,Option.map_some,Option.some.injEq]at e
  exact e
 have hnodup':l'.Nodup:=(List.nodup_append.1 k6).2.1
 let Pr:Nat→(Path→Value)→Prop:=fun i H=> ∃(J:Nat) (t:Ty) (xs:List (den t)) (lj:List Nat) (v:Value),OC[J]?=some (.sl i [] none)∧cells[J]?=some ⟨.sl t,xs⟩∧ll[J]?=some lj∧valsF[J]?=some v∧p0 w' stF.get g' lj v H ⟨.sl t,xs⟩
 have hPr: ∀i,ls.lv.length≤i→i<ls.all.length→ ∃H,Pr i H:=fun i h1 h2=>by
  have hm:i∈de ls.all.length stS.rs OC:=by
   rw[show OC=ca ls.lv.length ls.ld.length stS.rs from rfl,hidx]
   simp only[List.mem_range'_1];omega
  obtain⟨_,J,hJ⟩:=(j5 _ _ _ _).1 hm
  have hJl:=(List.getElem?_eq_some_iff.1 hJ).1
  obtain⟨b,lj,H,c1,c2,c3⟩:=b5 J (valsF[J]'(by omega)) (List.getElem?_eq_getElem _)
  have hty:=hcty J _ b hJ c1
  obtain⟨_,t,xs,e⟩:=hrow i h1 h2
  have:dZ ls.all.length stS.rs (.sl i [] none)= .sl t:=by
   have hb:Nat.blt i ls.all.length=true:=by rw[Nat.blt_eq];exact h2
   have e:stS.rs.getD i .dead= .row true t xs:=e
   simp only[dZ,hb,cond_true,e]
  rw[this]at hty
  obtain⟨tb,db⟩:=b
  simp only at hty
  subst hty
  exact⟨H,J,t,db,lj,_,hJ,c1,c2,List.getElem?_eq_getElem _,c3⟩
 let Hof:Nat→Path→Value:=fun i=>if h:ls.lv.length≤i∧i<ls.all.length then Classical.choose (hPr i h.1 h.2)else fun _=>Go.undef
 have hHof: ∀i,ls.lv.length≤i→i<ls.all.length→Pr i (Hof i):=fun i h1 h2=>by
  show Pr i (if h:ls.lv.length≤i∧i<ls.all.length then Classical.choose (hPr i h.1 h.2)else fun _=>Go.undef)
  rw[dif_pos ⟨h1,h2⟩]
  exact Classical.choose_spec (hPr i h1 h2)
 have hJinj: ∀(i J J':Nat),ls.lv.length≤i→i<ls.all.length→OC[J]?=some (.sl i [] none)→OC[J']?=some (.sl i [] none)→J=J':=fun i J J' h1 h2 h3 h4=>
  sZ ls.all.length stS.rs OC i J J' (by rw[show OC=ca ls.lv.length ls.ld.length stS.rs from rfl,hidx];exact List.nodup_range') h2 h3 h4
 let g2:aB:=fun r=>match idx ls.all 0 r with
  |some i=>if ls.lv.length≤i then⟨0,Hof i,fun _=>False⟩else g r
  |none=>g r
 have hidxL: ∀i,i<ls.all.length→idx ls.all 0 (ls.all.getD i 0)=some i:=by
  have key: ∀(L:List Nat) (k i:Nat),L.Nodup→i<L.length→idx L k (L.getD i 0)=some (k+i):=by
   intro L
   induction L with
   |nil=>intro k i _ h;simp at h
   |cons x L ih=>
    intro k i hn hi
    rw[List.nodup_cons]at hn
    cases i with
    |zero=>simp[idx]
    |succ i=>
     have hne:x≠L.getD i 0:=fun e=>hn.1 (by
      rw[e]
      have hi':i<L.length:=by simpa using hi
      simp only[List.getD_eq_getElem?_getD,List.getElem?_eq_getElem hi']
      exact List.getElem_mem hi')
     have hb:Nat.beq x (L.getD i 0)=false:=by
      cases h:Nat.beq x (L.getD i 0)with
      |false=>rfl
      |true=>exact absurd (cX h) hne
     simp only[List.getD_cons_succ]
     unfold idx
     rw[hb]
     simp only[cond_false]
     rw[ih (k+1) i hn.2 (by simpa using hi)]
     congr 1;omega
  intro i hi
  have:=key ls.all 0 i hn hi
  simpa using this
 have hidxN: ∀r,r∉ls.all→idx ls.all 0 r=none:=fun r hr=>by
  cases h:idx ls.all 0 r with
  |none=>rfl
  |some i=>
   exfalso
   have:=(kI _ _ _ _ h).2
   exact hr (List.mem_iff_getElem?.2 ⟨_,this⟩)
 have g2V: ∀(i r:Nat),ls.lv[i]?=some r→g2 r=g r:=fun i r hi=>by
  obtain⟨h1,h2,_,_⟩:=hvar i r hi
  have:=hidxL i (by omega)
  rw[h2]at this
  show(match idx ls.all 0 r with
   |some i=>if ls.lv.length≤i then _ else g r
   |none=>g r)=g r
  rw[this]
  simp only
  rw[if_neg (by omega)]
 have g2R: ∀i,ls.lv.length≤i→i<ls.all.length→g2 (ls.all.getD i 0)=⟨0,Hof i,fun _=>False⟩:=fun i h1 h2=>by
  show(match idx ls.all 0 (ls.all.getD i 0)with
   |some i=>if ls.lv.length≤i then(⟨0,Hof i,fun _=>False⟩:Info)else g _
   |none=>g _)=_
  rw[hidxL i h2]
  simp only
  rw[if_pos h1]
 have g2N: ∀r,r∉ls.all→g2 r=g r:=fun r hr=>by
  show(match idx ls.all 0 r with
   |some i=>if ls.lv.length≤i then _ else g r
   |none=>g r)=g r
  rw[hidxN r hr]
 let upd:=vO ls st (stS.rs.map ak.strip) cells
 let stC:=ez 0 ls.ln (ez 1 ls.ld st)
 have hst2:l6 ls st (stS.rs.map ak.strip) x=stC.aH upd:=by
  unfold l6
  rw[hcells]
  rfl
 rw[hst2]
 have hupd:upd=fy ls.all.length ls.all stS.rs OC cells++jW st.get ls.lv (gL (ls.lv.flatMap (aL st.get)) (cells.drop ls.ld.length)):=by
  show fy _ _ _ _ _++_=_
  rw[hOC,vL ls.all.length ls.all _ stS.rs]
 have hidx':de ls.all.length stS.rs OC=List.range' ls.lv.length (ls.ld.length+ls.ln.length):=hidx
 have hkeysR:(fy ls.all.length ls.all stS.rs OC cells).map (·.1)=ls.ld++ls.ln:=by
  rw[qS ls.all.length ls.all stS.rs OC cells (by rw[b3,htys]) (fun i hi=>by
   rw[hidx']at hi
   simp only[List.mem_range'_1]at hi
   obtain⟨_,t,xs,e⟩:=hrow i hi.1 (by omega)
   exact⟨true,t,xs,e⟩),hidx']
  have: ∀(l m:List Nat) (k:Nat),k=m.length→(List.range' k l.length).map (fun i=>(m++l).getD i 0)=l:=by
   intro l
   induction l with
   |nil=>intro m k _;rfl
   |cons x l ih=>
    intro m k hk
    rw[List.length_cons,List.range'_succ,List.map_cons]
    congr 1
    ·subst hk;simp[List.getD_eq_getElem?_getD]
    ·have:=ih (m++ [x]) (k+1) (by simp[hk])
     rw[List.append_assoc]at this
     exact this
  have h:=this (ls.ld++ls.ln) ls.lv ls.lv.length rfl
  rw[List.length_append]at h
  exact h
 have hkeysV:=qs (get:=st.get) ls.lv (gL (ls.lv.flatMap (aL st.get)) (cells.drop ls.ld.length))
 have hkeys:upd.map (·.1)=(ls.ld++ls.ln)++ls.lv:=by rw[hupd,List.map_append,hkeysR,hkeysV]
 have hkn:(upd.map (·.1)).Nodup:=by
  rw[hkeys]
  have hn:(ls.lv++(ls.ld++ls.ln)).Nodup:=hn
  rw[List.nodup_append]at hn⊢
  exact⟨hn.2.1,hn.1,fun a ha b hb e=>hn.2.2 b hb a ha e.symm⟩
 have hmemk: ∀r,r∈upd.map (·.1)↔r∈ls.all:=fun r=>by
  rw[hkeys]
  simp only[bg.all,List.mem_append]
  exact or_comm
 have hgetS:(stC.aH upd).get=eF upd stC.get:=eX upd stC
 have getO: ∀r,r∉ls.all→(stC.aH upd).get r=vz 0 ls.ln (vz 1 ls.ld (st.get r)):=fun r hr=>by
  rw[hgetS,gY upd _ r (fun h=>hr ((hmemk r).1 h))]
  show(ez 0 ls.ln (ez 1 ls.ld st)).get r=_
  rw[nH,nH]
 have getI: ∀r y,(r,y)∈upd→(stC.aH upd).get r=y:=fun r y h=>by
  rw[hgetS];exact tk upd _ r y hkn h
 have getR: ∀i,ls.lv.length≤i→i<ls.all.length→ ∃(J:Nat) (t:Ty) (xs:List (den t)) (lj:List Nat) (v:Value),OC[J]?=some (.sl i [] none)∧cells[J]?=some ⟨.sl t,xs⟩∧ll[J]?=some lj∧valsF[J]?=some v∧
   p0 w' stF.get g' lj v (Hof i) ⟨.sl t,xs⟩∧(stC.aH upd).get (ls.all.getD i 0)= .row true t xs∧ ∃xs0,st.get (ls.all.getD i 0)= .row true t xs0:=fun i h1 h2=>by
  obtain⟨J,t,xs,lj,v,c1,c2,c3,c4,c5⟩:=hHof i h1 h2
  obtain⟨e1,t0,xs0,e2⟩:=hrow i h1 h2
  have hty:=hcty J _ _ c1 c2
  have hb:Nat.blt i ls.all.length=true:=by rw[Nat.blt_eq];exact h2
  have e2':stS.rs.getD i .dead= .row true t0 xs0:=e2
  have:Ty.sl t=Ty.sl t0:=by
   have hty:Ty.sl t=_:=hty
   rw[hty];simp only[dZ,hb,cond_true,e2']
  injection this with this
  subst this
  exact⟨J,t,xs,lj,v,c1,c2,c3,c4,c5,getI _ _ (by rw[hupd];exact List.mem_append.2 (.inl (s8 _ _ _ _ _ J i t xs c1 c2 h2))),xs0,by rw[←e1];exact e2⟩
 have getVv: ∀r∈ls.lv,∃seg,(stC.aH upd).get r= .var seg:=fun r hr=>by
  rw[←hkeysV]at hr
  obtain⟨y,hy,e⟩:=List.mem_map.1 hr
  obtain⟨seg,e2⟩:=qZ _ _ _ y hy
  refine⟨seg,getI r _ ?_⟩
  rw[hupd]
  refine List.mem_append.2 (.inr ?_)
  rw[←e,←e2];exact hy
 have stV: ∀r∈ls.lv,∃cs0 arr te,st.get r= .var cs0∧w.heap[(g r).b]?=some (.cells arr te (0,0)):=fun r hr=>by
  obtain⟨i,hi⟩:=List.mem_iff_getElem?.1 hr
  obtain⟨cs,cs0,arr,te,p1,p2,p3,p4,_⟩:=pt.var i r hi
  exact⟨cs0,arr,te,p2,p4⟩
 have memL: ∀r,r∈ls.all→r∈ls.lv∨ ∃i,ls.lv.length≤i∧i<ls.all.length∧r=ls.all.getD i 0:=fun r hr=>by
  obtain⟨i,hi⟩:=List.mem_iff_getElem?.1 hr
  have hl:=(List.getElem?_eq_some_iff.1 hi).1
  rcases Nat.lt_or_ge i ls.lv.length with h|h
  ·left
   simp only[bg.all]at hi
   rw[List.getElem?_append_left h]at hi
   exact List.mem_iff_getElem?.2 ⟨i,hi⟩
  ·right
   exact⟨i,h,hl,by simp only[List.getD_eq_getElem?_getD,hi];rfl⟩
 have memV: ∀r,r∈ls.lv→r∈ls.all:=fun r hr=>by simp only[bg.all,List.mem_append];exact .inl hr
 have g2V': ∀r∈ls.lv,g2 r=g r:=fun r hr=>by
  obtain⟨i,hi⟩:=List.mem_iff_getElem?.1 hr
  exact g2V i r hi
 have getO': ∀r,r∉ls.all→(∀cs,st.get r≠ .var cs)→(stC.aH upd).get r=st.get r:=fun r hr h=>by
  rw[getO r hr,rV 1 _ _ h,rV 0 _ _ h]
 have getOv: ∀r cs,r∉ls.all→st.get r= .var cs→(stC.aH upd).get r= .var (eT 0 ls.ln (eT 1 ls.ld cs)):=fun r cs hr h=>by
  rw[getO r hr,h,sq,sq]
 have HH: ∀r,r∉ls.all→Holds st.get (stC.aH upd).get g g2 r fun _=>True:=fun r hr=>by
  by_cases hvr: ∃cs,st.get r= .var cs
  ·obtain⟨cs,hg⟩:=hvr
   have e:=getOv r cs hr hg
   exact⟨fun t ht=>by rw[e]at ht;simp[bI]at ht,fun _=>⟨by rw[hg];rfl,by rw[g2N r hr]⟩⟩
  ·have e:=getO' r hr (fun cs h=>hvr ⟨cs,h⟩)
   exact⟨fun t ht=>⟨by rw[←e];exact ht,fun _ _=>by rw[g2N r hr]⟩,fun hv=>⟨by rw[←e];exact hv,by rw[g2N r hr]⟩⟩
 have HVs: ∀r∈ls.all,isVar ((stC.aH upd).get r)=true→isVar (st.get r)=true∧(g2 r).b=(g r).b:=fun r hr hv=>by
  rcases memL r hr with h|⟨i,h1,h2,rfl⟩
  ·obtain⟨cs0,_,_,e,_⟩:=stV r h
   exact⟨by rw[e];rfl,by rw[g2V' r h]⟩
  ·obtain⟨J,t,xs,lj,v,_,_,_,_,_,e,_⟩:=getR i h1 h2
   rw[e]at hv;cases hv
 have inD: ∀r∈ls.ld,∃i,ls.lv.length≤i∧i<ls.lv.length+ls.ld.length∧r=ls.all.getD i 0:=fun r hr=>by
  obtain⟨i,hi⟩:=List.mem_iff_getElem?.1 hr
  have hl:=(List.getElem?_eq_some_iff.1 hi).1
  refine⟨ls.lv.length+i,by omega,by omega,?_⟩
  simp only[List.getD_eq_getElem?_getD,bg.all]
  rw[List.getElem?_append_right (by omega),Nat.add_sub_cancel_left,List.getElem?_append_left hl,hi];rfl
 have inN: ∀r∈ls.ln,∃i,ls.lv.length≤i∧i<ls.all.length∧r=ls.all.getD i 0:=fun r hr=>by
  rcases memL r (by simp only[bg.all,List.mem_append];exact .inr (.inr hr))with h|h
  ·exfalso
   have hn:(ls.lv++(ls.ld++ls.ln)).Nodup:=hn
   exact(List.nodup_append.1 hn).2.2 r h r (List.mem_append.2 (.inr hr)) rfl
  ·exact h
 have hAn:Ew st.get (stC.aH upd).get g g2 ls.ld ls.ln:=by
  refine⟨fun r hr=> ?_,fun r hr=> ?_,fun r h1 h2=> ?_⟩
  ·obtain⟨i,h1,h2,rfl⟩:=inD r hr
   obtain⟨J,t,xs,lj,v,c1,c2,c3,c4,c5,e,xs0,e0⟩:=getR i h1 (by omega)
   refine⟨by rw[e];rfl,fun t' ht=>⟨by rw[e]at ht;rw[e0];exact ht,?_⟩⟩
   rw[g2R i h1 (by omega)]
   show Hof i []=_
   have hJ:OC[i-ls.lv.length]?=some (.sl i [] none):=by
    show(ca ls.lv.length ls.ld.length stS.rs)[i-ls.lv.length]?=_
    unfold ca
    rw[List.getElem?_append_left (by simp;omega)]
    have:i-ls.lv.length<ls.ld.length:=by omega
    have e:ls.lv.length+(i-ls.lv.length)=i:=by omega
    simp[this,e]
   have hJJ:=hJinj i J _ h1 (by omega) c1 hJ
   subst hJJ
   have hv:valsF[i-ls.lv.length]?=some ((gS i).H []):=by
    show(Dv++_)[i-ls.lv.length]?=_
    rw[List.getElem?_append_left (by simp[Dv];omega)]
    have:i-ls.lv.length<ls.ld.length:=by omega
    have e:ls.lv.length+(i-ls.lv.length)=i:=by omega
    simp[Dv,this,e]
   rw[hv]at c4
   injection c4 with c4
   rw[c5.1,←c4,pt.gs i (by omega)]
  ·obtain⟨i,h1,h2,rfl⟩:=inN r hr
   obtain⟨J,t,xs,lj,v,c1,c2,c3,c4,c5,e,xs0,e0⟩:=getR i h1 h2
   exact⟨by rw[e];rfl,fun t' ht=>by rw[e]at ht;rw[e0];exact ht⟩
  ·by_cases hr:r∈ls.all
   ·have hv:r∈ls.lv:=by
     simp only[bg.all,List.mem_append]at hr
     rcases hr with h|h|h
     ·exact h
     ·exact absurd h h1
     ·exact absurd h h2
    obtain⟨seg,e⟩:=getVv r hv
    exact⟨fun t ht=>by rw[e]at ht;simp[bI]at ht,fun hh=>HVs r hr hh⟩
   ·exact HH r hr
 have hOCr: ∀j,OC[ls.ld.length+j]?=(((stS.rs.take ls.lv.length).flatMap du)[j]?).map (nF (ls.lv.length+ls.ld.length)):=fun j=>by
  show(ca ls.lv.length ls.ld.length stS.rs)[_]?=_
  unfold ca
  rw[List.getElem?_append_right (by simp),List.getElem?_map]
  simp
 have hvFr: ∀j,valsF[ls.ld.length+j]?=(arrs.flatMap (·.toList))[j]?:=fun j=>by
  show(Dv++_)[_]?=_
  rw[List.getElem?_append_right (by simp[Dv])]
  simp[Dv]
 have hcellsV:ai (stC.aH upd).get g2 (gL (ls.lv.flatMap (aL st.get)) (cells.drop ls.ld.length)) (arrs.flatMap (·.toList)):=by
  have hl1:(ls.lv.flatMap (aL st.get)).length=((stS.rs.take ls.lv.length).flatMap du).length:=hsubl.1.symm
  refine q8 _ _ _ (by rw[List.length_drop,hcl,hOCl,hl1];omega) (by rw[cW a2,hfinl,hl1]) fun j o b v ho hb hv=> ?_
  rw[List.getElem?_drop]at hb
  have hj:j<((stS.rs.take ls.lv.length).flatMap du).length:=by rw[←hl1];exact(List.getElem?_eq_some_iff.1 ho).1
  generalize hc0:((stS.rs.take ls.lv.length).flatMap du)[j]=c0
  have hc:((stS.rs.take ls.lv.length).flatMap du)[j]?=some c0:=by rw[List.getElem?_eq_getElem hj,hc0]
  have hOCh:OC[ls.ld.length+j]?=some (nF (ls.lv.length+ls.ld.length) c0):=by rw[hOCr,hc];rfl
  have hvj:valsF[ls.ld.length+j]?=some v:=by rw[hvFr,hv]
  have hsc:=hsubl.2 j o c0 ho hc
  rcases AZ (ls.lv.length+ls.ld.length) c0 with⟨i,rfl,hilt,hide⟩|hide
  ·
   rw[hide]at hOCh
   have hty:=hcty _ _ b hOCh hb
   have hty:b.1= .unit:=hty
   have hall':i<ls.all.length:=by omega
   have ho':=ze hsc hall'
   subst ho'
   have hfj: ∃f,((stF.top.drop ls.lv.length).take ls.ld.length++fin)[ls.ld.length+j]?=some f:=by
    have:ls.ld.length+j<((stF.top.drop ls.lv.length).take ls.ld.length++fin).length:=by rw[hFl,hOCl];omega
    exact⟨_,List.getElem?_eq_getElem this⟩
   obtain⟨f,hf⟩:=hfj
   have hst:=oF _ _ _ (ls.ld.length+j) (.sl i [] (some (0,0))) f k8 (by rw[htys,List.getElem?_map,hOCh];rfl) (by rw[hOC,List.getElem?_map,hOCh];rfl) hf
   rcases hst with e|⟨i',s',e,hk⟩|⟨hne,_⟩
   ·cases e
   ·injection e with e
    subst e
    have e3:=nu hF hf hvj
    obtain⟨ev,a,n,c,hsl⟩:=Et hh hk e3
    have hge:ls.lv.length≤i:=by
     by_cases h:ls.lv.length≤i
     ·exact h
     ·rw[hvV i (by omega)]at hsl;cases hsl
    have hav:BX (.sl (ls.all.getD i 0) [] none) b= .sl (ls.all.getD i 0) [] none:=by
     obtain⟨tb,db⟩:=b
     simp only at hty
     subst hty
     rfl
    have hin:ls.all.getD i 0∈ls.ld:=by
     have:ls.all.getD i 0=ls.ld[i-ls.lv.length]'(by omega):=by
      simp only[List.getD_eq_getElem?_getD,bg.all]
      rw[List.getElem?_append_right hge,List.getElem?_append_left (by omega),List.getElem?_eq_getElem (by omega)];rfl
     rw[this];exact List.getElem_mem _
    rw[hav,ae]
    refine⟨⟨a,n,c,by rw[ev];exact hsl⟩,fun t0 e0 ht0 _=> ?_⟩
    have:=((hAn.d _ hin).2 t0 ht0).2
    rw[this,ev,hvD i hge hilt,pt.gs i hall']
    rfl
   ·exact absurd rfl (hne i (0,0))
  have hOCj:OC[ls.ld.length+j]?=some c0:=by rw[hOCh,hide]
  have hty:=hcty _ c0 b hOCj hb
  obtain⟨b',lj,H,q1,q2,q3⟩:=b5 _ v hvj
  rw[hb]at q1
  injection q1 with q1
  subst q1
  obtain⟨tb,db⟩:=b
  simp only at hty
  cases tb with
  |int k=>have q3:v= .int k db:=q3;subst q3;show ae _ _ (.int k db) _;rw[ae]
  |bool=>have q3:v= .bool db:=q3;subst q3;show ae _ _ (.bool db) _;rw[ae]
  |str=>have q3:v= .string db:=q3;subst q3;show ae _ _ (.str db) _;rw[ae]
  |pair a b=>exact q3.elim
  |sl t=>
   obtain⟨i,rfl,hi⟩:=BO hty.symm
   have ho':=ze hsc hi
   subst ho'
   have him:i∈de ls.all.length stS.rs OC:=(j5 _ _ _ _).2 ⟨hi,_,hOCj⟩
   rw[hidx']at him
   simp only[List.mem_range'_1]at him
   show ae _ _ (.sl (ls.all.getD i 0) [] none) v
   obtain⟨J,t',xs,lj',v',c1,c2,c3,c4,c5,e,_⟩:=getR i him.1 hi
   have hJJ:=hJinj i _ _ him.1 hi c1 hOCj
   subst hJJ
   rw[hvj]at c4
   injection c4 with c4
   subst c4
   rw[ae]
   refine⟨?_,fun t0 e0 _ _=> ?_⟩
   ·obtain⟨a,n,c,hs⟩:=yA q3.2.1
    exact⟨a,n,c,by rw[←q3.1];exact hs⟩
   ·rw[g2R i him.1 hi]
    exact c5.1.symm
  |unit=>
   show ae _ _ o v
   have hfj: ∃f,((stF.top.drop ls.lv.length).take ls.ld.length++fin)[ls.ld.length+j]?=some f:=by
    have:ls.ld.length+j<((stF.top.drop ls.lv.length).take ls.ld.length++fin).length:=by rw[hFl,hOCl];omega
    exact⟨_,List.getElem?_eq_getElem this⟩
   obtain⟨f,hf⟩:=hfj
   have hst:=oF _ _ _ (ls.ld.length+j) c0 f k8 (by rw[htys,List.getElem?_map,hOCj,Option.map_some,hty]) (by rw[hOC,List.getElem?_map,hOCj,Option.map_some,BL hty.symm]) hf
   rcases hst with e|⟨i',s',e,_⟩|⟨_,hst⟩
   ·subst e
    rw[CZ hsc];simp[ae]
   ·subst e;exact(DU hsc).elim
   ·have hv0: ∃v0,vals0[j]?=some v0:=by
     obtain⟨v0,h1,_⟩:=bK f1 ho
     exact⟨v0,h1⟩
    obtain⟨v0,hv0⟩:=hv0
    have e1:=nu f1 ho hv0
    have e2:=nu f2 hc hv0
    have e3:=nu hF hf hvj
    have e4:=y5 HVS hh c0 f v0 v hst e2 e3
    subst e4
    obtain⟨b0,ok',rs',hs',hok',_⟩:=hsc
    exact Cs (fun r hr=>by rw[jN,if_pos hr]) HH HVs o b0 ok' c0 rs' f v hs' hok' hst e1
 have hsegs:=s9 (get:=st.get) ls.lv _ arrs a1 hcellsV (fun i r arr hi ha=>by
  obtain⟨arr',te,x',y',cs,s1,s2,s3,s4,s5,s6,s7⟩:=a3 i r hi
  rw[ha]at s1
  injection s1 with s1
  subst s1
  obtain⟨cs1,cs0,arr0,te0,p1,p2,p3,_⟩:=pt.var i r hi
  obtain⟨h1,_⟩:=hvar i r hi
  rw[List.getElem?_take,if_pos h1,List.getElem?_map,p1]at s2
  simp only[Option.map_some,Option.some.injEq]at s2
  rw[s7,←s2,nN]
  unfold aL
  rw[p2]
  simp[du,p3])
 have hkeep: ∀b,b<w.heap.size→ ¬ky st.get g ls.all b→w'.heap[b]?=w.heap[b]?:=fun b h1 h2=>by
  rw[KB.block b ⟨by show b<(blank _ _).heap.size;rw[fc];exact h1,h2⟩]
  exact cZ h2
 have notL: ∀r b,r∉ls.all→Own st.get g r b→ ¬ky st.get g ls.all b:=fun r b hr h ⟨r',hr',h'⟩=>R.sep r r' b (fun e=>hr (e▸hr')) h h'
 have hsame: ∀r b,r∉ls.all→Own st.get g r b→w'.heap[b]?=w.heap[b]?:=fun r b hr h=>hkeep b (eO R h) (notL r b hr h)
 have ownO: ∀r b,r∉ls.all→(Own (stC.aH upd).get g2 r b↔Own st.get g r b):=fun r b hr=>by
  cases hg:st.get r with
  |var cs=>unfold Own;rw[getOv r cs hr hg,hg];simp only[g2N r hr]
  |dead=>unfold Own;rw[getO' r hr (fun cs h=>by rw[hg]at h;cases h),hg]
  |row rw_ t xs=>unfold Own;rw[getO' r hr (fun cs h=>by rw[hg]at h;cases h),hg];cases rw_<;>simp only[g2N r hr]
  |half t xs=>unfold Own;rw[getO' r hr (fun cs h=>by rw[hg]at h;cases h),hg];simp only[g2N r hr]
  |sh t xs=>unfold Own;rw[getO' r hr (fun cs h=>by rw[hg]at h;cases h),hg];simp only[g2N r hr]
  |pend r' p t xs=>
   have hr':r'∉ls.all:=fun h=>hq r' h r r' p t xs hg rfl
   unfold Own;rw[getO' r hr (fun cs h=>by rw[hg]at h;cases h),hg];simp only[g2N r hr,mh,g2N r' hr']
 have ownV: ∀r b,r∈ls.lv→Own (stC.aH upd).get g2 r b→b=(g r).b∧Own st.get g r b∧ ∃x cs,stF.get x= .var cs∧Own stF.get g' x b:=fun r b hr h=>by
  obtain⟨seg,e⟩:=getVv r hr
  obtain⟨cs0,_,_,e0,_⟩:=stV r hr
  obtain⟨i,hi⟩:=List.mem_iff_getElem?.1 hr
  obtain⟨arr',te,x',y',cs,s1,s2,s3,s4,s5,s6,s7⟩:=a3 i r hi
  have hb:b=(g r).b:=by
   unfold Own at h
   rw[e]at h
   rw[h,g2V' r hr]
  refine⟨hb,?_,x',cs,s5,?_⟩
  ·unfold Own;rw[e0];exact hb
  ·unfold Own;rw[s5];rw[hb,s6]
 have ownR: ∀i b,ls.lv.length≤i→i<ls.all.length→Own (stC.aH upd).get g2 (ls.all.getD i 0) b→ ∃(J:Nat) (lj:List Nat),OC[J]?=some (AV.sl i [] none)∧ll[J]?=some lj∧ ∃r'∈lj,Own stF.get g' r' b:=fun i b h1 h2 h=>by
  obtain⟨J,t,xs,lj,v,c1,c2,c3,c4,c5,e,_⟩:=getR i h1 h2
  unfold Own at h
  rw[e]at h
  simp only[g2R i h1 h2]at h
  exact⟨J,lj,c1,c3,c5.2.2.1 b h⟩
 have inl': ∀J lj,ll[J]?=some lj→ ∀r∈lj,r∈l':=fun J lj h r hr=>by
  rw[b1]
  exact List.mem_flatten.2 ⟨lj,List.mem_iff_getElem?.2 ⟨J,h⟩,hr⟩
 have lowF: ∀r b,Own stF.get g' r b→w.heap.size≤b∨ky st.get g ls.all b:=fun r b h=>by
  have: ¬(kX w (ky st.get g ls.all)).dh b:=fun hk=>R'.low r b h (hle.dh b hk)
  by_cases hL:ky st.get g ls.all b
  ·exact .inr hL
  ·left
   exact Nat.le_of_not_lt fun hlt=>this ⟨by show b<(blank _ _).heap.size;rw[fc];exact hlt,hL⟩
 have lowF': ∀r b,Own stF.get g' r b→ ¬w0.dh b:=fun r b h=>(lowF r b h).elim R.fresh (ky.low R)
 have disO: ∀r r' b,r∉ls.all→Own st.get g r b→Own stF.get g' r' b→False:=fun r r' b hr h h'=>by
  rcases lowF r' b h' with h2|h2
  ·have:=eO R h;omega
  ·exact notL r b hr h h2
 have hflat:=List.pairwise_flatten.1 (show List.Pairwise (fun a b=>a≠b) ll.flatten by rw[←b1];exact hnodup')
 have hljn: ∀(J:Nat) lj,ll[J]?=some lj→lj.Nodup:=fun J lj h=>hflat.1 lj (List.mem_iff_getElem?.2 ⟨J,h⟩)
 have hljd: ∀(J J':Nat) lj lj' r,J≠J'→ll[J]?=some lj→ll[J']?=some lj'→r∈lj→r∈lj'→False:=fun J J' lj lj' r hne h h' hr hr'=>by
  obtain⟨q1,q2⟩:=List.getElem?_eq_some_iff.1 h
  obtain⟨q3,q4⟩:=List.getElem?_eq_some_iff.1 h'
  have hp:=List.pairwise_iff_getElem.1 hflat.2
  rcases Nat.lt_or_gt_of_ne hne with hlt|hgt
  ·exact hp J J' q1 q3 hlt r (by rw[q2];exact hr) r (by rw[q4];exact hr') rfl
  ·exact hp J' J q3 q1 hgt r (by rw[q4];exact hr') r (by rw[q2];exact hr) rfl
 have hfrC:(stC.aH upd).fr=st.fr.map fun f=>eT 0 ls.ln (eT 1 ls.ld f):=by
  show(ez 0 ls.ln (ez 1 ls.ld st)).fr=_
  rw[qd,qd,List.map_map];rfl
 have hothK: ∀(k:Nat) (o:Obj),w.heap[k]?=some o→o.isCells=false→w'.heap[k]?=some o:=fun k o h1 h2=>
  KB.oth k o ((cZ fun⟨r,_,h⟩=>by rw[ib R h o h1]at h2;cases h2).trans h1) h2
 have KW:bL w0 w0.v w':=⟨KB.os.trans R.below.os,KB.tape.trans R.below.tape,KB.output.trans R.below.output,by have:=KB.size;rw[show(kX w (ky st.get g ls.all)).v.heap.size=w.heap.size from fc _ _]at this;exact Nat.le_trans R.below.size this,fun k hk=>(hkeep k (by have:=hk.1;have:=R.below.size;omega) fun h=>ky.low R h hk).trans (R.below.block k hk),fun k o h1 h2=>hothK k o (R.below.oth k o h1 h2) h2⟩
 refine⟨g2,⟨KW,fun r=> ?_,fun r r' b hne h1 h2=> ?_,fun r b h=> ?_,?_,fun fr hfr r hr=> ?_,fun r z hz=> ?_,fun r hr=> ?_,R.marks.step hothK⟩,fun r hr=> ?_,?_⟩
 ·
  by_cases hr:r∈ls.all
  ·rcases memL r hr with hr'|⟨i,h1,h2,rfl⟩
   ·obtain⟨i,hi⟩:=List.mem_iff_getElem?.1 hr'
    obtain⟨arr',te,x',y',cs,s1,s2,s3,s4,s5,s6,s7⟩:=a3 i r hi
    obtain⟨seg,p1,p2,p3⟩:=hsegs i r arr' hi s1
    have e:=getI r _ (by rw[hupd];exact List.mem_append.2 (.inr p1))
    unfold aF
    rw[e]
    exact⟨arr',te,by rw[g2V' r hr'];exact s3,s4,p2⟩
   ·obtain⟨J,t,xs,lj,v,c1,c2,c3,c4,c5,e,_⟩:=getR i h1 h2
    unfold aF
    rw[e]
    simp only[g2R i h1 h2]
    exact⟨c5.2.1,c5.2.2.2 (hljn J lj c3)⟩
  ·have h:=R.roots r
   unfold aF at h⊢
   cases hg:st.get r with
   |dead=>rw[getO' r hr (fun cs h=>by rw[hg]at h;cases h),hg];trivial
   |var cs=>
    rw[hg]at h
    obtain⟨arr,te,h1,h2,h3⟩:=h
    rw[getOv r cs hr hg]
    exact⟨arr,te,by rw[g2N r hr,hsame r _ hr (by unfold Own;rw[hg])];exact h1,h2,xr hAn _ _ h3⟩
   |row rw_ t xs=>
    rw[hg]at h
    rw[getO' r hr (fun cs h=>by rw[hg]at h;cases h),hg]
    cases rw_ with
    |true=>
     simp only[g2N r hr]
     exact⟨dQ (fun b hb=>hsame r b hr (by unfold Own;rw[hg];exact hb)) h.1,h.2⟩
    |false=>simp only at h⊢;rw[g2N r hr];exact h
   |half t xs=>
    rw[hg]at h
    obtain⟨a,n,c,h1,h2,h3,hz,h4,h5⟩:=h
    rw[getO' r hr (fun cs h=>by rw[hg]at h;cases h),hg]
    simp only[g2N r hr]
    exact⟨a,n,c,h1,h2,h3,hz,dQ (fun b hb=>hsame r b hr (by unfold Own;rw[hg];exact(jl h1).1 hb)) h4,h5⟩
   |sh t xs=>
    rw[hg]at h
    rw[getO' r hr (fun cs h=>by rw[hg]at h;cases h),hg]
    simp only[g2N r hr]
    exact h.frame (fun b hb=>hsame r b hr (by unfold Own;rw[hg];exact hb)) R.below KW
   |pend r' p t xs=>
    rw[hg]at h
    obtain⟨h1,h2,t',xs',h3,h4,h5⟩:=h
    have hr':r'∉ls.all:=fun h=>hq r' h r r' p t xs hg rfl
    rw[getO' r hr (fun cs h=>by rw[hg]at h;cases h),hg]
    refine⟨?_,h2,t',xs',by rw[getO' r' hr' (fun cs h=>by rw[h3]at h;cases h)];exact h3,h4,?_⟩
    ·rw[g2N r hr]
     refine dQ (fun b hb=> ?_) h1
     by_cases hh:mh g r' p b
     ·exact hsame r' b hr' (by unfold Own;rw[h3];exact h5 b hh)
     ·exact hsame r b hr (by unfold Own;rw[hg];exact⟨hb,hh⟩)
    ·intro b hb
     unfold mh at hb
     rw[g2N r' hr']at hb⊢
     exact h5 b hb
 ·
  have key: ∀r r' b,r≠r'→Own (stC.aH upd).get g2 r b→Own (stC.aH upd).get g2 r' b→r∈ls.all→False:=by
   intro r r' b hne h1 h2 hr
   rcases memL r hr with hv|⟨i,i1,i2,rfl⟩
   ·obtain⟨_,q2,x',cs,q3,q4⟩:=ownV r b hv h1
    by_cases hr':r'∈ls.all
    ·rcases memL r' hr' with hv'|⟨i,i1,i2,rfl⟩
     ·exact R.sep r r' b hne q2 (ownV r' b hv' h2).2.1
     ·obtain⟨J,lj,c1,c2,r3,c3,c4⟩:=ownR i b i1 i2 h2
      obtain⟨t,xs,e⟩:=b4 r3 (inl' J lj c2 r3 c3)
      exact R'.sep x' r3 b (fun e'=>by subst e';rw[q3]at e;cases e) q4 c4
    ·exact R.sep r r' b hne q2 ((ownO r' b hr').1 h2)
   ·obtain⟨J,lj,c1,c2,r3,c3,c4⟩:=ownR i b i1 i2 h1
    by_cases hr':r'∈ls.all
    ·rcases memL r' hr' with hv'|⟨i',i1',i2',rfl⟩
     ·obtain⟨_,q2,x',cs,q3,q4⟩:=ownV r' b hv' h2
      obtain⟨t,xs,e⟩:=b4 r3 (inl' J lj c2 r3 c3)
      exact R'.sep x' r3 b (fun e'=>by subst e';rw[q3]at e;cases e) q4 c4
     ·obtain⟨J',lj',c1',c2',r3',c3',c4'⟩:=ownR i' b i1' i2' h2
      by_cases e:r3=r3'
      ·subst e
       by_cases eJ:J=J'
       ·subst eJ
        rw[c1]at c1'
        simp only[Option.some.injEq,AV.sl.injEq,and_true]at c1'
        subst c1'
        exact hne rfl
       ·exact hljd J J' lj lj' r3 eJ c2 c2' c3 c3'
      ·exact R'.sep r3 r3' b e c4 c4'
    ·exact disO r' r3 b hr' ((ownO r' b hr').1 h2) c4
  by_cases hr:r∈ls.all
  ·exact key r r' b hne h1 h2 hr
  ·by_cases hr':r'∈ls.all
   ·exact key r' r b (fun e=>hne e.symm) h2 h1 hr'
   ·exact R.sep r r' b hne ((ownO r b hr).1 h1) ((ownO r' b hr').1 h2)
 ·
  by_cases hr:r∈ls.all
  ·rcases memL r hr with hv|⟨i,i1,i2,rfl⟩
   ·exact R.low r b (ownV r b hv h).2.1
   ·obtain⟨J,lj,c1,c2,r3,c3,c4⟩:=ownR i b i1 i2 h
    exact lowF' r3 b c4
  ·exact R.low r b ((ownO r b hr).1 h)
 ·rw[hfrC];exact sU hAn R.frames
 ·rw[hfrC]at hfr
  obtain⟨f0,hf0,rfl⟩:=List.mem_map.1 hfr
  exact R.bornF f0 hf0 r (kv 1 _ _ r (kv 0 _ _ r hr))
 ·by_cases hr:r∈ls.all
  ·rcases memL r hr with hv|⟨i,i1,i2,rfl⟩
   ·obtain⟨i,hi⟩:=List.mem_iff_getElem?.1 hv
    obtain⟨arr',te,x',y',cs,s1,s2,s3,s4,s5,s6,s7⟩:=a3 i r hi
    obtain⟨seg,p1,p2,p3⟩:=hsegs i r arr' hi s1
    have e:=getI r _ (by rw[hupd];exact List.mem_append.2 (.inr p1))
    rw[e]at hz
    have hz:=oB _ _ z (p3 z hz)
    have: ∀(V:List Nat),z∈AV.ah (V.flatMap (aL st.get))→ ∃r,z∈(st.get r).roots:=by
     intro V
     induction V with
     |nil=>intro h;simp[AV.ah]at h
     |cons a V ih=>
      intro h
      simp only[List.flatMap_cons]at h
      rcases eW h with h|h
      ·refine⟨a,?_⟩
       unfold aL at h
       cases hg:st.get a<;>rw[hg]at h<;>first|exact h|simp[AV.ah]at h
      ·exact ih h
    obtain⟨r1,h1⟩:=this _ hz
    exact R.bornR r1 z h1
   ·obtain⟨J,t,xs,lj,v,c1,c2,c3,c4,c5,e,_⟩:=getR i i1 i2
    rw[e]at hz;simp[ak.roots]at hz
  ·by_cases hvr: ∃cs,st.get r= .var cs
   ·obtain⟨cs,hg⟩:=hvr
    rw[getOv r cs hr hg]at hz
    exact R.bornR r z (by rw[hg];exact kv 1 _ _ z (kv 0 _ _ z hz))
   ·rw[getO' r hr (fun cs h=>hvr ⟨cs,h⟩)]at hz
    exact R.bornR r z hz
 ·refine R.alive r fun e=> ?_
  by_cases h:r∈ls.all
  ·rcases memL r h with hv|⟨i,i1,i2,rfl⟩
   ·obtain⟨cs0,_,_,e0,_⟩:=stV r hv
    rw[e0]at e;cases e
   ·obtain⟨J,t,xs,lj,v,c1,c2,c3,c4,c5,_,xs0,e0⟩:=getR i i1 i2
    rw[e0]at e;cases e
  ·exact hr (by rw[getO' r h (fun cs h=>by rw[e]at h;cases h)];exact e)
 ·have h1:=(ph upd stC)
  have h2:stC.rs.length=st.rs.length:=by
   show(ez 0 ls.ln (ez 1 ls.ld st)).rs.length=_
   rw[nS,nS]
  have:=hlt r hr
  omega
 ·
  obtain⟨f1',f2',f3'⟩:=iU (bE P f) vs' us' k4 hA
  obtain⟨q1,_,q3,q4,_⟩:=kM R'.roots R'.sep f2' (resTy P f) 0 ok1 ok2 y l rest rest2 hrd hgv k1 k2
  refine⟨f1',_,q1,q4 (List.nodup_append.1 k6).1,fun b hb=> ?_⟩
  obtain⟨r3,hr3,ho⟩:=q3 b hb
  have hr3row:=wv _ _ _ _ _ hgv k2 r3 hr3
  refine⟨lowF' r3 b ho,fun r h=> ?_⟩
  by_cases hr:r∈ls.all
  ·rcases memL r hr with hv|⟨i,i1,i2,rfl⟩
   ·obtain⟨_,q2,x',cs,q3',q4'⟩:=ownV r b hv h
    obtain⟨t,xs,e⟩:=hr3row
    exact R'.sep x' r3 b (fun e'=>by subst e';rw[q3']at e;cases e) q4' ho
   ·obtain⟨J,lj,c1,c2,r4,c3,c4⟩:=ownR i b i1 i2 h
    exact R'.sep r3 r4 b ((List.nodup_append.1 k6).2.2 r3 hr3 r4 (inl' J lj c2 r4 c3)) ho c4
  ·exact disO r r3 b hr ((ownO r b hr).1 h) ho
theorem Hr{env:Env P}(hE:gV P env){m3 m7:Bool}{f:Nat}{vs vs':List AV}(h:ioK (R:=List AV×St) env m3 m7 f vs st (fun vs st=>some (vs,st))=some (vs',st')):xD P f vs st vs' st':=by
 unfold ioK at h
 simp only[cY]at h
 generalize hlv:wx st.get vs=lv at h
 generalize hld:vP m3 st.get vs++E2 m7 st (pz m3 st.get lv)=ld at h
 generalize hln:Fy m7 st (pz m3 st.get lv)=ln at h
 generalize hs:jA ⟨lv,ld,ln⟩ st vs=s at h
 obtain⟨ok,stS⟩:=s
 simp only[St.force_eq,fp]at h
 obtain⟨hok,h⟩:=iF h
 obtain⟨k1,hok⟩:=af.1 hok
 obtain⟨k2,hok⟩:=af.1 hok
 obtain⟨k3,hok⟩:=af.1 hok
 have k1:(bg.all ⟨lv,ld,ln⟩).Nodup:=of_decide_eq_true k1
 have k2:a8 st.rs (dL (bg.all ⟨lv,ld,ln⟩))=true:=k2
 have k3:de (bg.all ⟨lv,ld,ln⟩).length stS.rs (ca lv.length ld.length stS.rs)=List.range' lv.length (ld.length+ln.length):=of_decide_eq_true k3
 have h:Option.bind (j7 env f lv.length ld.length (bg.all ⟨lv,ld,ln⟩).length (stS.rs.map ak.strip) stS) _=_:=h
 cases hr:j7 env f lv.length ld.length (bg.all ⟨lv,ld,ln⟩).length (stS.rs.map ak.strip) stS with
 |none=>rw[hr]at h;cases h
 |some yx=>
 obtain⟨y,x⟩:=yx
 rw[hr]at h
 simp only[Option.bind_some]at h
 generalize hla:eN P true (bE P f) y (l6 ⟨lv,ld,ln⟩ st (stS.rs.map ak.strip) x).rs.length=la at h
 obtain⟨vsR,rsR⟩:=la
 simp only[Option.some.injEq,Prod.mk.injEq]at h
 obtain⟨rfl,rfl⟩:=h
 unfold j7 at hr
 rw[hE.det.1]at hr
 cases hin:env.inl (R:=List AV×St) f stS.top ⟨stS.fr.tail,stS.rs⟩ (fun vs st=>some (vs,st))with
 |none=>rw[hin]at hr;cases hr
 |some p=>
 obtain⟨vsF,stF⟩:=p
 rw[hin]at hr
 simp only[Option.bind_some]at hr
 obtain⟨hfn,hval⟩:=hE.inl f stS.top _ vsF stF hin
 refine⟨hfn,fun w0 g born acts w us R hlt hA hb=> ?_⟩
 have hq:=dI (st:=st) (l:=bg.all ⟨lv,ld,ln⟩) k2 fun r hr=>List.mem_map.2 ⟨r,hr,rfl⟩
 have hD: ∀r∈ld++ln,∃t xs,st.get r= .row true t xs:=fun r hr=>by
  have hN: ∀r∈pz m3 st.get lv,∃t xs,st.get r= .row true t xs:=fun r hr=>by
   obtain⟨v,_,hv⟩:=List.mem_flatMap.1 hr
   exact oS hv
  rcases List.mem_append.1 hr with hr|hr
  ·rw[←hld]at hr
   rcases List.mem_append.1 hr with hr|hr
   ·obtain⟨v,_,hv⟩:=List.mem_flatMap.1 hr
    exact oS hv
   ·unfold E2 at hr
    cases m7 with
    |true=>exact hN r (List.mem_filter.1 hr).1
    |false=>cases hr
  ·rw[←hln]at hr
   unfold Fy at hr
   cases m7 with
   |true=>exact hN r (List.mem_filter.1 hr).1
   |false=>exact hN r hr
 obtain⟨gS,actH,Rp,Ap,Bp,pt⟩:=ug (m3:=m3) R hq k1 hD hA hs hok
 refine Calls.mono (hval _ gS _ [actH] w us Rp (fun r hr=>hr) Ap Bp) fun e w' he=> ?_
 obtain⟨us',g',born',rfl,⟨wB,hle,R'⟩,_,A',_⟩:=he
 obtain⟨g2,R2,hlt2,hF,G,hrep,hsep,hblk⟩:=zp R hq k1 hlt k3 pt hle R' A' hr
 obtain⟨g3,b3,R3,L3,A3,B3,_⟩:=iQ (P:=P) (acts:=acts) true (bE P f) y us' (bh us') _ g2 born _ 0 G vsR rsR R2 hF (fun k _=>by rw[Nat.zero_add]) hrep (fun _=>hsep) (fun _ b hb=>hblk b hb) hla
  (fun i h1 _ hb=>by have:=hlt2 i hb;omega)
 refine⟨us',g3,b3,rfl,.of R3,fun r hr=> ?_,A3,fun r hr=>(L3.born_iff r).2 (.inr (B3 r hr))⟩
 have hlen:=ph (aj (l6 ⟨lv,ld,ln⟩ st (stS.rs.map ak.strip) x).rs.length rsR) (l6 ⟨lv,ld,ln⟩ st (stS.rs.map ak.strip) x)
 rcases(L3.born_iff r).1 hr with h|h
 ·have:=hlt2 r h
  exact Nat.lt_of_lt_of_le this hlen
 ·have key: ∀(l:List (Nat×ak)) (st:St) (r:Nat),r∈l.map (·.1)→r<(st.aH l).rs.length:=by
   intro l
   induction l with
   |nil=>intro st r h;simp at h
   |cons a l ih=>
    intro st r h
    obtain⟨i,z⟩:=a
    rw[jJ]
    simp only[List.map_cons,List.mem_cons]at h
    rcases h with rfl|h
    ·refine Nat.lt_of_lt_of_le ?_ (ph l _)
     show r<(setAt st.rs r z).length
     unfold setAt
     cases hb:Nat.blt r st.rs.length with
     |true=>rw[Nat.blt_eq]at hb;simpa using hb
     |false=>simp;omega
    ·exact ih _ r h
  exact key _ _ r ((br _ _ _).2 h)
theorem EO{ls:bg}{stF:St}{actH:Act}{f n:Nat}{rs0:List ak}{vs':List AV}{us':List Value}{y:den (resTy P f)}{x:den (rN 0 0 n rs0)}{bornF:Nat→Prop}
  (R:Rel w0 st g born acts w) (hq: ∀r∈ls.all,∀j r' p t xs,st.get j= .pend r' p t xs→r'≠r)
  {wB:bu} (hle:(kX w (ky st.get g ls.all)).le wB) (R':Rel wB stF g' bornF [actH] w') (hA:ai stF.get g' vs' us') (hend:um P f 0 0 n rs0 vs' stF=some (y,x)):
  Rel w0 (st.aH (cH ls.all)) g born acts w'∧yu P (bE P f) us'∧
   ∃G,Rep w' true (dw P (bE P f)) y G 0 (fun k=>(bh us')[k]?)∧Sep (dw P (bE P f)) y G 0∧ ∀b,Blk (dw P (bE P f)) y G 0 b→ ¬w0.dh b∧ ∀r,¬Own (st.aH (cH ls.all)).get g r b:=by
 have KB:=hle.run R'.below
 have hkeep: ∀b,b<w.heap.size→ ¬ky st.get g ls.all b→w'.heap[b]?=w.heap[b]?:=fun b h1 h2=>by
  rw[KB.block b ⟨by show b<(blank _ _).heap.size;rw[fc];exact h1,h2⟩]
  exact cZ h2
 have hothK: ∀(k:Nat) (o:Obj),w.heap[k]?=some o→o.isCells=false→w'.heap[k]?=some o:=fun k o h1 h2=>
  KB.oth k o ((cZ fun⟨r,_,h⟩=>by rw[ib R h o h1]at h2;cases h2).trans h1) h2
 have lowF: ∀r b,Own stF.get g' r b→w.heap.size≤b∨ky st.get g ls.all b:=fun r b h=>by
  have: ¬(kX w (ky st.get g ls.all)).dh b:=fun hk=>R'.low r b h (hle.dh b hk)
  by_cases hL:ky st.get g ls.all b
  ·exact .inr hL
  ·left
   exact Nat.le_of_not_lt fun hlt=>this ⟨by show b<(blank _ _).heap.size;rw[fc];exact hlt,hL⟩
 unfold um at hend
 generalize hvo:varsOf stF.get (stF.top.take 0) (rs0.take 0)=vo at hend
 obtain⟨ok0,fin⟩:=vo
 simp only at hend
 generalize hrd:bp stF.get (resTy P f) (vs'.flatMap AV.cells)=rd at hend
 obtain⟨ok1,y1,rest⟩:=rd
 simp only at hend
 generalize hgv:gives stF.get (resTy P f) (vs'.flatMap AV.cells)=gv at hend
 obtain⟨ok2,l,rest2⟩:=gv
 simp only at hend
 generalize hbl:ta stF.get (iL 0 0 n rs0) ((stF.top.drop 0).take 0++fin)=bl at hend
 obtain⟨ok3,x,l'⟩:=bl
 simp only at hend
 obtain⟨hok,hend⟩:=iF hend
 simp only[Option.some.injEq,Prod.mk.injEq]at hend
 obtain⟨rfl,rfl⟩:=hend
 obtain⟨k0,hok⟩:=aq.1 hok
 obtain⟨k1,hok⟩:=aq.1 hok
 obtain⟨k2,hok⟩:=aq.1 hok
 obtain⟨k3,hok⟩:=aq.1 hok
 obtain⟨k4,hok⟩:=af.1 hok
 obtain⟨_,hok⟩:=af.1 hok
 obtain⟨k6,hok⟩:=af.1 hok
 have k6:(l++l').Nodup:=of_decide_eq_true k6
 obtain⟨f1',f2',f3'⟩:=iU (bE P f) vs' us' k4 hA
 obtain⟨q1,_,q3,q4,_⟩:=kM R'.roots R'.sep f2' (resTy P f) 0 ok1 ok2 y l rest rest2 hrd hgv k1 k2
 refine⟨uW (o7 ls.all st R hq) ⟨KB.os,KB.tape,KB.output,by have:=KB.size;rw[show(kX w (ky st.get g ls.all)).v.heap.size=w.heap.size from fc _ _]at this;exact this,fun k hk=> ?_,hothK⟩ (fun r b h=> ?_),f1',_,q1,q4 (List.nodup_append.1 k6).1,fun b hb=> ?_⟩
 ·have h1:=hk.1
  have h2:=R.below.size
  exact hkeep k (by omega) fun h=>ky.low R h hk
 ·obtain⟨_,h2,h3⟩:=oN R hq h
  exact hkeep b (eO R h2) h3
 ·obtain⟨r3,hr3,ho⟩:=q3 b hb
  refine⟨(lowF r3 b ho).elim R.fresh (ky.low R),fun r h=> ?_⟩
  obtain⟨_,h2,h3⟩:=oN R hq h
  rcases lowF r3 b ho with h4|h4
  ·have:=eO R h2;omega
  ·exact h3 h4
theorem F0{env:Env P}(hE:gV P env){f:Nat}{vs vs':List AV}{base:Nat}{upd:List (Nat×ak)}{rd qu:List Nat}
  (h:wK (R:=List AV×List (Nat×ak)×List Nat×List Nat) env f vs st base (fun a b c d=>some (a,b,c,d))=some (vs',upd,rd,qu)):
  (∃fn,P.funcs[f]?=some fn∧fn.body.isSome=true)∧ ∀(w0:bu) (g:aB) (born:Nat→Prop) (acts:List Act) (w:World) (us:List Value),Rel w0 st g born acts w→(∀r,born r→r<st.rs.length)→
   ai st.get g vs us→(∀r∈AV.ah vs,born r)→(∀i∈upd.map (·.1),base≤i→ ¬born i)→
   Calls P f us.toArray w fun e w'=> ∃us' g' born',e= .returned (mR us')∧Rel w0 (st.aH upd) g' born' acts w'∧(∀r,born' r→born r∨r∈upd.map (·.1))∧ai (st.aH upd).get g' vs' us'∧ ∀r∈AV.ah vs',born' r:=by
 unfold wK at h
 simp only[cY]at h
 generalize hlv:wx st.get vs=lv at h
 generalize hs:jA ⟨lv,[],[]⟩ st vs=s at h
 obtain⟨ok,stS⟩:=s
 simp only[St.force_eq,fp]at h
 obtain⟨hok,h⟩:=iF h
 obtain⟨k1,hok⟩:=af.1 hok
 obtain⟨k2,hok⟩:=af.1 hok
 obtain⟨k3,hok⟩:=af.1 hok
 have k1:(bg.all ⟨lv,[],[]⟩).Nodup:=of_decide_eq_true k1
 have k2:a8 st.rs (dL (bg.all ⟨lv,[],[]⟩))=true:=k2
 have k3:de (bg.all ⟨lv,[],[]⟩).length stS.rs (ca lv.length 0 stS.rs)=List.range' lv.length 0:=of_decide_eq_true k3
 have h:Option.bind (j7 env f lv.length 0 (bg.all ⟨lv,[],[]⟩).length (stS.rs.map ak.strip) stS) _=_:=h
 cases hr:j7 env f lv.length 0 (bg.all ⟨lv,[],[]⟩).length (stS.rs.map ak.strip) stS with
 |none=>rw[hr]at h;cases h
 |some yx=>
 obtain⟨y,x⟩:=yx
 rw[hr]at h
 simp only[Option.bind_some]at h
 generalize hla:eN P true (bE P f) y base=la at h
 obtain⟨vsR,rsR⟩:=la
 simp only[Option.some.injEq,Prod.mk.injEq]at h
 obtain⟨rfl,rfl,-,-⟩:=h
 unfold j7 at hr
 rw[hE.det.1]at hr
 cases hin:env.inl (R:=List AV×St) f stS.top ⟨stS.fr.tail,stS.rs⟩ (fun vs st=>some (vs,st))with
 |none=>rw[hin]at hr;cases hr
 |some p=>
 obtain⟨vsF,stF⟩:=p
 rw[hin]at hr
 simp only[Option.bind_some]at hr
 obtain⟨hfn,hval⟩:=hE.inl f stS.top _ vsF stF hin
 refine⟨hfn,fun w0 g born acts w us R hlt hA hb hfresh=> ?_⟩
 have hq:=dI (st:=st) (l:=bg.all ⟨lv,[],[]⟩) k2 fun r hr=>List.mem_map.2 ⟨r,hr,rfl⟩
 have hD: ∀r∈([]:List Nat)++ [],∃t xs,st.get r= .row true t xs:=fun r hr=>by cases hr
 obtain⟨gS,actH,Rp,Ap,Bp,pt⟩:=ug (m3:=false) (ls:=⟨lv,[],[]⟩) R hq k1 hD hA hs hok
 refine Calls.mono (hval _ gS _ [actH] w us Rp (fun r hr=>hr) Ap Bp) fun e w' he=> ?_
 obtain⟨us',g',born',rfl,⟨wB,hle,R'⟩,_,A',_⟩:=he
 obtain⟨g2,R2,hlt2,hF,G,hrep,hsep,hblk⟩:=zp (ls:=⟨lv,[],[]⟩) R hq k1 hlt k3 pt hle R' A' hr
 have hst:l6 ⟨lv,[],[]⟩ st (stS.rs.map ak.strip) x=st.aH (vO ⟨lv,[],[]⟩ st (stS.rs.map ak.strip) (gR (iL lv.length 0 (bg.all ⟨lv,[],[]⟩).length (stS.rs.map ak.strip)) x)):=rfl
 rw[hst]at R2 hlt2 hblk
 obtain⟨g3,b3,R3,L3,A3,B3,_⟩:=iQ (P:=P) (acts:=acts) true (bE P f) y us' (bh us') _ g2 born base 0 G vsR rsR R2 hF (fun k _=>by rw[Nat.zero_add]) hrep (fun _=>hsep) (fun _ b hb=>hblk b hb) hla
  (fun i h1 h2=>hfresh i (by rw[List.map_append,List.mem_append];exact .inr ((br _ _ _).2 ⟨h1,h2⟩)) h1)
 rw[←iH]at R3 A3
 refine⟨us',g3,b3,rfl,R3,fun r hr=> ?_,A3,fun r hr=>(L3.born_iff r).2 (.inr (B3 r hr))⟩
 rw[List.map_append,List.mem_append]
 exact((L3.born_iff r).1 hr).imp id fun h=> .inr ((br _ _ _).2 h)
theorem Ht{env:Env P}(hE:gV P env){f:Nat}{vs vs':List AV}{base:Nat}{upd:List (Nat×ak)}{rd qu:List Nat}
  (h:ioC (R:=List AV×List (Nat×ak)×List Nat×List Nat) env f vs st base (fun a b c d=>some (a,b,c,d))=some (vs',upd,rd,qu)):
  (∃fn,P.funcs[f]?=some fn∧fn.body.isSome=true)∧ ∀(w0:bu) (g:aB) (born:Nat→Prop) (acts:List Act) (w:World) (us:List Value),Rel w0 st g born acts w→(∀r,born r→r<st.rs.length)→
   ai st.get g vs us→(∀r∈AV.ah vs,born r)→(∀i∈upd.map (·.1),base≤i→ ¬born i)→
   Calls P f us.toArray w fun e w'=> ∃us' g' born',e= .returned (mR us')∧Rel w0 (st.aH upd) g' born' acts w'∧(∀r,born' r→born r∨r∈upd.map (·.1))∧ai (st.aH upd).get g' vs' us'∧ ∀r∈AV.ah vs',born' r:=by
 unfold ioC at h
 simp only[cY]at h
 generalize hlv:B4 vs=lv at h
 generalize hln:vP true st.get vs++pz true st.get lv=ln at h
 generalize hs:jA ⟨lv,[],ln⟩ st vs=s at h
 obtain⟨ok,stS⟩:=s
 simp only[St.force_eq,fp]at h
 obtain⟨hok,h⟩:=iF h
 obtain⟨k1,hok⟩:=af.1 hok
 obtain⟨k2,hok⟩:=af.1 hok
 have k1:(bg.all ⟨lv,[],ln⟩).Nodup:=of_decide_eq_true k1
 have k2:a8 st.rs (dL (bg.all ⟨lv,[],ln⟩))=true:=k2
 have h:Option.bind (j7 env f 0 0 (bg.all ⟨lv,[],ln⟩).length (stS.rs.map ak.strip) stS) _=_:=h
 cases hr:j7 env f 0 0 (bg.all ⟨lv,[],ln⟩).length (stS.rs.map ak.strip) stS with
 |none=>rw[hr]at h;cases h
 |some yx=>
 obtain⟨y,x⟩:=yx
 rw[hr]at h
 simp only[Option.bind_some]at h
 generalize hla:eN P true (bE P f) y base=la at h
 obtain⟨vsR,rsR⟩:=la
 simp only[Option.some.injEq,Prod.mk.injEq]at h
 obtain⟨rfl,rfl,-,-⟩:=h
 unfold j7 at hr
 rw[hE.det.1]at hr
 cases hin:env.inl (R:=List AV×St) f stS.top ⟨stS.fr.tail,stS.rs⟩ (fun vs st=>some (vs,st))with
 |none=>rw[hin]at hr;cases hr
 |some p=>
 obtain⟨vsF,stF⟩:=p
 rw[hin]at hr
 simp only[Option.bind_some]at hr
 obtain⟨hfn,hval⟩:=hE.inl f stS.top _ vsF stF hin
 refine⟨hfn,fun w0 g born acts w us R hlt hA hb hfresh=> ?_⟩
 have hq:=dI (st:=st) (l:=bg.all ⟨lv,[],ln⟩) k2 fun r hr=>List.mem_map.2 ⟨r,hr,rfl⟩
 have hD: ∀r∈([]:List Nat)++ln,∃t xs,st.get r= .row true t xs:=fun r hr=>by
  rw[List.nil_append,←hln]at hr
  rcases List.mem_append.1 hr with hr|hr
  ·obtain⟨v,_,hv⟩:=List.mem_flatMap.1 hr
   exact oS hv
  ·obtain⟨v,_,hv⟩:=List.mem_flatMap.1 hr
   exact oS hv
 obtain⟨gS,actH,Rp,Ap,Bp,pt⟩:=ug (m3:=true) (ls:=⟨lv,[],ln⟩) R hq k1 hD hA hs hok
 refine Calls.mono (hval _ gS _ [actH] w us Rp (fun r hr=>hr) Ap Bp) fun e w' he=> ?_
 obtain⟨us',g',born',rfl,⟨wB,hle,R'⟩,_,A',_⟩:=he
 obtain⟨R2,hF,G,hrep,hsep,hblk⟩:=EO (ls:=⟨lv,[],ln⟩) R hq hle R' A' hr
 obtain⟨g3,b3,R3,L3,A3,B3,_⟩:=iQ (P:=P) (acts:=acts) true (bE P f) y us' (bh us') _ g born base 0 G vsR rsR R2 hF (fun k _=>by rw[Nat.zero_add]) hrep (fun _=>hsep) (fun _ b hb=>hblk b hb) hla
  (fun i h1 h2=>hfresh i (by rw[List.map_append,List.mem_append];exact .inr ((br _ _ _).2 ⟨h1,h2⟩)) h1)
 rw[←iH]at R3 A3
 refine⟨us',g3,b3,rfl,R3,fun r hr=> ?_,A3,fun r hr=>(L3.born_iff r).2 (.inr (B3 r hr))⟩
 rw[List.map_append,List.mem_append]
 exact((L3.born_iff r).1 hr).imp id fun h=> .inr ((br _ _ _).2 h)
theorem Hm{m:Nat}{env:Env P}(hE:gV P env){f:Nat}{vs vs':List AV}{base:Nat}{upd:List (Nat×ak)}{rd qu:List Nat}
  (h:ioD (R:=List AV×List (Nat×ak)×List Nat×List Nat) m env f vs st base (fun a b c d=>some (a,b,c,d))=some (vs',upd,rd,qu)):
  (∃fn,P.funcs[f]?=some fn∧fn.body.isSome=true)∧ ∀(w0:bu) (g:aB) (born:Nat→Prop) (acts:List Act) (w:World) (us:List Value),Rel w0 st g born acts w→(∀r,born r→r<st.rs.length)→
   ai st.get g vs us→(∀r∈AV.ah vs,born r)→(∀i∈upd.map (·.1),base≤i→ ¬born i)→
   Calls P f us.toArray w fun e w'=> ∃us' g' born',e= .returned (mR us')∧Rel w0 (st.aH upd) g' born' acts w'∧(∀r,born' r→born r∨r∈upd.map (·.1))∧ai (st.aH upd).get g' vs' us'∧ ∀r∈AV.ah vs',born' r:=by
 unfold ioD at h
 cases hm:Nat.beq m 5 with
 |true=>rw[hm]at h;exact Ht hE h
 |false=>rw[hm]at h;exact F0 hE h
theorem FW{cfg:Cfg}{env:Env P}(hE:gV P env){f:Nat}{vs vs':List AV}(h:BR (R:=List AV×St) P cfg env f vs st (fun vs st=>some (vs,st))=some (vs',st')):xD P f vs st vs' st':=by
 unfold BR at h
 cases h8:Nat.beq (cfg.mode f) 8 with
 |true=>rw[h8]at h;exact FJ hE h
 |false=>
 rw[h8]at h
 simp only[cond_false]at h
 cases hm:bc st.get (cfg.mode f) vs with
 |true=>rw[hm]at h;exact Hr hE h
 |false=>rw[hm]at h;exact hE.inl f vs st vs' st' h
end
end
end Go.Am
end
section
/- Soundness: calls whose results share memory. -/
namespace Go.Am
noncomputable section
attribute [local instance] D.real
section
variable {P : Program} {cfg : Cfg} {env : Env P} {w0 : bu} {w w' : World} {st st' : St} {g g' : aB} {born : Nat → Prop} {a : Act} {asx acts : List Act}
theorem nY: ∀(l seen:List Nat) (r:Nat),r∈iv seen l↔r∈seen∨r∈l
 | [],seen,r=>by simp[iv]
 |x::l,seen,r=>by
  unfold iv
  cases h:seen.contains x with
  |true=>
   simp only[cond_true]
   rw[nY l seen r]
   have:x∈seen:=by simpa using h
   simp only[List.mem_cons]
   refine⟨fun h=>h.imp id .inr,fun h=> ?_⟩
   rcases h with h|rfl|h
   ·exact .inl h
   ·exact .inl this
   ·exact .inr h
  |false=>
   simp only[cond_false]
   rw[nY l (seen++ [x]) r]
   simp[or_assoc]
theorem zi(R:Rel w0 st g born acts w){vs:List AV}{us:List Value}(hA:ai st.get g vs us){L:List Nat}(hL:tX st.get vs=L)(hk: ∀r∈L,B7 (st.get r)=true)
  {ts:List TypeId} {ok:List Tst} {x:den (dw P ts)} {rest:List AV} (hfit:fitAll P ts vs=true) (hrd:fT st.get (dw P ts) (vs.flatMap AV.cells)=(ok,x,rest)) (hok:aN ok):
  fN P (pq w0.w w fun b=> ∃r∈L,Own st.get g r b) ts us x:=by
 classical
 obtain⟨hF,hC,hCb⟩:=iU ts vs us hfit hA
 let get':Get:=fun r=>if r∈L then st.get r else match st.get r with
  | .row false t xs=> .row false t xs
  |_=> .dead
 have hget: ∀r,r∈L→get' r=st.get r:=fun r h=>if_pos h
 have heap: ∀r b,r∈L→Own st.get g r b→(pq w0.w w fun b=> ∃r∈L,Own st.get g r b).heap[b]?=w.heap[b]?:=fun r b hr h=>cZ fun h'=>h' (.inr ⟨r,hr,h⟩)
 have hty: ∀r t,bI (get' r)=some t→bI (st.get r)=some t:=by
  intro r t h
  by_cases hr:r∈L
  ·rwa [hget r hr]at h
  ·simp only[get',if_neg hr]at h
   split at h
   ·next e=>rw[e];exact h
   ·cases h
 have hvr: ∀r,isVar (get' r)=true→isVar (st.get r)=true:=by
  intro r h
  by_cases hr:r∈L
  ·rwa [hget r hr]at h
  ·simp only[get',if_neg hr]at h
   split at h<;>cases h
 have hold: ∀r,Holds st.get get' g g r fun _=>True:=fun r=>⟨fun t h=>⟨hty r t h,fun _ _=>rfl⟩,fun h=>⟨hvr r h,rfl⟩⟩
 have hR: ∀r,aF w0 (pq w0.w w fun b=> ∃r∈L,Own st.get g r b) get' g r:=by
  intro r
  have h:=R.roots r
  unfold aF at h⊢
  by_cases hr:r∈L
  ·have hkr:=hk r hr
   have hh:=heap r
   rw[hget r hr]
   unfold Own at hh
   cases hg:st.get r with
   |row rw_ t xs=>
    rw[hg]at h hh
    cases rw_ with
    |true=>exact⟨dQ (fun b hb=>hh b hr hb) h.1,h.2⟩
    |false=>exact h
   |sh t xs=>
    rw[hg]at h hh
    exact h.step (fun b hb=>hh b hr hb) fun a v ha hv=>⟨jx hv (.inl ha),ha⟩
   |var cs=>
    rw[hg]at h hh
    obtain⟨arr,te,h1,h2,h3⟩:=h
    exact⟨arr,te,(hh _ hr rfl).trans h1,h2,bZ _ _ (fun r _=>hold r) h3⟩
   |dead=>rw[hg]at hkr;cases hkr
   |half t xs=>rw[hg]at hkr;cases hkr
   |pend q p t xs=>rw[hg]at hkr;cases hkr
  ·simp only[get',if_neg hr]
   cases hg:st.get r with
   |row rw_ t xs=>
    rw[hg]at h
    cases rw_ with
    |true=>trivial
    |false=>exact h
   |_=>trivial
 have hmem: ∀r,r∈AV.ah (vs.flatMap AV.cells)∨r∈gB st.get (vs.flatMap AV.cells)→get' r=st.get r:=by
  intro r h
  have h:r∈AV.ah vs∨r∈gB st.get (vs.flatMap AV.cells):=h.imp (hCb r) id
  by_cases hr:r∈L
  ·exact hget r hr
  ·have hf:(match st.get r with
    | .row false _ _=>false
    | .dead=>false
    |_=>true)=false:=by
    cases hb:(match st.get r with
    | .row false _ _=>false
    | .dead=>false
    |_=>true)with
    |false=>rfl
    |true=>
     refine(hr ?_).elim
     rw[←hL]
     unfold tX
     rw[List.mem_filter,nY]
     refine⟨.inr (List.mem_append.2 h),hb⟩
   simp only[get',if_neg hr]
   cases hg:st.get r with
   |row rw_ t xs=>
    cases rw_ with
    |true=>rw[hg]at hf;cases hf
    |false=>rfl
   |dead=>rfl
   |_=>rw[hg]at hf;cases hf
 have hcg:=(sO (get:=st.get) (get':=get') (dw P ts) (vs.flatMap AV.cells) (fun r hr=>(hmem r (.inl hr)).symm) (fun r n cs hm hg x hx=>(hmem x (.inr (qJ hm hg hx))).symm)).1
 rw[hcg]at hrd
 obtain⟨G,h,_⟩:=sw hR (fun a v hv=>jx (cJ R.below a v hv) (.inl ⟨a,v,rfl,hv⟩)) (bZ _ _ (fun r _=>hold r) hC) (dw P ts) 0 ok x rest hrd hok
 exact⟨hF,G,h⟩
theorem tC{B B':bu}{get:Get}(hc: ∀(a:Addr) (v:Value),B.w.cell? a=some v→B'.w.cell? a=some v)(hR: ∀r,aF B w get g r)(ho: ∀r b,Own get g r b→w'.heap[b]?=w.heap[b]?)
  (hr: ∀(a:Addr) (v:Value),Rds B.w a.block→w.cell? a=some v→w'.cell? a=some v) (r:Nat):aF B' w' get g r:=by
 have h:=hR r
 have hh:=ho r
 unfold aF at h⊢
 unfold Own at hh
 cases hg:get r with
 |dead=>trivial
 |var cs=>
  rw[hg]at h hh
  obtain⟨arr,te,h1,h2,h3⟩:=h
  exact⟨arr,te,(hh _ rfl).trans h1,h2,h3⟩
 |row rw_ t xs=>
  rw[hg]at h hh
  cases rw_ with
  |true=>exact⟨dQ (fun b hb=>hh b hb) h.1,h.2⟩
  |false=>exact lC hc h
 |half t xs=>
  rw[hg]at h hh
  obtain⟨a,n,c,h1,h2,h3,hz,h4,h5⟩:=h
  exact⟨a,n,c,h1,h2,h3,hz,dQ (fun b hb=>hh b ((jl h1).1 hb)) h4,h5⟩
 |sh t xs=>
  rw[hg]at h hh
  exact h.step (fun b hb=>hh b hb) fun a v ha hv=>⟨hr a v ha hv,Rds.mono hc ha⟩
 |pend r2 p t xs=>
  rw[hg]at h hh
  obtain⟨h1,h2,t',xs',h3,h4,h5⟩:=h
  refine⟨dQ (fun b hb=> ?_) h1,h2,t',xs',h3,h4,h5⟩
  by_cases hhb:mh g r2 p b
  ·exact ho r2 b (by unfold Own;rw[h3];exact h5 b hhb)
  ·exact hh b ⟨hb,hhb⟩
theorem D2(R:Rel w0 st g born acts w)(hbel:RowKit.Below w.heap.size w w'){r':World}(hc: ∀(a:Addr) (v:Value),w0.w.cell? a=some v→r'.cell? a=some v)(hw: ∀(a:Addr) (v:Value),r'.cell? a=some v→w'.cell? a=some v)
  (ho: ∀r b,Own st.get g r b→ ¬Rds r' b) (hn: ∀b,Rds r' b→Rds w0.w b∨ ¬w0.dh b): ∃w1,w0.le w1∧w1.w=r'∧Rel w1 st g born acts w':=by
 let keep':Nat→Prop:=fun b=>b<w'.heap.size∧(w0.dh b∨Rds r' b)
 have hsz:=R.below.size
 have hin: ∀b,Rds r' b→b<w'.heap.size:=fun b ⟨a,v,e,h⟩=>e▸World.block_lt_of_cell? w' a (hw a v h)
 let w1:bu:=⟨blank w' fun b=> ¬keep' b,r',fun b=> ¬keep' b,fun a x h=>⟨n4 (hw a x h) fun h'=>h' ⟨hin _ ⟨a,x,rfl,h⟩,.inr ⟨a,x,rfl,h⟩⟩,fun h'=>h' ⟨hin _ ⟨a,x,rfl,h⟩,.inr ⟨a,x,rfl,h⟩⟩⟩,
  fun b o h k=>rT h k,w0.oth,w0.othc⟩
 have hk1: ∀b,w1.dh b↔keep' b:=fun b=>⟨fun h=>Classical.not_not.1 h.2,fun h=>⟨by show b<(blank w' _).heap.size;rw[fc];exact h.1,fun h'=>h' h⟩⟩
 have hlt0: ∀b,w0.dh b→b<w.heap.size:=fun b h=>Nat.lt_of_lt_of_le h.1 hsz
 have hle:w0.le w1:=by
  refine⟨fun b h=>(hk1 b).2 ⟨Nat.lt_of_lt_of_le (hlt0 b h) hbel.size,.inl h⟩,fun b h=>((hk1 b).1 h).2,?_,hc,hn,rfl⟩
  refine⟨(hbel.os).trans R.below.os,(hbel.tape).trans R.below.tape,(hbel.output).trans R.below.output,?_,fun b h=> ?_,fun b o h1 h2=> ?_⟩
  ·show _≤(blank w' _).heap.size
   rw[fc];exact Nat.le_trans hsz hbel.size
  ·exact(cZ fun h'=>h' ⟨Nat.lt_of_lt_of_le (hlt0 b h) hbel.size,.inl h⟩).trans ((hbel.block b (hlt0 b h)).trans (R.below.block b h))
  ·have hkb:w0.dh b:=⟨(Array.getElem?_eq_some_iff.1 h1).1,fun hl=>by rw[w0.lentc b o hl h1]at h2;cases h2⟩
   exact(cZ fun h'=>h' ⟨Nat.lt_of_lt_of_le (hlt0 b hkb) hbel.size,.inl hkb⟩).trans ((hbel.block b (hlt0 b hkb)).trans ((R.below.block b hkb).trans h1))
 have hB1:bL w1 w1.v w':=by
  refine⟨rfl,rfl,rfl,by show(blank w' _).heap.size≤_;rw[fc];exact Nat.le_refl _,fun b h=>(cZ h.2).symm,fun b o h1 h2=> ?_⟩
  by_cases hb:keep' b
  ·exact(cZ fun h'=>h' hb).symm.trans h1
  ·rw[rT hb h1]at h2;cases h2
 have hst: ∀r b,Own st.get g r b→w'.heap[b]?=w.heap[b]?:=fun r b h=>hbel.block b (eO R h)
 refine⟨w1,hle,rfl,hB1,fun r=>tC hc R.roots hst (fun a v ha hv=>(gp (hbel.block _ (hlt0 _ (bu.rds ha)))).trans hv) r,R.sep,fun r b h hk=> ?_,R.frames,R.bornF,R.bornR,R.alive,R.marks.nodup,fun D hD=> ?_,fun k o h=> ?_⟩
 ·rcases((hk1 b).1 hk).2 with h'|h'
  ·exact R.low r b h h'
  ·exact ho r b h h'
 ·obtain⟨h1,h2,h3⟩:=R.marks.empty D hD
  have hlt:=(Array.getElem?_eq_some_iff.1 h1).1
  have h4:=(hbel.block D hlt).trans h1
  refine⟨h4,fun hk=> ?_,h3⟩
  rcases((hk1 D).1 hk).2 with h'|⟨a,v,e,h'⟩
  ·exact h2 h'
  ·have:=hw a v h'
   subst e
   unfold World.cell? at this
   rw[h4]at this
   cases this
 ·have h1:=R.marks.oth k o h
  exact(hbel.block k (Array.getElem?_eq_some_iff.1 h1).1).trans h1
theorem C7(rs:List ak)(i:Nat)(x:ak):rs.length≤(setAt rs i x).length∧i<(setAt rs i x).length:=by
 unfold setAt
 cases hb:Nat.blt i rs.length with
 |true=>have:=cE hb;simp;omega
 |false=>
  have hge:rs.length≤i:=by
   rcases Nat.lt_or_ge i rs.length with h|h
   ·rw[←Nat.blt_eq,hb]at h;cases h
   ·exact h
  simp;omega
theorem gC: ∀(l:List (Nat×ak)) (st:St),st.rs.length≤(st.aH l).rs.length∧ ∀i∈l.map (·.1),i<(st.aH l).rs.length
 | [],st=>⟨Nat.le_refl _,fun i h=>by simp at h⟩
 |(i,x)::l,st=>by
  obtain⟨h1,h2⟩:=gC l (st.ep i x)
  obtain⟨h3,h4⟩:=C7 st.rs i x
  rw[jJ]
  refine⟨Nat.le_trans h3 h1,fun j hj=> ?_⟩
  simp only[List.map_cons,List.mem_cons]at hj
  rcases hj with rfl|hj
  ·exact Nat.lt_of_lt_of_le h4 h1
  ·exact h2 j hj
theorem Ha(hE:gV P env){f:Nat}{vs vs':List AV}(h:ioS (R:=List AV×St) env f vs st (fun vs st=>some (vs,st))=some (vs',st')):xD P f vs st vs' st':=by
 unfold ioS at h
 simp only[cY]at h
 generalize hL:tX st.get vs=L at h
 generalize hrd:fT st.get (eH P f) (vs.flatMap AV.cells)=rd at h
 obtain⟨ok,x,rest⟩:=rd
 simp only[gE]at h
 split at h
 rotate_left
 ·cases h
 next hok=>
 obtain⟨hfit,hok⟩:=af.1 (iJ.1 hok)
 obtain⟨_,hok⟩:=af.1 hok
 obtain⟨hq,hok⟩:=af.1 hok
 obtain⟨hk,hok⟩:=af.1 hok
 have hk: ∀r∈L,B7 (st.get r)=true:=fun r hr=>List.all_eq_true.1 hk r hr
 have h:(env.ps f x).bind _=_:=h
 cases hps:env.ps f x with
 |none=>rw[hps]at h;cases h
 |some y=>
 rw[hps]at h
 simp only[Option.bind_some]at h
 generalize hla:eN P false (bE P f) y st.rs.length=la at h
 obtain⟨vsR,rsR⟩:=la
 simp only[Option.some.injEq,Prod.mk.injEq]at h
 obtain⟨rfl,rfl⟩:=h
 obtain⟨hfn,hval⟩:=hE.ps f x y hps
 refine⟨hfn,fun w0 g born acts w us R hlt hA hb=> ?_⟩
 have hq':=dI (st:=st) (l:=L) hq fun r hr=>List.mem_map.2 ⟨r,hr,rfl⟩
 have hargs:=zi (P:=P) R hA hL hk (ts:=dV P f) hfit hrd hok
 refine Calls.mono (hval w _ us.toArray (fun a v h=>(iZ h).1) (by simpa using hargs)) fun e w' he=> ?_
 obtain⟨us',r',rfl,hbel,hc,hw,hn,hF,G,hrep⟩:=he
 have hc0: ∀(a:Addr) (v:Value),w0.w.cell? a=some v→r'.cell? a=some v:=fun a v hv=>hc a v (jx (cJ R.below a v hv) (.inl ⟨a,v,rfl,hv⟩))
 have hn1: ∀b,Rds r' b→Rds w0.w b∨(∃r∈L,Own st.get g r b)∨w.heap.size≤b:=fun b hb=>by
  rcases hn b hb with⟨a,v,rfl,h⟩|h
  ·exact(iZ h).2.imp id .inl
  ·exact .inr (.inr h)
 have RK:=o7 L st R hq'
 obtain⟨w1,hle,rfl,R1⟩:=D2 RK hbel hc0 hw (fun r b h hr=>by
   obtain⟨k1,k2,k3⟩:=oN R hq' h
   rcases hn1 b hr with h'|⟨r2,h2,h3⟩|h'
   ·exact R.low r b k2 (bu.rds h')
   ·exact k3 ⟨r2,h2,h3⟩
   ·have:=eO R k2;omega)
  (fun b hb=>by
   rcases hn1 b hb with h'|⟨r2,h2,h3⟩|h'
   ·exact .inl h'
   ·exact .inr (R.low r2 b h3)
   ·exact .inr (R.fresh h'))
 have hlenK: ∀r,born r→r<st.rs.length:=hlt
 obtain⟨g3,b3,R3,L3,A3,B3,_⟩:=iQ (P:=P) (acts:=acts) false (bE P f) y us' (bh us') _ g born st.rs.length 0 G vsR rsR R1 hF (fun k _=>by rw[Nat.zero_add]) hrep (fun h=>by cases h) (fun h=>by cases h) hla
  (fun i h1 _ hb=>by have:=hlt i hb;omega)
 have hset:(St.mk st.fr (cU st.rs (cH L++aj st.rs.length rsR)))=(st.aH (cH L)).aH (aj st.rs.length rsR):=by rw[←iH];rfl
 rw[hset]
 refine⟨us',g3,b3,rfl,⟨w1,hle,R3⟩,fun r hr=> ?_,A3,fun r hr=>(L3.born_iff r).2 (.inr (B3 r hr))⟩
 have hl1:=gC (cH L) st
 have hl2:=gC (aj st.rs.length rsR) (st.aH (cH L))
 rcases(L3.born_iff r).1 hr with h|h
 ·have:=hlt r h
  exact Nat.lt_of_lt_of_le this (Nat.le_trans hl1.1 hl2.1)
 ·exact hl2.2 r ((br _ _ _).2 h)
end
end
end Go.Am
end
