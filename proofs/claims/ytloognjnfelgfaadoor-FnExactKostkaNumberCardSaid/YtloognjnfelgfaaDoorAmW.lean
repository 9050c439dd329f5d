/- The machine is sound: what it makes of data the function makes of it; a law that it answers with true meets its contract. Conditions: the program's orders are followed (Good), its types laid out. -/
import Derived.Test.YtloognjnfelgfaaDoorAmY
import Derived.ProofKit
import Derived.SizedLaws
import Derived.ChangeOld
import Derived.Carry
import Derived.OpenShut
import Derived.Test.YtloognjnfelgfaaDoorAmM
set_option linter.unusedSimpArgs false
set_option linter.unusedVariables false
set_option linter.unnecessarySimpa false
set_option linter.unusedSectionVars false
section
/- Soundness: ranges over functions. Worlds that differ in what is no cells; marks; operations of which some temporaries are followed. -/
namespace Go.Am
noncomputable section
attribute [local instance] D.real
section
variable {P : Program} {cfg : Cfg} {env : Env P} {w0 : bu} {w w' : World} {st st' : St} {g g' : aB} {born : Nat → Prop} {a : Act} {asx acts : List Act} {o : Oper} {base : Nat}
theorem qR(R:Rel w0 st g born acts w){f:List AV}{a:Act}(hf:qy st.get g f a)(hd:a.defers= [])(hb: ∀r∈AV.ah f,born r):Rel w0 {st with fr:=f::st.fr} g born (a::acts) w:=
 ⟨R.below,R.roots,R.sep,R.low,⟨a,acts,rfl,hf,R.frames⟩,fun f' hf' r hr=>by
  rcases List.mem_cons.1 hf' with rfl|hf'
  ·exact hb r hr
  ·exact R.bornF f' hf' r hr,R.bornR,R.alive,by
  have e:fk (a::acts)=fk acts:=by
   show marks a++fk acts=fk acts
   unfold marks;rw[hd];rfl
  rw[e];exact R.marks⟩
theorem Gw(R:Rel w0 st g born (a::asx) w):Rel w0 {st with fr:=st.fr.tail} g born asx w:=by
 have hfr:=R.frames
 have hbf:=R.bornF
 generalize st.fr=fr at hfr hbf
 cases fr with
 |nil=>simp only[eu]at hfr;cases hfr
 |cons f fs=>
  obtain⟨a',as',e,h1,h2⟩:=hfr
  injection e with e1 e2
  subst e1;subst e2
  refine⟨R.below,R.roots,R.sep,R.low,h2,fun f' hf' r hr=>hbf f' (List.mem_cons_of_mem _ hf') r hr,R.bornR,R.alive,?_⟩
  have hm:=R.marks
  exact⟨(List.nodup_append.1 (show(marks a++fk asx).Nodup from hm.nodup)).2.1,fun D hD=>hm.empty D (List.mem_append.2 (.inr hD)),hm.oth⟩
theorem ni{get:Get}{fn:Func}{vs:List AV}{args:Array Value}(h:ai get g vs args.toList):
  qy get g (iM fn vs) {tmps:=args++Array.replicate (fn.ntmps-args.size) Go.undef,defers:= []}:=by
 have hlen:=cW h
 simp only[Array.length_toList]at hlen
 refine⟨?_,fun i=> ?_,(fun d h=>by cases h)⟩
 ·unfold iM;simp;omega
 ·unfold iM
  rw[←hlen]
  rcases Nat.lt_or_ge i vs.length with hi|hi
  ·have e1:(vs++List.replicate (fn.ntmps-args.size) (AV.tup [])).getD i .undef=vs.getD i .undef:=by
    simp only[List.getD_eq_getElem?_getD];rw[List.getElem?_append_left hi]
   have e2:(args++Array.replicate (fn.ntmps-args.size) Go.undef).getD i Go.undef=args.getD i Go.undef:=by
    simp only[Array.getD_eq_getD_getElem?];rw[Array.getElem?_append_left (by omega)]
   rw[e1,e2]
   obtain⟨x,h1,h2⟩:=bK h (dP (d:=AV.undef) hi)
   have:args.getD i Go.undef=x:=by
    rw[Array.getD_eq_getD_getElem?]
    rw[Array.getElem?_toList]at h1
    rw[h1];rfl
   rw[this];exact h2
  ·have e1:(vs++List.replicate (fn.ntmps-args.size) (AV.tup [])).getD i .undef=if i-vs.length<fn.ntmps-args.size then .tup []else .undef:=by
    simp only[List.getD_eq_getElem?_getD]
    rw[List.getElem?_append_right hi,List.getElem?_replicate]
    split<;>rfl
   rw[e1]
   split
   ·next h'=>
    have e2:(args++Array.replicate (fn.ntmps-args.size) Go.undef).getD i Go.undef=Go.undef:=by
     simp only[Array.getD_eq_getD_getElem?]
     rw[Array.getElem?_append_right (by omega),Array.getElem?_replicate]
     split<;>rfl
    rw[e2];exact kS _ _
   ·simp[ae]
theorem j3{fn:Func}{vs:List AV}{r:Nat}(h:r∈AV.ah (iM fn vs)):r∈AV.ah vs:=by
 unfold iM at h
 rcases eW h with h|h
 ·exact h
 ·rw[lI (fun v hv=>by rw[List.eq_of_mem_replicate hv];rfl)]at h
  cases h
theorem uz(R:Rel w0 st g born acts w){l:Nat}{o o':Obj}(hl:w.heap[l]?=some o)(ho:o.isCells=false)(hs: ¬w0.dh l)(hm:l∉fk acts)(hx:w0.oth l=none):Rel w0 st g born acts (w.putObj l o'):=by
 have hne: ∀k,k≠l→(w.putObj l o').heap[k]?=w.heap[k]?:=fun k h=>World.putObj_heap_other h
 have hB:=R.below
 refine AG (fun _=>False) R ⟨hB.os,hB.tape,hB.output,by rw[World.putObj_size];exact hB.size,fun k hk=>(hne k (fun e=>hs (e▸hk))).trans (hB.block k hk),fun k x h1 h2=> ?_⟩
  ⟨R.marks.nodup,fun D hD=>⟨(hne D (fun e=>hm (e▸hD))).trans (R.marks.empty D hD).1,(R.marks.empty D hD).2⟩,fun k x hk=>(hne k (fun e=>by rw[e,hx]at hk;cases hk)).trans (R.marks.oth k x hk)⟩
  rfl (fun r _=>⟨fun t ht=>⟨ht,fun _ _=>rfl⟩,fun hv=>⟨hv,rfl⟩⟩) (fun r _=>⟨rfl,rfl,fun b hb=>hne b fun e=>by
   have:=ib R hb o (e▸hl)
   rw[ho]at this;cases this⟩)
  (fun _ _ _ _ _ _ _ h=>h) (fun r h=>h.elim) (fun r _ _ h=>h.elim) (fun r _ h=>h.elim) (fun _ h=>h) (fun r h=>h.elim) (fun r h=>h.elim)
 refine(hne k fun e=> ?_).trans (hB.oth k x h1 h2)
 subst e
 by_cases hl':w0.lent k
 ·rw[w0.lentc k x hl' h1]at h2;cases h2
 ·exact hs ⟨(Array.getElem?_eq_some_iff.1 h1).1,hl'⟩
def rh(f:Nat→Option Obj)(l:Nat)(o:Obj)(k:Nat):Option Obj:=if k=l then some o else f k
theorem pX(f:Nat→Option Obj)(l:Nat)(o:Obj):rh f l o l=some o:=if_pos rfl
theorem kq(f:Nat→Option Obj){l k:Nat}(o:Obj)(h:k≠l):rh f l o k=f k:=if_neg h
def bu.oE(B:bu)(l:Nat)(o:Obj)(ho:o.isCells=false):bu:=
 ⟨B.v,B.w,B.lent,B.sub,B.lentc,rh B.oth l o,fun k x h=>by
  by_cases e:k=l
  ·subst e
   rw[pX]at h;injection h with h;subst h;exact ho
  ·rw[kq _ _ e]at h
   exact B.othc k x h⟩
theorem Er(R:Rel w0 st g born acts w){l:Nat}{o:Obj}(ho:o.isCells=false)(hl:w.heap[l]?=some o)(hm:l∉fk acts):Rel (w0.oE l o ho) st g born acts w:=
 ⟨⟨R.below.os,R.below.tape,R.below.output,R.below.size,R.below.block,R.below.oth⟩,R.roots,R.sep,R.low,R.frames,R.bornF,R.bornR,R.alive,
  ⟨R.marks.nodup,fun D hD=>⟨(R.marks.empty D hD).1,(R.marks.empty D hD).2.1,(kq _ _ fun e=>hm (by rw[←e];exact hD)).trans (R.marks.empty D hD).2.2⟩,fun k x hk=>by
   have hk:rh w0.oth l o k=some x:=hk
   by_cases e:k=l
   ·subst e
    rw[pX]at hk;injection hk with hk;subst hk;exact hl
   ·rw[kq _ _ e]at hk
    exact R.marks.oth k x hk⟩⟩
theorem A9{l:Nat}{o:Obj}{ho:o.isCells=false}(R:Rel (w0.oE l o ho) st g born acts w)(hx:w0.oth l=none):Rel w0 st g born acts w:=
 ⟨⟨R.below.os,R.below.tape,R.below.output,R.below.size,R.below.block,R.below.oth⟩,R.roots,R.sep,R.low,R.frames,R.bornF,R.bornR,R.alive,
  ⟨R.marks.nodup,fun D hD=>⟨(R.marks.empty D hD).1,(R.marks.empty D hD).2.1,by
   have h:rh w0.oth l o D=none:=(R.marks.empty D hD).2.2
   by_cases e:D=l
   ·rw[e];exact hx
   ·rw[kq _ _ e]at h;exact h⟩,fun k x hk=>R.marks.oth k x (by
   show rh w0.oth l o k=some x
   rw[kq _ _ (fun e=>by rw[e,hx]at hk;cases hk)];exact hk)⟩⟩
theorem ve(R:Rel w0 st g born (a::asx) w)(ds:List Deferred)(hd: ∀d∈ds,∃D,d.target= .collected D)(hm:mX w0 (marks {a with defers:=ds}++fk asx) w):Rel w0 st g born ({a with defers:=ds}::asx) w:=by
 have hfr:=R.frames
 have hbf:=R.bornF
 refine⟨R.below,R.roots,R.sep,R.low,?_,hbf,R.bornR,R.alive,hm⟩
 generalize st.fr=fr at hfr⊢
 cases fr with
 |nil=>simp only[eu]at hfr;cases hfr
 |cons f fs=>
  obtain⟨a',as',e,h1,h2⟩:=hfr
  injection e with e1 e2
  subst e1;subst e2
  exact⟨_,_,rfl,⟨h1.size,h1.slot,hd⟩,h2⟩
theorem kU(R:Rel w0 st g born (a::asx) w): ∀d∈a.defers,∃D,d.target= .collected D:=by
 have hfr:=R.frames
 generalize st.fr=fr at hfr
 cases fr with
 |nil=>simp only[eu]at hfr;cases hfr
 |cons f fs=>
  obtain⟨a',as',e,h1,_⟩:=hfr
  injection e with e1 e2
  subst e1
  exact h1.defers
theorem rj{n:Nat}{fn:Func}{RR:Ending→World→Prop}{t:Array Value}(hend: ∀w',Rel w0 st g born ({tmps:=t,defers:= []}::asx) w'→ ∃v,(results fn t).run P w'= .ok v w'∧RR (.returned v) w'):
  ∀(ds:List Deferred) (w:World),Rel w0 st g born ({tmps:=t,defers:=ds}::asx) w→LeavesInM (rd none) n P fn t RR ds .returning w
 | [],w,R=>hend w R
 |d::ds,w,R=>by
  obtain⟨D,hD⟩:=kU R d List.mem_cons_self
  have hm:=R.marks
  have hmk:fk ({tmps:=t,defers:=d::ds}::asx)=D::(marks {tmps:=t,defers:=ds}++fk asx):=by
   show(ya d++ds.flatMap ya)++fk asx=_
   unfold ya;rw[hD];rfl
  rw[hmk]at hm
  obtain⟨e1,e2,e3⟩:=hm.empty D List.mem_cons_self
  have hn:=List.nodup_cons.1 hm.nodup
  refine⟨by simp,.inl ⟨D,w.putObj D (.deferred none),hD,run_takeDeferred e1,rj hend ds _ ?_⟩⟩
  have R1:Rel w0 st g born ({tmps:=t,defers:=ds}::asx) w:=
   ve R ds (fun d' hd=>kU R d' (List.mem_cons_of_mem _ hd)) ⟨hn.2,fun D' h=>hm.empty D' (List.mem_cons_of_mem _ h),hm.oth⟩
  exact uz R1 e1 rfl e2 hn.1 e3
theorem lZ{n:Nat}{fn:Func}{RR:Ending→World→Prop}{t:Array Value}(hend: ∀w',cg w0 st g born ({tmps:=t,defers:= []}::asx) w'→ ∃v,(results fn t).run P w'= .ok v w'∧RR (.returned v) w')
  (ds:List Deferred) (w:World) (R:cg w0 st g born ({tmps:=t,defers:=ds}::asx) w):LeavesInM (rd none) n P fn t RR ds .returning w:=
 let⟨w1,k,R⟩:=R;rj (fun w' R'=>hend w' ⟨w1,k,R'⟩) ds w R
theorem Aq(R:cg w0 st g born acts w):eu st.get g st.fr acts:=let⟨_,_,R⟩:=R;R.frames
theorem Be(R:cg w0 st g born acts w): ∀f∈st.fr,∀r∈AV.ah f,born r:=let⟨_,_,R⟩:=R;R.bornF
theorem yB(R:cg w0 st g born (a::acts) w)(x:Operand):ae st.get g (an st x) (a.eval x)∧ ∀r∈(an st x).roots,born r:=let⟨_,_,R⟩:=R;bC R x
theorem Gz(R:cg w0 st g born (a::acts) w)(l:List Operand):ai st.get g (l.map (an st)) (l.map a.eval)∧ ∀r∈AV.ah (l.map (an st)),born r:=let⟨_,_,R⟩:=R;nT R l
theorem xC(R:cg w0 st g born acts w){f:List AV}{a:Act}(hf:qy st.get g f a)(hd:a.defers= [])(hb: ∀r∈AV.ah f,born r):cg w0 {st with fr:=f::st.fr} g born (a::acts) w:=let⟨w1,k,R⟩:=R;⟨w1,k,qR R hf hd hb⟩
theorem lq(R:cg w0 st g born (a::asx) w):cg w0 {st with fr:=st.fr.tail} g born asx w:=let⟨w1,k,R⟩:=R;⟨w1,k,Gw R⟩
theorem sP(R:cg w0 st g born acts w){l:Nat}{o o':Obj}(hl:w.heap[l]?=some o)(ho:o.isCells=false)(hs: ¬w0.dh l)(hm:l∉fk acts)(hx:w0.oth l=none):cg w0 st g born acts (w.putObj l o'):=by
 obtain⟨w1,k,R⟩:=R
 refine⟨w1,k,uz R hl ho (fun h=> ?_) hm (by rw[k.oth];exact hx)⟩
 rcases k.new l h with h|⟨a,v,e,h⟩
 ·exact hs h
 ·have:=cJ R.below a v h
  subst e
  unfold World.cell? at this
  rw[hl]at this
  cases o<;>simp at this
  cases ho
theorem xq(R:cg w0 st g born acts w){l:Nat}{o:Obj}(ho:o.isCells=false)(hl:w.heap[l]?=some o)(hm:l∉fk acts):cg (w0.oE l o ho) st g born acts w:=
 let⟨w1,k,R⟩:=R;⟨w1.oE l o ho,⟨k.dh,k.new,⟨k.keeps.os,k.keeps.tape,k.keeps.output,k.keeps.size,k.keeps.block,k.keeps.oth⟩,k.cell,k.rds,by show rh w1.oth l o=rh w0.oth l o;rw[k.oth]⟩,Er R ho hl hm⟩
theorem Ad{l:Nat}{o:Obj}{ho:o.isCells=false}(R:cg (w0.oE l o ho) st g born acts w)(hx:w0.oth l=none):cg w0 st g born acts w:=by
 obtain⟨w1,k,R⟩:=R
 let w2:bu:=⟨w1.v,w1.w,w1.lent,w1.sub,w1.lentc,w0.oth,w0.othc⟩
 have e:w1=w2.oE l o ho:=by
  have h:=k.oth
  obtain⟨v,w,lent,sub,lentc,oth,othc⟩:=w1
  have h:oth=rh w0.oth l o:=h
  subst h
  rfl
 refine⟨w2,⟨k.dh,k.new,⟨k.keeps.os,k.keeps.tape,k.keeps.output,k.keeps.size,k.keeps.block,k.keeps.oth⟩,k.cell,k.rds,rfl⟩,?_⟩
 rw[e]at R
 exact A9 R hx
theorem fO{l:Nat}{o:Obj}{ho:o.isCells=false}(R:cg (w0.oE l o ho) st g born acts w):w.heap[l]?=some o:=
 let⟨_,k,R⟩:=R;R.marks.oth l o (by rw[k.oth];exact pX _ _ _)
def ke(T:Nat→Prop)(a a':Act):Prop:=(∀t,T t→a'.tmps.getD t Go.undef=a.tmps.getD t Go.undef)∧a'.defers=a.defers∧a'.tmps.size=a.tmps.size
theorem ke.refl(T:Nat→Prop)(a:Act):ke T a a:=⟨fun _ _=>rfl,rfl,rfl⟩
theorem ke.trans{T:Nat→Prop}{a b c:Act}(h:ke T a b)(k:ke T b c):ke T a c:=⟨fun t ht=>(k.1 t ht).trans (h.1 t ht),k.2.1.trans h.2.1,k.2.2.trans h.2.2⟩
theorem ke.put{T:Nat→Prop}(a:Act){d:Option Tmp}(v:Value)(h: ∀t,d=some t→ ¬T t):ke T a (a.put d v):=by
 cases d with
 |none=>exact ke.refl _ _
 |some t=>
  refine⟨fun u hu=> ?_,rfl,by simp[Act.put]⟩
  have:t≠u:=fun e=>h t rfl (e▸hu)
  simp only[Act.put,Array.getD_eq_getD_getElem?,Array.getElem?_setIfInBounds]
  rw[if_neg this]
theorem mc{T:Nat→Prop}(hE:gV P env)(hN:qP P){ro:Option Nat}{n:Nat}{ops:Array Oper}{Q:Exit→Act→World→Prop}{R0:Type}{r0:R0}{Kc:List (Nat×Touch)→St→Option R0}{rest:List Nat}:
  ∀(l:List Nat) (tr:List (Nat×Touch)) (st:St) (g:aB) (born:Nat→Prop) (a:Act) (w:World),eL P cfg env none ops l tr st Kc=some r0→cg w0 st g born (a::asx) w→(∀r,born r→r<st.rs.length)→
   (∀i∈l,∀o,ops[i]?=some o→ ∀t,o.dst=some t→ ¬T t)→
   (∀tr' st' a' w' g' born',Kc tr' st'=some r0→cg w0 st' g' born' (a'::asx) w'→(∀r,born' r→r<st'.rs.length)→ke T a a'→wpOpsIn (rd ro) n P ops Q rest a' w')→wpOpsIn (rd ro) n P ops Q (l++rest) a w
 | [],tr,st,g,born,a,w,h,R,hlt,_,hK=>hK tr st a w g born h R hlt (ke.refl _ _)
 |i::l,tr,st,g,born,a,w,h,R,hlt,hT,hK=>by
  have h:jg P cfg env none ops i st (fun t st=>eL P cfg env none ops l ((i,fG)::tr) st Kc)=some r0:=h
  rw[jS hE.det]at h
  cases hs:jg (R:=Touch×St) P cfg env none ops i st (fun t st=>some (t,st))with
  |none=>rw[hs]at h;cases h
  |some p=>
   obtain⟨t,st2⟩:=p
   rw[hs]at h
   simp only[Option.bind_some]at h
   rw[List.cons_append,wpOpsIn_cons]
   refine lR hE hN hs R (fun j _ h1 hb=>by have:=hlt j hb;have h1:st.rs.length≤j:=h1;omega) hlt fun a' w' g' b' R' h1 _ hv=> ?_
   obtain⟨v,rfl⟩:=hv
   have hst:ke T a (a.put ((ops[i]?).bind (·.dst)) v):=ke.put a v fun t ht=>by
    cases ho:ops[i]? with
    |none=>rw[ho]at ht;cases ht
    |some o=>rw[ho]at ht;exact hT i List.mem_cons_self o ho t ht
   exact mc hE hN l _ st2 g' b' _ w' h R' h1 (fun i hi=>hT i (List.mem_cons_of_mem _ hi)) fun tr' st' a2 w2 g2 b2 k1 k2 k3 k4=>hK tr' st' a2 w2 g2 b2 k1 k2 k3 (hst.trans k4)
end
end
end Go.Am
end
section
/- Soundness: the executor. -/
namespace Go.Am
noncomputable section
attribute [local instance] D.real
structure Good (P : Program) : Prop where
  num : qP P
  mixed : P.follows .mixedOrders = true
def Hi:Ex→Exit
 | .normal=> .normal
 | .exit i=> .exit i
 | .ret=> .ret
section
variable {P : Program} {cfg : Cfg} {env : Env P} {w0 : bu}
theorem jG{R:Type}{h:Option (List Nat)}{F:St→Option R}{st:St}{r0:R}{g:aB}{born:Nat→Prop}{acts:List Act}{w:World}(hh:gI h F st=some r0)(R:cg w0 st g born acts w)(hlt: ∀r,born r→r<st.rs.length):
  ∃st' g' born',F st'=some r0∧cg w0 st' g' born' acts w∧ ∀r,born' r→r<st'.rs.length:=by
 rw[jj]at hh
 cases h with
 |none=>exact⟨st,g,born,hh,R,hlt⟩
 |some live=>
  obtain⟨g',b',R',h'⟩:=BH R hlt live
  exact⟨_,g',b',hh,R',h'⟩
theorem least{p:Nat→Prop}(h: ∃n,p n): ∃n,p n∧ ∀m,p m→n≤m:=by
 obtain⟨n,hn⟩:=h
 induction n using Nat.strongRecOn with
 |_ n ih=>
  by_cases hm: ∃m,m<n∧p m
  ·obtain⟨m,h1,h2⟩:=hm
   exact ih m h1 h2
  ·exact⟨n,hn,fun m h=>Nat.le_of_not_lt fun h'=>hm ⟨m,h',h⟩⟩
def Bj(P:Program){R0:Type}(r0:R0)(wB:bu)(l:Nat)(tl:List Act)(P2:World→Prop)(hand:List AV→St→(St→Option R0)→Option R0):Prop:=
 ∀(vs:List AV) (st:St) (g:aB) (born:Nat→Prop) (a:Act) (w:World) (us:Array Value) (Kgo:St→Option R0) (m:Nat),hand vs st Kgo=some r0→cg wB st g born (a::tl) w→(∀r,born r→r<st.rs.length)→
  ai st.get g vs us.toList→(∀r∈AV.ah vs,born r)→
  ∃fnid tmps x y,(Instr.yield l us).run P w= .ok (.round l fnid tmps x y) w∧RoundIn (rd none) m P l fnid tmps x y w fun e w''=>
   (e= .returned (.bool true)∧ ∃st' g' born',Kgo st'=some r0∧cg wB st' g' born' (a::tl) w''∧ ∀r,born' r→r<st'.rs.length)∨(e= .returned (.bool false)∧P2 w'')
def Yields(l N:Nat)(a:Act):Prop:=a.tmps.getD 0 Go.undef= .func (.yield l) #[] #[]∧N≤a.tmps.size∧a.defers= []
theorem Yields.stays{l N:Nat}{T:Nat→Prop}{a a':Act}(h:Yields l N a)(hs:ke T a a')(hT:T 0):Yields l N a':=⟨(hs.1 0 hT).trans h.1,by rw[hs.2.2];exact h.2.1,hs.2.1.trans h.2.2⟩
theorem Bs{o:Oper}{c:Call}{x:Operand}{l:Nat}{a:Act}{w:World}(ho:o.op= .call c)(hc:c.callee= .value x)(hx:a.eval x= .func (.yield l) #[] #[]):
  (execOp a.eval o).run P w=(Instr.yield l (c.args.map a.eval)).run P w:=by
 unfold execOp;rw[ho]
 simp only[resolve,hc,hx,Deferred.ofValue,invoke,Sem.run_bind,Result.andThen_ok,Sem.run_pure,Array.append_empty,Array.empty_append]
theorem EY{o:Oper}{t:TypeId}{v:Nat}{b:Bool}{a:Act}{w:World}(ho:o.op= .unOp .not t (.tmp v))(hx:a.tmps.getD v Go.undef= .bool b):(execOp a.eval o).run P w= .ok (.value (.bool !b)) w:=by
 have hx:a.eval (.tmp v)= .bool b:=hx
 unfold execOp;rw[ho]
 simp[hx,Op.unary]
theorem oj{a:Act}{d:Nat}{v:Value}(h:d<a.tmps.size):(a.put (some d) v).tmps.getD d Go.undef=v:=by
 simp[Act.put,h]
theorem Ca{n:Nat}(h:3≤n):List.range n=0::(List.range' 1 (n-3)++ [n-2,n-1]):=by
 obtain⟨m,rfl⟩: ∃m,n=m+3:=⟨n-3,by omega⟩
 rw[List.range_eq_range',List.range'_succ]
 congr 1
 rw[show m+2=m+1+1 from rfl,List.range'_concat,List.range'_concat,List.append_assoc]
 simp
 omega
theorem BN(hE:gV P env)(hG:Good P){wB:bu}{l N n:Nat}{tl:List Act}{R0:Type}{r0:R0}{P2:World→Prop}{hand:List AV→St→(St→Option R0)→Option R0}(hH:Bj P r0 wB l tl P2 hand)
  {x y:Code} {u:Array Oper×Nat×Array Operand×Nat×Nat} (hu:rO x y=some u) {K:cS R0} {Q:Exit→Act→World→Prop} {st:St} {g:aB} {born:Nat→Prop} {a:Act} {w:World}
  (h:Co P cfg env hand N u st K=some r0) (R:cg wB st g born (a::tl) w) (hlt: ∀r,born r→r<st.rs.length) (hY:Yields l N a)
  (hK: ∀e st' a' w' g' born',K e st'=some r0→cg wB st' g' born' (a'::tl) w'→(∀r,born' r→r<st'.rs.length)→Yields l N a'→Q (Hi e) a' w')
  (hX: ∀a w,a.defers= []→P2 w→Q .ret a w):(Code.seq x y).wpIn (rd none) n P Q a w:=by
 unfold rO at hu
 split at hu
 next id ops d=>
  split at hu
  next t v t' args d' v' hm hc hn=>
   generalize hb:(Nat.ble 3 ops.size&&(Nat.beq t t'&&(Nat.beq v v'&&(Nat.beq d d'&&(!(Nat.beq t 0)&&(!(Nat.beq v 0)&&(!(Nat.beq d 0)&&(List.range' 1 (ops.size-3)).all (BS ops t))))))))=b at hu
   cases b with
   |false=>cases hu
   |true=>
   simp only[cond_true,Option.some.injEq]at hu
   subst hu
   simp only[Bool.and_eq_true,Bool.not_eq_true']at hb
   obtain⟨h3,ht,hv,hd,ht0,hv0,hd0,hall⟩:=hb
   have h3:=jM h3
   have ht:=cX ht
   have hv:=cX hv
   have hd:=cX hd
   subst ht;subst hv;subst hd
   have ne0: ∀k,Nat.beq k 0=false→0≠k:=fun k hk e=>by subst e;simp at hk
   obtain⟨o0,ho0,hm⟩:=Option.bind_eq_some_iff.1 hm
   obtain⟨o1,ho1,hc⟩:=Option.bind_eq_some_iff.1 hc
   obtain⟨o2,ho2,hn⟩:=Option.bind_eq_some_iff.1 hn
   have m0:o0.op= .move (.tmp 0)∧o0.dst=some t∧o0.guard=none:=by
    unfold Eo at hm
    split at hm
    ·next h1 h2 h3=>injection hm with hm;subst hm;exact⟨h1,h2,h3⟩
    ·cases hm
   have m1: ∃c,o1.op= .call c∧c.callee= .value (.tmp t)∧c.args=args∧o1.dst=some v∧o1.guard=none:=by
    unfold E3 at hc
    split at hc
    ·next c v1 h1 h2 h3=>
     split at hc
     ·next t1 h4=>
      injection hc with hc
      injection hc with e1 hc
      injection hc with e2 e3
      subst e1;subst e2;subst e3
      exact⟨c,h1,h4,rfl,h2,h3⟩
     ·cases hc
    ·cases hc
   have m2: ∃ty,o2.op= .unOp .not ty (.tmp v)∧o2.dst=some d∧o2.guard=none:=by
    unfold G9 at hn
    split at hn
    ·next ty v1 d1 h1 h2 h3=>
     injection hn with hn
     injection hn with e1 e2
     subst e1;subst e2
     exact⟨ty,h1,h2,h3⟩
    ·cases hn
   obtain⟨m0a,m0b,m0c⟩:=m0
   obtain⟨c,m1a,m1b,rfl,m1c,m1d⟩:=m1
   obtain⟨ty,m2a,m2b,m2c⟩:=m2
   unfold Co at h
   simp only at h
   generalize hbb:(Nat.blt t N&&(Nat.blt v N&&Nat.blt d N))=bb at h
   cases bb with
   |false=>cases h
   |true=>
   simp only[Bool.and_eq_true]at hbb
   have lt:=cE hbb.1
   have lv:=cE hbb.2.1
   have ld:=cE hbb.2.2
   simp only[cond_true,St.force_eq]at h
   obtain⟨y1,y2,y3⟩:=hY
   have wnt: ∀{o:Oper} {a:Act},o.guard=none→Region.wanted o (yielded ops a.tmps)=true:=fun h=>by unfold Region.wanted;rw[h]
   refine wpIn_seq (wpIn_region ?_)
   rw[Ca h3,wpOpsIn_cons]
   unfold wpOpIn
   rw[ho0]
   simp only[wnt m0c,if_true]
   refine pR (fun c hc=>by rw[m0a]at hc;cases hc) ?_
   have e0:(execOp a.eval o0).run P w= .ok (.value (.func (.yield l) #[] #[])) w:=by
    have:a.eval (.tmp 0)= .func (.yield l) #[] #[]:=y1
    unfold execOp;rw[m0a]
    simp[this]
   unfold Oper.wp
   rw[e0,Oper.upon_value,m0b]
   have hp:=mc (T:=fun k=>k=0∨k=t) (rest:= [ops.size-2,ops.size-1]) (Q:=Exit.then ((Code.cond (.tmp d) .ret .skip).wpIn (rd none) n P Q) Q) (ro:=none) (n:=n) hE hG.num (List.range' 1 (ops.size-3)) [] _ g born _ w h
    (mq R (some t) (v:= .func (.yield l) #[] #[]) (av:= .undef) (by simp[ae]) (fun r hr=>by simp[AV.roots]at hr)) (fun r hr=>by rw[fB];exact hlt r hr)
    (fun i hi o ho k hk hT=>by
     have:=List.all_eq_true.1 hall i hi
     unfold BS at this
     rw[ho]at this
     simp only[vC,hk,Bool.and_eq_true,Bool.not_eq_true']at this
     rcases hT with rfl|rfl
     ·simp at this
     ·simp at this) (fun tr' st1 a1 w1 g1 b1 h R1 hlt1 hst=> ?_)
   ·exact hp
   have a1y:a1.tmps.getD 0 Go.undef= .func (.yield l) #[] #[]:=(hst.1 0 (.inl rfl)).trans (by
    have:=(ke.put (T:=fun k=>k=0) a (d:=some t) (.func (.yield l) #[] #[]) (fun k hk h0=>by injection hk with hk;subst hk;subst h0;exact absurd rfl (ne0 _ ht0))).1 0 rfl
    rw[this];exact y1)
   have a1t:a1.tmps.getD t Go.undef= .func (.yield l) #[] #[]:=(hst.1 t (.inr rfl)).trans (oj (by omega))
   have a1s:N≤a1.tmps.size:=by rw[hst.2.2];simp[Act.put];exact y2
   have a1d:a1.defers= []:=hst.2.1.trans y3
   rw[wpOpsIn_cons]
   unfold wpOpIn
   rw[ho1]
   simp only[wnt m1d,if_true]
   refine⟨fun _ _=>trivial,?_⟩
   rw[Oper.semAt_eq _ _ _ (fun c' hc'=>by rw[m1a]at hc';cases hc'),Bs m1a m1b a1t]
   obtain⟨hA,hAb⟩:=Gz R1 c.args.toList
   obtain⟨fnid,tmps,ax,bx,hrun,hround⟩:=hH _ st1 g1 b1 a1 w1 (c.args.map a1.eval) _ (n-1) h R1 hlt1 (by simpa using hA) hAb
   rw[hrun,Oper.uponIn_round]
   refine⟨fun h=>by simp at h,RoundIn.mono hround fun e w2 he=> ?_⟩
   have rest: ∀(b:Bool) (st2:St) (Q':Act→World→Prop),(∀a3,Yields l N a3→a3.defers= []→a3.tmps.getD d Go.undef= .bool (!b)→a3=((a1.put (some v) (.bool b)).put (some d) (.bool !b))→Q' a3 w2)→
     wpOpsIn (rd none) n P ops (Exit.then Q' Q) [ops.size-1] (a1.put o1.dst (.bool b)) w2:=by
    intro b st2 Q' hq
    rw[wpOpsIn_cons,m1c]
    unfold wpOpIn
    rw[ho2]
    simp only[wnt m2c,if_true]
    refine pR (fun c hc=>by rw[m2a]at hc;cases hc) ?_
    unfold Oper.wp
    rw[EY m2a (oj (by omega)),Oper.upon_value,m2b]
    show Q' _ _
    have hs1:=ke.put (T:=fun k=>k=0) a1 (d:=some v) (.bool b) (fun k hk h0=>by injection hk with hk;subst hk;subst h0;exact absurd rfl (ne0 _ hv0))
    have hs2:=ke.put (T:=fun k=>k=0) (a1.put (some v) (.bool b)) (d:=some d) (.bool !b) (fun k hk h0=>by injection hk with hk;subst hk;subst h0;exact absurd rfl (ne0 _ hd0))
    have hY3:Yields l N ((a1.put (some v) (.bool b)).put (some d) (.bool !b)):=Yields.stays (T:=fun k=>k=0) ⟨a1y,a1s,a1d⟩ (hs1.trans hs2) rfl
    exact hq _ hY3 hY3.2.2 (oj (by simp[Act.put];omega)) rfl
   rcases he with⟨rfl,st2,g2,b2,h,R2,hlt2⟩|⟨rfl,hp2⟩
   ·refine rest true st2 _ fun a3 hY3 hd3 hdd e3=> ?_
    refine wpIn_cond_false (by exact hdd) (wpIn_skip ?_)
    subst e3
    refine hK .normal _ _ w2 g2 b2 h (mq (mq R2 (some v) (by rw[ae]) (fun r hr=>by simp[AV.roots]at hr)) (some d) (by rw[ae];rfl) (fun r hr=>by simp[AV.roots]at hr)) (fun r hr=> ?_) hY3
    rw[fB,fB];exact hlt2 r hr
   ·refine rest false st _ fun a3 hY3 hd3 hdd _=> ?_
    exact wpIn_cond_true (by exact hdd) (wpIn_ret (hX a3 w2 hd3 hp2))
  ·cases hu
 ·cases hu
theorem Aw(hE:gV P env)(hG:Good P){wB:bu}{l N:Nat}{tl:List Act}{R0:Type}{r0:R0}{P2:World→Prop}{hand:List AV→St→(St→Option R0)→Option R0}(hH:Bj P r0 wB l tl P2 hand)(nn kl fid:Nat):
  ∀(c:Code) (K:cS R0) (Q:Exit→Act→World→Prop) (st:St) (g:aB) (born:Nat→Prop) (a:Act) (w:World),
  fF P cfg env hand N kl fid c st K=some r0→cg wB st g born (a::tl) w→(∀r,born r→r<st.rs.length)→Yields l N a→
  (∀e st' a' w' g' born',K e st'=some r0→cg wB st' g' born' (a'::tl) w'→(∀r,born' r→r<st'.rs.length)→Yields l N a'→Q (Hi e) a' w')→
  (∀a w,a.defers= []→P2 w→Q .ret a w)→c.wpIn (rd none) nn P Q a w:=by
 intro c
 induction c with
 |skip=>intro K Q st g born a w h R hlt hY hK hX;exact wpIn_skip (hK .normal st a w g born h R hlt hY)
 |region id ops draw=>
  intro K Q st g born a w h R hlt hY hK hX
  unfold fF at h
  cases hc:(!draw&&ops.toList.all fun o=> !(vC o 0))with
  |false=>rw[hc]at h;cases h
  |true=>
   rw[hc]at h
   simp only[cond_true]at h
   simp only[Bool.and_eq_true,Bool.not_eq_true']at hc
   obtain⟨hdr,hall⟩:=hc
   subst hdr
   refine wpIn_region ?_
   have hp:=mc (T:=fun k=>k=0) (rest:= []) (Q:=Q) (ro:=none) (n:=nn) hE hG.num (List.range ops.size) [] _ g born _ w h R hlt
    (fun i _ o ho k hk hT=>by
     have:=List.all_eq_true.1 hall o (by
      have:=Array.mem_of_getElem? ho
      simpa using this)
     simp only[vC,hk,Bool.not_eq_true']at this
     subst hT
     simp at this) (fun tr' st1 a1 w1 g1 b1 h R1 hlt1 hst=>hK .normal st1 a1 w1 g1 b1 h R1 hlt1 (hY.stays hst rfl))
   rw[List.append_nil]at hp
   exact hp
 |seq x y ihx ihy=>
  intro K Q st g born a w h R hlt hY hK hX
  unfold fF at h
  split at h
  ·next u hu=>exact BN hE hG hH hu h R hlt hY hK hX
  ·refine wpIn_seq (ihx _ _ st g born a w h R hlt hY (fun e st' a' w' g' b' h' R' hlt' hY'=> ?_) (fun a w h1 h2=>hX a w h1 h2))
   cases e with
   |normal=>
    have h':gI (cfg.joins fid (key y)) (fun st=>fF P cfg env hand N kl fid y st K) st'=some r0:=h'
    obtain⟨st2,g2,b2,h2,R2,hlt2⟩:=jG h' R' hlt'
    exact ihy K Q st2 g2 b2 a' w' h2 R2 hlt2 hY' hK hX
   |exit i=>exact hK (.exit i) st' a' w' g' b' h' R' hlt' hY'
   |ret=>exact hK .ret st' a' w' g' b' h' R' hlt' hY'
 |cond x c d ihc ihd=>
  intro K Q st g born a w h R hlt hY hK hX
  unfold fF at h
  have hx:=(yB R x).1
  generalize an st x=v at h hx
  cases v with
  |bool b=>
   rw[ae]at hx
   have h:(if b=true then fF P cfg env hand N kl fid c st K else fF P cfg env hand N kl fid d st K)=some r0:=h
   refine wpIn_cond hx ?_
   cases b with
   |true=>exact ihc K Q st g born a w h R hlt hY hK hX
   |false=>exact ihd K Q st g born a w h R hlt hY hK hX
  |kb b=>
   rw[ae]at hx
   refine wpIn_cond hx ?_
   cases b with
   |true=>exact ihc K Q st g born a w h R hlt hY hK hX
   |false=>exact ihd K Q st g born a w h R hlt hY hK hX
  |_=>cases h
 |block id c ih=>
  intro K Q st g born a w h R hlt hY hK hX
  unfold fF at h
  refine wpIn_block (ih _ _ st g born a w h R hlt hY (fun e st' a' w' g' b' h' R' hlt' hY'=> ?_) (fun a w h1 h2=>hX a w h1 h2))
  cases e with
  |normal=>exact hK .normal st' a' w' g' b' h' R' hlt' hY'
  |ret=>exact hK .ret st' a' w' g' b' h' R' hlt' hY'
  |exit i=>
   have h':(bif Nat.beq i id then K .normal st' else K (.exit i) st')=some r0:=h'
   show(if i=id then Q .normal a' w' else Q (.exit i) a' w')
   cases hb:Nat.beq i id with
   |true=>
    rw[hb]at h'
    rw[if_pos (cX hb)]
    exact hK .normal st' a' w' g' b' h' R' hlt' hY'
   |false=>
    rw[hb]at h'
    have:i≠id:=fun e=>by subst e;simp at hb
    rw[if_neg this]
    exact hK (.exit i) st' a' w' g' b' h' R' hlt' hY'
 |loop c ih=>
  intro K Q st g born a w h R hlt hY hK hX
  unfold fF at h
  obtain⟨st1,g1,b1,h1,R1,hlt1⟩:=jG h R hlt
  let J:Nat→Act→World→Prop:=fun n a w=> ∃st g born,jC (fun st K=>fF P cfg env hand N kl fid c st K) (cfg.loops fid (key c)) n st K=some r0∧cg wB st g born (a::tl) w∧(∀r,born r→r<st.rs.length)∧Yields l N a
  classical
  let μ:Act→World→Nat:=fun a w=>if h: ∃n,J n a w then Classical.choose (least h)else 0
  have hμ: ∀n a w,J n a w→J (μ a w) a w∧μ a w≤n:=by
   intro n a w hj
   have h: ∃n,J n a w:=⟨n,hj⟩
   have e:μ a w=Classical.choose (least h):=dif_pos h
   have hs:=Classical.choose_spec (least h)
   rw[e]
   exact⟨hs.1,hs.2 n hj⟩
  refine wpIn_loop (fun a w=> ∃n,J n a w) μ ⟨kl,st1,g1,b1,h1,R1,hlt1,hY⟩ fun a w hj=> ?_
  obtain⟨n',hj⟩:=hj
  obtain⟨hj,_⟩:=hμ n' a w hj
  generalize hn:μ a w=m at hj
  obtain⟨s,g,born,hl,R,hlt,hY⟩:=hj
  cases m with
  |zero=>cases hl
  |succ m=>
   refine ih _ _ s g born a w hl R hlt hY (fun e st' a' w' g' b' h' R' hlt' hY'=> ?_) (fun a w h1 h2=>hX a w h1 h2)
   cases e with
   |normal=>
    have h':gI (cfg.loops fid (key c)) (fun st''=>jC (fun st K=>fF P cfg env hand N kl fid c st K) (cfg.loops fid (key c)) m st'' K) st'=some r0:=h'
    obtain⟨st2,g2,b2,h2,R2,hlt2⟩:=jG h' R' hlt'
    have hj':J m a' w':=⟨st2,g2,b2,h2,R2,hlt2,hY'⟩
    exact⟨⟨m,hj'⟩,by have:=(hμ m a' w' hj').2;omega⟩
   |exit i=>exact hK (.exit i) st' a' w' g' b' h' R' hlt' hY'
   |ret=>exact hK .ret st' a' w' g' b' h' R' hlt' hY'
 |exit id=>intro K Q st g born a w h R hlt hY hK hX;exact wpIn_exit (hK (.exit id) st a w g born h R hlt hY)
 |ret=>intro K Q st g born a w h R hlt hY hK hX;exact wpIn_ret (hK .ret st a w g born h R hlt hY)
 |rangeFunc f ps x y _ _=>intro K Q st g born a w h;cases h
 |scope c _=>intro K Q st g born a w h;cases h
 |label l=>intro K Q st g born a w h;cases h
 |goto l=>intro K Q st g born a w h;cases h
 |refuse s=>intro K Q st g born a w h;cases h
theorem qX{l:Nat}{o:Loop}{ho:(Obj.loop o).isCells=false}{st:St}{g:aB}{born:Nat→Prop}{acts:List Act}{w:World}(R:cg (w0.oE l (.loop o) ho) st g born acts w):l∉fk acts:=fun h=>by
 have h2:=fO R
 obtain⟨_,_,R⟩:=R
 have h1:=(R.marks.empty l h).1
 rw[h2]at h1
 cases h1
theorem kf{l:Nat}{o o':Loop}{ho:(Obj.loop o).isCells=false}{st:St}{g:aB}{born:Nat→Prop}{acts:List Act}{w:World}(R:cg (w0.oE l (.loop o) ho) st g born acts w)(hs: ¬w0.dh l)(hx:w0.oth l=none):
  cg w0 st g born acts (w.putObj l (.loop o'))∧cg (w0.oE l (.loop o') rfl) st g born acts (w.putObj l (.loop o')):=by
 have h1:=sP (o':= .loop o') (Ad R hx) (fO R) rfl hs (qX R) hx
 exact⟨h1,xq h1 rfl (World.putObj_heap_same (Array.getElem?_eq_some_iff.1 (fO R)).1) (qX R)⟩
theorem wW{av:AV}{r:Nat}: ∀(f:List AV) (d:Nat),r∈AV.ah (f.set d av)→r∈AV.ah f∨r∈av.roots
 | [],d,h=>by cases d<;>exact .inl h
 |v::vs,0,h=>by
  simp only[List.set_cons_zero,AV.ah,List.mem_append]at h⊢
  rcases h with h|h
  ·exact .inr h
  ·exact .inl (.inr h)
 |v::vs,d+1,h=>by
  simp only[List.set_cons_succ,AV.ah,List.mem_append]at h⊢
  rcases h with h|h
  ·exact .inl (.inl h)
  ·rcases wW vs d h with h|h
   ·exact .inl (.inr h)
   ·exact .inr h
theorem Ef{get:Get}{g:aB}{f:List AV}{tm:Array Value}(h1:f.length≤tm.size)(h2: ∀i,ae get g (f.getD i .undef) (tm.getD i Go.undef)){av:AV}{v:Value}(d:Nat)(hv:ae get g av v):
  (f.set d av).length≤(tm.setIfInBounds d v).size∧ ∀i,ae get g ((f.set d av).getD i .undef) ((tm.setIfInBounds d v).getD i Go.undef):=by
 refine⟨by simpa using h1,fun i=> ?_⟩
 by_cases e:i=d
 ·subst e
  rcases Nat.lt_or_ge i f.length with h|h
  ·have h':i<tm.size:=by omega
   have e1:(f.set i av).getD i .undef=av:=by simp[List.getD,h]
   have e2:(tm.setIfInBounds i v).getD i Go.undef=v:=by simp[h']
   rw[e1,e2];exact hv
  ·have e1:(f.set i av).getD i .undef= .undef:=by
    simp[List.getD,List.getElem?_eq_none (show(f.set i av).length≤i by simpa using h)]
   rw[e1];simp[ae]
 ·have e1:(f.set d av).getD i .undef=f.getD i .undef:=by
   simp only[List.getD,List.getElem?_set];rw[if_neg (Ne.symm e)]
  have e2:(tm.setIfInBounds d v).getD i Go.undef=tm.getD i Go.undef:=by
   simp only[Array.getD_eq_getD_getElem?,Array.getElem?_setIfInBounds];rw[if_neg (Ne.symm e)]
  rw[e1,e2];exact h2 i
theorem tj{get:Get}{g:aB}{born:Nat→Prop}: ∀(ps:List Tmp) (vs:List AV) (us:List Value) (f:List AV) (tm:Array Value),ai get g vs us→(∀r∈AV.ah vs,born r)→f.length≤tm.size→(∀i,ae get g (f.getD i .undef) (tm.getD i Go.undef))→(∀r∈AV.ah f,born r)→
  ((ps.zip vs).foldl (fun f x=>f.set x.1 x.2) f).length≤((ps.zip us).foldl (fun t x=>t.setIfInBounds x.1 x.2) tm).size∧
  (∀i,ae get g (((ps.zip vs).foldl (fun f x=>f.set x.1 x.2) f).getD i .undef) (((ps.zip us).foldl (fun t x=>t.setIfInBounds x.1 x.2) tm).getD i Go.undef))∧ ∀r∈AV.ah ((ps.zip vs).foldl (fun f x=>f.set x.1 x.2) f),born r
 | [],vs,us,f,tm,_,_,h1,h2,h3=>⟨by simpa using h1,by simpa using h2,by simpa using h3⟩
 |p::ps,[],us,f,tm,h,_,h1,h2,h3=>by
  rw[ai]at h
  subst h
  exact⟨by simpa using h1,by simpa using h2,by simpa using h3⟩
 |p::ps,v::vs,us,f,tm,h,hb,h1,h2,h3=>by
  rw[ai]at h
  obtain⟨u,us,rfl,hv,h⟩:=h
  obtain⟨k1,k2⟩:=Ef h1 h2 p hv
  simp only[List.zip_cons_cons,List.foldl_cons]
  refine tj ps vs us (f.set p v) (tm.setIfInBounds p u) h (fun r hr=>hb r (by simp[AV.ah,hr])) k1 k2 fun r hr=> ?_
  rcases wW f p hr with hr|hr
  ·exact h3 r hr
  ·exact hb r (by simp[AV.ah,hr])
theorem qj(hE:gV P env)(hG:Good P)(kl fid:Nat): ∀(c:Code) (w0:bu) (ro:Option Nat) (nn:Nat) (R0:Type) (r0:R0) (K:cS R0) (Q:Exit→Act→World→Prop) (asx:List Act) (st:St) (g:aB) (born:Nat→Prop) (a:Act) (w:World),(ro=none∨cQ c=true)→
  exec P cfg env kl fid c st K=some r0→cg w0 st g born (a::asx) w→(∀r,born r→r<st.rs.length)→
  (∀e st' a' w' g' born',K e st'=some r0→cg w0 st' g' born' (a'::asx) w'→(∀r,born' r→r<st'.rs.length)→Q (Hi e) a' w')→c.wpIn (rd ro) nn P Q a w:=by
 intro c
 induction c with
 |skip=>intro w0 ro nn R0 r0 K Q asx st g born a w hro h R hlt hK;exact wpIn_skip (hK .normal st a w g born h R hlt)
 |region id ops draw=>
  intro w0 ro nn R0 r0 K Q asx st g born a w hro h R hlt hK
  unfold exec at h
  cases draw with
  |false=>
   simp only[cond_false]at h
   exact wpIn_region (pA hE hG.num (List.range ops.size) [] st g born a w h R hlt fun tr' st' a' w' g' b' h' R' hlt'=>hK .normal st' a' w' g' b' h' R' hlt')
  |true=>
   simp only[cond_true,ic,cY]at h
   rw[dG hE.det]at h
   cases hr:eL (R:=List (Nat×Touch)×St) P cfg env (some st.rs.length) ops (List.range (gD (Region.before ops).toList ops.size)) [] st (fun tr st=>some (tr,st))with
   |none=>rw[hr]at h;cases h
   |some p=>
    obtain⟨tr,sE⟩:=p
    rw[hr]at h
    simp only[Option.bind_some]at h
    cases ht:(lD ops (Region.before ops).toList tr&&(tY st.rs.length (Region.before ops).toList tr&&lN ops))with
    |false=>rw[ht]at h;cases h
    |true=>
     rw[ht]at h
     simp only[cond_true]at h
     exact Ar hE hG.num hG.mixed hr ht h R hlt fun tr' st' a' w' g' b' h' R' hlt'=>hK .normal st' a' w' g' b' h' R' hlt'
 |seq x y ihx ihy=>
  intro w0 ro nn R0 r0 K Q asx st g born a w hro h R hlt hK
  unfold exec at h
  refine wpIn_seq (ihx w0 ro nn R0 r0 _ _ asx st g born a w (hro.imp (fun h=>h) fun h=>by simp only[cQ,Bool.and_eq_true]at h;exact h.1) h R hlt fun e st' a' w' g' b' h' R' hlt'=> ?_)
  cases e with
  |normal=>
   have h':gI (cfg.joins fid (key y)) (fun st=>exec P cfg env kl fid y st K) st'=some r0:=h'
   obtain⟨st2,g2,b2,h2,R2,hlt2⟩:=jG h' R' hlt'
   exact ihy w0 ro nn R0 r0 K Q asx st2 g2 b2 a' w' (hro.imp (fun h=>h) fun h=>by simp only[cQ,Bool.and_eq_true]at h;exact h.2) h2 R2 hlt2 hK
  |exit i=>exact hK (.exit i) st' a' w' g' b' h' R' hlt'
  |ret=>exact hK .ret st' a' w' g' b' h' R' hlt'
 |cond x c d ihc ihd=>
  intro w0 ro nn R0 r0 K Q asx st g born a w hro h R hlt hK
  unfold exec at h
  have hx:=(yB R x).1
  generalize an st x=v at h hx
  cases v with
  |bool b=>
   rw[ae]at hx
   have h:(if b=true then exec P cfg env kl fid c st K else exec P cfg env kl fid d st K)=some r0:=h
   refine wpIn_cond hx ?_
   cases b with
   |true=>exact ihc w0 ro nn R0 r0 K Q asx st g born a w (hro.imp (fun h=>h) fun h=>by simp only[cQ,Bool.and_eq_true]at h;exact h.1) h R hlt hK
   |false=>exact ihd w0 ro nn R0 r0 K Q asx st g born a w (hro.imp (fun h=>h) fun h=>by simp only[cQ,Bool.and_eq_true]at h;exact h.2) h R hlt hK
  |kb b=>
   rw[ae]at hx
   refine wpIn_cond hx ?_
   cases b with
   |true=>exact ihc w0 ro nn R0 r0 K Q asx st g born a w (hro.imp (fun h=>h) fun h=>by simp only[cQ,Bool.and_eq_true]at h;exact h.1) h R hlt hK
   |false=>exact ihd w0 ro nn R0 r0 K Q asx st g born a w (hro.imp (fun h=>h) fun h=>by simp only[cQ,Bool.and_eq_true]at h;exact h.2) h R hlt hK
  |nb n=>
   rw[ae]at hx
   obtain⟨b,hx,hnb⟩:=hx
   have h:(bif Nat.beq (cfg.mode fid) 0 then(if decide (n=0)=true then ways (exec P cfg env kl fid c st K) (exec P cfg env kl fid d st K)else exec P cfg env kl fid d st K)else none)=some r0:=h
   cases hm:Nat.beq (cfg.mode fid) 0 with
   |false=>rw[hm]at h;cases h
   |true=>
    rw[hm]at h
    simp only[cond_true,decide_eq_true_eq]at h
    refine wpIn_cond hx ?_
    split at h
    ·obtain⟨h1,h2⟩:=Dz h
     cases b with
     |true=>exact ihc w0 ro nn R0 r0 K Q asx st g born a w (hro.imp (fun h=>h) fun h=>by simp only[cQ,Bool.and_eq_true]at h;exact h.1) h1 R hlt hK
     |false=>exact ihd w0 ro nn R0 r0 K Q asx st g born a w (hro.imp (fun h=>h) fun h=>by simp only[cQ,Bool.and_eq_true]at h;exact h.2) h2 R hlt hK
    ·next hn=>
     rw[hnb hn]
     exact ihd w0 ro nn R0 r0 K Q asx st g born a w (hro.imp (fun h=>h) fun h=>by simp only[cQ,Bool.and_eq_true]at h;exact h.2) h R hlt hK
  |_=>cases h
 |block id c ih=>
  intro w0 ro nn R0 r0 K Q asx st g born a w hro h R hlt hK
  unfold exec at h
  refine wpIn_block (ih w0 ro nn R0 r0 _ _ asx st g born a w (hro.imp (fun h=>h) fun h=>by simpa only[cQ]using h) h R hlt fun e st' a' w' g' b' h' R' hlt'=> ?_)
  cases e with
  |normal=>exact hK .normal st' a' w' g' b' h' R' hlt'
  |ret=>exact hK .ret st' a' w' g' b' h' R' hlt'
  |exit i=>
   have h':(bif Nat.beq i id then K .normal st' else K (.exit i) st')=some r0:=h'
   show(if i=id then Q .normal a' w' else Q (.exit i) a' w')
   cases hb:Nat.beq i id with
   |true=>
    rw[hb]at h'
    rw[if_pos (cX hb)]
    exact hK .normal st' a' w' g' b' h' R' hlt'
   |false=>
    rw[hb]at h'
    have:i≠id:=fun e=>by subst e;simp at hb
    rw[if_neg this]
    exact hK (.exit i) st' a' w' g' b' h' R' hlt'
 |loop c ih=>
  intro w0 ro nn R0 r0 K Q asx st g born a w hro h R hlt hK
  unfold exec at h
  obtain⟨st1,g1,b1,h1,R1,hlt1⟩:=jG h R hlt
  let J:Nat→Act→World→Prop:=fun n a w=> ∃st g born,jC (fun st K=>exec P cfg env kl fid c st K) (cfg.loops fid (key c)) n st K=some r0∧cg w0 st g born (a::asx) w∧ ∀r,born r→r<st.rs.length
  classical
  let μ:Act→World→Nat:=fun a w=>if h: ∃n,J n a w then Classical.choose (least h)else 0
  have hμ: ∀n a w,J n a w→J (μ a w) a w∧μ a w≤n:=by
   intro n a w hj
   have h: ∃n,J n a w:=⟨n,hj⟩
   have e:μ a w=Classical.choose (least h):=dif_pos h
   have hs:=Classical.choose_spec (least h)
   rw[e]
   exact⟨hs.1,hs.2 n hj⟩
  refine wpIn_loop (fun a w=> ∃n,J n a w) μ ⟨kl,st1,g1,b1,h1,R1,hlt1⟩ fun a w hj=> ?_
  obtain⟨n',hj⟩:=hj
  obtain⟨hj,_⟩:=hμ n' a w hj
  generalize hn:μ a w=m at hj
  obtain⟨s,g,born,hl,R,hlt⟩:=hj
  cases m with
  |zero=>cases hl
  |succ m=>
   refine ih w0 ro nn R0 r0 _ _ asx s g born a w (hro.imp (fun h=>h) fun h=>by simpa only[cQ]using h) hl R hlt fun e st' a' w' g' b' h' R' hlt'=> ?_
   cases e with
   |normal=>
    have h':gI (cfg.loops fid (key c)) (fun st''=>jC (fun st K=>exec P cfg env kl fid c st K) (cfg.loops fid (key c)) m st'' K) st'=some r0:=h'
    obtain⟨st2,g2,b2,h2,R2,hlt2⟩:=jG h' R' hlt'
    have hj':J m a' w':=⟨st2,g2,b2,h2,R2,hlt2⟩
    exact⟨⟨m,hj'⟩,by have:=(hμ m a' w' hj').2;omega⟩
   |exit i=>exact hK (.exit i) st' a' w' g' b' h' R' hlt'
   |ret=>exact hK .ret st' a' w' g' b' h' R' hlt'
 |exit id=>intro w0 ro nn R0 r0 K Q asx st g born a w hro h R hlt hK;exact wpIn_exit (hK (.exit id) st a w g born h R hlt)
 |ret=>intro w0 ro nn R0 r0 K Q asx st g born a w hro h R hlt hK;exact wpIn_ret (hK .ret st a w g born h R hlt)
 |rangeFunc hh ps x y ihx ihy=>
  intro w0 ro nn R0 r0 K Q asx st g born a w hro h R hlt hK
  obtain rfl:ro=none:=hro.resolve_right (by simp[cQ])
  unfold exec at h
  generalize hnr:(cQ x&&cQ y)=b at h
  cases b with
  |false=>cases h
  |true=>
  simp only[cond_true]at h
  simp only[Bool.and_eq_true]at hnr
  obtain⟨hnx,hny⟩:=hnr
  obtain⟨hxv,hxb⟩:=yB R hh
  split at h
  rotate_left
  ·cases h
  next f cap hev=>
  rw[hev]at hxv hxb
  rw[ae]at hxv
  obtain⟨vf,vc,hvx,hf1,hf2⟩:=hxv
  rw[ai]at hf1
  have e1:vf= #[]:=by simpa using hf1
  subst e1
  split at h
  ·cases h
  next fn hfn=>
  split at h
  ·cases h
  next c hbd=>
  generalize hres:fn.results.isEmpty=rb at h
  cases rb with
  |false=>cases h
  |true=>
  simp only[cond_true,St.force_eq]at h
  obtain⟨wR,hle,R⟩:=R
  have hszR:=R.below.size
  have hsz:=Nat.le_trans hle.keeps.size R.below.size
  have hoth: ∀k,w.heap.size≤k→wR.oth k=none:=fun k hk=>by
   cases ho:wR.oth k with
   |none=>rfl
   |some o=>
    have:=(Array.getElem?_eq_some_iff.1 (R.marks.oth k o ho)).1
    omega
  refine wpIn_rangeFunc fun fnid _=> ?_
  obtain⟨rc,hrc⟩: ∃rc:LoopState→Option Code→Loop,rc=fun s pe=>{state:=s,pending:=pe,fn:=fnid,tmps:=a.tmps,params:=ps,assign:=x,body:=y,defers:=w.heap.size}:=⟨_,rfl⟩
  obtain⟨W1,hW1⟩: ∃W1,(w.alloc (.deferred (some []))).alloc (.loop (rc .ready none))=W1:=⟨_,rfl⟩
  obtain⟨l,hl⟩: ∃l,l=w.heap.size+1:=⟨_,rfl⟩
  have hL1:W1.heap[l]?=some (.loop (rc .ready none)):=by
   rw[←hW1,hl];have:=World.alloc_heap_new (w.alloc (.deferred (some []))) (.loop (rc .ready none));rwa [World.size_alloc]at this
  have hD1:W1.heap[w.heap.size]?=some (.deferred (some [])):=by
   rw[←hW1];exact(RowKit.Below.heap_alloc _ _ _ (by simp)).trans (World.alloc_heap_new w _)
  have hbel:RowKit.Below w.heap.size w W1:=by
   rw[←hW1];exact((RowKit.Below.refl _ w).alloc (Nat.le_refl _) _).alloc (by simp) _
  have hsl: ¬w0.dh l:=fun h=>by have:=h.1;omega
  have hxl:w0.oth l=none:=by rw[←hle.oth];exact hoth l (by omega)
  have hdl: ∀k∈fk (a::asx),k<w.heap.size:=fun k hk=>(Array.getElem?_eq_some_iff.1 (R.marks.empty k hk).1).1
  let a':Act:={a with defers:= [{target:= .collected w.heap.size,args:= #[]}]++a.defers}
  have hmk:marks a'++fk asx=w.heap.size::fk (a::asx):=rfl
  have Rk:Rel wR (st.nU (cfg.loops fid (far+key y))) g born (a::asx) w∧(st.nU (cfg.loops fid (far+key y))).rs=st.rs:=by
   cases cfg.loops fid (far+key y)with
   |none=>exact⟨R,rfl⟩
   |some live=>
    refine⟨zW R live,?_⟩
    obtain⟨fr,rs⟩:=st
    cases fr<;>rfl
  obtain⟨Rk,hrs⟩:=Rk
  have RW:Rel wR (st.nU (cfg.loops fid (far+key y))) g born (a::asx) W1:=rP Rk hbel
  have RD0:Rel wR (st.nU (cfg.loops fid (far+key y))) g born (a'::asx) W1:=by
   refine ve RW _ (fun d hd=> ?_) ?_
   ·rcases List.mem_cons.1 hd with rfl|hd
    ·exact⟨_,rfl⟩
    ·exact kU R d hd
   ·show mX wR (marks a'++fk asx) W1
    rw[hmk]
    refine⟨List.nodup_cons.2 ⟨fun h=>by have:=hdl _ h;omega,R.marks.nodup⟩,fun k hk=> ?_,RW.marks.oth⟩
    rcases List.mem_cons.1 hk with rfl|hk
    ·exact⟨hD1,fun h=>by have:=h.1;omega,hoth _ (Nat.le_refl _)⟩
    ·exact RW.marks.empty k hk
  have RD:cg w0 (st.nU (cfg.loops fid (far+key y))) g born (a'::asx) W1:=⟨wR,hle,RD0⟩
  have RT:=xq RD (o:= .loop (rc .ready none)) rfl hL1 (fun hm=>by
   have:l∈w.heap.size::fk (a::asx):=hmk▸hm
   rcases List.mem_cons.1 this with h|h
   ·omega
   ·have:=hdl _ h;omega)
  have hname:fn.name≠ "runtime.NumGoroutine" :=by
   have:=hG.num f fn hfn (by rw[hbd];rfl)
   simpa using this
  have hnb:fn.body.isNone=false:=by rw[hbd];rfl
  have hresults: ∀(t:Array Value) (W:World),∃v,(results fn t).run P W= .ok v W:=by
   intro t W
   have:fn.results= #[]:=by simpa using hres
   unfold results
   rw[this]
   simp
  refine⟨l,[{target:= .collected w.heap.size,args:= #[]}],W1,{target:= .fn (.func f) vc,args:= #[.func (.yield l) #[] #[]]},W1,f,#[.func (.yield l) #[] #[]]++vc,W1,?_,?_,fun _ _=>trivial,?_,fun h=>by simp at h,?_⟩
  ·rw[←hW1,hl,hrc];exact run_enterLoop_outer _ _ _ _ _
  ·simp only[resolve,hvx]
   simp[go_sem]
  ·simp only[invoke,callFunc,Sem.run_bind,run_program,Result.andThen_ok,Sem.run_pure,hfn,hG.num f fn hfn (by rw[hbd];rfl),hnb,Bool.false_eq_true,if_false]
  let P2:World→Prop:=fun w'=> ∃e st' g' born',K e st'=some r0∧cg w0 st' g' born' (a'::asx) w'∧(∀r,born' r→r<st'.rs.length)∧ ∃j,w'.heap[l]?=some (.loop (rc .done (some j)))∧l∉fk (a'::asx)∧((e= .ret∧j= .ret)∨ ∃i,e= .exit i∧j= .exit i)
  have hH:Bj P r0 (w0.oE l (.loop (rc .ready none)) rfl) l (a'::asx) P2 (rf (fun st K=>exec P cfg env kl fid x st K) (fun st K=>exec P cfg env kl fid y st K) ps K):=by
   intro vs st2 g2 b2 aI w2 us Kgo m hk R2 hlt2 hA hAb
   unfold rf at hk
   have hfr2:=Aq R2
   have hbf2:=Be R2
   obtain⟨fr2,rs2⟩:=st2
   simp only at hk hfr2 hbf2
   split at hk
   rotate_left
   ·cases hk
   next it top rest=>
   obtain⟨aI',as1,ee,hF1,hF2⟩:=hfr2
   injection ee with ee1 ee2
   subst ee1;subst ee2
   obtain⟨a2',as2,ee,hF3,hF4⟩:=hF2
   injection ee with ee1 ee2
   subst ee1;subst ee2
   cases hvl:Nat.beq vs.length ps.size with
   |false=>rw[hvl]at hk;cases hk
   |true=>
   rw[hvl]at hk
   simp only[cond_true,St.force_eq]at hk
   have hvl:=cX hvl
   have hul:=cW hA
   have htold:=fO R2
   have hrc1:(rc .ready none).params=ps:=by rw[hrc]
   have hrc2:(rc .ready none).tmps=a.tmps:=by rw[hrc]
   have hrc3:(rc .ready none).assign=x:=by rw[hrc]
   have hrc4:(rc .ready none).body=y:=by rw[hrc]
   have hy:=run_yield (P:=P) (args:=us) htold (by rw[hrc1];simp at hul;omega)
   rw[hrc1,hrc2,hrc3,hrc4]at hy
   obtain⟨q1,q2,q3⟩:=tj (born:=b2) ps.toList vs us.toList top a.tmps hA hAb hF3.size hF3.slot (hbf2 top (by simp))
   have etm:(ps.zip us).foldl (fun tmps (t,a)=>tmps.setIfInBounds t a) a.tmps=(ps.toList.zip us.toList).foldl (fun t x=>t.setIfInBounds x.1 x.2) a.tmps:=by
    rw[←Array.foldl_toList,Array.toList_zip]
   refine⟨_,_,_,_,hy,roundIn_of_wpIn trivial ?_⟩
   have Rr:=xC R2 (f:=uu ps vs top) (a:={tmps:=(ps.zip us).foldl (fun tmps (t,a)=>tmps.setIfInBounds t a) a.tmps,defers:= []}) ⟨by rw[etm];exact q1,by rw[etm];exact q2,fun d hd=>by cases hd⟩ rfl q3
   refine ihx _ (some l) m R0 r0 _ _ (aI::a'::asx) _ g2 b2 _ w2 (.inr hnx) hk Rr hlt2 fun e st3 a3 w3 g3 b3 hk3 R3 hlt3=> ?_
   cases e with
   |exit i=>cases hk3
   |ret=>cases hk3
   |normal=>
   have hbr:(Instr.beginRound l).run P w3= .ok () (w3.putObj l (.loop (rc .busy none))):=by
    have h:=run_beginRound (P:=P) (fO R3) (by rw[hrc])
    rw[hrc]at h⊢
    exact h
   refine⟨_,hbr,?_⟩
   have Rb:=(kf (o':=rc .busy none) R3 hsl hxl).2
   refine ihy _ (some l) m R0 r0 _ _ (aI::a'::asx) st3 g3 b3 a3 _ (.inr hny) hk3 Rb hlt3 fun e st4 a4 w4 g4 b4 hk4 R4 hlt4=> ?_
   cases e with
   |normal=>
    have hR:=kf (o':=rc .ready none) (lq R4) hsl hxl
    have he:(Instr.endRound l none).run P w4= .ok (.bool true) (w4.putObj l (.loop (rc .ready none))):=by
     have h:=run_endRound (P:=P) none (fO R4)
     rw[hrc]at h⊢
     exact h
    exact⟨_,_,he,.inl ⟨rfl,_,g4,b4,hk4,hR.2,hlt4⟩⟩
   |exit i=>
    have hR:=kf (o':=rc .done (some (.exit i))) (lq (lq R4)) hsl hxl
    have he:(Instr.endRound l (some (.exit i))).run P w4= .ok (.bool false) (w4.putObj l (.loop (rc .done (some (.exit i))))):=by
     have h:=run_endRound (P:=P) (some (.exit i)) (fO R4)
     rw[hrc]at h⊢
     exact h
    exact⟨_,_,he,.inr ⟨rfl,.exit i,_,g4,b4,hk4,hR.1,hlt4,.exit i,fO hR.2,qX hR.2,.inr ⟨i,rfl,rfl⟩⟩⟩
   |ret=>
    have hR:=kf (o':=rc .done (some .ret)) (lq (lq R4)) hsl hxl
    have he:(Instr.endRound l (some .ret)).run P w4= .ok (.bool false) (w4.putObj l (.loop (rc .done (some .ret)))):=by
     have h:=run_endRound (P:=P) (some .ret) (fO R4)
     rw[hrc]at h⊢
     exact h
    exact⟨_,_,he,.inr ⟨rfl,.ret,_,g4,b4,hk4,hR.1,hlt4,.ret,fO hR.2,qX hR.2,.inl ⟨rfl,rfl⟩⟩⟩
  have hfa:ai (st.nU (cfg.loops fid (far+key y))).get g (.undef::cap) (#[Value.func (.yield l) #[] #[]]++vc).toList:=by
   rw[ai]
   refine⟨.func (.yield l) #[] #[],vc.toList,by simp,by simp[ae],?_⟩
   have:(st.nU (cfg.loops fid (far+key y))).get=st.get:=by
    funext r;unfold St.get;rw[hrs]
   rw[this];exact hf2
  have Rit:=xC RT (ni (fn:=fn) hfa) rfl (fun r hr=>hxb r (by
   have:=j3 hr
   simp only[AV.ah,AV.roots,List.nil_append]at this
   simp only[AV.roots,AV.ah,List.nil_append]
   exact this))
  have hst:(St.mk (iM fn (.undef::cap)::(st.nU (cfg.loops fid (far+key y))).fr) (st.nU (cfg.loops fid (far+key y))).rs)=St.mk (iM fn (.undef::cap)::(st.nU (cfg.loops fid (far+key y))).fr) st.rs:=by rw[hrs]
  rw[hst]at Rit
  refine callsIn_of_wp_marks hfn hbd trivial (Aw hE hG hH (nn-1) kl f c _ _ _ g born _ W1 h Rit hlt ⟨by simp[Array.getD_eq_getD_getElem?,Array.getElem?_append],by simp;omega,rfl⟩ (fun e st1 a1 w1 g1 b1 hk R1 hlt1 hY1=> ?_) fun a1 w1 hd1 hp2=> ?_)
  ·have key:K .normal ⟨st1.fr.tail,st1.rs⟩=some r0→LeavesInM (rd none) (nn-1) P fn a1.tmps (rangePost (rd none) nn P l Q a') a1.defers .returning w1:=by
    intro hk
    rw[hY1.2.2]
    obtain⟨v,hv⟩:=hresults a1.tmps w1
    have hR:=kf (o':=rc .exhausted none) (lq R1) hsl hxl
    have he:(Instr.endLoop l).run P w1= .ok none (w1.putObj l (.loop (rc .exhausted none))):=by
     have h:=run_endLoop (P:=P) (fO R1) (by rw[hrc];simp)
     rw[hrc]at h⊢
     exact h
    exact⟨v,hv,none,_,he,hK .normal _ a' _ g1 b1 hk hR.1 hlt1⟩
   cases e with
   |normal=>exact key hk
   |ret=>exact key hk
   |exit i=>cases hk
  ·show LeavesInM _ _ _ _ _ _ _ _ _
   rw[hd1]
   obtain⟨v,hv⟩:=hresults a1.tmps w1
   obtain⟨e,st2,g2,b2,hk,R2,hlt2,j,hj,hnm,hej⟩:=hp2
   have R3:=sP (o':= .loop (rc .exhausted (some j))) R2 hj rfl hsl hnm hxl
   have he:(Instr.endLoop l).run P w1= .ok (some j) (w1.putObj l (.loop (rc .exhausted (some j)))):=by
    have h:=run_endLoop (P:=P) hj (by rw[hrc];simp)
    rw[hrc]at h⊢
    exact h
   refine⟨v,hv,some j,_,he,?_⟩
   rcases hej with⟨rfl,rfl⟩|⟨i,rfl,rfl⟩
   ·exact wpIn_ret (hK .ret _ a' _ g2 b2 hk R3 hlt2)
   ·exact wpIn_exit (hK (.exit i) _ a' _ g2 b2 hk R3 hlt2)
 |scope c _=>intro w0 ro nn R0 r0 K Q asx st g born a w hro h;cases h
 |label l=>intro w0 ro nn R0 r0 K Q asx st g born a w hro h;cases h
 |goto l=>intro w0 ro nn R0 r0 K Q asx st g born a w hro h;cases h
 |refuse s=>intro w0 ro nn R0 r0 K Q asx st g born a w hro h;cases h
end
end
end Go.Am
end
section
/- Soundness: functions. What the machine makes of data, the function makes of it. -/
namespace Go.Am
noncomputable section
attribute [local instance] D.real
section
variable {P : Program} {cfg : Cfg} {env : Env P} {w0 : bu} {w : World} {st : St} {g : aB} {born : Nat → Prop} {a : Act} {asx acts : List Act}
theorem wQ(B:bu)(ho: ∀k,B.oth k=none):Rel B ⟨[],[]⟩ (fun _=>⟨0,fun _=>Go.undef,fun _=>False⟩) (fun _=>False) [] B.v:=by
 have hd: ∀r,(⟨[],[]⟩:St).get r= .dead:=fun r=>rfl
 refine⟨bL.refl _ _,fun r=> ?_,fun r r' b _ h=> ?_,fun r b h=> ?_,rfl,fun f h=>(by cases h),fun r x h=> ?_,fun r h=> ?_,⟨List.nodup_nil,(fun D h=>by cases h),(fun k o h=>by rw[ho]at h;cases h)⟩⟩
 ·unfold aF;rw[hd];trivial
 ·unfold Own at h;rw[hd]at h;exact h.elim
 ·unfold Own at h;rw[hd]at h;exact h.elim
 ·rw[hd]at h;simp[ak.roots]at h
 ·exact absurd (hd r) h
theorem Bw(hE:gV P env)(hG:Good P){k f:Nat}{fn:Func}{c:Code}{x:den (eH P f)}{y:den (resTy P f)}(hf:P.funcs[f]?=some fn)(hb:fn.body=some c)
  (h:(match eN P false (dV P f) x 0 with
   |(vs,rs)=>St.force {fr:= [iM fn vs],rs:=rs} fun st=>exec P cfg env k f c st (uB (finish P f fn)))=some y):Valid P f x y:=by
 refine⟨⟨fn,hf,by rw[hb];rfl⟩,fun W args hargs=> ?_⟩
 obtain⟨hF,G,hrep⟩:=hargs
 generalize hla:eN P false (dV P f) x 0=la at h
 obtain⟨vs,rs⟩:=la
 simp only[St.force_eq]at h
 obtain⟨g,b,R,L,A,B,_⟩:=iQ (P:=P) (w0:=bu.of W) (w:=W) (acts:= []) false (dV P f) x args.toList (bh args.toList) ⟨[],[]⟩ _ (fun _=>False) 0 0 G vs rs (wQ (bu.of W) fun _=>rfl) hF (fun k _=>by rw[Nat.zero_add]) hrep
  (fun h=>by cases h) (fun h=>by cases h) hla (fun _ _ _ h=>h)
 have hget: ∀r,(St.mk [] rs).get r=((St.mk [] []).aH (aj 0 rs)).get r:=fun r=>get_append [] rs [] r
 have R1:Rel (bu.of W) (St.mk [] rs) g b [] W:=jc R rfl hget
 have A1:ai (St.mk [] rs).get g vs args.toList:=by rw[show(St.mk [] rs).get=_ from funext hget];exact A
 have R2:=qR R1 (ni (fn:=fn) A1) rfl (fun r hr=>(L.born_iff r).2 (.inr (B r (j3 hr))))
 refine uS (ro:=none) (n:=0) (callsIn_of_wp_marks hf hb trivial (qj hE hG k f c _ none 0 _ y (uB (finish P f fn)) _ [] _ g b _ W (.inl rfl) h (.of R2) (fun r hr=> ?_) fun e st' a' w' g' b' h' R' hlt'=> ?_))
 ·show r<rs.length
  have:=((L.born_iff r).1 hr)
  simp only[false_or,Nat.zero_add]at this
  exact this.2
 ·have key:finish P f fn st'=some y→LeavesInM (rd none) 0 P fn a'.tmps (fun e w'=> ∃us,e= .returned (mR us)∧RowKit.Below W.heap.size W w'∧jy P W.heap.size w' (bE P f) us y) a'.defers .returning w':=by
   intro hfin
   refine lZ (fun w' R'=> ?_) a'.defers w' R'
   obtain⟨wE,hle,R'⟩:=R'
   show∃v,(results fn a'.tmps).run P w'= .ok v w'∧ ∃us,Ending.returned v= .returned (mR us)∧RowKit.Below W.heap.size W w'∧jy P W.heap.size w' (bE P f) us y
   unfold finish at hfin
   generalize hrt:sf P fn st'=rt at hfin
   obtain⟨ok,vs'⟩:=rt
   simp only at hfin
   generalize hrd:bp st'.get (resTy P f) (vs'.flatMap AV.cells)=rd at hfin
   obtain⟨ok1,d,rest⟩:=rd
   simp only at hfin
   generalize hgv:gives st'.get (resTy P f) (vs'.flatMap AV.cells)=gv at hfin
   obtain⟨ok2,l,rest2⟩:=gv
   simp only[gE]at hfin
   split at hfin
   ·next hok=>
    simp only[Option.some.injEq]at hfin
    subst hfin
    have hok:=iJ.1 hok
    obtain⟨k1,k4⟩:=aq.1 hok
    obtain⟨k1,k3⟩:=aq.1 k1
    obtain⟨k1,k2⟩:=aq.1 k1
    obtain⟨k4,k5⟩:=af.1 k4
    obtain⟨_,k6⟩:=af.1 k5
    have k6:l.Nodup:=of_decide_eq_true (af.1 k6).1
    obtain⟨us,r1,r2,r3⟩:=vk (P:=P) (fn:=fn) R' (by rw[hrt];exact k1)
    rw[hrt]at r2
    obtain⟨f1,f2,f3⟩:=iU (bE P f) vs' us k4 r2
    obtain⟨q1,_,q3,q4,_⟩:=kM R'.roots R'.sep f2 (resTy P f) 0 ok1 ok2 d l rest rest2 hrd hgv k2 k3
    refine⟨_,r1,us,rfl,(hle.run R'.below).below,f1,_,q1,q4 k6,fun bl hbl=> ?_⟩
    obtain⟨r,_,ho⟩:=q3 bl hbl
    exact Nat.le_of_not_lt fun hlt=>R'.low r bl ho (hle.dh bl ⟨hlt,fun h=>h⟩)
   ·cases hfin
  cases e with
  |normal=>exact key h'
  |ret=>exact key h'
  |exit i=>cases h'
theorem FN(hE:gV P env)(hG:Good P){k f:Nat}{x:den (eH P f)}{y:den (resTy P f)}(h:Fw P cfg env k f x=some y):Fb P f x y:=by
 unfold Fw at h
 cases hm:Nat.beq (cfg.mode f) 6 with
 |false=>rw[hm]at h;cases h
 |true=>
 rw[hm]at h
 simp only[cond_true]at h
 split at h
 ·cases h
 next fn hf=>
 split at h
 ·cases h
 next c hb=>
 refine⟨⟨fn,hf,by rw[hb];rfl⟩,fun W r args hrW hargs=> ?_⟩
 obtain⟨hF,G,hrep⟩:=hargs
 generalize hla:eN P false (dV P f) x 0=la at h
 obtain⟨vs,rs⟩:=la
 simp only[St.force_eq]at h
 let B0:bu:=⟨W,r,fun _=>False,fun a v h=>⟨hrW a v h,fun h=>h⟩,fun _ _ h=>h.elim,fun _=>none,fun _ _ h=>by cases h⟩
 obtain⟨g,b,R,L,A,B,_⟩:=iQ (P:=P) (w0:=B0) (w:=W) (acts:= []) false (dV P f) x args.toList (bh args.toList) ⟨[],[]⟩ _ (fun _=>False) 0 0 G vs rs (wQ B0 fun _=>rfl) hF (fun k _=>by rw[Nat.zero_add]) hrep
  (fun h=>by cases h) (fun h=>by cases h) hla (fun _ _ _ h=>h)
 have hget: ∀r,(St.mk [] rs).get r=((St.mk [] []).aH (aj 0 rs)).get r:=fun r=>get_append [] rs [] r
 have R1:Rel B0 (St.mk [] rs) g b [] W:=jc R rfl hget
 have A1:ai (St.mk [] rs).get g vs args.toList:=by rw[show(St.mk [] rs).get=_ from funext hget];exact A
 have R2:=qR R1 (ni (fn:=fn) A1) rfl (fun r hr=>(L.born_iff r).2 (.inr (B r (j3 hr))))
 refine uS (ro:=none) (n:=0) (callsIn_of_wp_marks hf hb trivial (qj hE hG k f c _ none 0 _ y (uB (tQ P f fn)) _ [] _ g b _ W (.inl rfl) h (.of R2) (fun r hr=> ?_) fun e st' a' w' g' b' h' R' hlt'=> ?_))
 ·show r<rs.length
  have:=((L.born_iff r).1 hr)
  simp only[false_or,Nat.zero_add]at this
  exact this.2
 ·have key:tQ P f fn st'=some y→LeavesInM (rd none) 0 P fn a'.tmps (fun e w'=> ∃us r',e= .returned (mR us)∧RowKit.Below W.heap.size W w'∧(∀(a:Addr) (v:Value),r.cell? a=some v→r'.cell? a=some v)∧
   (∀(a:Addr) (v:Value),r'.cell? a=some v→w'.cell? a=some v)∧(∀b,Rds r' b→Rds r b∨W.heap.size≤b)∧fN P r' (bE P f) us y) a'.defers .returning w':=by
   intro hfin
   refine lZ (fun w' R'=> ?_) a'.defers w' R'
   obtain⟨wE,hle,R'⟩:=R'
   show∃v,(results fn a'.tmps).run P w'= .ok v w'∧ ∃us r',Ending.returned v= .returned (mR us)∧_
   unfold tQ at hfin
   generalize hrt:sf P fn st'=rt at hfin
   obtain⟨ok,vs'⟩:=rt
   simp only at hfin
   generalize hrd:fT st'.get (resTy P f) (vs'.flatMap AV.cells)=rd at hfin
   obtain⟨ok1,d,rest⟩:=rd
   simp only[gE]at hfin
   split at hfin
   ·next hok=>
    simp only[Option.some.injEq]at hfin
    subst hfin
    obtain⟨k1,k4⟩:=aq.1 (iJ.1 hok)
    obtain⟨k1,k2⟩:=aq.1 k1
    obtain⟨k4,_⟩:=af.1 k4
    obtain⟨us,r1,r2,r3⟩:=vk (P:=P) (fn:=fn) R' (by rw[hrt];exact k1)
    rw[hrt]at r2
    obtain⟨f1,f2,f3⟩:=iU (bE P f) vs' us k4 r2
    have hK:bL B0 W w':=hle.run R'.below
    have hnb: ∀{b:Nat},(Rds r b∨W.heap.size≤b)→ ¬(b<W.heap.size∧ ¬Rds r b):=fun h k=>h.elim k.2 fun h=>Nat.lt_irrefl _ (Nat.lt_of_lt_of_le k.1 h)
    have hrds: ∀b,Rds wE.w b→Rds r b∨W.heap.size≤b:=fun b hb=>(hle.rds b hb).imp id fun h=>Nat.le_of_not_lt fun hlt=>h ⟨hlt,fun h=>h⟩
    have hR:=tC (B:=wE) (B':=wE) (w':=blank w' fun b=>b<W.heap.size∧ ¬Rds r b) (fun _ _ h=>h) R'.roots (fun q b ho=>cZ (hnb (.inr (Nat.le_of_not_lt fun hlt=>R'.low q b ho (hle.dh b ⟨hlt,fun h=>h⟩)))))
     (fun a v ha hv=>n4 hv (hnb (hrds _ ha)))
    obtain⟨G,hrep,_⟩:=sw hR (fun a v hv=>n4 (cJ R'.below a v hv) (hnb (hrds _ ⟨a,v,rfl,hv⟩))) f2 (resTy P f) 0 ok1 d rest hrd k2
    refine⟨_,r1,us,_,rfl,⟨hK.os,hK.tape,hK.output,hK.size,fun k hk=>hK.block k ⟨hk,fun h=>h⟩⟩,fun a v hv=> ?_,fun a v hv=>(nf hv).1,fun b ⟨a,v,e,hv⟩=> ?_,f1,G,hrep⟩
    ·exact n4 ((gp (hK.block _ ⟨World.block_lt_of_cell? W a (hrW a v hv),fun h=>h⟩)).trans (hrW a v hv)) (hnb (.inl ⟨a,v,rfl,hv⟩))
    ·subst e
     have:=(nf hv).2
     by_cases h1:Rds r a.block
     ·exact .inl h1
     ·exact .inr (Nat.le_of_not_lt fun hlt=>this ⟨hlt,h1⟩)
   ·cases hfin
  cases e with
  |normal=>exact key h'
  |ret=>exact key h'
  |exit i=>cases h'
theorem Da{fn:Func}(R:cg w0 st g born (a::asx) w)(hok:aN (sf P fn st).1):
  ∃us,(results fn a.tmps).run P w= .ok (mR us) w∧ai st.get g (sf P fn st).2 us∧ ∀r∈AV.ah (sf P fn st).2,born r:=let⟨_,_,R⟩:=R;vk R hok
theorem Db(hE:gV P env)(hG:Good P){k f:Nat}{vs vs':List AV}{st st':St}(h:rG P cfg env k (R:=List AV×St) f vs st (fun vs st=>some (vs,st))=some (vs',st')):xD P f vs st vs' st':=by
 unfold rG at h
 cases hm:Nat.beq (cfg.mode f) 0 with
 |true=>rw[hm]at h;cases h
 |false=>
 rw[hm]at h
 simp only[cond_false]at h
 split at h
 ·cases h
 next fn hf=>
 split at h
 ·cases h
 next c hb=>
 rw[St.force_eq]at h
 refine⟨⟨fn,hf,by rw[hb];rfl⟩,fun w0 g born acts w us R hlt hA hAb=> ?_⟩
 have R2:=qR R (ni (fn:=fn) (args:=us.toArray) (by simpa using hA)) rfl (fun r hr=>hAb r (j3 hr))
 refine uS (ro:=none) (n:=0) (callsIn_of_wp_marks hf hb trivial (qj hE hG k f c _ none 0 _ (vs',st') _ _ acts _ g born _ w (.inl rfl) h (.of R2) hlt fun e st2 a' w' g' b' h' R' hlt'=> ?_))
 have key:kF P fn (fun vs st=>some (vs,st)) st2=some (vs',st')→LeavesInM (rd none) 0 P fn a'.tmps (fun e w'=> ∃us' g' born',e= .returned (mR us')∧cg w0 st' g' born' acts w'∧(∀r,born' r→r<st'.rs.length)∧ai st'.get g' vs' us'∧ ∀r∈AV.ah vs',born' r) a'.defers .returning w':=by
  intro hfin
  refine lZ (fun w' R'=> ?_) a'.defers w' R'
  show∃v,(results fn a'.tmps).run P w'= .ok v w'∧ ∃us' g' born',Ending.returned v= .returned (mR us')∧cg w0 st' g' born' acts w'∧(∀r,born' r→r<st'.rs.length)∧ai st'.get g' vs' us'∧ ∀r∈AV.ah vs',born' r
  unfold kF at hfin
  generalize hrt:sf P fn st2=rt at hfin
  obtain⟨ok,vs2⟩:=rt
  simp only[gE]at hfin
  split at hfin
  ·next hok=>
   simp only[Option.some.injEq,Prod.mk.injEq]at hfin
   obtain⟨rfl,rfl⟩:=hfin
   obtain⟨us',r1,r2,r3⟩:=Da (P:=P) (fn:=fn) R' (by rw[hrt];exact iJ.1 hok)
   rw[hrt]at r2 r3
   exact⟨_,r1,us',g',b',rfl,lq R',hlt',r2,r3⟩
  ·cases hfin
 cases e with
 |normal=>exact key h'
 |ret=>exact key h'
 |exit i=>cases h'
theorem B5(hE:gM P env)(k:Nat): ∀(R:Type) (f:Nat) (vs:List AV) (st:St) (K:List AV→St→Option R),rG P cfg env k f vs st K=(rG P cfg env k (R:=List AV×St) f vs st fun vs st=>some (vs,st)).bind fun p=>K p.1 p.2:=by
 intro R f vs st K
 unfold rG
 cases hm:Nat.beq (cfg.mode f) 0 with
 |true=>rfl
 |false=>
 simp only[cond_false]
 split
 ·rfl
 ·next fn _=>
  split
  ·rfl
  ·next c _=>
   rw[St.force_eq,St.force_eq,xL hE _ _ hm,xL hE _ _ hm (R:=List AV×St) (K:=uB (kF P fn fun vs st=>some (vs,st))),Option.bind_assoc]
   congr 1
   funext p
   obtain⟨e,s⟩:=p
   have key:kF P fn K s=(kF P fn (fun vs st=>some (vs,st)) s).bind fun p=>K p.1 p.2:=by
    unfold kF
    generalize sf P fn s=rt
    obtain⟨ok,vs⟩:=rt
    simp only[gE,gP]
    rfl
   cases e with
   |normal=>exact key
   |ret=>exact key
   |exit i=>rfl
def AA(P:Program)(E:Ext P):Prop:=(∀f gf x y,E.fn f=some gf→gf x=some y→Valid P f x y)∧ ∀f k,E.srt f=some k→y0 P f k
theorem zV(hG:Good P){E:Ext P}(hX:AA P E): ∀k,gV P (th P cfg E k)
 |0=>⟨⟨fun _ _ _ _ _=>rfl,fun _ _=>⟨false,fun _ _=>rfl⟩⟩,fun f x y h=>(by cases h),fun f x y h=>(by cases h),fun f vs st vs' st' h=>(by cases h),fun R f n x y h=>(by cases h)⟩
 |k+1=>by
  have ih:=zV hG hX k
  refine⟨⟨fun R f vs st K=>B5 ih.det k R f vs st K,fun f n=> ?_⟩,fun f x y h=> ?_,fun f x y h=>FN ih hG h,fun f vs st vs' st' h=>Db ih hG h,fun R f n x y h=> ?_⟩
  ·cases hs:E.srt f with
   |none=>exact⟨false,fun R x=>by show yd (E.srt f) n x=_;rw[hs];rfl⟩
   |some m=>exact⟨Nat.beq m n,fun R x=>by show yd (E.srt f) n x=_;rw[hs];show(bif _ then x else none)=_;cases Nat.beq m n<;>rfl⟩
  ·have h:yD P cfg E (th P cfg E k) k f x=some y:=h
   unfold yD at h
   split at h
   ·next gf hgf=>exact hX.1 f gf x y hgf h
   ·split at h
    ·cases h
    ·next fn hf=>
     split at h
     ·cases h
     ·next c hb=>exact Bw ih hG hf hb h
  ·have h2:yd (E.srt f) n x=some y:=h
   cases hm:E.srt f with
   |none=>rw[hm]at h2;cases h2
   |some m=>
    rw[hm]at h2
    have h3:(bif Nat.beq m n then x else none)=some y:=h2
    cases hb:Nat.beq m n with
    |true=>rw[hb]at h3;obtain rfl:=Nat.eq_of_beq_eq_true hb;exact⟨hX.2 f m hm,h3⟩
    |false=>rw[hb]at h3;cases h3
theorem yz(hG:Good P){E:Ext P}(hX:AA P E){k f:Nat}{x:den (eH P f)}{y:den (resTy P f)}(h:yR P cfg E k f x=some y):Valid P f x y:=
 (zV hG hX k).pc f x y h
end
end
end Go.Am
end
section
/- The law's row: arguments read as data; what a law's equation says of the row. -/
namespace Go.Am
noncomputable section
attribute [local instance] D.real
open Go.ChangeShapes Go.RowKit
def WfD:(t:Ty)→den t→Prop
 | .int k,n=>(Lit.int k n).wf=true
 | .bool,_=>True
 | .str,s=>s.size≤maxLen
 | .sl e,xs=>List.length (α:=den e) xs≤maxLen∧ ∀x∈(xs:List (den e)),WfD e x
 | .pair a b,d=>WfD a d.1∧WfD b d.2
 | .unit,_=>True
def mW(F:TypeId→Option Ty)(cells:TypeId→Nat):List Field→Nat→Option (List Ty)
 | [],_=>some []
 |f::fs,off=>match F f.type with
  |none=>none
  |some te=>bif Nat.beq f.offset off&&Nat.beq (cells f.type) te.size then(match mW F cells fs (off+te.size)with
   |some l=>some (te::l)
   |none=>none)else none
def pH(P:Program):Nat→TypeId→Option Ty
 |0,_=>none
 |n+1,t=>match P.underlying t with
  |some .bool=>some .bool
  |some (.int k)=>some (.int k)
  |some .string=>some .str
  |some (.slice e)=>(match pH P n e with
   |some te=>bif Nat.beq (P.cellsOf e) te.size then some (.sl te)else none
   |none=>none)
  |some (.struct fs)=>(match mW (pH P n) P.cellsOf fs.toList 0 with
   |some l=>bif Nat.beq (P.cellsOf t) (Ty.all l).size then some (Ty.all l)else none
   |none=>none)
  |_=>none
section
variable {H : Type} {enc : TypeId × Value → H} {P : Program} {w : World} {base : Nat} {spare : Nat → Bool} {held : Bool}
theorem skolem{α β:Type} [Inhabited α] [Inhabited β]{n:Nat}{p:Nat→α→β→Prop}(h: ∀i,i<n→ ∃a b,p i a b): ∃(f:Nat→α) (g:Nat→β),∀i,i<n→p i (f i) (g i):=by
 classical
 refine⟨fun i=>if h':i<n then Classical.choose (h i h')else default,fun i=>if h':i<n then Classical.choose (Classical.choose_spec (h i h'))else default,fun i hi=> ?_⟩
 simp only[hi,dif_pos]
 exact Classical.choose_spec (Classical.choose_spec (h i hi))
instance:Inhabited (Nat→Path→Value):=⟨fun _ _=>Go.undef⟩
theorem AS(t:Ty)(l:List Ty):(Ty.all (t::l)).size=t.size+(Ty.all l).size:=by
 cases l with
 |nil=>simp[Ty.all,Ty.size]
 |cons u r=>rfl
theorem Cg: ∀(l:List Ty) (f:Nat) (rd:Nat→Option Value),(∀(pre:List Ty) (t:Ty) (post:List Ty),l=pre++t::post→ ∃(d:den t) (G:Nat→Path→Value),Rep w false t d G (f+(Ty.all pre).size) rd∧WfD t d)→
  ∃(d:den (Ty.all l)) (G:Nat→Path→Value),Rep w false (Ty.all l) d G f rd∧WfD (Ty.all l) d
 | [],f,rd,_=>⟨(),fun _ _=>Go.undef,trivial,trivial⟩
 | [t],f,rd,h=>by
  obtain⟨d,G,h1,h2⟩:=h [] t [] rfl
  exact⟨d,G,h1,h2⟩
 |t::u::r,f,rd,h=>by
  obtain⟨d1,G1,h1,h2⟩:=h [] t (u::r) rfl
  obtain⟨d2,G2,h3,h4⟩:=Cg (u::r) (f+t.size) rd (fun pre t' post e=>by
   obtain⟨d,G,h5,h6⟩:=h (t::pre) t' post (by rw[e];rfl)
   rw[AS,←Nat.add_assoc]at h5
   exact⟨d,G,h5,h6⟩)
  refine⟨(d1,d2),fun k=>if k<f+t.size then G1 k else G2 k,⟨?_,?_⟩,⟨h2,h4⟩⟩
  ·exact fK t d1 G1 _ f rd (fun g _ hg=>by simp[hg]) (by simpa[Ty.all,Ty.size]using h1)
  ·exact fK _ d2 G2 _ (f+t.size) rd (fun g hg _=>by simp[Nat.not_lt.2 hg]) h3
theorem nZ{F:TypeId→Option Ty}{cells:TypeId→Nat}: ∀(fs:List Field) (off:Nat) (l:List Ty),mW F cells fs off=some l→l.length=fs.length∧ ∀(pre:List Ty) (t:Ty) (post:List Ty),l=pre++t::post→
  ∃f,fs[pre.length]?=some f∧F f.type=some t∧f.offset=off+(Ty.all pre).size∧cells f.type=t.size
 | [],off,l,h=>by
  simp only[mW,Option.some.injEq]at h
  subst h
  exact⟨rfl,fun pre t post e=>by cases pre<;>cases e⟩
 |f::fs,off,l,h=>by
  unfold mW at h
  split at h
  ·cases h
  ·next te hF=>
   cases hc:(Nat.beq f.offset off&&Nat.beq (cells f.type) te.size)with
   |false=>rw[hc]at h;cases h
   |true=>
    rw[hc]at h
    simp only[cond_true]at h
    split at h
    ·next l' hl=>
     simp only[Option.some.injEq]at h
     subst h
     obtain⟨h1,h2⟩:=nZ fs (off+te.size) l' hl
     rw[Bool.and_eq_true]at hc
     refine⟨by simp[h1],fun pre t post e=> ?_⟩
     cases pre with
     |nil=>
      injection e with e1 e2
      subst e1
      exact⟨f,rfl,hF,by simpa[Ty.all,Ty.size]using cX hc.1,cX hc.2⟩
     |cons p pre=>
      injection e with e1 e2
      subst e1
      obtain⟨f',k1,k2,k3,k4⟩:=h2 pre t post e2
      exact⟨f',by simpa using k1,k2,by rw[AS];omega,k4⟩
    ·cases h
theorem E8: ∀(n:Nat) (t:TypeId) (ty:Ty) (fuel:Nat) (cs:List Value) (x:DataW H×List MemPlace),pH P n t=some ty→DataW.trod enc P w base spare held fuel t cs=some x→
  ∃(d:den ty) (G:Nat→Path→Value),Rep w false ty d G 0 (fun k=>cs[k]?)∧WfD ty d:=by
 intro n
 induction n with
 |zero=>intro t ty fuel cs x h;cases h
 |succ n ih=>
  intro t ty fuel cs x h hx
  unfold pH at h
  split at h
  ·next hu=>
   injection h with h;subst h
   obtain⟨b,rfl,_⟩:=DataW.trod_bool hu hx
   exact⟨b,fun _ _=>Go.undef,rfl,trivial⟩
  ·next k hu=>
   injection h with h;subst h
   obtain⟨m,rfl,_,hw⟩:=DataW.trod_int hu hx
   exact⟨m,fun _ _=>Go.undef,rfl,hw⟩
  ·next hu=>
   injection h with h;subst h
   obtain⟨s,rfl,_,hs⟩:=DataW.trod_string hu hx
   exact⟨s,fun _ _=>Go.undef,rfl,hs⟩
  ·next e hu=>
   split at h
   ·next te hte=>
    cases hc:Nat.beq (P.cellsOf e) te.size with
    |false=>rw[hc]at h;cases h
    |true=>
     rw[hc]at h
     injection h with h;subst h
     have hc:=cX hc
     rcases DataW.trod_slice hu hx with⟨rfl,_⟩|⟨a,len,cap,elems,rest,m,rfl,rfl,_,_,hle,hcap,hel,hi,_⟩
     ·exact⟨([]:List (den te)),fun _ _=> .slice none 0 0,⟨rfl,.inl ⟨rfl,rfl⟩⟩,Nat.zero_le _,fun x hx=>by cases hx⟩
     ·have:Inhabited (den te):=⟨bm te⟩
      obtain⟨df,Gf,hdG⟩:=skolem (α:=den te) (β:=Nat→Path→Value) (n:=len) (p:=fun i d G=>Rep w false te d G 0 (fun f=>w.cell? (a.add (i*te.size+f)))∧WfD te d) (fun i hil=>by
       have h1:=hi i hil
       have hlt:i<elems.length:=by omega
       rw[List.getElem?_eq_getElem hlt,Option.bind_eq_some_iff]at h1
       obtain⟨cs',h2,h3⟩:=h1
       obtain⟨_,h4,h5⟩:=World.cells?_some h2
       obtain⟨d,G,h6,h7⟩:=ih e te m cs' _ hte h3
       refine⟨d,G,dR te d G 0 _ _ (fun _ _=>rfl) (fun g _ hg=> ?_) h6,h7⟩
       rw[←hc,←add_add]
       exact h5 g (by omega))
      refine⟨((List.range len).map df:List (den te)),fun _ q=>match q with
       | []=> .slice (some a) len cap
       |(i,f)::q=>Gf i f q,⟨rfl,.inr ⟨a,cap,by simp,by simpa using hle,(fun h=>by cases h),fun i x hx=> ?_⟩⟩,by simpa[WfD]using(Nat.le_trans hle hcap),fun x hx=> ?_⟩
      ·rw[List.getElem?_map]at hx
       have hil:i<len:=by
        rcases Nat.lt_or_ge i len with h|h
        ·exact h
        ·rw[List.getElem?_eq_none (by simpa using h)]at hx;cases hx
       have hx:df i=x:=by simpa[hil]using hx
       subst hx
       exact(hdG i hil).1
      ·obtain⟨i,hi',rfl⟩:=List.mem_map.1 hx
       exact(hdG i (List.mem_range.1 hi')).2
   ·cases h
  ·next fs hu=>
   split at h
   ·next l hl=>
    cases hc:Nat.beq (P.cellsOf t) (Ty.all l).size with
    |false=>rw[hc]at h;cases h
    |true=>
     rw[hc]at h
     injection h with h;subst h
     obtain⟨hlen,hf⟩:=nZ fs.toList 0 l hl
     obtain⟨xs,m,rfl,_,hcl,hxl,hfi⟩:=DataW.trod_struct hu hx
     refine Cg l 0 _ fun pre ty post e=> ?_
     obtain⟨f,k1,k2,k3,k4⟩:=hf pre ty post e
     have hfs:fs[pre.length]?=some f:=by simpa using k1
     have h1:=hfi pre.length f hfs
     have hlt:pre.length<xs.length:=by rw[hxl];exact(Array.getElem?_eq_some_iff.1 hfs).1
     rw[List.getElem?_eq_getElem hlt]at h1
     obtain⟨d,G,h2,h3⟩:=ih f.type ty m _ _ k2 h1
     have hsh:=sd ty d G 0 f.offset _ (fun k=>cs[k]?) h2 (fun g _ hg=>by
      simp only[Nat.zero_add]at hg
      show cs[g+f.offset]?=((cs.drop f.offset).take (P.cellsOf f.type))[g]?
      rw[List.getElem?_take,if_pos (by omega),List.getElem?_drop,Nat.add_comm])
     rw[k3,Nat.zero_add]at hsh
     exact⟨d,_,hsh,h3⟩
   ·cases h
  ·cases h
def vq(P:Program)(t:TypeId):Bool:=(match pH P 6 t with
 |some ty=>decide (ty=tyD P t)
 |none=>false)&&(kj P t==kB P t)&&P.readableRec t&&Nat.blt t P.types.size
theorem uM{t:TypeId}(h:vq P t=true):pH P 6 t=some (tyD P t)∧kj P t=kB P t∧P.readableRec t=true∧t<P.types.size:=by
 unfold vq at h
 simp only[Bool.and_eq_true,beq_iff_eq]at h
 obtain⟨⟨⟨h1,h2⟩,h3⟩,h4⟩:=h
 refine⟨?_,h2,h3,cE h4⟩
 split at h1
 ·next ty hty=>rw[hty,of_decide_eq_true h1]
 ·cases h1
theorem Af: ∀(n:Nat) (t:TypeId) (ty:Ty) (fuel:Nat) (cs:List Value) (x:DataW H×List MemPlace),pH P n t=some ty→DataW.trod enc P w base spare held fuel t cs=some x→cs.length=ty.size:=by
 intro n t ty fuel cs x h hx
 cases n with
 |zero=>cases h
 |succ n=>
  unfold pH at h
  split at h
  ·next hu=>injection h with h;subst h;obtain⟨b,rfl,_⟩:=DataW.trod_bool hu hx;rfl
  ·next k hu=>injection h with h;subst h;obtain⟨m,rfl,_,hw⟩:=DataW.trod_int hu hx;rfl
  ·next hu=>injection h with h;subst h;obtain⟨s,rfl,_,hs⟩:=DataW.trod_string hu hx;rfl
  ·next e hu=>
   split at h
   ·next te hte=>
    cases hc:Nat.beq (P.cellsOf e) te.size with
    |false=>rw[hc]at h;cases h
    |true=>
     rw[hc]at h
     injection h with h;subst h
     rcases DataW.trod_slice hu hx with⟨rfl,_⟩|⟨a,len,cap,elems,rest,m,rfl,rfl,_⟩<;>rfl
   ·cases h
  ·next fs hu=>
   split at h
   ·next l hl=>
    cases hc:Nat.beq (P.cellsOf t) (Ty.all l).size with
    |false=>rw[hc]at h;cases h
    |true=>
     rw[hc]at h
     injection h with h;subst h
     obtain⟨xs,m,rfl,_,hcl,_⟩:=DataW.trod_struct hu hx
     rw[hcl,cX hc]
   ·cases h
  ·cases h
theorem Bv{t:TypeId}{ty:Ty}{n:Nat}(h:pH P n t=some ty)(hns: ∀fs,P.underlying t≠some (.struct fs)):
  P.underlying t=some .bool∨(∃k,P.underlying t=some (.int k))∨P.underlying t=some .string∨ ∃e,P.underlying t=some (.slice e):=by
 cases n with
 |zero=>cases h
 |succ n=>
  unfold pH at h
  split at h
  ·next hu=>exact .inl hu
  ·next k hu=>exact .inr (.inl ⟨k,hu⟩)
  ·next hu=>exact .inr (.inr (.inl hu))
  ·next e hu=>exact .inr (.inr (.inr ⟨e,hu⟩))
  ·next fs hu=>exact absurd hu (hns fs)
  ·cases h
theorem zm{t:TypeId}{v:Value}{d:DataW H}{ps:List MemPlace}{r:Reach}{b0:Nat}(hl:vq P t=true)(hval:Value.okWide P w r b0 t v)(h:DataW.Trod enc P w base spare held t v d ps):
  Fit P t v∧ ∃(x:den (tyD P t)) (G:Nat→Path→Value),Rep w false (tyD P t) x G 0 (fun k=>v.cells.toList[k]?)∧WfD (tyD P t) x:=by
 obtain⟨h1,h2,_,_⟩:=uM hl
 obtain⟨fuel,hx⟩:=h
 obtain⟨x,G,hr,hw⟩:=E8 6 t _ fuel _ _ h1 hx
 have hlen:=Af 6 t _ fuel _ _ h1 hx
 have hone: ∀c∈v.cells.toList,c.oneCell'=true:=by
  intro c hc
  obtain⟨k,hk,rfl⟩:=List.getElem_of_mem hc
  obtain⟨u,h3,h4⟩:=oP _ _ _ 0 _ hr k (Nat.zero_le _) (by omega)
  have h3:v.cells.toList[k]?=some u:=h3
  rw[List.getElem?_eq_getElem hk]at h3
  injection h3 with h3
  rw[h3];exact h4
 refine⟨?_,x,G,hr,hw⟩
 unfold Fit
 rw[h2]
 unfold Value.okWide at hval
 unfold kB
 split at hval
 ·next hu=>
  rw[hu]
  obtain⟨cs,rfl,hcs,_⟩:=hval
  rw[if_pos rfl]
  exact⟨cs,rfl,by simpa[Value.cells]using hlen,hone⟩
 ·next hu=>
  rw[hu]
  obtain⟨cs,rfl,hcs,_⟩:=hval
  rw[if_pos rfl]
  exact⟨cs,rfl,by simpa[Value.cells]using hlen,hone⟩
 ·next n1 n2=>
  have hnt:=Bv h1 n1
  have hnagg:v.oneCell'=true:=by
   rcases hnt with hu|⟨k,hu⟩|hu|⟨e,hu⟩<;>simp only[Cell.okWide,Cell.ok,hu]at hval<;>split at hval<;>first|rfl|cases hval
  rw[if_neg (by
   rcases hnt with hu|⟨k,hu⟩|hu|⟨e,hu⟩<;>rw[hu]<;>simp)]
  refine⟨hnagg,?_⟩
  rw[hU hnagg]at hlen
  simpa using hlen.symm
end
end
end Go.Am
end
section
/- The law's row: a law function that the machine answers with true meets its contract. -/
namespace Go.Am
noncomputable section
attribute [local instance] D.real
open Go.ChangeShapes Go.RowKit
def xP:(t:Ty)→den t→Prop
 | .bool,b=>b=true
 |_,_=>False
section
variable {H : Type} {enc : TypeId × Value → H} {P : Program} {w : World} {base : Nat} {spare : Nat → Bool} {held : Bool} {cfg : Cfg}
theorem pI{r:Reach}{b0:Nat}: ∀(ts:List TypeId) (us:List Value) (ds:List (DataW H)) (ps:List MemPlace),(∀t∈ts,vq P t=true)→
  (∀(j:Nat) t v,ts[j]?=some t→us[j]?=some v→Value.okWide P w r b0 t v)→DataW.TrodAll enc P w base spare held ts us ds ps→ ∃x:den (dw P ts),fN P w ts us x∧WfD (dw P ts) x
 | [],us,ds,ps,_,_,h=>by
  obtain⟨rfl,_,_⟩:=trodAll_nil h
  exact⟨(),⟨rfl,fun _ _=>Go.undef,trivial⟩,trivial⟩
 | [t],us,ds,ps,hl,hv,h=>by
  obtain⟨u,us',d,ds',p,q,rfl,rfl,rfl,h1,h2⟩:=trodAll_cons h
  obtain⟨rfl,_,_⟩:=trodAll_nil h2
  obtain⟨hf,x,G,hr,hw⟩:=zm (hl t (by simp)) (hv 0 t u rfl rfl) h1
  refine⟨x,⟨⟨u,[],rfl,hf,rfl⟩,G,?_⟩,hw⟩
  have e:bh [u]=u.cells.toList:=by simp[bh]
  rw[e];exact hr
 |t::t2::ts,us,ds,ps,hl,hv,h=>by
  obtain⟨u,us',d,ds',p,q,rfl,rfl,rfl,h1,h2⟩:=trodAll_cons h
  obtain⟨hf,x,G,hr,hw⟩:=zm (hl t (by simp)) (hv 0 t u rfl rfl) h1
  obtain⟨y,⟨hf2,G2,hr2⟩,hw2⟩:=pI (t2::ts) us' ds' q (fun t ht=>hl t (by simp[ht])) (fun j t v h1 h2=>hv (j+1) t v h1 h2) h2
  obtain⟨hc,_⟩:=oR hf
  refine⟨(x,y),⟨⟨u,us',rfl,hf,hf2⟩,fun k=>if k<(tyD P t).size then G k else G2 (k-(tyD P t).size),?_,?_⟩,⟨hw,hw2⟩⟩
  ·refine dR _ x _ 0 (fun k=>u.cells.toList[k]?) _ (fun _ _=>rfl) (fun g _ hg=> ?_) (fK _ x G _ 0 _ (fun g _ hg=>by simp only[Nat.zero_add]at hg;simp[hg]) hr)
   rw[fC,List.getElem?_append_left (by simp;omega)]
  ·refine fK _ y (fun k=>G2 (k-(tyD P t).size)) _ _ _ (fun g hg _=>by simp only[Nat.zero_add]at hg;simp[Nat.not_lt.2 hg]) ?_
   have:=sd _ y G2 0 (tyD P t).size (fun k=>(bh us')[k]?) (fun k=>(bh (u::us'))[k]?) hr2 (fun g _ _=>by
    rw[fC,List.getElem?_append_right (by simp;omega)]
    congr 1
    simp;omega)
   exact this
theorem pG(hlaid:laidOutB P=true){W W':World}(hb:Below W.heap.size W W'): ∀(ts:List TypeId) (us:List Value) (ds:List (DataW H)) (ps:List MemPlace),(∀t∈ts,vq P t=true)→
  DataW.TrodAll enc P W 0 (fun _=>true) true ts us ds ps→DataW.TrodAll enc P W' 0 (fun b=>decide (b<W.heap.size)) true ts us ds ps
 | [],us,ds,ps,_,h=>by
  obtain⟨rfl,rfl,rfl⟩:=trodAll_nil h
  exact trodAll_mk0
 |t::ts,us,ds,ps,hl,h=>by
  have hlt:=DataW.TrodAll.lt h
  obtain⟨u,us',d,ds',p,q,rfl,rfl,rfl,h1,h2⟩:=trodAll_cons h
  obtain⟨_,_,h3,h4⟩:=uM (hl t (by simp))
  exact trodAll_cons_mk (Below.trod hlaid h3 h4 h1 hb fun x hx=>hlt x (List.mem_append.2 (.inl hx))) (pG hlaid hb ts us' ds' q (fun t ht=>hl t (by simp[ht])) h2)
theorem Dw{t:TypeId}(h:P.underlying t=some .bool):qL P t=some (false,.bool):=by
 unfold qL ET
 rw[h]
theorem yU(hG:Good P){E:Ext P}(hX:AA P E)(hlaid:laidOutB P=true){f:Nat}{fn:Func}(hf:P.funcs[f]?=some fn){s:ChangeSpec}(hvars:s.vars= [])
  (hfn: ∀(ds:List (DataW H)),ds.length=fn.params.toList.length→s.fn H ds={results:= [.lit (.bool true)],args:=ds}) (hts:fn.params.toList.all (vq P)=true) {tb:TypeId} (hres:fn.resultTypes.toList= [tb])
  (hb:P.underlying tb=some .bool) (hp: ∀x:den (eH P f),WfD (eH P f) x→ ∃k y,yR P cfg E k f x=some y∧xP (resTy P f) y)
  {W:World} {base:Nat} {args:Array Value} {ds gs:List (DataW H)} {before:List MemPlace} (hval: ∀(j:Nat) t v,fn.params[j]?=some t→args[j]?=some v→Value.okWide P W .any base t v)
  (hW:DataW.Whole enc P fn.params.toList s.vars false W args.toList ds gs before):
  Calls P f args W fun e W'=> ∃v,e= .returned v∧s.post enc P fn false true false false W args v W':=by
 have hW':=hW
 obtain⟨p,q,hA,hV,rfl,hfz,hnd⟩:=hW
 rw[hvars]at hV
 obtain⟨rfl,rfl⟩:=trodVars_none hV
 have hl: ∀t∈fn.params.toList,vq P t=true:=List.all_eq_true.1 hts
 have e1:dV P f=fn.params.toList:=by unfold dV;rw[hf]
 have e2:bE P f= [tb]:=by unfold bE;rw[hf];exact hres
 obtain⟨x,hx,hwf⟩:=pI fn.params.toList args.toList ds p hl (fun j t v h1 h2=>hval j t v (by simpa using h1) (by simpa using h2)) hA
 have key: ∃x:den (eH P f),fN P W (dV P f) args.toList x∧WfD (eH P f) x:=by
  show∃x:den (dw P (dV P f)),fN P W (dV P f) args.toList x∧WfD (dw P (dV P f)) x
  rw[e1];exact⟨x,hx,hwf⟩
 obtain⟨x,hx,hwf⟩:=key
 obtain⟨k,y,hy,ht⟩:=hp x hwf
 have hlen:ds.length=fn.params.toList.length:=by
  have: ∀(ts:List TypeId) (us:List Value) (ds:List (DataW H)) (ps:List MemPlace),DataW.TrodAll enc P W 0 (fun _=>true) true ts us ds ps→ds.length=ts.length:=by
   intro ts
   induction ts with
   |nil=>intro us ds ps h;obtain⟨_,rfl,_⟩:=trodAll_nil h;rfl
   |cons t ts ih=>
    intro us ds ps h
    obtain⟨u,us',d,ds',p,q,rfl,rfl,rfl,_,h2⟩:=trodAll_cons h
    simp[ih _ _ _ h2]
  exact this _ _ _ _ hA
 refine((yz hG hX hy).2 W args hx).mono fun e W' ⟨us,he,bel,hr⟩=> ?_
 refine⟨mR us,he,ds,[],p++ [],[],p,[],hW',?_,?_,?_,bel.frame _,fun h=>by cases h⟩
 ·
  have key:us= [.bool true]:=by
   have gen: ∀(rt:List TypeId) (y:den (dw P rt)),rt= [tb]→jy P W.heap.size W' rt us y→xP (dw P rt) y→us= [.bool true]:=by
    intro rt y e hr ht
    subst e
    obtain⟨⟨u,us',rfl,hfit,hnil⟩,G,hrep,_⟩:=hr
    have hnil:us'= []:=hnil
    subst hnil
    have ht:xP (tyD P tb) y:=ht
    have hrep:Rep W' true (tyD P tb) y G 0 (fun k=>(bh [u])[k]?):=hrep
    have gen2: ∀(ty:Ty) (y:den ty),ty= .bool→xP ty y→Rep W' true ty y G 0 (fun k=>(bh [u])[k]?)→(bh [u])[0]?=some (.bool true):=by
     intro ty y e ht hr
     subst e
     have ht:y=true:=ht
     subst ht
     exact hr
    have ht1:=Dw hb
    have h0:=gen2 (tyD P tb) y (by unfold tyD;rw[ht1]) ht hrep
    unfold Fit at hfit
    rw[show kj P tb=false by unfold kj;rw[ht1],if_neg (by simp)]at hfit
    rw[show bh [u]=u.cells.toList by simp[bh],hU hfit.1]at h0
    simp only[List.getElem?_cons_zero,Option.some.injEq]at h0
    rw[h0]
   exact gen (bE P f) y e2 hr ht
  subst key
  have hsz:fn.resultTypes.size=1:=by
   have:=congrArg List.length hres
   simpa using this
  rw[hres,hsz,hfn _ (by simpa using hlen)]
  exact trodAll_mk1 (shut_bool hb true)
 ·rw[hfn _ (by simpa using hlen)]
  simpa using pG hlaid bel fn.params.toList args.toList ds p hl hA
 ·rw[hvars,hfn _ (by simpa using hlen)]
  rfl
end
end
end Go.Am
end
section
/- Soundness: functions of Go's library, by contracts that the program's own bodies are held against. -/
namespace Go.Am
noncomputable section
attribute [local instance] D.real
open Go.RowKit
def C8(P:Program)(f:Nat):Lk→Prop
 | .join=>(∀(a:Option Addr) (c:Nat) (sep:ByteArray) (w:World),Calls P f #[.slice a 0 c,.string sep] w fun e w'=>e= .returned (.string ⟨#[]⟩)∧w'=w)∧
   ∀(bk o c:Nat) (xs:List ByteArray) (sep:ByteArray) (w:World),(∀(j:Nat) x,xs[j]?=some x→w.cell? ⟨bk,o+j,none⟩=some (.string x))→bk<w.heap.size→xs.length≤140737488355328→xs.length≤c→
    (Lib.join (xs.map (·.data.toList)) sep.data.toList).length≤140737488355328→
    Calls P f #[.slice (some ⟨bk,o,none⟩) xs.length c,.string sep] w fun e w'=>e= .returned (.string ⟨(Lib.join (xs.map (·.data.toList)) sep.data.toList).toArray⟩)∧Below w.heap.size w w'
 | .itoa=> ∀(i:Nat) (_:i<100) (w:World),Calls P f #[.int .i64 i] w fun e w'=>e= .returned (.string ⟨(Lib.decDigits i).toArray⟩)∧w'=w
 | .rep=> ∀(s:ByteArray) (c:Nat) (w:World),c≤9223372036854775807→s.size*c≤140737488355328→
   Calls P f #[.string s,.int .i64 c] w fun e w'=>e= .returned (.string ⟨(Lib.repeatL s.data.toList c).toArray⟩)∧Below w.heap.size w w'
 | .cmp=> ∀(a b:ByteArray) (w:World),Calls P f #[.string a,.string b] w fun e w'=>e= .returned (.int .i64 (Lib.compareBytes a.data.toList b.data.toList))∧w'=w
def HC(P:Program)(lib:Nat→Option Lk):Prop:= ∀f k,lib f=some k→(∃fn,P.funcs[f]?=some fn∧fn.body.isSome=true)∧C8 P f k
section
variable {P : Program} {W : World}
theorem yk{α β:Type}{f:α→β}{l:List α}{a b:β}(h:l.map f= [a,b]): ∃x y,l= [x,y]:=by
 match l,h with
 | [x,y],_=>exact⟨x,y,rfl⟩
theorem rB{α β:Type}{f:α→β}{l:List α}{a:β}(h:l.map f= [a]): ∃x,l= [x]:=by
 match l,h with
 | [x],_=>exact⟨x,rfl⟩
theorem yl{t:TypeId}{u:Value}(ha:kj P t=false)(h:Fit P t u):u.oneCell'=true∧(tyD P t).size=1:=by
 unfold Fit at h
 rw[if_neg (by simp[ha])]at h
 exact h
theorem wy{t1 t2:TypeId}{us:List Value}(h1:kj P t1=false)(h2:kj P t2=false)(h:yu P [t1,t2] us):
  ∃u1 u2,us= [u1,u2]∧bh us= [u1,u2]∧(tyD P t1).size=1:=by
 obtain⟨u1,_,rfl,f1,u2,_,rfl,f2,rfl⟩:=h
 have a1:=yl h1 f1
 have a2:=yl h2 f2
 exact⟨u1,u2,rfl,by simp[bh,hU a1.1,hU a2.1],a1.2⟩
theorem EM{t1:TypeId}{us:List Value}(h1:kj P t1=false)(h:yu P [t1] us): ∃u1,us= [u1]∧bh us= [u1]:=by
 obtain⟨u1,_,rfl,f1,rfl⟩:=h
 have a1:=yl h1 f1
 exact⟨u1,rfl,by simp[bh,hU a1.1]⟩
theorem yL{B:Nat}{w:World}{u:TypeId}{s:ByteArray}(ha:kj P u=false)(ht:tyD P u= .str)(y:den (dw P [u]))(hy:HEq y s):jy P B w [u] [.string s] y:=by
 have ht':dw P [u]= .str:=ht
 refine⟨⟨_,_,rfl,?_,rfl⟩,?_⟩
 ·unfold Fit
  rw[if_neg (by simp[ha]),ht]
  exact⟨rfl,rfl⟩
 ·revert y
  rw[ht']
  intro y hy
  cases hy
  exact⟨fun _ _=>Go.undef,rfl,trivial,fun b h=>h.elim⟩
theorem GK{B:Nat}{w:World}{u:TypeId}{s:Int}(ha:kj P u=false)(ht:tyD P u= .int .i64)(y:den (dw P [u]))(hy:HEq y s):jy P B w [u] [.int .i64 s] y:=by
 have ht':dw P [u]= .int .i64:=ht
 refine⟨⟨_,_,rfl,?_,rfl⟩,?_⟩
 ·unfold Fit
  rw[if_neg (by simp[ha]),ht]
  exact⟨rfl,rfl⟩
 ·revert y
  rw[ht']
  intro y hy
  cases hy
  exact⟨fun _ _=>Go.undef,rfl,trivial,fun b h=>h.elim⟩
theorem Dt(k:Lk)(f:Nat)(hC:C8 P f k)(ts us:List TypeId)(hfit:yV P k ts us=true)(gf:den (dw P ts)→Option (den (dw P us)))
  (hg:pP k (dw P ts) (dw P us)=some gf) (x:den (dw P ts)) (y:den (dw P us)) (hy:gf x=some y) (args:Array Value) (hR:fN P W ts args.toList x):
  Calls P f args W fun e w'=> ∃vs,e= .returned (mR vs)∧Below W.heap.size W w'∧jy P W.heap.size w' us vs y:=by
 simp only[yV,Bool.and_eq_true,decide_eq_true_eq,List.all_eq_true,Bool.not_eq_true']at hfit
 obtain⟨e1,e2,a1,a2⟩:=hfit
 obtain⟨hF,G,hG⟩:=hR
 cases k with
 |join=>
  obtain⟨t1,t2,rfl⟩:=yk e1
  obtain⟨u,rfl⟩:=rB e2
  simp only[sC,List.map_cons,List.map_nil,List.cons.injEq,and_true]at e1 e2
  obtain⟨v1,v2,hargs,hcells,hs1⟩:=wy (a1 t1 (by simp)) (a1 t2 (by simp)) hF
  have key: ∀(T1 T2 U:Ty),T1= .sl .str→T2= .str→U= .str→ ∀(gf:den (.pair T1 T2)→Option (den U)),pP .join (.pair T1 T2) U=some gf→ ∀(x:den (.pair T1 T2)) (y:den U),gf x=some y→
    Rep W false (.pair T1 T2) x G 0 (fun k=>(bh args.toList)[k]?)→ ∃(xs:List ByteArray) (sep s:ByteArray),sg xs sep=some s∧HEq y s∧v2= .string sep∧
     Rep W false (.sl .str) xs G 0 (fun k=>(bh args.toList)[k]?):=by
   rintro _ _ _ rfl rfl rfl gf hg x y hy hG
   obtain⟨xs,sep⟩:=x
   simp only[pP,Option.some.injEq]at hg
   subst hg
   refine⟨xs,sep,y,hy,HEq.rfl,?_,hG.1⟩
   have h2:=hG.2
   rw[hcells]at h2
   simpa[Rep,Ty.size]using h2
  obtain⟨xs,sep,s,hj,hye,rfl,hrow⟩:=key _ _ _ e1.1 e1.2 e2 gf hg x y hy hG
  rw[hcells]at hrow
  obtain⟨h0,hrow⟩:=hrow
  have hv1:v1=G 0 []:=by simpa using h0
  have hA:args= #[v1,.string sep]:=by
   apply Array.toList_inj.1;rw[hargs]
  unfold sg at hj
  split at hj
  ·next hb=>
   cases hj
   have fin: ∀w',Below W.heap.size W w'→ ∃vs,Ending.returned (.string ⟨(Lib.join (xs.map (·.data.toList)) sep.data.toList).toArray⟩)= .returned (mR vs)∧Below W.heap.size W w'∧jy P W.heap.size w' [u] vs y:=
    fun w' hb'=>⟨[.string ⟨(Lib.join (xs.map (·.data.toList)) sep.data.toList).toArray⟩],rfl,hb',yL (a2 u (by simp)) e2 y hye⟩
   rw[hA]
   cases xs with
   |nil=>
    have: ∃a c,v1= .slice a 0 c:=by
     rcases hrow with⟨hh,_⟩|⟨a,cap,hh,_⟩
     ·exact⟨none,0,hv1.trans hh⟩
     ·exact⟨some a,cap,hv1.trans hh⟩
    obtain⟨a,c,rfl⟩:=this
    refine(hC.1 a c sep W).mono ?_
    rintro e w' ⟨rfl,rfl⟩
    exact fin _ (Below.refl _ _)
   |cons z zs=>
    rcases hrow with⟨_,hh⟩|⟨a,cap,hh,hcap,_,hall⟩
    ·cases hh
    ·have hcell: ∀(j:Nat) x,(z::zs)[j]?=some x→W.cell? (a.add j)=some (.string x):=fun j x hx=>by
      have:=hall j x hx
      simpa[Rep,Ty.size]using this
     have hz:=hcell 0 z rfl
     have hadd0:a.add 0=a:=rfl
     rw[hadd0]at hz
     obtain⟨bk,o,sp⟩:=a
     have hsp:sp=none∧bk<W.heap.size:=by
      unfold World.cell? at hz
      split at hz
      ·next hb2=>
       refine⟨?_,(Array.getElem?_eq_some_iff.1 hb2).1⟩
       cases sp with
       |none=>rfl
       |some _=>simp at hz
      ·cases hz
     obtain⟨rfl,hbk⟩:=hsp
     rw[hv1,hh]
     refine(hC.2 bk o cap (z::zs) sep W (fun j x hx=> ?_) hbk hb.1 hcap hb.2).mono ?_
     ·have:=hcell j x hx
      cases j with
      |zero=>exact this
      |succ j=>simpa[Addr.add]using this
     ·rintro e w' ⟨rfl,hw⟩
      exact fin _ hw
  ·cases hj
 |itoa=>
  obtain⟨t1,rfl⟩:=rB e1
  obtain⟨u,rfl⟩:=rB e2
  simp only[sC,List.map_cons,List.map_nil,List.cons.injEq,and_true]at e1 e2
  obtain⟨v1,hargs,hcells⟩:=EM (a1 t1 (by simp)) hF
  have key: ∀(T1 U:Ty),T1= .int .i64→U= .str→ ∀(gf:den T1→Option (den U)),pP .itoa T1 U=some gf→ ∀(x:den T1) (y:den U),gf x=some y→
    Rep W false T1 x G 0 (fun k=>(bh args.toList)[k]?)→ ∃(n:Int) (s:ByteArray),sH n=some s∧HEq y s∧v1= .int .i64 n:=by
   rintro _ _ rfl rfl gf hg x y hy hG
   simp only[pP,Option.some.injEq]at hg
   subst hg
   refine⟨x,y,hy,HEq.rfl,?_⟩
   rw[hcells]at hG
   simpa[Rep]using hG
  obtain⟨n,s,hj,hye,rfl⟩:=key _ _ e1 e2 gf hg x y hy hG
  have hA:args= #[.int .i64 n]:=by
   apply Array.toList_inj.1;rw[hargs]
  unfold sH at hj
  split at hj
  ·next hb=>
   cases hj
   obtain⟨i,rfl⟩:=Int.eq_ofNat_of_zero_le hb.1
   rw[hA]
   refine(hC i (by omega) W).mono ?_
   rintro e w' ⟨rfl,rfl⟩
   exact⟨[.string ⟨(Lib.decDigits i).toArray⟩],rfl,Below.refl _ _,yL (a2 u (by simp)) e2 y hye⟩
  ·cases hj
 |rep=>
  obtain⟨t1,t2,rfl⟩:=yk e1
  obtain⟨u,rfl⟩:=rB e2
  simp only[sC,List.map_cons,List.map_nil,List.cons.injEq,and_true]at e1 e2
  obtain⟨v1,v2,hargs,hcells,hs1⟩:=wy (a1 t1 (by simp)) (a1 t2 (by simp)) hF
  have key: ∀(T1 T2 U:Ty),T1= .str→T2= .int .i64→U= .str→ ∀(gf:den (.pair T1 T2)→Option (den U)),pP .rep (.pair T1 T2) U=some gf→ ∀(x:den (.pair T1 T2)) (y:den U),gf x=some y→
    Rep W false (.pair T1 T2) x G 0 (fun k=>(bh args.toList)[k]?)→ ∃(t:ByteArray) (n:Int) (s:ByteArray),xa t n=some s∧HEq y s∧v1= .string t∧v2= .int .i64 n:=by
   rintro _ _ _ rfl rfl rfl gf hg x y hy hG
   obtain⟨t,n⟩:=x
   simp only[pP,Option.some.injEq]at hg
   subst hg
   rw[hcells]at hG
   exact⟨t,n,y,hy,HEq.rfl,by simpa[Rep,Ty.size]using hG.1,by simpa[Rep,Ty.size]using hG.2⟩
  obtain⟨t,n,s,hj,hye,rfl,rfl⟩:=key _ _ _ e1.1 e1.2 e2 gf hg x y hy hG
  have hA:args= #[.string t,.int .i64 n]:=by
   apply Array.toList_inj.1;rw[hargs]
  unfold xa at hj
  split at hj
  ·next hb=>
   cases hj
   obtain⟨i,rfl⟩:=Int.eq_ofNat_of_zero_le hb.1
   rw[hA]
   refine(hC t i W (by omega) hb.2.2).mono ?_
   rintro e w' ⟨rfl,hw⟩
   exact⟨[.string ⟨(Lib.repeatL t.data.toList i).toArray⟩],rfl,hw,yL (a2 u (by simp)) e2 y hye⟩
  ·cases hj
 |cmp=>
  obtain⟨t1,t2,rfl⟩:=yk e1
  obtain⟨u,rfl⟩:=rB e2
  simp only[sC,List.map_cons,List.map_nil,List.cons.injEq,and_true]at e1 e2
  obtain⟨v1,v2,hargs,hcells,hs1⟩:=wy (a1 t1 (by simp)) (a1 t2 (by simp)) hF
  have key: ∀(T1 T2 U:Ty),T1= .str→T2= .str→U= .int .i64→ ∀(gf:den (.pair T1 T2)→Option (den U)),pP .cmp (.pair T1 T2) U=some gf→ ∀(x:den (.pair T1 T2)) (y:den U),gf x=some y→
    Rep W false (.pair T1 T2) x G 0 (fun k=>(bh args.toList)[k]?)→ ∃(a b:ByteArray) (s:Int),Eh a b=some s∧HEq y s∧v1= .string a∧v2= .string b:=by
   rintro _ _ _ rfl rfl rfl gf hg x y hy hG
   obtain⟨a,b⟩:=x
   simp only[pP,Option.some.injEq]at hg
   subst hg
   rw[hcells]at hG
   exact⟨a,b,y,hy,HEq.rfl,by simpa[Rep,Ty.size]using hG.1,by simpa[Rep,Ty.size]using hG.2⟩
  obtain⟨a,b,s,hj,hye,rfl,rfl⟩:=key _ _ _ e1.1 e1.2 e2 gf hg x y hy hG
  have hA:args= #[.string a,.string b]:=by
   apply Array.toList_inj.1;rw[hargs]
  cases hj
  rw[hA]
  refine(hC a b W).mono ?_
  rintro e w' ⟨rfl,rfl⟩
  exact⟨[.int .i64 _],rfl,Below.refl _ _,GK (a2 u (by simp)) e2 y hye⟩
theorem FO{lib:Nat→Option Lk}{srt:Nat→Option Nat}(h:HC P lib)(hs: ∀f k,srt f=some k→y0 P f k):AA P (Fx P lib srt):=by
 refine⟨fun f gf x y hg hy=> ?_,hs⟩
 unfold Fx at hg
 dsimp only at hg
 split at hg
 ·next k hk=>
  obtain⟨hf,hC⟩:=h f k hk
  cases hb:yV P k (dV P f) (bE P f)with
  |false=>rw[hb]at hg;cases hg
  |true=>
   rw[hb]at hg
   exact⟨hf,fun W args hR=>Dt k f hC _ _ hb gf hg x y hy args hR⟩
 ·cases hg
end
end
end Go.Am
end
