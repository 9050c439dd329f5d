/- Calls and regions with open order are sound, whatever the program. -/
import Derived.Test.YtloognjnfelgfaaDoorAmI
import Derived.OrdersIn
set_option linter.unusedSimpArgs false
set_option linter.unusedVariables false
set_option linter.unnecessarySimpa false
set_option linter.unusedSectionVars false
section
/- Soundness: calls; one operation. -/
namespace Go.Am
noncomputable section
attribute [local instance] D.real
def qP(P:Program):Prop:= ∀(f:Nat) (fn:Func),P.funcs[f]?=some fn→fn.body.isSome=true→(fn.name== "runtime.NumGoroutine")=false
section
variable {P : Program} {cfg : Cfg} {env : Env P} {w0 : bu} {w w' : World} {st st' : St} {g g' : aB} {born : Nat → Prop} {a : Act} {asx acts : List Act} {o : Oper} {base : Nat}
theorem mM{c:Call}{x:Operand}{f:Nat}{first cap:Array Value}{fn:Func}(ho:o.op= .call c)(hc:c.callee= .value x)(hx:a.eval x= .func (.func f) first cap)(hfn:P.funcs[f]?=some fn)(hb:fn.body.isSome=true)
  (hN:(fn.name== "runtime.NumGoroutine")=false):(execOp a.eval o).run P w= .ok (.enter f (first++c.args.map a.eval++cap)) w:=by
 have hne:fn.name≠ "runtime.NumGoroutine" :=by simpa using hN
 have hbn:fn.body.isNone=false:=by
  cases h:fn.body with
  |none=>rw[h]at hb;cases hb
  |some c=>rfl
 unfold execOp;rw[ho]
 simp only[resolve,hc,hx,Deferred.ofValue,invoke,callFunc,Sem.run_bind,run_program,Result.andThen_ok,Sem.run_pure,hfn,hN,hbn,Bool.false_eq_true,if_false]
theorem ng(st:St)(c:Option (Nat×Nat)):(st.cut c).rs.length=st.rs.length:=by
 cases c with
 |none=>rfl
 |some c=>show(st.rs.map _).length=_;simp
theorem fB(st:St)(d:Option Tmp)(v:AV):(st.put d v).rs=st.rs:=by
 unfold St.put
 split
 ·rfl
 ·split<;>rfl
theorem rm{get:Get}: ∀{vs:List AV} {us:List Value},ai get g vs us→ae get g (tG vs) (mR us)∧ ∀r∈(tG vs).roots,r∈AV.ah vs
 | [],us,h=>by
  rw[ai]at h;subst h
  refine⟨?_,fun r hr=>by simp[tG,AV.roots,AV.ah]at hr⟩
  show ae get g (.tup []) (.tuple #[])
  rw[ae];exact⟨#[],rfl,by rw[ai]⟩
 | [v],us,h=>by
  rw[ai]at h
  obtain⟨u,us',rfl,h1,h2⟩:=h
  rw[ai]at h2;subst h2
  exact⟨h1,fun r hr=>by have hr:r∈v.roots:=hr;simpa[AV.ah]using hr⟩
 |v::v2::vs,us,h=>by
  have h':=h
  rw[ai]at h
  obtain⟨u,us',rfl,h1,h2⟩:=h
  rw[ai]at h2
  obtain⟨u2,us2,rfl,_,_⟩:=h2
  refine⟨?_,fun r hr=>by simpa[tG,AV.roots]using hr⟩
  show ae get g (.tup (v::v2::vs)) (.tuple (u::u2::us2).toArray)
  rw[ae];exact⟨_,rfl,by simpa using h'⟩
theorem Ai: ∀(ts:List TypeId) (vs ws:List AV) (us:List Value) (st:St) (g:aB) (born:Nat→Prop) (base:Nat) (rs:List ak),Rel w0 st g born acts w→ai st.get g vs us→(∀r∈AV.ah vs,born r)→ru P ts vs base=(ws,rs)→
  (∀i,base≤i→i<base+rs.length→ ¬born i)→
  ∃g' born',Rel w0 (st.aH (aj base rs)) g' born' acts w∧Laid st (st.aH (aj base rs)) g g' born born' base (base+rs.length)∧ai (st.aH (aj base rs)).get g' ws us∧ ∀r∈AV.ah ws,born' r:=by
 intro ts
 have triv: ∀(vs ws:List AV) (us:List Value) (st:St) (g:aB) (born:Nat→Prop) (base:Nat) (rs:List ak),Rel w0 st g born acts w→ai st.get g vs us→(∀r∈AV.ah vs,born r)→(vs,([]:List ak))=(ws,rs)→
   ∃g' born',Rel w0 (st.aH (aj base rs)) g' born' acts w∧Laid st (st.aH (aj base rs)) g g' born born' base (base+rs.length)∧ai (st.aH (aj base rs)).get g' ws us∧ ∀r∈AV.ah ws,born' r:=by
  intro vs ws us st g born base rs R hA hb h
  simp only[Prod.mk.injEq]at h
  obtain⟨rfl,rfl⟩:=h
  exact⟨g,born,R,Laid.refl _ _ _ _,hA,hb⟩
 induction ts with
 |nil=>intro vs ws us st g born base rs R hA hb h _;exact triv vs ws us st g born base rs R hA hb h
 |cons t ts ih=>
  intro vs ws us st g born base rs R hA hb h hfr
  cases vs with
  |nil=>exact triv [] ws us st g born base rs R hA hb h
  |cons v vs=>
   unfold ru at h
   generalize hf:nq P t v base=ff at h
   obtain⟨v',rs1⟩:=ff
   simp only at h
   generalize hf2:ru P ts vs (base+rs1.length)=f2 at h
   obtain⟨vs',rs2⟩:=f2
   simp only[Prod.mk.injEq]at h
   obtain⟨rfl,rfl⟩:=h
   rw[ai]at hA
   obtain⟨u,us',rfl,hv,hA⟩:=hA
   obtain⟨g1,b1,R1,L1,A1,B1⟩:=oH R hv (fun r hr=>hb r (by simp only[AV.ah,List.mem_append];exact .inl hr)) hf (fun i h1 h2=>hfr i h1 (by simp;omega))
   obtain⟨g2,b2,R2,L2,A2,B2⟩:=ih vs vs' us' _ g1 b1 (base+rs1.length) rs2 R1 (bZ _ _ (fun r hr=>L1.holds (hb r (by simp only[AV.ah,List.mem_append];exact .inr hr))) hA)
    (fun r hr=>(L1.born_iff r).2 (.inl (hb r (by simp only[AV.ah,List.mem_append];exact .inr hr)))) hf2
    (fun i h1 h2 hbi=>((L1.born_iff i).1 hbi).elim (hfr i (by omega) (by simp;omega)) fun h=>by omega)
   have hset:st.aH (aj base (rs1++rs2))=(st.aH (aj base rs1)).aH (aj (base+rs1.length) rs2):=by
    rw[ig,iH]
   rw[hset]
   refine⟨g2,b2,R2,?_,?_,fun r hr=> ?_⟩
   ·have:=Laid.trans (by omega) (by omega) L1 L2
    rw[List.length_append,←Nat.add_assoc];exact this
   ·rw[ai]
    exact⟨u,us',rfl,gO _ _ (fun r hr=>L2.holds (B1 r hr)) A1,A2⟩
   ·simp only[AV.ah,List.mem_append]at hr
    rcases hr with hr|hr
    ·exact(L2.born_iff r).2 (.inl (B1 r hr))
    ·exact B2 r hr
theorem zT(f:Nat)(vs ws:List AV)(us:List Value)(st:St)(g:aB)(born:Nat→Prop)(base:Nat)(rs:List ak)(R:Rel w0 st g born acts w)(hA:ai st.get g vs us)(hb: ∀r∈AV.ah vs,born r)
  (h:qU P cfg f vs base=(ws,rs)) (hfr: ∀i,base≤i→i<base+rs.length→ ¬born i):
  ∃g' born',Rel w0 (st.aH (aj base rs)) g' born' acts w∧Laid st (st.aH (aj base rs)) g g' born born' base (base+rs.length)∧ai (st.aH (aj base rs)).get g' ws us∧ ∀r∈AV.ah ws,born' r:=by
 unfold qU at h
 cases hm:(Nat.beq (cfg.mode f) 2||Nat.beq (cfg.mode f) 5)with
 |true=>
  rw[hm]at h
  simp only[cond_true,Prod.mk.injEq]at h
  obtain⟨rfl,rfl⟩:=h
  exact⟨g,born,R,Laid.refl _ _ _ _,hA,hb⟩
 |false=>
  rw[hm]at h
  exact Ai _ vs ws us st g born base rs R hA hb h hfr
theorem get_append(fr:List (List AV)): ∀(l rs:List ak) (r:Nat),(St.mk fr (rs++l)).get r=((St.mk fr rs).aH (aj rs.length l)).get r
 | [],rs,r=>by simp[aj];rfl
 |x::l,rs,r=>by
  rw[aj,jJ]
  have:=get_append fr l (rs++ [x]) r
  rw[List.append_assoc]at this
  rw[show x::l= [x]++l from rfl,this]
  have e:(St.mk fr rs).ep rs.length x=St.mk fr (rs++ [x]):=by
   show St.mk fr (setAt rs rs.length x)=_
   unfold setAt
   have:Nat.blt rs.length rs.length=false:=by
    cases h:Nat.blt rs.length rs.length with
    |false=>rfl
    |true=>have:=cE h;omega
   rw[this];simp
  rw[e];simp
theorem rP(R:Rel w0 st g born acts w)(hb:RowKit.Below w.heap.size w w'):Rel w0 st g born acts w':=by
 refine jU (fun _=>False) R (bL.zZ hb R.below.size) rfl (fun r _=>⟨fun t ht=>⟨ht,fun _ _=>rfl⟩,fun hv=>⟨hv,rfl⟩⟩) (fun r _=>⟨rfl,rfl,fun b hbo=>hb.block b (eO R hbo)⟩)
  (fun _ _ _ _ _ _ _ h=>h) (fun r h=>h.elim) (fun r _ _ h=>h.elim) (fun r _ h=>h.elim) (fun _ h=>h) (fun r h=>h.elim) (fun r h=>h.elim)
theorem CI{Q:Exit→Act→World→Prop}{ops:Array Oper}{x y:Oper}(h0:ops[0]?=some x)(h1:ops[1]?=some y)(h2:ops.size=2)(gx:x.guard=none)(gy:y.guard=none)(a:Act)(w:World){id:Nat}
  (h:x.wp P a w (fun a w=>y.wp P a w (Q .normal) Q) Q):(Code.region id ops false).wp P Q a w:=by
 refine wp_region ?_
 rw[h2,show List.range 2= [0,1]from rfl,wpOps_cons]
 unfold wpOp
 rw[h0]
 have wnt: ∀{o:Oper} {a:Act},o.guard=none→Region.wanted o (yielded ops a.tmps)=true:=fun h=>by unfold Region.wanted;rw[h]
 simp only[wnt gx,if_true]
 refine .inl (Oper.wp_mono (fun a w h=> ?_) h)
 rw[wpOps_cons]
 unfold wpOp
 rw[h1]
 simp only[wnt gy,if_true]
 exact .inl h
theorem BA{f f1:Nat}{t:TypeId}{u v:Value}(hb:xU P f=some (f1,t))(hbox: ∀(o:Oper) (a:Act) (x:Operand),o.op= .box t x→a.eval x=u→(execOp a.eval o).run P w= .ok (.value v) w'):
  (∃fn,P.funcs[f]?=some fn∧fn.body.isSome=true)∧Calls P f #[u] w fun e w2=>e= .returned (.func (.func f1) #[] #[v])∧w2=w':=by
 unfold xU at hb
 split at hb
 ·cases hb
 next fn hfn=>
 split at hb
 rotate_left
 ·cases hb
 next i1 oa i2 ob hbd=>
 split at hb
 rotate_left
 ·cases hb
 next p t' q m f1' p' q' m' r h1 h2 h3 h4 hr=>
 generalize hc:(Nat.beq oa.size 2&&(Nat.beq ob.size 2&&(Nat.beq p p'&&(Nat.beq m m'&&(Nat.beq q' r&&(!(Nat.beq q p)&&(Nat.blt p fn.ntmps&&(Nat.blt m fn.ntmps&&Nat.blt r fn.ntmps))))))))=b at hb
 cases b with
 |false=>cases hb
 |true=>
 simp only[cond_true,Option.some.injEq,Prod.mk.injEq]at hb
 obtain⟨rfl,rfl⟩:=hb
 simp only[Bool.and_eq_true,Bool.not_eq_true']at hc
 obtain⟨c1,c2,c3,c4,c5,c6,c7,c8,c9⟩:=hc
 have c1:=cX c1
 have c2:=cX c2
 have c3:=cX c3
 have c4:=cX c4
 have c5:=cX c5
 have c7:=cE c7
 have c8:=cE c8
 have c9:=cE c9
 have c6:q≠p:=fun e=>by subst e;simp at c6
 subst c3;subst c4;subst c5
 obtain⟨o0,g0,h1⟩:=Option.bind_eq_some_iff.1 h1
 obtain⟨o1,g1,h2⟩:=Option.bind_eq_some_iff.1 h2
 obtain⟨o2,g2,h3⟩:=Option.bind_eq_some_iff.1 h3
 obtain⟨o3,g3,h4⟩:=Option.bind_eq_some_iff.1 h4
 have m0:o0.op= .box t' (.tmp 0)∧o0.dst=some p∧o0.guard=none:=by
  unfold G5 at h1
  split at h1
  ·next e1 e2 e3=>injection h1 with h1;injection h1 with q1 q2;subst q1;subst q2;exact⟨e1,e2,e3⟩
  ·cases h1
 have m1: ∃cv,o1.op= .assign (.const cv)∧o1.dst=some q∧o1.guard=none:=by
  unfold HK at h2
  split at h2
  ·next e1 e2 e3=>injection h2 with h2;subst h2;exact⟨_,e1,e2,e3⟩
  ·cases h2
 have m2:o2.op= .makeFunc (.func f1') #[] #[.tmp p]∧o2.dst=some m∧o2.guard=none:=by
  unfold Hy at h3
  split at h3
  ·next f2 a b mm e1 e2 e3=>
   split at h3
   ·next pp ea eb=>
    injection h3 with h3;injection h3 with q1 q2;injection q2 with q2 q3;subst q1;subst q2;subst q3
    have ea:a= #[]:=by simpa using ea
    have eb:b= #[.tmp pp]:=by rw[←Array.toList_inj];exact eb
    subst ea;subst eb
    exact⟨e1,e2,e3⟩
   ·cases h3
  ·cases h3
 have m3:o3.op= .assign (.tmp m)∧o3.dst=some q'∧o3.guard=none:=by
  unfold HF at h4
  split at h4
  ·next e1 e2 e3=>injection h4 with h4;injection h4 with q1 q2;subst q1;subst q2;exact⟨e1,e2,e3⟩
  ·cases h4
 have hr:fn.results= #[.tmp q']:=by
  unfold G3 at hr
  split at hr
  ·next rr e=>injection hr with hr;subst hr;rw[←Array.toList_inj];exact e
  ·cases hr
 obtain⟨cv,m1⟩:=m1
 refine⟨⟨fn,hfn,by rw[hbd];rfl⟩,calls_of_wp hfn hbd (wp_seq (CI g0 g1 c1 m0.2.2 m1.2.2 _ _ ?_))⟩
 have pg: ∀{a:Act} {d:Nat} {v:Value},d<a.tmps.size→(a.put (some d) v).tmps.getD d Go.undef=v:=fun h=>by simp[Act.put,h]
 have po: ∀{a:Act} {d k:Nat} {v:Value},d≠k→(a.put (some d) v).tmps.getD k Go.undef=a.tmps.getD k Go.undef:=fun h=>by
  simp only[Act.put,Array.getD_eq_getD_getElem?,Array.getElem?_setIfInBounds];rw[if_neg h]
 have ps: ∀{a:Act} {d:Nat} {v:Value},(a.put (some d) v).tmps.size=a.tmps.size:=by simp[Act.put]
 have hsz:fn.ntmps≤(#[u]++Array.replicate (fn.ntmps-(#[u]:Array Value).size) Go.undef).size:=by simp;omega
 generalize htm:(#[u]++Array.replicate (fn.ntmps-(#[u]:Array Value).size) Go.undef)=tm at hsz⊢
 have h0:tm.getD 0 Go.undef=u:=by rw[←htm];simp[Array.getD_eq_getD_getElem?,Array.getElem?_append]
 unfold Oper.wp
 rw[hbox o0 {tmps:=tm,defers:= []} (.tmp 0) m0.1 h0,Oper.upon_value,m0.2.1]
 have e1: ∀a:Act,(execOp a.eval o1).run P w'= .ok (.value cv) w':=fun a=>by
  unfold execOp;rw[m1.1]
  have:a.eval (.const cv)=cv:=rfl
  simp[this]
 rw[e1,Oper.upon_value,m1.2.1]
 refine wp_seq (CI g2 g3 c2 m2.2.2 m3.2.2 _ _ ?_)
 generalize ha2:((({tmps:=tm,defers:= []}:Act).put (some p) v).put (some q) cv)=a2
 have v2:a2.tmps.getD p Go.undef=v:=by rw[←ha2,po c6,pg (by show p<tm.size;omega)]
 have s2:fn.ntmps≤a2.tmps.size:=by rw[←ha2,ps,ps];exact hsz
 have d2:a2.defers= []:=by rw[←ha2];rfl
 unfold Oper.wp
 have e2:(execOp a2.eval o2).run P w'= .ok (.value (.func (.func f1') #[] #[v])) w':=by
  have:a2.eval (.tmp p)=v:=v2
  unfold execOp;rw[m2.1]
  simp[Instr.makeFunc,this]
 rw[e2,Oper.upon_value,m2.2.1]
 generalize ha3:a2.put (some m) (.func (.func f1') #[] #[v])=a3
 have v3:a3.tmps.getD m Go.undef= .func (.func f1') #[] #[v]:=by rw[←ha3,pg (by omega)]
 have s3:fn.ntmps≤a3.tmps.size:=by rw[←ha3,ps];exact s2
 have d3:a3.defers= []:=by rw[←ha3];exact d2
 have e3:(execOp a3.eval o3).run P w'= .ok (.value (.func (.func f1') #[] #[v])) w':=by
  have:a3.eval (.tmp m)= .func (.func f1') #[] #[v]:=v3
  unfold execOp;rw[m3.1]
  simp[this]
 rw[e3,Oper.upon_value,m3.2.1]
 refine wp_ret ⟨d3,.func (.func f1') #[] #[v],?_,rfl,rfl⟩
 unfold results
 rw[hr]
 have:(a3.put (some q') (.func (.func f1') #[] #[v])).tmps.getD q' Go.undef= .func (.func f1') #[] #[v]:=pg (by omega)
 simp at this
 simp[this]
theorem vg(hE:gV P env)(hN:qP P){dr:Bool}{t:Touch}{Q:Exit→Act→World→Prop}{K:Act→World→Prop}(h:px (R:=Touch×St) P cfg env base dr o st (fun t st=>some (t,st))=some (t,st'))
  (R:Rel w0 st g born (a::asx) w) (hfr: ∀i∈t.writes,base≤i→ ¬born i) (hlt: ∀r,born r→r<st.rs.length)
  (hKX: ∀a' w' g' born',cg w0 st' g' born' (a'::asx) w'→(∀r,born' r→r<st'.rs.length)→(dr=true→ ∀r,born' r→born r∨r∈t.writes)→(∃v,a'=a.put o.dst v)→K a' w'):o.wp P a w K Q:=by
 have hK: ∀a' w' g' born',Rel w0 st' g' born' (a'::asx) w'→(∀r,born' r→r<st'.rs.length)→(dr=true→ ∀r,born' r→born r∨r∈t.writes)→(∃v,a'=a.put o.dst v)→K a' w':=fun a' w' g' b' R'=>hKX a' w' g' b' (.of R')
 have plain: ∀(hcall: ∀c,o.op= .call c→ ∃b,c.callee= .builtin b),yQ (R:=Touch×St) o (o.op.operands.toList.map (an st)) (aP P o (o.op.operands.toList.map (an st)) st.get base) st (fun t st=>some (t,st))=some (t,st')→o.wp P a w K Q:=by
  intro hcall h
  rw[gJ]at h
  split at h
  ·next hok=>
   simp only[Option.some.injEq,Prod.mk.injEq]at h
   obtain⟨rfl,rfl⟩:=h
   obtain⟨hq,hok⟩:=af.1 (iJ.1 hok)
   have hstep:=F3 hcall R hok (fun i h1 h2=>hfr i h2 h1) hq
   refine vJ hstep fun v w' hd=> ?_
   obtain⟨g',b',R',hv,hr,hb1,hb2⟩:=hd
   have hlen:st.rs.length≤(qO o (aP P o (o.op.operands.toList.map (an st)) st.get base) st).rs.length:=by
    unfold qO
    rw[fB,ng]
    exact(gC (aP P o (o.op.operands.toList.map (an st)) st.get base).upd st).1
   refine hK _ w' g' b' (nv R' o.dst hv hr) (fun r hr=> ?_) (fun _ r hr=>hb1 r hr) ⟨_,rfl⟩
   rcases hb1 r hr with h|h
   ·exact Nat.lt_of_lt_of_le (hlt r h) hlen
   ·unfold qO
    rw[fB,ng]
    exact(gC (aP P o (o.op.operands.toList.map (an st)) st.get base).upd st).2 r h
  ·cases h
 unfold px at h
 split at h
 ·next c hop=>
  cases hbk:(gX P c).isSome with
  |true=>
   rw[hbk]at h
   simp only[cond_true]at h
   rw[gJ]at h
   split at h
   rotate_left
   ·cases h
   next hok=>
   simp only[Option.some.injEq,Prod.mk.injEq]at h
   obtain⟨rfl,rfl⟩:=h
   obtain⟨_,hok⟩:=af.1 (iJ.1 hok)
   obtain⟨⟨f1,t⟩,hbk⟩:=Option.isSome_iff_exists.1 hbk
   have hcal: ∃f,c.callee= .value (.func f)∧xU P f=some (f1,t):=by
    have hbk':=hbk
    unfold gX at hbk'
    split at hbk'
    ·next f hf=>exact⟨f,hf,hbk'⟩
    ·cases hbk'
   obtain⟨f,hcf,hbf⟩:=hcal
   have hops:o.op.operands.toList= .func f::c.args.toList:=by
    rw[hop]
    show c.operands.toList=_
    unfold Call.operands;rw[hcf];simp
   have eo:aP P o (o.op.operands.toList.map (an st)) st.get base=tZ P c (o.op.operands.toList.map (an st)) base:=by
    unfold aP;rw[hop]
    simp only[hcf]
   have hop':=hop
   rw[eo]at hok hfr hK
   rw[hops,List.map_cons]at hok hfr hK
   generalize hout:tZ P c (an st (.func f)::c.args.toList.map (an st)) base=out at hok hfr hK
   unfold tZ at hout
   rw[hbk]at hout
   split at hout
   rotate_left
   ·subst hout;exact(ay hok).elim
   next f1' t' fv r p sub e1 e2=>
   injection e1 with e1
   injection e1 with q1 q2
   subst q1;subst q2
   injection e2 with _ e2
   subst hout
   have hone: ∃x,c.args= #[x]:=by
    have h1:=congrArg List.length e2
    simp only[List.length_map,Array.length_toList,List.length_cons,List.length_nil]at h1
    exact⟨c.args[0],by
     apply Array.ext
     ·simpa using h1
     ·intro i h2 h3
      have:i=0:=by omega
      subst this;rfl⟩
   obtain⟨x,hx⟩:=hone
   rw[hx]at e2
   have e2:an st x= .sl r p sub:=by simpa using e2
   have hbox:=zJ (P:=P) (o:={o with op:= .box t x}) (base:=base) (elem:=t) (x:=x) rfl R (v':= .sl r p sub) (rs:= []) (by rw[e2];rfl) (af.2 ⟨rfl,mF⟩) (fun i h1 h2=>hfr i (by
    show i∈ [base]
    simp only[aj,List.map_cons,List.map_nil]at h2
    exact h2) h1)
   obtain⟨v,w1,hD,hrun⟩:=hbox
   have hbx: ∀(o':Oper) (a':Act) (x':Operand),o'.op= .box t x'→a'.eval x'=a.eval x→(execOp a'.eval o').run P w= .ok (.value v) w1:=by
    intro o' a' x' ho' hx'
    have e3: ∀(o:Oper) (a:Act) (x:Operand),o.op= .box t x→(execOp a.eval o).run P w=(do pure (.value (←Instr.box t (a.eval x))):Sem Next).run P w:=by
     intro o a x ho
     unfold execOp;rw[ho]
    rw[e3 _ _ _ ho',hx']
    rcases hrun with h|⟨h,_⟩
    ·rw[e3 _ _ x rfl]at h;exact h
    ·rw[e3 _ _ x rfl]at h
     simp[Instr.box,newVar,newRow]at h
   obtain⟨⟨fn,hfn,hbody⟩,hcalls⟩:=BA (u:=a.eval x) hbf hbx
   unfold Oper.wp
   have hf0:a.eval (.func f)= .func (.func f) #[] #[]:=rfl
   rw[mM hop' hcf hf0 hfn hbody (hN f fn hfn hbody),Oper.upon_enter]
   have earg:(#[]++c.args.map a.eval++ #[]:Array Value)= #[a.eval x]:=by rw[hx];simp
   rw[earg]
   refine Calls.mono hcalls fun e w2 he=> ?_
   obtain⟨rfl,rfl⟩:=he
   obtain⟨g',b',R',hv,hr,hb1,hb2⟩:=hD
   have hlen:st.rs.length≤(st.aH [(base,.var [.sl r p sub])]).rs.length:=(gC _ st).1
   refine hK _ w2 g' b' (nv R' o.dst (av:= .fn f1 [] [.pv base 0]) (by
     rw[ae]
     refine⟨#[],#[v],rfl,by rw[ai],?_⟩
     rw[ai]
     exact⟨v,[],rfl,hv,rfl⟩) (fun k hk=>hr k (by simpa[AV.roots,AV.ah]using hk))) (fun k hk=> ?_) (fun _ k hk=>hb1 k hk) ⟨_,rfl⟩
   show k<((st.aH [(base,.var [.sl r p sub])]).put o.dst (.fn f1 [] [.pv base 0])).rs.length
   rw[fB]
   rcases hb1 k hk with h|h
   ·exact Nat.lt_of_lt_of_le (hlt k h) hlen
   ·exact(gC [(base,.var [.sl r p sub])] st).2 k h
  |false=>
  rw[hbk]at h
  simp only[cond_false]at h
  unfold qW at h
  split at h
  ·next b hb=>exact plain (fun c' hc'=>by rw[hop]at hc';injection hc' with hc';subst hc';exact⟨b,hb⟩) h
  ·cases h
  ·next x hcx=>
   split at h
   ·next f first cap hev=>
    obtain⟨hx,hxb⟩:=bC R x
    rw[hev]at hx hxb
    rw[ae]at hx
    obtain⟨vf,vc,hvx,hf1,hf2⟩:=hx
    obtain⟨hA,hAb⟩:=nT R c.args.toList
    cases hm:Nat.beq (cfg.mode f) 0 with
    |true=>
     rw[hm]at h
     simp only[cond_true]at h
     split at h
     ·rw[ai]at hf1 hf2
      have e1:vf= #[]:=by simpa using hf1
      have e2:vc= #[]:=by simpa using hf2
      subst e1;subst e2
      generalize hrd:fT st.get (eH P f) ((c.args.toList.map (an st)).flatMap AV.cells)=rd at h
      obtain⟨ok,d,rest⟩:=rd
      simp only[gE]at h
      split at h
      ·next hok=>
       have h:(env.pc f d).bind _=_:=h
       cases hpc:env.pc f d with
       |none=>rw[hpc]at h;cases h
       |some y=>
        rw[hpc]at h
        simp only[Option.bind_some]at h
        generalize hla:eN P true (bE P f) y base=la at h
        obtain⟨vs,rs⟩:=la
        simp only[St.force_eq,Option.some.injEq,Prod.mk.injEq]at h
        obtain⟨rfl,rfl⟩:=h
        obtain⟨hfit,hok⟩:=af.1 (iJ.1 hok)
        obtain⟨_,hok⟩:=af.1 hok
        obtain⟨hF,hC,hCb⟩:=iU (dV P f) _ _ hfit hA
        obtain⟨⟨fn,hfn,hbody⟩,hval⟩:=hE.pc f d y hpc
        have hreads:fN P w (dV P f) (#[]++c.args.map a.eval++ #[]).toList d:=by
         have e:(#[]++c.args.map a.eval++ #[]).toList=c.args.toList.map a.eval:=by simp
         rw[e]
         obtain⟨G,h,_⟩:=sw R.roots (cJ R.below) hC (eH P f) 0 ok d rest hrd hok
         exact⟨hF,G,h⟩
        have hcalls:=hval w _ hreads
        unfold Oper.wp
        rw[mM hop hcx hvx hfn hbody (hN f fn hfn hbody),Oper.upon_enter]
        refine Calls.mono hcalls fun e w' he=> ?_
        obtain⟨us,rfl,hbel,hFr,G,hrep,hsep,hblk⟩:=he
        have R1:=rP R hbel
        obtain⟨g',b',R2,L,A,B,_⟩:=iQ (acts:=a::asx) true (bE P f) y us (bh us) st g born base 0 G vs rs R1 hFr (fun k _=>by rw[Nat.zero_add]) hrep (fun _=>hsep)
         (fun _ b hb=>⟨R.fresh (hblk b hb),fun r ho=>by have:=eO R ho;have:=hblk b hb;omega⟩) hla (fun i h1 h2=>hfr i ((br _ _ _).2 ⟨h1,h2⟩) h1)
        obtain⟨o1,o2⟩:=rm A
        have hlen:=gC (aj base rs) st
        refine hK _ w' g' b' (nv R2 o.dst o1 (fun r hr=>(L.born_iff r).2 (.inr (B r (o2 r hr))))) (fun r hr=> ?_) (fun _ r hr=>((L.born_iff r).1 hr).imp id fun h=>(br _ _ _).2 h) ⟨_,rfl⟩
        rw[fB]
        show r<(st.aH (aj base rs)).rs.length
        rcases(L.born_iff r).1 hr with h|h
        ·have:=hlt r h;omega
        ·have:=hlen.2 r ((br _ _ _).2 h);omega
      ·cases h
     ·cases h
    |false=>
     rw[hm]at h
     simp only[cond_false]at h
     cases hm6:Nat.beq (cfg.mode f) 6 with
     |true=>
      rw[hm6]at h
      simp only[cond_true]at h
      cases dr with
      |true=>cases h
      |false=>
      simp only[cond_false]at h
      split at h
      ·rw[ai]at hf1 hf2
       have e1:vf= #[]:=by simpa using hf1
       have e2:vc= #[]:=by simpa using hf2
       subst e1;subst e2
       rw[uj]at h
       cases hin:ioS (R:=List AV×St) env f (c.args.toList.map (an st)) st (fun vs st=>some (vs,st))with
       |none=>rw[hin]at h;cases h
       |some p=>
        obtain⟨vs',st2⟩:=p
        rw[hin]at h
        simp only[Option.bind_some,St.force_eq,Option.some.injEq,Prod.mk.injEq]at h
        obtain⟨rfl,rfl⟩:=h
        obtain⟨⟨fn,hfn,hbody⟩,hval⟩:=Ha hE hin
        have hcalls:=hval w0 g born (a::asx) w _ R hlt hA hAb
        unfold Oper.wp
        rw[mM hop hcx hvx hfn hbody (hN f fn hfn hbody),Oper.upon_enter]
        have e:(c.args.toList.map a.eval).toArray= #[]++c.args.map a.eval++ #[]:=by apply Array.ext';simp
        rw[e]at hcalls
        refine Calls.mono hcalls fun e w' he=> ?_
        obtain⟨us',g',b',rfl,R3,hlt3,A3,B3⟩:=he
        obtain⟨o1,o2⟩:=rm A3
        exact hKX _ w' g' b' (mq R3 o.dst o1 (fun r hr=>B3 r (o2 r hr))) (fun r hr=>by rw[fB];exact hlt3 r hr) (fun h=>by cases h) ⟨_,rfl⟩
      ·cases h
     |false=>
     rw[hm6]at h
     simp only[cond_false]at h
     cases dr with
     |true=>
      simp only[cond_true]at h
      cases hm4:Nat.ble 4 (cfg.mode f)with
      |false=>rw[hm4]at h;cases h
      |true=>
      rw[hm4]at h
      simp only[cond_true]at h
      rw[mw]at h
      cases hin:ioD (R:=List AV×List (Nat×ak)×List Nat×List Nat) (cfg.mode f) env f (first++c.args.toList.map (an st)++cap) st base (fun a b c d=>some (a,b,c,d))with
      |none=>rw[hin]at h;cases h
      |some p=>
       obtain⟨vs',upd,rd,qu⟩:=p
       rw[hin]at h
       simp only[Option.bind_some,cY,St.force_eq,Option.some.injEq,Prod.mk.injEq]at h
       obtain⟨rfl,rfl⟩:=h
       obtain⟨⟨fn,hfn,hbody⟩,hval⟩:=Hm hE hin
       have hall:ai st.get g (first++c.args.toList.map (an st)++cap) (vf++c.args.map a.eval++vc).toList:=by
        have e:(vf++c.args.map a.eval++vc).toList=vf.toList++c.args.toList.map a.eval++vc.toList:=by simp
        rw[e]
        exact cK (cK hf1 hA) hf2
       have hallb: ∀r∈AV.ah (first++c.args.toList.map (an st)++cap),born r:=by
        intro r hr
        rcases eW hr with hr|hr
        ·rcases eW hr with hr|hr
         ·exact hxb r (by simp only[AV.roots,List.mem_append];exact .inl hr)
         ·exact hAb r hr
        ·exact hxb r (by simp only[AV.roots,List.mem_append];exact .inr hr)
       have hcalls:=hval w0 g born (a::asx) w _ R hlt hall hallb hfr
       unfold Oper.wp
       rw[mM hop hcx hvx hfn hbody (hN f fn hfn hbody),Oper.upon_enter]
       have e:(vf++c.args.map a.eval++vc).toList.toArray=vf++c.args.map a.eval++vc:=by simp
       rw[e]at hcalls
       refine Calls.mono hcalls fun e w' he=> ?_
       obtain⟨us',g',b',rfl,R3,hb3,A3,B3⟩:=he
       obtain⟨o1,o2⟩:=rm A3
       refine hK _ w' g' b' (nv R3 o.dst o1 (fun r hr=>B3 r (o2 r hr))) (fun r hr=> ?_) (fun _ r hr=>hb3 r hr) ⟨_,rfl⟩
       rw[fB]
       show r<(st.aH upd).rs.length
       rcases hb3 r hr with h|h
       ·have:=hlt r h
        exact Nat.lt_of_lt_of_le this (gC upd st).1
       ·exact(gC upd st).2 r h
     |false=>
     simp only[cond_false]at h
     generalize hfa:qU P cfg f (first++c.args.toList.map (an st)++cap) st.rs.length=fa at h
     obtain⟨vs,rs⟩:=fa
     simp only at h
     rw[sF hE.det]at h
     cases hin:BR (R:=List AV×St) P cfg env f vs {st with rs:=st.rs++rs} (fun vs st=>some (vs,st))with
     |none=>rw[hin]at h;cases h
     |some p=>
      obtain⟨vs',st2⟩:=p
      rw[hin]at h
      simp only[Option.bind_some,St.force_eq,Option.some.injEq,Prod.mk.injEq]at h
      obtain⟨rfl,rfl⟩:=h
      obtain⟨⟨fn,hfn,hbody⟩,hval⟩:=FW hE hin
      have hall:ai st.get g (first++c.args.toList.map (an st)++cap) (vf++c.args.map a.eval++vc).toList:=by
       have e:(vf++c.args.map a.eval++vc).toList=vf.toList++c.args.toList.map a.eval++vc.toList:=by simp
       rw[e]
       exact cK (cK hf1 hA) hf2
      have hallb: ∀r∈AV.ah (first++c.args.toList.map (an st)++cap),born r:=by
       intro r hr
       rcases eW hr with hr|hr
       ·rcases eW hr with hr|hr
        ·exact hxb r (by simp only[AV.roots,List.mem_append];exact .inl hr)
        ·exact hAb r hr
       ·exact hxb r (by simp only[AV.roots,List.mem_append];exact .inr hr)
      obtain⟨g1,b1,R1,L1,A1,B1⟩:=zT (P:=P) (cfg:=cfg) f _ vs _ st g born st.rs.length rs R hall hallb hfa
       (fun i h1 _ hb=>by have:=hlt i hb;omega)
      have hget: ∀r,(St.mk st.fr (st.rs++rs)).get r=(st.aH (aj st.rs.length rs)).get r:=fun r=>get_append st.fr rs st.rs r
      have R2:Rel w0 {st with rs:=st.rs++rs} g1 b1 (a::asx) w:=jc R1 rfl hget
      have hcalls:=hval w0 g1 b1 (a::asx) w _ R2 (fun r hr=>by
        show r<(st.rs++rs).length
        rw[List.length_append]
        rcases(L1.born_iff r).1 hr with h|h
        ·have:=hlt r h;omega
        ·omega) (by
        have e:(St.mk st.fr (st.rs++rs)).get=(st.aH (aj st.rs.length rs)).get:=funext hget
        show ai (St.mk st.fr (st.rs++rs)).get g1 vs _
        rw[e];exact A1) B1
      unfold Oper.wp
      rw[mM hop hcx hvx hfn hbody (hN f fn hfn hbody),Oper.upon_enter]
      have e:(vf++c.args.map a.eval++vc).toList.toArray=vf++c.args.map a.eval++vc:=by simp
      rw[e]at hcalls
      refine Calls.mono hcalls fun e w' he=> ?_
      obtain⟨us',g',b',rfl,R3,hlt3,A3,B3⟩:=he
      obtain⟨o1,o2⟩:=rm A3
      exact hKX _ w' g' b' (mq R3 o.dst o1 (fun r hr=>B3 r (o2 r hr))) (fun r hr=>by rw[fB];exact hlt3 r hr) (fun h=>by cases h) ⟨_,rfl⟩
   ·cases h
 ·next hno=>exact plain (fun c hc=>absurd hc (hno c)) h
theorem Dl(hE:gV P env)(hN:qP P){dr:Bool}{t:Touch}{Q:Exit→Act→World→Prop}{K:Act→World→Prop}(h:opK (R:=Touch×St) P cfg env base dr o st (fun t st=>some (t,st))=some (t,st'))
  (R:cg w0 st g born (a::asx) w) (hfr: ∀i∈t.writes,base≤i→ ¬born i) (hlt: ∀r,born r→r<st.rs.length)
  (hK: ∀a' w' g' born',cg w0 st' g' born' (a'::asx) w'→(∀r,born' r→r<st'.rs.length)→(dr=true→ ∀r,born' r→born r∨r∈t.writes)→(∃v,a'=a.put o.dst v)→K a' w'):o.wp P a w K Q:=by
 obtain⟨w1,hle,R⟩:=R
 replace hK: ∀a' w' g' born',cg w1 st' g' born' (a'::asx) w'→(∀r,born' r→r<st'.rs.length)→(dr=true→ ∀r,born' r→born r∨r∈t.writes)→(∃v,a'=a.put o.dst v)→K a' w':=fun a' w' g' b' R'=>hK a' w' g' b' (R'.up hle)
 unfold opK at h
 cases dr with
 |true=>exact vg hE hN h R hfr hlt hK
 |false=>
  simp only[cond_false]at h
  split at h
  ·next out hki=>
   rw[gJ]at h
   split at h
   ·next hok=>
    simp only[Option.some.injEq,Prod.mk.injEq]at h
    obtain⟨rfl,rfl⟩:=h
    obtain⟨hq,hok⟩:=af.1 (iJ.1 hok)
    refine vJ (F6 hki R hok) fun v w' hd=> ?_
    obtain⟨g',b',R',hv,hr,hb1,hb2⟩:=hd
    have hlen:st.rs.length≤(qO o out st).rs.length:=by
     unfold qO
     rw[fB,ng]
     exact(gC out.upd st).1
    refine hK _ w' g' b' (.of (nv R' o.dst hv hr)) (fun r hr=> ?_) (fun hd=>by cases hd) ⟨_,rfl⟩
    rcases hb1 r hr with h|h
    ·exact Nat.lt_of_lt_of_le (hlt r h) hlen
    ·unfold qO
     rw[fB,ng]
     exact(gC out.upd st).2 r h
   ·cases h
  ·exact vg hE hN h R hfr hlt hK
abbrev rd(ro:Option Nat):Fence:={fn:=fun _=>True,depth:=none,alive:=false,round:=ro}
theorem A5{ro:Option Nat}{n:Nat}{f:FuncId}{args:Array Value}{R:Ending→World→Prop}(h:Calls P f args w R):CallsIn (rd ro) n P f args w R:=(callsIn_wide (n:=n)).2 h
theorem uS{ro:Option Nat}{n:Nat}{f:FuncId}{args:Array Value}{R:Ending→World→Prop}(h:CallsIn (rd ro) n P f args w R):Calls P f args w R:=(callsIn_wide (n:=n)).1 h
theorem D8{ro:Option Nat}{n:Nat}{row:String}{args:Array Value}{R:Value→World→Prop}(h:Rows P row args w R):RowsIn (rd ro) n P row args w R:=
 fun c cs _=>let⟨v,w',r,s⟩:=h c cs;⟨v,w',r,stepsIn_wide.2 s⟩
theorem pR{ro:Option Nat}{n:Nat}{Q:Exit→Act→World→Prop}{K:Act→World→Prop}(hd: ∀c,o.op≠ .defer c)(h:o.wp P a w K Q):o.wpIn (rd ro) n P a w K Q:=by
 refine⟨fun _ _=>trivial,?_⟩
 rw[Oper.semAt_eq _ _ _ hd]
 unfold Oper.wp at h
 generalize(execOp a.eval o).run P w=r at h⊢
 cases r with
 |ok x w'=>
  cases x<;>simp only[Oper.upon,Oper.uponIn]at h⊢ <;>first
   |exact h
   |exact⟨fun h=>by simp at h,A5 h⟩
   |exact⟨fun h=>by simp at h,D8 h⟩
   |exact h.elim
 |halt x w'=>cases x<;>simp only[Oper.upon,Oper.uponIn]at h⊢ <;>exact h
theorem y8{R:Type}{dr:Bool}{K:Touch→St→Option R}{r0:R}(h:opK P cfg env base dr o st K=some r0): ∀c,o.op≠ .defer c:=by
 intro c hc
 have h0: ∀dr:Bool,px P cfg env base dr o st K=some r0→False:=by
  intro dr h
  unfold px at h
  rw[hc]at h
  simp only at h
  unfold aP at h
  rw[hc]at h
  cases h
 unfold opK at h
 cases dr with
 |true=>exact h0 true h
 |false=>
  simp only[cond_false]at h
  have hki:zg P o (o.op.operands.toList.map (evK st)) st.get=none:=by unfold zg;rw[hc]
  rw[hki]at h
  exact h0 false h
end
end
end Go.Am
end
section
/- Soundness: operations in the text's order; the executor as a function. -/
namespace Go.Am
noncomputable section
attribute [local instance] D.real
section
variable {P : Program} {cfg : Cfg} {env : Env P} {w0 : bu} {w w' : World} {st st' : St} {g g' : aB} {born : Nat → Prop} {a : Act} {asx acts : List Act} {o : Oper} {base : Nat}
theorem FR(a:Act)(d:Nat):a.put (some d) (a.tmps.getD d Go.undef)=a:=by
 show{a with tmps:=a.tmps.setIfInBounds d (a.tmps.getD d Go.undef)}=a
 have:a.tmps.setIfInBounds d (a.tmps.getD d Go.undef)=a.tmps:=by
  apply Array.ext_getElem?
  intro i
  rw[Array.getElem?_setIfInBounds]
  split
  ·next e=>
   subst e
   split
   ·next h=>simp[h]
   ·next h=>rw[Array.getElem?_eq_none (by omega)]
  ·rfl
 rw[this]
theorem Ey{av:AV}{d:Nat}(R:Rel w0 st g born (a::asx) w)(hv:ae st.get g av (a.tmps.getD d Go.undef))(hb: ∀r∈av.roots,born r):Rel w0 (st.put (some d) av) g born (a::asx) w:=by
 have:=nv R (some d) hv hb
 rw[FR]at this
 exact this
theorem Ay(R:Rel w0 st g born (a::asx) w)(d:Nat):ae st.get g (st.top.getD d .undef) (a.tmps.getD d Go.undef):=(pb R d).1
theorem xw(R:Rel w0 st g born (a::asx) w)(ops:Array Oper)(i:Nat)(o:Oper):Rel w0 (jv ops i o st) g born (a::asx) w∧(jv ops i o st).rs=st.rs:=by
 unfold jv
 generalize o.dst=dd
 cases dd with
 |none=>exact⟨R,rfl⟩
 |some d=>
  have h:=Ay R d
  simp only
  generalize st.top.getD d .undef=v at h
  cases v with
  |bool b=>
   rw[ae]at h
   simp only
   cases nk ops i with
   |true=>simp only[cond_true];exact⟨Ey R (by rw[ae];exact h) (fun r hr=>by simp[AV.roots]at hr),fB _ _ _⟩
   |false=>exact⟨R,rfl⟩
  |_=>exact⟨R,rfl⟩
theorem BU{ops:Array Oper}{j d:Nat}{b:Bool}(hd:(ops[j]?).bind (·.dst)=some d)(h:a.tmps.getD d Go.undef= .bool b):yielded ops a.tmps j=some b:=by
 unfold yielded
 rw[hd]
 simp only[Option.bind_some]
 have:a.tmps[d]?=some (.bool b):=by
  rw[Array.getD_eq_getD_getElem?]at h
  cases hx:a.tmps[d]? with
  |none=>rw[hx]at h;cases h
  |some x=>rw[hx]at h;exact congrArg some h
 rw[this]
theorem AJ{ops:Array Oper}{j d:Nat}{l:Array Value}(hd:(ops[j]?).bind (·.dst)=some d)(h:a.tmps.getD d Go.undef= .tuple l):yielded ops a.tmps j=none:=by
 unfold yielded
 rw[hd]
 simp only[Option.bind_some]
 split
 ·next b hb=>
  rw[Array.getD_eq_getD_getElem?,hb]at h;cases h
 ·rfl
theorem AX(R:cg w0 st g born (a::asx) w)(ops:Array Oper)(i:Nat)(o:Oper):cg w0 (jv ops i o st) g born (a::asx) w∧(jv ops i o st).rs=st.rs:=
 let⟨w2,k,R⟩:=R;⟨⟨w2,k,(xw R ops i o).1⟩,(xw R ops i o).2⟩
theorem A0(R:cg w0 st g born acts w)(hb:RowKit.Below w.heap.size w w'):cg w0 st g born acts w':=let⟨w2,k,R⟩:=R;⟨w2,k,rP R hb⟩
theorem B8(R:cg w0 st g born acts w)(h1:st'.fr=st.fr)(h2: ∀r,st'.get r=st.get r):cg w0 st' g born acts w:=let⟨w2,k,R⟩:=R;⟨w2,k,jc R h1 h2⟩
theorem DK(R:cg w0 st g born (a::asx) w)(d:Nat):ae st.get g (st.top.getD d .undef) (a.tmps.getD d Go.undef):=let⟨_,_,R⟩:=R;Ay R d
theorem lR(hE:gV P env)(hN:qP P){ro:Option Nat}{n:Nat}{b0:Option Nat}{ops:Array Oper}{i:Nat}{t:Touch}{Q:Exit→Act→World→Prop}{K:Act→World→Prop}(h:jg (R:=Touch×St) P cfg env b0 ops i st (fun t st=>some (t,st))=some (t,st'))
  (R:cg w0 st g born (a::asx) w) (hfr: ∀j∈t.writes,np b0 i st≤j→ ¬born j) (hlt: ∀r,born r→r<st.rs.length)
  (hK: ∀a' w' g' born',cg w0 st' g' born' (a'::asx) w'→(∀r,born' r→r<st'.rs.length)→(b0.isSome=true→ ∀r,born' r→born r∨r∈t.writes)→(∃v,a'=a.put ((ops[i]?).bind (·.dst)) v)→K a' w'):wpOpIn (rd ro) n P ops Q i K a w:=by
 unfold jg at h
 split at h
 ·cases h
 next o hoi=>
 have run:Region.wanted o (yielded ops a.tmps)=true→opK (R:=Touch×St) P cfg env (np b0 i st) b0.isSome o st (fun t st=>iT ops i o st fun st=>some (t,st))=some (t,st')→wpOpIn (rd ro) n P ops Q i K a w:=by
  intro hw h
  rw[mn hE.det]at h
  cases hop:opK (R:=Touch×St) P cfg env (np b0 i st) b0.isSome o st (fun t st=>some (t,st))with
  |none=>rw[hop]at h;cases h
  |some p=>
   obtain⟨t2,st2⟩:=p
   rw[hop]at h
   simp only[Option.bind_some,mL,Option.some.injEq,Prod.mk.injEq]at h
   obtain⟨rfl,rfl⟩:=h
   unfold wpOpIn
   rw[hoi]
   simp only[hw,if_true]
   refine pR (y8 hop) (Dl hE hN hop R hfr hlt fun a' w' g' b' R' h1 h2 h3=> ?_)
   obtain⟨s1,s2⟩:=AX R' ops i o
   exact hK a' w' g' b' s1 (fun r hr=>by rw[s2];exact h1 r hr) h2 (by rw[hoi];exact h3)
 have skip:Region.wanted o (yielded ops a.tmps)=false→some (fG,st.put o.dst (.tup []))=some (t,st')→wpOpIn (rd ro) n P ops Q i K a w:=by
  intro hw h
  simp only[Option.some.injEq,Prod.mk.injEq]at h
  obtain⟨rfl,rfl⟩:=h
  unfold wpOpIn
  rw[hoi]
  simp only[hw,Bool.false_eq_true,if_false]
  exact⟨fun _ _=>trivial,hK _ w g born (mq R o.dst (kS _ _) (fun r hr=>by simp[AV.roots,AV.ah]at hr)) (fun r hr=>by rw[fB];exact hlt r hr) (fun _ r hr=> .inl hr) ⟨_,by rw[hoi];rfl⟩⟩
 split at h
 ·next hg=>exact run (by unfold Region.wanted;rw[hg]) h
 ·next j want hg=>
  split at h
  ·cases h
  ·next d hd=>
   have hs:=DK R d
   split at h
   ·next b hb=>
    rw[hb,ae]at hs
    have hy:=BU (ops:=ops) hd hs
    cases hbw:b==want with
    |true=>
     rw[hbw]at h
     exact run (by unfold Region.wanted;rw[hg];simp only[hy];have:=eq_of_beq hbw;subst this;simp) h
    |false=>
     rw[hbw]at h
     simp only[cond_false,St.force_eq]at h
     exact skip (by unfold Region.wanted;rw[hg];simp only[hy];simpa using hbw) h
   ·next l hb=>
    rw[hb,ae]at hs
    obtain⟨vs,hs,_⟩:=hs
    have hy:=AJ (ops:=ops) hd hs
    simp only[St.force_eq]at h
    exact skip (by unfold Region.wanted;rw[hg];simp only[hy];rfl) h
   ·cases h
theorem pA(hE:gV P env)(hN:qP P){ro:Option Nat}{n:Nat}{ops:Array Oper}{Q:Exit→Act→World→Prop}{R0:Type}{r0:R0}{Kc:List (Nat×Touch)→St→Option R0}:
  ∀(l:List Nat) (tr:List (Nat×Touch)) (st:St) (g:aB) (born:Nat→Prop) (a:Act) (w:World),eL P cfg env none ops l tr st Kc=some r0→cg w0 st g born (a::asx) w→(∀r,born r→r<st.rs.length)→
   (∀tr' st' a' w' g' born',Kc tr' st'=some r0→cg w0 st' g' born' (a'::asx) w'→(∀r,born' r→r<st'.rs.length)→Q .normal a' w')→wpOpsIn (rd ro) n P ops Q l a w
 | [],tr,st,g,born,a,w,h,R,hlt,hK=>hK tr st a w g born h R hlt
 |i::l,tr,st,g,born,a,w,h,R,hlt,hK=>by
  have h:jg P cfg env none ops i st (fun t st=>eL P cfg env none ops l ((i,fG)::tr) st Kc)=some r0:=h
  rw[jS hE.det]at h
  cases hs:jg (R:=Touch×St) P cfg env none ops i st (fun t st=>some (t,st))with
  |none=>rw[hs]at h;cases h
  |some p=>
   obtain⟨t,st2⟩:=p
   rw[hs]at h
   simp only[Option.bind_some]at h
   rw[wpOpsIn_cons]
   exact lR hE hN hs R (fun j _ h1 hb=>by have:=hlt j hb;have h1:st.rs.length≤j:=h1;omega) hlt fun a' w' g' b' R' h1 _ _=>
    pA hE hN l _ st2 g' b' a' w' h R' h1 hK
theorem dG(hE:gM P env){b0:Option Nat}{ops:Array Oper}{R:Type}: ∀(l:List Nat) (tr:List (Nat×Touch)) (st:St) (K:List (Nat×Touch)→St→Option R),
  eL P cfg env b0 ops l tr st K=(eL (R:=List (Nat×Touch)×St) P cfg env b0 ops l tr st fun tr st=>some (tr,st)).bind fun p=>K p.1 p.2
 | [],tr,st,K=>rfl
 |i::l,tr,st,K=>by
  show jg P cfg env b0 ops i st (fun t st=>eL P cfg env b0 ops l ((i,bif b0.isSome then t else fG)::tr) st K)=(jg P cfg env b0 ops i st (fun t st=>eL (R:=List (Nat×Touch)×St) P cfg env b0 ops l ((i,bif b0.isSome then t else fG)::tr) st fun tr st=>some (tr,st))).bind fun p=>K p.1 p.2
  have h1:=jS (cfg:=cfg) hE b0 ops i st (fun t st=>eL P cfg env b0 ops l ((i,bif b0.isSome then t else fG)::tr) st K)
  have h2:=jS (R:=List (Nat×Touch)×St) (cfg:=cfg) hE b0 ops i st (fun t st=>eL (R:=List (Nat×Touch)×St) P cfg env b0 ops l ((i,bif b0.isSome then t else fG)::tr) st fun tr st=>some (tr,st))
  rw[h1,h2,Option.bind_assoc]
  congr 1
  funext p
  exact dG hE l _ _ K
def kZ:cS (Ex×St):=fun e st=>some (e,st)
theorem jj{R:Type}(h:Option (List Nat))(F:St→Option R)(st:St):gI h F st=F (match h with
  |some live=>st.canon live
  |none=>st):=by
 unfold gI
 split
 ·rw[St.force_eq];rfl
 ·rfl
theorem w6{R:Type}{F:{R:Type}→St→cS R→Option R}(hF: ∀(R:Type) (st:St) (K:cS R),F st K=(F st kZ).bind fun p=>K p.1 p.2)(K:cS R)(e:Ex)(st:St):
  qe (fun st K=>F st K) K e st=(qe (fun st K=>F st K) kZ e st).bind fun p=>K p.1 p.2:=by
 cases e with
 |normal=>exact hF R st K
 |exit i=>rfl
 |ret=>rfl
theorem vS{F:{R:Type}→St→cS R→Option R}(hF: ∀(R:Type) (st:St) (K:cS R),F st K=(F st kZ).bind fun p=>K p.1 p.2)(h:Option (List Nat)):
  ∀(n:Nat) (R:Type) (st:St) (K:cS R),jC (fun st K=>F st K) h n st K=(jC (fun st K=>F st K) h n st kZ).bind fun p=>K p.1 p.2
 |0,_,_,_=>rfl
 |n+1,R,st,K=>by
  show F st (qe (fun st' K=>gI h (fun st''=>jC (fun st K=>F st K) h n st'' K) st') K)=(F st (qe (fun st' K=>gI h (fun st''=>jC (fun st K=>F st K) h n st'' K) st') kZ)).bind fun p=>K p.1 p.2
  rw[hF,hF (Ex×St) st (qe _ kZ),Option.bind_assoc]
  congr 1
  funext p
  exact w6 (F:=fun{R} st' K=>gI h (fun st''=>jC (fun st K=>F st K) h n st'' K) st') (fun R st K=>by
   simp only[jj]
   exact vS hF h n R _ K) K p.1 p.2
theorem Az{R:Type}(id:Nat)(K:cS R)(e:Ex)(st:St):cP id K e st=(cP id kZ e st).bind fun p=>K p.1 p.2:=by
 cases e with
 |normal=>rfl
 |exit i=>
  show(bif Nat.beq i id then K .normal st else K (.exit i) st)=(bif Nat.beq i id then kZ .normal st else kZ (.exit i) st).bind fun p=>K p.1 p.2
  cases Nat.beq i id<;>rfl
 |ret=>rfl
def KXp:cS ((Ex×St)⊕(Ex×St)):=fun e st=>some (.inl (e,st))
def KYp:cS ((Ex×St)⊕(Ex×St)):=fun e st=>some (.inr (e,st))
def vD{R:Type}(KX K:cS R):(Ex×St)⊕(Ex×St)→Option R
 | .inl p=>KX p.1 p.2
 | .inr p=>K p.1 p.2
def Cc(hand:{R:Type}→cS R→List AV→St→(St→Option R)→Option R):Prop:=
 ∀(R:Type) (KX:cS R) (vs:List AV) (st:St) (Kgo:St→Option R),hand KX vs st Kgo=(hand KXp vs st fun s=>some (.inr (.normal,s))).bind (vD KX fun _ s=>Kgo s)
theorem AW{FA FB:{R:Type}→St→cS R→Option R}(hA: ∀(R:Type) (st:St) (K:cS R),FA st K=(FA st kZ).bind fun p=>K p.1 p.2)
  (hB: ∀(R:Type) (st:St) (K:cS R),FB st K=(FB st kZ).bind fun p=>K p.1 p.2) (ps:Array Tmp):Cc fun{R} KX vs st Kgo=>rf (R:=R) (fun st K=>FA st K) (fun st K=>FB st K) ps KX vs st Kgo:=by
 intro R KX vs st Kgo
 show rf _ _ ps KX vs st Kgo=(rf _ _ ps KXp vs st _).bind _
 unfold rf
 generalize st.fr=fr
 cases fr with
 |nil=>rfl
 |cons it l=>
 cases l with
 |nil=>rfl
 |cons top rest=>
  simp only
  cases Nat.beq vs.length ps.size with
  |false=>rfl
  |true=>
   simp only[cond_true,St.force_eq]
   rw[hA R,hA ((Ex×St)⊕(Ex×St)),Option.bind_assoc]
   congr 1
   funext p
   obtain⟨e,s⟩:=p
   cases e with
   |normal=>
    show FB s (EK Kgo KX)=(FB s (EK (fun s=>some (.inr (.normal,s))) KXp)).bind _
    rw[hB R,hB ((Ex×St)⊕(Ex×St)),Option.bind_assoc]
    congr 1
    funext q
    obtain⟨e,s⟩:=q
    cases e<;>rfl
   |exit i=>rfl
   |ret=>rfl
theorem sR{R:Type}{F:{R:Type}→cS R→St→cS R→Option R}(KX:cS R)(hF: ∀(st:St) (K:cS R),F KX st K=(F KXp st KYp).bind (vD KX K))
  (hF': ∀(st:St) (K:cS ((Ex×St)⊕(Ex×St))),F KXp st K=(F KXp st KYp).bind (vD KXp K)) (h:Option (List Nat)):
  ∀(n:Nat) (st:St) (K:cS R),jC (fun st K=>F KX st K) h n st K=(jC (fun st K=>F KXp st K) h n st KYp).bind (vD KX K)
 |0,_,_=>rfl
 |n+1,st,K=>by
  show F KX st (qe (fun st' K=>gI h (fun st''=>jC (fun st K=>F KX st K) h n st'' K) st') K)=(F KXp st (qe (fun st' K=>gI h (fun st''=>jC (fun st K=>F KXp st K) h n st'' K) st') KYp)).bind (vD KX K)
  rw[hF,hF' st (qe _ KYp),Option.bind_assoc]
  congr 1
  funext p
  cases p with
  |inl p=>rfl
  |inr p=>
   obtain⟨e,s⟩:=p
   cases e with
   |normal=>
    show gI h _ s=(gI h _ s).bind _
    rw[jj,jj]
    exact sR KX hF hF' h n _ K
   |exit i=>rfl
   |ret=>rfl
theorem uv(hE:gM P env){hand:{R:Type}→cS R→List AV→St→(St→Option R)→Option R}(hh:Cc hand)(N kl fid:Nat): ∀(c:Code) (R:Type) (KX:cS R) (st:St) (K:cS R),
  fF P cfg env (hand KX) N kl fid c st K=(fF P cfg env (hand KXp) N kl fid c st KYp).bind (vD KX K):=by
 intro c
 induction c with
 |skip=>intro R KX st K;rfl
 |region id ops draw=>
  intro R KX st K
  unfold fF
  cases(!draw&&ops.toList.all fun o=> !(vC o 0))with
  |false=>rfl
  |true=>
   simp only[cond_true]
   rw[dG hE,dG (R:=(Ex×St)⊕(Ex×St)) hE,Option.bind_assoc]
   rfl
 |seq x y ihx ihy=>
  intro R KX st K
  unfold fF
  split
  ·next u _=>
   obtain⟨ops,t,args,v,d⟩:=u
   simp only[Co,St.force_eq]
   cases(Nat.blt t N&&(Nat.blt v N&&Nat.blt d N))with
   |false=>rfl
   |true=>
   simp only[cond_true]
   rw[dG hE,dG (R:=(Ex×St)⊕(Ex×St)) hE,Option.bind_assoc]
   congr 1
   funext p
   refine(hh R KX _ _ _).trans (Eq.trans ?_ (congrArg (fun x=>x.bind (vD KX K)) (hh ((Ex×St)⊕(Ex×St)) KXp _ _ _)).symm)
   rw[Option.bind_assoc]
   congr 1
   funext q
   cases q with
   |inl q=>rfl
   |inr q=>rfl
  ·rw[ihx R,ihx ((Ex×St)⊕(Ex×St)) KXp st (qe _ KYp),Option.bind_assoc]
   congr 1
   funext p
   cases p with
   |inl p=>rfl
   |inr p=>
    obtain⟨e,s⟩:=p
    cases e with
    |normal=>
     show gI _ _ s=(gI _ _ s).bind _
     rw[jj,jj]
     exact ihy R KX _ K
    |exit i=>rfl
    |ret=>rfl
 |cond x c d ihc ihd=>
  intro R KX st K
  unfold fF
  generalize an st x=v
  cases v<;>try rfl
  next b=>
   show(if b=true then _ else _)=(if b=true then _ else _:Option ((Ex×St)⊕(Ex×St))).bind _
   cases b
   ·exact ihd R KX st K
   ·exact ihc R KX st K
  next b=>
   cases b
   ·exact ihd R KX st K
   ·exact ihc R KX st K
 |block id c ih=>
  intro R KX st K
  unfold fF
  rw[ih R,ih ((Ex×St)⊕(Ex×St)) KXp st (cP id KYp),Option.bind_assoc]
  congr 1
  funext p
  cases p with
  |inl p=>rfl
  |inr p=>
   obtain⟨e,s⟩:=p
   cases e with
   |normal=>rfl
   |exit i=>
    show(bif Nat.beq i id then K .normal s else K (.exit i) s)=(bif Nat.beq i id then KYp .normal s else KYp (.exit i) s).bind _
    cases Nat.beq i id<;>rfl
   |ret=>rfl
 |loop c ih=>
  intro R KX st K
  unfold fF
  simp only[jj]
  exact sR (F:=fun{R} KX st K=>fF P cfg env (hand KX) N kl fid c st K) KX (ih R KX) (ih _ KXp) (cfg.loops fid (key c)) kl _ K
 |exit id=>intro R KX st K;rfl
 |ret=>intro R KX st K;rfl
 |rangeFunc f ps x y _ _=>intro R KX st K;rfl
 |scope c _=>intro R KX st K;rfl
 |label l=>intro R KX st K;rfl
 |goto l=>intro R KX st K;rfl
 |refuse s=>intro R KX st K;rfl
theorem xL(hE:gM P env)(kl fid:Nat)(hm:Nat.beq (cfg.mode fid) 0=false): ∀(c:Code) (R:Type) (st:St) (K:cS R),exec P cfg env kl fid c st K=(exec P cfg env kl fid c st kZ).bind fun p=>K p.1 p.2:=by
 intro c
 induction c with
 |skip=>intro R st K;rfl
 |region id ops draw=>
  intro R st K
  unfold exec
  cases draw with
  |true=>
   simp only[cond_true,ic,cY]
   rw[dG hE,dG (R:=Ex×St) hE,Option.bind_assoc]
   congr 1
   funext p
   cases(lD ops (Region.before ops).toList p.1&&(tY st.rs.length (Region.before ops).toList p.1&&lN ops))with
   |false=>rfl
   |true=>
    simp only[cond_true]
    rw[dG hE,dG (R:=Ex×St) hE,Option.bind_assoc]
    rfl
  |false=>
   simp only[cond_false]
   rw[dG hE,dG (R:=Ex×St) hE,Option.bind_assoc]
   rfl
 |seq x y ihx ihy=>
  intro R st K
  unfold exec
  rw[ihx R,ihx (Ex×St) st (qe _ kZ),Option.bind_assoc]
  congr 1
  funext p
  exact w6 (F:=fun{R} st K=>gI (cfg.joins fid (key y)) (fun st=>exec P cfg env kl fid y st K) st) (fun R st K=>by
   simp only[jj]
   exact ihy R _ K) K p.1 p.2
 |cond x c d ihc ihd=>
  intro R st K
  unfold exec
  generalize an st x=v
  cases v<;>try rfl
  next b=>
   show(if b=true then _ else _)=(if b=true then _ else _:Option (Ex×St)).bind _
   cases b
   ·exact ihd R st K
   ·exact ihc R st K
  next b=>
   cases b
   ·exact ihd R st K
   ·exact ihc R st K
  next n=>
   show(bif Nat.beq (cfg.mode fid) 0 then _ else _)=(bif Nat.beq (cfg.mode fid) 0 then _ else _:Option (Ex×St)).bind _
   rw[hm];rfl
 |block id c ih=>
  intro R st K
  unfold exec
  rw[ih R,ih (Ex×St) st (cP id kZ),Option.bind_assoc]
  congr 1
  funext p
  exact Az id K p.1 p.2
 |loop c ih=>
  intro R st K
  unfold exec
  simp only[jj]
  exact vS (F:=fun{R} st K=>exec P cfg env kl fid c st K) ih (cfg.loops fid (key c)) kl R _ K
 |exit id=>intro R st K;rfl
 |ret=>intro R st K;rfl
 |rangeFunc h ps x y ihx ihy=>
  intro R st K
  unfold exec
  cases(cQ x&&cQ y)with
  |false=>rfl
  |true=>
   simp only[cond_true]
   split
   ·next f cap _=>
    split
    ·rfl
    ·next fn _=>
     split
     ·rfl
     ·next c _=>
      cases fn.results.isEmpty with
      |false=>rfl
      |true=>
      simp only[St.force_eq,cond_true]
      have hh:=AW (FA:=fun{R} st K=>exec P cfg env kl fid x st K) (FB:=fun{R} st K=>exec P cfg env kl fid y st K) ihx ihy ps
      rw[uv hE (hand:=fun{R} KX vs st Kgo=>rf (R:=R) (fun st K=>exec P cfg env kl fid x st K) (fun st K=>exec P cfg env kl fid y st K) ps KX vs st Kgo) hh fn.ntmps kl f c R K,
       uv hE (hand:=fun{R} KX vs st Kgo=>rf (R:=R) (fun st K=>exec P cfg env kl fid x st K) (fun st K=>exec P cfg env kl fid y st K) ps KX vs st Kgo) hh fn.ntmps kl f c (Ex×St) kZ,Option.bind_assoc]
      congr 1
      funext p
      cases p with
      |inl p=>rfl
      |inr p=>
       obtain⟨e,s⟩:=p
       cases e<;>rfl
   ·rfl
 |scope c _=>intro R st K;rfl
 |label l=>intro R st K;rfl
 |goto l=>intro R st K;rfl
 |refuse s=>intro R st K;rfl
end
end
end Go.Am
end
section
/- Soundness of regions whose order is open, first part: what an operation's answer hangs on. -/
namespace Go.Am
noncomputable section
attribute [local instance] D.real
section
variable {P : Program} {get get' : Get}
theorem sX: ∀(t:Ty) (vs:List AV),b6 get get' (AV.ah vs)→gives get t vs=gives get' t vs∧ ∀r∈AV.ah (gives get t vs).2.2,r∈AV.ah vs:=by
 have tl: ∀(vs:List AV) (r:Nat),r∈AV.ah vs.tail→r∈AV.ah vs:=by
  intro vs r h
  cases vs with
  |nil=>exact h
  |cons v vs=>simp only[AV.ah,List.mem_append];exact .inr h
 intro t
 induction t with
 |int k=>intro vs h;exact⟨rfl,fun r hr=>tl vs r hr⟩
 |bool=>intro vs h;exact⟨rfl,fun r hr=>tl vs r hr⟩
 |str=>intro vs h;exact⟨rfl,fun r hr=>tl vs r hr⟩
 |unit=>intro vs h;exact⟨rfl,fun r hr=>hr⟩
 |sl e ih=>
  intro vs h
  unfold gives
  split
  ·next vs=>exact⟨rfl,fun r hr=>by simp only[AV.ah,List.mem_append];exact .inr hr⟩
  ·next r p x vs=>
   have e1:get r=get' r:=h r (by simp[AV.ah,AV.roots])
   rw[e1]
   refine⟨rfl,fun y hy=> ?_⟩
   generalize get' r=s at hy
   split at hy
   ·simp only[AV.ah,List.mem_append];exact .inr hy
   ·simp[AV.ah]at hy
  ·exact⟨rfl,fun r hr=>by simp[AV.ah]at hr⟩
 |pair a b iha ihb=>
  intro vs h
  obtain⟨h1,h2⟩:=iha vs h
  unfold gives
  split
  ·next r rest htw=>
   obtain⟨e1,e2,i1,f1,s1,i2,f2,s2,rfl,rfl,rfl,_⟩:=xN htw
   have e:get r=get' r:=h r (by simp[AV.ah,AV.roots])
   unfold qQ
   rw[e]
   refine⟨rfl,fun y hy=> ?_⟩
   generalize get' r=s at hy
   split at hy
   ·simp only[AV.ah,List.mem_append];exact .inr (.inr hy)
   ·simp[AV.ah]at hy
  rw[←h1]
  generalize gives get a vs=ra at h2
  obtain⟨ok,x,rest⟩:=ra
  simp only at h2⊢
  obtain⟨h3,h4⟩:=ihb rest (fun r hr=>h r (h2 r hr))
  rw[←h3]
  generalize gives get b rest=rb at h4
  obtain⟨ok',y,rest'⟩:=rb
  simp only at h4⊢
  exact⟨trivial,fun r hr=>h2 r (h4 r hr)⟩
theorem lK(v:AV)(r:Nat)(h:r∈AV.ah v.cells):r∈v.roots:=by
 cases v<;>simpa[AV.cells,AV.ah,AV.roots]using h
theorem pO(t:Ty): ∀(vs:List AV),b6 get get' (AV.ah vs)→readAll get t vs=readAll get' t vs
 | [],_=>rfl
 |v::vs,h=>by
  obtain⟨h1,h2⟩:=h.cons
  unfold readAll
  rw[(gh t v.cells (fun r hr=>h1 r (lK v r hr))).1,pO t vs h2]
theorem ou(t:Ty): ∀(vs:List AV),b6 get get' (AV.ah vs)→iB get t vs=iB get' t vs
 | [],_=>rfl
 |v::vs,h=>by
  obtain⟨h1,h2⟩:=h.cons
  unfold iB
  rw[(sX t v.cells (fun r hr=>h1 r (lK v r hr))).1,ou t vs h2]
theorem wJ{t:TypeId}{v:AV}(h:b6 get get' v.roots):fg P t v get=fg P t v get':=by
 cases v<;>try rfl
 next r c=>unfold fg;simp only[h r (by simp[AV.roots])]
 next r p i f=>unfold fg;simp only[h r (by simp[AV.roots])]
theorem yg{s d:TypeId}{v:AV}(h:b6 get get' v.roots):ov P s d v get=ov P s d v get':=by
 have e:=(gh (get:=get) (get':=get') (.sl (.int .u8)) [v] (fun r hr=>h r (by simpa[AV.ah]using hr))).1
 unfold ov
 split
 ·rfl
 ·rfl
 ·simp only[e]
 ·rfl
theorem uU{v:AV}{r:Nat}{p:Path}{i f:Nat}{t:Ty}{xs:List (den t)}{e:Ty}{chk:List Tst}(h:b6 get get' v.roots):oq v r p i f t xs e chk get=oq v r p i f t xs e chk get':=by
 cases v<;>try rfl
 next r2 q sub=>unfold oq;simp only[h r2 (by simp[AV.roots])]
theorem tL{v:AV}{r:Nat}{p:Path}{i f:Nat}{t:Ty}{xs:List (den t)}(h:b6 get get' v.roots):iY v r p i f t xs get=iY v r p i f t xs get':=by
 unfold iY
 simp only[uU h]
theorem ud{t:TypeId}{a v:AV}{base:Nat}(ha:b6 get get' a.roots)(h:b6 get get' v.roots):gW P t a v get base=gW P t a v get' base:=by
 cases a<;>try rfl
 next r c=>unfold gW;simp only[ha r (by simp[AV.roots])]
 next r p i f=>unfold gW;simp only[ha r (by simp[AV.roots]),tL h]
theorem Ak{e:Ty}{x:AV}(h:b6 get get' x.roots):vj e x get=vj e x get':=by
 have h1:b6 get get' (AV.ah [x]):=fun r hr=>h r (by simpa[AV.ah]using hr)
 have e1:=(gh (.sl e) [x] h1).1
 have e2:=(sX (.sl e) [x] h1).1
 cases x<;>first|rfl|(unfold vj;simp only[e1,e2])
theorem wi{e:Ty}{s:AV}{ok:List Tst}{zs:List (den e)}{l:List Nat}{base:Nat}(h:b6 get get' s.roots):og e s ok zs l get base=og e s ok zs l get' base:=by
 cases s<;>try rfl
 next r p sub=>unfold og;simp only[h r (by simp[AV.roots])]
theorem iK{t:TypeId}{s x:AV}{base:Nat}(hs:b6 get get' s.roots)(hx:b6 get get' x.roots):cz P t s x get base=cz P t s x get' base:=by
 unfold cz
 simp only[Ak hx,wi hs]
theorem vQ{t:TypeId}{x:AV}{lo hi:Option AV}(h:b6 get get' x.roots):kr P t x lo hi get=kr P t x lo hi get':=by
 cases x<;>try rfl
 next r p sub=>unfold kr;simp only[h r (by simp[AV.roots])]
theorem qG{e:Ty}{r:Nat}(h:get r=get' r):ownRow e get r=ownRow e get' r:=by unfold ownRow;rw[h]
theorem tF{t:TypeId}{s x:AV}{base:Nat}(hs:b6 get get' s.roots)(hx:b6 get get' x.roots):fP P t s x get base=fP P t s x get' base:=by
 unfold fP
 split
 ·next r1 sub1=>
  split
  ·next r o l=>
   simp only[iK hs hx,qG (hs r1 (by simp[AV.roots])),qG (hx r (by simp[AV.roots]))]
  ·exact iK hs hx
 ·exact iK hs hx
theorem yy{x:AV}(h:b6 get get' x.roots):shared get x=shared get' x:=by
 cases x<;>try rfl
 next r p sub=>unfold shared;simp only[h r (by simp[AV.roots])]
theorem zj{e:Ty}{x:AV}(h:b6 get get' x.roots):uV e x get=uV e x get':=by
 cases x<;>try rfl
 next r p sub=>
  unfold uV
  simp only[h r (by simp[AV.roots]),(gh (.sl e) [.sl r p sub] fun r hr=>h r (by simpa[AV.ah]using hr)).1]
theorem y9{e:Ty}{s x:AV}(hs:b6 get get' s.roots)(hx:b6 get get' x.roots):uw e s x get=uw e s x get':=by
 cases s<;>try rfl
 next r p sub=>
  cases p<;>try rfl
  cases sub<;>try rfl
  unfold uw;simp only[hs r (by simp[AV.roots]),yy hx]
theorem tM{t:TypeId}{s x:AV}{base:Nat}(hs:b6 get get' s.roots)(hx:b6 get get' x.roots):fS P t s x get base=fS P t s x get' base:=by
 have e1:wj P t s x get=wj P t s x get':=by
  unfold wj
  simp only[y9 hs hx]
 unfold fS
 rw[e1]
 split
 ·unfold u3;rw[zj hx]
 ·exact tF hs hx
theorem uG{t:TypeId}{x:AV}{lo hi:Option AV}{base:Nat}(h:b6 get get' x.roots):fM P t x lo hi get base=fM P t x lo hi get' base:=by
 have e:sA lo hi x get=sA lo hi x get':=by
  unfold sA
  split
  ·split
   ·split
    ·next r=>rw[h r (by simp[AV.roots])]
    ·rfl
   ·rfl
  ·rfl
 unfold fM
 rw[e,vQ h]
theorem tD{t:TypeId}{x:AV}{base:Nat}(h:b6 get get' x.roots):hZ P t x get base=hZ P t x get' base:=by
 cases x<;>try rfl
 next r p sub=>unfold hZ;simp only[h r (by simp[AV.roots])]
theorem vR{t:TypeId}{lo:Option Operand}{avs:List AV}{base:Nat}(h:b6 get get' (AV.ah avs)):lx P t lo avs get base=lx P t lo avs get' base:=by
 unfold lx
 split
 ·next x kh hh kc cc=>
  have hx:=h.cons.1
  unfold jE
  split
  ·next r p sub=>simp only[hx r (by simp[AV.roots])]
  ·rfl
 ·rfl
theorem wN{t:TypeId}{d s:AV}(h1:b6 get get' d.roots)(h2:b6 get get' s.roots):gz P t d s get=gz P t d s get':=by
 cases d<;>try rfl
 next r p sub=>
  cases p with
  |cons q p=>rfl
  |nil=>
   have e:=h1 r (by simp[AV.roots])
   simp only[gz,e]
   generalize get' r=x
   cases x<;>try rfl
   next rw_ e xs=>
    cases rw_<;>try rfl
    simp only
    rw[(gh (.sl e) [s] fun r hr=>h2 r (by simpa[AV.ah]using hr)).1]
theorem yK{t:TypeId}{x:AV}(h:b6 get get' x.roots):nt P t x get=nt P t x get':=by
 cases x<;>try rfl
 next r p sub=>unfold nt;simp only[h r (by simp[AV.roots])]
theorem yi{t:TypeId}{op:BinOp}{x y:AV}(h:b6 get get' x.roots):rF P t op x y get=rF P t op x y get':=by
 unfold rF
 split
 ·rw[h _ (by simp[AV.roots])]
 ·rfl
theorem pW{t:TypeId}{x i:AV}(h:b6 get get' x.roots):fw P t x i get=fw P t x i get':=by
 cases x<;>try rfl
 next r p sub=>unfold fw;simp only[h r (by simp[AV.roots])]
theorem pw{t:TypeId}{n:Nat}{ps:List (Nat×AV)}{base:Nat}(h:b6 get get' (AV.ah (ps.map (·.2)))):dn P t n ps get base=dn P t n ps get' base:=by
 unfold dn
 simp only[pO _ _ h,ou _ _ h]
theorem zC{avs:List AV}(h:b6 get get' (AV.ah avs)):b6 get get' (avs.headD .undef).roots:=by
 cases avs with
 |nil=>intro r hr;simp[AV.roots]at hr
 |cons v vs=>exact h.cons.1
theorem pD: ∀(ks:List Nat) (avs:List AV),b6 get get' (AV.ah avs)→b6 get get' (AV.ah ((ks.zip avs).map (·.2)))
 | [],_,_=>by intro r hr;simp[AV.ah]at hr
 |_::_,[],_=>by intro r hr;simp[AV.ah]at hr
 |k::ks,v::vs,h=>by
  obtain⟨h1,h2⟩:=h.cons
  have:=pD ks vs h2
  intro r hr
  simp only[List.zip_cons_cons,List.map_cons,AV.ah,List.mem_append]at hr
  exact hr.elim (h1 r) (this r)
theorem zG(o:Oper)(avs:List AV)(base:Nat)(h:b6 get get' (AV.ah avs)):aP P o avs get base=aP P o avs get' base:=by
 have hh:=zC h
 unfold aP
 split<;>try rfl
 ·exact pw (pD _ _ h)
 ·exact wJ hh
 ·split
  ·obtain⟨h1,h2⟩:=h.cons
   exact ud h1 h2.cons.1
  ·rfl
 ·split
  ·exact yi h.cons.1
  ·rfl
 ·exact yg hh
 ·split
  ·exact uG hh
  ·simp only[tD hh,vR h]
 ·split
  ·exact pW h.cons.1
  ·rfl
 ·split
  ·split
   ·exact yK hh
   ·rfl
  ·rfl
  ·split
   ·have h1:=h.cons.1
    have h2:=h.cons.2.cons.1
    simp only[iK h1 h2,tM h1 h2]
   ·rfl
  ·split
   ·exact wN h.cons.1 h.cons.2.cons.1
   ·rfl
  ·rfl
  ·rfl
  ·rfl
  ·rfl
end
end
end Go.Am
end
section
/- Soundness of regions whose order is open, second part: operations whose order is open may change places. -/
namespace Go.Am
noncomputable section
attribute [local instance] D.real
def Eqv(s s':St):Prop:=s.fr=s'.fr∧(∀r,s.get r=s'.get r)∧s.rs.length=s'.rs.length
theorem Eqv.refl(s:St):Eqv s s:=⟨rfl,fun _=>rfl,rfl⟩
theorem Eqv.trans{s t u:St}(h:Eqv s t)(k:Eqv t u):Eqv s u:=⟨h.1.trans k.1,fun r=>(h.2.1 r).trans (k.2.1 r),h.2.2.trans k.2.2⟩
def yT:List (Nat×ak)→Nat
 | []=>0
 |x::l=>max (x.1+1) (yT l)
theorem iS: ∀(l:List (Nat×ak)) (rs:List ak),(cU rs l).length=max rs.length (yT l)
 | [],rs=>by simp[cU,yT]
 |(i,x)::l,rs=>by
  show(cU (setAt rs i x) l).length=max rs.length (max (i+1) (yT l))
  rw[iS l]
  have:(setAt rs i x).length=max rs.length (i+1):=by
   unfold setAt
   cases hb:Nat.blt i rs.length with
   |true=>have:=cE hb;simp;omega
   |false=>
    have hge:rs.length≤i:=by
     rcases Nat.lt_or_ge i rs.length with h|h
     ·rw[←Nat.blt_eq,hb]at h;cases h
     ·exact h
    simp;omega
  omega
theorem nX: ∀(rs:List ak) (r:Nat) (ex:Option Nat) (j0:Nat),quietAt r ex j0 rs=true↔ ∀j r' p t xs,rs.getD j .dead= .pend r' p t xs→r'=r→ex=some (j0+j)
 | [],r,ex,j0=>⟨fun _ j r' p t xs e=>by simp at e,fun _=>rfl⟩
 |x::rs,r,ex,j0=>by
  refine⟨fun h j r' p t xs e er=>oC (x::rs) r ex j0 h j r' p t xs e er,fun h=> ?_⟩
  unfold quietAt
  rw[Bool.and_eq_true]
  refine⟨?_,(nX rs r ex (j0+1)).2 fun j r' p t xs e er=> ?_⟩
  ·cases x with
   |pend r' p t xs=>
    simp only[Bool.or_eq_true,Bool.not_eq_true',decide_eq_true_eq]
    by_cases e:r'=r
    ·exact .inr (by simpa using h 0 r' p t xs rfl e)
    ·left
     cases hb:Nat.beq r' r with
     |false=>rfl
     |true=>exact absurd (cX hb) e
   |_=>rfl
  ·have:=h (j+1) r' p t xs (by simpa using e) er
   rw[this];congr 1;omega
theorem ji{s s':St}{q:List (Nat×Option Nat)}(h:a8 s.rs q=true)(hp: ∀j r p t xs,s'.get j= .pend r p t xs→r∈q.map (·.1)→s.get j=s'.get j):a8 s'.rs q=true:=by
 unfold a8 at h⊢
 rw[List.all_eq_true]at h⊢
 intro x hx
 have h1:=(nX s.rs x.1 x.2 0).1 (h x hx)
 refine(nX s'.rs x.1 x.2 0).2 fun j r' p t xs e er=> ?_
 have e2:=hp j r' p t xs e (by rw[er];exact List.mem_map.2 ⟨x,hx,rfl⟩)
 have e:s'.get j= .pend r' p t xs:=e
 rw[e]at e2
 exact h1 j r' p t xs e2 er
theorem pS: ∀(l:List (Nat×ak)) (f:Get) (r:Nat),eF l f r=f r∧r∉l.map (·.1)∨ ∃x,(r,x)∈l∧eF l f r=x
 | [],f,r=> .inl ⟨rfl,by simp⟩
 |(i,x)::l,f,r=>by
  rcases pS l (fun r=>if r=i then x else f r) r with⟨h1,h2⟩|⟨y,h1,h2⟩
  ·by_cases e:r=i
   ·subst e
    exact .inr ⟨x,List.mem_cons_self,by show eF l _ r=x;rw[h1];simp⟩
   ·refine .inl ⟨?_,by simp[e];simpa using h2⟩
    show eF l _ r=f r
    rw[h1];simp[e]
  ·exact .inr ⟨y,List.mem_cons_of_mem _ h1,h2⟩
section
variable {P : Program} {cfg : Cfg} {env : Env P} {w0 : bu} {w w' : World} {st st' : St}
def GP(ops:Array Oper)(i:Nat):AV→AV
 | .bool b=>bif nk ops i then .kb b else .bool b
 |v=>v
theorem Gc(s:St)(d:Option Tmp)(v u:AV):(s.put d v).put d u=s.put d u:=by
 unfold St.put
 cases d with
 |none=>rfl
 |some d=>
  obtain⟨fr,rs⟩:=s
  cases fr with
  |nil=>rfl
  |cons f fs=>simp
theorem xl(ops:Array Oper)(i:Nat)(o:Oper)(s:St)(v:AV):jv ops i o (s.put o.dst v)=s.put o.dst (GP ops i v):=by
 unfold jv
 generalize o.dst=dd
 cases dd with
 |none=>rfl
 |some d=>
  simp only
  obtain⟨fr,rs⟩:=s
  cases fr with
  |nil=>
   have e1: ∀u,(St.mk [] rs).put (some d) u=St.mk [] rs:=fun u=>rfl
   rw[e1,e1];rfl
  |cons f fs=>
   have e1: ∀u,(St.mk (f::fs) rs).put (some d) u=St.mk (f.set d u::fs) rs:=fun u=>rfl
   rw[e1 v]
   have e2:(St.mk (f.set d v::fs) rs).top.getD d .undef=if d<f.length then v else .undef:=by
    show(f.set d v).getD d .undef=_
    rw[List.getD_eq_getElem?_getD,List.getElem?_set]
    by_cases h:d<f.length<;>simp[h]
   rw[e2]
   by_cases h:d<f.length
   ·rw[if_pos h]
    cases v with
    |bool b=>
     unfold GP
     cases nk ops i with
     |true=>simp only[cond_true];rw[←e1 (.bool b),Gc]
     |false=>simp only[cond_false];rw[←e1]
    |_=>unfold GP;simp only;rw[←e1]
   ·rw[if_neg h]
    have: ∀u,f.set d u=f:=fun u=>List.set_eq_of_length_le (Nat.le_of_not_lt h)
    simp only[e1,this]
structure Local (P : Program) (cfg : Cfg) (env : Env P) (b : Nat) (ops : Array Oper) (i : Nat) (o : Oper) (st : St) (t : Touch) (upd : List (Nat × ak)) (v : AV) : Prop where
  keys : t.writes = upd.map (·.1)
  waits : ∀ k x, (k, x) ∈ upd → ∀ r, (r ∈ x.waits ∨ r ∈ (st.get k).waits) → r ∈ t.quiet
  again : ∀ s : St, (∀ d ∈ o.looksAt ops, s.top.getD d .undef = st.top.getD d .undef) → (∀ r ∈ t.reads, s.get r = st.get r) → (∀ r ∈ t.writes, s.get r = st.get r) →
    (∀ j r p ty xs, s.get j = .pend r p ty xs → r ∈ t.quiet → st.get j = s.get j) →
    jg (R := Touch × St) P cfg env (some b) ops i s (fun t st => some (t, st)) = some (t, (s.aH upd).put o.dst v)
theorem rz{s:St}{o:Oper}{ops:Array Oper}(h: ∀d∈o.looksAt ops,s.top.getD d .undef=st.top.getD d .undef): ∀x∈o.op.operands.toList,an s x=an st x:=by
 intro x hx
 cases x with
 |tmp t=>exact congrArg AV.toI (h t (List.mem_append_left _ (List.mem_filterMap.2 ⟨.tmp t,hx,rfl⟩)))
 |_=>rfl
theorem EF{s:St}{o:Oper}{ops:Array Oper}(h: ∀d∈o.looksAt ops,s.top.getD d .undef=st.top.getD d .undef):o.op.operands.toList.map (an s)=o.op.operands.toList.map (an st):=
 List.map_congr_left (rz h)
theorem hM{s:St}{upd:List (Nat×ak)}(h: ∀r∈upd.map (·.1),s.get r=st.get r):jk s upd=jk st upd:=by
 unfold jk
 have: ∀l:List (Nat×ak),(∀r∈l.map (·.1),s.get r=st.get r)→l.flatMap (fun x=>(s.get x.1).waits++x.2.waits)=l.flatMap (fun x=>(st.get x.1).waits++x.2.waits):=by
  intro l
  induction l with
  |nil=>intro _;rfl
  |cons x l ih=>
   intro h
   rw[List.flatMap_cons,List.flatMap_cons,h x.1 (by simp),ih (fun r hr=>h r (by simp only[List.map_cons,List.mem_cons];exact .inr hr))]
 exact this upd h
theorem eE{get get':Get}{r:Nat}(h:get r=get' r):aL get r=aL get' r:=by unfold aL;rw[h]
theorem qh: ∀(l seen:List Nat) (r:Nat),r∈seen→r∈iv seen l
 | [],_,_,h=>h
 |x::xs,seen,r,h=>by
  unfold iv
  cases seen.contains x with
  |true=>exact qh xs seen r h
  |false=>exact qh xs _ r (List.mem_append.2 (.inl h))
theorem tg(get:Get): ∀(n:Nat) (seen:List Nat) (r:Nat),r∈seen→r∈lP get n seen
 |0,_,_,h=>h
 |n+1,_,r,h=>tg get n _ r (qh _ _ r h)
theorem ia{α β:Type}{f f':α→List β}: ∀(l:List α),(∀r∈l,f r=f' r)→l.flatMap f=l.flatMap f'
 | [],_=>rfl
 |x::l,h=>by
  rw[List.flatMap_cons,List.flatMap_cons,h x List.mem_cons_self,ia l fun r hr=>h r (List.mem_cons_of_mem _ hr)]
theorem pF{get get':Get}: ∀(n:Nat) (seen:List Nat),(∀r∈lP get n seen,get r=get' r)→lP get' n seen=lP get n seen
 |0,_,_=>rfl
 |n+1,seen,h=>by
  have e:(seen.flatMap fun r=>AV.tw (aL get' r))=seen.flatMap fun r=>AV.tw (aL get r):=
   ia seen fun r hr=>by rw[eE (h r (tg get (n+1) seen r hr))]
  show lP get' n (iv seen _)=lP get n (iv seen _)
  rw[e]
  exact pF n _ h
mutual
theorem AO{get get':Get}(L:List Nat): ∀(v:AV) (b:Nat),b6 get get' v.roots→bM get L v b=bM get' L v b
 | .int _ _,_,_=>rfl
 | .bool _,_,_=>rfl
 | .kb _,_,_=>rfl
 | .ki _ _,_,_=>rfl
 | .nb _,_,_=>rfl
 | .str _,_,_=>rfl
 | .nilS,_,_=>rfl
 | .undef,_,_=>rfl
 | .tup _,_,_=>rfl
 | .pe _ _ _ _,_,_=>rfl
 | .pv _ _,_,_=>rfl
 | .lit _ _,_,_=>rfl
 | .sl r p sub,b,h=>by
  unfold bM
  rw[pC (h r (by simp[AV.roots]))]
 | .fn f x y,b,h=>by
  unfold bM
  rw[iR L x b fun r hr=>h r (by simp only[AV.roots,List.mem_append];exact .inl hr)]
  generalize fD get' L x b=q
  obtain⟨ok,x',rx⟩:=q
  simp only
  rw[iR L y (b+rx.length) fun r hr=>h r (by simp only[AV.roots,List.mem_append];exact .inr hr)]
 | .agg cs,b,h=>by
  unfold bM
  rw[iR L cs b fun r hr=>h r (by simpa only[AV.roots]using hr)]
theorem iR{get get':Get}(L:List Nat): ∀(vs:List AV) (b:Nat),b6 get get' (AV.ah vs)→fD get L vs b=fD get' L vs b
 | [],_,_=>rfl
 |v::vs,b,h=>by
  unfold fD
  rw[AO L v b h.cons.1]
  generalize bM get' L v b=q
  obtain⟨ok,v',r⟩:=q
  simp only
  rw[iR L vs (b+r.length) h.cons.2]
end
theorem l8{get get' getK getK':Get}(L:List Nat): ∀(V:List Nat) (b:Nat),(∀r∈V,get r=get' r)→(∀r∈V,b6 getK getK' (AV.ah (aL get r)))→fI get getK L V b=fI get' getK' L V b
 | [],_,_,_=>rfl
 |r::V,b,h,k=>by
  unfold fI
  have h0:=h r List.mem_cons_self
  rw[iR L _ b (k r List.mem_cons_self),eE h0]
  generalize fD getK' L (aL get' r) b=q
  obtain⟨ok,cs,rs⟩:=q
  simp only
  rw[l8 L V (b+rs.length) (fun r hr=>h r (List.mem_cons_of_mem _ hr)) fun r hr=>k r (List.mem_cons_of_mem _ hr),h0]
theorem pE{get get':Get}: ∀(V:List Nat) (cs:List AV),(∀r∈V,get r=get' r)→jW get V cs=jW get' V cs
 | [],_,_=>rfl
 |r::V,cs,h=>by
  unfold jW
  rw[eE (h r List.mem_cons_self),pE V _ fun r hr=>h r (List.mem_cons_of_mem _ hr)]
theorem BD{f:Nat}{vs vs':List AV}{s:St}{base:Nat}{upd:List (Nat×ak)}{rd qu:List Nat}
  (h:wK (R:=List AV×List (Nat×ak)×List Nat×List Nat) env f vs st base (fun a b c d=>some (a,b,c,d))=some (vs',upd,rd,qu))
  (h2: ∀r∈rd,s.get r=st.get r) (h4: ∀j r p ty xs,s.get j= .pend r p ty xs→r∈qu→st.get j=s.get j):
  wK (R:=List AV×List (Nat×ak)×List Nat×List Nat) env f vs s base (fun a b c d=>some (a,b,c,d))=some (vs',upd,rd,qu):=by
 have h0:=h
 unfold wK at h
 simp only[cY]at h
 generalize hlv:wx st.get vs=lv at h
 generalize hs:jA ⟨lv,[],[]⟩ st vs=sS at h
 obtain⟨ok,stS⟩:=sS
 simp only[St.force_eq,fp]at h
 obtain⟨hok,hb⟩:=iF h
 have hb:Option.bind (j7 env f lv.length 0 (bg.all ⟨lv,[],[]⟩).length (stS.rs.map ak.strip) stS) _=_:=hb
 have hrq:rd=AV.ah vs++(lv++AV.ah (lv.flatMap (aL st.get)))∧qu=lv:=by
  cases hr:j7 env f lv.length 0 (bg.all ⟨lv,[],[]⟩).length (stS.rs.map ak.strip) stS with
  |none=>rw[hr]at hb;cases hb
  |some yx=>
   rw[hr]at hb
   simp only[Option.bind_some,Option.some.injEq,Prod.mk.injEq]at hb
   exact⟨hb.2.2.1.symm,hb.2.2.2.symm⟩
 obtain⟨hrd,hqu⟩:=hrq
 have a1: ∀r∈AV.ah vs,st.get r=s.get r:=fun r hr=>(h2 r (by rw[hrd];exact List.mem_append.2 (.inl hr))).symm
 have a2: ∀r∈lv,st.get r=s.get r:=fun r hr=>(h2 r (by rw[hrd];exact List.mem_append.2 (.inr (List.mem_append.2 (.inl hr))))).symm
 have a3: ∀r∈AV.ah (lv.flatMap (aL st.get)),st.get r=s.get r:=fun r hr=>(h2 r (by rw[hrd];exact List.mem_append.2 (.inr (List.mem_append.2 (.inr hr))))).symm
 have elv:wx s.get vs=lv:=by
  rw[←hlv]
  unfold wx
  exact pF 4 _ fun r hr=>a2 r (by rw[←hlv];exact hr)
 have rootsL_flat: ∀(l:List Nat) (r:Nat),r∈l→ ∀x∈AV.ah (aL st.get r),x∈AV.ah (l.flatMap (aL st.get)):=by
  have app: ∀(a b:List AV),AV.ah (a++b)=AV.ah a++AV.ah b:=by
   intro a b
   induction a with
   |nil=>rfl
   |cons v a ih=>simp only[List.cons_append,AV.ah,ih,List.append_assoc]
  intro l
  induction l with
  |nil=>intro r hr;cases hr
  |cons y l ih=>
   intro r hr x hx
   rw[List.flatMap_cons,app,List.mem_append]
   rcases List.mem_cons.1 hr with rfl|hr
   ·exact .inl hx
   ·exact .inr (ih r hr x hx)
 have eK: ∀r,st.get r=s.get r→(bif (bg.all ⟨lv,[],[]⟩).contains r then ak.dead else st.get r)=(bif (bg.all ⟨lv,[],[]⟩).contains r then ak.dead else s.get r):=fun r e=>by rw[e]
 have esub:jA ⟨lv,[],[]⟩ s vs=jA ⟨lv,[],[]⟩ st vs:=by
  unfold jA
  rw[←iR (get:=fun r=>bif (bg.all ⟨lv,[],[]⟩).contains r then ak.dead else st.get r) (get':=fun r=>bif (bg.all ⟨lv,[],[]⟩).contains r then ak.dead else s.get r) (bg.all ⟨lv,[],[]⟩) vs _ fun r hr=>eK r (a1 r hr)]
  generalize fD _ _ vs _=q
  obtain⟨okA,vsS,roA⟩:=q
  simp only
  rw[←l8 (get:=st.get) (get':=s.get) (getK:=fun r=>bif (bg.all ⟨lv,[],[]⟩).contains r then ak.dead else st.get r) (getK':=fun r=>bif (bg.all ⟨lv,[],[]⟩).contains r then ak.dead else s.get r) (bg.all ⟨lv,[],[]⟩) lv _ a2 fun r hr x hx=>eK x (a3 x (rootsL_flat lv r hr x hx))]
  generalize fI _ _ _ lv _=q
  obtain⟨okV,vrs,roV⟩:=q
  rfl
 have eupd: ∀rs0 cells,vO ⟨lv,[],[]⟩ s rs0 cells=vO ⟨lv,[],[]⟩ st rs0 cells:=fun rs0 cells=>by
  unfold vO
  rw[ia (f:=aL s.get) (f':=aL st.get) lv fun r hr=>(eE (a2 r hr)).symm,pE (get:=s.get) (get':=st.get) lv _ fun r hr=>(a2 r hr).symm]
 obtain⟨k1,hok⟩:=af.1 hok
 obtain⟨k2,hok⟩:=af.1 hok
 have k2':a8 s.rs (dL (bg.all ⟨lv,[],[]⟩))=true:=
  ji (s:=st) k2 fun j r p ty xs e hr=>h4 j r p ty xs e (by
   rw[hqu]
   simpa[dL,bg.all]using hr)
 rw[←h0]
 unfold wK
 simp only[cY]
 rw[elv,esub,hlv,hs]
 simp only[St.force_eq,fp,eupd,ia (f:=aL s.get) (f':=aL st.get) lv fun r hr=>(eE (a2 r hr)).symm]
 rw[show a8 s.rs (dL (bg.all ⟨lv,[],[]⟩))=a8 st.rs (dL (bg.all ⟨lv,[],[]⟩))from k2'.trans (show a8 st.rs _=true from k2).symm]
theorem na: ∀(vs:List AV) (r:Nat),r∈AV.ah (vs.flatMap AV.cells)→r∈AV.ah vs
 | [],r,h=>by simp[AV.ah]at h
 |v::vs,r,h=>by
  rw[List.flatMap_cons]at h
  rw[AV.ah,List.mem_append]
  rcases eW h with h|h
  ·exact .inl (lK v r h)
  ·exact .inr (na vs r h)
theorem Eb{f:Nat}{vs vs':List AV}{s:St}{base:Nat}{upd:List (Nat×ak)}{rd qu:List Nat}
  (h:ioC (R:=List AV×List (Nat×ak)×List Nat×List Nat) env f vs st base (fun a b c d=>some (a,b,c,d))=some (vs',upd,rd,qu))
  (h2: ∀r∈rd,s.get r=st.get r) (h4: ∀j r p ty xs,s.get j= .pend r p ty xs→r∈qu→st.get j=s.get j):
  ioC (R:=List AV×List (Nat×ak)×List Nat×List Nat) env f vs s base (fun a b c d=>some (a,b,c,d))=some (vs',upd,rd,qu):=by
 have h0:=h
 unfold ioC at h
 simp only[cY]at h
 generalize hlv:B4 vs=lv at h
 generalize hln:vP true st.get vs++pz true st.get lv=ln at h
 generalize hs:jA ⟨lv,[],ln⟩ st vs=sS at h
 obtain⟨ok,stS⟩:=sS
 simp only[St.force_eq,fp]at h
 obtain⟨hok,hb⟩:=iF h
 have hb:Option.bind (j7 env f 0 0 (bg.all ⟨lv,[],ln⟩).length (stS.rs.map ak.strip) stS) _=_:=hb
 have hrq:rd=AV.ah vs++(lv++AV.ah (lv.flatMap (aL st.get)))∧qu=bg.all ⟨lv,[],ln⟩:=by
  cases hr:j7 env f 0 0 (bg.all ⟨lv,[],ln⟩).length (stS.rs.map ak.strip) stS with
  |none=>rw[hr]at hb;cases hb
  |some yx=>
   rw[hr]at hb
   simp only[Option.bind_some,Option.some.injEq,Prod.mk.injEq]at hb
   exact⟨hb.2.2.1.symm,hb.2.2.2.symm⟩
 obtain⟨hrd,hqu⟩:=hrq
 have a1: ∀r∈AV.ah vs,st.get r=s.get r:=fun r hr=>(h2 r (by rw[hrd];exact List.mem_append.2 (.inl hr))).symm
 have a2: ∀r∈lv,st.get r=s.get r:=fun r hr=>(h2 r (by rw[hrd];exact List.mem_append.2 (.inr (List.mem_append.2 (.inl hr))))).symm
 have a3: ∀r∈AV.ah (lv.flatMap (aL st.get)),st.get r=s.get r:=fun r hr=>(h2 r (by rw[hrd];exact List.mem_append.2 (.inr (List.mem_append.2 (.inr hr))))).symm
 have eln:vP true s.get vs++pz true s.get lv=ln:=by
  rw[←hln]
  have cells: ∀(l:List AV),(∀r∈AV.ah l,st.get r=s.get r)→l.flatMap (qx true s.get)=l.flatMap (qx true st.get):=by
   intro l
   induction l with
   |nil=>intro _;rfl
   |cons v l ih=>
    intro hh
    rw[List.flatMap_cons,List.flatMap_cons,ih fun r hr=>hh r (by rw[AV.ah];exact List.mem_append.2 (.inr hr))]
    congr 1
    unfold qx
    split
    ·next r=>rw[hh r (by rw[AV.ah];exact List.mem_append.2 (.inl (by simp[AV.roots])))]
    ·rfl
  unfold vP pz
  rw[ia (f:=aL s.get) (f':=aL st.get) lv fun r hr=>(eE (a2 r hr)).symm]
  rw[cells _ fun r hr=>a1 r (na vs r hr),cells _ a3]
 have rootsL_flat: ∀(l:List Nat) (r:Nat),r∈l→ ∀x∈AV.ah (aL st.get r),x∈AV.ah (l.flatMap (aL st.get)):=by
  have app: ∀(a b:List AV),AV.ah (a++b)=AV.ah a++AV.ah b:=by
   intro a b
   induction a with
   |nil=>rfl
   |cons v a ih=>simp only[List.cons_append,AV.ah,ih,List.append_assoc]
  intro l
  induction l with
  |nil=>intro r hr;cases hr
  |cons y l ih=>
   intro r hr x hx
   rw[List.flatMap_cons,app,List.mem_append]
   rcases List.mem_cons.1 hr with rfl|hr
   ·exact .inl hx
   ·exact .inr (ih r hr x hx)
 have eln2:ln.map s.get=ln.map st.get:=List.map_congr_left fun r hr=>by
  have key: ∀(l:List AV),r∈l.flatMap (qx true st.get)→r∈AV.ah l:=by
   intro l
   induction l with
   |nil=>intro h;simp at h
   |cons v l ih=>
    intro h
    rw[List.flatMap_cons,List.mem_append]at h
    rw[AV.ah,List.mem_append]
    rcases h with h|h
    ·refine .inl ?_
     unfold qx at h
     split at h
     ·next q=>
      simp only[cond_true]at h
      split at h
      ·simp only[List.mem_singleton]at h;subst h;simp[AV.roots]
      ·cases h
     ·cases h
    ·exact .inr (ih h)
  rw[←hln]at hr
  rcases List.mem_append.1 hr with hr|hr
  ·exact(a1 r (na vs r (key _ hr))).symm
  ·exact(a3 r (key _ hr)).symm
 have eK: ∀r,st.get r=s.get r→(bif (bg.all ⟨lv,[],ln⟩).contains r then ak.dead else st.get r)=(bif (bg.all ⟨lv,[],ln⟩).contains r then ak.dead else s.get r):=fun r e=>by rw[e]
 have esub:jA ⟨lv,[],ln⟩ s vs=jA ⟨lv,[],ln⟩ st vs:=by
  unfold jA
  rw[←iR (get:=fun r=>bif (bg.all ⟨lv,[],ln⟩).contains r then ak.dead else st.get r) (get':=fun r=>bif (bg.all ⟨lv,[],ln⟩).contains r then ak.dead else s.get r) (bg.all ⟨lv,[],ln⟩) vs _ fun r hr=>eK r (a1 r hr)]
  generalize fD _ _ vs _=q
  obtain⟨okA,vsS,roA⟩:=q
  simp only
  rw[←l8 (get:=st.get) (get':=s.get) (getK:=fun r=>bif (bg.all ⟨lv,[],ln⟩).contains r then ak.dead else st.get r) (getK':=fun r=>bif (bg.all ⟨lv,[],ln⟩).contains r then ak.dead else s.get r) (bg.all ⟨lv,[],ln⟩) lv _ a2 fun r hr x hx=>eK x (a3 x (rootsL_flat lv r hr x hx))]
  generalize fI _ _ _ lv _=q
  obtain⟨okV,vrs,roV⟩:=q
  simp only[List.nil_append,eln2]
 obtain⟨k1,hok⟩:=af.1 hok
 obtain⟨k2,hok⟩:=af.1 hok
 have k2':a8 s.rs (dL (bg.all ⟨lv,[],ln⟩))=true:=
  ji (s:=st) k2 fun j r p ty xs e hr=>h4 j r p ty xs e (by
   rw[hqu]
   simpa[dL]using hr)
 rw[←h0]
 unfold ioC
 simp only[cY]
 rw[hlv,eln,hln,esub,hs]
 simp only[St.force_eq,fp,ia (f:=aL s.get) (f':=aL st.get) lv fun r hr=>(eE (a2 r hr)).symm]
 rw[show a8 s.rs (dL (bg.all ⟨lv,[],ln⟩))=a8 st.rs (dL (bg.all ⟨lv,[],ln⟩))from k2'.trans (show a8 st.rs _=true from k2).symm]
theorem xO{m f:Nat}{vs vs':List AV}{s:St}{base:Nat}{upd:List (Nat×ak)}{rd qu:List Nat}
  (h:ioD (R:=List AV×List (Nat×ak)×List Nat×List Nat) m env f vs st base (fun a b c d=>some (a,b,c,d))=some (vs',upd,rd,qu))
  (h2: ∀r∈rd,s.get r=st.get r) (h4: ∀j r p ty xs,s.get j= .pend r p ty xs→r∈qu→st.get j=s.get j):
  ioD (R:=List AV×List (Nat×ak)×List Nat×List Nat) m env f vs s base (fun a b c d=>some (a,b,c,d))=some (vs',upd,rd,qu):=by
 unfold ioD at h⊢
 cases hm:Nat.beq m 5 with
 |true=>rw[hm]at h;exact Eb h h2 h4
 |false=>rw[hm]at h;exact BD h h2 h4
theorem Bz{get get':Get}(o:Oper)(avs:List AV)(base:Nat)(h:b6 get get' (qt o avs)):aP P o avs get base=aP P o avs get' base:=by
 unfold qt at h
 split at h
 ·next x e=>unfold aP;rw[e]
 ·exact zG o avs base h
theorem Fo(hE:gM P env){b:Nat}{ops:Array Oper}{i:Nat}{o:Oper}{t:Touch}(h:opK (R:=Touch×St) P cfg env (b+16*i) true o st (fun t st=>some (t,st))=some (t,st'))(hal:t.alone=false):
  ∃upd v,st'=(st.aH upd).put o.dst v∧t.writes=upd.map (·.1)∧(∀k x,(k,x)∈upd→ ∀r,(r∈x.waits∨r∈(st.get k).waits)→r∈t.quiet)∧
   ∀s:St,(∀d∈o.looksAt ops,s.top.getD d .undef=st.top.getD d .undef)→(∀r∈t.reads,s.get r=st.get r)→(∀r∈t.writes,s.get r=st.get r)→
    (∀j r p ty xs,s.get j= .pend r p ty xs→r∈t.quiet→st.get j=s.get j)→
    opK (R:=Touch×St) P cfg env (b+16*i) true o s (fun t st=>some (t,st))=some (t,(s.aH upd).put o.dst v):=by
 have plain:(∀s:St,opK (R:=Touch×St) P cfg env (b+16*i) true o s (fun t st=>some (t,st))=yQ (R:=Touch×St) o (o.op.operands.toList.map (an s)) (aP P o (o.op.operands.toList.map (an s)) s.get (b+16*i)) s (fun t st=>some (t,st)))→
   ∃upd v,st'=(st.aH upd).put o.dst v∧t.writes=upd.map (·.1)∧(∀k x,(k,x)∈upd→ ∀r,(r∈x.waits∨r∈(st.get k).waits)→r∈t.quiet)∧
   ∀s:St,(∀d∈o.looksAt ops,s.top.getD d .undef=st.top.getD d .undef)→(∀r∈t.reads,s.get r=st.get r)→(∀r∈t.writes,s.get r=st.get r)→
    (∀j r p ty xs,s.get j= .pend r p ty xs→r∈t.quiet→st.get j=s.get j)→
    opK (R:=Touch×St) P cfg env (b+16*i) true o s (fun t st=>some (t,st))=some (t,(s.aH upd).put o.dst v):=by
  intro hp
  rw[hp,gJ]at h
  split at h
  ·next hok=>
   simp only[Option.some.injEq,Prod.mk.injEq]at h
   obtain⟨rfl,rfl⟩:=h
   have hcut:(aP P o (o.op.operands.toList.map (an st)) st.get (b+16*i)).cut=none:=by
    have hal:(aP P o (o.op.operands.toList.map (an st)) st.get (b+16*i)).cut.isSome=false:=hal
    cases hc:(aP P o (o.op.operands.toList.map (an st)) st.get (b+16*i)).cut with
    |none=>rfl
    |some c=>rw[hc]at hal;cases hal
   refine⟨(aP P o (o.op.operands.toList.map (an st)) st.get (b+16*i)).upd,(aP P o (o.op.operands.toList.map (an st)) st.get (b+16*i)).v,?_,rfl,fun k x hk r hr=> ?_,fun s h1 h2 h3 h4=> ?_⟩
   ·unfold qO;rw[hcut];rfl
   ·refine List.mem_append.2 (.inr ?_)
    unfold jk
    rw[List.mem_flatMap]
    exact⟨(k,x),hk,by rw[List.mem_append];exact hr.symm⟩
   ·rw[hp,EF h1]
    have hout:aP P o (o.op.operands.toList.map (an st)) s.get (b+16*i)=aP P o (o.op.operands.toList.map (an st)) st.get (b+16*i):=Bz o _ _ h2
    rw[hout,gJ]
    obtain⟨k1,k2⟩:=af.1 (iJ.1 hok)
    have hq:a8 s.rs (aP P o (o.op.operands.toList.map (an st)) st.get (b+16*i)).quiet=true:=
     ji (s:=st) k1 fun j r p ty xs e hr=>h4 j r p ty xs e (List.mem_append.2 (.inl hr))
    rw[if_pos (iJ.2 (af.2 ⟨show(Tst.s (a8 s.rs _)).val=true from hq,k2⟩))]
    have ht:nr o (o.op.operands.toList.map (an st)) (aP P o (o.op.operands.toList.map (an st)) st.get (b+16*i)) s=nr o (o.op.operands.toList.map (an st)) (aP P o (o.op.operands.toList.map (an st)) st.get (b+16*i)) st:=by
     unfold nr
     rw[hM h3]
    rw[ht]
    unfold qO
    rw[hcut];rfl
  ·cases h
 cases hop:o.op with
 |call c=>
  cases hc:c.callee with
  |builtin bb=>
   refine plain fun s=> ?_
   rw[mT];unfold px qW
   rw[hop]
   have:gX P c=none:=by unfold gX;rw[hc]
   simp only[hc,this,Option.isSome_none,cond_false]
  |invoke r m=>
   rw[mT]at h;unfold px qW at h
   rw[hop]at h
   have:gX P c=none:=by unfold gX;rw[hc]
   simp only[hc,this,Option.isSome_none,cond_false]at h
   cases h
  |value x=>
   cases hbk:(gX P c).isSome with
   |true=>
    refine plain fun s=> ?_
    rw[mT];unfold px
    rw[hop]
    simp only[hbk,cond_true]
   |false=>
   have hcall: ∀s:St,opK (R:=Touch×St) P cfg env (b+16*i) true o s (fun t st=>some (t,st))=qW (R:=Touch×St) P cfg env (b+16*i) true o c s (fun t st=>some (t,st)):=by
    intro s;rw[mT];unfold px;rw[hop];simp only[hbk,cond_false]
   rw[hcall]at h
   have hops:o.op.operands.toList=x::c.args.toList:=by
    rw[hop]
    show c.operands.toList=_
    unfold Call.operands;rw[hc];simp
   have hcK: ∀s:St,qW (R:=Touch×St) P cfg env (b+16*i) true o c s (fun t st=>some (t,st))=match an s x with
     | .fn f first cap=>(bif Nat.beq (cfg.mode f) 0 then
       (match first,cap with
       | [],[]=>
        (match fT s.get (eH P f) ((c.args.toList.map (an s)).flatMap AV.cells)with
        |(ok,x,rest)=>chk (.s (fitAll P (dV P f) (c.args.toList.map (an s))):: .s rest.isEmpty::ok) (D.bnd (env.pc f x) fun r=>
         match eN P true (bE P f) r (b+16*i)with
         |(vs,rs)=>St.force ({s with rs:=cU s.rs (aj (b+16*i) rs)}.put o.dst (tG vs))
           (fun st=>some (⟨AV.ah (c.args.toList.map (an s))++gB s.get ((c.args.toList.map (an s)).flatMap AV.cells),(aj (b+16*i) rs).map (·.1),jk s (aj (b+16*i) rs),false⟩,st))))
       |_,_=>none)
      else bif Nat.beq (cfg.mode f) 6 then none else(bif Nat.ble 4 (cfg.mode f)then
       ioD (cfg.mode f) env f (first++c.args.toList.map (an s)++cap) s (b+16*i) fun vs upd rd qu=>
        j9 rd fun rd=>j9 (upd.map (·.1)) fun wr=>j9 (qu++jk s upd) fun qu=>
        St.force ({s with rs:=cU s.rs upd}.put o.dst (tG vs)) (fun st=>some (⟨rd,wr,qu,false⟩,st))
       else none))
     |_=>none:=by
    intro s
    unfold qW
    simp only[hc]
    generalize an s x=v
    cases v<;>rfl
   rw[hcK]at h
   split at h
   ·next f first cap hev=>
    cases hm:Nat.beq (cfg.mode f) 0 with
    |false=>
     rw[hm]at h
     simp only[cond_false]at h
     cases hm6:Nat.beq (cfg.mode f) 6 with
     |true=>rw[hm6]at h;cases h
     |false=>
     rw[hm6]at h
     simp only[cond_false]at h
     cases hm4:Nat.ble 4 (cfg.mode f)with
     |false=>rw[hm4]at h;cases h
     |true=>
     rw[hm4]at h
     simp only[cond_true]at h
     rw[mw]at h
     cases hin:ioD (R:=List AV×List (Nat×ak)×List Nat×List Nat) (cfg.mode f) env f (first++c.args.toList.map (an st)++cap) st (b+16*i) (fun a b c d=>some (a,b,c,d))with
     |none=>rw[hin]at h;cases h
     |some p=>
      obtain⟨vs',upd,rd,qu⟩:=p
      rw[hin]at h
      simp only[Option.bind_some,cY,St.force_eq,Option.some.injEq,Prod.mk.injEq]at h
      obtain⟨rfl,rfl⟩:=h
      refine⟨upd,tG vs',rfl,rfl,fun k x hk r hr=> ?_,fun s h1 h2 h3 h4=> ?_⟩
      ·show r∈qu++jk st upd
       refine List.mem_append.2 (.inr ?_)
       unfold jk
       rw[List.mem_flatMap]
       exact⟨(k,x),hk,by rw[List.mem_append];exact hr.symm⟩
      ·have hex:an s x=an st x:=rz h1 x (by rw[hops];exact List.mem_cons_self)
       have hargs:c.args.toList.map (an s)=c.args.toList.map (an st):=List.map_congr_left fun y hy=>rz h1 y (by rw[hops];exact List.mem_cons_of_mem _ hy)
       rw[hcall,hcK,hex,hev]
       simp only[hm,hm6,cond_false,hm4,cond_true,hargs]
       rw[mw,xO hin (s:=s) h2 (fun j r p ty xs e hr=>h4 j r p ty xs e (List.mem_append.2 (.inl hr)))]
       simp only[Option.bind_some,cY,St.force_eq]
       rw[hM h3]
       rfl
    |true=>
     rw[hm]at h
     simp only[cond_true]at h
     split at h
     ·generalize hrd:fT st.get (eH P f) ((c.args.toList.map (an st)).flatMap AV.cells)=rd at h
      obtain⟨ok,d,rest⟩:=rd
      simp only[gE]at h
      split at h
      ·next hok=>
       have h:(env.pc f d).bind _=_:=h
       cases hpc:env.pc f d with
       |none=>rw[hpc]at h;cases h
       |some y=>
        rw[hpc]at h
        simp only[Option.bind_some]at h
        generalize hla:eN P true (bE P f) y (b+16*i)=la at h
        obtain⟨vs,rs⟩:=la
        simp only[St.force_eq,Option.some.injEq,Prod.mk.injEq]at h
        obtain⟨rfl,rfl⟩:=h
        refine⟨aj (b+16*i) rs,tG vs,rfl,rfl,fun k x hk r hr=> ?_,fun s h1 h2 h3 h4=> ?_⟩
        ·show r∈jk st (aj (b+16*i) rs)
         unfold jk
         rw[List.mem_flatMap]
         exact⟨(k,x),hk,by rw[List.mem_append];exact hr.symm⟩
        ·have hex:an s x=an st x:=rz h1 x (by rw[hops];exact List.mem_cons_self)
         have hargs:c.args.toList.map (an s)=c.args.toList.map (an st):=List.map_congr_left fun y hy=>rz h1 y (by rw[hops];exact List.mem_cons_of_mem _ hy)
         have hcells:b6 s.get st.get (AV.ah ((c.args.toList.map (an st)).flatMap AV.cells)):=by
          have: ∀(l:List AV) (r:Nat),r∈AV.ah (l.flatMap AV.cells)→r∈AV.ah l:=by
           intro l
           induction l with
           |nil=>intro r h;exact h
           |cons v l ih=>
            intro r h
            rw[List.flatMap_cons]at h
            simp only[AV.ah,List.mem_append]
            rcases eW h with h|h
            ·exact .inl (lK v r h)
            ·exact .inr (ih r h)
          exact fun r hr=>h2 r (List.mem_append.2 (.inl (this _ r hr)))
         have hlit:gB s.get ((c.args.toList.map (an st)).flatMap AV.cells)=gB st.get ((c.args.toList.map (an st)).flatMap AV.cells):=oK hcells
         have hv: ∀r n cs,AV.lit r n∈(c.args.toList.map (an st)).flatMap AV.cells→st.get r= .var cs→b6 st.get s.get (AV.ah cs):=
          fun r n cs hm hg x hx=>(h2 x (List.mem_append.2 (.inr (qJ hm hg hx)))).symm
         rw[hcall,hcK,hex,hev]
         simp only[hm,cond_true,hargs]
         rw[←(sO (eH P f) _ (fun r hr=>(hcells r hr).symm) hv).1,hrd,hlit]
         simp only[gE,hok,if_true]
         show(env.pc f d).bind _=_
         rw[hpc]
         simp only[Option.bind_some,hla,St.force_eq]
         rw[hM h3]
         rfl
      ·cases h
     ·cases h
   ·cases h
 |_=>
  refine plain fun s=> ?_
  rw[mT];unfold px
  rw[hop]
end
end
end Go.Am
end
section
/- Soundness of regions whose order is open, third part: places changed. -/
namespace Go.Am
noncomputable section
attribute [local instance] D.real
section
variable {P : Program} {cfg : Cfg} {env : Env P} {w0 : bu} {w w' : World} {st st' : St}
abbrev iE(P:Program)(cfg:Cfg)(env:Env P)(b:Nat)(ops:Array Oper)(i:Nat)(st:St):Option (Touch×St):=jg (R:=Touch×St) P cfg env (some b) ops i st (fun t st=>some (t,st))
theorem vB(hE:gM P env){b:Nat}{ops:Array Oper}{i:Nat}{o:Oper}{t:Touch}(ho:ops[i]?=some o)(h:iE P cfg env b ops i st=some (t,st'))(hal:t.alone=false):
  ∃upd v,st'=(st.aH upd).put o.dst v∧Local P cfg env b ops i o st t upd v:=by
 have run: ∀(hst: ∀s:St,(∀d∈o.looksAt ops,s.top.getD d .undef=st.top.getD d .undef)→iE P cfg env b ops i s=opK (R:=Touch×St) P cfg env (b+16*i) true o s (fun t st=>iT ops i o st fun st=>some (t,st))),
   ∃upd v,st'=(st.aH upd).put o.dst v∧Local P cfg env b ops i o st t upd v:=by
  intro hst
  have hst': ∀s:St,(∀d∈o.looksAt ops,s.top.getD d .undef=st.top.getD d .undef)→iE P cfg env b ops i s=(opK (R:=Touch×St) P cfg env (b+16*i) true o s (fun t st=>some (t,st))).bind fun p=>some (p.1,jv ops i o p.2):=by
   intro s hs
   rw[hst s hs,mn hE]
   congr 1
   funext p
   rw[mL]
  rw[hst' st (fun _ _=>rfl)]at h
  cases hop:opK (R:=Touch×St) P cfg env (b+16*i) true o st (fun t st=>some (t,st))with
  |none=>rw[hop]at h;cases h
  |some p=>
   obtain⟨t2,st2⟩:=p
   rw[hop]at h
   simp only[Option.bind_some,Option.some.injEq,Prod.mk.injEq]at h
   obtain⟨rfl,rfl⟩:=h
   obtain⟨upd,v,e1,e2,e3,e4⟩:=Fo hE (ops:=ops) hop hal
   refine⟨upd,GP ops i v,by rw[e1,xl],⟨e2,e3,fun s h1 h2 h3 h4=> ?_⟩⟩
   have:=hst' s h1
   show iE P cfg env b ops i s=_
   rw[this,e4 s h1 h2 h3 h4]
   simp only[Option.bind_some]
   rw[xl]
 have skip: ∀(hst: ∀s:St,(∀d∈o.looksAt ops,s.top.getD d .undef=st.top.getD d .undef)→iE P cfg env b ops i s=some (fG,s.put o.dst (.tup []))),
   ∃upd v,st'=(st.aH upd).put o.dst v∧Local P cfg env b ops i o st t upd v:=by
  intro hst
  rw[hst st (fun _ _=>rfl)]at h
  simp only[Option.some.injEq,Prod.mk.injEq]at h
  obtain⟨rfl,rfl⟩:=h
  exact⟨[],.tup [],rfl,⟨rfl,fun k x hk=>by simp at hk,fun s h1 _ _ _=>hst s h1⟩⟩
 have hunf: ∀s:St,iE P cfg env b ops i s=match o.guard with
   |none=>opK (R:=Touch×St) P cfg env (b+16*i) true o s (fun t st=>iT ops i o st fun st=>some (t,st))
   |some (j,want)=>(match (ops[j]?).bind (·.dst)with
    |none=>none
    |some d=>(match s.top.getD d .undef with
     | .kb b'=>bif b'==want then opK (R:=Touch×St) P cfg env (b+16*i) true o s (fun t st=>iT ops i o st fun st=>some (t,st))else St.force (s.put o.dst (.tup [])) (fun st=>some (fG,st))
     | .tup _=>St.force (s.put o.dst (.tup [])) (fun st=>some (fG,st))
     |_=>none)):=by
  intro s
  unfold iE jg
  rw[ho]
  rfl
 cases hg:o.guard with
 |none=>exact run fun s _=>by rw[hunf,hg]
 |some jw=>
  obtain⟨j,want⟩:=jw
  cases hd:(ops[j]?).bind (·.dst)with
  |none=>
   exfalso
   rw[hunf,hg]at h
   simp only[hd]at h
   cases h
  |some d=>
   have hlook:d∈o.looksAt ops:=by
    unfold Oper.looksAt
    rw[hg]
    exact List.mem_append_right _ (by simp only[hd];simp)
   have hu: ∀s:St,iE P cfg env b ops i s=(match s.top.getD d .undef with
     | .kb b'=>bif b'==want then opK (R:=Touch×St) P cfg env (b+16*i) true o s (fun t st=>iT ops i o st fun st=>some (t,st))else St.force (s.put o.dst (.tup [])) (fun st=>some (fG,st))
     | .tup _=>St.force (s.put o.dst (.tup [])) (fun st=>some (fG,st))
     |_=>none):=by
    intro s;rw[hunf,hg];simp only[hd]
   generalize hv:st.top.getD d .undef=v
   cases v with
   |kb b'=>
    cases hbw:b'==want with
    |true=>exact run fun s hs=>by rw[hu,hs d hlook,hv];simp only[hbw,cond_true]
    |false=>exact skip fun s hs=>by rw[hu,hs d hlook,hv];simp only[hbw,cond_false,St.force_eq]
   |tup l=>exact skip fun s hs=>by rw[hu,hs d hlook,hv];simp only[St.force_eq]
   |_=>exfalso;rw[hu,hv]at h;cases h
theorem iO(s:St)(d:Option Tmp)(v:AV):(s.put d v).get=s.get:=by
 funext r
 show(s.put d v).rs.getD r .dead=s.rs.getD r .dead
 rw[fB]
theorem Ci{s:St}{d:Option Tmp}{v:AV}{x:Nat}(h:d≠some x):(s.put d v).top.getD x .undef=s.top.getD x .undef:=by
 unfold St.put
 cases d with
 |none=>rfl
 |some d=>
  obtain⟨fr,rs⟩:=s
  cases fr with
  |nil=>rfl
  |cons f fs=>
   show(f.set d v).getD x .undef=f.getD x .undef
   rw[List.getD_eq_getElem?_getD,List.getElem?_set,List.getD_eq_getElem?_getD]
   have:d≠x:=fun e=>h (by rw[e])
   rw[if_neg this]
theorem AL{s u:St}{d e:Option Tmp}{v x:AV}(hfr:s.fr=u.fr)(h: ∀k,d=some k→e≠some k):((s.put d v).put e x).fr=((u.put e x).put d v).fr:=by
 unfold St.put
 obtain⟨fr,rs⟩:=s
 obtain⟨fr',rs'⟩:=u
 simp only at hfr
 subst hfr
 cases d with
 |none=>cases e<;>cases fr<;>rfl
 |some d=>
  cases e with
  |none=>cases fr<;>rfl
  |some e=>
   cases fr with
   |nil=>rfl
   |cons f fs=>
    show(f.set d v).set e x::fs=(f.set e x).set d v::fs
    rw[List.set_comm _ _ (fun h'=>h d rfl (by rw[h']))]
theorem xo{s u:St}(d:Option Tmp)(v:AV)(h:s.fr=u.fr):(s.put d v).fr=(u.put d v).fr:=by
 unfold St.put
 obtain⟨fr,rs⟩:=s
 obtain⟨fr',rs'⟩:=u
 simp only at h
 subst h
 cases d<;>cases fr<;>rfl
def Fz(ops:Array Oper)(i j:Nat)(t u:Touch):Prop:=indep u t=true∧ ∃o o',ops[i]?=some o∧ops[j]?=some o'∧Oper.apart ops o o'=true
theorem oY{a b:List Nat}(h:EC a b=true): ∀x∈a,x∉b:=by
 intro x hx hb
 have:=List.all_eq_true.1 h x hx
 simp only[Bool.not_eq_true',List.contains_eq_mem,decide_eq_false_iff_not]at this
 exact this hb
theorem jz{l:List (Nat×ak)}{s:St}{r:Nat}(h:r∉l.map (·.1)):(s.aH l).get r=s.get r:=by
 rw[eX,gY l _ r h]
theorem C2(hE:gM P env){b:Nat}{ops:Array Oper}{i j:Nat}{s1 s2:St}{t u:Touch}(hi:iE P cfg env b ops i st=some (t,s1))(hj:iE P cfg env b ops j s1=some (u,s2))(hind:Fz ops i j t u):
  ∃s1' s2',iE P cfg env b ops j st=some (u,s1')∧iE P cfg env b ops i s1'=some (t,s2')∧Eqv s2 s2':=by
 obtain⟨hind,o,o',ho,ho',hap⟩:=hind
 obtain⟨a1,a2,a3⟩:=Oper.apart_spec hap
 unfold indep at hind
 simp only[Bool.and_eq_true,Bool.not_eq_true']at hind
 obtain⟨⟨⟨⟨⟨d1,d2⟩,d3⟩,d4⟩,d5⟩,d6⟩:=hind
 have d3:=oY d3
 have d4:=oY d4
 have d5:=oY d5
 have d6:=oY d6
 obtain⟨ua,va,rfl,La⟩:=vB hE ho hi d2
 obtain⟨ub,vb,rfl,Lb⟩:=vB hE ho' hj d1
 have hka:=La.keys
 have hkb:=Lb.keys
 have h1:iE P cfg env b ops j st=some (u,(st.aH ub).put o'.dst vb):=by
  refine Lb.again st (fun d hd=> ?_) (fun r hr=> ?_) (fun r hr=> ?_) (fun k r p ty xs e hr=> ?_)
  ·rw[Ci fun e=>a1 d e hd];rfl
  ·rw[iO,jz]
   rw[←hka];exact d5 r hr
  ·rw[iO,jz]
   rw[←hka];exact d4 r hr
  ·rw[iO]
   by_cases hk:k∈ua.map (·.1)
   ·exfalso
    obtain⟨⟨k',x⟩,hx,rfl⟩:=List.mem_map.1 hk
    have:=La.waits k' x hx r (.inr (by rw[e];simp[ak.waits]))
    exact d6 r hr this
   ·rw[jz hk]
 have h2:iE P cfg env b ops i ((st.aH ub).put o'.dst vb)=some (t,(((st.aH ub).put o'.dst vb).aH ua).put o.dst va):=by
  refine La.again _ (fun d hd=> ?_) (fun r hr=> ?_) (fun r hr=> ?_) (fun k r p ty xs e hr=> ?_)
  ·rw[Ci fun e=>a3 d e hd];rfl
  ·rw[iO,jz]
   rw[←hkb];exact fun h=>d3 r h hr
  ·rw[iO,jz]
   rw[←hkb];exact fun h=>d4 r h hr
  ·rw[iO]at e⊢
   rcases pS ub st.get k with⟨e1,_⟩|⟨x,e1,e2⟩
   ·rw[eX,e1]
   ·exfalso
    rw[eX,e2]at e
    have:=Lb.waits k x e1 r (.inl (by rw[e];simp[ak.waits]))
    exact d6 r this hr
 have c1:((((st.aH ua).put o.dst va).aH ub).put o'.dst vb).fr=(((st.aH ua).put o.dst va).put o'.dst vb).fr:=xo _ _ rfl
 have c2:((((st.aH ub).put o'.dst vb).aH ua).put o.dst va).fr=(((st.aH ub).put o'.dst vb).put o.dst va).fr:=xo _ _ rfl
 refine⟨_,_,h1,h2,?_,fun r=> ?_,?_⟩
 ·rw[c1,c2]
  exact AL rfl (fun k hk=>a2 k hk)
 ·rw[iO,iO,eX,eX,iO,iO,eX,eX]
  rcases pS ub (eF ua st.get) r with⟨e1,e2⟩|⟨x,e1,e2⟩
  ·rw[e1]
   refine(lG ua _ _ r ?_).symm
   rw[gY ub _ r e2]
  ·have hr:r∈ub.map (·.1):=List.mem_map.2 ⟨(r,x),e1,rfl⟩
   have hn:r∉ua.map (·.1):=by rw[←hka];rw[←hkb]at hr;exact d4 r hr
   rw[gY ua _ r hn]
   refine lG ub _ _ r ?_
   rw[gY ua _ r hn]
 ·rw[fB,fB]
  show(cU ((st.aH ua).put o.dst va).rs ub).length=(cU ((st.aH ub).put o'.dst vb).rs ua).length
  rw[iS,iS,fB,fB]
  show max (cU st.rs ua).length _=max (cU st.rs ub).length _
  rw[iS,iS]
  omega
theorem FI(hE:gM P env){b:Nat}{ops:Array Oper}{i:Nat}{s s' s1:St}{t:Touch}(h:Eqv s s')(hi:iE P cfg env b ops i s=some (t,s1)): ∃s1',iE P cfg env b ops i s'=some (t,s1')∧Eqv s1 s1':=by
 have htop:s'.top=s.top:=by unfold St.top;rw[h.1]
 have hget:s'.get=s.get:=funext fun r=>(h.2.1 r).symm
 have hev: ∀x,an s' x=an s x:=by intro x;cases x<;>first|rfl|(show(s'.top.getD _ _).toI=(s.top.getD _ _).toI;rw[htop])
 have hevs: ∀l:List Operand,l.map (an s')=l.map (an s):=fun l=>List.map_congr_left fun x _=>hev x
 have put_eqv: ∀{x y:St} (d:Option Tmp) (v:AV),Eqv x y→Eqv (x.put d v) (y.put d v):=by
  intro x y d v h
  refine⟨?_,fun r=>by rw[iO,iO];exact h.2.1 r,by rw[fB,fB];exact h.2.2⟩
  unfold St.put
  cases d with
  |none=>exact h.1
  |some d=>
   obtain⟨fr,rs⟩:=x
   obtain⟨fr',rs'⟩:=y
   have:=h.1
   simp only at this
   subst this
   cases fr<;>rfl
 have setL_eqv: ∀(l:List (Nat×ak)),Eqv (s.aH l) (s'.aH l):=fun l=>⟨h.1,fun r=>by rw[eX,eX,hget],by
  show(cU s.rs l).length=(cU s'.rs l).length
  rw[iS,iS,h.2.2]⟩
 have cut_eqv: ∀{x y:St} (c:Option (Nat×Nat)),Eqv x y→Eqv (x.cut c) (y.cut c):=by
  intro x y c h
  exact⟨by rw[yj,yj,h.1],fun r=>by rw[uR,uR,h.2.1],by rw[ng,ng,h.2.2]⟩
 have split_eqv: ∀{x y:St} (o:Oper),Eqv x y→Eqv (jv ops i o x) (jv ops i o y):=by
  intro x y o h
  have ht:y.top=x.top:=by unfold St.top;rw[h.1]
  unfold jv
  generalize o.dst=dd
  cases dd with
  |none=>exact h
  |some d=>
   simp only[ht]
   generalize x.top.getD d .undef=v
   cases v with
   |bool bb=>
    simp only
    cases nk ops i with
    |true=>exact put_eqv (some d) _ h
    |false=>exact h
   |_=>exact h
 have opk: ∀(o:Oper) (t:Touch) (s2:St),opK (R:=Touch×St) P cfg env (b+16*i) true o s (fun t st=>some (t,st))=some (t,s2)→ ∃s2',opK (R:=Touch×St) P cfg env (b+16*i) true o s' (fun t st=>some (t,st))=some (t,s2')∧Eqv s2 s2':=by
  intro o t s2 hop
  have outk: ∀(avs:List AV),yQ (R:=Touch×St) o avs (aP P o avs s.get (b+16*i)) s (fun t st=>some (t,st))=some (t,s2)→ ∃s2',yQ (R:=Touch×St) o avs (aP P o avs s.get (b+16*i)) s' (fun t st=>some (t,st))=some (t,s2')∧Eqv s2 s2':=by
   intro avs ho
   rw[gJ]at ho⊢
   split at ho
   ·next hok=>
    simp only[Option.some.injEq,Prod.mk.injEq]at ho
    obtain⟨rfl,rfl⟩:=ho
    obtain⟨k1,k2⟩:=af.1 (iJ.1 hok)
    have hq:a8 s'.rs (aP P o avs s.get (b+16*i)).quiet=true:=ji (s:=s) k1 fun j r p ty xs _ _=>h.2.1 j
    rw[if_pos (iJ.2 (af.2 ⟨show(Tst.s (a8 s'.rs _)).val=true from hq,k2⟩))]
    have ht:nr o avs (aP P o avs s.get (b+16*i)) s'=nr o avs (aP P o avs s.get (b+16*i)) s:=by
     unfold nr
     rw[hM (s:=s') (st:=s) fun r _=>(h.2.1 r).symm]
    rw[ht]
    exact⟨_,rfl,put_eqv _ _ (cut_eqv _ (setL_eqv _))⟩
   ·cases ho
  rw[mT]at hop⊢
  unfold px at hop⊢
  split at hop
  ·next c hopc=>
   cases hbk:(gX P c).isSome with
   |true=>
    rw[hbk]at hop
    simp only[cond_true]at hop⊢
    rw[hevs,hget];exact outk _ hop
   |false=>
   rw[hbk]at hop
   simp only[cond_false]at hop⊢
   unfold qW at hop⊢
   split at hop
   ·rw[hevs,hget];exact outk _ hop
   ·cases hop
   ·next x hcx=>
    simp only
    rw[hev x]
    split at hop
    ·next f first cap hevx=>
     cases hm:Nat.beq (cfg.mode f) 0 with
     |false=>
      rw[hm]at hop
      simp only[cond_false,cond_true]at hop⊢
      cases hm6:Nat.beq (cfg.mode f) 6 with
      |true=>rw[hm6]at hop;cases hop
      |false=>
      rw[hm6]at hop
      simp only[cond_false]at hop⊢
      cases hm4:Nat.ble 4 (cfg.mode f)with
      |false=>rw[hm4]at hop;cases hop
      |true=>
       rw[hm4]at hop
       simp only[cond_true]at hop⊢
       rw[hevs]
       rw[mw]at hop⊢
       cases hin:ioD (R:=List AV×List (Nat×ak)×List Nat×List Nat) (cfg.mode f) env f (first++c.args.toList.map (an s)++cap) s (b+16*i) (fun a b c d=>some (a,b,c,d))with
       |none=>rw[hin]at hop;cases hop
       |some p=>
        obtain⟨vs',upd,rd,qu⟩:=p
        rw[hin]at hop
        rw[xO hin (s:=s') (fun r _=>(h.2.1 r).symm) fun j r p ty xs _ _=>h.2.1 j]
        simp only[Option.bind_some,cY,St.force_eq,Option.some.injEq,Prod.mk.injEq]at hop⊢
        obtain⟨rfl,rfl⟩:=hop
        exact⟨_,⟨by rw[hM (s:=s') (st:=s) fun r _=>(h.2.1 r).symm],rfl⟩,put_eqv _ _ (setL_eqv _)⟩
     |true=>
      rw[hm]at hop
      simp only[cond_true]at hop⊢
      split at hop
      ·rw[hevs,hget]
       generalize hrd:fT s.get (eH P f) ((c.args.toList.map (an s)).flatMap AV.cells)=rd at hop⊢
       obtain⟨ok,d,rest⟩:=rd
       simp only[gE]at hop⊢
       split at hop
       ·next hok=>
        have hb: ∀(F:den (resTy P f)→Option (Touch×St)),D.bnd (env.pc f d) F=(env.pc f d).bind F:=fun _=>rfl
        rw[hb]at hop
        rw[if_pos hok,hb]
        cases hpc:env.pc f d with
        |none=>rw[hpc]at hop;cases hop
        |some y=>
         rw[hpc]at hop
         simp only[Option.bind_some]at hop⊢
         generalize hla:eN P true (bE P f) y (b+16*i)=la at hop⊢
         obtain⟨vs,rs⟩:=la
         simp only[St.force_eq,Option.some.injEq,Prod.mk.injEq]at hop⊢
         obtain⟨rfl,rfl⟩:=hop
         exact⟨_,⟨by rw[hM (s:=s') (st:=s) fun r _=>(h.2.1 r).symm],rfl⟩,put_eqv _ _ (setL_eqv _)⟩
       ·cases hop
      ·cases hop
    ·cases hop
  ·next hno=>rw[hevs,hget];exact outk _ hop
 have run: ∀(o:Oper) (t:Touch) (s2:St),opK (R:=Touch×St) P cfg env (b+16*i) true o s (fun t st=>iT ops i o st fun st=>some (t,st))=some (t,s2)→
   ∃s2',opK (R:=Touch×St) P cfg env (b+16*i) true o s' (fun t st=>iT ops i o st fun st=>some (t,st))=some (t,s2')∧Eqv s2 s2':=by
  intro o t s2 hop
  rw[mn hE]at hop
  cases hopp:opK (R:=Touch×St) P cfg env (b+16*i) true o s (fun t st=>some (t,st))with
  |none=>rw[hopp]at hop;cases hop
  |some p=>
   obtain⟨t3,s3⟩:=p
   rw[hopp]at hop
   simp only[Option.bind_some,mL,Option.some.injEq,Prod.mk.injEq]at hop
   obtain⟨rfl,rfl⟩:=hop
   obtain⟨s3',k1,k2⟩:=opk o t3 s3 hopp
   refine⟨jv ops i o s3',?_,split_eqv o k2⟩
   rw[mn hE,k1]
   simp only[Option.bind_some,mL]
 unfold iE jg at hi⊢
 split at hi
 ·cases hi
 ·next o ho=>
  split at hi
  ·next hg=>
   simp only[hg]
   exact run o t s1 hi
  ·next j want hg=>
   simp only[hg]
   split at hi
   ·cases hi
   ·next d hd=>
    simp only[hd,htop]
    generalize s.top.getD d .undef=v at hi
    cases v with
    |kb bb=>
     simp only at hi⊢
     cases hbw:bb==want with
     |true=>rw[hbw]at hi;simp only[cond_true]at hi⊢;exact run o t s1 hi
     |false=>
      rw[hbw]at hi
      simp only[cond_false,St.force_eq,Option.some.injEq,Prod.mk.injEq]at hi⊢
      obtain⟨rfl,rfl⟩:=hi
      exact⟨_,⟨rfl,rfl⟩,put_eqv _ _ h⟩
    |tup l=>
     simp only[St.force_eq,Option.some.injEq,Prod.mk.injEq]at hi⊢
     obtain⟨rfl,rfl⟩:=hi
     exact⟨_,⟨rfl,rfl⟩,put_eqv _ _ h⟩
    |_=>cases hi
end
end
end Go.Am
end
section
/- Soundness of regions whose order is open, fourth part: all orders. -/
namespace Go.Am
noncomputable section
attribute [local instance] D.real
theorem CA(acc:Nat→Nat): ∀(l:List Edge) (s j:Nat),(l.foldl (fun s e=>if Region.binds .any e=true then s|||2^e.on|||acc e.on else s) s).testBit j=true→
  s.testBit j=true∨ ∃e∈l,Region.binds .any e=true∧(e.on=j∨(acc e.on).testBit j=true)
 | [],s,j,h=> .inl h
 |e::l,s,j,h=>by
  rw[List.foldl_cons]at h
  rcases CA acc l _ j h with h|⟨e',h1,h2⟩
  ·split at h
   ·next hb=>
    rw[Nat.testBit_or,Nat.testBit_or,Bool.or_eq_true,Bool.or_eq_true,Nat.testBit_two_pow]at h
    rcases h with(h|h)|h
    ·exact .inl h
    ·exact .inr ⟨e,List.mem_cons_self,hb,.inl (of_decide_eq_true h)⟩
    ·exact .inr ⟨e,List.mem_cons_self,hb,.inr h⟩
   ·exact .inl h
  ·exact .inr ⟨e',List.mem_cons_of_mem _ h1,h2⟩
theorem xM(f:Array Nat→Oper→Nat): ∀(l:List Oper) (acc:Array Nat),acc.size≤(l.foldl (fun acc o=>acc.push (f acc o)) acc).size∧(∀k,k<acc.size→(l.foldl (fun acc o=>acc.push (f acc o)) acc).getD k 0=acc.getD k 0)∧
  ∀i o,l[i]?=some o→ ∃acc',acc'.size=acc.size+i∧(∀k,k<acc'.size→(l.foldl (fun acc o=>acc.push (f acc o)) acc).getD k 0=acc'.getD k 0)∧(l.foldl (fun acc o=>acc.push (f acc o)) acc).getD (acc.size+i) 0=f acc' o
 | [],acc=>⟨Nat.le_refl _,fun _ _=>rfl,fun i o h=>by simp at h⟩
 |x::l,acc=>by
  rw[List.foldl_cons]
  obtain⟨h1,h2,h3⟩:=xM f l (acc.push (f acc x))
  have hs:(acc.push (f acc x)).size=acc.size+1:=by simp
  have hp: ∀k,k<acc.size→(acc.push (f acc x)).getD k 0=acc.getD k 0:=by
   intro k hk
   simp only[Array.getD_eq_getD_getElem?,Array.getElem?_push]
   rw[if_neg (by omega)]
  refine⟨by omega,fun k hk=>by rw[h2 k (by omega),hp k hk],fun i o hi=> ?_⟩
  cases i with
  |zero=>
   simp only[List.getElem?_cons_zero,Option.some.injEq]at hi
   subst hi
   refine⟨acc,rfl,fun k hk=>by rw[h2 k (by omega),hp k hk],?_⟩
   rw[Nat.add_zero,h2 acc.size (by omega)]
   simp
  |succ i=>
   obtain⟨acc',k1,k2,k3⟩:=h3 i o (by simpa using hi)
   exact⟨acc',by omega,k2,by rw[←k3,hs];congr 1;omega⟩
theorem nO{ops:Array Oper}{i j:Nat}{o:Oper}(ho:ops[i]?=some o)(h:((Region.before ops).getD i 0).testBit j=true):
  ∃e∈o.after,Region.binds .any e=true∧(e.on=j∨((Region.before ops).getD e.on 0).testBit j=true):=by
 have e0:Region.before ops=ops.toList.foldl (fun acc o=>acc.push (o.after.toList.foldl (fun s e=>if Region.binds .any e=true then s|||2^e.on|||acc.getD e.on 0 else s) 0)) #[]:=by
  unfold Region.before
  rw[←Array.foldl_toList]
  congr 1
  funext acc o
  rw[←Array.foldl_toList]
 obtain⟨_,_,h3⟩:=xM (fun acc o=>o.after.toList.foldl (fun s e=>if Region.binds .any e=true then s|||2^e.on|||acc.getD e.on 0 else s) 0) ops.toList #[]
 obtain⟨acc',k1,k2,k3⟩:=h3 i o (by simpa using ho)
 rw[←e0]at k2 k3
 simp only[List.size_toArray,List.length_nil,Nat.zero_add]at k1 k3
 rw[k3]at h
 rcases CA (fun k=>acc'.getD k 0) o.after.toList 0 j h with h|⟨e,h1,h2,h3⟩
 ·simp at h
 ·refine⟨e,by simpa using h1,h2,h3.imp id fun h=> ?_⟩
  rcases Nat.lt_or_ge e.on acc'.size with hlt|hge
  ·rw[k2 e.on hlt];exact h
  ·rw[Array.getD_eq_getD_getElem?,Array.getElem?_eq_none hge]at h
   simp at h
section
variable {P : Program} {cfg : Cfg} {env : Env P} {w0 : bu} {w w' : World} {st st' : St}
inductive xY (P : Program) (cfg : Cfg) (env : Env P) (b : Nat) (ops : Array Oper) : List Nat → St → List (Nat × Touch) → St → Prop
  | nil (s : St) : xY P cfg env b ops [] s [] s
  | cons {i : Nat} {l : List Nat} {s s1 s2 : St} {t : Touch} {T : List (Nat × Touch)} (h : iE P cfg env b ops i s = some (t, s1)) (k : xY P cfg env b ops l s1 T s2) : xY P cfg env b ops (i :: l) s ((i, t) :: T) s2
theorem CR(hE:gM P env){b:Nat}{ops:Array Oper}: ∀(l:List Nat) (tr tr':List (Nat×Touch)) (s s':St),eL (R:=List (Nat×Touch)×St) P cfg env (some b) ops l tr s (fun tr st=>some (tr,st))=some (tr',s')→
  ∃T,xY P cfg env b ops l s T s'∧tr'=T.reverse++tr
 | [],tr,tr',s,s',h=>by
  simp only[eL,Option.some.injEq,Prod.mk.injEq]at h
  obtain⟨rfl,rfl⟩:=h
  exact⟨[],.nil _,rfl⟩
 |i::l,tr,tr',s,s',h=>by
  have h:jg P cfg env (some b) ops i s (fun t st=>eL (R:=List (Nat×Touch)×St) P cfg env (some b) ops l ((i,t)::tr) st fun tr st=>some (tr,st))=some (tr',s'):=h
  rw[jS hE]at h
  cases hs:jg (R:=Touch×St) P cfg env (some b) ops i s (fun t st=>some (t,st))with
  |none=>rw[hs]at h;cases h
  |some p=>
   obtain⟨t,s1⟩:=p
   rw[hs]at h
   simp only[Option.bind_some]at h
   obtain⟨T,h1,rfl⟩:=CR hE l _ tr' s1 s' h
   exact⟨(i,t)::T,.cons hs h1,by simp⟩
theorem EI(hE:gM P env){b:Nat}{ops:Array Oper}{l:List Nat}{s s2:St}{T:List (Nat×Touch)}(h:xY P cfg env b ops l s T s2): ∀u,Eqv s u→ ∃u2,xY P cfg env b ops l u T u2∧Eqv s2 u2:=by
 induction h with
 |nil s=>exact fun u hu=>⟨u,.nil _,hu⟩
 |cons h k ih=>
  intro u hu
  obtain⟨u1,h1,h2⟩:=FI hE hu h
  obtain⟨u2,h3,h4⟩:=ih u1 h2
  exact⟨u2,.cons h1 h3,h4⟩
def GQ(ops:Array Oper)(x y:Nat×Touch):Prop:=((Region.before ops).getD y.1 0).testBit x.1=true∨Fz ops x.1 y.1 x.2 y.2
theorem vE(hE:gM P env){b:Nat}{ops:Array Oper}{i:Nat}{l2:List Nat}: ∀(l1:List Nat) (s s2:St) (T:List (Nat×Touch)),xY P cfg env b ops (l1++i::l2) s T s2→T.Pairwise (GQ ops)→(∀j∈l1,¬((Region.before ops).getD i 0).testBit j=true)→
  ∃T1 t T2 s2',T=T1++(i,t)::T2∧xY P cfg env b ops (i::(l1++l2)) s ((i,t)::(T1++T2)) s2'∧Eqv s2 s2'
 | [],s,s2,T,h,_,_=>by
  cases h with
  |cons h k=>exact⟨[],_,_,s2,rfl,.cons h k,Eqv.refl _⟩
 |j::l1,s,s2,T,h,hp,hb=>by
  cases h with
  |cons hj k=>
   rename_i s1 t T'
   rw[List.pairwise_cons]at hp
   obtain⟨T1,ti,T2,s2',rfl,k1,k2⟩:=vE hE l1 s1 s2 _ k hp.2 (fun x hx=>hb x (List.mem_cons_of_mem _ hx))
   cases k1 with
   |cons hi k1=>
    rename_i s3
    have hok:=hp.1 (i,ti) (by simp)
    have hind:Fz ops j i t ti:=by
     rcases hok with h|h
     ·exact absurd h (hb j List.mem_cons_self)
     ·exact h
    obtain⟨a1,a2,m1,m2,m3⟩:=C2 hE hj hi hind
    obtain⟨u2,n1,n2⟩:=EI hE k1 a2 m3
    exact⟨(j,t)::T1,ti,T2,u2,rfl,.cons m1 (.cons m2 n1),k2.trans n2⟩
theorem yI{ops:Array Oper}: ∀(T:List (Nat×Touch)),lD ops (Region.before ops).toList T.reverse=true→T.Pairwise (GQ ops):=by
 intro T
 have: ∀(R:List (Nat×Touch)),lD ops (Region.before ops).toList R=true→R.Pairwise (fun y x=>GQ ops x y):=by
  intro R
  induction R with
  |nil=>intro _;exact .nil
  |cons y R ih=>
   obtain⟨j,t⟩:=y
   intro h
   unfold lD at h
   rw[Bool.and_eq_true]at h
   rw[List.pairwise_cons]
   refine⟨fun x hx=> ?_,ih h.2⟩
   have h1:=List.all_eq_true.1 h.1 x hx
   rw[Bool.or_eq_true]at h1
   rcases h1 with h1|h1
   ·refine .inl ?_
    have e:(Region.before ops).toList.getD j 0=(Region.before ops).getD j 0:=by simp[List.getD_eq_getElem?_getD,Array.getD_eq_getD_getElem?]
    rw[e]at h1;exact h1
   ·rw[Bool.and_eq_true]at h1
    refine .inr ⟨h1.1,?_⟩
    have h2:=h1.2
    cases ha:ops[x.1]? with
    |none=>rw[ha]at h2;cases h2
    |some o=>
     cases hb:ops[j]? with
     |none=>rw[ha,hb]at h2;cases h2
     |some o'=>rw[ha,hb]at h2;exact⟨o,o',rfl,rfl,h2⟩
 intro h
 exact List.pairwise_reverse.1 (this _ h)
theorem jr{ops:Array Oper}(h:lN ops=true){i:Nat}{o:Oper}(ho:ops[i]?=some o): ∀e∈o.after,Region.binds .any e=true→e.on<i:=by
 intro e he hb
 have hi:i<ops.size:=(Array.getElem?_eq_some_iff.1 ho).1
 have h1:=List.all_eq_true.1 h i (List.mem_range.2 hi)
 rw[ho]at h1
 have h2:=List.all_eq_true.1 h1 e (by simpa using he)
 rw[hb]at h2
 exact cE h2
theorem pB(bf:List Nat): ∀n i,gD bf n≤i→i<n→isFull bf i=true
 |0,i,_,h=>by omega
 |n+1,i,h1,h2=>by
  unfold gD at h1
  cases hf:isFull bf n with
  |false=>rw[hf]at h1;simp only[cond_false]at h1;omega
  |true=>
   rw[hf]at h1
   simp only[cond_true]at h1
   by_cases e:i=n
   ·rw[e];exact hf
   ·exact pB bf n i h1 (by omega)
theorem sQ(bf:List Nat): ∀n,gD bf n≤n
 |0=>Nat.le_refl _
 |n+1=>by
  unfold gD
  cases isFull bf n with
  |false=>exact Nat.le_refl _
  |true=>have:=sQ bf n;simp only[cond_true];omega
theorem y4{ops:Array Oper}{i:Nat}(h:isFull (Region.before ops).toList i=true): ∀j,j<i→((Region.before ops).getD i 0).testBit j=true:=by
 intro j hj
 have:=List.all_eq_true.1 h j (List.mem_range.2 hj)
 have e:(Region.before ops).toList.getD i 0=(Region.before ops).getD i 0:=by simp[List.getD_eq_getElem?_getD,Array.getD_eq_getD_getElem?]
 rw[e]at this;exact this
theorem Dq{ops:Array Oper}(hed:lN ops=true): ∀(i j:Nat),i<ops.size→((Region.before ops).getD i 0).testBit j=true→j<i:=by
 intro i
 induction i using Nat.strongRecOn with
 |ind i ih=>
  intro j hi h
  obtain⟨e,he,hb,hc⟩:=nO (show ops[i]?=some ops[i] by simp[hi]) h
  have hlt:=jr hed (show ops[i]?=some ops[i] by simp[hi]) e he hb
  rcases hc with rfl|hc
  ·exact hlt
  ·have:=ih e.on hlt j (by omega) hc
   omega
theorem yJ(hE:gV P env)(hN:qP P){ro:Option Nat}{n:Nat}{ops:Array Oper}{Q:Exit→Act→World→Prop}{asx:List Act}{R0:Type}{r0:R0}{Kc:List (Nat×Touch)→St→Option R0}(hed:lN ops=true)
  (hK: ∀tr' st' a' w' g' born',Kc tr' st'=some r0→cg w0 st' g' born' (a'::asx) w'→(∀r,born' r→r<st'.rs.length)→Q .normal a' w'):
  ∀(k i:Nat) (listed:Array Bool) (tr:List (Nat×Touch)) (s:St) (g:aB) (born:Nat→Prop) (a:Act) (w:World),i+k=ops.size→listed.size=ops.size→(∀j,j<ops.size→(listed.getD j false=true↔j<i))→
   (∀j,i≤j→j<ops.size→ ∀q,q<j→((Region.before ops).getD j 0).testBit q=true)→eL P cfg env none ops (List.range' i k) tr s Kc=some r0→cg w0 s g born (a::asx) w→(∀r,born r→r<s.rs.length)→
   wpAnyIn (rd ro) n P .any ops Q k listed a w:=by
 intro k
 induction k with
 |zero=>
  intro i listed tr s g born a w hi hsz hl _ h R hlt
  refine⟨?_,hK tr s a w g born h R hlt⟩
  cases hr:Region.ready .any ops listed with
  |nil=>rfl
  |cons x xs=>
   obtain⟨h1,o,ho,_⟩:=mem_ready.1 (show x∈Region.ready .any ops listed by rw[hr];exact List.mem_cons_self)
   have hx:x<ops.size:=(Array.getElem?_eq_some_iff.1 ho).1
   have:=(hl x hx).2 (by omega)
   rw[Array.getD_eq_getD_getElem?]at h1 this
   have hx':x<listed.size:=by omega
   rw[Array.getElem?_eq_getElem hx']at h1 this
   simp only[Option.getD_some]at h1 this
   rw[this]at h1;cases h1
 |succ k ih=>
  intro i listed tr s g born a w hi hsz hl hfull h R hlt
  have hgd: ∀j,j<ops.size→listed.getD j true=listed.getD j false:=by
   intro j hj
   rw[Array.getD_eq_getD_getElem?,Array.getD_eq_getD_getElem?]
   have:j<listed.size:=by omega
   rw[Array.getElem?_eq_getElem this];rfl
  have hii:i<ops.size:=by omega
  refine⟨fun hr=> ?_,fun j hj=> ?_⟩
  ·exfalso
   have:i∈Region.ready .any ops listed:=by
    refine mem_ready.2 ⟨?_,ops[i],by simp[hii],fun e he hb=> ?_⟩
    ·rw[hgd i hii]
     cases hc:listed.getD i false with
     |false=>rfl
     |true=>have:=(hl i hii).1 hc;omega
    ·have:=jr hed (show ops[i]?=some ops[i] by simp[hii]) e he hb
     exact(hl e.on (by omega)).2 this
   rw[hr]at this;cases this
  ·obtain⟨h1,o,ho,h2⟩:=mem_ready.1 hj
   have hjo:j<ops.size:=(Array.getElem?_eq_some_iff.1 ho).1
   rw[hgd j hjo]at h1
   have hji:i≤j:=by
    refine Nat.le_of_not_lt fun hlt=> ?_
    have:=(hl j hjo).2 hlt
    rw[this]at h1;cases h1
   have hje:j=i:=by
    refine Nat.le_antisymm (Nat.le_of_not_lt fun hlt=> ?_) hji
    have hb:=hfull j hji hjo i hlt
    obtain⟨e,he,hbi,hc⟩:=nO ho hb
    have hle:=h2 e he hbi
    have helt:=jr hed ho e he hbi
    have hei:=(hl e.on (by omega)).1 hle
    rcases hc with hc|hc
    ·omega
    ·have:=Dq hed e.on i (by omega) hc
     omega
   subst hje
   rw[List.range'_succ]at h
   have h:jg P cfg env none ops j s (fun t st=>eL P cfg env none ops (List.range' (j+1) k) ((j,fG)::tr) st Kc)=some r0:=h
   rw[jS hE.det]at h
   cases hs:jg (R:=Touch×St) P cfg env none ops j s (fun t st=>some (t,st))with
   |none=>rw[hs]at h;cases h
   |some p=>
    obtain⟨t,st2⟩:=p
    rw[hs]at h
    simp only[Option.bind_some]at h
    refine lR hE hN hs R (fun x _ hx1 hb=>by have:=hlt x hb;have hx1:s.rs.length≤x:=hx1;omega) hlt fun a' w' g' b' R' hlt' _ _=> ?_
    refine ih (j+1) (listed.setIfInBounds j true) _ st2 g' b' a' w' (by omega) (by simpa using hsz) (fun q hq=> ?_) (fun q h1 h2=>hfull q (by omega) h2) h R' hlt'
    rw[Array.getD_eq_getD_getElem?,Array.getElem?_setIfInBounds]
    by_cases e:j=q
    ·subst e
     have:j<listed.size:=by omega
     simp[this]
    ·rw[if_neg e,←Array.getD_eq_getD_getElem?,hl q hq]
     omega
theorem Dj(hE:gV P env)(hN:qP P){ro:Option Nat}{n:Nat}{b:Nat}{ops:Array Oper}{Q:Exit→Act→World→Prop}{asx:List Act}{sE:St}{m:Nat}(hed:lN ops=true)(hmle:m≤ops.size)(hfull: ∀j,m≤j→j<ops.size→ ∀q,q<j→((Region.before ops).getD j 0).testBit q=true)
  (hQ: ∀listed s a' w' g' born',Eqv sE s→cg w0 s g' born' (a'::asx) w'→(∀r,born' r→r<s.rs.length)→listed.size=ops.size→(∀j,j<ops.size→(listed.getD j false=true↔j<m))→wpAnyIn (rd ro) n P .any ops Q (ops.size-m) listed a' w'):
  ∀(fuel:Nat) (listed:Array Bool) (l:List Nat) (T:List (Nat×Touch)) (s s2:St) (g:aB) (born:Nat→Prop) (a:Act) (w:World),xY P cfg env b ops l s T s2→Eqv sE s2→T.Pairwise (GQ ops)→
   (∀x∈T,∀r∈x.2.writes,r<b∨(b+16*x.1≤r∧r<b+16*x.1+16)∨(r<b+16*x.1∧ ∃j,((Region.before ops).getD x.1 0).testBit j=true∧b+16*j≤r∧r<b+16*j+16))→listed.size=ops.size→(∀i,i∈l↔i<m∧listed.getD i false=false)→(∀i,m≤i→listed.getD i false=false)→l.Pairwise (· < ·)→l.length=fuel→
   (∀i j,i<ops.size→listed.getD i false=true→((Region.before ops).getD i 0).testBit j=true→listed.getD j false=true)→
   cg w0 s g born (a::asx) w→(∀r,born r→r<s.rs.length)→(∀r,born r→r<b∨ ∃j,listed.getD j false=true∧b+16*j≤r∧r<b+16*j+16)→
   wpAnyIn (rd ro) n P .any ops Q (fuel+(ops.size-m)) listed a w:=by
 intro fuel
 induction fuel with
 |zero=>
  intro listed l T s s2 g born a w h he _ _ hsz hl hsuf _ hlen _ R hlt _
  have hl0:l= []:=List.length_eq_zero_iff.1 hlen
  subst hl0
  rw[Nat.zero_add]
  cases h
  refine hQ listed s a w g born he R hlt hsz fun j hj=>⟨fun hj1=> ?_,fun hj1=> ?_⟩
  ·refine Nat.lt_of_not_le fun hle=> ?_
   rw[hsuf j hle]at hj1;cases hj1
  ·cases hc:listed.getD j false with
   |true=>rfl
   |false=>have:=(hl j).2 ⟨hj1,hc⟩;cases this
 |succ fuel ih=>
  intro listed l T s s2 g born a w h he hp hpl hsz hl hsuf hinc hlen hclo R hlt hwin
  rw[show fuel+1+(ops.size-m)=fuel+(ops.size-m)+1 by omega]
  have hgd: ∀i,i<ops.size→listed.getD i true=listed.getD i false:=by
   intro i hi
   rw[Array.getD_eq_getD_getElem?,Array.getD_eq_getD_getElem?]
   have:i<listed.size:=by omega
   rw[Array.getElem?_eq_getElem this];rfl
  refine⟨fun hr=> ?_,fun i hi=> ?_⟩
  ·
   exfalso
   cases l with
   |nil=>cases hlen
   |cons x xs=>
    obtain⟨hxm,hx2⟩:=(hl x).1 List.mem_cons_self
    have hx1:x<ops.size:=by omega
    have:x∈Region.ready .any ops listed:=by
     refine mem_ready.2 ⟨by rw[hgd x hx1];exact hx2,ops[x],by simp[hx1],fun e he hb=> ?_⟩
     have hlt:=jr hed (show ops[x]?=some ops[x] by simp[hx1]) e he hb
     cases hle:listed.getD e.on false with
     |true=>rfl
     |false=>
      have hm:=(hl e.on).2 ⟨by omega,hle⟩
      rcases List.mem_cons.1 hm with h'|h'
      ·omega
      ·have:=(List.pairwise_cons.1 hinc).1 _ h'
       omega
    rw[hr]at this;cases this
  ·obtain⟨hi1,o,ho,hi2⟩:=mem_ready.1 hi
   have hio:i<ops.size:=(Array.getElem?_eq_some_iff.1 ho).1
   rw[hgd i hio]at hi1
   have hnb: ∀j,((Region.before ops).getD i 0).testBit j=true→listed.getD j false=true:=by
    intro j hj
    obtain⟨e,he,hb,hc⟩:=nO ho hj
    have hle:=hi2 e he hb
    rcases hc with rfl|hc
    ·exact hle
    ·exact hclo e.on j (by have:=jr hed ho e he hb;omega) hle hc
   have him:i<m:=by
    refine Nat.lt_of_not_le fun hle=> ?_
    cases l with
    |nil=>cases hlen
    |cons x xs=>
     obtain⟨hx1,hx2⟩:=(hl x).1 List.mem_cons_self
     have:=hnb x (hfull i hle hio x (by omega))
     rw[this]at hx2;cases hx2
   have hil:i∈l:=(hl i).2 ⟨him,hi1⟩
   obtain⟨l1,l2,rfl⟩:=List.append_of_mem hil
   obtain⟨T1,t,T2,s2',rfl,k1,k2⟩:=vE hE.det l1 s s2 T h hp (fun j hj hb=>by
    have:=hnb j hb
    have h2:=((hl j).1 (List.mem_append.2 (.inl hj))).2
    rw[this]at h2;cases h2)
   cases k1 with
   |cons hs k1=>
    rename_i s1
    have hw:=hpl (i,t) (by simp)
    have hfr: ∀r∈t.writes,b+16*i≤r→ ¬born r:=by
     intro r hr h1 h2
     have h3:=hw r hr
     rcases hwin r h2 with h4|⟨j,h4,h5,h6⟩
     ·omega
     ·have:j=i:=by omega
      subst this
      rw[h4]at hi1;cases hi1
    refine lR hE hN hs R hfr hlt fun a' w' g' b' R' hlt' hb' _=> ?_
    have hset: ∀j,(listed.setIfInBounds i true).getD j false=if j=i then true else listed.getD j false:=by
     intro j
     rw[Array.getD_eq_getD_getElem?,Array.getElem?_setIfInBounds]
     by_cases e:i=j
     ·subst e
      have:i<listed.size:=by omega
      simp[this]
     ·rw[if_neg e,if_neg (Ne.symm e)]
      rw[Array.getD_eq_getD_getElem?]
    have hin:i∉l1++l2:=by
     intro hm
     rw[List.pairwise_append]at hinc
     rcases List.mem_append.1 hm with h1|h1
     ·have:=hinc.2.2 i h1 i List.mem_cons_self;omega
     ·have:=(List.pairwise_cons.1 hinc.2.1).1 i h1;omega
    refine ih (listed.setIfInBounds i true) (l1++l2) (T1++T2) s1 s2' g' b' a' w' k1 (he.trans k2) ?_ (fun x hx=>hpl x ?_) (by simpa using hsz) (fun j=> ?_) (fun j hj=>by rw[hset,if_neg (by omega)];exact hsuf j hj) ?_ ?_ (fun j k hj h1 h2=> ?_) R' hlt' (fun r hr=> ?_)
    ·rw[List.pairwise_append]at hp⊢
     exact⟨hp.1,(List.pairwise_cons.1 hp.2.1).2,fun x hx y hy=>hp.2.2 x hx y (List.mem_cons_of_mem _ hy)⟩
    ·rcases List.mem_append.1 hx with hx|hx
     ·exact List.mem_append.2 (.inl hx)
     ·exact List.mem_append.2 (.inr (List.mem_cons_of_mem _ hx))
    ·rw[hset]
     have hj:=hl j
     rw[List.mem_append,List.mem_cons]at hj
     by_cases e:j=i
     ·subst e
      rw[if_pos rfl]
      exact⟨fun h=>absurd h hin,fun h=>by cases h.2⟩
     ·rw[if_neg e,←hj,List.mem_append]
      exact⟨fun h=>h.imp id .inr,fun h=>h.imp id fun h=>h.resolve_left e⟩
    ·rw[List.pairwise_append]at hinc⊢
     exact⟨hinc.1,(List.pairwise_cons.1 hinc.2.1).2,fun x hx y hy=>hinc.2.2 x hx y (List.mem_cons_of_mem _ hy)⟩
    ·simp only[List.length_append,List.length_cons]at hlen⊢;omega
    ·rw[hset]at h1⊢
     by_cases e:j=i
     ·subst e
      split
      ·rfl
      ·exact hnb k h2
     ·rw[if_neg e]at h1
      have:=hclo j k hj h1 h2
      split
      ·rfl
      ·exact this
    ·rcases hb' rfl r hr with h|h
     ·rcases hwin r h with h1|⟨j,h1,h2⟩
      ·exact .inl h1
      ·refine .inr ⟨j,?_,h2⟩
       rw[hset];split
       ·rfl
       ·exact h1
     ·rcases hw r h with h1|h1|⟨_,j,h1,h2⟩
      ·exact .inl h1
      ·exact .inr ⟨i,by rw[hset,if_pos rfl],h1⟩
      ·refine .inr ⟨j,?_,h2⟩
       rw[hset];split
       ·rfl
       ·exact hnb j h1
theorem Ar(hE:gV P env)(hN:qP P)(hm:P.follows .mixedOrders=true){ro:Option Nat}{n:Nat}{id:Nat}{ops:Array Oper}{Q:Exit→Act→World→Prop}{asx:List Act}{g:aB}{born:Nat→Prop}{a:Act}{tr:List (Nat×Touch)}{sE:St}{R0:Type}{r0:R0}{Kc:List (Nat×Touch)→St→Option R0}
  (h:eL (R:=List (Nat×Touch)×St) P cfg env (some st.rs.length) ops (List.range (gD (Region.before ops).toList ops.size)) [] st (fun tr st=>some (tr,st))=some (tr,sE)) (ht:(lD ops (Region.before ops).toList tr&&(tY st.rs.length (Region.before ops).toList tr&&lN ops))=true)
  (h2:eL P cfg env none ops (List.range' (gD (Region.before ops).toList ops.size) (ops.size-gD (Region.before ops).toList ops.size)) [] sE Kc=some r0)
  (R:cg w0 st g born (a::asx) w) (hlt: ∀r,born r→r<st.rs.length)
  (hK: ∀tr' st' a' w' g' born',Kc tr' st'=some r0→cg w0 st' g' born' (a'::asx) w'→(∀r,born' r→r<st'.rs.length)→Q .normal a' w'):(Code.region id ops true).wpIn (rd ro) n P Q a w:=by
 simp only[Bool.and_eq_true]at ht
 obtain⟨h1,hp,h3⟩:=ht
 have hle:=sQ (Region.before ops).toList ops.size
 have hfull: ∀j,gD (Region.before ops).toList ops.size≤j→j<ops.size→ ∀q,q<j→((Region.before ops).getD j 0).testBit q=true:=fun j k1 k2=>y4 (pB _ _ j k1 k2)
 generalize gD (Region.before ops).toList ops.size=m at*
 obtain⟨T,k1,k2⟩:=CR hE.det _ _ _ _ _ h
 rw[List.append_nil]at k2
 subst k2
 have hR:cg w0 st g born (a::asx) {w with drawn:=w.drawn+1}:=A0 R ⟨rfl,rfl,rfl,Nat.le_refl _,fun _ _=>rfl⟩
 have hgo:=Dj hE hN (ro:=ro) (n:=n) (Q:=Q) (asx:=asx) (sE:=sE) (m:=m) h3 hle hfull (fun listed s a' w' g' b' he R' hlt' hsz hl=>yJ hE hN h3 hK (ops.size-m) m listed [] sE g' b' a' w' (by omega) hsz hl hfull h2 (B8 R' he.1 he.2.1) (fun r hr=>by rw[he.2.2];exact hlt' r hr))
  m (Array.replicate ops.size false) (List.range m) T st sE g born a _ k1 (Eqv.refl _) (yI T h1) (fun x hx r hr=> ?_) (by simp) (fun i=> ?_) (fun i hi=> ?_) List.pairwise_lt_range (by simp) (fun i j hi h=> ?_) hR hlt (fun r hr=> .inl (hlt r hr))
 ·rw[show m+(ops.size-m)=ops.size by omega]at hgo
  exact wpIn_region_any hm hgo
 ·have:=List.all_eq_true.1 hp x (List.mem_reverse.2 hx)
  have:=List.all_eq_true.1 this r hr
  rw[Bool.or_eq_true,Bool.or_eq_true,Bool.and_eq_true,Bool.and_eq_true]at this
  rcases this with h|⟨h,h'⟩|⟨h,h'⟩
  ·exact .inl (cE h)
  ·exact .inr (.inl ⟨jM h,cE h'⟩)
  ·rcases Nat.lt_or_ge r st.rs.length with hr|hr
   ·exact .inl hr
   ·refine .inr (.inr ⟨cE h,(r-st.rs.length)/16,?_,by omega,by omega⟩)
    rw[←h',List.getD_eq_getElem?_getD,Array.getElem?_toList,Array.getD_eq_getD_getElem?]
 ·simp only[List.mem_range]
  refine⟨fun h=>⟨h,?_⟩,fun h=>h.1⟩
  have:i<ops.size:=by omega
  simp[Array.getD_eq_getD_getElem?,this]
 ·by_cases h:i<ops.size
  ·simp[Array.getD_eq_getD_getElem?,h]
  ·simp[Array.getD_eq_getD_getElem?,h]
 ·rw[Array.getD_eq_getD_getElem?]at h
  simp[hi]at h
end
end
end Go.Am
end
