/- Calls and regions with open order are sound, whatever the program. -/
import Derived.Test.YtloognjnfelgfaaGreatDoorAmI
import Derived.OrdersIn
set_option linter.unusedSimpArgs false
set_option linter.unusedVariables false
set_option linter.unnecessarySimpa false
set_option linter.unusedSectionVars false
section
/- Soundness: calls; one operation. -/
namespace Go.Am
noncomputable section
attribute [local instance] D.real
def sA(P:Program):Prop:= ∀(f:Nat) (fn:Func),P.funcs[f]?=some fn→fn.body.isSome=true→(fn.name== "runtime.NumGoroutine")=false
section
variable {P : Program} {cfg : Cfg} {env : Env P} {w0 : bV} {w w' : World} {st st' : St} {g g' : aG} {born : Nat → Prop} {a : Act} {asx acts : List Act} {o : Oper} {base : Nat}
theorem nH{c:Call}{x:Operand}{f:Nat}{first cap:Array Value}{fn:Func}(ho:o.op= .call c)(hc:c.callee= .value x)(hx:a.eval x= .func (.func f) first cap)(hfn:P.funcs[f]?=some fn)(hb:fn.body.isSome=true)
  (hN:(fn.name== "runtime.NumGoroutine")=false):(execOp a.eval o).run P w= .ok (.enter f (first++c.args.map a.eval++cap)) w:=by
 have hne:fn.name≠ "runtime.NumGoroutine" :=by simpa using hN
 have hbn:fn.body.isNone=false:=by
  cases h:fn.body with
  |none=>rw[h]at hb;cases hb
  |some c=>rfl
 unfold execOp;rw[ho]
 simp only[resolve,hc,hx,Deferred.ofValue,invoke,callFunc,Sem.run_bind,run_program,Result.andThen_ok,Sem.run_pure,hfn,hN,hbn,Bool.false_eq_true,if_false]
theorem nZ(st:St)(c:Option (Nat×Nat)):(st.cut c).rs.length=st.rs.length:=by
 cases c with
 |none=>rfl
 |some c=>show(st.rs.map _).length=_;simp
theorem gq(st:St)(d:Option Tmp)(v:AV):(st.put d v).rs=st.rs:=by
 unfold St.put
 split
 ·rfl
 ·split<;>rfl
theorem sr{get:Get}: ∀{vs:List AV} {us:List Value},aj get g vs us→ae get g (qh vs) (nI us)∧ ∀r∈(qh vs).roots,r∈AV.ah vs
 | [],us,h=>by
  rw[aj]at h;subst h
  refine⟨?_,fun r hr=>by simp[qh,AV.roots,AV.ah]at hr⟩
  show ae get g (.tup []) (.tuple #[])
  rw[ae];exact⟨#[],rfl,by rw[aj]⟩
 | [v],us,h=>by
  rw[aj]at h
  obtain⟨u,us',rfl,h1,h2⟩:=h
  rw[aj]at h2;subst h2
  exact⟨h1,fun r hr=>by have hr:r∈v.roots:=hr;simpa[AV.ah]using hr⟩
 |v::v2::vs,us,h=>by
  have h':=h
  rw[aj]at h
  obtain⟨u,us',rfl,h1,h2⟩:=h
  rw[aj]at h2
  obtain⟨u2,us2,rfl,_,_⟩:=h2
  refine⟨?_,fun r hr=>by simpa[qh,AV.roots]using hr⟩
  show ae get g (.tup (v::v2::vs)) (.tuple (u::u2::us2).toArray)
  rw[ae];exact⟨_,rfl,by simpa using h'⟩
theorem Bn: ∀(ts:List TypeId) (vs ws:List AV) (us:List Value) (st:St) (g:aG) (born:Nat→Prop) (base:Nat) (rs:List ao),Rel w0 st g born acts w→aj st.get g vs us→(∀r∈AV.ah vs,born r)→rR P ts vs base=(ws,rs)→
  (∀i,base≤i→i<base+rs.length→ ¬born i)→
  ∃g' born',Rel w0 (st.aR (al base rs)) g' born' acts w∧Laid st (st.aR (al base rs)) g g' born born' base (base+rs.length)∧aj (st.aR (al base rs)).get g' ws us∧ ∀r∈AV.ah ws,born' r:=by
 intro ts
 have triv: ∀(vs ws:List AV) (us:List Value) (st:St) (g:aG) (born:Nat→Prop) (base:Nat) (rs:List ao),Rel w0 st g born acts w→aj st.get g vs us→(∀r∈AV.ah vs,born r)→(vs,([]:List ao))=(ws,rs)→
   ∃g' born',Rel w0 (st.aR (al base rs)) g' born' acts w∧Laid st (st.aR (al base rs)) g g' born born' base (base+rs.length)∧aj (st.aR (al base rs)).get g' ws us∧ ∀r∈AV.ah ws,born' r:=by
  intro vs ws us st g born base rs R hA hb h
  simp only[Prod.mk.injEq]at h
  obtain⟨rfl,rfl⟩:=h
  exact⟨g,born,R,Laid.refl _ _ _ _,hA,hb⟩
 induction ts with
 |nil=>intro vs ws us st g born base rs R hA hb h _;exact triv vs ws us st g born base rs R hA hb h
 |cons t ts ih=>
  intro vs ws us st g born base rs R hA hb h hfr
  cases vs with
  |nil=>exact triv [] ws us st g born base rs R hA hb h
  |cons v vs=>
   unfold rR at h
   generalize hf:nQ P t v base=ff at h
   obtain⟨v',rs1⟩:=ff
   simp only at h
   generalize hf2:rR P ts vs (base+rs1.length)=f2 at h
   obtain⟨vs',rs2⟩:=f2
   simp only[Prod.mk.injEq]at h
   obtain⟨rfl,rfl⟩:=h
   rw[aj]at hA
   obtain⟨u,us',rfl,hv,hA⟩:=hA
   obtain⟨g1,b1,R1,L1,A1,B1⟩:=oO R hv (fun r hr=>hb r (by simp only[AV.ah,List.mem_append];exact .inl hr)) hf (fun i h1 h2=>hfr i h1 (by simp;omega))
   obtain⟨g2,b2,R2,L2,A2,B2⟩:=ih vs vs' us' _ g1 b1 (base+rs1.length) rs2 R1 (cV _ _ (fun r hr=>L1.holds (hb r (by simp only[AV.ah,List.mem_append];exact .inr hr))) hA)
    (fun r hr=>(L1.born_iff r).2 (.inl (hb r (by simp only[AV.ah,List.mem_append];exact .inr hr)))) hf2
    (fun i h1 h2 hbi=>((L1.born_iff i).1 hbi).elim (hfr i (by omega) (by simp;omega)) fun h=>by omega)
   have hset:st.aR (al base (rs1++rs2))=(st.aR (al base rs1)).aR (al (base+rs1.length) rs2):=by
    rw[iU,jg]
   rw[hset]
   refine⟨g2,b2,R2,?_,?_,fun r hr=> ?_⟩
   ·have:=Laid.trans (by omega) (by omega) L1 L2
    rw[List.length_append,←Nat.add_assoc];exact this
   ·rw[aj]
    exact⟨u,us',rfl,iq _ _ (fun r hr=>L2.holds (B1 r hr)) A1,A2⟩
   ·simp only[AV.ah,List.mem_append]at hr
    rcases hr with hr|hr
    ·exact(L2.born_iff r).2 (.inl (B1 r hr))
    ·exact B2 r hr
theorem A5(f:Nat)(vs ws:List AV)(us:List Value)(st:St)(g:aG)(born:Nat→Prop)(base:Nat)(rs:List ao)(R:Rel w0 st g born acts w)(hA:aj st.get g vs us)(hb: ∀r∈AV.ah vs,born r)
  (h:sy P cfg f vs base=(ws,rs)) (hfr: ∀i,base≤i→i<base+rs.length→ ¬born i):
  ∃g' born',Rel w0 (st.aR (al base rs)) g' born' acts w∧Laid st (st.aR (al base rs)) g g' born born' base (base+rs.length)∧aj (st.aR (al base rs)).get g' ws us∧ ∀r∈AV.ah ws,born' r:=by
 unfold sy at h
 cases hm:(Nat.beq (cfg.mode f) 2||Nat.beq (cfg.mode f) 5)with
 |true=>
  rw[hm]at h
  simp only[cond_true,Prod.mk.injEq]at h
  obtain⟨rfl,rfl⟩:=h
  exact⟨g,born,R,Laid.refl _ _ _ _,hA,hb⟩
 |false=>
  rw[hm]at h
  exact Bn _ vs ws us st g born base rs R hA hb h hfr
theorem get_append(fr:List (List AV)): ∀(l rs:List ao) (r:Nat),(St.mk fr (rs++l)).get r=((St.mk fr rs).aR (al rs.length l)).get r
 | [],rs,r=>by simp[al];rfl
 |x::l,rs,r=>by
  rw[al,j7]
  have:=get_append fr l (rs++ [x]) r
  rw[List.append_assoc]at this
  rw[show x::l= [x]++l from rfl,this]
  have e:(St.mk fr rs).fb rs.length x=St.mk fr (rs++ [x]):=by
   show St.mk fr (setAt rs rs.length x)=_
   unfold setAt
   have:Nat.blt rs.length rs.length=false:=by
    cases h:Nat.blt rs.length rs.length with
    |false=>rfl
    |true=>have:=dw h;omega
   rw[this];simp
  rw[e];simp
theorem tv(R:Rel w0 st g born acts w)(hb:RowKit.Below w.heap.size w w'):Rel w0 st g born acts w':=by
 refine kG (fun _=>False) R (cu.AB hb R.below.size) rfl (fun r _=>⟨fun t ht=>⟨ht,fun _ _=>rfl⟩,fun hv=>⟨hv,rfl⟩⟩) (fun r _=>⟨rfl,rfl,fun b hbo=>hb.block b (fy R hbo)⟩)
  (fun _ _ _ _ _ _ _ h=>h) (fun r h=>h.elim) (fun r _ _ h=>h.elim) (fun r _ h=>h.elim) (fun _ h=>h) (fun r h=>h.elim) (fun r h=>h.elim)
theorem C9{Q:Exit→Act→World→Prop}{ops:Array Oper}{x y:Oper}(h0:ops[0]?=some x)(h1:ops[1]?=some y)(h2:ops.size=2)(gx:x.guard=none)(gy:y.guard=none)(a:Act)(w:World){id:Nat}
  (h:x.wp P a w (fun a w=>y.wp P a w (Q .normal) Q) Q):(Code.region id ops false).wp P Q a w:=by
 refine wp_region ?_
 rw[h2,show List.range 2= [0,1]from rfl,wpOps_cons]
 unfold wpOp
 rw[h0]
 have wnt: ∀{o:Oper} {a:Act},o.guard=none→Region.wanted o (yielded ops a.tmps)=true:=fun h=>by unfold Region.wanted;rw[h]
 simp only[wnt gx,if_true]
 refine .inl (Oper.wp_mono (fun a w h=> ?_) h)
 rw[wpOps_cons]
 unfold wpOp
 rw[h1]
 simp only[wnt gy,if_true]
 exact .inl h
theorem BR{f f1:Nat}{t:TypeId}{u v:Value}(hb:yS P f=some (f1,t))(hbox: ∀(o:Oper) (a:Act) (x:Operand),o.op= .box t x→a.eval x=u→(execOp a.eval o).run P w= .ok (.value v) w'):
  (∃fn,P.funcs[f]?=some fn∧fn.body.isSome=true)∧Calls P f #[u] w fun e w2=>e= .returned (.func (.func f1) #[] #[v])∧w2=w':=by
 unfold yS at hb
 split at hb
 ·cases hb
 next fn hfn=>
 split at hb
 rotate_left
 ·cases hb
 next i1 oa i2 ob hbd=>
 split at hb
 rotate_left
 ·cases hb
 next p t' q m f1' p' q' m' r h1 h2 h3 h4 hr=>
 generalize hc:(Nat.beq oa.size 2&&(Nat.beq ob.size 2&&(Nat.beq p p'&&(Nat.beq m m'&&(Nat.beq q' r&&(!(Nat.beq q p)&&(Nat.blt p fn.ntmps&&(Nat.blt m fn.ntmps&&Nat.blt r fn.ntmps))))))))=b at hb
 cases b with
 |false=>cases hb
 |true=>
 simp only[cond_true,Option.some.injEq,Prod.mk.injEq]at hb
 obtain⟨rfl,rfl⟩:=hb
 simp only[Bool.and_eq_true,Bool.not_eq_true']at hc
 obtain⟨c1,c2,c3,c4,c5,c6,c7,c8,c9⟩:=hc
 have c1:=dM c1
 have c2:=dM c2
 have c3:=dM c3
 have c4:=dM c4
 have c5:=dM c5
 have c7:=dw c7
 have c8:=dw c8
 have c9:=dw c9
 have c6:q≠p:=fun e=>by subst e;simp at c6
 subst c3;subst c4;subst c5
 obtain⟨o0,g0,h1⟩:=Option.bind_eq_some_iff.1 h1
 obtain⟨o1,g1,h2⟩:=Option.bind_eq_some_iff.1 h2
 obtain⟨o2,g2,h3⟩:=Option.bind_eq_some_iff.1 h3
 obtain⟨o3,g3,h4⟩:=Option.bind_eq_some_iff.1 h4
 have m0:o0.op= .box t' (.tmp 0)∧o0.dst=some p∧o0.guard=none:=by
  unfold H0 at h1
  split at h1
  ·next e1 e2 e3=>injection h1 with h1;injection h1 with q1 q2;subst q1;subst q2;exact⟨e1,e2,e3⟩
  ·cases h1
 have m1: ∃cv,o1.op= .assign (.const cv)∧o1.dst=some q∧o1.guard=none:=by
  unfold IY at h2
  split at h2
  ·next e1 e2 e3=>injection h2 with h2;subst h2;exact⟨_,e1,e2,e3⟩
  ·cases h2
 have m2:o2.op= .makeFunc (.func f1') #[] #[.tmp p]∧o2.dst=some m∧o2.guard=none:=by
  unfold IL at h3
  split at h3
  ·next f2 a b mm e1 e2 e3=>
   split at h3
   ·next pp ea eb=>
    injection h3 with h3;injection h3 with q1 q2;injection q2 with q2 q3;subst q1;subst q2;subst q3
    have ea:a= #[]:=by simpa using ea
    have eb:b= #[.tmp pp]:=by rw[←Array.toList_inj];exact eb
    subst ea;subst eb
    exact⟨e1,e2,e3⟩
   ·cases h3
  ·cases h3
 have m3:o3.op= .assign (.tmp m)∧o3.dst=some q'∧o3.guard=none:=by
  unfold IJ at h4
  split at h4
  ·next e1 e2 e3=>injection h4 with h4;injection h4 with q1 q2;subst q1;subst q2;exact⟨e1,e2,e3⟩
  ·cases h4
 have hr:fn.results= #[.tmp q']:=by
  unfold HZ at hr
  split at hr
  ·next rr e=>injection hr with hr;subst hr;rw[←Array.toList_inj];exact e
  ·cases hr
 obtain⟨cv,m1⟩:=m1
 refine⟨⟨fn,hfn,by rw[hbd];rfl⟩,calls_of_wp hfn hbd (wp_seq (C9 g0 g1 c1 m0.2.2 m1.2.2 _ _ ?_))⟩
 have pg: ∀{a:Act} {d:Nat} {v:Value},d<a.tmps.size→(a.put (some d) v).tmps.getD d Go.undef=v:=fun h=>by simp[Act.put,h]
 have po: ∀{a:Act} {d k:Nat} {v:Value},d≠k→(a.put (some d) v).tmps.getD k Go.undef=a.tmps.getD k Go.undef:=fun h=>by
  simp only[Act.put,Array.getD_eq_getD_getElem?,Array.getElem?_setIfInBounds];rw[if_neg h]
 have ps: ∀{a:Act} {d:Nat} {v:Value},(a.put (some d) v).tmps.size=a.tmps.size:=by simp[Act.put]
 have hsz:fn.ntmps≤(#[u]++Array.replicate (fn.ntmps-(#[u]:Array Value).size) Go.undef).size:=by simp;omega
 generalize htm:(#[u]++Array.replicate (fn.ntmps-(#[u]:Array Value).size) Go.undef)=tm at hsz⊢
 have h0:tm.getD 0 Go.undef=u:=by rw[←htm];simp[Array.getD_eq_getD_getElem?,Array.getElem?_append]
 unfold Oper.wp
 rw[hbox o0 {tmps:=tm,defers:= []} (.tmp 0) m0.1 h0,Oper.upon_value,m0.2.1]
 have e1: ∀a:Act,(execOp a.eval o1).run P w'= .ok (.value cv) w':=fun a=>by
  unfold execOp;rw[m1.1]
  have:a.eval (.const cv)=cv:=rfl
  simp[this]
 rw[e1,Oper.upon_value,m1.2.1]
 refine wp_seq (C9 g2 g3 c2 m2.2.2 m3.2.2 _ _ ?_)
 generalize ha2:((({tmps:=tm,defers:= []}:Act).put (some p) v).put (some q) cv)=a2
 have v2:a2.tmps.getD p Go.undef=v:=by rw[←ha2,po c6,pg (by show p<tm.size;omega)]
 have s2:fn.ntmps≤a2.tmps.size:=by rw[←ha2,ps,ps];exact hsz
 have d2:a2.defers= []:=by rw[←ha2];rfl
 unfold Oper.wp
 have e2:(execOp a2.eval o2).run P w'= .ok (.value (.func (.func f1') #[] #[v])) w':=by
  have:a2.eval (.tmp p)=v:=v2
  unfold execOp;rw[m2.1]
  simp[Instr.makeFunc,this]
 rw[e2,Oper.upon_value,m2.2.1]
 generalize ha3:a2.put (some m) (.func (.func f1') #[] #[v])=a3
 have v3:a3.tmps.getD m Go.undef= .func (.func f1') #[] #[v]:=by rw[←ha3,pg (by omega)]
 have s3:fn.ntmps≤a3.tmps.size:=by rw[←ha3,ps];exact s2
 have d3:a3.defers= []:=by rw[←ha3];exact d2
 have e3:(execOp a3.eval o3).run P w'= .ok (.value (.func (.func f1') #[] #[v])) w':=by
  have:a3.eval (.tmp m)= .func (.func f1') #[] #[v]:=v3
  unfold execOp;rw[m3.1]
  simp[this]
 rw[e3,Oper.upon_value,m3.2.1]
 refine wp_ret ⟨d3,.func (.func f1') #[] #[v],?_,rfl,rfl⟩
 unfold results
 rw[hr]
 have:(a3.put (some q') (.func (.func f1') #[] #[v])).tmps.getD q' Go.undef= .func (.func f1') #[] #[v]:=pg (by omega)
 simp at this
 simp[this]
theorem wU(hE:iH P env)(hN:sA P){dr:Bool}{t:Touch}{Q:Exit→Act→World→Prop}{K:Act→World→Prop}(h:qe (R:=Touch×St) P cfg env base dr o st (fun t st=>some (t,st))=some (t,st'))
  (R:Rel w0 st g born (a::asx) w) (hfr: ∀i∈t.writes,base≤i→ ¬born i) (hlt: ∀r,born r→r<st.rs.length)
  (hKX: ∀a' w' g' born',dj w0 st' g' born' (a'::asx) w'→(∀r,born' r→r<st'.rs.length)→(dr=true→ ∀r,born' r→born r∨r∈t.writes)→(∃v,a'=a.put o.dst v)→K a' w'):o.wp P a w K Q:=by
 have hK: ∀a' w' g' born',Rel w0 st' g' born' (a'::asx) w'→(∀r,born' r→r<st'.rs.length)→(dr=true→ ∀r,born' r→born r∨r∈t.writes)→(∃v,a'=a.put o.dst v)→K a' w':=fun a' w' g' b' R'=>hKX a' w' g' b' (.of R')
 have plain: ∀(hcall: ∀c,o.op= .call c→ ∃b,c.callee= .builtin b),zF (R:=Touch×St) o (o.op.operands.toList.map (aq st)) (a7 P o (o.op.operands.toList.map (aq st)) st.get base) st (fun t st=>some (t,st))=some (t,st')→o.wp P a w K Q:=by
  intro hcall h
  rw[il]at h
  split at h
  ·next hok=>
   simp only[Option.some.injEq,Prod.mk.injEq]at h
   obtain⟨rfl,rfl⟩:=h
   obtain⟨hq,hok⟩:=af.1 (jo.1 hok)
   have hstep:=GQ hcall R hok (fun i h1 h2=>hfr i h2 h1) hq
   refine wJ hstep fun v w' hd=> ?_
   obtain⟨g',b',R',hv,hr,hb1,hb2⟩:=hd
   have hlen:st.rs.length≤(sg o (a7 P o (o.op.operands.toList.map (aq st)) st.get base) st).rs.length:=by
    unfold sg
    rw[gq,nZ]
    exact(hZ (a7 P o (o.op.operands.toList.map (aq st)) st.get base).upd st).1
   refine hK _ w' g' b' (nR R' o.dst hv hr) (fun r hr=> ?_) (fun _ r hr=>hb1 r hr) ⟨_,rfl⟩
   rcases hb1 r hr with h|h
   ·exact Nat.lt_of_lt_of_le (hlt r h) hlen
   ·unfold sg
    rw[gq,nZ]
    exact(hZ (a7 P o (o.op.operands.toList.map (aq st)) st.get base).upd st).2 r h
  ·cases h
 unfold qe at h
 split at h
 ·next c hop=>
  cases hbk:(iv P c).isSome with
  |true=>
   rw[hbk]at h
   simp only[cond_true]at h
   rw[il]at h
   split at h
   rotate_left
   ·cases h
   next hok=>
   simp only[Option.some.injEq,Prod.mk.injEq]at h
   obtain⟨rfl,rfl⟩:=h
   obtain⟨_,hok⟩:=af.1 (jo.1 hok)
   obtain⟨⟨f1,t⟩,hbk⟩:=Option.isSome_iff_exists.1 hbk
   have hcal: ∃f,c.callee= .value (.func f)∧yS P f=some (f1,t):=by
    have hbk':=hbk
    unfold iv at hbk'
    split at hbk'
    ·next f hf=>exact⟨f,hf,hbk'⟩
    ·cases hbk'
   obtain⟨f,hcf,hbf⟩:=hcal
   have hops:o.op.operands.toList= .func f::c.args.toList:=by
    rw[hop]
    show c.operands.toList=_
    unfold Call.operands;rw[hcf];simp
   have eo:a7 P o (o.op.operands.toList.map (aq st)) st.get base=uY P c (o.op.operands.toList.map (aq st)) base:=by
    unfold a7;rw[hop]
    simp only[hcf]
   have hop':=hop
   rw[eo]at hok hfr hK
   rw[hops,List.map_cons]at hok hfr hK
   generalize hout:uY P c (aq st (.func f)::c.args.toList.map (aq st)) base=out at hok hfr hK
   unfold uY at hout
   rw[hbk]at hout
   split at hout
   rotate_left
   ·subst hout;exact(aD hok).elim
   next f1' t' fv r p sub e1 e2=>
   injection e1 with e1
   injection e1 with q1 q2
   subst q1;subst q2
   injection e2 with _ e2
   subst hout
   have hone: ∃x,c.args= #[x]:=by
    have h1:=congrArg List.length e2
    simp only[List.length_map,Array.length_toList,List.length_cons,List.length_nil]at h1
    exact⟨c.args[0],by
     apply Array.ext
     ·simpa using h1
     ·intro i h2 h3
      have:i=0:=by omega
      subst this;rfl⟩
   obtain⟨x,hx⟩:=hone
   rw[hx]at e2
   have e2:aq st x= .sl r p sub:=by simpa using e2
   have hbox:=AS (P:=P) (o:={o with op:= .box t x}) (base:=base) (elem:=t) (x:=x) rfl R (v':= .sl r p sub) (rs:= []) (by rw[e2];rfl) (af.2 ⟨rfl,nB⟩) (fun i h1 h2=>hfr i (by
    show i∈ [base]
    simp only[al,List.map_cons,List.map_nil]at h2
    exact h2) h1)
   obtain⟨v,w1,hD,hrun⟩:=hbox
   have hbx: ∀(o':Oper) (a':Act) (x':Operand),o'.op= .box t x'→a'.eval x'=a.eval x→(execOp a'.eval o').run P w= .ok (.value v) w1:=by
    intro o' a' x' ho' hx'
    have e3: ∀(o:Oper) (a:Act) (x:Operand),o.op= .box t x→(execOp a.eval o).run P w=(do pure (.value (←Instr.box t (a.eval x))):Sem Next).run P w:=by
     intro o a x ho
     unfold execOp;rw[ho]
    rw[e3 _ _ _ ho',hx']
    rcases hrun with h|⟨h,_⟩
    ·rw[e3 _ _ x rfl]at h;exact h
    ·rw[e3 _ _ x rfl]at h
     simp[Instr.box,newVar,newRow]at h
   obtain⟨⟨fn,hfn,hbody⟩,hcalls⟩:=BR (u:=a.eval x) hbf hbx
   unfold Oper.wp
   have hf0:a.eval (.func f)= .func (.func f) #[] #[]:=rfl
   rw[nH hop' hcf hf0 hfn hbody (hN f fn hfn hbody),Oper.upon_enter]
   have earg:(#[]++c.args.map a.eval++ #[]:Array Value)= #[a.eval x]:=by rw[hx];simp
   rw[earg]
   refine Calls.mono hcalls fun e w2 he=> ?_
   obtain⟨rfl,rfl⟩:=he
   obtain⟨g',b',R',hv,hr,hb1,hb2⟩:=hD
   have hlen:st.rs.length≤(st.aR [(base,.var [.sl r p sub])]).rs.length:=(hZ _ st).1
   refine hK _ w2 g' b' (nR R' o.dst (av:= .fn f1 [] [.pv base 0]) (by
     rw[ae]
     refine⟨#[],#[v],rfl,by rw[aj],?_⟩
     rw[aj]
     exact⟨v,[],rfl,hv,rfl⟩) (fun k hk=>hr k (by simpa[AV.roots,AV.ah]using hk))) (fun k hk=> ?_) (fun _ k hk=>hb1 k hk) ⟨_,rfl⟩
   show k<((st.aR [(base,.var [.sl r p sub])]).put o.dst (.fn f1 [] [.pv base 0])).rs.length
   rw[gq]
   rcases hb1 k hk with h|h
   ·exact Nat.lt_of_lt_of_le (hlt k h) hlen
   ·exact(hZ [(base,.var [.sl r p sub])] st).2 k h
  |false=>
  rw[hbk]at h
  simp only[cond_false]at h
  unfold sd at h
  split at h
  ·next b hb=>exact plain (fun c' hc'=>by rw[hop]at hc';injection hc' with hc';subst hc';exact⟨b,hb⟩) h
  ·cases h
  ·next x hcx=>
   split at h
   ·next f first cap hev=>
    obtain⟨hx,hxb⟩:=b9 R x
    rw[hev]at hx hxb
    rw[ae]at hx
    obtain⟨vf,vc,hvx,hf1,hf2⟩:=hx
    obtain⟨hA,hAb⟩:=oD R c.args.toList
    cases hm:Nat.beq (cfg.mode f) 0 with
    |true=>
     rw[hm]at h
     simp only[cond_true]at h
     split at h
     ·rw[aj]at hf1 hf2
      have e1:vf= #[]:=by simpa using hf1
      have e2:vc= #[]:=by simpa using hf2
      subst e1;subst e2
      generalize hrd:gI st.get (fc P f) ((c.args.toList.map (aq st)).flatMap AV.cells)=rd at h
      obtain⟨ok,d,rest⟩:=rd
      simp only[ig]at h
      split at h
      ·next hok=>
       have h:(env.pc f d).bind _=_:=h
       cases hpc:env.pc f d with
       |none=>rw[hpc]at h;cases h
       |some y=>
        rw[hpc]at h
        simp only[Option.bind_some]at h
        generalize hla:fB P true (cb P f) y base=la at h
        obtain⟨vs,rs⟩:=la
        simp only[St.force_eq,Option.some.injEq,Prod.mk.injEq]at h
        obtain⟨rfl,rfl⟩:=h
        obtain⟨hfit,hok⟩:=af.1 (jo.1 hok)
        obtain⟨_,hok⟩:=af.1 hok
        obtain⟨hF,hC,hCb⟩:=jx (eT P f) _ _ hfit hA
        obtain⟨⟨fn,hfn,hbody⟩,hval⟩:=hE.pc f d y hpc
        have hreads:gF P w (eT P f) (#[]++c.args.map a.eval++ #[]).toList d:=by
         have e:(#[]++c.args.map a.eval++ #[]).toList=c.args.toList.map a.eval:=by simp
         rw[e]
         obtain⟨G,h,_⟩:=tq R.roots (dF R.below) hC (fc P f) 0 ok d rest hrd hok
         exact⟨hF,G,h⟩
        have hcalls:=hval w _ hreads
        unfold Oper.wp
        rw[nH hop hcx hvx hfn hbody (hN f fn hfn hbody),Oper.upon_enter]
        refine Calls.mono hcalls fun e w' he=> ?_
        obtain⟨us,rfl,hbel,hFr,G,hrep,hsep,hblk⟩:=he
        have R1:=tv R hbel
        obtain⟨g',b',R2,L,A,B,_⟩:=jz (acts:=a::asx) true (cb P f) y us (bw us) st g born base 0 G vs rs R1 hFr (fun k _=>by rw[Nat.zero_add]) hrep (fun _=>hsep)
         (fun _ b hb=>⟨R.fresh (hblk b hb),fun r ho=>by have:=fy R ho;have:=hblk b hb;omega⟩) hla (fun i h1 h2=>hfr i ((bO _ _ _).2 ⟨h1,h2⟩) h1)
        obtain⟨o1,o2⟩:=sr A
        have hlen:=hZ (al base rs) st
        refine hK _ w' g' b' (nR R2 o.dst o1 (fun r hr=>(L.born_iff r).2 (.inr (B r (o2 r hr))))) (fun r hr=> ?_) (fun _ r hr=>((L.born_iff r).1 hr).imp id fun h=>(bO _ _ _).2 h) ⟨_,rfl⟩
        rw[gq]
        show r<(st.aR (al base rs)).rs.length
        rcases(L.born_iff r).1 hr with h|h
        ·have:=hlt r h;omega
        ·have:=hlen.2 r ((bO _ _ _).2 h);omega
      ·cases h
     ·cases h
    |false=>
     rw[hm]at h
     simp only[cond_false]at h
     cases hm6:Nat.beq (cfg.mode f) 6 with
     |true=>
      rw[hm6]at h
      simp only[cond_true]at h
      cases dr with
      |true=>cases h
      |false=>
      simp only[cond_false]at h
      split at h
      ·rw[aj]at hf1 hf2
       have e1:vf= #[]:=by simpa using hf1
       have e2:vc= #[]:=by simpa using hf2
       subst e1;subst e2
       rw[u6]at h
       cases hin:ioS (R:=List AV×St) env f (c.args.toList.map (aq st)) st (fun vs st=>some (vs,st))with
       |none=>rw[hin]at h;cases h
       |some p=>
        obtain⟨vs',st2⟩:=p
        rw[hin]at h
        simp only[Option.bind_some,St.force_eq,Option.some.injEq,Prod.mk.injEq]at h
        obtain⟨rfl,rfl⟩:=h
        obtain⟨⟨fn,hfn,hbody⟩,hval⟩:=Io hE hin
        have hcalls:=hval w0 g born (a::asx) w _ R hlt hA hAb
        unfold Oper.wp
        rw[nH hop hcx hvx hfn hbody (hN f fn hfn hbody),Oper.upon_enter]
        have e:(c.args.toList.map a.eval).toArray= #[]++c.args.map a.eval++ #[]:=by apply Array.ext';simp
        rw[e]at hcalls
        refine Calls.mono hcalls fun e w' he=> ?_
        obtain⟨us',g',b',rfl,R3,hlt3,A3,B3⟩:=he
        obtain⟨o1,o2⟩:=sr A3
        exact hKX _ w' g' b' (nL R3 o.dst o1 (fun r hr=>B3 r (o2 r hr))) (fun r hr=>by rw[gq];exact hlt3 r hr) (fun h=>by cases h) ⟨_,rfl⟩
      ·cases h
     |false=>
     rw[hm6]at h
     simp only[cond_false]at h
     cases dr with
     |true=>
      simp only[cond_true]at h
      cases hm4:Nat.ble 4 (cfg.mode f)with
      |false=>rw[hm4]at h;cases h
      |true=>
      rw[hm4]at h
      simp only[cond_true]at h
      rw[nK]at h
      cases hin:ioD (R:=List AV×List (Nat×ao)×List Nat×List Nat) (cfg.mode f) env f (first++c.args.toList.map (aq st)++cap) st base (fun a b c d=>some (a,b,c,d))with
      |none=>rw[hin]at h;cases h
      |some p=>
       obtain⟨vs',upd,rd,qu⟩:=p
       rw[hin]at h
       simp only[Option.bind_some,dW,St.force_eq,Option.some.injEq,Prod.mk.injEq]at h
       obtain⟨rfl,rfl⟩:=h
       obtain⟨⟨fn,hfn,hbody⟩,hval⟩:=Iu hE hin
       have hall:aj st.get g (first++c.args.toList.map (aq st)++cap) (vf++c.args.map a.eval++vc).toList:=by
        have e:(vf++c.args.map a.eval++vc).toList=vf.toList++c.args.toList.map a.eval++vc.toList:=by simp
        rw[e]
        exact dG (dG hf1 hA) hf2
       have hallb: ∀r∈AV.ah (first++c.args.toList.map (aq st)++cap),born r:=by
        intro r hr
        rcases fJ hr with hr|hr
        ·rcases fJ hr with hr|hr
         ·exact hxb r (by simp only[AV.roots,List.mem_append];exact .inl hr)
         ·exact hAb r hr
        ·exact hxb r (by simp only[AV.roots,List.mem_append];exact .inr hr)
       have hcalls:=hval w0 g born (a::asx) w _ R hlt hall hallb hfr
       unfold Oper.wp
       rw[nH hop hcx hvx hfn hbody (hN f fn hfn hbody),Oper.upon_enter]
       have e:(vf++c.args.map a.eval++vc).toList.toArray=vf++c.args.map a.eval++vc:=by simp
       rw[e]at hcalls
       refine Calls.mono hcalls fun e w' he=> ?_
       obtain⟨us',g',b',rfl,R3,hb3,A3,B3⟩:=he
       obtain⟨o1,o2⟩:=sr A3
       refine hK _ w' g' b' (nR R3 o.dst o1 (fun r hr=>B3 r (o2 r hr))) (fun r hr=> ?_) (fun _ r hr=>hb3 r hr) ⟨_,rfl⟩
       rw[gq]
       show r<(st.aR upd).rs.length
       rcases hb3 r hr with h|h
       ·have:=hlt r h
        exact Nat.lt_of_lt_of_le this (hZ upd st).1
       ·exact(hZ upd st).2 r h
     |false=>
     simp only[cond_false]at h
     generalize hfa:sy P cfg f (first++c.args.toList.map (aq st)++cap) st.rs.length=fa at h
     obtain⟨vs,rs⟩:=fa
     simp only at h
     rw[tH hE.det]at h
     cases hin:Ci (R:=List AV×St) P cfg env f vs {st with rs:=st.rs++rs} (fun vs st=>some (vs,st))with
     |none=>rw[hin]at h;cases h
     |some p=>
      obtain⟨vs',st2⟩:=p
      rw[hin]at h
      simp only[Option.bind_some,St.force_eq,Option.some.injEq,Prod.mk.injEq]at h
      obtain⟨rfl,rfl⟩:=h
      obtain⟨⟨fn,hfn,hbody⟩,hval⟩:=GU hE hin
      have hall:aj st.get g (first++c.args.toList.map (aq st)++cap) (vf++c.args.map a.eval++vc).toList:=by
       have e:(vf++c.args.map a.eval++vc).toList=vf.toList++c.args.toList.map a.eval++vc.toList:=by simp
       rw[e]
       exact dG (dG hf1 hA) hf2
      have hallb: ∀r∈AV.ah (first++c.args.toList.map (aq st)++cap),born r:=by
       intro r hr
       rcases fJ hr with hr|hr
       ·rcases fJ hr with hr|hr
        ·exact hxb r (by simp only[AV.roots,List.mem_append];exact .inl hr)
        ·exact hAb r hr
       ·exact hxb r (by simp only[AV.roots,List.mem_append];exact .inr hr)
      obtain⟨g1,b1,R1,L1,A1,B1⟩:=A5 (P:=P) (cfg:=cfg) f _ vs _ st g born st.rs.length rs R hall hallb hfa
       (fun i h1 _ hb=>by have:=hlt i hb;omega)
      have hget: ∀r,(St.mk st.fr (st.rs++rs)).get r=(st.aR (al st.rs.length rs)).get r:=fun r=>get_append st.fr rs st.rs r
      have R2:Rel w0 {st with rs:=st.rs++rs} g1 b1 (a::asx) w:=jE R1 rfl hget
      have hcalls:=hval w0 g1 b1 (a::asx) w _ R2 (fun r hr=>by
        show r<(st.rs++rs).length
        rw[List.length_append]
        rcases(L1.born_iff r).1 hr with h|h
        ·have:=hlt r h;omega
        ·omega) (by
        have e:(St.mk st.fr (st.rs++rs)).get=(st.aR (al st.rs.length rs)).get:=funext hget
        show aj (St.mk st.fr (st.rs++rs)).get g1 vs _
        rw[e];exact A1) B1
      unfold Oper.wp
      rw[nH hop hcx hvx hfn hbody (hN f fn hfn hbody),Oper.upon_enter]
      have e:(vf++c.args.map a.eval++vc).toList.toArray=vf++c.args.map a.eval++vc:=by simp
      rw[e]at hcalls
      refine Calls.mono hcalls fun e w' he=> ?_
      obtain⟨us',g',b',rfl,R3,hlt3,A3,B3⟩:=he
      obtain⟨o1,o2⟩:=sr A3
      exact hKX _ w' g' b' (nL R3 o.dst o1 (fun r hr=>B3 r (o2 r hr))) (fun r hr=>by rw[gq];exact hlt3 r hr) (fun h=>by cases h) ⟨_,rfl⟩
   ·cases h
 ·next hno=>exact plain (fun c hc=>absurd hc (hno c)) h
theorem DZ(hE:iH P env)(hN:sA P){dr:Bool}{t:Touch}{Q:Exit→Act→World→Prop}{K:Act→World→Prop}(h:opK (R:=Touch×St) P cfg env base dr o st (fun t st=>some (t,st))=some (t,st'))
  (R:dj w0 st g born (a::asx) w) (hfr: ∀i∈t.writes,base≤i→ ¬born i) (hlt: ∀r,born r→r<st.rs.length)
  (hK: ∀a' w' g' born',dj w0 st' g' born' (a'::asx) w'→(∀r,born' r→r<st'.rs.length)→(dr=true→ ∀r,born' r→born r∨r∈t.writes)→(∃v,a'=a.put o.dst v)→K a' w'):o.wp P a w K Q:=by
 obtain⟨w1,hle,R⟩:=R
 replace hK: ∀a' w' g' born',dj w1 st' g' born' (a'::asx) w'→(∀r,born' r→r<st'.rs.length)→(dr=true→ ∀r,born' r→born r∨r∈t.writes)→(∃v,a'=a.put o.dst v)→K a' w':=fun a' w' g' b' R'=>hK a' w' g' b' (R'.up hle)
 unfold opK at h
 cases dr with
 |true=>exact wU hE hN h R hfr hlt hK
 |false=>
  simp only[cond_false]at h
  split at h
  ·next out hki=>
   rw[il]at h
   split at h
   ·next hok=>
    simp only[Option.some.injEq,Prod.mk.injEq]at h
    obtain⟨rfl,rfl⟩:=h
    obtain⟨hq,hok⟩:=af.1 (jo.1 hok)
    refine wJ (HQ hki R hok) fun v w' hd=> ?_
    obtain⟨g',b',R',hv,hr,hb1,hb2⟩:=hd
    have hlen:st.rs.length≤(sg o out st).rs.length:=by
     unfold sg
     rw[gq,nZ]
     exact(hZ out.upd st).1
    refine hK _ w' g' b' (.of (nR R' o.dst hv hr)) (fun r hr=> ?_) (fun hd=>by cases hd) ⟨_,rfl⟩
    rcases hb1 r hr with h|h
    ·exact Nat.lt_of_lt_of_le (hlt r h) hlen
    ·unfold sg
     rw[gq,nZ]
     exact(hZ out.upd st).2 r h
   ·cases h
  ·exact wU hE hN h R hfr hlt hK
abbrev rd(ro:Option Nat):Fence:={fn:=fun _=>True,depth:=none,alive:=false,round:=ro}
theorem Co{ro:Option Nat}{n:Nat}{f:FuncId}{args:Array Value}{R:Ending→World→Prop}(h:Calls P f args w R):CallsIn (rd ro) n P f args w R:=(callsIn_wide (n:=n)).2 h
theorem wL{ro:Option Nat}{n:Nat}{f:FuncId}{args:Array Value}{R:Ending→World→Prop}(h:CallsIn (rd ro) n P f args w R):Calls P f args w R:=(callsIn_wide (n:=n)).1 h
theorem Ev{ro:Option Nat}{n:Nat}{row:String}{args:Array Value}{R:Value→World→Prop}(h:Rows P row args w R):RowsIn (rd ro) n P row args w R:=
 fun c cs _=>let⟨v,w',r,s⟩:=h c cs;⟨v,w',r,stepsIn_wide.2 s⟩
theorem qX{ro:Option Nat}{n:Nat}{Q:Exit→Act→World→Prop}{K:Act→World→Prop}(hd: ∀c,o.op≠ .defer c)(h:o.wp P a w K Q):o.wpIn (rd ro) n P a w K Q:=by
 refine⟨fun _ _=>trivial,?_⟩
 rw[Oper.semAt_eq _ _ _ hd]
 unfold Oper.wp at h
 generalize(execOp a.eval o).run P w=r at h⊢
 cases r with
 |ok x w'=>
  cases x<;>simp only[Oper.upon,Oper.uponIn]at h⊢ <;>first
   |exact h
   |exact⟨fun h=>by simp at h,Co h⟩
   |exact⟨fun h=>by simp at h,Ev h⟩
   |exact h.elim
 |halt x w'=>cases x<;>simp only[Oper.upon,Oper.uponIn]at h⊢ <;>exact h
theorem BG{R:Type}{dr:Bool}{K:Touch→St→Option R}{r0:R}(h:opK P cfg env base dr o st K=some r0): ∀c,o.op≠ .defer c:=by
 intro c hc
 have h0: ∀dr:Bool,qe P cfg env base dr o st K=some r0→False:=by
  intro dr h
  unfold qe at h
  rw[hc]at h
  simp only at h
  unfold a7 at h
  rw[hc]at h
  cases h
 unfold opK at h
 cases dr with
 |true=>exact h0 true h
 |false=>
  simp only[cond_false]at h
  have hki:Bc P o (o.op.operands.toList.map (evK st)) st.get=none:=by unfold Bc;rw[hc]
  rw[hki]at h
  exact h0 false h
end
end
end Go.Am
end
section
/- Soundness: operations in the text's order; the executor as a function. -/
namespace Go.Am
noncomputable section
attribute [local instance] D.real
section
variable {P : Program} {cfg : Cfg} {env : Env P} {w0 : bV} {w w' : World} {st st' : St} {g g' : aG} {born : Nat → Prop} {a : Act} {asx acts : List Act} {o : Oper} {base : Nat}
theorem Fl(a:Act)(d:Nat):a.put (some d) (a.tmps.getD d Go.undef)=a:=by
 show{a with tmps:=a.tmps.setIfInBounds d (a.tmps.getD d Go.undef)}=a
 have:a.tmps.setIfInBounds d (a.tmps.getD d Go.undef)=a.tmps:=by
  apply Array.ext_getElem?
  intro i
  rw[Array.getElem?_setIfInBounds]
  split
  ·next e=>
   subst e
   split
   ·next h=>simp[h]
   ·next h=>rw[Array.getElem?_eq_none (by omega)]
  ·rfl
 rw[this]
theorem Fz{av:AV}{d:Nat}(R:Rel w0 st g born (a::asx) w)(hv:ae st.get g av (a.tmps.getD d Go.undef))(hb: ∀r∈av.roots,born r):Rel w0 (st.put (some d) av) g born (a::asx) w:=by
 have:=nR R (some d) hv hb
 rw[Fl]at this
 exact this
theorem AD(R:Rel w0 st g born (a::asx) w)(d:Nat):ae st.get g (st.top.getD d .undef) (a.tmps.getD d Go.undef):=(pR R d).1
theorem yw(R:Rel w0 st g born (a::asx) w)(ops:Array Oper)(i:Nat)(o:Oper):Rel w0 (jY ops i o st) g born (a::asx) w∧(jY ops i o st).rs=st.rs:=by
 unfold jY
 generalize o.dst=dd
 cases dd with
 |none=>exact⟨R,rfl⟩
 |some d=>
  have h:=AD R d
  simp only
  generalize st.top.getD d .undef=v at h
  cases v with
  |bool b=>
   rw[ae]at h
   simp only
   cases nX ops i with
   |true=>simp only[cond_true];exact⟨Fz R (by rw[ae];exact h) (fun r hr=>by simp[AV.roots]at hr),gq _ _ _⟩
   |false=>exact⟨R,rfl⟩
  |_=>exact⟨R,rfl⟩
theorem Cr{ops:Array Oper}{j d:Nat}{b:Bool}(hd:(ops[j]?).bind (·.dst)=some d)(h:a.tmps.getD d Go.undef= .bool b):yielded ops a.tmps j=some b:=by
 unfold yielded
 rw[hd]
 simp only[Option.bind_some]
 have:a.tmps[d]?=some (.bool b):=by
  rw[Array.getD_eq_getD_getElem?]at h
  cases hx:a.tmps[d]? with
  |none=>rw[hx]at h;cases h
  |some x=>rw[hx]at h;exact congrArg some h
 rw[this]
theorem Af{ops:Array Oper}{j d:Nat}{l:Array Value}(hd:(ops[j]?).bind (·.dst)=some d)(h:a.tmps.getD d Go.undef= .tuple l):yielded ops a.tmps j=none:=by
 unfold yielded
 rw[hd]
 simp only[Option.bind_some]
 split
 ·next b hb=>
  rw[Array.getD_eq_getD_getElem?,hb]at h;cases h
 ·rfl
theorem CL(R:dj w0 st g born (a::asx) w)(ops:Array Oper)(i:Nat)(o:Oper):dj w0 (jY ops i o st) g born (a::asx) w∧(jY ops i o st).rs=st.rs:=
 let⟨w2,k,R⟩:=R;⟨⟨w2,k,(yw R ops i o).1⟩,(yw R ops i o).2⟩
theorem BT(R:dj w0 st g born acts w)(hb:RowKit.Below w.heap.size w w'):dj w0 st g born acts w':=let⟨w2,k,R⟩:=R;⟨w2,k,tv R hb⟩
theorem Cw(R:dj w0 st g born acts w)(h1:st'.fr=st.fr)(h2: ∀r,st'.get r=st.get r):dj w0 st' g born acts w:=let⟨w2,k,R⟩:=R;⟨w2,k,jE R h1 h2⟩
theorem Ep(R:dj w0 st g born (a::asx) w)(d:Nat):ae st.get g (st.top.getD d .undef) (a.tmps.getD d Go.undef):=let⟨_,_,R⟩:=R;AD R d
theorem mL(hE:iH P env)(hN:sA P){ro:Option Nat}{n:Nat}{b0:Option Nat}{ops:Array Oper}{i:Nat}{t:Touch}{Q:Exit→Act→World→Prop}{K:Act→World→Prop}(h:jB (R:=Touch×St) P cfg env b0 ops i st (fun t st=>some (t,st))=some (t,st'))
  (R:dj w0 st g born (a::asx) w) (hfr: ∀j∈t.writes,nO b0 i st≤j→ ¬born j) (hlt: ∀r,born r→r<st.rs.length)
  (hK: ∀a' w' g' born',dj w0 st' g' born' (a'::asx) w'→(∀r,born' r→r<st'.rs.length)→(b0.isSome=true→ ∀r,born' r→born r∨r∈t.writes)→(∃v,a'=a.put ((ops[i]?).bind (·.dst)) v)→K a' w'):wpOpIn (rd ro) n P ops Q i K a w:=by
 unfold jB at h
 split at h
 ·cases h
 next o hoi=>
 have run:Region.wanted o (yielded ops a.tmps)=true→opK (R:=Touch×St) P cfg env (nO b0 i st) b0.isSome o st (fun t st=>gY ops i o st fun st=>some (t,st))=some (t,st')→wpOpIn (rd ro) n P ops Q i K a w:=by
  intro hw h
  rw[nr hE.det]at h
  cases hop:opK (R:=Touch×St) P cfg env (nO b0 i st) b0.isSome o st (fun t st=>some (t,st))with
  |none=>rw[hop]at h;cases h
  |some p=>
   obtain⟨t2,st2⟩:=p
   rw[hop]at h
   simp only[Option.bind_some,nz,Option.some.injEq,Prod.mk.injEq]at h
   obtain⟨rfl,rfl⟩:=h
   unfold wpOpIn
   rw[hoi]
   simp only[hw,if_true]
   refine qX (BG hop) (DZ hE hN hop R hfr hlt fun a' w' g' b' R' h1 h2 h3=> ?_)
   obtain⟨s1,s2⟩:=CL R' ops i o
   exact hK a' w' g' b' s1 (fun r hr=>by rw[s2];exact h1 r hr) h2 (by rw[hoi];exact h3)
 have skip:Region.wanted o (yielded ops a.tmps)=false→some (gl,st.put o.dst (.tup []))=some (t,st')→wpOpIn (rd ro) n P ops Q i K a w:=by
  intro hw h
  simp only[Option.some.injEq,Prod.mk.injEq]at h
  obtain⟨rfl,rfl⟩:=h
  unfold wpOpIn
  rw[hoi]
  simp only[hw,Bool.false_eq_true,if_false]
  exact⟨fun _ _=>trivial,hK _ w g born (nL R o.dst (lJ _ _) (fun r hr=>by simp[AV.roots,AV.ah]at hr)) (fun r hr=>by rw[gq];exact hlt r hr) (fun _ r hr=> .inl hr) ⟨_,by rw[hoi];rfl⟩⟩
 split at h
 ·next hg=>exact run (by unfold Region.wanted;rw[hg]) h
 ·next j want hg=>
  split at h
  ·cases h
  ·next d hd=>
   have hs:=Ep R d
   split at h
   ·next b hb=>
    rw[hb,ae]at hs
    have hy:=Cr (ops:=ops) hd hs
    cases hbw:b==want with
    |true=>
     rw[hbw]at h
     exact run (by unfold Region.wanted;rw[hg];simp only[hy];have:=eq_of_beq hbw;subst this;simp) h
    |false=>
     rw[hbw]at h
     simp only[cond_false,St.force_eq]at h
     exact skip (by unfold Region.wanted;rw[hg];simp only[hy];simpa using hbw) h
   ·next l hb=>
    rw[hb,ae]at hs
    obtain⟨vs,hs,_⟩:=hs
    have hy:=Af (ops:=ops) hd hs
    simp only[St.force_eq]at h
    exact skip (by unfold Region.wanted;rw[hg];simp only[hy];rfl) h
   ·cases h
theorem qq(hE:iH P env)(hN:sA P){ro:Option Nat}{n:Nat}{ops:Array Oper}{Q:Exit→Act→World→Prop}{R0:Type}{r0:R0}{Kc:List (Nat×Touch)→St→Option R0}:
  ∀(l:List Nat) (tr:List (Nat×Touch)) (st:St) (g:aG) (born:Nat→Prop) (a:Act) (w:World),eE P cfg env none ops l tr st Kc=some r0→dj w0 st g born (a::asx) w→(∀r,born r→r<st.rs.length)→
   (∀tr' st' a' w' g' born',Kc tr' st'=some r0→dj w0 st' g' born' (a'::asx) w'→(∀r,born' r→r<st'.rs.length)→Q .normal a' w')→wpOpsIn (rd ro) n P ops Q l a w
 | [],tr,st,g,born,a,w,h,R,hlt,hK=>hK tr st a w g born h R hlt
 |i::l,tr,st,g,born,a,w,h,R,hlt,hK=>by
  have h:jB P cfg env none ops i st (fun t st=>eE P cfg env none ops l ((i,gl)::tr) st Kc)=some r0:=h
  rw[ke hE.det]at h
  cases hs:jB (R:=Touch×St) P cfg env none ops i st (fun t st=>some (t,st))with
  |none=>rw[hs]at h;cases h
  |some p=>
   obtain⟨t,st2⟩:=p
   rw[hs]at h
   simp only[Option.bind_some]at h
   rw[wpOpsIn_cons]
   exact mL hE hN hs R (fun j _ h1 hb=>by have:=hlt j hb;have h1:st.rs.length≤j:=h1;omega) hlt fun a' w' g' b' R' h1 _ _=>
    qq hE hN l _ st2 g' b' a' w' h R' h1 hK
theorem eC(hE:iC P env){b0:Option Nat}{ops:Array Oper}{R:Type}: ∀(l:List Nat) (tr:List (Nat×Touch)) (st:St) (K:List (Nat×Touch)→St→Option R),
  eE P cfg env b0 ops l tr st K=(eE (R:=List (Nat×Touch)×St) P cfg env b0 ops l tr st fun tr st=>some (tr,st)).bind fun p=>K p.1 p.2
 | [],tr,st,K=>rfl
 |i::l,tr,st,K=>by
  show jB P cfg env b0 ops i st (fun t st=>eE P cfg env b0 ops l ((i,bif b0.isSome then t else gl)::tr) st K)=(jB P cfg env b0 ops i st (fun t st=>eE (R:=List (Nat×Touch)×St) P cfg env b0 ops l ((i,bif b0.isSome then t else gl)::tr) st fun tr st=>some (tr,st))).bind fun p=>K p.1 p.2
  have h1:=ke (cfg:=cfg) hE b0 ops i st (fun t st=>eE P cfg env b0 ops l ((i,bif b0.isSome then t else gl)::tr) st K)
  have h2:=ke (R:=List (Nat×Touch)×St) (cfg:=cfg) hE b0 ops i st (fun t st=>eE (R:=List (Nat×Touch)×St) P cfg env b0 ops l ((i,bif b0.isSome then t else gl)::tr) st fun tr st=>some (tr,st))
  rw[h1,h2,Option.bind_assoc]
  congr 1
  funext p
  exact eC hE l _ _ K
def mc:cY (Ex×St):=fun e st=>some (e,st)
theorem jQ{R:Type}(h:Option (List Nat))(F:St→Option R)(st:St):ik h F st=F (match h with
  |some live=>st.canon live
  |none=>st):=by
 unfold ik
 split
 ·rw[St.force_eq];rfl
 ·rfl
theorem xS{R:Type}{F:{R:Type}→St→cY R→Option R}(hF: ∀(R:Type) (st:St) (K:cY R),F st K=(F st mc).bind fun p=>K p.1 p.2)(K:cY R)(e:Ex)(st:St):
  qR (fun st K=>F st K) K e st=(qR (fun st K=>F st K) mc e st).bind fun p=>K p.1 p.2:=by
 cases e with
 |normal=>exact hF R st K
 |exit i=>rfl
 |ret=>rfl
theorem w6{F:{R:Type}→St→cY R→Option R}(hF: ∀(R:Type) (st:St) (K:cY R),F st K=(F st mc).bind fun p=>K p.1 p.2)(h:Option (List Nat)):
  ∀(n:Nat) (R:Type) (st:St) (K:cY R),j1 (fun st K=>F st K) h n st K=(j1 (fun st K=>F st K) h n st mc).bind fun p=>K p.1 p.2
 |0,_,_,_=>rfl
 |n+1,R,st,K=>by
  show F st (qR (fun st' K=>ik h (fun st''=>j1 (fun st K=>F st K) h n st'' K) st') K)=(F st (qR (fun st' K=>ik h (fun st''=>j1 (fun st K=>F st K) h n st'' K) st') mc)).bind fun p=>K p.1 p.2
  rw[hF,hF (Ex×St) st (qR _ mc),Option.bind_assoc]
  congr 1
  funext p
  exact xS (F:=fun{R} st' K=>ik h (fun st''=>j1 (fun st K=>F st K) h n st'' K) st') (fun R st K=>by
   simp only[jQ]
   exact w6 hF h n R _ K) K p.1 p.2
theorem Ah{R:Type}(id:Nat)(K:cY R)(e:Ex)(st:St):bI id K e st=(bI id mc e st).bind fun p=>K p.1 p.2:=by
 cases e with
 |normal=>rfl
 |exit i=>
  show(bif Nat.beq i id then K .normal st else K (.exit i) st)=(bif Nat.beq i id then mc .normal st else mc (.exit i) st).bind fun p=>K p.1 p.2
  cases Nat.beq i id<;>rfl
 |ret=>rfl
def KXp:cY ((Ex×St)⊕(Ex×St)):=fun e st=>some (.inl (e,st))
def KYp:cY ((Ex×St)⊕(Ex×St)):=fun e st=>some (.inr (e,st))
def vu{R:Type}(KX K:cY R):(Ex×St)⊕(Ex×St)→Option R
 | .inl p=>KX p.1 p.2
 | .inr p=>K p.1 p.2
def C5(hand:{R:Type}→cY R→List AV→St→(St→Option R)→Option R):Prop:=
 ∀(R:Type) (KX:cY R) (vs:List AV) (st:St) (Kgo:St→Option R),hand KX vs st Kgo=(hand KXp vs st fun s=>some (.inr (.normal,s))).bind (vu KX fun _ s=>Kgo s)
theorem BV{FA FB:{R:Type}→St→cY R→Option R}(hA: ∀(R:Type) (st:St) (K:cY R),FA st K=(FA st mc).bind fun p=>K p.1 p.2)
  (hB: ∀(R:Type) (st:St) (K:cY R),FB st K=(FB st mc).bind fun p=>K p.1 p.2) (ps:Array Tmp):C5 fun{R} KX vs st Kgo=>rz (R:=R) (fun st K=>FA st K) (fun st K=>FB st K) ps KX vs st Kgo:=by
 intro R KX vs st Kgo
 show rz _ _ ps KX vs st Kgo=(rz _ _ ps KXp vs st _).bind _
 unfold rz
 generalize st.fr=fr
 cases fr with
 |nil=>rfl
 |cons it l=>
 cases l with
 |nil=>rfl
 |cons top rest=>
  simp only
  cases Nat.beq vs.length ps.size with
  |false=>rfl
  |true=>
   simp only[cond_true,St.force_eq]
   rw[hA R,hA ((Ex×St)⊕(Ex×St)),Option.bind_assoc]
   congr 1
   funext p
   obtain⟨e,s⟩:=p
   cases e with
   |normal=>
    show FB s (Gj Kgo KX)=(FB s (Gj (fun s=>some (.inr (.normal,s))) KXp)).bind _
    rw[hB R,hB ((Ex×St)⊕(Ex×St)),Option.bind_assoc]
    congr 1
    funext q
    obtain⟨e,s⟩:=q
    cases e<;>rfl
   |exit i=>rfl
   |ret=>rfl
theorem tP{R:Type}{F:{R:Type}→cY R→St→cY R→Option R}(KX:cY R)(hF: ∀(st:St) (K:cY R),F KX st K=(F KXp st KYp).bind (vu KX K))
  (hF': ∀(st:St) (K:cY ((Ex×St)⊕(Ex×St))),F KXp st K=(F KXp st KYp).bind (vu KXp K)) (h:Option (List Nat)):
  ∀(n:Nat) (st:St) (K:cY R),j1 (fun st K=>F KX st K) h n st K=(j1 (fun st K=>F KXp st K) h n st KYp).bind (vu KX K)
 |0,_,_=>rfl
 |n+1,st,K=>by
  show F KX st (qR (fun st' K=>ik h (fun st''=>j1 (fun st K=>F KX st K) h n st'' K) st') K)=(F KXp st (qR (fun st' K=>ik h (fun st''=>j1 (fun st K=>F KXp st K) h n st'' K) st') KYp)).bind (vu KX K)
  rw[hF,hF' st (qR _ KYp),Option.bind_assoc]
  congr 1
  funext p
  cases p with
  |inl p=>rfl
  |inr p=>
   obtain⟨e,s⟩:=p
   cases e with
   |normal=>
    show ik h _ s=(ik h _ s).bind _
    rw[jQ,jQ]
    exact tP KX hF hF' h n _ K
   |exit i=>rfl
   |ret=>rfl
theorem vp(hE:iC P env){hand:{R:Type}→cY R→List AV→St→(St→Option R)→Option R}(hh:C5 hand)(N kl fid:Nat): ∀(c:Code) (R:Type) (KX:cY R) (st:St) (K:cY R),
  gw P cfg env (hand KX) N kl fid c st K=(gw P cfg env (hand KXp) N kl fid c st KYp).bind (vu KX K):=by
 intro c
 induction c with
 |skip=>intro R KX st K;rfl
 |region id ops draw=>
  intro R KX st K
  unfold gw
  cases(!draw&&ops.toList.all fun o=> !(wX o 0))with
  |false=>rfl
  |true=>
   simp only[cond_true]
   rw[eC hE,eC (R:=(Ex×St)⊕(Ex×St)) hE,Option.bind_assoc]
   rfl
 |seq x y ihx ihy=>
  intro R KX st K
  unfold gw
  split
  ·next u _=>
   obtain⟨ops,t,args,v,d⟩:=u
   simp only[De,St.force_eq]
   cases(Nat.blt t N&&(Nat.blt v N&&Nat.blt d N))with
   |false=>rfl
   |true=>
   simp only[cond_true]
   rw[eC hE,eC (R:=(Ex×St)⊕(Ex×St)) hE,Option.bind_assoc]
   congr 1
   funext p
   refine(hh R KX _ _ _).trans (Eq.trans ?_ (congrArg (fun x=>x.bind (vu KX K)) (hh ((Ex×St)⊕(Ex×St)) KXp _ _ _)).symm)
   rw[Option.bind_assoc]
   congr 1
   funext q
   cases q with
   |inl q=>rfl
   |inr q=>rfl
  ·rw[ihx R,ihx ((Ex×St)⊕(Ex×St)) KXp st (qR _ KYp),Option.bind_assoc]
   congr 1
   funext p
   cases p with
   |inl p=>rfl
   |inr p=>
    obtain⟨e,s⟩:=p
    cases e with
    |normal=>
     show ik _ _ s=(ik _ _ s).bind _
     rw[jQ,jQ]
     exact ihy R KX _ K
    |exit i=>rfl
    |ret=>rfl
 |cond x c d ihc ihd=>
  intro R KX st K
  unfold gw
  generalize aq st x=v
  cases v<;>try rfl
  next b=>
   show(if b=true then _ else _)=(if b=true then _ else _:Option ((Ex×St)⊕(Ex×St))).bind _
   cases b
   ·exact ihd R KX st K
   ·exact ihc R KX st K
  next b=>
   cases b
   ·exact ihd R KX st K
   ·exact ihc R KX st K
 |block id c ih=>
  intro R KX st K
  unfold gw
  rw[ih R,ih ((Ex×St)⊕(Ex×St)) KXp st (bI id KYp),Option.bind_assoc]
  congr 1
  funext p
  cases p with
  |inl p=>rfl
  |inr p=>
   obtain⟨e,s⟩:=p
   cases e with
   |normal=>rfl
   |exit i=>
    show(bif Nat.beq i id then K .normal s else K (.exit i) s)=(bif Nat.beq i id then KYp .normal s else KYp (.exit i) s).bind _
    cases Nat.beq i id<;>rfl
   |ret=>rfl
 |loop c ih=>
  intro R KX st K
  unfold gw
  simp only[jQ]
  exact tP (F:=fun{R} KX st K=>gw P cfg env (hand KX) N kl fid c st K) KX (ih R KX) (ih _ KXp) (cfg.loops fid (key c)) kl _ K
 |exit id=>intro R KX st K;rfl
 |ret=>intro R KX st K;rfl
 |rangeFunc f ps x y _ _=>intro R KX st K;rfl
 |scope c _=>intro R KX st K;rfl
 |label l=>intro R KX st K;rfl
 |goto l=>intro R KX st K;rfl
 |refuse s=>intro R KX st K;rfl
theorem xP(hE:iC P env)(kl fid:Nat)(hm:Nat.beq (cfg.mode fid) 0=false): ∀(c:Code) (R:Type) (st:St) (K:cY R),exec P cfg env kl fid c st K=(exec P cfg env kl fid c st mc).bind fun p=>K p.1 p.2:=by
 intro c
 induction c with
 |skip=>intro R st K;rfl
 |region id ops draw=>
  intro R st K
  unfold exec
  cases draw with
  |true=>
   simp only[cond_true,iK,dW]
   rw[eC hE,eC (R:=Ex×St) hE,Option.bind_assoc]
   congr 1
   funext p
   cases(my ops (Region.before ops).toList p.1&&(uT st.rs.length (Region.before ops).toList p.1&&mr ops))with
   |false=>rfl
   |true=>
    simp only[cond_true]
    rw[eC hE,eC (R:=Ex×St) hE,Option.bind_assoc]
    rfl
  |false=>
   simp only[cond_false]
   rw[eC hE,eC (R:=Ex×St) hE,Option.bind_assoc]
   rfl
 |seq x y ihx ihy=>
  intro R st K
  unfold exec
  rw[ihx R,ihx (Ex×St) st (qR _ mc),Option.bind_assoc]
  congr 1
  funext p
  exact xS (F:=fun{R} st K=>ik (cfg.joins fid (key y)) (fun st=>exec P cfg env kl fid y st K) st) (fun R st K=>by
   simp only[jQ]
   exact ihy R _ K) K p.1 p.2
 |cond x c d ihc ihd=>
  intro R st K
  unfold exec
  generalize aq st x=v
  cases v<;>try rfl
  next b=>
   show(if b=true then _ else _)=(if b=true then _ else _:Option (Ex×St)).bind _
   cases b
   ·exact ihd R st K
   ·exact ihc R st K
  next b=>
   cases b
   ·exact ihd R st K
   ·exact ihc R st K
  next n=>
   show(bif Nat.beq (cfg.mode fid) 0 then _ else _)=(bif Nat.beq (cfg.mode fid) 0 then _ else _:Option (Ex×St)).bind _
   rw[hm];rfl
 |block id c ih=>
  intro R st K
  unfold exec
  rw[ih R,ih (Ex×St) st (bI id mc),Option.bind_assoc]
  congr 1
  funext p
  exact Ah id K p.1 p.2
 |loop c ih=>
  intro R st K
  unfold exec
  simp only[jQ]
  exact w6 (F:=fun{R} st K=>exec P cfg env kl fid c st K) ih (cfg.loops fid (key c)) kl R _ K
 |exit id=>intro R st K;rfl
 |ret=>intro R st K;rfl
 |rangeFunc h ps x y ihx ihy=>
  intro R st K
  unfold exec
  cases(dK x&&dK y)with
  |false=>rfl
  |true=>
   simp only[cond_true]
   split
   ·next f cap _=>
    split
    ·rfl
    ·next fn _=>
     split
     ·rfl
     ·next c _=>
      cases fn.results.isEmpty with
      |false=>rfl
      |true=>
      simp only[St.force_eq,cond_true]
      have hh:=BV (FA:=fun{R} st K=>exec P cfg env kl fid x st K) (FB:=fun{R} st K=>exec P cfg env kl fid y st K) ihx ihy ps
      rw[vp hE (hand:=fun{R} KX vs st Kgo=>rz (R:=R) (fun st K=>exec P cfg env kl fid x st K) (fun st K=>exec P cfg env kl fid y st K) ps KX vs st Kgo) hh fn.ntmps kl f c R K,
       vp hE (hand:=fun{R} KX vs st Kgo=>rz (R:=R) (fun st K=>exec P cfg env kl fid x st K) (fun st K=>exec P cfg env kl fid y st K) ps KX vs st Kgo) hh fn.ntmps kl f c (Ex×St) mc,Option.bind_assoc]
      congr 1
      funext p
      cases p with
      |inl p=>rfl
      |inr p=>
       obtain⟨e,s⟩:=p
       cases e<;>rfl
   ·rfl
 |scope c _=>intro R st K;rfl
 |label l=>intro R st K;rfl
 |goto l=>intro R st K;rfl
 |refuse s=>intro R st K;rfl
end
end
end Go.Am
end
section
/- Soundness of regions whose order is open, first part: what an operation's answer hangs on. -/
namespace Go.Am
noncomputable section
attribute [local instance] D.real
section
variable {P : Program} {get get' : Get}
theorem tT: ∀(t:Ty) (vs:List AV),cU get get' (AV.ah vs)→gives get t vs=gives get' t vs∧ ∀r∈AV.ah (gives get t vs).2.2,r∈AV.ah vs:=by
 have tl: ∀(vs:List AV) (r:Nat),r∈AV.ah vs.tail→r∈AV.ah vs:=by
  intro vs r h
  cases vs with
  |nil=>exact h
  |cons v vs=>simp only[AV.ah,List.mem_append];exact .inr h
 intro t
 induction t with
 |int k=>intro vs h;exact⟨rfl,fun r hr=>tl vs r hr⟩
 |bool=>intro vs h;exact⟨rfl,fun r hr=>tl vs r hr⟩
 |str=>intro vs h;exact⟨rfl,fun r hr=>tl vs r hr⟩
 |unit=>intro vs h;exact⟨rfl,fun r hr=>hr⟩
 |sl e ih=>
  intro vs h
  unfold gives
  split
  ·next vs=>exact⟨rfl,fun r hr=>by simp only[AV.ah,List.mem_append];exact .inr hr⟩
  ·next r p x vs=>
   have e1:get r=get' r:=h r (by simp[AV.ah,AV.roots])
   rw[e1]
   refine⟨rfl,fun y hy=> ?_⟩
   generalize get' r=s at hy
   split at hy
   ·simp only[AV.ah,List.mem_append];exact .inr hy
   ·simp[AV.ah]at hy
  ·exact⟨rfl,fun r hr=>by simp[AV.ah]at hr⟩
 |pair a b iha ihb=>
  intro vs h
  obtain⟨h1,h2⟩:=iha vs h
  unfold gives
  split
  ·next r rest htw=>
   obtain⟨e1,e2,i1,f1,s1,i2,f2,s2,rfl,rfl,rfl,_⟩:=yB htw
   have e:get r=get' r:=h r (by simp[AV.ah,AV.roots])
   unfold rK
   rw[e]
   refine⟨rfl,fun y hy=> ?_⟩
   generalize get' r=s at hy
   split at hy
   ·simp only[AV.ah,List.mem_append];exact .inr (.inr hy)
   ·simp[AV.ah]at hy
  rw[←h1]
  generalize gives get a vs=ra at h2
  obtain⟨ok,x,rest⟩:=ra
  simp only at h2⊢
  obtain⟨h3,h4⟩:=ihb rest (fun r hr=>h r (h2 r hr))
  rw[←h3]
  generalize gives get b rest=rb at h4
  obtain⟨ok',y,rest'⟩:=rb
  simp only at h4⊢
  exact⟨trivial,fun r hr=>h2 r (h4 r hr)⟩
theorem mn(v:AV)(r:Nat)(h:r∈AV.ah v.cells):r∈v.roots:=by
 cases v<;>simpa[AV.cells,AV.ah,AV.roots]using h
theorem qw(t:Ty): ∀(vs:List AV),cU get get' (AV.ah vs)→readAll get t vs=readAll get' t vs
 | [],_=>rfl
 |v::vs,h=>by
  obtain⟨h1,h2⟩:=h.cons
  unfold readAll
  rw[(gN t v.cells (fun r hr=>h1 r (mn v r hr))).1,qw t vs h2]
theorem oB(t:Ty): ∀(vs:List AV),cU get get' (AV.ah vs)→jj get t vs=jj get' t vs
 | [],_=>rfl
 |v::vs,h=>by
  obtain⟨h1,h2⟩:=h.cons
  unfold jj
  rw[(tT t v.cells (fun r hr=>h1 r (mn v r hr))).1,oB t vs h2]
theorem xw{t:TypeId}{v:AV}(h:cU get get' v.roots):fS P t v get=fS P t v get':=by
 cases v<;>try rfl
 next r c=>unfold fS;simp only[h r (by simp[AV.roots])]
 next r p i f=>unfold fS;simp only[h r (by simp[AV.roots])]
theorem zD{s d:TypeId}{v:AV}(h:cU get get' v.roots):oJ P s d v get=oJ P s d v get':=by
 have e:=(gN (get:=get) (get':=get') (.sl (.int .u8)) [v] (fun r hr=>h r (by simpa[AV.ah]using hr))).1
 unfold oJ
 split
 ·rfl
 ·rfl
 ·simp only[e]
 ·rfl
theorem vg{v:AV}{r:Nat}{p:Path}{i f:Nat}{t:Ty}{xs:List (den t)}{e:Ty}{chk:List Tst}(h:cU get get' v.roots):o7 v r p i f t xs e chk get=o7 v r p i f t xs e chk get':=by
 cases v<;>try rfl
 next r2 q sub=>unfold o7;simp only[h r2 (by simp[AV.roots])]
theorem uO{v:AV}{r:Nat}{p:Path}{i f:Nat}{t:Ty}{xs:List (den t)}(h:cU get get' v.roots):jG v r p i f t xs get=jG v r p i f t xs get':=by
 unfold jG
 simp only[vg h]
theorem wK{t:TypeId}{a v:AV}{base:Nat}(ha:cU get get' a.roots)(h:cU get get' v.roots):iD P t a v get base=iD P t a v get' base:=by
 cases a<;>try rfl
 next r c=>unfold iD;simp only[ha r (by simp[AV.roots])]
 next r p i f=>unfold iD;simp only[ha r (by simp[AV.roots]),uO h]
theorem zM{e:Ty}{x:AV}(h:cU get get' x.roots):vH e x get=vH e x get':=by
 have h1:cU get get' (AV.ah [x]):=fun r hr=>h r (by simpa[AV.ah]using hr)
 have e1:=(gN (.sl e) [x] h1).1
 have e2:=(tT (.sl e) [x] h1).1
 cases x<;>first|rfl|(unfold vH;simp only[e1,e2])
theorem vG{e:Ty}{s:AV}{ok:List Tst}{zs:List (den e)}{l:List Nat}{base:Nat}(h:cU get get' s.roots):oN e s ok zs l get base=oN e s ok zs l get' base:=by
 cases s<;>try rfl
 next r p sub=>unfold oN;simp only[h r (by simp[AV.roots])]
theorem jl{t:TypeId}{s x:AV}{base:Nat}(hs:cU get get' s.roots)(hx:cU get get' x.roots):dv P t s x get base=dv P t s x get' base:=by
 unfold dv
 simp only[zM hx,vG hs]
theorem xe{t:TypeId}{x:AV}{lo hi:Option AV}(h:cU get get' x.roots):kW P t x lo hi get=kW P t x lo hi get':=by
 cases x<;>try rfl
 next r p sub=>unfold kW;simp only[h r (by simp[AV.roots])]
theorem rZ{e:Ty}{r:Nat}(h:get r=get' r):ownRow e get r=ownRow e get' r:=by unfold ownRow;rw[h]
theorem uE{t:TypeId}{s x:AV}{base:Nat}(hs:cU get get' s.roots)(hx:cU get get' x.roots):gB P t s x get base=gB P t s x get' base:=by
 unfold gB
 split
 ·next r1 sub1=>
  split
  ·next r o l=>
   simp only[jl hs hx,rZ (hs r1 (by simp[AV.roots])),rZ (hx r (by simp[AV.roots]))]
  ·exact jl hs hx
 ·exact jl hs hx
theorem ze{x:AV}(h:cU get get' x.roots):shared get x=shared get' x:=by
 cases x<;>try rfl
 next r p sub=>unfold shared;simp only[h r (by simp[AV.roots])]
theorem Ab{e:Ty}{x:AV}(h:cU get get' x.roots):vW e x get=vW e x get':=by
 cases x<;>try rfl
 next r p sub=>
  unfold vW
  simp only[h r (by simp[AV.roots]),(gN (.sl e) [.sl r p sub] fun r hr=>h r (by simpa[AV.ah]using hr)).1]
theorem BB{e:Ty}{s x:AV}(hs:cU get get' s.roots)(hx:cU get get' x.roots):vU e s x get=vU e s x get':=by
 cases s<;>try rfl
 next r p sub=>
  cases p<;>try rfl
  cases sub<;>try rfl
  unfold vU;simp only[hs r (by simp[AV.roots]),ze hx]
theorem uL{t:TypeId}{s x:AV}{base:Nat}(hs:cU get get' s.roots)(hx:cU get get' x.roots):gC P t s x get base=gC P t s x get' base:=by
 have e1:we P t s x get=we P t s x get':=by
  unfold we
  simp only[BB hs hx]
 unfold gC
 rw[e1]
 split
 ·unfold xl;rw[Ab hx]
 ·exact uE hs hx
theorem wq{t:TypeId}{x:AV}{lo hi:Option AV}{base:Nat}(h:cU get get' x.roots):gG P t x lo hi get base=gG P t x lo hi get' base:=by
 have e:tF lo hi x get=tF lo hi x get':=by
  unfold tF
  split
  ·split
   ·split
    ·next r=>rw[h r (by simp[AV.roots])]
    ·rfl
   ·rfl
  ·rfl
 unfold gG
 rw[e,xe h]
theorem uP{t:TypeId}{x:AV}{base:Nat}(h:cU get get' x.roots):iO P t x get base=iO P t x get' base:=by
 cases x<;>try rfl
 next r p sub=>unfold iO;simp only[h r (by simp[AV.roots])]
theorem vP{t:TypeId}{lo:Option Operand}{avs:List AV}{base:Nat}(h:cU get get' (AV.ah avs)):lO P t lo avs get base=lO P t lo avs get' base:=by
 unfold lO
 split
 ·next x kh hh kc cc=>
  have hx:=h.cons.1
  unfold kv
  split
  ·next r p sub=>simp only[hx r (by simp[AV.roots])]
  ·rfl
 ·rfl
theorem xu{t:TypeId}{d s:AV}(h1:cU get get' d.roots)(h2:cU get get' s.roots):gV P t d s get=gV P t d s get':=by
 cases d<;>try rfl
 next r p sub=>
  cases p with
  |cons q p=>rfl
  |nil=>
   have e:=h1 r (by simp[AV.roots])
   simp only[gV,e]
   generalize get' r=x
   cases x<;>try rfl
   next rw_ e xs=>
    cases rw_<;>try rfl
    simp only
    rw[(gN (.sl e) [s] fun r hr=>h2 r (by simpa[AV.ah]using hr)).1]
theorem yJ{t:TypeId}{x:AV}(h:cU get get' x.roots):nT P t x get=nT P t x get':=by
 cases x<;>try rfl
 next r p sub=>unfold nT;simp only[h r (by simp[AV.roots])]
theorem zy{t:TypeId}{op:BinOp}{x y:AV}(h:cU get get' x.roots):tB P t op x y get=tB P t op x y get':=by
 unfold tB
 split
 ·rw[h _ (by simp[AV.roots])]
 ·rfl
theorem qW{t:TypeId}{x i:AV}(h:cU get get' x.roots):gh P t x i get=gh P t x i get':=by
 cases x<;>try rfl
 next r p sub=>unfold gh;simp only[h r (by simp[AV.roots])]
theorem qg{t:TypeId}{n:Nat}{ps:List (Nat×AV)}{base:Nat}(h:cU get get' (AV.ah (ps.map (·.2)))):dZ P t n ps get base=dZ P t n ps get' base:=by
 unfold dZ
 simp only[qw _ _ h,oB _ _ h]
theorem BL{avs:List AV}(h:cU get get' (AV.ah avs)):cU get get' (avs.headD .undef).roots:=by
 cases avs with
 |nil=>intro r hr;simp[AV.roots]at hr
 |cons v vs=>exact h.cons.1
theorem qt: ∀(ks:List Nat) (avs:List AV),cU get get' (AV.ah avs)→cU get get' (AV.ah ((ks.zip avs).map (·.2)))
 | [],_,_=>by intro r hr;simp[AV.ah]at hr
 |_::_,[],_=>by intro r hr;simp[AV.ah]at hr
 |k::ks,v::vs,h=>by
  obtain⟨h1,h2⟩:=h.cons
  have:=qt ks vs h2
  intro r hr
  simp only[List.zip_cons_cons,List.map_cons,AV.ah,List.mem_append]at hr
  exact hr.elim (h1 r) (this r)
theorem Ar(o:Oper)(avs:List AV)(base:Nat)(h:cU get get' (AV.ah avs)):a7 P o avs get base=a7 P o avs get' base:=by
 have hh:=BL h
 unfold a7
 split<;>try rfl
 ·exact qg (qt _ _ h)
 ·exact xw hh
 ·split
  ·obtain⟨h1,h2⟩:=h.cons
   exact wK h1 h2.cons.1
  ·rfl
 ·split
  ·exact zy h.cons.1
  ·rfl
 ·exact zD hh
 ·split
  ·exact wq hh
  ·simp only[uP hh,vP h]
 ·split
  ·exact qW h.cons.1
  ·rfl
 ·split
  ·split
   ·exact yJ hh
   ·rfl
  ·rfl
  ·split
   ·have h1:=h.cons.1
    have h2:=h.cons.2.cons.1
    simp only[jl h1 h2,uL h1 h2]
   ·rfl
  ·split
   ·exact xu h.cons.1 h.cons.2.cons.1
   ·rfl
  ·rfl
  ·rfl
  ·rfl
  ·rfl
end
end
end Go.Am
end
section
/- Soundness of regions whose order is open, second part: operations whose order is open may change places. -/
namespace Go.Am
noncomputable section
attribute [local instance] D.real
def Eqv(s s':St):Prop:=s.fr=s'.fr∧(∀r,s.get r=s'.get r)∧s.rs.length=s'.rs.length
theorem Eqv.refl(s:St):Eqv s s:=⟨rfl,fun _=>rfl,rfl⟩
theorem Eqv.trans{s t u:St}(h:Eqv s t)(k:Eqv t u):Eqv s u:=⟨h.1.trans k.1,fun r=>(h.2.1 r).trans (k.2.1 r),h.2.2.trans k.2.2⟩
def yW:List (Nat×ao)→Nat
 | []=>0
 |x::l=>max (x.1+1) (yW l)
theorem ju: ∀(l:List (Nat×ao)) (rs:List ao),(dQ rs l).length=max rs.length (yW l)
 | [],rs=>by simp[dQ,yW]
 |(i,x)::l,rs=>by
  show(dQ (setAt rs i x) l).length=max rs.length (max (i+1) (yW l))
  rw[ju l]
  have:(setAt rs i x).length=max rs.length (i+1):=by
   unfold setAt
   cases hb:Nat.blt i rs.length with
   |true=>have:=dw hb;simp;omega
   |false=>
    have hge:rs.length≤i:=by
     rcases Nat.lt_or_ge i rs.length with h|h
     ·rw[←Nat.blt_eq,hb]at h;cases h
     ·exact h
    simp;omega
  omega
theorem o8: ∀(rs:List ao) (r:Nat) (ex:Option Nat) (j0:Nat),quietAt r ex j0 rs=true↔ ∀j r' p t xs,rs.getD j .dead= .pend r' p t xs→r'=r→ex=some (j0+j)
 | [],r,ex,j0=>⟨fun _ j r' p t xs e=>by simp at e,fun _=>rfl⟩
 |x::rs,r,ex,j0=>by
  refine⟨fun h j r' p t xs e er=>oW (x::rs) r ex j0 h j r' p t xs e er,fun h=> ?_⟩
  unfold quietAt
  rw[Bool.and_eq_true]
  refine⟨?_,(o8 rs r ex (j0+1)).2 fun j r' p t xs e er=> ?_⟩
  ·cases x with
   |pend r' p t xs=>
    simp only[Bool.or_eq_true,Bool.not_eq_true',decide_eq_true_eq]
    by_cases e:r'=r
    ·exact .inr (by simpa using h 0 r' p t xs rfl e)
    ·left
     cases hb:Nat.beq r' r with
     |false=>rfl
     |true=>exact absurd (dM hb) e
   |_=>rfl
  ·have:=h (j+1) r' p t xs (by simpa using e) er
   rw[this];congr 1;omega
theorem jJ{s s':St}{q:List (Nat×Option Nat)}(h:br s.rs q=true)(hp: ∀j r p t xs,s'.get j= .pend r p t xs→r∈q.map (·.1)→s.get j=s'.get j):br s'.rs q=true:=by
 unfold br at h⊢
 rw[List.all_eq_true]at h⊢
 intro x hx
 have h1:=(o8 s.rs x.1 x.2 0).1 (h x hx)
 refine(o8 s'.rs x.1 x.2 0).2 fun j r' p t xs e er=> ?_
 have e2:=hp j r' p t xs e (by rw[er];exact List.mem_map.2 ⟨x,hx,rfl⟩)
 have e:s'.get j= .pend r' p t xs:=e
 rw[e]at e2
 exact h1 j r' p t xs e2 er
theorem qU: ∀(l:List (Nat×ao)) (f:Get) (r:Nat),fu l f r=f r∧r∉l.map (·.1)∨ ∃x,(r,x)∈l∧fu l f r=x
 | [],f,r=> .inl ⟨rfl,by simp⟩
 |(i,x)::l,f,r=>by
  rcases qU l (fun r=>if r=i then x else f r) r with⟨h1,h2⟩|⟨y,h1,h2⟩
  ·by_cases e:r=i
   ·subst e
    exact .inr ⟨x,List.mem_cons_self,by show fu l _ r=x;rw[h1];simp⟩
   ·refine .inl ⟨?_,by simp[e];simpa using h2⟩
    show fu l _ r=f r
    rw[h1];simp[e]
  ·exact .inr ⟨y,List.mem_cons_of_mem _ h1,h2⟩
section
variable {P : Program} {cfg : Cfg} {env : Env P} {w0 : bV} {w w' : World} {st st' : St}
def Hb(ops:Array Oper)(i:Nat):AV→AV
 | .bool b=>bif nX ops i then .kb b else .bool b
 |v=>v
theorem HT(s:St)(d:Option Tmp)(v u:AV):(s.put d v).put d u=s.put d u:=by
 unfold St.put
 cases d with
 |none=>rfl
 |some d=>
  obtain⟨fr,rs⟩:=s
  cases fr with
  |nil=>rfl
  |cons f fs=>simp
theorem yp(ops:Array Oper)(i:Nat)(o:Oper)(s:St)(v:AV):jY ops i o (s.put o.dst v)=s.put o.dst (Hb ops i v):=by
 unfold jY
 generalize o.dst=dd
 cases dd with
 |none=>rfl
 |some d=>
  simp only
  obtain⟨fr,rs⟩:=s
  cases fr with
  |nil=>
   have e1: ∀u,(St.mk [] rs).put (some d) u=St.mk [] rs:=fun u=>rfl
   rw[e1,e1];rfl
  |cons f fs=>
   have e1: ∀u,(St.mk (f::fs) rs).put (some d) u=St.mk (f.set d u::fs) rs:=fun u=>rfl
   rw[e1 v]
   have e2:(St.mk (f.set d v::fs) rs).top.getD d .undef=if d<f.length then v else .undef:=by
    show(f.set d v).getD d .undef=_
    rw[List.getD_eq_getElem?_getD,List.getElem?_set]
    by_cases h:d<f.length<;>simp[h]
   rw[e2]
   by_cases h:d<f.length
   ·rw[if_pos h]
    cases v with
    |bool b=>
     unfold Hb
     cases nX ops i with
     |true=>simp only[cond_true];rw[←e1 (.bool b),HT]
     |false=>simp only[cond_false];rw[←e1]
    |_=>unfold Hb;simp only;rw[←e1]
   ·rw[if_neg h]
    have: ∀u,f.set d u=f:=fun u=>List.set_eq_of_length_le (Nat.le_of_not_lt h)
    simp only[e1,this]
structure Local (P : Program) (cfg : Cfg) (env : Env P) (b : Nat) (ops : Array Oper) (i : Nat) (o : Oper) (st : St) (t : Touch) (upd : List (Nat × ao)) (v : AV) : Prop where
  keys : t.writes = upd.map (·.1)
  waits : ∀ k x, (k, x) ∈ upd → ∀ r, (r ∈ x.waits ∨ r ∈ (st.get k).waits) → r ∈ t.quiet
  again : ∀ s : St, (∀ d ∈ o.looksAt ops, s.top.getD d .undef = st.top.getD d .undef) → (∀ r ∈ t.reads, s.get r = st.get r) → (∀ r ∈ t.writes, s.get r = st.get r) →
    (∀ j r p ty xs, s.get j = .pend r p ty xs → r ∈ t.quiet → st.get j = s.get j) →
    jB (R := Touch × St) P cfg env (some b) ops i s (fun t st => some (t, st)) = some (t, (s.aR upd).put o.dst v)
theorem rA{s:St}{o:Oper}{ops:Array Oper}(h: ∀d∈o.looksAt ops,s.top.getD d .undef=st.top.getD d .undef): ∀x∈o.op.operands.toList,aq s x=aq st x:=by
 intro x hx
 cases x with
 |tmp t=>exact congrArg AV.toI (h t (List.mem_append_left _ (List.mem_filterMap.2 ⟨.tmp t,hx,rfl⟩)))
 |_=>rfl
theorem Gl{s:St}{o:Oper}{ops:Array Oper}(h: ∀d∈o.looksAt ops,s.top.getD d .undef=st.top.getD d .undef):o.op.operands.toList.map (aq s)=o.op.operands.toList.map (aq st):=
 List.map_congr_left (rA h)
theorem iS{s:St}{upd:List (Nat×ao)}(h: ∀r∈upd.map (·.1),s.get r=st.get r):jR s upd=jR st upd:=by
 unfold jR
 have: ∀l:List (Nat×ao),(∀r∈l.map (·.1),s.get r=st.get r)→l.flatMap (fun x=>(s.get x.1).waits++x.2.waits)=l.flatMap (fun x=>(st.get x.1).waits++x.2.waits):=by
  intro l
  induction l with
  |nil=>intro _;rfl
  |cons x l ih=>
   intro h
   rw[List.flatMap_cons,List.flatMap_cons,h x.1 (by simp),ih (fun r hr=>h r (by simp only[List.map_cons,List.mem_cons];exact .inr hr))]
 exact this upd h
theorem fw{get get':Get}{r:Nat}(h:get r=get' r):aU get r=aU get' r:=by unfold aU;rw[h]
theorem qO: ∀(l seen:List Nat) (r:Nat),r∈seen→r∈jb seen l
 | [],_,_,h=>h
 |x::xs,seen,r,h=>by
  unfold jb
  cases seen.contains x with
  |true=>exact qO xs seen r h
  |false=>exact qO xs _ r (List.mem_append.2 (.inl h))
theorem tZ(get:Get): ∀(n:Nat) (seen:List Nat) (r:Nat),r∈seen→r∈mF get n seen
 |0,_,_,h=>h
 |n+1,_,r,h=>tZ get n _ r (qO _ _ r h)
theorem iM{α β:Type}{f f':α→List β}: ∀(l:List α),(∀r∈l,f r=f' r)→l.flatMap f=l.flatMap f'
 | [],_=>rfl
 |x::l,h=>by
  rw[List.flatMap_cons,List.flatMap_cons,h x List.mem_cons_self,iM l fun r hr=>h r (List.mem_cons_of_mem _ hr)]
theorem qv{get get':Get}: ∀(n:Nat) (seen:List Nat),(∀r∈mF get n seen,get r=get' r)→mF get' n seen=mF get n seen
 |0,_,_=>rfl
 |n+1,seen,h=>by
  have e:(seen.flatMap fun r=>AV.um (aU get' r))=seen.flatMap fun r=>AV.um (aU get r):=
   iM seen fun r hr=>by rw[fw (h r (tZ get (n+1) seen r hr))]
  show mF get' n (jb seen _)=mF get n (jb seen _)
  rw[e]
  exact qv n _ h
mutual
theorem zQ{get get':Get}(L:List Nat): ∀(v:AV) (b:Nat),cU get get' v.roots→ct get L v b=ct get' L v b
 | .int _ _,_,_=>rfl
 | .bool _,_,_=>rfl
 | .kb _,_,_=>rfl
 | .ki _ _,_,_=>rfl
 | .nb _,_,_=>rfl
 | .str _,_,_=>rfl
 | .nilS,_,_=>rfl
 | .undef,_,_=>rfl
 | .tup _,_,_=>rfl
 | .pe _ _ _ _,_,_=>rfl
 | .pv _ _,_,_=>rfl
 | .lit _ _,_,_=>rfl
 | .sl r p sub,b,h=>by
  unfold ct
  rw[qn (h r (by simp[AV.roots]))]
 | .fn f x y,b,h=>by
  unfold ct
  rw[jv L x b fun r hr=>h r (by simp only[AV.roots,List.mem_append];exact .inl hr)]
  generalize gp get' L x b=q
  obtain⟨ok,x',rx⟩:=q
  simp only
  rw[jv L y (b+rx.length) fun r hr=>h r (by simp only[AV.roots,List.mem_append];exact .inr hr)]
 | .agg cs,b,h=>by
  unfold ct
  rw[jv L cs b fun r hr=>h r (by simpa only[AV.roots]using hr)]
theorem jv{get get':Get}(L:List Nat): ∀(vs:List AV) (b:Nat),cU get get' (AV.ah vs)→gp get L vs b=gp get' L vs b
 | [],_,_=>rfl
 |v::vs,b,h=>by
  unfold gp
  rw[zQ L v b h.cons.1]
  generalize ct get' L v b=q
  obtain⟨ok,v',r⟩:=q
  simp only
  rw[jv L vs (b+r.length) h.cons.2]
end
theorem mO{get get' getK getK':Get}(L:List Nat): ∀(V:List Nat) (b:Nat),(∀r∈V,get r=get' r)→(∀r∈V,cU getK getK' (AV.ah (aU get r)))→gz get getK L V b=gz get' getK' L V b
 | [],_,_,_=>rfl
 |r::V,b,h,k=>by
  unfold gz
  have h0:=h r List.mem_cons_self
  rw[jv L _ b (k r List.mem_cons_self),fw h0]
  generalize gp getK' L (aU get' r) b=q
  obtain⟨ok,cs,rs⟩:=q
  simp only
  rw[mO L V (b+rs.length) (fun r hr=>h r (List.mem_cons_of_mem _ hr)) fun r hr=>k r (List.mem_cons_of_mem _ hr),h0]
theorem qs{get get':Get}: ∀(V:List Nat) (cs:List AV),(∀r∈V,get r=get' r)→kE get V cs=kE get' V cs
 | [],_,_=>rfl
 |r::V,cs,h=>by
  unfold kE
  rw[fw (h r List.mem_cons_self),qs V _ fun r hr=>h r (List.mem_cons_of_mem _ hr)]
theorem CX{f:Nat}{vs vs':List AV}{s:St}{base:Nat}{upd:List (Nat×ao)}{rd qu:List Nat}
  (h:xC (R:=List AV×List (Nat×ao)×List Nat×List Nat) env f vs st base (fun a b c d=>some (a,b,c,d))=some (vs',upd,rd,qu))
  (h2: ∀r∈rd,s.get r=st.get r) (h4: ∀j r p ty xs,s.get j= .pend r p ty xs→r∈qu→st.get j=s.get j):
  xC (R:=List AV×List (Nat×ao)×List Nat×List Nat) env f vs s base (fun a b c d=>some (a,b,c,d))=some (vs',upd,rd,qu):=by
 have h0:=h
 unfold xC at h
 simp only[dW]at h
 generalize hlv:vm st.get vs=lv at h
 generalize hs:jP ⟨lv,[],[]⟩ st vs=sS at h
 obtain⟨ok,stS⟩:=sS
 simp only[St.force_eq,fW]at h
 obtain⟨hok,hb⟩:=jd h
 have hb:Option.bind (kY env f lv.length 0 (bu.all ⟨lv,[],[]⟩).length (stS.rs.map ao.strip) stS) _=_:=hb
 have hrq:rd=AV.ah vs++(lv++AV.ah (lv.flatMap (aU st.get)))∧qu=lv:=by
  cases hr:kY env f lv.length 0 (bu.all ⟨lv,[],[]⟩).length (stS.rs.map ao.strip) stS with
  |none=>rw[hr]at hb;cases hb
  |some yx=>
   rw[hr]at hb
   simp only[Option.bind_some,Option.some.injEq,Prod.mk.injEq]at hb
   exact⟨hb.2.2.1.symm,hb.2.2.2.symm⟩
 obtain⟨hrd,hqu⟩:=hrq
 have a1: ∀r∈AV.ah vs,st.get r=s.get r:=fun r hr=>(h2 r (by rw[hrd];exact List.mem_append.2 (.inl hr))).symm
 have a2: ∀r∈lv,st.get r=s.get r:=fun r hr=>(h2 r (by rw[hrd];exact List.mem_append.2 (.inr (List.mem_append.2 (.inl hr))))).symm
 have a3: ∀r∈AV.ah (lv.flatMap (aU st.get)),st.get r=s.get r:=fun r hr=>(h2 r (by rw[hrd];exact List.mem_append.2 (.inr (List.mem_append.2 (.inr hr))))).symm
 have elv:vm s.get vs=lv:=by
  rw[←hlv]
  unfold vm
  exact qv 4 _ fun r hr=>a2 r (by rw[←hlv];exact hr)
 have rootsL_flat: ∀(l:List Nat) (r:Nat),r∈l→ ∀x∈AV.ah (aU st.get r),x∈AV.ah (l.flatMap (aU st.get)):=by
  have app: ∀(a b:List AV),AV.ah (a++b)=AV.ah a++AV.ah b:=by
   intro a b
   induction a with
   |nil=>rfl
   |cons v a ih=>simp only[List.cons_append,AV.ah,ih,List.append_assoc]
  intro l
  induction l with
  |nil=>intro r hr;cases hr
  |cons y l ih=>
   intro r hr x hx
   rw[List.flatMap_cons,app,List.mem_append]
   rcases List.mem_cons.1 hr with rfl|hr
   ·exact .inl hx
   ·exact .inr (ih r hr x hx)
 have eK: ∀r,st.get r=s.get r→(bif (bu.all ⟨lv,[],[]⟩).contains r then ao.dead else st.get r)=(bif (bu.all ⟨lv,[],[]⟩).contains r then ao.dead else s.get r):=fun r e=>by rw[e]
 have esub:jP ⟨lv,[],[]⟩ s vs=jP ⟨lv,[],[]⟩ st vs:=by
  unfold jP
  rw[←jv (get:=fun r=>bif (bu.all ⟨lv,[],[]⟩).contains r then ao.dead else st.get r) (get':=fun r=>bif (bu.all ⟨lv,[],[]⟩).contains r then ao.dead else s.get r) (bu.all ⟨lv,[],[]⟩) vs _ fun r hr=>eK r (a1 r hr)]
  generalize gp _ _ vs _=q
  obtain⟨okA,vsS,roA⟩:=q
  simp only
  rw[←mO (get:=st.get) (get':=s.get) (getK:=fun r=>bif (bu.all ⟨lv,[],[]⟩).contains r then ao.dead else st.get r) (getK':=fun r=>bif (bu.all ⟨lv,[],[]⟩).contains r then ao.dead else s.get r) (bu.all ⟨lv,[],[]⟩) lv _ a2 fun r hr x hx=>eK x (a3 x (rootsL_flat lv r hr x hx))]
  generalize gz _ _ _ lv _=q
  obtain⟨okV,vrs,roV⟩:=q
  rfl
 have eupd: ∀rs0 cells,vT ⟨lv,[],[]⟩ s rs0 cells=vT ⟨lv,[],[]⟩ st rs0 cells:=fun rs0 cells=>by
  unfold vT
  rw[iM (f:=aU s.get) (f':=aU st.get) lv fun r hr=>(fw (a2 r hr)).symm,qs (get:=s.get) (get':=st.get) lv _ fun r hr=>(a2 r hr).symm]
 obtain⟨k1,hok⟩:=af.1 hok
 obtain⟨k2,hok⟩:=af.1 hok
 have k2':br s.rs (eF (bu.all ⟨lv,[],[]⟩))=true:=
  jJ (s:=st) k2 fun j r p ty xs e hr=>h4 j r p ty xs e (by
   rw[hqu]
   simpa[eF,bu.all]using hr)
 rw[←h0]
 unfold xC
 simp only[dW]
 rw[elv,esub,hlv,hs]
 simp only[St.force_eq,fW,eupd,iM (f:=aU s.get) (f':=aU st.get) lv fun r hr=>(fw (a2 r hr)).symm]
 rw[show br s.rs (eF (bu.all ⟨lv,[],[]⟩))=br st.rs (eF (bu.all ⟨lv,[],[]⟩))from k2'.trans (show br st.rs _=true from k2).symm]
theorem od: ∀(vs:List AV) (r:Nat),r∈AV.ah (vs.flatMap AV.cells)→r∈AV.ah vs
 | [],r,h=>by simp[AV.ah]at h
 |v::vs,r,h=>by
  rw[List.flatMap_cons]at h
  rw[AV.ah,List.mem_append]
  rcases fJ h with h|h
  ·exact .inl (mn v r h)
  ·exact .inr (od vs r h)
theorem D5{f:Nat}{vs vs':List AV}{s:St}{base:Nat}{upd:List (Nat×ao)}{rd qu:List Nat}
  (h:ioC (R:=List AV×List (Nat×ao)×List Nat×List Nat) env f vs st base (fun a b c d=>some (a,b,c,d))=some (vs',upd,rd,qu))
  (h2: ∀r∈rd,s.get r=st.get r) (h4: ∀j r p ty xs,s.get j= .pend r p ty xs→r∈qu→st.get j=s.get j):
  ioC (R:=List AV×List (Nat×ao)×List Nat×List Nat) env f vs s base (fun a b c d=>some (a,b,c,d))=some (vs',upd,rd,qu):=by
 have h0:=h
 unfold ioC at h
 simp only[dW]at h
 generalize hlv:Cu vs=lv at h
 generalize hln:vk true st.get vs++qy true st.get lv=ln at h
 generalize hs:jP ⟨lv,[],ln⟩ st vs=sS at h
 obtain⟨ok,stS⟩:=sS
 simp only[St.force_eq,fW]at h
 obtain⟨hok,hb⟩:=jd h
 have hb:Option.bind (kY env f 0 0 (bu.all ⟨lv,[],ln⟩).length (stS.rs.map ao.strip) stS) _=_:=hb
 have hrq:rd=AV.ah vs++(lv++AV.ah (lv.flatMap (aU st.get)))∧qu=bu.all ⟨lv,[],ln⟩:=by
  cases hr:kY env f 0 0 (bu.all ⟨lv,[],ln⟩).length (stS.rs.map ao.strip) stS with
  |none=>rw[hr]at hb;cases hb
  |some yx=>
   rw[hr]at hb
   simp only[Option.bind_some,Option.some.injEq,Prod.mk.injEq]at hb
   exact⟨hb.2.2.1.symm,hb.2.2.2.symm⟩
 obtain⟨hrd,hqu⟩:=hrq
 have a1: ∀r∈AV.ah vs,st.get r=s.get r:=fun r hr=>(h2 r (by rw[hrd];exact List.mem_append.2 (.inl hr))).symm
 have a2: ∀r∈lv,st.get r=s.get r:=fun r hr=>(h2 r (by rw[hrd];exact List.mem_append.2 (.inr (List.mem_append.2 (.inl hr))))).symm
 have a3: ∀r∈AV.ah (lv.flatMap (aU st.get)),st.get r=s.get r:=fun r hr=>(h2 r (by rw[hrd];exact List.mem_append.2 (.inr (List.mem_append.2 (.inr hr))))).symm
 have eln:vk true s.get vs++qy true s.get lv=ln:=by
  rw[←hln]
  have cells: ∀(l:List AV),(∀r∈AV.ah l,st.get r=s.get r)→l.flatMap (rT true s.get)=l.flatMap (rT true st.get):=by
   intro l
   induction l with
   |nil=>intro _;rfl
   |cons v l ih=>
    intro hh
    rw[List.flatMap_cons,List.flatMap_cons,ih fun r hr=>hh r (by rw[AV.ah];exact List.mem_append.2 (.inr hr))]
    congr 1
    unfold rT
    split
    ·next r=>rw[hh r (by rw[AV.ah];exact List.mem_append.2 (.inl (by simp[AV.roots])))]
    ·rfl
  unfold vk qy
  rw[iM (f:=aU s.get) (f':=aU st.get) lv fun r hr=>(fw (a2 r hr)).symm]
  rw[cells _ fun r hr=>a1 r (od vs r hr),cells _ a3]
 have rootsL_flat: ∀(l:List Nat) (r:Nat),r∈l→ ∀x∈AV.ah (aU st.get r),x∈AV.ah (l.flatMap (aU st.get)):=by
  have app: ∀(a b:List AV),AV.ah (a++b)=AV.ah a++AV.ah b:=by
   intro a b
   induction a with
   |nil=>rfl
   |cons v a ih=>simp only[List.cons_append,AV.ah,ih,List.append_assoc]
  intro l
  induction l with
  |nil=>intro r hr;cases hr
  |cons y l ih=>
   intro r hr x hx
   rw[List.flatMap_cons,app,List.mem_append]
   rcases List.mem_cons.1 hr with rfl|hr
   ·exact .inl hx
   ·exact .inr (ih r hr x hx)
 have eln2:ln.map s.get=ln.map st.get:=List.map_congr_left fun r hr=>by
  have key: ∀(l:List AV),r∈l.flatMap (rT true st.get)→r∈AV.ah l:=by
   intro l
   induction l with
   |nil=>intro h;simp at h
   |cons v l ih=>
    intro h
    rw[List.flatMap_cons,List.mem_append]at h
    rw[AV.ah,List.mem_append]
    rcases h with h|h
    ·refine .inl ?_
     unfold rT at h
     split at h
     ·next q=>
      simp only[cond_true]at h
      split at h
      ·simp only[List.mem_singleton]at h;subst h;simp[AV.roots]
      ·cases h
     ·cases h
    ·exact .inr (ih h)
  rw[←hln]at hr
  rcases List.mem_append.1 hr with hr|hr
  ·exact(a1 r (od vs r (key _ hr))).symm
  ·exact(a3 r (key _ hr)).symm
 have eK: ∀r,st.get r=s.get r→(bif (bu.all ⟨lv,[],ln⟩).contains r then ao.dead else st.get r)=(bif (bu.all ⟨lv,[],ln⟩).contains r then ao.dead else s.get r):=fun r e=>by rw[e]
 have esub:jP ⟨lv,[],ln⟩ s vs=jP ⟨lv,[],ln⟩ st vs:=by
  unfold jP
  rw[←jv (get:=fun r=>bif (bu.all ⟨lv,[],ln⟩).contains r then ao.dead else st.get r) (get':=fun r=>bif (bu.all ⟨lv,[],ln⟩).contains r then ao.dead else s.get r) (bu.all ⟨lv,[],ln⟩) vs _ fun r hr=>eK r (a1 r hr)]
  generalize gp _ _ vs _=q
  obtain⟨okA,vsS,roA⟩:=q
  simp only
  rw[←mO (get:=st.get) (get':=s.get) (getK:=fun r=>bif (bu.all ⟨lv,[],ln⟩).contains r then ao.dead else st.get r) (getK':=fun r=>bif (bu.all ⟨lv,[],ln⟩).contains r then ao.dead else s.get r) (bu.all ⟨lv,[],ln⟩) lv _ a2 fun r hr x hx=>eK x (a3 x (rootsL_flat lv r hr x hx))]
  generalize gz _ _ _ lv _=q
  obtain⟨okV,vrs,roV⟩:=q
  simp only[List.nil_append,eln2]
 obtain⟨k1,hok⟩:=af.1 hok
 obtain⟨k2,hok⟩:=af.1 hok
 have k2':br s.rs (eF (bu.all ⟨lv,[],ln⟩))=true:=
  jJ (s:=st) k2 fun j r p ty xs e hr=>h4 j r p ty xs e (by
   rw[hqu]
   simpa[eF]using hr)
 rw[←h0]
 unfold ioC
 simp only[dW]
 rw[hlv,eln,hln,esub,hs]
 simp only[St.force_eq,fW,iM (f:=aU s.get) (f':=aU st.get) lv fun r hr=>(fw (a2 r hr)).symm]
 rw[show br s.rs (eF (bu.all ⟨lv,[],ln⟩))=br st.rs (eF (bu.all ⟨lv,[],ln⟩))from k2'.trans (show br st.rs _=true from k2).symm]
theorem yC{m f:Nat}{vs vs':List AV}{s:St}{base:Nat}{upd:List (Nat×ao)}{rd qu:List Nat}
  (h:ioD (R:=List AV×List (Nat×ao)×List Nat×List Nat) m env f vs st base (fun a b c d=>some (a,b,c,d))=some (vs',upd,rd,qu))
  (h2: ∀r∈rd,s.get r=st.get r) (h4: ∀j r p ty xs,s.get j= .pend r p ty xs→r∈qu→st.get j=s.get j):
  ioD (R:=List AV×List (Nat×ao)×List Nat×List Nat) m env f vs s base (fun a b c d=>some (a,b,c,d))=some (vs',upd,rd,qu):=by
 unfold ioD at h⊢
 cases hm:Nat.beq m 5 with
 |true=>rw[hm]at h;exact D5 h h2 h4
 |false=>rw[hm]at h;exact CX h h2 h4
theorem CW{get get':Get}(o:Oper)(avs:List AV)(base:Nat)(h:cU get get' (rV o avs)):a7 P o avs get base=a7 P o avs get' base:=by
 unfold rV at h
 split at h
 ·next x e=>unfold a7;rw[e]
 ·exact Ar o avs base h
theorem GO(hE:iC P env){b:Nat}{ops:Array Oper}{i:Nat}{o:Oper}{t:Touch}(h:opK (R:=Touch×St) P cfg env (b+16*i) true o st (fun t st=>some (t,st))=some (t,st'))(hal:t.alone=false):
  ∃upd v,st'=(st.aR upd).put o.dst v∧t.writes=upd.map (·.1)∧(∀k x,(k,x)∈upd→ ∀r,(r∈x.waits∨r∈(st.get k).waits)→r∈t.quiet)∧
   ∀s:St,(∀d∈o.looksAt ops,s.top.getD d .undef=st.top.getD d .undef)→(∀r∈t.reads,s.get r=st.get r)→(∀r∈t.writes,s.get r=st.get r)→
    (∀j r p ty xs,s.get j= .pend r p ty xs→r∈t.quiet→st.get j=s.get j)→
    opK (R:=Touch×St) P cfg env (b+16*i) true o s (fun t st=>some (t,st))=some (t,(s.aR upd).put o.dst v):=by
 have plain:(∀s:St,opK (R:=Touch×St) P cfg env (b+16*i) true o s (fun t st=>some (t,st))=zF (R:=Touch×St) o (o.op.operands.toList.map (aq s)) (a7 P o (o.op.operands.toList.map (aq s)) s.get (b+16*i)) s (fun t st=>some (t,st)))→
   ∃upd v,st'=(st.aR upd).put o.dst v∧t.writes=upd.map (·.1)∧(∀k x,(k,x)∈upd→ ∀r,(r∈x.waits∨r∈(st.get k).waits)→r∈t.quiet)∧
   ∀s:St,(∀d∈o.looksAt ops,s.top.getD d .undef=st.top.getD d .undef)→(∀r∈t.reads,s.get r=st.get r)→(∀r∈t.writes,s.get r=st.get r)→
    (∀j r p ty xs,s.get j= .pend r p ty xs→r∈t.quiet→st.get j=s.get j)→
    opK (R:=Touch×St) P cfg env (b+16*i) true o s (fun t st=>some (t,st))=some (t,(s.aR upd).put o.dst v):=by
  intro hp
  rw[hp,il]at h
  split at h
  ·next hok=>
   simp only[Option.some.injEq,Prod.mk.injEq]at h
   obtain⟨rfl,rfl⟩:=h
   have hcut:(a7 P o (o.op.operands.toList.map (aq st)) st.get (b+16*i)).cut=none:=by
    have hal:(a7 P o (o.op.operands.toList.map (aq st)) st.get (b+16*i)).cut.isSome=false:=hal
    cases hc:(a7 P o (o.op.operands.toList.map (aq st)) st.get (b+16*i)).cut with
    |none=>rfl
    |some c=>rw[hc]at hal;cases hal
   refine⟨(a7 P o (o.op.operands.toList.map (aq st)) st.get (b+16*i)).upd,(a7 P o (o.op.operands.toList.map (aq st)) st.get (b+16*i)).v,?_,rfl,fun k x hk r hr=> ?_,fun s h1 h2 h3 h4=> ?_⟩
   ·unfold sg;rw[hcut];rfl
   ·refine List.mem_append.2 (.inr ?_)
    unfold jR
    rw[List.mem_flatMap]
    exact⟨(k,x),hk,by rw[List.mem_append];exact hr.symm⟩
   ·rw[hp,Gl h1]
    have hout:a7 P o (o.op.operands.toList.map (aq st)) s.get (b+16*i)=a7 P o (o.op.operands.toList.map (aq st)) st.get (b+16*i):=CW o _ _ h2
    rw[hout,il]
    obtain⟨k1,k2⟩:=af.1 (jo.1 hok)
    have hq:br s.rs (a7 P o (o.op.operands.toList.map (aq st)) st.get (b+16*i)).quiet=true:=
     jJ (s:=st) k1 fun j r p ty xs e hr=>h4 j r p ty xs e (List.mem_append.2 (.inl hr))
    rw[if_pos (jo.2 (af.2 ⟨show(Tst.s (br s.rs _)).val=true from hq,k2⟩))]
    have ht:og o (o.op.operands.toList.map (aq st)) (a7 P o (o.op.operands.toList.map (aq st)) st.get (b+16*i)) s=og o (o.op.operands.toList.map (aq st)) (a7 P o (o.op.operands.toList.map (aq st)) st.get (b+16*i)) st:=by
     unfold og
     rw[iS h3]
    rw[ht]
    unfold sg
    rw[hcut];rfl
  ·cases h
 cases hop:o.op with
 |call c=>
  cases hc:c.callee with
  |builtin bb=>
   refine plain fun s=> ?_
   rw[nj];unfold qe sd
   rw[hop]
   have:iv P c=none:=by unfold iv;rw[hc]
   simp only[hc,this,Option.isSome_none,cond_false]
  |invoke r m=>
   rw[nj]at h;unfold qe sd at h
   rw[hop]at h
   have:iv P c=none:=by unfold iv;rw[hc]
   simp only[hc,this,Option.isSome_none,cond_false]at h
   cases h
  |value x=>
   cases hbk:(iv P c).isSome with
   |true=>
    refine plain fun s=> ?_
    rw[nj];unfold qe
    rw[hop]
    simp only[hbk,cond_true]
   |false=>
   have hcall: ∀s:St,opK (R:=Touch×St) P cfg env (b+16*i) true o s (fun t st=>some (t,st))=sd (R:=Touch×St) P cfg env (b+16*i) true o c s (fun t st=>some (t,st)):=by
    intro s;rw[nj];unfold qe;rw[hop];simp only[hbk,cond_false]
   rw[hcall]at h
   have hops:o.op.operands.toList=x::c.args.toList:=by
    rw[hop]
    show c.operands.toList=_
    unfold Call.operands;rw[hc];simp
   have hcK: ∀s:St,sd (R:=Touch×St) P cfg env (b+16*i) true o c s (fun t st=>some (t,st))=match aq s x with
     | .fn f first cap=>(bif Nat.beq (cfg.mode f) 0 then
       (match first,cap with
       | [],[]=>
        (match gI s.get (fc P f) ((c.args.toList.map (aq s)).flatMap AV.cells)with
        |(ok,x,rest)=>chk (.s (fitAll P (eT P f) (c.args.toList.map (aq s))):: .s rest.isEmpty::ok) (D.bnd (env.pc f x) fun r=>
         match fB P true (cb P f) r (b+16*i)with
         |(vs,rs)=>St.force ({s with rs:=dQ s.rs (al (b+16*i) rs)}.put o.dst (qh vs))
           (fun st=>some (⟨AV.ah (c.args.toList.map (aq s))++ia s.get ((c.args.toList.map (aq s)).flatMap AV.cells),(al (b+16*i) rs).map (·.1),jR s (al (b+16*i) rs),false⟩,st))))
       |_,_=>none)
      else bif Nat.beq (cfg.mode f) 6 then none else(bif Nat.ble 4 (cfg.mode f)then
       ioD (cfg.mode f) env f (first++c.args.toList.map (aq s)++cap) s (b+16*i) fun vs upd rd qu=>
        lg rd fun rd=>lg (upd.map (·.1)) fun wr=>lg (qu++jR s upd) fun qu=>
        St.force ({s with rs:=dQ s.rs upd}.put o.dst (qh vs)) (fun st=>some (⟨rd,wr,qu,false⟩,st))
       else none))
     |_=>none:=by
    intro s
    unfold sd
    simp only[hc]
    generalize aq s x=v
    cases v<;>rfl
   rw[hcK]at h
   split at h
   ·next f first cap hev=>
    cases hm:Nat.beq (cfg.mode f) 0 with
    |false=>
     rw[hm]at h
     simp only[cond_false]at h
     cases hm6:Nat.beq (cfg.mode f) 6 with
     |true=>rw[hm6]at h;cases h
     |false=>
     rw[hm6]at h
     simp only[cond_false]at h
     cases hm4:Nat.ble 4 (cfg.mode f)with
     |false=>rw[hm4]at h;cases h
     |true=>
     rw[hm4]at h
     simp only[cond_true]at h
     rw[nK]at h
     cases hin:ioD (R:=List AV×List (Nat×ao)×List Nat×List Nat) (cfg.mode f) env f (first++c.args.toList.map (aq st)++cap) st (b+16*i) (fun a b c d=>some (a,b,c,d))with
     |none=>rw[hin]at h;cases h
     |some p=>
      obtain⟨vs',upd,rd,qu⟩:=p
      rw[hin]at h
      simp only[Option.bind_some,dW,St.force_eq,Option.some.injEq,Prod.mk.injEq]at h
      obtain⟨rfl,rfl⟩:=h
      refine⟨upd,qh vs',rfl,rfl,fun k x hk r hr=> ?_,fun s h1 h2 h3 h4=> ?_⟩
      ·show r∈qu++jR st upd
       refine List.mem_append.2 (.inr ?_)
       unfold jR
       rw[List.mem_flatMap]
       exact⟨(k,x),hk,by rw[List.mem_append];exact hr.symm⟩
      ·have hex:aq s x=aq st x:=rA h1 x (by rw[hops];exact List.mem_cons_self)
       have hargs:c.args.toList.map (aq s)=c.args.toList.map (aq st):=List.map_congr_left fun y hy=>rA h1 y (by rw[hops];exact List.mem_cons_of_mem _ hy)
       rw[hcall,hcK,hex,hev]
       simp only[hm,hm6,cond_false,hm4,cond_true,hargs]
       rw[nK,yC hin (s:=s) h2 (fun j r p ty xs e hr=>h4 j r p ty xs e (List.mem_append.2 (.inl hr)))]
       simp only[Option.bind_some,dW,St.force_eq]
       rw[iS h3]
       rfl
    |true=>
     rw[hm]at h
     simp only[cond_true]at h
     split at h
     ·generalize hrd:gI st.get (fc P f) ((c.args.toList.map (aq st)).flatMap AV.cells)=rd at h
      obtain⟨ok,d,rest⟩:=rd
      simp only[ig]at h
      split at h
      ·next hok=>
       have h:(env.pc f d).bind _=_:=h
       cases hpc:env.pc f d with
       |none=>rw[hpc]at h;cases h
       |some y=>
        rw[hpc]at h
        simp only[Option.bind_some]at h
        generalize hla:fB P true (cb P f) y (b+16*i)=la at h
        obtain⟨vs,rs⟩:=la
        simp only[St.force_eq,Option.some.injEq,Prod.mk.injEq]at h
        obtain⟨rfl,rfl⟩:=h
        refine⟨al (b+16*i) rs,qh vs,rfl,rfl,fun k x hk r hr=> ?_,fun s h1 h2 h3 h4=> ?_⟩
        ·show r∈jR st (al (b+16*i) rs)
         unfold jR
         rw[List.mem_flatMap]
         exact⟨(k,x),hk,by rw[List.mem_append];exact hr.symm⟩
        ·have hex:aq s x=aq st x:=rA h1 x (by rw[hops];exact List.mem_cons_self)
         have hargs:c.args.toList.map (aq s)=c.args.toList.map (aq st):=List.map_congr_left fun y hy=>rA h1 y (by rw[hops];exact List.mem_cons_of_mem _ hy)
         have hcells:cU s.get st.get (AV.ah ((c.args.toList.map (aq st)).flatMap AV.cells)):=by
          have: ∀(l:List AV) (r:Nat),r∈AV.ah (l.flatMap AV.cells)→r∈AV.ah l:=by
           intro l
           induction l with
           |nil=>intro r h;exact h
           |cons v l ih=>
            intro r h
            rw[List.flatMap_cons]at h
            simp only[AV.ah,List.mem_append]
            rcases fJ h with h|h
            ·exact .inl (mn v r h)
            ·exact .inr (ih r h)
          exact fun r hr=>h2 r (List.mem_append.2 (.inl (this _ r hr)))
         have hlit:ia s.get ((c.args.toList.map (aq st)).flatMap AV.cells)=ia st.get ((c.args.toList.map (aq st)).flatMap AV.cells):=pC hcells
         have hv: ∀r n cs,AV.lit r n∈(c.args.toList.map (aq st)).flatMap AV.cells→st.get r= .var cs→cU st.get s.get (AV.ah cs):=
          fun r n cs hm hg x hx=>(h2 x (List.mem_append.2 (.inr (sj hm hg hx)))).symm
         rw[hcall,hcK,hex,hev]
         simp only[hm,cond_true,hargs]
         rw[←(tW (fc P f) _ (fun r hr=>(hcells r hr).symm) hv).1,hrd,hlit]
         simp only[ig,hok,if_true]
         show(env.pc f d).bind _=_
         rw[hpc]
         simp only[Option.bind_some,hla,St.force_eq]
         rw[iS h3]
         rfl
      ·cases h
     ·cases h
   ·cases h
 |_=>
  refine plain fun s=> ?_
  rw[nj];unfold qe
  rw[hop]
end
end
end Go.Am
end
section
/- Soundness of regions whose order is open, third part: places changed. -/
namespace Go.Am
noncomputable section
attribute [local instance] D.real
section
variable {P : Program} {cfg : Cfg} {env : Env P} {w0 : bV} {w w' : World} {st st' : St}
abbrev je(P:Program)(cfg:Cfg)(env:Env P)(b:Nat)(ops:Array Oper)(i:Nat)(st:St):Option (Touch×St):=jB (R:=Touch×St) P cfg env (some b) ops i st (fun t st=>some (t,st))
theorem wu(hE:iC P env){b:Nat}{ops:Array Oper}{i:Nat}{o:Oper}{t:Touch}(ho:ops[i]?=some o)(h:je P cfg env b ops i st=some (t,st'))(hal:t.alone=false):
  ∃upd v,st'=(st.aR upd).put o.dst v∧Local P cfg env b ops i o st t upd v:=by
 have run: ∀(hst: ∀s:St,(∀d∈o.looksAt ops,s.top.getD d .undef=st.top.getD d .undef)→je P cfg env b ops i s=opK (R:=Touch×St) P cfg env (b+16*i) true o s (fun t st=>gY ops i o st fun st=>some (t,st))),
   ∃upd v,st'=(st.aR upd).put o.dst v∧Local P cfg env b ops i o st t upd v:=by
  intro hst
  have hst': ∀s:St,(∀d∈o.looksAt ops,s.top.getD d .undef=st.top.getD d .undef)→je P cfg env b ops i s=(opK (R:=Touch×St) P cfg env (b+16*i) true o s (fun t st=>some (t,st))).bind fun p=>some (p.1,jY ops i o p.2):=by
   intro s hs
   rw[hst s hs,nr hE]
   congr 1
   funext p
   rw[nz]
  rw[hst' st (fun _ _=>rfl)]at h
  cases hop:opK (R:=Touch×St) P cfg env (b+16*i) true o st (fun t st=>some (t,st))with
  |none=>rw[hop]at h;cases h
  |some p=>
   obtain⟨t2,st2⟩:=p
   rw[hop]at h
   simp only[Option.bind_some,Option.some.injEq,Prod.mk.injEq]at h
   obtain⟨rfl,rfl⟩:=h
   obtain⟨upd,v,e1,e2,e3,e4⟩:=GO hE (ops:=ops) hop hal
   refine⟨upd,Hb ops i v,by rw[e1,yp],⟨e2,e3,fun s h1 h2 h3 h4=> ?_⟩⟩
   have:=hst' s h1
   show je P cfg env b ops i s=_
   rw[this,e4 s h1 h2 h3 h4]
   simp only[Option.bind_some]
   rw[yp]
 have skip: ∀(hst: ∀s:St,(∀d∈o.looksAt ops,s.top.getD d .undef=st.top.getD d .undef)→je P cfg env b ops i s=some (gl,s.put o.dst (.tup []))),
   ∃upd v,st'=(st.aR upd).put o.dst v∧Local P cfg env b ops i o st t upd v:=by
  intro hst
  rw[hst st (fun _ _=>rfl)]at h
  simp only[Option.some.injEq,Prod.mk.injEq]at h
  obtain⟨rfl,rfl⟩:=h
  exact⟨[],.tup [],rfl,⟨rfl,fun k x hk=>by simp at hk,fun s h1 _ _ _=>hst s h1⟩⟩
 have hunf: ∀s:St,je P cfg env b ops i s=match o.guard with
   |none=>opK (R:=Touch×St) P cfg env (b+16*i) true o s (fun t st=>gY ops i o st fun st=>some (t,st))
   |some (j,want)=>(match (ops[j]?).bind (·.dst)with
    |none=>none
    |some d=>(match s.top.getD d .undef with
     | .kb b'=>bif b'==want then opK (R:=Touch×St) P cfg env (b+16*i) true o s (fun t st=>gY ops i o st fun st=>some (t,st))else St.force (s.put o.dst (.tup [])) (fun st=>some (gl,st))
     | .tup _=>St.force (s.put o.dst (.tup [])) (fun st=>some (gl,st))
     |_=>none)):=by
  intro s
  unfold je jB
  rw[ho]
  rfl
 cases hg:o.guard with
 |none=>exact run fun s _=>by rw[hunf,hg]
 |some jw=>
  obtain⟨j,want⟩:=jw
  cases hd:(ops[j]?).bind (·.dst)with
  |none=>
   exfalso
   rw[hunf,hg]at h
   simp only[hd]at h
   cases h
  |some d=>
   have hlook:d∈o.looksAt ops:=by
    unfold Oper.looksAt
    rw[hg]
    exact List.mem_append_right _ (by simp only[hd];simp)
   have hu: ∀s:St,je P cfg env b ops i s=(match s.top.getD d .undef with
     | .kb b'=>bif b'==want then opK (R:=Touch×St) P cfg env (b+16*i) true o s (fun t st=>gY ops i o st fun st=>some (t,st))else St.force (s.put o.dst (.tup [])) (fun st=>some (gl,st))
     | .tup _=>St.force (s.put o.dst (.tup [])) (fun st=>some (gl,st))
     |_=>none):=by
    intro s;rw[hunf,hg];simp only[hd]
   generalize hv:st.top.getD d .undef=v
   cases v with
   |kb b'=>
    cases hbw:b'==want with
    |true=>exact run fun s hs=>by rw[hu,hs d hlook,hv];simp only[hbw,cond_true]
    |false=>exact skip fun s hs=>by rw[hu,hs d hlook,hv];simp only[hbw,cond_false,St.force_eq]
   |tup l=>exact skip fun s hs=>by rw[hu,hs d hlook,hv];simp only[St.force_eq]
   |_=>exfalso;rw[hu,hv]at h;cases h
theorem js(s:St)(d:Option Tmp)(v:AV):(s.put d v).get=s.get:=by
 funext r
 show(s.put d v).rs.getD r .dead=s.rs.getD r .dead
 rw[gq]
theorem Dc{s:St}{d:Option Tmp}{v:AV}{x:Nat}(h:d≠some x):(s.put d v).top.getD x .undef=s.top.getD x .undef:=by
 unfold St.put
 cases d with
 |none=>rfl
 |some d=>
  obtain⟨fr,rs⟩:=s
  cases fr with
  |nil=>rfl
  |cons f fs=>
   show(f.set d v).getD x .undef=f.getD x .undef
   rw[List.getD_eq_getElem?_getD,List.getElem?_set,List.getD_eq_getElem?_getD]
   have:d≠x:=fun e=>h (by rw[e])
   rw[if_neg this]
theorem Bd{s u:St}{d e:Option Tmp}{v x:AV}(hfr:s.fr=u.fr)(h: ∀k,d=some k→e≠some k):((s.put d v).put e x).fr=((u.put e x).put d v).fr:=by
 unfold St.put
 obtain⟨fr,rs⟩:=s
 obtain⟨fr',rs'⟩:=u
 simp only at hfr
 subst hfr
 cases d with
 |none=>cases e<;>cases fr<;>rfl
 |some d=>
  cases e with
  |none=>cases fr<;>rfl
  |some e=>
   cases fr with
   |nil=>rfl
   |cons f fs=>
    show(f.set d v).set e x::fs=(f.set e x).set d v::fs
    rw[List.set_comm _ _ (fun h'=>h d rfl (by rw[h']))]
theorem yo{s u:St}(d:Option Tmp)(v:AV)(h:s.fr=u.fr):(s.put d v).fr=(u.put d v).fr:=by
 unfold St.put
 obtain⟨fr,rs⟩:=s
 obtain⟨fr',rs'⟩:=u
 simp only at h
 subst h
 cases d<;>cases fr<;>rfl
def FJ(ops:Array Oper)(i j:Nat)(t u:Touch):Prop:=indep u t=true∧ ∃o o',ops[i]?=some o∧ops[j]?=some o'∧Oper.apart ops o o'=true
theorem pX{a b:List Nat}(h:GD a b=true): ∀x∈a,x∉b:=by
 intro x hx hb
 have:=List.all_eq_true.1 h x hx
 simp only[Bool.not_eq_true',List.contains_eq_mem,decide_eq_false_iff_not]at this
 exact this hb
theorem jV{l:List (Nat×ao)}{s:St}{r:Nat}(h:r∉l.map (·.1)):(s.aR l).get r=s.get r:=by
 rw[fO,iF l _ r h]
theorem EG(hE:iC P env){b:Nat}{ops:Array Oper}{i j:Nat}{s1 s2:St}{t u:Touch}(hi:je P cfg env b ops i st=some (t,s1))(hj:je P cfg env b ops j s1=some (u,s2))(hind:FJ ops i j t u):
  ∃s1' s2',je P cfg env b ops j st=some (u,s1')∧je P cfg env b ops i s1'=some (t,s2')∧Eqv s2 s2':=by
 obtain⟨hind,o,o',ho,ho',hap⟩:=hind
 obtain⟨a1,a2,a3⟩:=Oper.apart_spec hap
 unfold indep at hind
 simp only[Bool.and_eq_true,Bool.not_eq_true']at hind
 obtain⟨⟨⟨⟨⟨d1,d2⟩,d3⟩,d4⟩,d5⟩,d6⟩:=hind
 have d3:=pX d3
 have d4:=pX d4
 have d5:=pX d5
 have d6:=pX d6
 obtain⟨ua,va,rfl,La⟩:=wu hE ho hi d2
 obtain⟨ub,vb,rfl,Lb⟩:=wu hE ho' hj d1
 have hka:=La.keys
 have hkb:=Lb.keys
 have h1:je P cfg env b ops j st=some (u,(st.aR ub).put o'.dst vb):=by
  refine Lb.again st (fun d hd=> ?_) (fun r hr=> ?_) (fun r hr=> ?_) (fun k r p ty xs e hr=> ?_)
  ·rw[Dc fun e=>a1 d e hd];rfl
  ·rw[js,jV]
   rw[←hka];exact d5 r hr
  ·rw[js,jV]
   rw[←hka];exact d4 r hr
  ·rw[js]
   by_cases hk:k∈ua.map (·.1)
   ·exfalso
    obtain⟨⟨k',x⟩,hx,rfl⟩:=List.mem_map.1 hk
    have:=La.waits k' x hx r (.inr (by rw[e];simp[ao.waits]))
    exact d6 r hr this
   ·rw[jV hk]
 have h2:je P cfg env b ops i ((st.aR ub).put o'.dst vb)=some (t,(((st.aR ub).put o'.dst vb).aR ua).put o.dst va):=by
  refine La.again _ (fun d hd=> ?_) (fun r hr=> ?_) (fun r hr=> ?_) (fun k r p ty xs e hr=> ?_)
  ·rw[Dc fun e=>a3 d e hd];rfl
  ·rw[js,jV]
   rw[←hkb];exact fun h=>d3 r h hr
  ·rw[js,jV]
   rw[←hkb];exact fun h=>d4 r h hr
  ·rw[js]at e⊢
   rcases qU ub st.get k with⟨e1,_⟩|⟨x,e1,e2⟩
   ·rw[fO,e1]
   ·exfalso
    rw[fO,e2]at e
    have:=Lb.waits k x e1 r (.inl (by rw[e];simp[ao.waits]))
    exact d6 r this hr
 have c1:((((st.aR ua).put o.dst va).aR ub).put o'.dst vb).fr=(((st.aR ua).put o.dst va).put o'.dst vb).fr:=yo _ _ rfl
 have c2:((((st.aR ub).put o'.dst vb).aR ua).put o.dst va).fr=(((st.aR ub).put o'.dst vb).put o.dst va).fr:=yo _ _ rfl
 refine⟨_,_,h1,h2,?_,fun r=> ?_,?_⟩
 ·rw[c1,c2]
  exact Bd rfl (fun k hk=>a2 k hk)
 ·rw[js,js,fO,fO,js,js,fO,fO]
  rcases qU ub (fu ua st.get) r with⟨e1,e2⟩|⟨x,e1,e2⟩
  ·rw[e1]
   refine(mH ua _ _ r ?_).symm
   rw[iF ub _ r e2]
  ·have hr:r∈ub.map (·.1):=List.mem_map.2 ⟨(r,x),e1,rfl⟩
   have hn:r∉ua.map (·.1):=by rw[←hka];rw[←hkb]at hr;exact d4 r hr
   rw[iF ua _ r hn]
   refine mH ub _ _ r ?_
   rw[iF ua _ r hn]
 ·rw[gq,gq]
  show(dQ ((st.aR ua).put o.dst va).rs ub).length=(dQ ((st.aR ub).put o'.dst vb).rs ua).length
  rw[ju,ju,gq,gq]
  show max (dQ st.rs ua).length _=max (dQ st.rs ub).length _
  rw[ju,ju]
  omega
theorem F8(hE:iC P env){b:Nat}{ops:Array Oper}{i:Nat}{s s' s1:St}{t:Touch}(h:Eqv s s')(hi:je P cfg env b ops i s=some (t,s1)): ∃s1',je P cfg env b ops i s'=some (t,s1')∧Eqv s1 s1':=by
 have htop:s'.top=s.top:=by unfold St.top;rw[h.1]
 have hget:s'.get=s.get:=funext fun r=>(h.2.1 r).symm
 have hev: ∀x,aq s' x=aq s x:=by intro x;cases x<;>first|rfl|(show(s'.top.getD _ _).toI=(s.top.getD _ _).toI;rw[htop])
 have hevs: ∀l:List Operand,l.map (aq s')=l.map (aq s):=fun l=>List.map_congr_left fun x _=>hev x
 have put_eqv: ∀{x y:St} (d:Option Tmp) (v:AV),Eqv x y→Eqv (x.put d v) (y.put d v):=by
  intro x y d v h
  refine⟨?_,fun r=>by rw[js,js];exact h.2.1 r,by rw[gq,gq];exact h.2.2⟩
  unfold St.put
  cases d with
  |none=>exact h.1
  |some d=>
   obtain⟨fr,rs⟩:=x
   obtain⟨fr',rs'⟩:=y
   have:=h.1
   simp only at this
   subst this
   cases fr<;>rfl
 have setL_eqv: ∀(l:List (Nat×ao)),Eqv (s.aR l) (s'.aR l):=fun l=>⟨h.1,fun r=>by rw[fO,fO,hget],by
  show(dQ s.rs l).length=(dQ s'.rs l).length
  rw[ju,ju,h.2.2]⟩
 have cut_eqv: ∀{x y:St} (c:Option (Nat×Nat)),Eqv x y→Eqv (x.cut c) (y.cut c):=by
  intro x y c h
  exact⟨by rw[zb,zb,h.1],fun r=>by rw[w7,w7,h.2.1],by rw[nZ,nZ,h.2.2]⟩
 have split_eqv: ∀{x y:St} (o:Oper),Eqv x y→Eqv (jY ops i o x) (jY ops i o y):=by
  intro x y o h
  have ht:y.top=x.top:=by unfold St.top;rw[h.1]
  unfold jY
  generalize o.dst=dd
  cases dd with
  |none=>exact h
  |some d=>
   simp only[ht]
   generalize x.top.getD d .undef=v
   cases v with
   |bool bb=>
    simp only
    cases nX ops i with
    |true=>exact put_eqv (some d) _ h
    |false=>exact h
   |_=>exact h
 have opk: ∀(o:Oper) (t:Touch) (s2:St),opK (R:=Touch×St) P cfg env (b+16*i) true o s (fun t st=>some (t,st))=some (t,s2)→ ∃s2',opK (R:=Touch×St) P cfg env (b+16*i) true o s' (fun t st=>some (t,st))=some (t,s2')∧Eqv s2 s2':=by
  intro o t s2 hop
  have outk: ∀(avs:List AV),zF (R:=Touch×St) o avs (a7 P o avs s.get (b+16*i)) s (fun t st=>some (t,st))=some (t,s2)→ ∃s2',zF (R:=Touch×St) o avs (a7 P o avs s.get (b+16*i)) s' (fun t st=>some (t,st))=some (t,s2')∧Eqv s2 s2':=by
   intro avs ho
   rw[il]at ho⊢
   split at ho
   ·next hok=>
    simp only[Option.some.injEq,Prod.mk.injEq]at ho
    obtain⟨rfl,rfl⟩:=ho
    obtain⟨k1,k2⟩:=af.1 (jo.1 hok)
    have hq:br s'.rs (a7 P o avs s.get (b+16*i)).quiet=true:=jJ (s:=s) k1 fun j r p ty xs _ _=>h.2.1 j
    rw[if_pos (jo.2 (af.2 ⟨show(Tst.s (br s'.rs _)).val=true from hq,k2⟩))]
    have ht:og o avs (a7 P o avs s.get (b+16*i)) s'=og o avs (a7 P o avs s.get (b+16*i)) s:=by
     unfold og
     rw[iS (s:=s') (st:=s) fun r _=>(h.2.1 r).symm]
    rw[ht]
    exact⟨_,rfl,put_eqv _ _ (cut_eqv _ (setL_eqv _))⟩
   ·cases ho
  rw[nj]at hop⊢
  unfold qe at hop⊢
  split at hop
  ·next c hopc=>
   cases hbk:(iv P c).isSome with
   |true=>
    rw[hbk]at hop
    simp only[cond_true]at hop⊢
    rw[hevs,hget];exact outk _ hop
   |false=>
   rw[hbk]at hop
   simp only[cond_false]at hop⊢
   unfold sd at hop⊢
   split at hop
   ·rw[hevs,hget];exact outk _ hop
   ·cases hop
   ·next x hcx=>
    simp only
    rw[hev x]
    split at hop
    ·next f first cap hevx=>
     cases hm:Nat.beq (cfg.mode f) 0 with
     |false=>
      rw[hm]at hop
      simp only[cond_false,cond_true]at hop⊢
      cases hm6:Nat.beq (cfg.mode f) 6 with
      |true=>rw[hm6]at hop;cases hop
      |false=>
      rw[hm6]at hop
      simp only[cond_false]at hop⊢
      cases hm4:Nat.ble 4 (cfg.mode f)with
      |false=>rw[hm4]at hop;cases hop
      |true=>
       rw[hm4]at hop
       simp only[cond_true]at hop⊢
       rw[hevs]
       rw[nK]at hop⊢
       cases hin:ioD (R:=List AV×List (Nat×ao)×List Nat×List Nat) (cfg.mode f) env f (first++c.args.toList.map (aq s)++cap) s (b+16*i) (fun a b c d=>some (a,b,c,d))with
       |none=>rw[hin]at hop;cases hop
       |some p=>
        obtain⟨vs',upd,rd,qu⟩:=p
        rw[hin]at hop
        rw[yC hin (s:=s') (fun r _=>(h.2.1 r).symm) fun j r p ty xs _ _=>h.2.1 j]
        simp only[Option.bind_some,dW,St.force_eq,Option.some.injEq,Prod.mk.injEq]at hop⊢
        obtain⟨rfl,rfl⟩:=hop
        exact⟨_,⟨by rw[iS (s:=s') (st:=s) fun r _=>(h.2.1 r).symm],rfl⟩,put_eqv _ _ (setL_eqv _)⟩
     |true=>
      rw[hm]at hop
      simp only[cond_true]at hop⊢
      split at hop
      ·rw[hevs,hget]
       generalize hrd:gI s.get (fc P f) ((c.args.toList.map (aq s)).flatMap AV.cells)=rd at hop⊢
       obtain⟨ok,d,rest⟩:=rd
       simp only[ig]at hop⊢
       split at hop
       ·next hok=>
        have hb: ∀(F:den (resTy P f)→Option (Touch×St)),D.bnd (env.pc f d) F=(env.pc f d).bind F:=fun _=>rfl
        rw[hb]at hop
        rw[if_pos hok,hb]
        cases hpc:env.pc f d with
        |none=>rw[hpc]at hop;cases hop
        |some y=>
         rw[hpc]at hop
         simp only[Option.bind_some]at hop⊢
         generalize hla:fB P true (cb P f) y (b+16*i)=la at hop⊢
         obtain⟨vs,rs⟩:=la
         simp only[St.force_eq,Option.some.injEq,Prod.mk.injEq]at hop⊢
         obtain⟨rfl,rfl⟩:=hop
         exact⟨_,⟨by rw[iS (s:=s') (st:=s) fun r _=>(h.2.1 r).symm],rfl⟩,put_eqv _ _ (setL_eqv _)⟩
       ·cases hop
      ·cases hop
    ·cases hop
  ·next hno=>rw[hevs,hget];exact outk _ hop
 have run: ∀(o:Oper) (t:Touch) (s2:St),opK (R:=Touch×St) P cfg env (b+16*i) true o s (fun t st=>gY ops i o st fun st=>some (t,st))=some (t,s2)→
   ∃s2',opK (R:=Touch×St) P cfg env (b+16*i) true o s' (fun t st=>gY ops i o st fun st=>some (t,st))=some (t,s2')∧Eqv s2 s2':=by
  intro o t s2 hop
  rw[nr hE]at hop
  cases hopp:opK (R:=Touch×St) P cfg env (b+16*i) true o s (fun t st=>some (t,st))with
  |none=>rw[hopp]at hop;cases hop
  |some p=>
   obtain⟨t3,s3⟩:=p
   rw[hopp]at hop
   simp only[Option.bind_some,nz,Option.some.injEq,Prod.mk.injEq]at hop
   obtain⟨rfl,rfl⟩:=hop
   obtain⟨s3',k1,k2⟩:=opk o t3 s3 hopp
   refine⟨jY ops i o s3',?_,split_eqv o k2⟩
   rw[nr hE,k1]
   simp only[Option.bind_some,nz]
 unfold je jB at hi⊢
 split at hi
 ·cases hi
 ·next o ho=>
  split at hi
  ·next hg=>
   simp only[hg]
   exact run o t s1 hi
  ·next j want hg=>
   simp only[hg]
   split at hi
   ·cases hi
   ·next d hd=>
    simp only[hd,htop]
    generalize s.top.getD d .undef=v at hi
    cases v with
    |kb bb=>
     simp only at hi⊢
     cases hbw:bb==want with
     |true=>rw[hbw]at hi;simp only[cond_true]at hi⊢;exact run o t s1 hi
     |false=>
      rw[hbw]at hi
      simp only[cond_false,St.force_eq,Option.some.injEq,Prod.mk.injEq]at hi⊢
      obtain⟨rfl,rfl⟩:=hi
      exact⟨_,⟨rfl,rfl⟩,put_eqv _ _ h⟩
    |tup l=>
     simp only[St.force_eq,Option.some.injEq,Prod.mk.injEq]at hi⊢
     obtain⟨rfl,rfl⟩:=hi
     exact⟨_,⟨rfl,rfl⟩,put_eqv _ _ h⟩
    |_=>cases hi
end
end
end Go.Am
end
section
/- Soundness of regions whose order is open, fourth part: all orders. -/
namespace Go.Am
noncomputable section
attribute [local instance] D.real
theorem Ds(acc:Nat→Nat): ∀(l:List Edge) (s j:Nat),(l.foldl (fun s e=>if Region.binds .any e=true then s|||2^e.on|||acc e.on else s) s).testBit j=true→
  s.testBit j=true∨ ∃e∈l,Region.binds .any e=true∧(e.on=j∨(acc e.on).testBit j=true)
 | [],s,j,h=> .inl h
 |e::l,s,j,h=>by
  rw[List.foldl_cons]at h
  rcases Ds acc l _ j h with h|⟨e',h1,h2⟩
  ·split at h
   ·next hb=>
    rw[Nat.testBit_or,Nat.testBit_or,Bool.or_eq_true,Bool.or_eq_true,Nat.testBit_two_pow]at h
    rcases h with(h|h)|h
    ·exact .inl h
    ·exact .inr ⟨e,List.mem_cons_self,hb,.inl (of_decide_eq_true h)⟩
    ·exact .inr ⟨e,List.mem_cons_self,hb,.inr h⟩
   ·exact .inl h
  ·exact .inr ⟨e',List.mem_cons_of_mem _ h1,h2⟩
theorem yj(f:Array Nat→Oper→Nat): ∀(l:List Oper) (acc:Array Nat),acc.size≤(l.foldl (fun acc o=>acc.push (f acc o)) acc).size∧(∀k,k<acc.size→(l.foldl (fun acc o=>acc.push (f acc o)) acc).getD k 0=acc.getD k 0)∧
  ∀i o,l[i]?=some o→ ∃acc',acc'.size=acc.size+i∧(∀k,k<acc'.size→(l.foldl (fun acc o=>acc.push (f acc o)) acc).getD k 0=acc'.getD k 0)∧(l.foldl (fun acc o=>acc.push (f acc o)) acc).getD (acc.size+i) 0=f acc' o
 | [],acc=>⟨Nat.le_refl _,fun _ _=>rfl,fun i o h=>by simp at h⟩
 |x::l,acc=>by
  rw[List.foldl_cons]
  obtain⟨h1,h2,h3⟩:=yj f l (acc.push (f acc x))
  have hs:(acc.push (f acc x)).size=acc.size+1:=by simp
  have hp: ∀k,k<acc.size→(acc.push (f acc x)).getD k 0=acc.getD k 0:=by
   intro k hk
   simp only[Array.getD_eq_getD_getElem?,Array.getElem?_push]
   rw[if_neg (by omega)]
  refine⟨by omega,fun k hk=>by rw[h2 k (by omega),hp k hk],fun i o hi=> ?_⟩
  cases i with
  |zero=>
   simp only[List.getElem?_cons_zero,Option.some.injEq]at hi
   subst hi
   refine⟨acc,rfl,fun k hk=>by rw[h2 k (by omega),hp k hk],?_⟩
   rw[Nat.add_zero,h2 acc.size (by omega)]
   simp
  |succ i=>
   obtain⟨acc',k1,k2,k3⟩:=h3 i o (by simpa using hi)
   exact⟨acc',by omega,k2,by rw[←k3,hs];congr 1;omega⟩
theorem pd{ops:Array Oper}{i j:Nat}{o:Oper}(ho:ops[i]?=some o)(h:((Region.before ops).getD i 0).testBit j=true):
  ∃e∈o.after,Region.binds .any e=true∧(e.on=j∨((Region.before ops).getD e.on 0).testBit j=true):=by
 have e0:Region.before ops=ops.toList.foldl (fun acc o=>acc.push (o.after.toList.foldl (fun s e=>if Region.binds .any e=true then s|||2^e.on|||acc.getD e.on 0 else s) 0)) #[]:=by
  unfold Region.before
  rw[←Array.foldl_toList]
  congr 1
  funext acc o
  rw[←Array.foldl_toList]
 obtain⟨_,_,h3⟩:=yj (fun acc o=>o.after.toList.foldl (fun s e=>if Region.binds .any e=true then s|||2^e.on|||acc.getD e.on 0 else s) 0) ops.toList #[]
 obtain⟨acc',k1,k2,k3⟩:=h3 i o (by simpa using ho)
 rw[←e0]at k2 k3
 simp only[List.size_toArray,List.length_nil,Nat.zero_add]at k1 k3
 rw[k3]at h
 rcases Ds (fun k=>acc'.getD k 0) o.after.toList 0 j h with h|⟨e,h1,h2,h3⟩
 ·simp at h
 ·refine⟨e,by simpa using h1,h2,h3.imp id fun h=> ?_⟩
  rcases Nat.lt_or_ge e.on acc'.size with hlt|hge
  ·rw[k2 e.on hlt];exact h
  ·rw[Array.getD_eq_getD_getElem?,Array.getElem?_eq_none hge]at h
   simp at h
section
variable {P : Program} {cfg : Cfg} {env : Env P} {w0 : bV} {w w' : World} {st st' : St}
inductive yM (P : Program) (cfg : Cfg) (env : Env P) (b : Nat) (ops : Array Oper) : List Nat → St → List (Nat × Touch) → St → Prop
  | nil (s : St) : yM P cfg env b ops [] s [] s
  | cons {i : Nat} {l : List Nat} {s s1 s2 : St} {t : Touch} {T : List (Nat × Touch)} (h : je P cfg env b ops i s = some (t, s1)) (k : yM P cfg env b ops l s1 T s2) : yM P cfg env b ops (i :: l) s ((i, t) :: T) s2
theorem Dh(hE:iC P env){b:Nat}{ops:Array Oper}: ∀(l:List Nat) (tr tr':List (Nat×Touch)) (s s':St),eE (R:=List (Nat×Touch)×St) P cfg env (some b) ops l tr s (fun tr st=>some (tr,st))=some (tr',s')→
  ∃T,yM P cfg env b ops l s T s'∧tr'=T.reverse++tr
 | [],tr,tr',s,s',h=>by
  simp only[eE,Option.some.injEq,Prod.mk.injEq]at h
  obtain⟨rfl,rfl⟩:=h
  exact⟨[],.nil _,rfl⟩
 |i::l,tr,tr',s,s',h=>by
  have h:jB P cfg env (some b) ops i s (fun t st=>eE (R:=List (Nat×Touch)×St) P cfg env (some b) ops l ((i,t)::tr) st fun tr st=>some (tr,st))=some (tr',s'):=h
  rw[ke hE]at h
  cases hs:jB (R:=Touch×St) P cfg env (some b) ops i s (fun t st=>some (t,st))with
  |none=>rw[hs]at h;cases h
  |some p=>
   obtain⟨t,s1⟩:=p
   rw[hs]at h
   simp only[Option.bind_some]at h
   obtain⟨T,h1,rfl⟩:=Dh hE l _ tr' s1 s' h
   exact⟨(i,t)::T,.cons hs h1,by simp⟩
theorem Fh(hE:iC P env){b:Nat}{ops:Array Oper}{l:List Nat}{s s2:St}{T:List (Nat×Touch)}(h:yM P cfg env b ops l s T s2): ∀u,Eqv s u→ ∃u2,yM P cfg env b ops l u T u2∧Eqv s2 u2:=by
 induction h with
 |nil s=>exact fun u hu=>⟨u,.nil _,hu⟩
 |cons h k ih=>
  intro u hu
  obtain⟨u1,h1,h2⟩:=F8 hE hu h
  obtain⟨u2,h3,h4⟩:=ih u1 h2
  exact⟨u2,.cons h1 h3,h4⟩
def HF(ops:Array Oper)(x y:Nat×Touch):Prop:=((Region.before ops).getD y.1 0).testBit x.1=true∨FJ ops x.1 y.1 x.2 y.2
theorem vZ(hE:iC P env){b:Nat}{ops:Array Oper}{i:Nat}{l2:List Nat}: ∀(l1:List Nat) (s s2:St) (T:List (Nat×Touch)),yM P cfg env b ops (l1++i::l2) s T s2→T.Pairwise (HF ops)→(∀j∈l1,¬((Region.before ops).getD i 0).testBit j=true)→
  ∃T1 t T2 s2',T=T1++(i,t)::T2∧yM P cfg env b ops (i::(l1++l2)) s ((i,t)::(T1++T2)) s2'∧Eqv s2 s2'
 | [],s,s2,T,h,_,_=>by
  cases h with
  |cons h k=>exact⟨[],_,_,s2,rfl,.cons h k,Eqv.refl _⟩
 |j::l1,s,s2,T,h,hp,hb=>by
  cases h with
  |cons hj k=>
   rename_i s1 t T'
   rw[List.pairwise_cons]at hp
   obtain⟨T1,ti,T2,s2',rfl,k1,k2⟩:=vZ hE l1 s1 s2 _ k hp.2 (fun x hx=>hb x (List.mem_cons_of_mem _ hx))
   cases k1 with
   |cons hi k1=>
    rename_i s3
    have hok:=hp.1 (i,ti) (by simp)
    have hind:FJ ops j i t ti:=by
     rcases hok with h|h
     ·exact absurd h (hb j List.mem_cons_self)
     ·exact h
    obtain⟨a1,a2,m1,m2,m3⟩:=EG hE hj hi hind
    obtain⟨u2,n1,n2⟩:=Fh hE k1 a2 m3
    exact⟨(j,t)::T1,ti,T2,u2,rfl,.cons m1 (.cons m2 n1),k2.trans n2⟩
theorem zI{ops:Array Oper}: ∀(T:List (Nat×Touch)),my ops (Region.before ops).toList T.reverse=true→T.Pairwise (HF ops):=by
 intro T
 have: ∀(R:List (Nat×Touch)),my ops (Region.before ops).toList R=true→R.Pairwise (fun y x=>HF ops x y):=by
  intro R
  induction R with
  |nil=>intro _;exact .nil
  |cons y R ih=>
   obtain⟨j,t⟩:=y
   intro h
   unfold my at h
   rw[Bool.and_eq_true]at h
   rw[List.pairwise_cons]
   refine⟨fun x hx=> ?_,ih h.2⟩
   have h1:=List.all_eq_true.1 h.1 x hx
   rw[Bool.or_eq_true]at h1
   rcases h1 with h1|h1
   ·refine .inl ?_
    have e:(Region.before ops).toList.getD j 0=(Region.before ops).getD j 0:=by simp[List.getD_eq_getElem?_getD,Array.getD_eq_getD_getElem?]
    rw[e]at h1;exact h1
   ·rw[Bool.and_eq_true]at h1
    refine .inr ⟨h1.1,?_⟩
    have h2:=h1.2
    cases ha:ops[x.1]? with
    |none=>rw[ha]at h2;cases h2
    |some o=>
     cases hb:ops[j]? with
     |none=>rw[ha,hb]at h2;cases h2
     |some o'=>rw[ha,hb]at h2;exact⟨o,o',rfl,rfl,h2⟩
 intro h
 exact List.pairwise_reverse.1 (this _ h)
theorem jK{ops:Array Oper}(h:mr ops=true){i:Nat}{o:Oper}(ho:ops[i]?=some o): ∀e∈o.after,Region.binds .any e=true→e.on<i:=by
 intro e he hb
 have hi:i<ops.size:=(Array.getElem?_eq_some_iff.1 ho).1
 have h1:=List.all_eq_true.1 h i (List.mem_range.2 hi)
 rw[ho]at h1
 have h2:=List.all_eq_true.1 h1 e (by simpa using he)
 rw[hb]at h2
 exact dw h2
theorem ql(bf:List Nat): ∀n i,gZ bf n≤i→i<n→isFull bf i=true
 |0,i,_,h=>by omega
 |n+1,i,h1,h2=>by
  unfold gZ at h1
  cases hf:isFull bf n with
  |false=>rw[hf]at h1;simp only[cond_false]at h1;omega
  |true=>
   rw[hf]at h1
   simp only[cond_true]at h1
   by_cases e:i=n
   ·rw[e];exact hf
   ·exact ql bf n i h1 (by omega)
theorem ug(bf:List Nat): ∀n,gZ bf n≤n
 |0=>Nat.le_refl _
 |n+1=>by
  unfold gZ
  cases isFull bf n with
  |false=>exact Nat.le_refl _
  |true=>have:=ug bf n;simp only[cond_true];omega
theorem AY{ops:Array Oper}{i:Nat}(h:isFull (Region.before ops).toList i=true): ∀j,j<i→((Region.before ops).getD i 0).testBit j=true:=by
 intro j hj
 have:=List.all_eq_true.1 h j (List.mem_range.2 hj)
 have e:(Region.before ops).toList.getD i 0=(Region.before ops).getD i 0:=by simp[List.getD_eq_getElem?_getD,Array.getD_eq_getD_getElem?]
 rw[e]at this;exact this
theorem EP{ops:Array Oper}(hed:mr ops=true): ∀(i j:Nat),i<ops.size→((Region.before ops).getD i 0).testBit j=true→j<i:=by
 intro i
 induction i using Nat.strongRecOn with
 |ind i ih=>
  intro j hi h
  obtain⟨e,he,hb,hc⟩:=pd (show ops[i]?=some ops[i] by simp[hi]) h
  have hlt:=jK hed (show ops[i]?=some ops[i] by simp[hi]) e he hb
  rcases hc with rfl|hc
  ·exact hlt
  ·have:=ih e.on hlt j (by omega) hc
   omega
theorem zc(hE:iH P env)(hN:sA P){ro:Option Nat}{n:Nat}{ops:Array Oper}{Q:Exit→Act→World→Prop}{asx:List Act}{R0:Type}{r0:R0}{Kc:List (Nat×Touch)→St→Option R0}(hed:mr ops=true)
  (hK: ∀tr' st' a' w' g' born',Kc tr' st'=some r0→dj w0 st' g' born' (a'::asx) w'→(∀r,born' r→r<st'.rs.length)→Q .normal a' w'):
  ∀(k i:Nat) (listed:Array Bool) (tr:List (Nat×Touch)) (s:St) (g:aG) (born:Nat→Prop) (a:Act) (w:World),i+k=ops.size→listed.size=ops.size→(∀j,j<ops.size→(listed.getD j false=true↔j<i))→
   (∀j,i≤j→j<ops.size→ ∀q,q<j→((Region.before ops).getD j 0).testBit q=true)→eE P cfg env none ops (List.range' i k) tr s Kc=some r0→dj w0 s g born (a::asx) w→(∀r,born r→r<s.rs.length)→
   wpAnyIn (rd ro) n P .any ops Q k listed a w:=by
 intro k
 induction k with
 |zero=>
  intro i listed tr s g born a w hi hsz hl _ h R hlt
  refine⟨?_,hK tr s a w g born h R hlt⟩
  cases hr:Region.ready .any ops listed with
  |nil=>rfl
  |cons x xs=>
   obtain⟨h1,o,ho,_⟩:=mem_ready.1 (show x∈Region.ready .any ops listed by rw[hr];exact List.mem_cons_self)
   have hx:x<ops.size:=(Array.getElem?_eq_some_iff.1 ho).1
   have:=(hl x hx).2 (by omega)
   rw[Array.getD_eq_getD_getElem?]at h1 this
   have hx':x<listed.size:=by omega
   rw[Array.getElem?_eq_getElem hx']at h1 this
   simp only[Option.getD_some]at h1 this
   rw[this]at h1;cases h1
 |succ k ih=>
  intro i listed tr s g born a w hi hsz hl hfull h R hlt
  have hgd: ∀j,j<ops.size→listed.getD j true=listed.getD j false:=by
   intro j hj
   rw[Array.getD_eq_getD_getElem?,Array.getD_eq_getD_getElem?]
   have:j<listed.size:=by omega
   rw[Array.getElem?_eq_getElem this];rfl
  have hii:i<ops.size:=by omega
  refine⟨fun hr=> ?_,fun j hj=> ?_⟩
  ·exfalso
   have:i∈Region.ready .any ops listed:=by
    refine mem_ready.2 ⟨?_,ops[i],by simp[hii],fun e he hb=> ?_⟩
    ·rw[hgd i hii]
     cases hc:listed.getD i false with
     |false=>rfl
     |true=>have:=(hl i hii).1 hc;omega
    ·have:=jK hed (show ops[i]?=some ops[i] by simp[hii]) e he hb
     exact(hl e.on (by omega)).2 this
   rw[hr]at this;cases this
  ·obtain⟨h1,o,ho,h2⟩:=mem_ready.1 hj
   have hjo:j<ops.size:=(Array.getElem?_eq_some_iff.1 ho).1
   rw[hgd j hjo]at h1
   have hji:i≤j:=by
    refine Nat.le_of_not_lt fun hlt=> ?_
    have:=(hl j hjo).2 hlt
    rw[this]at h1;cases h1
   have hje:j=i:=by
    refine Nat.le_antisymm (Nat.le_of_not_lt fun hlt=> ?_) hji
    have hb:=hfull j hji hjo i hlt
    obtain⟨e,he,hbi,hc⟩:=pd ho hb
    have hle:=h2 e he hbi
    have helt:=jK hed ho e he hbi
    have hei:=(hl e.on (by omega)).1 hle
    rcases hc with hc|hc
    ·omega
    ·have:=EP hed e.on i (by omega) hc
     omega
   subst hje
   rw[List.range'_succ]at h
   have h:jB P cfg env none ops j s (fun t st=>eE P cfg env none ops (List.range' (j+1) k) ((j,gl)::tr) st Kc)=some r0:=h
   rw[ke hE.det]at h
   cases hs:jB (R:=Touch×St) P cfg env none ops j s (fun t st=>some (t,st))with
   |none=>rw[hs]at h;cases h
   |some p=>
    obtain⟨t,st2⟩:=p
    rw[hs]at h
    simp only[Option.bind_some]at h
    refine mL hE hN hs R (fun x _ hx1 hb=>by have:=hlt x hb;have hx1:s.rs.length≤x:=hx1;omega) hlt fun a' w' g' b' R' hlt' _ _=> ?_
    refine ih (j+1) (listed.setIfInBounds j true) _ st2 g' b' a' w' (by omega) (by simpa using hsz) (fun q hq=> ?_) (fun q h1 h2=>hfull q (by omega) h2) h R' hlt'
    rw[Array.getD_eq_getD_getElem?,Array.getElem?_setIfInBounds]
    by_cases e:j=q
    ·subst e
     have:j<listed.size:=by omega
     simp[this]
    ·rw[if_neg e,←Array.getD_eq_getD_getElem?,hl q hq]
     omega
theorem Ea(hE:iH P env)(hN:sA P){ro:Option Nat}{n:Nat}{b:Nat}{ops:Array Oper}{Q:Exit→Act→World→Prop}{asx:List Act}{sE:St}{m:Nat}(hed:mr ops=true)(hmle:m≤ops.size)(hfull: ∀j,m≤j→j<ops.size→ ∀q,q<j→((Region.before ops).getD j 0).testBit q=true)
  (hQ: ∀listed s a' w' g' born',Eqv sE s→dj w0 s g' born' (a'::asx) w'→(∀r,born' r→r<s.rs.length)→listed.size=ops.size→(∀j,j<ops.size→(listed.getD j false=true↔j<m))→wpAnyIn (rd ro) n P .any ops Q (ops.size-m) listed a' w'):
  ∀(fuel:Nat) (listed:Array Bool) (l:List Nat) (T:List (Nat×Touch)) (s s2:St) (g:aG) (born:Nat→Prop) (a:Act) (w:World),yM P cfg env b ops l s T s2→Eqv sE s2→T.Pairwise (HF ops)→
   (∀x∈T,∀r∈x.2.writes,r<b∨(b+16*x.1≤r∧r<b+16*x.1+16)∨(r<b+16*x.1∧ ∃j,((Region.before ops).getD x.1 0).testBit j=true∧b+16*j≤r∧r<b+16*j+16))→listed.size=ops.size→(∀i,i∈l↔i<m∧listed.getD i false=false)→(∀i,m≤i→listed.getD i false=false)→l.Pairwise (· < ·)→l.length=fuel→
   (∀i j,i<ops.size→listed.getD i false=true→((Region.before ops).getD i 0).testBit j=true→listed.getD j false=true)→
   dj w0 s g born (a::asx) w→(∀r,born r→r<s.rs.length)→(∀r,born r→r<b∨ ∃j,listed.getD j false=true∧b+16*j≤r∧r<b+16*j+16)→
   wpAnyIn (rd ro) n P .any ops Q (fuel+(ops.size-m)) listed a w:=by
 intro fuel
 induction fuel with
 |zero=>
  intro listed l T s s2 g born a w h he _ _ hsz hl hsuf _ hlen _ R hlt _
  have hl0:l= []:=List.length_eq_zero_iff.1 hlen
  subst hl0
  rw[Nat.zero_add]
  cases h
  refine hQ listed s a w g born he R hlt hsz fun j hj=>⟨fun hj1=> ?_,fun hj1=> ?_⟩
  ·refine Nat.lt_of_not_le fun hle=> ?_
   rw[hsuf j hle]at hj1;cases hj1
  ·cases hc:listed.getD j false with
   |true=>rfl
   |false=>have:=(hl j).2 ⟨hj1,hc⟩;cases this
 |succ fuel ih=>
  intro listed l T s s2 g born a w h he hp hpl hsz hl hsuf hinc hlen hclo R hlt hwin
  rw[show fuel+1+(ops.size-m)=fuel+(ops.size-m)+1 by omega]
  have hgd: ∀i,i<ops.size→listed.getD i true=listed.getD i false:=by
   intro i hi
   rw[Array.getD_eq_getD_getElem?,Array.getD_eq_getD_getElem?]
   have:i<listed.size:=by omega
   rw[Array.getElem?_eq_getElem this];rfl
  refine⟨fun hr=> ?_,fun i hi=> ?_⟩
  ·
   exfalso
   cases l with
   |nil=>cases hlen
   |cons x xs=>
    obtain⟨hxm,hx2⟩:=(hl x).1 List.mem_cons_self
    have hx1:x<ops.size:=by omega
    have:x∈Region.ready .any ops listed:=by
     refine mem_ready.2 ⟨by rw[hgd x hx1];exact hx2,ops[x],by simp[hx1],fun e he hb=> ?_⟩
     have hlt:=jK hed (show ops[x]?=some ops[x] by simp[hx1]) e he hb
     cases hle:listed.getD e.on false with
     |true=>rfl
     |false=>
      have hm:=(hl e.on).2 ⟨by omega,hle⟩
      rcases List.mem_cons.1 hm with h'|h'
      ·omega
      ·have:=(List.pairwise_cons.1 hinc).1 _ h'
       omega
    rw[hr]at this;cases this
  ·obtain⟨hi1,o,ho,hi2⟩:=mem_ready.1 hi
   have hio:i<ops.size:=(Array.getElem?_eq_some_iff.1 ho).1
   rw[hgd i hio]at hi1
   have hnb: ∀j,((Region.before ops).getD i 0).testBit j=true→listed.getD j false=true:=by
    intro j hj
    obtain⟨e,he,hb,hc⟩:=pd ho hj
    have hle:=hi2 e he hb
    rcases hc with rfl|hc
    ·exact hle
    ·exact hclo e.on j (by have:=jK hed ho e he hb;omega) hle hc
   have him:i<m:=by
    refine Nat.lt_of_not_le fun hle=> ?_
    cases l with
    |nil=>cases hlen
    |cons x xs=>
     obtain⟨hx1,hx2⟩:=(hl x).1 List.mem_cons_self
     have:=hnb x (hfull i hle hio x (by omega))
     rw[this]at hx2;cases hx2
   have hil:i∈l:=(hl i).2 ⟨him,hi1⟩
   obtain⟨l1,l2,rfl⟩:=List.append_of_mem hil
   obtain⟨T1,t,T2,s2',rfl,k1,k2⟩:=vZ hE.det l1 s s2 T h hp (fun j hj hb=>by
    have:=hnb j hb
    have h2:=((hl j).1 (List.mem_append.2 (.inl hj))).2
    rw[this]at h2;cases h2)
   cases k1 with
   |cons hs k1=>
    rename_i s1
    have hw:=hpl (i,t) (by simp)
    have hfr: ∀r∈t.writes,b+16*i≤r→ ¬born r:=by
     intro r hr h1 h2
     have h3:=hw r hr
     rcases hwin r h2 with h4|⟨j,h4,h5,h6⟩
     ·omega
     ·have:j=i:=by omega
      subst this
      rw[h4]at hi1;cases hi1
    refine mL hE hN hs R hfr hlt fun a' w' g' b' R' hlt' hb' _=> ?_
    have hset: ∀j,(listed.setIfInBounds i true).getD j false=if j=i then true else listed.getD j false:=by
     intro j
     rw[Array.getD_eq_getD_getElem?,Array.getElem?_setIfInBounds]
     by_cases e:i=j
     ·subst e
      have:i<listed.size:=by omega
      simp[this]
     ·rw[if_neg e,if_neg (Ne.symm e)]
      rw[Array.getD_eq_getD_getElem?]
    have hin:i∉l1++l2:=by
     intro hm
     rw[List.pairwise_append]at hinc
     rcases List.mem_append.1 hm with h1|h1
     ·have:=hinc.2.2 i h1 i List.mem_cons_self;omega
     ·have:=(List.pairwise_cons.1 hinc.2.1).1 i h1;omega
    refine ih (listed.setIfInBounds i true) (l1++l2) (T1++T2) s1 s2' g' b' a' w' k1 (he.trans k2) ?_ (fun x hx=>hpl x ?_) (by simpa using hsz) (fun j=> ?_) (fun j hj=>by rw[hset,if_neg (by omega)];exact hsuf j hj) ?_ ?_ (fun j k hj h1 h2=> ?_) R' hlt' (fun r hr=> ?_)
    ·rw[List.pairwise_append]at hp⊢
     exact⟨hp.1,(List.pairwise_cons.1 hp.2.1).2,fun x hx y hy=>hp.2.2 x hx y (List.mem_cons_of_mem _ hy)⟩
    ·rcases List.mem_append.1 hx with hx|hx
     ·exact List.mem_append.2 (.inl hx)
     ·exact List.mem_append.2 (.inr (List.mem_cons_of_mem _ hx))
    ·rw[hset]
     have hj:=hl j
     rw[List.mem_append,List.mem_cons]at hj
     by_cases e:j=i
     ·subst e
      rw[if_pos rfl]
      exact⟨fun h=>absurd h hin,fun h=>by cases h.2⟩
     ·rw[if_neg e,←hj,List.mem_append]
      exact⟨fun h=>h.imp id .inr,fun h=>h.imp id fun h=>h.resolve_left e⟩
    ·rw[List.pairwise_append]at hinc⊢
     exact⟨hinc.1,(List.pairwise_cons.1 hinc.2.1).2,fun x hx y hy=>hinc.2.2 x hx y (List.mem_cons_of_mem _ hy)⟩
    ·simp only[List.length_append,List.length_cons]at hlen⊢;omega
    ·rw[hset]at h1⊢
     by_cases e:j=i
     ·subst e
      split
      ·rfl
      ·exact hnb k h2
     ·rw[if_neg e]at h1
      have:=hclo j k hj h1 h2
      split
      ·rfl
      ·exact this
    ·rcases hb' rfl r hr with h|h
     ·rcases hwin r h with h1|⟨j,h1,h2⟩
      ·exact .inl h1
      ·refine .inr ⟨j,?_,h2⟩
       rw[hset];split
       ·rfl
       ·exact h1
     ·rcases hw r h with h1|h1|⟨_,j,h1,h2⟩
      ·exact .inl h1
      ·exact .inr ⟨i,by rw[hset,if_pos rfl],h1⟩
      ·refine .inr ⟨j,?_,h2⟩
       rw[hset];split
       ·rfl
       ·exact hnb j h1
theorem Aa(hE:iH P env)(hN:sA P)(hm:P.follows .mixedOrders=true){ro:Option Nat}{n:Nat}{id:Nat}{ops:Array Oper}{Q:Exit→Act→World→Prop}{asx:List Act}{g:aG}{born:Nat→Prop}{a:Act}{tr:List (Nat×Touch)}{sE:St}{R0:Type}{r0:R0}{Kc:List (Nat×Touch)→St→Option R0}
  (h:eE (R:=List (Nat×Touch)×St) P cfg env (some st.rs.length) ops (List.range (gZ (Region.before ops).toList ops.size)) [] st (fun tr st=>some (tr,st))=some (tr,sE)) (ht:(my ops (Region.before ops).toList tr&&(uT st.rs.length (Region.before ops).toList tr&&mr ops))=true)
  (h2:eE P cfg env none ops (List.range' (gZ (Region.before ops).toList ops.size) (ops.size-gZ (Region.before ops).toList ops.size)) [] sE Kc=some r0)
  (R:dj w0 st g born (a::asx) w) (hlt: ∀r,born r→r<st.rs.length)
  (hK: ∀tr' st' a' w' g' born',Kc tr' st'=some r0→dj w0 st' g' born' (a'::asx) w'→(∀r,born' r→r<st'.rs.length)→Q .normal a' w'):(Code.region id ops true).wpIn (rd ro) n P Q a w:=by
 simp only[Bool.and_eq_true]at ht
 obtain⟨h1,hp,h3⟩:=ht
 have hle:=ug (Region.before ops).toList ops.size
 have hfull: ∀j,gZ (Region.before ops).toList ops.size≤j→j<ops.size→ ∀q,q<j→((Region.before ops).getD j 0).testBit q=true:=fun j k1 k2=>AY (ql _ _ j k1 k2)
 generalize gZ (Region.before ops).toList ops.size=m at*
 obtain⟨T,k1,k2⟩:=Dh hE.det _ _ _ _ _ h
 rw[List.append_nil]at k2
 subst k2
 have hR:dj w0 st g born (a::asx) {w with drawn:=w.drawn+1}:=BT R ⟨rfl,rfl,rfl,Nat.le_refl _,fun _ _=>rfl⟩
 have hgo:=Ea hE hN (ro:=ro) (n:=n) (Q:=Q) (asx:=asx) (sE:=sE) (m:=m) h3 hle hfull (fun listed s a' w' g' b' he R' hlt' hsz hl=>zc hE hN h3 hK (ops.size-m) m listed [] sE g' b' a' w' (by omega) hsz hl hfull h2 (Cw R' he.1 he.2.1) (fun r hr=>by rw[he.2.2];exact hlt' r hr))
  m (Array.replicate ops.size false) (List.range m) T st sE g born a _ k1 (Eqv.refl _) (zI T h1) (fun x hx r hr=> ?_) (by simp) (fun i=> ?_) (fun i hi=> ?_) List.pairwise_lt_range (by simp) (fun i j hi h=> ?_) hR hlt (fun r hr=> .inl (hlt r hr))
 ·rw[show m+(ops.size-m)=ops.size by omega]at hgo
  exact wpIn_region_any hm hgo
 ·have:=List.all_eq_true.1 hp x (List.mem_reverse.2 hx)
  have:=List.all_eq_true.1 this r hr
  rw[Bool.or_eq_true,Bool.or_eq_true,Bool.and_eq_true,Bool.and_eq_true]at this
  rcases this with h|⟨h,h'⟩|⟨h,h'⟩
  ·exact .inl (dw h)
  ·exact .inr (.inl ⟨ko h,dw h'⟩)
  ·rcases Nat.lt_or_ge r st.rs.length with hr|hr
   ·exact .inl hr
   ·refine .inr (.inr ⟨dw h,(r-st.rs.length)/16,?_,by omega,by omega⟩)
    rw[←h',List.getD_eq_getElem?_getD,Array.getElem?_toList,Array.getD_eq_getD_getElem?]
 ·simp only[List.mem_range]
  refine⟨fun h=>⟨h,?_⟩,fun h=>h.1⟩
  have:i<ops.size:=by omega
  simp[Array.getD_eq_getD_getElem?,this]
 ·by_cases h:i<ops.size
  ·simp[Array.getD_eq_getD_getElem?,h]
  ·simp[Array.getD_eq_getD_getElem?,h]
 ·rw[Array.getD_eq_getD_getElem?]at h
  simp[hi]at h
end
end
end Go.Am
end
