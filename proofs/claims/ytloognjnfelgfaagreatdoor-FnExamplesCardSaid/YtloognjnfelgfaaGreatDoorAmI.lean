/- A call in a part of the state, to which rows and variables are lent, is sound, whatever the program. -/
import Derived.Test.YtloognjnfelgfaaGreatDoorAmV
set_option linter.unusedSimpArgs false
set_option linter.unusedVariables false
set_option linter.unnecessarySimpa false
set_option linter.unusedSectionVars false
section
/- Soundness: calls in a part of the state. The part: its world, its values. -/
namespace Go.Am
noncomputable section
attribute [local instance] D.real
def zK(P:Program)(f:Nat)(vs:List AV)(st:St)(vs':List AV)(st':St):Prop:=
 (∃fn,P.funcs[f]?=some fn∧fn.body.isSome=true)∧
 ∀(w0:cw) (g:aP) (born:Nat→Prop) (acts:List Act) (w:World) (us:List Value),Rel w0 st g born acts w→(∀r,born r→r<st.rs.length)→ah st.get g vs us→(∀r∈AV.ag vs,born r)→
  Calls P f us.toArray w fun e w'=> ∃us' g' born',e= .returned (nW us')∧dC w0 st' g' born' acts w'∧(∀r,born' r→r<st'.rs.length)∧ah st'.get g' vs' us'∧ ∀r∈AV.ag vs',born' r
structure jo (P : Program) (env : Env P) : Prop where
  det : ji P env
  pc : ∀ f x y, env.pc f x = some y → Valid P f x y
  ps : ∀ f x y, env.ps f x = some y → Dw P f x y
  inl : ∀ f vs st vs' st', env.inl (R := List AV × St) f vs st (fun vs st => some (vs, st)) = some (vs', st') → zK P f vs st vs' st'
theorem C1{w:World}{lent:Nat→Prop}{k:Nat}{o:Obj}(h:(blank w lent).heap[k]?=some o)(ho:o.isCells=false):w.heap[k]?=some o:=by
 by_cases hl:lent k
 ·have e:(blank w lent).heap[k]?=(w.heap[k]?).map fun _=> .cells #[] 0 (0,0):=by
   simp[blank,hl]
  rw[e]at h
  cases hw:w.heap[k]? with
  |none=>rw[hw]at h;cases h
  |some x=>
   rw[hw]at h
   injection h with h
   subst h
   cases ho
 ·exact(eC hl).symm.trans h
def l8(w:World)(lent:Nat→Prop):cw:=⟨blank w lent,blank w lent,lent,fun a x h=>⟨h,(nM h).2⟩,fun _ _ h k=>sx h k,fun _=>none,fun _ _ h=>by cases h⟩
section
variable {w0 : cw} {w w' : World} {st st' : St} {g g' : aP} {born born' : Nat → Prop} {acts : List Act} {a : Act}
theorem kB: ∀(l:List Nat) (st:St) (r:Nat),(st.aY (dU l)).get r=if r∈l then .dead else st.get r
 | [],st,r=>by simp[dU,DQ]
 |x::l,st,r=>by
  show((st.fx x .dead).aY (dU l)).get r=_
  rw[kB l,fk]
  by_cases h1:r∈l
  ·simp[h1]
  ·by_cases h2:r=x<;>simp[h1,h2]
theorem pF: ∀(l:List Nat) (st:St),Rel w0 st g born acts w→(∀r∈l,∀j r' p t xs,st.get j= .pend r' p t xs→r'≠r)→Rel w0 (st.aY (dU l)) g born acts w
 | [],st,R,_=>R
 |x::l,st,R,hq=>by
  show Rel w0 ((st.fx x .dead).aY (dU l)) g born acts w
  refine pF l _ (D9 R x fun j r' p t xs e=> .inl (hq x List.mem_cons_self j r' p t xs e)) fun r hr j r' p t xs e=> ?_
  rw[fk]at e
  split at e
  ·cases e
  ·exact hq r (List.mem_cons_of_mem _ hr) j r' p t xs e
theorem u4(R:Rel w0 st g born acts w)(hb:dn w0 w w')(ho: ∀r b,Own st.get g r b→w'.heap[b]?=w.heap[b]?):Rel w0 st g born acts w':=by
 refine kN (fun _=>False) R hb rfl (fun r _=>⟨fun t ht=>⟨ht,fun _ _=>rfl⟩,fun hv=>⟨hv,rfl⟩⟩) (fun r _=>⟨rfl,rfl,fun b hbo=>ho r b hbo⟩)
  (fun _ _ _ _ _ _ _ h=>h) (fun r h=>h.elim) (fun r _ _ h=>h.elim) (fun r _ h=>h.elim) (fun _ h=>h) (fun r h=>h.elim) (fun r h=>h.elim)
def lA(get:Get)(g:aP)(L:List Nat)(b:Nat):Prop:= ∃r∈L,Own get g r b
theorem lA.low{L:List Nat}(R:Rel w0 st g born acts w){b:Nat}(h:lA st.get g L b): ¬w0.eH b:=by
 obtain⟨r,_,h⟩:=h
 exact R.low r b h
theorem pz{L:List Nat}(R:Rel w0 st g born acts w)(hq: ∀r∈L,∀j r' p t xs,st.get j= .pend r' p t xs→r'≠r){r b:Nat}(h:Own (st.aY (dU L)).get g r b):r∉L∧Own st.get g r b∧ ¬lA st.get g L b:=by
 have hr:r∉L:=fun hr=>by
  unfold Own at h
  rw[kB,if_pos hr]at h
  exact h
 have e:Own st.get g r b:=by
  unfold Own at h⊢
  rw[kB,if_neg hr]at h
  exact h
 exact⟨hr,e,fun⟨r',hr',h'⟩=>R.sep r r' b (fun e=>hr (e▸hr')) e h'⟩
theorem zR{L:List Nat}(R:Rel w0 st g born acts w):dn w0 w (blank w (lA st.get g L)):=
 ⟨rfl,rfl,rfl,by rw[fV];exact Nat.le_refl _,fun k hk=>eC fun h=>lA.low R h hk,fun k o h1 h2=>(eC fun⟨r,_,h⟩=>by rw[jd R h o h1]at h2;cases h2).trans h1⟩
theorem CK{L:List Nat}(R:Rel w0 st g born acts w)(hq: ∀r∈L,∀j r' p t xs,st.get j= .pend r' p t xs→r'≠r):
  Rel w0 (st.aY (dU L)) g born acts (blank w (lA st.get g L)):=
 u4 (pF L st R hq) (zR R) fun _ b h=>eC (pz R hq h).2.2
def ED(get:Get)(g:aP)(L:List Nat)(getS:Get)(gS:aP):Prop:= ∀r i,idx L 0 r=some i→
 (∀t,cP (getS i)=some t→cP (get r)=some t∧ ∀p,(gS i).H p=(g r).H p)∧(isVar (getS i)=true→isVar (get r)=true∧(gS i).b=(g r).b)
def GL(wb:World)(x:al)(inf:Info):Prop:= ∃e ys,x= .row false e ys∧bK wb false e ys inf.H∧ ∃a n c,inf.H []= .slice a n c
def rD(wb:World)(rs:List al)(infs:List Info):Prop:=infs.length=rs.length∧ ∀(k:Nat) (x:al) (inf:Info),rs[k]?=some x→infs[k]?=some inf→GL wb x inf
theorem rD.nil{wb:World}:rD wb [] []:=⟨rfl,fun k x inf h=>by simp at h⟩
theorem rD.app{wb:World}{rs rs':List al}{i i':List Info}(h:rD wb rs i)(h':rD wb rs' i'):rD wb (rs++rs') (i++i'):=by
 refine⟨by simp[h.1,h'.1],fun k x inf hx hi=> ?_⟩
 rcases Nat.lt_or_ge k rs.length with hk|hk
 ·rw[List.getElem?_append_left hk]at hx
  rw[List.getElem?_append_left (by rw[h.1];exact hk)]at hi
  exact h.2 k x inf hx hi
 ·rw[List.getElem?_append_right hk]at hx
  rw[List.getElem?_append_right (by rw[h.1];exact hk),h.1]at hi
  exact h'.2 _ x inf hx hi
def At(getS:Get)(gS:aP)(b:Nat)(rs:List al)(infs:List Info):Prop:= ∀(k:Nat) (x:al) (inf:Info),rs[k]?=some x→infs[k]?=some inf→getS (b+k)=x∧gS (b+k)=inf
theorem At.left{getS:Get}{gS:aP}{b:Nat}{rs rs':List al}{i i':List Info}(h:At getS gS b (rs++rs') (i++i'))(hl:i.length=rs.length):At getS gS b rs i:=fun k x inf hx hi=>
 h k x inf (by rw[List.getElem?_append_left (List.getElem?_eq_some_iff.1 hx).1];exact hx) (by rw[List.getElem?_append_left (List.getElem?_eq_some_iff.1 hi).1];exact hi)
theorem At.right{getS:Get}{gS:aP}{b:Nat}{rs rs':List al}{i i':List Info}(h:At getS gS b (rs++rs') (i++i'))(hl:i.length=rs.length):At getS gS (b+rs.length) rs' i':=fun k x inf hx hi=>by
 have:=h (rs.length+k) x inf (by rw[List.getElem?_append_right (by omega)];simpa using hx) (by rw[List.getElem?_append_right (by omega),hl];simpa using hi)
 rw[Nat.add_assoc];exact this
mutual
theorem Cu{getK:Get}{wb:World}{L:List Nat}{get:Get}(hR: ∀r,aX w0 wb getK g r)(hB:Seen w0 wb)(hG: ∀r t,cP (getK r)=some t→cP (get r)=some t):
  ∀(v:AV) (x:Value) (b:Nat) (ok:List Tst) (v':AV) (rs:List al),di getK L v b=(ok,v',rs)→bh ok→ae get g v x→
   ∃infs,rD wb rs infs∧(∀r∈v'.roots,r<L.length∨(b≤r∧r<b+rs.length))∧ ∀getS gS,ED get g L getS gS→At getS gS b rs infs→ae getS gS v' x
 | .int k n,x,b,ok,v',rs,h,_,hx=>by
  rw[di]at h;simp only[Prod.mk.injEq]at h;obtain⟨_,rfl,rfl⟩:=h
  exact⟨[],.nil,fun r hr=>by simp[AV.roots]at hr,fun _ _ _ _=>by rw[ae]at hx⊢;exact hx⟩
 | .bool n,x,b,ok,v',rs,h,_,hx=>by
  rw[di]at h;simp only[Prod.mk.injEq]at h;obtain⟨_,rfl,rfl⟩:=h
  exact⟨[],.nil,fun r hr=>by simp[AV.roots]at hr,fun _ _ _ _=>by rw[ae]at hx⊢;exact hx⟩
 | .kb n,x,b,ok,v',rs,h,_,hx=>by
  rw[di]at h;simp only[Prod.mk.injEq]at h;obtain⟨_,rfl,rfl⟩:=h
  exact⟨[],.nil,fun r hr=>by simp[AV.roots]at hr,fun _ _ _ _=>by rw[ae]at hx;rw[ae];exact hx⟩
 | .ki k n,x,b,ok,v',rs,h,_,hx=>by
  rw[di]at h;simp only[Prod.mk.injEq]at h;obtain⟨_,rfl,rfl⟩:=h
  exact⟨[],.nil,fun r hr=>by simp[AV.roots]at hr,fun _ _ _ _=>by rw[ae]at hx;rw[ae];exact hx⟩
 | .str n,x,b,ok,v',rs,h,_,hx=>by
  rw[di]at h;simp only[Prod.mk.injEq]at h;obtain⟨_,rfl,rfl⟩:=h
  exact⟨[],.nil,fun r hr=>by simp[AV.roots]at hr,fun _ _ _ _=>by rw[ae]at hx⊢;exact hx⟩
 | .nilS,x,b,ok,v',rs,h,_,hx=>by
  rw[di]at h;simp only[Prod.mk.injEq]at h;obtain⟨_,rfl,rfl⟩:=h
  exact⟨[],.nil,fun r hr=>by simp[AV.roots]at hr,fun _ _ _ _=>by rw[ae]at hx⊢;exact hx⟩
 | .undef,x,b,ok,v',rs,h,_,hx=>by
  rw[di]at h;simp only[Prod.mk.injEq]at h;obtain⟨_,rfl,rfl⟩:=h
  exact⟨[],.nil,fun r hr=>by simp[AV.roots]at hr,fun _ _ _ _=>by simp[ae]⟩
 | .nb n,x,b,ok,v',rs,h,hok,hx=>by
  rw[di]at h;simp only[Prod.mk.injEq]at h;obtain⟨rfl,_⟩:=h;exact(aK hok).elim
 | .pe r p i f,x,b,ok,v',rs,h,hok,hx=>by
  rw[di]at h;simp only[Prod.mk.injEq]at h;obtain⟨rfl,_⟩:=h;exact(aK hok).elim
 | .tup vs,x,b,ok,v',rs,h,hok,hx=>by
  rw[di]at h;simp only[Prod.mk.injEq]at h;obtain⟨rfl,_⟩:=h;exact(aK hok).elim
 | .lit r n,x,b,ok,v',rs,h,hok,hx=>by
  rw[di]at h
  split at h
  ·next i hi=>
   simp only[Prod.mk.injEq]at h;obtain⟨_,rfl,rfl⟩:=h
   have hlt:=(List.getElem?_eq_some_iff.1 (lI L 0 r i hi).2).1
   refine⟨[],.nil,fun r' hr=> ?_,fun getS gS hc _=> ?_⟩
   ·simp only[AV.roots,List.mem_singleton]at hr;subst hr;left;omega
   ·rw[ae]at hx⊢
    refine⟨hx.1,fun hv=> ?_⟩
    obtain⟨h1,h2⟩:=(hc r i hi).2 hv
    rw[h2];exact hx.2 h1
  ·simp only[Prod.mk.injEq]at h;obtain⟨rfl,_⟩:=h;exact(aK hok).elim
 | .sl r p sub,x,b,ok,v',rs,h,hok,hx=>by
  unfold di at h
  generalize hi:zw L r p sub=m at h
  cases m with
  |some i=>
   simp only[Prod.mk.injEq]at h;obtain⟨_,rfl,rfl⟩:=h
   have hi':p= []∧sub=none∧idx L 0 r=some i:=by
    cases p with
    |nil=>cases sub with
     |none=>exact⟨rfl,rfl,hi⟩
     |some s=>cases hi
    |cons q p=>cases sub<;>cases hi
   obtain⟨rfl,rfl,hi⟩:=hi'
   have hlt:=(List.getElem?_eq_some_iff.1 (lI L 0 r i hi).2).1
   refine⟨[],.nil,fun r' hr=> ?_,fun getS gS hc _=> ?_⟩
   ·simp only[AV.roots,List.mem_singleton]at hr;subst hr;left;omega
   ·rw[ae]at hx⊢
    refine⟨hx.1,fun t e ht he=> ?_⟩
    obtain⟨h1,h2⟩:=(hc r i hi).1 t ht
    rw[h2];exact hx.2 t e h1 he
  |none=>
   generalize hs:sliceAt getK r p=s at h
   obtain⟨ok1,e,ys⟩:=s
   simp only[Prod.mk.injEq]at h
   obtain⟨rfl,rfl,rfl⟩:=h
   have hxK:ae getK g (.sl r p sub) x:=by
    rw[ae]at hx⊢
    exact⟨hx.1,fun t e ht he=>hx.2 t e (hG r t ht) he⟩
   have hrep:=w6 hR hB hs hok hxK
   rw[ae]at hx
   obtain⟨a,n,c,hsl⟩:=hx.1
   have hH:hdr g (.sl r p sub) x []=x:=rfl
   refine⟨[⟨0,hdr g (.sl r p sub) x,fun _=>False⟩],⟨rfl,fun k y inf hy hi=> ?_⟩,fun r' hr=> ?_,fun getS gS _ hat=> ?_⟩
   ·cases k with
    |zero=>
     simp only[List.getElem?_cons_zero,Option.some.injEq]at hy hi
     subst hy;subst hi
     exact⟨e,_,rfl,hrep,a,n,c,hsl⟩
    |succ k=>simp at hy
   ·simp only[AV.roots,List.mem_singleton]at hr;subst hr;right;simp
   ·obtain⟨h1,h2⟩:=hat 0 _ _ rfl rfl
    rw[ae]
    refine⟨⟨a,n,c,hsl⟩,fun t e' ht he=> ?_⟩
    have:(gS b).H []=x:=by
     have h2:gS b=_:=h2
     rw[h2]
     rfl
    exact this.symm
 | .pv r c,x,b,ok,v',rs,h,hok,hx=>by
  rw[di]at h
  split at h
  ·next i hi=>
   simp only[Prod.mk.injEq]at h;obtain⟨_,rfl,rfl⟩:=h
   have hlt:=(List.getElem?_eq_some_iff.1 (lI L 0 r i hi).2).1
   refine⟨[],.nil,fun r' hr=> ?_,fun getS gS hc _=> ?_⟩
   ·simp only[AV.roots,List.mem_singleton]at hr;subst hr;left;omega
   ·rw[ae]at hx⊢
    refine⟨hx.1,fun hv=> ?_⟩
    obtain⟨h1,h2⟩:=(hc r i hi).2 hv
    rw[h2];exact hx.2 h1
  ·simp only[Prod.mk.injEq]at h;obtain⟨rfl,_⟩:=h;exact(aK hok).elim
 | .fn f p q,x,b,ok,v',rs,h,hok,hx=>by
  rw[di]at h
  generalize h1:gH getK L p b=s1 at h
  obtain⟨ok1,p',r1⟩:=s1
  simp only at h
  generalize h2:gH getK L q (b+r1.length)=s2 at h
  obtain⟨ok2,q',r2⟩:=s2
  simp only[Prod.mk.injEq]at h
  obtain⟨rfl,rfl,rfl⟩:=h
  obtain⟨k1,k2⟩:=ay.1 hok
  rw[ae]at hx
  obtain⟨vs,ws,rfl,hp,hq⟩:=hx
  obtain⟨i1,o1,b1,a1⟩:=ng hR hB hG p _ b ok1 p' r1 h1 k1 hp
  obtain⟨i2,o2,b2,a2⟩:=ng hR hB hG q _ _ ok2 q' r2 h2 k2 hq
  refine⟨i1++i2,o1.app o2,fun r hr=> ?_,fun getS gS hc hat=> ?_⟩
  ·simp only[AV.roots,List.mem_append]at hr
   simp only[List.length_append]
   rcases hr with hr|hr
   ·rcases b1 r hr with h|h
    ·exact .inl h
    ·exact .inr ⟨h.1,by omega⟩
   ·rcases b2 r hr with h|h
    ·exact .inl h
    ·exact .inr ⟨by omega,by omega⟩
  ·rw[ae]
   exact⟨vs,ws,rfl,a1 getS gS hc (hat.left o1.1),a2 getS gS hc (hat.right o1.1)⟩
 | .agg cs,x,b,ok,v',rs,h,hok,hx=>by
  rw[di]at h
  generalize h1:gH getK L cs b=s1 at h
  obtain⟨ok1,p',r1⟩:=s1
  simp only[Prod.mk.injEq]at h
  obtain⟨rfl,rfl,rfl⟩:=h
  rw[ae]at hx
  obtain⟨vs,rfl,hone,hp⟩:=hx
  obtain⟨i1,o1,b1,a1⟩:=ng hR hB hG cs _ b ok1 p' r1 h1 hok hp
  refine⟨i1,o1,fun r hr=>b1 r (by simpa[AV.roots]using hr),fun getS gS hc hat=> ?_⟩
  rw[ae]
  exact⟨vs,rfl,hone,a1 getS gS hc hat⟩
theorem ng{getK:Get}{wb:World}{L:List Nat}{get:Get}(hR: ∀r,aX w0 wb getK g r)(hB:Seen w0 wb)(hG: ∀r t,cP (getK r)=some t→cP (get r)=some t):
  ∀(vs:List AV) (xs:List Value) (b:Nat) (ok:List Tst) (vs':List AV) (rs:List al),gH getK L vs b=(ok,vs',rs)→bh ok→ah get g vs xs→
   ∃infs,rD wb rs infs∧(∀r∈AV.ag vs',r<L.length∨(b≤r∧r<b+rs.length))∧ ∀getS gS,ED get g L getS gS→At getS gS b rs infs→ah getS gS vs' xs
 | [],xs,b,ok,vs',rs,h,_,hx=>by
  rw[gH]at h;simp only[Prod.mk.injEq]at h;obtain⟨_,rfl,rfl⟩:=h
  exact⟨[],.nil,fun r hr=>by simp[AV.ag]at hr,fun _ _ _ _=>by rw[ah]at hx⊢;exact hx⟩
 |v::vs,xs,b,ok,vs',rs,h,hok,hx=>by
  rw[gH]at h
  generalize h1:di getK L v b=s1 at h
  obtain⟨ok1,p',r1⟩:=s1
  simp only at h
  generalize h2:gH getK L vs (b+r1.length)=s2 at h
  obtain⟨ok2,q',r2⟩:=s2
  simp only[Prod.mk.injEq]at h
  obtain⟨rfl,rfl,rfl⟩:=h
  obtain⟨k1,k2⟩:=ay.1 hok
  rw[ah]at hx
  obtain⟨x,xs',rfl,hp,hq⟩:=hx
  obtain⟨i1,o1,b1,a1⟩:=Cu hR hB hG v x b ok1 p' r1 h1 k1 hp
  obtain⟨i2,o2,b2,a2⟩:=ng hR hB hG vs xs' _ ok2 q' r2 h2 k2 hq
  refine⟨i1++i2,o1.app o2,fun r hr=> ?_,fun getS gS hc hat=> ?_⟩
  ·simp only[AV.ag,List.mem_append]at hr
   simp only[List.length_append]
   rcases hr with hr|hr
   ·rcases b1 r hr with h|h
    ·exact .inl h
    ·exact .inr ⟨h.1,by omega⟩
   ·rcases b2 r hr with h|h
    ·exact .inl h
    ·exact .inr ⟨by omega,by omega⟩
  ·rw[ah]
   exact⟨x,xs',rfl,a1 getS gS hc (hat.left o1.1),a2 getS gS hc (hat.right o1.1)⟩
end
end
end
end Go.Am
end
section
/- Soundness: the part of a state that a call sees stands in the relation. -/
namespace Go.Am
noncomputable section
attribute [local instance] D.real
section
variable {w0 : cw} {w w' : World} {st st' : St} {g g' : aP} {born born' : Nat → Prop} {acts : List Act} {a : Act}
theorem sZ{getK:Get}{wb:World}{L:List Nat}(R:Rel w0 st g born acts w)(hR: ∀r,aX w0 wb getK g r)(hB:Seen w0 wb)(hG: ∀r t,cP (getK r)=some t→cP (st.get r)=some t):
  ∀(V:List Nat) (b:Nat) (ok:List Tst) (vr rs:List al),gN st.get getK L V b=(ok,vr,rs)→bh ok→
   ∃infs,rD wb rs infs∧vr.length=V.length∧ ∀(i r:Nat),V[i]?=some r→ ∃cs cs0 arr te,vr[i]?=some (.var cs)∧st.get r= .var cs0∧cs.length=cs0.length∧
    (∀x∈AV.ag cs,x<L.length∨(b≤x∧x<b+rs.length))∧w.heap[(g r).b]?=some (.cells arr te (0,0))∧(∀x∈arr.toList,x.oneCell'=true)∧ah st.get g cs0 arr.toList∧
    ∀getS gS,ED st.get g L getS gS→At getS gS b rs infs→ah getS gS cs arr.toList
 | [],b,ok,vr,rs,h,_=>by
  simp only[gN,Prod.mk.injEq]at h;obtain⟨_,rfl,rfl⟩:=h
  exact⟨[],.nil,rfl,fun i r h=>by simp at h⟩
 |r::V,b,ok,vr,rs,h,hok=>by
  unfold gN at h
  generalize h1:gH getK L (aZ st.get r) b=s1 at h
  obtain⟨ok1,cs,r1⟩:=s1
  simp only at h
  generalize h2:gN st.get getK L V (b+r1.length)=s2 at h
  obtain⟨ok2,vr2,r2⟩:=s2
  simp only[Prod.mk.injEq]at h
  obtain⟨rfl,rfl,rfl⟩:=h
  obtain⟨k0,k⟩:=af.1 hok
  obtain⟨k1,k2⟩:=ay.1 k
  have hroot:=R.roots r
  unfold aX at hroot
  unfold aZ at h1
  cases hg:st.get r with
  |var cs0=>
   rw[hg]at hroot h1
   obtain⟨arr,te,q1,q2,q3⟩:=hroot
   obtain⟨i1,o1,b1,a1⟩:=ng hR hB hG cs0 _ b ok1 cs r1 h1 k1 q3
   obtain⟨i2,o2,l2,a2⟩:=sZ R hR hB hG V _ ok2 vr2 r2 h2 k2
   have hlen:cs.length=cs0.length:=by
    have e: ∀(vs:List AV) (b:Nat) (ok:List Tst) (vs':List AV) (rs:List al),gH getK L vs b=(ok,vs',rs)→vs'.length=vs.length:=by
     intro vs
     induction vs with
     |nil=>intro b ok vs' rs h;rw[gH]at h;simp only[Prod.mk.injEq]at h;obtain⟨_,rfl,_⟩:=h;rfl
     |cons v vs ih=>
      intro b ok vs' rs h
      rw[gH]at h
      generalize di getK L v b=s1 at h
      obtain⟨ok1,p',r1⟩:=s1
      simp only at h
      generalize h2:gH getK L vs (b+r1.length)=s2 at h
      obtain⟨ok2,q',r2⟩:=s2
      simp only[Prod.mk.injEq]at h
      obtain⟨_,rfl,_⟩:=h
      simp[ih _ _ _ _ h2]
    exact e _ _ _ _ _ h1
   refine⟨i1++i2,o1.app o2,by simp[l2],fun i r' hi=> ?_⟩
   cases i with
   |zero=>
    simp only[List.getElem?_cons_zero,Option.some.injEq]at hi
    subst hi
    refine⟨cs,cs0,arr,te,rfl,hg,hlen,fun x hx=> ?_,q1,q2,q3,fun getS gS hc hat=>a1 getS gS hc (hat.left o1.1)⟩
    rcases b1 x hx with h|h
    ·exact .inl h
    ·right;simp only[List.length_append];omega
   |succ i=>
    obtain⟨cs2,cs20,arr2,te2,p1,p2,p3,p4,p5,p6,p7,p8⟩:=a2 i r' (by simpa using hi)
    refine⟨cs2,cs20,arr2,te2,by simpa using p1,p2,p3,fun x hx=> ?_,p5,p6,p7,fun getS gS hc hat=>p8 getS gS hc (hat.right o1.1)⟩
    rcases p4 x hx with h|h
    ·exact .inl h
    ·right;simp only[List.length_append];omega
  |dead=>rw[hg]at k0;cases k0
  |row=>rw[hg]at k0;cases k0
  |pend=>rw[hg]at k0;cases k0
  |half=>rw[hg]at k0;cases k0
  |sh=>rw[hg]at k0;cases k0
def FD(getK:Get)(L:List Nat)(o c:AV):Prop:= ∃b ok rs,di getK L o b=(ok,c,rs)∧bh ok∧L.length≤b
def A8(getK:Get)(L:List Nat)(os cs:List AV):Prop:=cs.length=os.length∧ ∀(j:Nat) (o c:AV),os[j]?=some o→cs[j]?=some c→FD getK L o c
theorem A8.app{getK:Get}{L:List Nat}{a b c d:List AV}(h:A8 getK L a b)(k:A8 getK L c d):A8 getK L (a++c) (b++d):=by
 refine⟨by simp[h.1,k.1],fun j o x ho hx=> ?_⟩
 rcases Nat.lt_or_ge j a.length with hj|hj
 ·rw[List.getElem?_append_left hj]at ho
  rw[List.getElem?_append_left (by rw[h.1];exact hj)]at hx
  exact h.2 j o x ho hx
 ·rw[List.getElem?_append_right hj]at ho
  rw[List.getElem?_append_right (by rw[h.1];exact hj),h.1]at hx
  exact k.2 _ o x ho hx
theorem yE{getK:Get}{L:List Nat}: ∀(vs:List AV) (b:Nat) (ok:List Tst) (vs':List AV) (rs:List al),gH getK L vs b=(ok,vs',rs)→bh ok→L.length≤b→A8 getK L vs vs'
 | [],b,ok,vs',rs,h,_,_=>by
  rw[gH]at h;simp only[Prod.mk.injEq]at h;obtain⟨_,rfl,_⟩:=h
  exact⟨rfl,fun j o c h=>by simp at h⟩
 |v::vs,b,ok,vs',rs,h,hok,hb=>by
  rw[gH]at h
  generalize h1:di getK L v b=s1 at h
  obtain⟨ok1,p',r1⟩:=s1
  simp only at h
  generalize h2:gH getK L vs (b+r1.length)=s2 at h
  obtain⟨ok2,q',r2⟩:=s2
  simp only[Prod.mk.injEq]at h
  obtain⟨rfl,rfl,rfl⟩:=h
  obtain⟨k1,k2⟩:=ay.1 hok
  obtain⟨i1,i2⟩:=yE vs _ ok2 q' r2 h2 k2 (by omega)
  refine⟨by simp[i1],fun j o c ho hc=> ?_⟩
  cases j with
  |zero=>
   simp only[List.getElem?_cons_zero,Option.some.injEq]at ho hc
   subst ho;subst hc
   exact⟨b,ok1,r1,h1,k1,hb⟩
  |succ j=>exact i2 j o c (by simpa using ho) (by simpa using hc)
theorem tE{getK get:Get}{L:List Nat}: ∀(V:List Nat) (b:Nat) (ok:List Tst) (vr rs:List al),gN get getK L V b=(ok,vr,rs)→bh ok→L.length≤b→A8 getK L (V.flatMap (aZ get)) (vr.flatMap eN)
 | [],b,ok,vr,rs,h,_,_=>by
  simp only[gN,Prod.mk.injEq]at h;obtain⟨_,rfl,rfl⟩:=h
  exact⟨rfl,fun j o c h=>by simp at h⟩
 |r::V,b,ok,vr,rs,h,hok,hb=>by
  unfold gN at h
  generalize h1:gH getK L (aZ get r) b=s1 at h
  obtain⟨ok1,cs,r1⟩:=s1
  simp only at h
  generalize h2:gN get getK L V (b+r1.length)=s2 at h
  obtain⟨ok2,vr2,r2⟩:=s2
  simp only[Prod.mk.injEq]at h
  obtain⟨rfl,rfl,rfl⟩:=h
  obtain⟨k0,k⟩:=af.1 hok
  obtain⟨k1,k2⟩:=ay.1 k
  simp only[List.flatMap_cons]
  exact(yE _ _ _ _ _ h1 k1 hb).app (tE V _ ok2 vr2 r2 h2 k2 (by omega))
theorem zr{getS:Get}{gS:aP}: ∀(V:List Nat) (vr:List al) (f:Nat→List AV),vr.length=V.length→
  (∀(i r:Nat),V[i]?=some r→ ∃cs arr te,vr[i]?=some (.var cs)∧w.heap[(g r).b]?=some (.cells arr te (0,0))∧ah st.get g (f r) arr.toList∧ah getS gS cs arr.toList)→
  ∃vals,ah st.get g (V.flatMap f) vals∧ah getS gS (vr.flatMap eN) vals
 | [],vr,f,hl,_=>by
  cases vr with
  |nil=>exact⟨[],by simp[ah],by simp[ah]⟩
  |cons=>simp at hl
 |r::V,vr,f,hl,h=>by
  cases vr with
  |nil=>simp at hl
  |cons y vr=>
   obtain⟨cs,arr,te,p1,p2,p3,p4⟩:=h 0 r rfl
   simp only[List.getElem?_cons_zero,Option.some.injEq]at p1
   subst p1
   obtain⟨vals,q1,q2⟩:=zr V vr f (by simpa using hl) fun i r' hi=>by
    obtain⟨cs,arr,te,p1,p2,p3,p4⟩:=h (i+1) r' (by simpa using hi)
    exact⟨cs,arr,te,by simpa using p1,p2,p3,p4⟩
   exact⟨arr.toList++vals,by simp only[List.flatMap_cons];exact dW p3 q1,by simp only[List.flatMap_cons];exact dW p4 q2⟩
theorem jQ(nV nD n m i:Nat)(hn:nV+nD≤n):(lG nV nD n m).getD i .undef=
  if i<nV then .pv i 0 else if i<nV+nD then .sl i [] none else if i<n then .undef else if i<n+m then .sl i [] none else .undef:=by
 unfold lG
 simp only[List.getD_eq_getElem?_getD]
 by_cases h1:i<nV
 ·rw[List.getElem?_append_left (by simpa using h1)]
  simp[h1]
 ·rw[List.getElem?_append_right (by simpa using Nat.le_of_not_lt h1)]
  simp only[List.length_map,List.length_range,h1,if_false]
  by_cases h2:i<nV+nD
  ·rw[List.getElem?_append_left (by simp;omega)]
   have:i-nV<nD:=by omega
   have e:nV+(i-nV)=i:=by omega
   simp[h2,this,e]
  ·rw[List.getElem?_append_right (by simp;omega)]
   simp only[List.length_map,List.length_range,h2,if_false]
   by_cases h3:i<n
   ·rw[List.getElem?_append_left (by simp;omega)]
    have:i-nV-nD<n-nV-nD:=by omega
    simp[h3,this]
   ·rw[List.getElem?_append_right (by simp;omega)]
    simp only[List.length_replicate,h3,if_false]
    by_cases h4:i<n+m
    ·have e1:i-nV-nD-(n-nV-nD)<m:=by omega
     have e2:n+(i-nV-nD-(n-nV-nD))=i:=by omega
     simp[h4,e1,e2]
    ·have e1: ¬i-nV-nD-(n-nV-nD)<m:=by omega
     simp[h4,e1]
theorem y8(nV nD n m:Nat)(hn:nV+nD≤n):(lG nV nD n m).length=n+m:=by
 simp[lG];omega
def mE(gS:aP)(v:AV)(i:Nat):Value:=match v with
 | .pv _ _=> .pointer (some ⟨(gS i).b,0,none⟩)
 | .sl _ _ _=>(gS i).H []
 |_=>Go.undef
theorem pf{m3:Bool}{get:Get}{v:AV}{r:Nat}(h:r∈qZ m3 get v): ∃t xs,get r= .row true t xs:=by
 unfold qZ at h
 split at h
 ·next r'=>
  cases m3 with
  |false=>simp at h
  |true=>
   simp only[cond_true]at h
   split at h
   ·next t xs e=>simp only[List.mem_singleton]at h;subst h;exact⟨t,xs,e⟩
   ·cases h
 ·cases h
structure Part (w : World) (st : St) (g : aP) (ls : bX) (stS : St) (gS : aP) (actH : Act) : Prop where
  gs : ∀ i, i < ls.all.length → gS i = g (ls.all.getD i 0)
  act : ∀ i, actH.tmps.getD i Go.undef = if i < stS.rs.length then mE gS ((lG ls.lv.length ls.ld.length ls.all.length (stS.rs.length - ls.all.length)).getD i .undef) i else Go.undef
  len : ls.all.length ≤ stS.rs.length
  row : ∀ i, ls.lv.length ≤ i → i < ls.all.length → stS.get i = st.get (ls.all.getD i 0) ∧ ∃ t xs, stS.get i = .row true t xs
  ro : ∀ i, ls.all.length ≤ i → i < stS.rs.length → (∃ e ys, stS.get i = .row false e ys) ∧ ∃ a n c, (gS i).H [] = .slice a n c
  sub : A8 (st.aY (dU ls.all)).get ls.all (ls.lv.flatMap (aZ st.get)) ((stS.rs.take ls.lv.length).flatMap eN)
  flat : ∃ vals, ah st.get g (ls.lv.flatMap (aZ st.get)) vals ∧ ah stS.get gS ((stS.rs.take ls.lv.length).flatMap eN) vals
  var : ∀ (i r : Nat), ls.lv[i]? = some r → ∃ cs cs0 arr te, stS.rs[i]? = some (.var cs) ∧ st.get r = .var cs0 ∧ cs.length = cs0.length ∧ w.heap[(g r).b]? = some (.cells arr te (0, 0)) ∧ ah st.get g cs0 arr.toList ∧ ah stS.get gS cs arr.toList
theorem uE{m3:Bool}{vs:List AV}{us:List Value}{ls:bX}{ok:List Tst}{stS:St}(R:Rel w0 st g born acts w)(hq: ∀r∈ls.all,∀j r' p t xs,st.get j= .pend r' p t xs→r'≠r)
  (hn:ls.all.Nodup) (hD: ∀r∈ls.ld++ls.ln,∃t xs,st.get r= .row true t xs) (hA:ah st.get g vs us) (h:j7 ls st vs=(ok,stS)) (hok:bh ok):
  ∃gS actH,Rel (l8 w (lA st.get g ls.all)) ⟨stS.fr.tail,stS.rs⟩ gS (fun r=>r<stS.rs.length) [actH] w∧ah stS.get gS stS.top us∧(∀r∈AV.ag stS.top,r<stS.rs.length)∧Part w st g ls stS gS actH:=by
 have Rb:=CK R hq
 have hgetK:(fun r=>bif ls.all.contains r then al.dead else st.get r)=(st.aY (dU ls.all)).get:=by
  funext r
  rw[kB]
  by_cases hr:r∈ls.all
  ·simp[hr]
  ·simp[hr]
 have hG: ∀r t,cP ((st.aY (dU ls.all)).get r)=some t→cP (st.get r)=some t:=by
  intro r t ht
  rw[kB]at ht
  split at ht
  ·simp[cP]at ht
  ·exact ht
 unfold j7 at h
 rw[hgetK]at h
 generalize h1:gH (st.aY (dU ls.all)).get ls.all vs ls.all.length=s1 at h
 obtain⟨ok1,vsS,roA⟩:=s1
 simp only at h
 generalize h2:gN st.get (st.aY (dU ls.all)).get ls.all ls.lv (ls.all.length+roA.length)=s2 at h
 obtain⟨ok2,vrs,roV⟩:=s2
 simp only[Prod.mk.injEq]at h
 obtain⟨rfl,rfl⟩:=h
 obtain⟨k1,k2⟩:=ay.1 hok
 obtain⟨iA,oA,bA,aA⟩:=ng Rb.roots (dX Rb.below) hG vs us _ ok1 vsS roA h1 k1 hA
 obtain⟨iV,oV,lV,aV⟩:=sZ R Rb.roots (dX Rb.below) hG ls.lv _ ok2 vrs roV h2 k2
 have hall:ls.all.length=ls.lv.length+(ls.ld.length+ls.ln.length):=by simp[bX.all]
 have hrl:(vrs++((ls.ld++ls.ln).map st.get++(roA++roV))).length=ls.all.length+(roA.length+roV.length):=by simp[lV,hall];omega
 generalize hrs:vrs++((ls.ld++ls.ln).map st.get++(roA++roV))=rsS at*
 let gS:aP:=fun i=>if i<ls.all.length then g (ls.all.getD i 0)else(iA++iV).getD (i-ls.all.length) ⟨0,fun _=>Go.undef,fun _=>False⟩
 have hg1: ∀i,i<ls.all.length→gS i=g (ls.all.getD i 0):=fun i hi=>if_pos hi
 have getV: ∀i,i<ls.lv.length→rsS[i]?=vrs[i]?:=fun i hi=>by
  rw[←hrs,List.getElem?_append_left (by omega)]
 have getR: ∀i,ls.lv.length≤i→i<ls.all.length→rsS.getD i .dead=st.get (ls.all.getD i 0)∧ls.all.getD i 0∈ls.ld++ls.ln:=fun i h3 h4=>by
  have hlt:i-vrs.length<(ls.ld++ls.ln).length:=by simp;omega
  have e:ls.all.getD i 0=(ls.ld++ls.ln)[i-vrs.length]:=by
   simp only[List.getD_eq_getElem?_getD,bX.all]
   rw[List.getElem?_append_right (by omega),←lV,List.getElem?_eq_getElem hlt];rfl
  refine⟨?_,by rw[e];exact List.getElem_mem hlt⟩
  rw[e,←hrs]
  simp only[List.getD_eq_getElem?_getD]
  rw[List.getElem?_append_right (by omega),List.getElem?_append_left (by simpa using hlt),List.getElem?_map,List.getElem?_eq_getElem hlt]
  rfl
 have getO: ∀i,ls.all.length≤i→rsS[i]?=(roA++roV)[i-ls.all.length]?:=fun i h3=>by
  rw[←hrs,List.getElem?_append_right (by omega),List.getElem?_append_right (by simp;omega)]
  congr 1
  simp[hall];omega
 have ros:=oA.app oV
 have hat:At (St.mk [] rsS).get gS ls.all.length (roA++roV) (iA++iV):=by
  intro k x inf hx hi
  refine⟨?_,?_⟩
  ·show rsS.getD (ls.all.length+k) .dead=x
   simp only[List.getD_eq_getElem?_getD]
   rw[getO _ (by omega),Nat.add_sub_cancel_left,hx];rfl
  ·show(if ls.all.length+k<ls.all.length then _ else _)=inf
   rw[if_neg (by omega),Nat.add_sub_cancel_left]
   simp only[List.getD_eq_getElem?_getD,hi,Option.getD_some]
 have hcorr:ED st.get g ls.all (St.mk [] rsS).get gS:=by
  intro r i hi
  obtain⟨_,h4⟩:=lI ls.all 0 r i hi
  rw[Nat.sub_zero]at h4
  have hlt:=(List.getElem?_eq_some_iff.1 h4).1
  have er:ls.all.getD i 0=r:=by simp only[List.getD_eq_getElem?_getD,h4];rfl
  rw[hg1 i hlt,er]
  rcases Nat.lt_or_ge i ls.lv.length with h5|h5
  ·have e5:ls.lv[i]?=some r:=by
    rw[←h4];simp only[bX.all];rw[List.getElem?_append_left h5]
   obtain⟨cs,cs0,arr,te,p1,p2,_⟩:=aV i r e5
   have eg:(St.mk [] rsS).get i= .var cs:=by
    show rsS.getD i .dead=_
    simp only[List.getD_eq_getElem?_getD];rw[getV i h5,p1];rfl
   rw[eg]
   exact⟨fun t ht=>by simp[cP]at ht,fun _=>⟨by rw[p2];rfl,rfl⟩⟩
  ·obtain⟨e6,_⟩:=getR i h5 hlt
   have eg:(St.mk [] rsS).get i=st.get r:=by rw[←er];exact e6
   rw[eg]
   exact⟨fun t ht=>⟨ht,fun _=>rfl⟩,fun hv=>⟨hv,rfl⟩⟩
 have hatA:=hat.left oA.1
 have hatV:=hat.right oA.1
 have getro: ∀i,ls.all.length≤i→i<rsS.length→ ∃inf,GL (blank w (lA st.get g ls.all)) (rsS.getD i .dead) inf∧gS i=inf:=by
  intro i h3 h4
  have hlt:i-ls.all.length<(roA++roV).length:=by simp;omega
  have hi:i-ls.all.length<(iA++iV).length:=by rw[ros.1];exact hlt
  have e:=getO i h3
  rw[List.getElem?_eq_getElem hlt]at e
  refine⟨(iA++iV)[i-ls.all.length],?_,?_⟩
  ·have:rsS.getD i .dead=(roA++roV)[i-ls.all.length]:=by simp only[List.getD_eq_getElem?_getD,e];rfl
   rw[this]
   exact ros.2 _ _ _ (List.getElem?_eq_getElem hlt) (List.getElem?_eq_getElem hi)
  ·show(if i<ls.all.length then _ else _)=_
   rw[if_neg (by omega)]
   simp only[List.getD_eq_getElem?_getD,List.getElem?_eq_getElem hi];rfl
 let hs:=lG ls.lv.length ls.ld.length ls.all.length (roA.length+roV.length)
 have hsl:hs.length=rsS.length:=by rw[hrl];exact y8 _ _ _ _ (by omega)
 let actH:Act:={tmps:=((List.range rsS.length).map fun i=>mE gS (hs.getD i .undef) i).toArray,defers:= []}
 have hact: ∀i,actH.tmps.getD i Go.undef=if i<rsS.length then mE gS (hs.getD i .undef) i else Go.undef:=by
  intro i
  show(((List.range rsS.length).map fun i=>mE gS (hs.getD i .undef) i).toArray).getD i Go.undef=_
  rw[Array.getD_eq_getD_getElem?]
  simp only[List.getElem?_toArray,List.getElem?_map,List.getElem?_range]
  by_cases hi:i<rsS.length
  ·simp[hi,List.getElem?_range hi]
  ·rw[List.getElem?_eq_none (by simpa using Nat.le_of_not_lt hi),if_neg hi];rfl
 have hvt:(St.mk [] rsS).rs.take ls.lv.length=vrs:=by
  show rsS.take ls.lv.length=vrs
  rw[←hrs,←lV,List.take_left]
 have hsub:rsS.length-ls.all.length=roA.length+roV.length:=by omega
 refine⟨gS,actH,?_,aA (St.mk [] rsS).get gS hcorr hatA,fun r hr=> ?_,⟨hg1,fun i=>by rw[hact i,hsub],by show ls.all.length≤rsS.length;omega,fun i h3 h4=> ?_,fun i h3 h4=> ?_,?_,?_,fun i r hi=> ?_⟩⟩
 rotate_left
 ·rcases bA r hr with h|h
  ·show r<rsS.length;omega
  ·show r<rsS.length;omega
 ·obtain⟨e6,e7⟩:=getR i h3 h4
  obtain⟨t,xs,e8⟩:=hD _ e7
  exact⟨e6,t,xs,e6.trans e8⟩
 ·obtain⟨inf,⟨e,ys,h5,_,h6⟩,h7⟩:=getro i h3 h4
  exact⟨⟨e,ys,h5⟩,by rw[h7];exact h6⟩
 ·rw[hvt]
  exact tE _ _ _ _ _ h2 k2 (by omega)
 ·rw[hvt]
  refine zr (w:=w) ls.lv vrs _ lV fun i r hi=> ?_
  obtain⟨cs,cs0,arr,te,p1,p2,p3,p4,p5,p6,p7,p8⟩:=aV i r hi
  exact⟨cs,arr,te,p1,p5,by unfold aZ;rw[p2];exact p7,p8 _ gS hcorr hatV⟩
 ·obtain⟨cs,cs0,arr,te,p1,p2,p3,p4,p5,p6,p7,p8⟩:=aV i r hi
  have h5:=(List.getElem?_eq_some_iff.1 hi).1
  exact⟨cs,cs0,arr,te,by show rsS[i]?=_;rw[getV i h5,p1],p2,p3,p5,p7,p8 _ gS hcorr hatV⟩
 have lget: ∀i,i<ls.lv.length→ ∃r,ls.lv[i]?=some r∧ls.all.getD i 0=r∧r∈ls.all:=fun i hi=>by
  refine⟨ls.lv[i],List.getElem?_eq_getElem hi,?_,?_⟩
  ·simp only[List.getD_eq_getElem?_getD,bX.all]
   rw[List.getElem?_append_left hi,List.getElem?_eq_getElem hi];rfl
  ·simp only[bX.all,List.mem_append];exact .inl (List.getElem_mem hi)
 have hownS: ∀i b,Own (St.mk [] rsS).get gS i b→i<ls.all.length∧Own st.get g (ls.all.getD i 0) b:=by
  intro i b ho
  rcases Nat.lt_or_ge i ls.all.length with h3|h3
  ·refine⟨h3,?_⟩
   rcases Nat.lt_or_ge i ls.lv.length with h5|h5
   ·obtain⟨r,e5,e6,_⟩:=lget i h5
    obtain⟨cs,cs0,arr,te,p1,p2,_⟩:=aV i r e5
    have eg:(St.mk [] rsS).get i= .var cs:=by
     show rsS.getD i .dead=_
     simp only[List.getD_eq_getElem?_getD];rw[getV i h5,p1];rfl
    unfold Own at ho⊢
    rw[eg]at ho
    rw[e6,p2]
    rw[hg1 i h3,e6]at ho
    exact ho
   ·obtain⟨e6,e7⟩:=getR i h5 h3
    obtain⟨t,xs,e8⟩:=hD _ e7
    have eg:(St.mk [] rsS).get i= .row true t xs:=e6.trans e8
    unfold Own at ho⊢
    rw[eg]at ho
    rw[e8]
    rw[hg1 i h3]at ho
    exact ho
  ·exfalso
   rcases Nat.lt_or_ge i rsS.length with h4|h4
   ·obtain⟨inf,⟨e,ys,h5,_⟩,_⟩:=getro i h3 h4
    have eg:(St.mk [] rsS).get i= .row false e ys:=h5
    unfold Own at ho
    rw[eg]at ho
    exact ho
   ·have eg:(St.mk [] rsS).get i= .dead:=by
     show rsS.getD i .dead=_
     simp only[List.getD_eq_getElem?_getD];rw[List.getElem?_eq_none h4];rfl
    unfold Own at ho
    rw[eg]at ho
    exact ho
 have hmem: ∀i,i<ls.all.length→ls.all.getD i 0∈ls.all:=fun i hi=>by
  simp only[List.getD_eq_getElem?_getD,List.getElem?_eq_getElem hi];exact List.getElem_mem hi
 have hinj: ∀i j,i<ls.all.length→j<ls.all.length→i≠j→ls.all.getD i 0≠ls.all.getD j 0:=fun i j hi hj hij e=>by
  simp only[List.getD_eq_getElem?_getD,List.getElem?_eq_getElem hi,List.getElem?_eq_getElem hj,Option.getD_some]at e
  exact hij (wL hn e)
 refine⟨⟨rfl,rfl,rfl,by show(blank _ _).heap.size≤_;rw[fV];exact Nat.le_refl _,fun k hk=>(eC hk.2).symm,fun k o h1 h2=>C1 h1 h2⟩,fun i=> ?_,fun i j b hij h3 h4=> ?_,fun i b ho=> ?_,?_,fun f hf r hr=> ?_,fun i x hx=> ?_,fun i hi=> ?_,⟨List.nodup_nil,(fun D h=>by cases h),(fun k o h=>by cases h)⟩⟩
 ·
  show aX _ w (St.mk [] rsS).get gS i
  rcases Nat.lt_or_ge i ls.all.length with h3|h3
  ·rcases Nat.lt_or_ge i ls.lv.length with h5|h5
   ·obtain⟨r,e5,e6,_⟩:=lget i h5
    obtain⟨cs,cs0,arr,te,p1,p2,p3,p4,p5,p6,p7,p8⟩:=aV i r e5
    have eg:(St.mk [] rsS).get i= .var cs:=by
     show rsS.getD i .dead=_
     simp only[List.getD_eq_getElem?_getD];rw[getV i h5,p1];rfl
    unfold aX
    rw[eg]
    exact⟨arr,te,by rw[hg1 i h3,e6];exact p5,p6,p8 _ gS hcorr hatV⟩
   ·obtain⟨e6,e7⟩:=getR i h5 h3
    obtain⟨t,xs,e8⟩:=hD _ e7
    have eg:(St.mk [] rsS).get i= .row true t xs:=e6.trans e8
    have hr:=R.roots (ls.all.getD i 0)
    unfold aX at hr⊢
    rw[e8]at hr
    rw[eg]
    simp only[hg1 i h3]
    exact hr
  ·rcases Nat.lt_or_ge i rsS.length with h4|h4
   ·obtain⟨inf,⟨e,ys,h5,h6,_⟩,h7⟩:=getro i h3 h4
    have eg:(St.mk [] rsS).get i= .row false e ys:=h5
    unfold aX
    rw[eg]
    simp only[h7]
    exact h6
   ·have eg:(St.mk [] rsS).get i= .dead:=by
     show rsS.getD i .dead=_
     simp only[List.getD_eq_getElem?_getD];rw[List.getElem?_eq_none h4];rfl
    unfold aX
    rw[eg];trivial
 ·obtain⟨h5,h6⟩:=hownS i b h3
  obtain⟨h7,h8⟩:=hownS j b h4
  exact R.sep _ _ b (hinj i j h5 h7 hij) h6 h8
 ·obtain⟨h5,h6⟩:=hownS i b ho
  exact fun hk=>hk.2 ⟨_,hmem i h5,h6⟩
 ·
  refine⟨actH,[],rfl,⟨?_,fun i=> ?_,(fun d h=>by cases h)⟩,rfl⟩
  ·show hs.length≤actH.tmps.size
   rw[hsl]
   show rsS.length≤(((List.range rsS.length).map _).toArray).size
   simp
  ·show ae (St.mk [] rsS).get gS (hs.getD i .undef) (actH.tmps.getD i Go.undef)
   rw[hact i]
   by_cases hi:i<rsS.length
   ·rw[if_pos hi]
    have hh:=jQ ls.lv.length ls.ld.length ls.all.length (roA.length+roV.length) i (by omega)
    by_cases c1:i<ls.lv.length
    ·rw[if_pos c1]at hh
     rw[show hs.getD i .undef=_ from hh]
     simp only[mE]
     rw[ae]
     exact⟨⟨_,rfl⟩,fun _=>rfl⟩
    ·rw[if_neg c1]at hh
     have row: ∀(H:Path→Value),(∃a n c,H []= .slice a n c)→(gS i).H=H→ae (St.mk [] rsS).get gS (.sl i [] none) ((gS i).H []):=by
      intro H hH e
      rw[ae]
      refine⟨by rw[e];exact hH,fun _ _ _ _=>rfl⟩
     by_cases c2:i<ls.lv.length+ls.ld.length
     ·rw[if_pos c2]at hh
      rw[show hs.getD i .undef=_ from hh]
      simp only[mE]
      obtain⟨e6,e7⟩:=getR i (by omega) (by omega)
      obtain⟨t,xs,e8⟩:=hD _ e7
      have hr:=R.roots (ls.all.getD i 0)
      unfold aX at hr
      rw[e8]at hr
      refine row _ ?_ rfl
      rw[hg1 i (by omega)]
      rcases hr.1 with⟨h0,_⟩|⟨a,cap,h0,_⟩
      ·exact⟨_,_,_,h0⟩
      ·exact⟨_,_,_,h0⟩
     ·rw[if_neg c2]at hh
      by_cases c3:i<ls.all.length
      ·rw[if_pos c3]at hh
       rw[show hs.getD i .undef=_ from hh]
       simp[ae]
      ·rw[if_neg c3]at hh
       by_cases c4:i<ls.all.length+(roA.length+roV.length)
       ·rw[if_pos c4]at hh
        rw[show hs.getD i .undef=_ from hh]
        simp only[mE]
        obtain⟨inf,⟨e,ys,h5,h6,h7⟩,h8⟩:=getro i (by omega) hi
        exact row _ h7 (by rw[h8])
       ·omega
   ·rw[if_neg hi]
    have:hs.getD i .undef= .undef:=by
     simp only[List.getD_eq_getElem?_getD];rw[List.getElem?_eq_none (by omega)];rfl
    rw[this];simp[ae]
 ·have hf:f∈ [hs]:=hf
  simp only[List.mem_singleton]at hf
  subst hf
  have: ∀l:List AV,(∀v∈l,∀x∈v.roots,x<rsS.length)→ ∀x∈AV.ag l,x<rsS.length:=by
   intro l
   induction l with
   |nil=>intro _ x hx;simp[AV.ag]at hx
   |cons v l ih=>
    intro h x hx
    simp only[AV.ag,List.mem_append]at hx
    exact hx.elim (h v List.mem_cons_self x) (ih (fun u hu=>h u (List.mem_cons_of_mem _ hu)) x)
  refine this hs (fun v hv x hx=> ?_) r hr
  obtain⟨i,hi,e⟩:=List.mem_iff_getElem.1 hv
  have hh:=jQ ls.lv.length ls.ld.length ls.all.length (roA.length+roV.length) i (by omega)
  have ev:hs.getD i .undef=v:=by simp only[List.getD_eq_getElem?_getD,List.getElem?_eq_getElem hi,e];rfl
  rw[show(lG ls.lv.length ls.ld.length ls.all.length (roA.length+roV.length)).getD i .undef=v from ev]at hh
  have:x=i:=by
   rw[hh]at hx
   split at hx
   ·simpa[AV.roots]using hx
   ·split at hx
    ·simpa[AV.roots]using hx
    ·split at hx
     ·simp[AV.roots]at hx
     ·split at hx
      ·simpa[AV.roots]using hx
      ·simp[AV.roots]at hx
  omega
 ·have hx:x∈((St.mk [] rsS).get i).roots:=hx
  show x<rsS.length
  rcases Nat.lt_or_ge i ls.all.length with h3|h3
  ·rcases Nat.lt_or_ge i ls.lv.length with h5|h5
   ·obtain⟨r,e5,e6,_⟩:=lget i h5
    obtain⟨cs,cs0,arr,te,p1,p2,p3,p4,p5,p6,p7,p8⟩:=aV i r e5
    have eg:(St.mk [] rsS).get i= .var cs:=by
     show rsS.getD i .dead=_
     simp only[List.getD_eq_getElem?_getD];rw[getV i h5,p1];rfl
    rw[eg]at hx
    rcases p4 x hx with h|h<;>omega
   ·obtain⟨e6,e7⟩:=getR i h5 h3
    obtain⟨t,xs,e8⟩:=hD _ e7
    rw[show(St.mk [] rsS).get i= .row true t xs from e6.trans e8]at hx
    simp[al.roots]at hx
  ·rcases Nat.lt_or_ge i rsS.length with h4|h4
   ·obtain⟨inf,⟨e,ys,h5,_⟩,_⟩:=getro i h3 h4
    rw[show(St.mk [] rsS).get i= .row false e ys from h5]at hx
    simp[al.roots]at hx
   ·have eg:(St.mk [] rsS).get i= .dead:=by
     show rsS.getD i .dead=_
     simp only[List.getD_eq_getElem?_getD];rw[List.getElem?_eq_none h4];rfl
    rw[eg]at hx
    simp[al.roots]at hx
 ·rcases Nat.lt_or_ge i rsS.length with h4|h4
  ·exact h4
  ·exfalso
   refine hi ?_
   show rsS.getD i .dead=_
   simp only[List.getD_eq_getElem?_getD];rw[List.getElem?_eq_none h4];rfl
end
end
end Go.Am
end
section
/- Soundness: what comes back of a part. -/
namespace Go.Am
noncomputable section
attribute [local instance] D.real
section
variable {w0 : cw} {w w' : World} {st st' : St} {g g' : aP} {born born' : Nat → Prop} {acts : List Act} {a : Act} {get : Get}
theorem uw: ∀(t:Ty) (vs:List AV) (ok:List Tst) (l:List Nat) (rest:List AV),gives get t vs=(ok,l,rest)→bh ok→ ∀r∈l,∃t xs,get r= .row true t xs:=by
 intro t
 induction t with
 |int k=>intro vs ok l rest h _ r hr;simp only[gives,Prod.mk.injEq]at h;obtain⟨_,rfl,_⟩:=h;cases hr
 |bool=>intro vs ok l rest h _ r hr;simp only[gives,Prod.mk.injEq]at h;obtain⟨_,rfl,_⟩:=h;cases hr
 |str=>intro vs ok l rest h _ r hr;simp only[gives,Prod.mk.injEq]at h;obtain⟨_,rfl,_⟩:=h;cases hr
 |unit=>intro vs ok l rest h _ r hr;simp only[gives,Prod.mk.injEq]at h;obtain⟨_,rfl,_⟩:=h;cases hr
 |pair a b iha ihb=>
  intro vs ok l rest h hok r hr
  unfold gives at h
  split at h
  ·unfold rp at h
   split at h
   ·next t xs hg=>
    simp only[Prod.mk.injEq]at h;obtain⟨_,rfl,_⟩:=h
    simp only[List.mem_singleton]at hr
    subst hr;exact⟨_,_,hg⟩
   ·simp only[Prod.mk.injEq]at h;obtain⟨_,rfl,_⟩:=h;cases hr
  generalize ha:gives get a vs=ra at h
  obtain⟨ok1,l1,rest1⟩:=ra
  simp only at h
  generalize hb:gives get b rest1=rb at h
  obtain⟨ok2,l2,rest2⟩:=rb
  simp only[Prod.mk.injEq]at h
  obtain⟨rfl,rfl,rfl⟩:=h
  obtain⟨k1,k2⟩:=ay.1 hok
  rcases List.mem_append.1 hr with hr|hr
  ·exact iha _ _ _ _ ha k1 r hr
  ·exact ihb _ _ _ _ hb k2 r hr
 |sl e ih=>
  intro vs ok l rest h hok r hr
  unfold gives at h
  split at h
  ·simp only[Prod.mk.injEq]at h;obtain⟨_,rfl,_⟩:=h;cases hr
  ·split at h
   ·next t xs hg=>
    simp only[Prod.mk.injEq]at h;obtain⟨_,rfl,_⟩:=h
    simp only[List.mem_singleton]at hr
    subst hr;exact⟨_,_,hg⟩
   ·simp only[Prod.mk.injEq]at h;obtain⟨_,rfl,_⟩:=h;cases hr
  ·simp only[Prod.mk.injEq]at h;obtain⟨_,rfl,_⟩:=h;cases hr
def qJ(w:World)(get:Get)(g:aP)(l:List Nat)(v:Value)(H:Path→Value):Cell→Prop
 |⟨.sl e,xs⟩=>H []=v∧bK w true e xs H∧(∀b,aW e xs H b→ ∃r∈l,Own get g r b)∧(l.Nodup→cX e xs H)
 |⟨.int k,n⟩=>v= .int k n
 |⟨.bool,b⟩=>v= .bool b
 |⟨.str,s⟩=>v= .string s
 |⟨.unit,_⟩=>True
 |⟨.pair _ _,_⟩=>False
def Ty.one:Ty→Bool
 | .pair _ _=>false
 |_=>true
theorem y7(n:Nat)(rs:List al)(c:AV):(fh n rs c).one=true:=by
 unfold fh
 split<;>try rfl
 next i=>
  cases Nat.blt i n with
  |false=>rfl
  |true=>simp only[cond_true];split<;>rfl
theorem BB(hR: ∀r,aX w0 w get g r)(hS: ∀r r' b,r≠r'→Own get g r b→Own get g r' b→False){t:Ty}{v:AV}{x:Value}{ok:List Tst}{d:den t}{l:List Nat}(ht:t.one=true)
  (hv:ae get g v x) (h:rd1 get t v=(ok,d,l)) (hok:bh ok): ∃H,qJ w get g l x H ⟨t,d⟩∧ ∀r∈l,∃t xs,get r= .row true t xs:=by
 have hA:ah get g [v] [x]:=by rw[ah];exact⟨x,[],rfl,hv,by rw[ah]⟩
 have main: ∀(t:Ty) (d:den t),(match b8 get t [v]with
   |(ok,x,_)=>match gives get t [v]with
    |(ok',l,_)=>(ok++ok',x,l))=(ok,d,l)→
   Rep w true t d (Gof g [v] [x]) 0 (fun k=> [x][k]?)∧(∀b,Blk t d (Gof g [v] [x]) 0 b→ ∃r∈l,Own get g r b)∧(l.Nodup→Sep t d (Gof g [v] [x]) 0)∧ ∀r∈l,∃t xs,get r= .row true t xs:=by
  intro t d h
  generalize h1:b8 get t [v]=r1 at h
  obtain⟨ok1,d1,rest1⟩:=r1
  simp only at h
  generalize h2:gives get t [v]=r2 at h
  obtain⟨ok2,l2,rest2⟩:=r2
  simp only[Prod.mk.injEq]at h
  obtain⟨rfl,rfl,rfl⟩:=h
  obtain⟨k1,k2⟩:=ay.1 hok
  obtain⟨q1,_,q3,q4,_⟩:=lO hR hS hA t 0 ok1 ok2 d1 l2 rest1 rest2 h1 h2 k1 k2
  exact⟨q1,q3,q4,uw t _ _ _ _ h2 k2⟩
 cases t with
 |pair=>cases ht
 |unit=>
  simp only[rd1,Prod.mk.injEq]at h
  obtain⟨_,_,rfl⟩:=h
  exact⟨fun _=>Go.undef,trivial,fun r h=>by cases h⟩
 |int k=>obtain⟨h1,_,_,h4⟩:=main (.int k) d h;exact⟨fun _=>Go.undef,by have h1: [x][0]?=some (.int k d):=h1;simpa[qJ]using h1,h4⟩
 |bool=>obtain⟨h1,_,_,h4⟩:=main .bool d h;exact⟨fun _=>Go.undef,by have h1: [x][0]?=some (.bool d):=h1;simpa[qJ]using h1,h4⟩
 |str=>obtain⟨h1,_,_,h4⟩:=main .str d h;exact⟨fun _=>Go.undef,by have h1: [x][0]?=some (.string d):=h1;simpa[qJ]using h1,h4⟩
 |sl e=>
  obtain⟨h1,h2,h3,h4⟩:=main (.sl e) d h
  refine⟨Gof g [v] [x] 0,⟨?_,h1.2,h2,h3⟩,h4⟩
  have:=h1.1
  simp only[List.getElem?_cons_zero,Option.some.injEq]at this
  exact this.symm
theorem xn(hR: ∀r,aX w0 w get g r)(hS: ∀r r' b,r≠r'→Own get g r b→Own get g r' b→False): ∀(tys:List Ty) (fin:List AV) (vals:List Value) (ok:List Tst) (x:den (Ty.all tys)) (l:List Nat),
  (∀t∈tys,t.one=true)→ah get g fin vals→tys.length=fin.length→tq get tys fin=(ok,x,l)→bh ok→
  ∃(ll:List (List Nat)),l=ll.flatten∧(iI tys x).length=tys.length∧(iI tys x).map (·.1)=tys∧(∀r∈l,∃t xs,get r= .row true t xs)∧
   ∀(j:Nat) (v:Value),vals[j]?=some v→ ∃c lj H,(iI tys x)[j]?=some c∧ll[j]?=some lj∧qJ w get g lj v H c
 | [],fin,vals,ok,x,l,_,hA,hl,h,_=>by
  simp only[tq,Prod.mk.injEq]at h
  obtain⟨_,_,rfl⟩:=h
  have:fin= []:=by cases fin with
   |nil=>rfl
   |cons=>simp at hl
  subst this
  rw[ah]at hA
  subst hA
  exact⟨[],rfl,rfl,rfl,fun r h=>(by cases h),fun j v h=>(by simp at h)⟩
 | [t],fin,vals,ok,x,l,ho,hA,hl,h,hok=>by
  cases fin with
  |nil=>simp at hl
  |cons f fs=>
   have:fs= []:=by cases fs with
    |nil=>rfl
    |cons=>simp at hl
   subst this
   rw[ah]at hA
   obtain⟨v,vs,rfl,hv,hA⟩:=hA
   rw[ah]at hA
   subst hA
   obtain⟨H,h1,h2⟩:=BB hR hS (ho t (by simp)) hv h hok
   refine⟨[l],by simp,rfl,rfl,h2,fun j v' hj=> ?_⟩
   cases j with
   |zero=>simp only[List.getElem?_cons_zero,Option.some.injEq]at hj;subst hj;exact⟨⟨t,x⟩,l,H,rfl,rfl,h1⟩
   |succ j=>simp at hj
 |t::u::r,fin,vals,ok,x,l,ho,hA,hl,h,hok=>by
  cases fin with
  |nil=>simp at hl
  |cons f fs=>
   unfold tq at h
   generalize h1:rd1 get t ((f::fs).headD .undef)=r1 at h
   obtain⟨ok1,x1,l1⟩:=r1
   simp only at h
   generalize h2:tq get (u::r) (f::fs).tail=r2 at h
   obtain⟨ok2,x2,l2⟩:=r2
   simp only[Prod.mk.injEq]at h
   obtain⟨rfl,rfl,rfl⟩:=h
   obtain⟨k1,k2⟩:=ay.1 hok
   rw[ah]at hA
   obtain⟨v,vs,rfl,hv,hA⟩:=hA
   obtain⟨H,q1,q2⟩:=BB hR hS (ho t (by simp)) hv h1 k1
   obtain⟨ll,p1,p2,p3,p4,p5⟩:=xn hR hS (u::r) fs vs ok2 x2 l2 (fun t' h'=>ho t' (List.mem_cons_of_mem _ h')) hA (by simpa using hl) h2 k2
   refine⟨l1::ll,by simp[p1],?_,?_,fun r' hr=> ?_,fun j v' hj=> ?_⟩
   ·show(iI (u::r) x2).length+1=_;rw[p2];rfl
   ·show t::(iI (u::r) x2).map (·.1)=_;rw[p3]
   ·exact(List.mem_append.1 hr).elim (q2 r') (p4 r')
   ·cases j with
    |zero=>simp only[List.getElem?_cons_zero,Option.some.injEq]at hj;subst hj;exact⟨⟨t,x1⟩,l1,H,rfl,rfl,q1⟩
    |succ j=>
     obtain⟨c,lj,H',s1,s2,s3⟩:=p5 j v' (by simpa using hj)
     exact⟨c,lj,H',by show(⟨t,x1⟩::iI (u::r) x2)[j+1]?=some c;simpa using s1,by simpa using s2,s3⟩
theorem uV(hR: ∀r,aX w0 w' get g' r): ∀(V:List Nat) (hl:List AV) (rl:List al) (ok:List Tst) (fin:List AV),varsOf get hl rl=(ok,fin)→bh ok→V.length=rl.length→
  (∀(i r:Nat),V[i]?=some r→ae get g' (hl.getD i .undef) (.pointer (some ⟨(g r).b,0,none⟩)))→
  ∃arrs:List (Array Value),arrs.length=V.length∧ah get g' fin (arrs.flatMap (·.toList))∧fin.length=(rl.flatMap eN).length∧ ∀(i r:Nat),V[i]?=some r→
   ∃arr te x y cs,arrs[i]?=some arr∧rl[i]?=some y∧w'.heap[(g r).b]?=some (.cells arr te (0,0))∧(∀v∈arr.toList,v.oneCell'=true)∧get x= .var cs∧(g' x).b=(g r).b∧arr.size=(eN y).length
 | [],hl,rl,ok,fin,h,hok,hlen,_=>by
  cases rl with
  |cons=>simp at hlen
  |nil=>
   cases hl with
   |nil=>simp only[varsOf,Prod.mk.injEq]at h;obtain⟨_,rfl⟩:=h;exact⟨[],rfl,by simp[ah],rfl,fun i r h=>by simp at h⟩
   |cons=>simp only[varsOf,Prod.mk.injEq]at h;obtain⟨rfl,_⟩:=h;exact(aK hok).elim
 |r::V,hl,rl,ok,fin,h,hok,hlen,hv=>by
  cases rl with
  |nil=>simp at hlen
  |cons y rl=>
   cases hl with
   |nil=>simp only[varsOf,Prod.mk.injEq]at h;obtain⟨rfl,_⟩:=h;exact(aK hok).elim
   |cons u hl=>
    unfold varsOf at h
    have hu:=hv 0 r rfl
    split at h
    ·next x=>
     have hu:ae get g' (.pv x 0) (.pointer (some ⟨(g r).b,0,none⟩)):=hu
     have hroot:=hR x
     unfold aX at hroot
     split at h
     ·next cs' hg=>
      rw[hg]at hroot
      obtain⟨arr,te,q1,q2,q3⟩:=hroot
      generalize h2:varsOf get hl rl=r2 at h
      obtain⟨ok2,fin2⟩:=r2
      simp only[Prod.mk.injEq]at h
      obtain⟨rfl,rfl⟩:=h
      obtain⟨k1,k2⟩:=af.1 hok
      obtain⟨arrs,p1,p2,p2',p3⟩:=uV hR V hl rl ok2 fin2 h2 k2 (by simpa using hlen) fun i r' hi=>hv (i+1) r' (by simpa using hi)
      rw[ae]at hu
      have hb:=hu.2 (by rw[hg];rfl)
      injection hb with hb
      injection hb with hb
      injection hb with hb _ _
      have hcl:cs'.length=(eN y).length:=by simpa[Tst.val]using k1
      have hsz:arr.size=cs'.length:=by have:=eu q3;simpa using this
      refine⟨arr::arrs,by simp[p1],?_,by simp[p2',hcl],fun i r' hi=> ?_⟩
      ·simp only[List.flatMap_cons];exact dW q3 p2
      ·cases i with
       |zero=>
        simp only[List.getElem?_cons_zero,Option.some.injEq]at hi
        subst hi
        exact⟨arr,te,x,y,cs',rfl,rfl,by rw[hb];exact q1,q2,hg,hb.symm,by omega⟩
       |succ i=>
        obtain⟨arr',te',x',y',cs'',s1,s2,s3,s4,s5,s6,s7⟩:=p3 i r' (by simpa using hi)
        exact⟨arr',te',x',y',cs'',by simpa using s1,by simpa using s2,s3,s4,s5,s6,s7⟩
     ·simp only[Prod.mk.injEq]at h;obtain⟨rfl,_⟩:=h;exact(aK hok).elim
    ·simp only[Prod.mk.injEq]at h;obtain⟨rfl,_⟩:=h;exact(aK hok).elim
structure HV (getS : Get) (gS : aP) (hv : Nat → Value) : Prop where
  each : ∀ i, (isVar (getS i) = true ∧ hv i = .pointer (some ⟨(gS i).b, 0, none⟩)) ∨ ((cP (getS i)).isSome = true ∧ hv i = (gS i).H [] ∧ ∃ a n c, hv i = .slice a n c) ∨ hv i = Go.undef
theorem wA(p:Option Addr):Go.undef≠ .pointer p:=by unfold Go.undef;exact fun h=>by cases h
theorem tZ(a:Option Addr)(n c:Nat):Go.undef≠ .slice a n c:=by unfold Go.undef;exact fun h=>by cases h
mutual
theorem zo{getS:Get}{gS:aP}{n:Nat}{hs:List AV}{hv:Nat→Value}(hH:HV getS gS hv)(hh: ∀i,ae get g' (hs.getD i .undef) (hv i)):
  ∀(c f:AV) (x x':Value),dD get hs n c f=true→ae getS gS c x→ae get g' f x'→x'=x
 | .nilS,f,x,x',h,hx,hx'=>by
  cases f<;>simp only[dD]at h<;>try cases h
  rw[ae]at hx hx'
  rw[hx,hx']
 | .sl i p sub,f,x,x',h,hx,hx'=>by
  cases p with
  |cons q p=>cases f<;>simp[dD]at h
  |nil=>cases sub with
   |some s=>cases f<;>simp[dD]at h
   |none=>cases f with
    |sl r p2 sub2=>cases p2 with
     |cons q p=>simp[dD]at h
     |nil=>cases sub2 with
      |some s=>simp[dD]at h
      |none=>
       simp only[dD,Bool.and_eq_true]at h
       obtain⟨⟨_,h1⟩,h2⟩:=h
       have hi:=hh i
       split at h1
       ·next r' e=>
        rw[e]at hi
        have:r'=r:=by simpa using h1
        subst this
        split at h2
        ·next rw_ t xs hg=>
         rw[ae]at hi hx'
         have i1:hv i=(g' r').H []:=hi.2 t t (by rw[hg];rfl) rfl
         have i2:x'=(g' r').H []:=hx'.2 t t (by rw[hg];rfl) rfl
         obtain⟨a,n,c,hsl⟩:=hi.1
         rw[ae]at hx
         rcases hH.each i with⟨_,e2⟩|⟨e1,e2,_⟩|e2
         ·rw[e2]at hsl;cases hsl
         ·obtain⟨t',ht'⟩:=Option.isSome_iff_exists.1 e1
          have:x=(gS i).H []:=hx.2 t' t' ht' rfl
          rw[i2,←i1,e2,this]
         ·rw[e2]at hsl;exact(tZ _ _ _ hsl).elim
        ·cases h2
       ·cases h1
    |_=>simp[dD]at h
 | .pv i c,f,x,x',h,hx,hx'=>by
  cases f<;>simp only[dD]at h<;>try cases h
  next r c'=>
   simp only[Bool.and_eq_true]at h
   obtain⟨⟨h0,h1⟩,h2⟩:=h
   have hc:c=c':=by simpa using h0
   subst hc
   have hi:=hh i
   split at h1
   ·next r' e=>
    rw[e]at hi
    have:r'=r:=by simpa using h1
    subst this
    split at h2
    ·next cs hg=>
     rw[ae]at hi hx'
     have i1:hv i= .pointer (some ⟨(g' r').b,0,none⟩):=hi.2 (by rw[hg];rfl)
     have i2:=hx'.2 (by rw[hg];rfl)
     rw[ae]at hx
     rcases hH.each i with⟨e1,e2⟩|⟨_,_,a,n,c,e2⟩|e2
     ·rw[hx.2 e1,i2]
      rw[i1]at e2
      injection e2 with e2
      injection e2 with e2
      injection e2 with e2 _ _
      rw[e2]
     ·rw[i1]at e2;cases e2
     ·rw[i1]at e2;exact(wA _ e2.symm).elim
    ·cases h2
   ·cases h1
 | .fn f0 p q,f,x,x',h,hx,hx'=>by
  cases f<;>simp only[dD]at h<;>try cases h
  next f1 p' q'=>
   simp only[Bool.and_eq_true]at h
   obtain⟨h0,h1,h2⟩:=h
   have hf:f0=f1:=by simpa using h0
   subst hf
   rw[ae]at hx hx'
   obtain⟨vs,ws,rfl,hp,hq⟩:=hx
   obtain⟨vs',ws',rfl,hp',hq'⟩:=hx'
   have e1:=so hH hh p p' _ _ h1 hp hp'
   have e2:=so hH hh q q' _ _ h2 hq hq'
   have e1:vs'=vs:=Array.toList_inj.1 e1
   have e2:ws'=ws:=Array.toList_inj.1 e2
   rw[e1,e2]
 | .undef,f,x,x',h,_,_=>by cases f<;>simp[dD]at h
 | .int k n,f,x,x',h,_,_=>by cases f<;>simp[dD]at h
 | .bool b,f,x,x',h,_,_=>by cases f<;>simp[dD]at h
 | .kb b,f,x,x',h,_,_=>by cases f<;>simp[dD]at h
 | .ki k n,f,x,x',h,_,_=>by cases f<;>simp[dD]at h
 | .nb n,f,x,x',h,_,_=>by cases f<;>simp[dD]at h
 | .str s,f,x,x',h,_,_=>by cases f<;>simp[dD]at h
 | .pe r p i f0,f,x,x',h,_,_=>by cases f<;>simp[dD]at h
 | .agg cs,f,x,x',h,_,_=>by cases f<;>simp[dD]at h
 | .tup cs,f,x,x',h,_,_=>by cases f<;>simp[dD]at h
theorem so{getS:Get}{gS:aP}{n:Nat}{hs:List AV}{hv:Nat→Value}(hH:HV getS gS hv)(hh: ∀i,ae get g' (hs.getD i .undef) (hv i)):
  ∀(cs fs:List AV) (xs xs':List Value),pO get hs n cs fs=true→ah getS gS cs xs→ah get g' fs xs'→xs'=xs
 | [],[],xs,xs',_,hx,hx'=>by rw[ah]at hx hx';rw[hx,hx']
 | [],f::fs,xs,xs',h,_,_=>by simp[pO]at h
 |c::cs,[],xs,xs',h,_,_=>by simp[pO]at h
 |c::cs,f::fs,xs,xs',h,hx,hx'=>by
  simp only[pO,Bool.and_eq_true]at h
  rw[ah]at hx hx'
  obtain⟨x,xs1,rfl,h1,h2⟩:=hx
  obtain⟨x',xs1',rfl,h3,h4⟩:=hx'
  rw[zo hH hh c f x x' h.1 h1 h3,so hH hh cs fs xs1 xs1' h.2 h2 h4]
end
theorem s0{n:Nat}{hs:List AV}: ∀(tys:List Ty) (cs fin:List AV) (j:Nat) (c f:AV),qM get hs n tys cs fin=true→tys[j]?=some .unit→cs[j]?=some c→fin[j]?=some f→c= .undef∨dD get hs n c f=true
 | [],_,_,j,_,_,_,ht,_,_=>by simp at ht
 |t::tys,[],_,j,_,_,_,_,hc,_=>by simp at hc
 |t::tys,_::_,[],j,_,_,_,_,_,hf=>by simp at hf
 |t::tys,c0::cs,f0::fin,j,c,f,h,ht,hc,hf=>by
  simp only[qM,Bool.and_eq_true,List.headD_cons,List.tail_cons]at h
  cases j with
  |zero=>
   simp only[List.getElem?_cons_zero,Option.some.injEq]at ht hc hf
   subst ht;subst hc;subst hf
   have:=h.1
   simp only at this
   split at this
   ·left;rfl
   ·right;exact this
  |succ j=>exact s0 tys cs fin j c f h.2 (by simpa using ht) (by simpa using hc) (by simpa using hf)
end
end
end Go.Am
end
section
/- Soundness: the caller's state with what came back. -/
namespace Go.Am
noncomputable section
attribute [local instance] D.real
section
variable {w0 : cw} {w w' : World} {st st' : St} {g g' g2 : aP} {born born' : Nat → Prop} {acts : List Act} {a : Act} {get get2 : Get}
def fO(n:Nat):List Nat→List AV→List AV
 | [],f=>f
 |r::l,f=>fO n l (AV.iy r n f)
def vi(n:Nat):List Nat→al→al
 | [],x=>x
 |r::l,x=>vi n l (x.cut r n)
theorem qv(n:Nat): ∀(l:List Nat) (st:St),(fC n l st).fr=st.fr.map (fO n l)
 | [],st=>by simp[fC];exact(List.map_id _).symm
 |r::l,st=>by
  show(fC n l (st.cut (some (r,n)))).fr=_
  rw[qv n l]
  show(st.fr.map (AV.iy r n)).map (fO n l)=_
  rw[List.map_map];rfl
theorem DO(st:St)(r n x:Nat):(st.cut (some (r,n))).get x=(st.get x).cut r n:=by
 show(st.rs.map (al.cut r n)).getD x .dead=_
 simp only[List.getD_eq_getElem?_getD,List.getElem?_map]
 show _=(st.rs.getD x .dead).cut r n
 simp only[List.getD_eq_getElem?_getD]
 cases st.rs[x]?<;>rfl
theorem oi(n:Nat): ∀(l:List Nat) (st:St) (x:Nat),(fC n l st).get x=vi n l (st.get x)
 | [],st,x=>rfl
 |r::l,st,x=>by
  show(fC n l (st.cut (some (r,n)))).get x=_
  rw[oi n l,DO];rfl
theorem oe(n:Nat): ∀(l:List Nat) (st:St),(fC n l st).rs.length=st.rs.length
 | [],st=>rfl
 |r::l,st=>by
  show(fC n l (st.cut (some (r,n)))).rs.length=_
  rw[oe n l];show(st.rs.map _).length=_;simp
theorem sH(n:Nat): ∀(l:List Nat) (x:al),(∀cs,x≠ .var cs)→vi n l x=x
 | [],x,_=>rfl
 |r::l,x,h=>by
  have e:x.cut r n=x:=by
   cases x<;>first|rfl|exact absurd rfl (h _)
  show vi n l (x.cut r n)=x
  rw[e];exact sH n l x h
theorem si(n:Nat): ∀(l:List Nat) (cs:List AV),vi n l (.var cs)= .var (fO n l cs)
 | [],cs=>rfl
 |r::l,cs=>si n l (AV.iy r n cs)
theorem kF(n:Nat): ∀(l:List Nat) (f:List AV),(fO n l f).length=f.length
 | [],f=>rfl
 |r::l,f=>by show(fO n l _).length=_;rw[kF n l,zV]
theorem lr(n:Nat): ∀(l:List Nat) (f:List AV) (x:Nat),x∈AV.ag (fO n l f)→x∈AV.ag f
 | [],f,x,h=>h
 |r::l,f,x,h=>sN.2 f x (lr n l _ x h)
open Classical in
def mix{α:Type}(l:List Nat)(a b:Nat→α):Nat→α:=fun r=>if r∈l then a r else b r
theorem uG(n:Nat)(get2:Get)(g2:aP): ∀(l:List Nat) (get:Get) (g:aP) (v:AV) (x:Value),(∀r∈l,isVar (get2 r)=false∧ ∀t,cP (get2 r)=some t→cP (get r)=some t∧ ∀p:Path,p.length<n→(g2 r).H p=(g r).H p)→
  ae get g v x→ ∃v',fO n l [v]= [v']∧ae (mix l get2 get) (mix l g2 g) v' x
 | [],get,g,v,x,_,hx=>⟨v,rfl,by
  have e1:mix [] get2 get=get:=by funext r;simp[mix]
  have e2:mix [] g2 g=g:=by funext r;simp[mix]
  rw[e1,e2];exact hx⟩
 |r::l,get,g,v,x,h,hx=>by
  classical
  have h1:ae (fun y=>if y=r then get2 r else get y) (fun y=>if y=r then g2 r else g y) (v.cut r n) x:=by
   refine sj v x (fun y _=> ?_) hx
   by_cases e:y=r
   ·subst e
    obtain⟨k1,k2⟩:=h y List.mem_cons_self
    refine⟨fun t ht=> ?_,fun hv=> ?_⟩
    ·simp only[if_true]at ht⊢
     exact⟨(k2 t ht).1,fun p hp=>(k2 t ht).2 p (hp trivial)⟩
    ·simp only[if_true]at hv
     rw[k1]at hv;cases hv
   ·refine⟨fun t ht=> ?_,fun hv=> ?_⟩
    ·simp only[e,if_false]at ht⊢
     exact⟨ht,fun _ _=>trivial⟩
    ·simp only[e,if_false]at hv⊢
     exact⟨hv,trivial⟩
  obtain⟨v',e1,e2⟩:=uG n get2 g2 l _ _ (v.cut r n) x (fun y hy=>by
   obtain⟨k1,k2⟩:=h y (List.mem_cons_of_mem _ hy)
   refine⟨k1,fun t ht=> ?_⟩
   by_cases e:y=r
   ·subst e
    simp only[if_true]
    exact⟨ht,fun _ _=>trivial⟩
   ·simp only[e,if_false]
    exact k2 t ht) h1
  refine⟨v',?_,?_⟩
  ·show fO n l (AV.iy r n [v])=_
   rw[AV.iy,AV.iy];exact e1
  ·have q1:mix l get2 (fun y=>if y=r then get2 r else get y)=mix (r::l) get2 get:=by
    funext y
    simp only[mix,List.mem_cons]
    by_cases e:y∈l
    ·simp[e]
    ·by_cases e':y=r
     ·simp[e']
     ·simp[e,e']
   have q2:mix l g2 (fun y=>if y=r then g2 r else g y)=mix (r::l) g2 g:=by
    funext y
    simp only[mix,List.mem_cons]
    by_cases e:y∈l
    ·simp[e]
    ·by_cases e':y=r
     ·simp[e']
     ·simp[e,e']
   rw[←q1,←q2];exact e2
theorem l9(n:Nat): ∀(l:List Nat) (v:AV) (f:List AV),∃v',fO n l [v]= [v']∧fO n l (v::f)=v'::fO n l f
 | [],v,f=>⟨v,rfl,rfl⟩
 |r::l,v,f=>by
  obtain⟨v',e1,e2⟩:=l9 n l (v.cut r n) (AV.iy r n f)
  refine⟨v',?_,?_⟩
  ·show fO n l (AV.iy r n [v])=_
   rw[AV.iy,AV.iy];exact e1
  ·show fO n l (AV.iy r n (v::f))=_
   rw[AV.iy];exact e2
structure Dq (get get2 : Get) (g g2 : aP) (D N : List Nat) : Prop where
  d : ∀ r ∈ D, isVar (get2 r) = false ∧ ∀ t, cP (get2 r) = some t → cP (get r) = some t ∧ (g2 r).H [] = (g r).H []
  n : ∀ r ∈ N, isVar (get2 r) = false ∧ ∀ t, cP (get2 r) = some t → cP (get r) = some t
  else_ : ∀ r, r ∉ D → r ∉ N → Holds get get2 g g2 r fun _ => True
theorem Aa{D N:List Nat}(h:Dq get get2 g g2 D N){v:AV}{x:Value}(hx:ae get g v x): ∃v',fO 0 N (fO 1 D [v])= [v']∧ae get2 g2 v' x:=by
 obtain⟨v1,e1,h1⟩:=uG 1 get2 g2 D get g v x (fun r hr=>⟨(h.d r hr).1,fun t ht=>⟨((h.d r hr).2 t ht).1,fun p hp=>by
  have:p= []:=by cases p with
   |nil=>rfl
   |cons=>simp at hp
  subst this
  exact((h.d r hr).2 t ht).2⟩⟩) hx
 obtain⟨v2,e2,h2⟩:=uG 0 get2 g2 N _ _ v1 x (fun r hr=>⟨(h.n r hr).1,fun t ht=>⟨by
  by_cases e:r∈D
  ·simp only[mix,e,if_true];exact ht
  ·simp only[mix,e,if_false];exact(h.n r hr).2 t ht,fun p hp=>by omega⟩⟩) h1
 refine⟨v2,by rw[e1];exact e2,iU v2 x (fun r _=> ?_) h2⟩
 by_cases e1:r∈N
 ·refine⟨fun t ht=> ?_,fun hv=> ?_⟩
  ·simp only[mix,e1,if_true];exact⟨ht,fun _ _=>trivial⟩
  ·simp only[mix,e1,if_true];exact⟨hv,trivial⟩
 ·by_cases e2:r∈D
  ·refine⟨fun t ht=> ?_,fun hv=> ?_⟩
   ·simp only[mix,e1,e2,if_true,if_false];exact⟨ht,fun _ _=>trivial⟩
   ·simp only[mix,e1,e2,if_true,if_false];exact⟨hv,trivial⟩
  ·refine⟨fun t ht=> ?_,fun hv=> ?_⟩
   ·simp only[mix,e1,e2,if_false];exact(h.else_ r e2 e1).row t ht
   ·simp only[mix,e1,e2,if_false];exact(h.else_ r e2 e1).var hv
theorem xe{D N:List Nat}(h:Dq get get2 g g2 D N): ∀(f:List AV) (i:Nat) (x:Value),ae get g (f.getD i .undef) x→ae get2 g2 ((fO 0 N (fO 1 D f)).getD i .undef) x
 | [],i,x,_=>by
  have:fO 0 N (fO 1 D [])= []:=by
   apply List.eq_nil_of_length_eq_zero
   rw[kF,kF];rfl
  rw[this];simp[ae]
 |v::f,i,x,hx=>by
  obtain⟨v1,e1,e2⟩:=l9 1 D v f
  obtain⟨v2,e3,e4⟩:=l9 0 N v1 (fO 1 D f)
  rw[e2,e4]
  cases i with
  |zero=>
   obtain⟨v',q1,q2⟩:=Aa h (v:=v) (x:=x) (by simpa using hx)
   rw[e1,e3]at q1
   injection q1 with q1
   subst q1
   simpa using q2
  |succ i=>simpa using xe h f i x (by simpa using hx)
theorem wO{D N:List Nat}(h:Dq get get2 g g2 D N): ∀(f:List AV) (xs:List Value),ah get g f xs→ah get2 g2 (fO 0 N (fO 1 D f)) xs
 | [],xs,hx=>by
  have:fO 0 N (fO 1 D [])= []:=by
   apply List.eq_nil_of_length_eq_zero
   rw[kF,kF];rfl
  rw[this]
  rw[ah]at hx⊢;exact hx
 |v::f,xs,hx=>by
  obtain⟨v1,e1,e2⟩:=l9 1 D v f
  obtain⟨v2,e3,e4⟩:=l9 0 N v1 (fO 1 D f)
  rw[e2,e4]
  rw[ah]at hx⊢
  obtain⟨x,xs,rfl,hv,hx⟩:=hx
  obtain⟨v',q1,q2⟩:=Aa h hv
  rw[e1,e3]at q1
  injection q1 with q1
  subst q1
  exact⟨x,xs,rfl,q2,wO h f xs hx⟩
theorem tw{D N:List Nat}(h:Dq get get2 g g2 D N): ∀{fr:List (List AV)} {acts:List Act},fq get g fr acts→fq get2 g2 (fr.map fun f=>fO 0 N (fO 1 D f)) acts
 | [],_,h=>h
 |f::fs,_,⟨a,as,e,h1,h2⟩=>⟨a,as,e,⟨by rw[kF,kF];exact h1.size,fun i=>xe h f i _ (h1.slot i),h1.defers⟩,tw h h2⟩
mutual
theorem BO{getK get':Get}{L:List Nat}{hs:List AV}(hk: ∀r∈L,getK r= .dead)(HH: ∀r,r∉L→Holds get get2 g g2 r fun _=>True)(HV: ∀r∈L,isVar (get2 r)=true→isVar (get r)=true∧(g2 r).b=(g r).b):
  ∀(o:AV) (b:Nat) (ok:List Tst) (c:AV) (rs:List al) (f:AV) (x:Value),di getK L o b=(ok,c,rs)→bh ok→dD get' hs L.length c f=true→ae get g o x→ae get2 g2 o x
 | .int k n,b,ok,c,rs,f,x,h,_,hs,_=>by
  rw[di]at h;simp only[Prod.mk.injEq]at h;obtain⟨_,rfl,_⟩:=h
  cases f<;>simp[dD]at hs
 | .bool n,b,ok,c,rs,f,x,h,_,hs,_=>by
  rw[di]at h;simp only[Prod.mk.injEq]at h;obtain⟨_,rfl,_⟩:=h
  cases f<;>simp[dD]at hs
 | .kb n,b,ok,c,rs,f,x,h,_,hs,_=>by
  rw[di]at h;simp only[Prod.mk.injEq]at h;obtain⟨_,rfl,_⟩:=h
  cases f<;>simp[dD]at hs
 | .ki k n,b,ok,c,rs,f,x,h,_,hs,_=>by
  rw[di]at h;simp only[Prod.mk.injEq]at h;obtain⟨_,rfl,_⟩:=h
  cases f<;>simp[dD]at hs
 | .str n,b,ok,c,rs,f,x,h,_,hs,_=>by
  rw[di]at h;simp only[Prod.mk.injEq]at h;obtain⟨_,rfl,_⟩:=h
  cases f<;>simp[dD]at hs
 | .nilS,b,ok,c,rs,f,x,h,_,_,hx=>by rw[ae]at hx⊢;exact hx
 | .undef,b,ok,c,rs,f,x,_,_,_,_=>by simp[ae]
 | .nb n,b,ok,c,rs,f,x,h,hok,_,_=>by
  rw[di]at h;simp only[Prod.mk.injEq]at h;obtain⟨rfl,_⟩:=h;exact(aK hok).elim
 | .pe r p i f0,b,ok,c,rs,f,x,h,hok,_,_=>by
  rw[di]at h;simp only[Prod.mk.injEq]at h;obtain⟨rfl,_⟩:=h;exact(aK hok).elim
 | .tup vs,b,ok,c,rs,f,x,h,hok,_,_=>by
  rw[di]at h;simp only[Prod.mk.injEq]at h;obtain⟨rfl,_⟩:=h;exact(aK hok).elim
 | .lit r n,b,ok,c,rs,f,x,h,hok,hs,_=>by
  rw[di]at h
  split at h
  ·simp only[Prod.mk.injEq]at h;obtain⟨_,rfl,_⟩:=h
   cases f<;>simp[dD]at hs
  ·simp only[Prod.mk.injEq]at h;obtain⟨rfl,_⟩:=h;exact(aK hok).elim
 | .agg cs,b,ok,c,rs,f,x,h,hok,hs,hx=>by
  rw[di]at h
  generalize h1:gH getK L cs b=s1 at h
  obtain⟨ok1,p',r1⟩:=s1
  simp only[Prod.mk.injEq]at h
  obtain⟨_,rfl,_⟩:=h
  cases f<;>simp[dD]at hs
 | .sl r p sub,b,ok,c,rs,f,x,h,hok,hs,hx=>by
  unfold di at h
  generalize hi:zw L r p sub=m at h
  cases m with
  |some i=>
   simp only[Prod.mk.injEq]at h;obtain⟨_,rfl,_⟩:=h
   have hi':idx L 0 r=some i:=by
    cases p with
    |nil=>cases sub with
     |none=>exact hi
     |some s=>cases hi
    |cons q p=>cases sub<;>cases hi
   have hlt:=(List.getElem?_eq_some_iff.1 (lI L 0 r i hi').2).1
   exfalso
   cases f with
   |sl r2 p2 sub2=>
    cases p2 with
    |cons=>simp[dD]at hs
    |nil=>cases sub2 with
     |some=>simp[dD]at hs
     |none=>
      simp only[dD,Bool.and_eq_true]at hs
      have:=Nat.le_of_ble_eq_true hs.1.1
      omega
   |_=>simp[dD]at hs
  |none=>
   generalize hsl:sliceAt getK r p=s at h
   obtain⟨ok1,e,ys⟩:=s
   simp only[Prod.mk.injEq]at h
   obtain⟨rfl,_,_⟩:=h
   have hr:r∉L:=fun hr=>by
    unfold sliceAt at hsl
    rw[hk r hr]at hsl
    simp only[Prod.mk.injEq]at hsl
    obtain⟨rfl,_⟩:=hsl
    exact aK hok
   exact iU _ _ (fun r' hr'=>by simp only[AV.roots,List.mem_singleton]at hr';subst hr';exact HH r' hr) hx
 | .pv r c0,b,ok,c,rs,f,x,h,hok,hs,hx=>by
  by_cases hr:r∈L
  ·rw[ae]at hx⊢
   refine⟨hx.1,fun hv=> ?_⟩
   obtain⟨h1,h2⟩:=HV r hr hv
   rw[h2];exact hx.2 h1
  ·exact iU _ _ (fun r' hr'=>by simp only[AV.roots,List.mem_singleton]at hr';subst hr';exact HH r' hr) hx
 | .fn f0 p q,b,ok,c,rs,f,x,h,hok,hs,hx=>by
  rw[di]at h
  generalize h1:gH getK L p b=s1 at h
  obtain⟨ok1,p',r1⟩:=s1
  simp only at h
  generalize h2:gH getK L q (b+r1.length)=s2 at h
  obtain⟨ok2,q',r2⟩:=s2
  simp only[Prod.mk.injEq]at h
  obtain⟨rfl,rfl,_⟩:=h
  obtain⟨k1,k2⟩:=ay.1 hok
  rw[ae]at hx⊢
  obtain⟨vs,ws,rfl,hp,hq⟩:=hx
  cases f<;>simp only[dD]at hs<;>try cases hs
  next f1 p1 q1=>
   simp only[Bool.and_eq_true]at hs
   exact⟨vs,ws,rfl,vp hk HH HV p b ok1 p' r1 p1 _ h1 k1 hs.2.1 hp,vp hk HH HV q _ ok2 q' r2 q1 _ h2 k2 hs.2.2 hq⟩
theorem vp{getK get':Get}{L:List Nat}{hs:List AV}(hk: ∀r∈L,getK r= .dead)(HH: ∀r,r∉L→Holds get get2 g g2 r fun _=>True)(HV: ∀r∈L,isVar (get2 r)=true→isVar (get r)=true∧(g2 r).b=(g r).b):
  ∀(os:List AV) (b:Nat) (ok:List Tst) (cs:List AV) (rs:List al) (fs:List AV) (xs:List Value),gH getK L os b=(ok,cs,rs)→bh ok→pO get' hs L.length cs fs=true→ah get g os xs→ah get2 g2 os xs
 | [],b,ok,cs,rs,fs,xs,_,_,_,hx=>by rw[ah]at hx⊢;exact hx
 |o::os,b,ok,cs,rs,fs,xs,h,hok,hs,hx=>by
  rw[gH]at h
  generalize h1:di getK L o b=s1 at h
  obtain⟨ok1,p',r1⟩:=s1
  simp only at h
  generalize h2:gH getK L os (b+r1.length)=s2 at h
  obtain⟨ok2,q',r2⟩:=s2
  simp only[Prod.mk.injEq]at h
  obtain⟨rfl,rfl,_⟩:=h
  obtain⟨k1,k2⟩:=ay.1 hok
  rw[ah]at hx⊢
  obtain⟨x,xs1,rfl,hp,hq⟩:=hx
  cases fs with
  |nil=>simp[pO]at hs
  |cons f fs=>
   simp only[pO,Bool.and_eq_true]at hs
   exact⟨x,xs1,rfl,BO hk HH HV o b ok1 p' r1 f x h1 k1 hs.1 hp,vp hk HH HV os _ ok2 q' r2 fs xs1 h2 k2 hs.2 hq⟩
end
theorem Eb{getK:Get}{L:List Nat}{o:AV}{i:Nat}(h:FD getK L o (.sl i [] none))(hi:i<L.length):o= .sl (L.getD i 0) [] none:=by
 obtain⟨b,ok,rs,h,hok,hb⟩:=h
 cases o with
 |sl r p sub=>
  unfold di at h
  generalize hm:zw L r p sub=m at h
  cases m with
  |some j=>
   simp only[Prod.mk.injEq]at h
   obtain⟨_,h,_⟩:=h
   injection h with h _ _
   subst h
   cases p with
   |cons=>cases sub<;>cases hm
   |nil=>cases sub with
    |some=>cases hm
    |none=>
     have hm:idx L 0 r=some j:=hm
     have:=(lI L 0 r j hm).2
     rw[Nat.sub_zero]at this
     simp only[List.getD_eq_getElem?_getD,this];rfl
  |none=>
   generalize sliceAt getK r p=s at h
   obtain⟨ok1,e,ys⟩:=s
   simp only[Prod.mk.injEq]at h
   obtain⟨_,h,_⟩:=h
   injection h with h _ _
   omega
 |pv r c=>rw[di]at h;split at h<;>simp at h
 |lit r c=>rw[di]at h;split at h<;>simp at h
 |fn f p q=>
  rw[di]at h
  generalize gH getK L p b=s1 at h
  obtain⟨ok1,p',r1⟩:=s1
  simp only at h
  generalize gH getK L q (b+r1.length)=s2 at h
  obtain⟨ok2,q',r2⟩:=s2
  simp at h
 |agg cs=>
  rw[di]at h
  generalize gH getK L cs b=s1 at h
  obtain⟨ok1,p',r1⟩:=s1
  simp at h
 |_=>rw[di]at h;simp at h
theorem Cs{getK:Get}{L:List Nat}{o:AV}(h:FD getK L o .undef):o= .undef:=by
 obtain⟨b,ok,rs,h,hok,hb⟩:=h
 cases o with
 |sl r p sub=>
  unfold di at h
  generalize zw L r p sub=m at h
  cases m with
  |some j=>simp at h
  |none=>
   generalize sliceAt getK r p=s at h
   obtain⟨ok1,e,ys⟩:=s
   simp at h
 |pv r c=>
  rw[di]at h
  split at h
  ·simp at h
  ·simp only[Prod.mk.injEq]at h;obtain⟨rfl,_⟩:=h;exact(aK hok).elim
 |fn f p q=>
  rw[di]at h
  generalize gH getK L p b=s1 at h
  obtain⟨ok1,p',r1⟩:=s1
  simp only at h
  generalize gH getK L q (b+r1.length)=s2 at h
  obtain⟨ok2,q',r2⟩:=s2
  simp at h
 |agg cs=>
  rw[di]at h
  generalize gH getK L cs b=s1 at h
  obtain⟨ok1,p',r1⟩:=s1
  simp at h
 |nb n=>rw[di]at h;simp only[Prod.mk.injEq]at h;obtain⟨rfl,_⟩:=h;exact(aK hok).elim
 |pe r p i f=>rw[di]at h;simp only[Prod.mk.injEq]at h;obtain⟨rfl,_⟩:=h;exact(aK hok).elim
 |tup vs=>rw[di]at h;simp only[Prod.mk.injEq]at h;obtain⟨rfl,_⟩:=h;exact(aK hok).elim
 |lit r n=>
  rw[di]at h
  split at h
  ·simp at h
  ·simp only[Prod.mk.injEq]at h;obtain⟨rfl,_⟩:=h;exact(aK hok).elim
 |undef=>rfl
 |_=>rw[di]at h;simp at h
theorem rH: ∀(os:List AV) (cells:List Cell) (vals:List Value),os.length=cells.length→os.length=vals.length→
  (∀(j:Nat) (o:AV) (c:Cell) (v:Value),os[j]?=some o→cells[j]?=some c→vals[j]?=some v→ae get2 g2 (CP o c) v)→ah get2 g2 (iM os cells) vals
 | [],cells,vals,_,h2,_=>by
  have:vals= []:=by cases vals with
   |nil=>rfl
   |cons=>simp at h2
  subst this
  cases cells<;>simp[iM,ah]
 |o::os,[],vals,h1,_,_=>by simp at h1
 |o::os,c::cells,[],_,h2,_=>by simp at h2
 |o::os,c::cells,v::vals,h1,h2,h=>by
  show ah get2 g2 (CP o c::iM os cells) (v::vals)
  rw[ah]
  exact⟨v,vals,rfl,h 0 o c v rfl rfl rfl,rH os cells vals (by simpa using h1) (by simpa using h2) fun j o' c' v' a b d=>h (j+1) o' c' v' (by simpa using a) (by simpa using b) (by simpa using d)⟩
theorem AA(o:AV)(c:Cell)(r:Nat)(h:r∈(CP o c).roots):r∈o.roots:=by
 unfold CP at h
 split at h
 ·simp[AV.roots]at h
 ·simp[AV.roots]at h
 ·simp[AV.roots]at h
 ·exact h
theorem oC: ∀(os:List AV) (cells:List Cell) (r:Nat),r∈AV.ag (iM os cells)→r∈AV.ag os
 | [],cells,r,h=>by cases cells<;>simp[iM,AV.ag]at h
 |o::os,[],r,h=>h
 |o::os,c::cells,r,h=>by
  have h:r∈AV.ag (CP o c::iM os cells):=h
  simp only[AV.ag,List.mem_append]at h⊢
  exact h.imp (AA o c r) (oC os cells r)
theorem xu(n:Nat): ∀(l:List AV) (r:Nat),r∈AV.ag (l.take n)→r∈AV.ag l:=by
 induction n with
 |zero=>intro l r h;simp[AV.ag]at h
 |succ n ih=>
  intro l r h
  cases l with
  |nil=>simp[AV.ag]at h
  |cons v l=>
   simp only[List.take_succ_cons,AV.ag,List.mem_append]at h⊢
   exact h.imp id (ih l r)
theorem yg(n:Nat): ∀(l:List AV) (r:Nat),r∈AV.ag (l.drop n)→r∈AV.ag l:=by
 induction n with
 |zero=>intro l r h;exact h
 |succ n ih=>
  intro l r h
  cases l with
  |nil=>simp[AV.ag]at h
  |cons v l=>
   simp only[AV.ag,List.mem_append]
   exact .inr (ih l r h)
theorem rh: ∀(V:List Nat) (cs:List AV),(kR get V cs).map (·.1)=V
 | [],cs=>rfl
 |r::V,cs=>by show r::(kR get V _).map (·.1)=_;rw[rh V]
theorem tO: ∀(V:List Nat) (cs:List AV) (arrs:List (Array Value)),arrs.length=V.length→ah get2 g2 cs (arrs.flatMap (·.toList))→
  (∀(i r:Nat) (arr:Array Value),V[i]?=some r→arrs[i]?=some arr→arr.size=(aZ get r).length)→
  ∀(i r:Nat) (arr:Array Value),V[i]?=some r→arrs[i]?=some arr→ ∃seg,(r,al.var seg)∈kR get V cs∧ah get2 g2 seg arr.toList∧ ∀x∈AV.ag seg,x∈AV.ag cs
 | [],cs,arrs,_,_,_,i,r,arr,h,_=>by simp at h
 |r0::V,cs,[],hl,_,_,i,r,arr,_,h=>by simp at h
 |r0::V,cs,arr0::arrs,hl,hA,hs,i,r,arr,hi,ha=>by
  have h0:=hs 0 r0 arr0 rfl rfl
  simp only[List.flatMap_cons]at hA
  have hT:=hO (aZ get r0).length hA
  have hDr:=hZ (aZ get r0).length hA
  rw[List.take_left' (by simpa using h0)]at hT
  rw[List.drop_left' (by simpa using h0)]at hDr
  cases i with
  |zero=>
   simp only[List.getElem?_cons_zero,Option.some.injEq]at hi ha
   subst hi;subst ha
   exact⟨_,List.mem_cons_self,hT,fun x hx=>xu _ _ x hx⟩
  |succ i=>
   obtain⟨seg,p1,p2,p3⟩:=tO V (cs.drop (aZ get r0).length) arrs (by simpa using hl) hDr (fun i r arr h1 h2=>hs (i+1) r arr (by simpa using h1) (by simpa using h2)) i r arr (by simpa using hi) (by simpa using ha)
   exact⟨seg,List.mem_cons_of_mem _ p1,p2,fun x hx=>yg _ _ x (p3 x hx)⟩
theorem qP(n:Nat)(L:List Nat)(rs:List al): ∀(cs:List AV) (bs:List Cell),bs.map (·.1)=cs.map (fh n rs)→(∀i∈eE n rs cs,∃rw t xs,rs.getD i .dead= .row rw t xs)→(gC n L rs cs bs).map (·.1)=(eE n rs cs).map fun i=>L.getD i 0
 | [],bs,_,_=>by cases bs<;>rfl
 |c::cs,[],h,_=>by simp at h
 |c::cs,b::bs,h,hr=>by
  simp only[List.map_cons,List.cons.injEq]at h
  obtain⟨h1,h2⟩:=h
  have skip:(∀i∈eE n rs cs,∃rw t xs,rs.getD i .dead= .row rw t xs)→(gC n L rs cs bs).map (·.1)=(eE n rs cs).map fun i=>L.getD i 0:=qP n L rs cs bs h2
  unfold gC
  unfold eE at hr⊢
  split
  ·next i t xs=>
   simp only at hr⊢
   cases hb:Nat.blt i n with
   |true=>
    rw[hb]at hr
    simp only[cond_true,List.map_append,List.map_cons,List.map_nil,List.cons_append,List.nil_append]at hr⊢
    rw[skip fun i hi=>hr i (List.mem_cons_of_mem _ hi)]
   |false=>
    rw[hb]at hr
    simp only[cond_false,List.nil_append]at hr⊢
    exact skip hr
  ·next hno=>
   simp only[List.nil_append]
   split at hr
   ·next i=>
    cases hb:Nat.blt i n with
    |true=>
     exfalso
     rw[hb]at hr
     simp only[cond_true]at hr
     obtain⟨rw_,t,xs,e⟩:=hr i List.mem_cons_self
     have:fh n rs (.sl i [] none)= .sl t:=by
      simp only[fh,hb,cond_true,e]
     rw[this]at h1
     obtain⟨t0,x0⟩:=b
     simp only at h1
     subst h1
     exact hno i t x0 rfl rfl
    |false=>
     rw[hb]at hr
     simp only[cond_false]at hr⊢
     exact skip hr
   ·exact skip hr
theorem td(n:Nat)(L:List Nat)(rs:List al): ∀(cs:List AV) (bs:List Cell) (J i:Nat) (t:Ty) (xs:List (den t)),cs[J]?=some (.sl i [] none)→bs[J]?=some ⟨.sl t,xs⟩→i<n→(L.getD i 0,al.row true t xs)∈gC n L rs cs bs
 | [],bs,J,i,t,xs,h,_,_=>by simp at h
 |c::cs,[],J,i,t,xs,_,h,_=>by simp at h
 |c::cs,b::bs,J,i,t,xs,hc,hb,hi=>by
  cases J with
  |zero=>
   simp only[List.getElem?_cons_zero,Option.some.injEq]at hc hb
   subst hc;subst hb
   unfold gC
   have:Nat.blt i n=true:=by rw[Nat.blt_eq];exact hi
   simp[this]
  |succ J=>
   unfold gC
   exact List.mem_append.2 (.inr (td n L rs cs bs J i t xs (by simpa using hc) (by simpa using hb) hi))
theorem ly(n:Nat)(rs:List al): ∀(cs:List AV) (i:Nat),i∈eE n rs cs↔i<n∧ ∃J:Nat,cs[J]?=some (.sl i [] none)
 | [],i=>by simp[eE]
 |c::cs,i=>by
  have ih:=ly n rs cs i
  unfold eE
  split
  ·next k=>
   cases hb:Nat.blt k n with
   |true=>
    simp only[cond_true,List.mem_cons,ih]
    rw[Nat.blt_eq]at hb
    constructor
    ·rintro(rfl|⟨h1,J,h2⟩)
     ·exact⟨hb,0,rfl⟩
     ·exact⟨h1,J+1,by simpa using h2⟩
    ·rintro⟨h1,J,h2⟩
     cases J with
     |zero=>simp only[List.getElem?_cons_zero,Option.some.injEq,AV.sl.injEq]at h2;exact .inl h2.1.symm
     |succ J=>exact .inr ⟨h1,J,by simpa using h2⟩
   |false=>
    simp only[cond_false,ih]
    have hb: ¬k<n:=fun h=>by rw[←Nat.blt_eq,hb]at h;cases h
    constructor
    ·rintro⟨h1,J,h2⟩;exact⟨h1,J+1,by simpa using h2⟩
    ·rintro⟨h1,J,h2⟩
     cases J with
     |zero=>simp only[List.getElem?_cons_zero,Option.some.injEq,AV.sl.injEq]at h2;omega
     |succ J=>exact⟨h1,J,by simpa using h2⟩
  ·next hno=>
   rw[ih]
   constructor
   ·rintro⟨h1,J,h2⟩;exact⟨h1,J+1,by simpa using h2⟩
   ·rintro⟨h1,J,h2⟩
    cases J with
    |zero=>simp only[List.getElem?_cons_zero,Option.some.injEq]at h2;exact(hno i h2).elim
    |succ J=>exact⟨h1,J,by simpa using h2⟩
theorem tf(n:Nat)(rs:List al): ∀(cs:List AV) (i J J':Nat),(eE n rs cs).Nodup→i<n→cs[J]?=some (.sl i [] none)→cs[J']?=some (.sl i [] none)→J=J'
 | [],i,J,J',_,_,h,_=>by simp at h
 |c::cs,i,J,J',hn,hi,h,h'=>by
  cases J with
  |zero=>cases J' with
   |zero=>rfl
   |succ J'=>
    exfalso
    simp only[List.getElem?_cons_zero,Option.some.injEq]at h
    subst h
    have hb:Nat.blt i n=true:=by rw[Nat.blt_eq];exact hi
    simp only[eE,hb,cond_true,List.nodup_cons]at hn
    exact hn.1 ((ly n rs cs i).2 ⟨hi,J',by simpa using h'⟩)
  |succ J=>cases J' with
   |zero=>
    exfalso
    simp only[List.getElem?_cons_zero,Option.some.injEq]at h'
    subst h'
    have hb:Nat.blt i n=true:=by rw[Nat.blt_eq];exact hi
    simp only[eE,hb,cond_true,List.nodup_cons]at hn
    exact hn.1 ((ly n rs cs i).2 ⟨hi,J,by simpa using h⟩)
   |succ J'=>
    have hn':(eE n rs cs).Nodup:=by
     unfold eE at hn
     split at hn
     ·next k=>
      cases hb:Nat.blt k n with
      |true=>rw[hb]at hn;simp only[cond_true,List.nodup_cons]at hn;exact hn.2
      |false=>rw[hb]at hn;exact hn
     ·exact hn
    rw[tf n rs cs i J J' hn' hi (by simpa using h) (by simpa using h')]
theorem tI: ∀(l:List (Nat×al)) (f:Get) (r:Nat) (x:al),(l.map (·.1)).Nodup→(r,x)∈l→fE l f r=x
 | [],f,r,x,_,h=>by cases h
 |(i,y)::l,f,r,x,hn,h=>by
  simp only[List.map_cons,List.nodup_cons]at hn
  unfold fE
  rcases List.mem_cons.1 h with h|h
  ·injection h with h1 h2
   subst h1;subst h2
   rw[iW l _ r hn.1,if_pos rfl]
  ·exact tI l _ r x hn.2 h
end
end
end Go.Am
end
section
/- Soundness: a call in a part of the state. -/
namespace Go.Am
noncomputable section
attribute [local instance] D.real
section
variable {P : Program} {w0 : cw} {w w' : World} {st st' : St} {g g' g2 : aP} {born born' : Nat → Prop} {acts : List Act} {a : Act} {get get2 : Get}
theorem Az(n:Nat)(rs:List al)(c:AV):fh n (rs.map al.strip) c.strip=fh n rs c:=by
 have e: ∀i,(match (rs.map al.strip).getD i .dead with
   | .row _ t _=>Ty.sl t
   |_=> .unit)=(match rs.getD i .dead with
   | .row _ t _=>Ty.sl t
   |_=> .unit):=by
  intro i
  simp only[List.getD_eq_getElem?_getD,List.getElem?_map]
  cases rs[i]? with
  |none=>rfl
  |some x=>cases x<;>rfl
 cases c with
 |sl i p sub=>
  cases p with
  |nil=>cases sub with
   |none=>simp only[AV.strip,fh];congr 1;exact e _
   |some s=>rfl
  |cons q p=>rfl
 |_=>rfl
theorem oO(x:al):eN x.strip=(eN x).map AV.strip:=by cases x<;>rfl
theorem AD(nV nD:Nat)(rs:List al):dy nV nD (rs.map al.strip)=(dy nV nD rs).map AV.strip:=by
 unfold dy
 rw[List.map_append,List.map_map]
 congr 1
 rw[←List.map_take]
 generalize rs.take nV=l
 induction l with
 |nil=>rfl
 |cons x l ih=>simp only[List.map_cons,List.flatMap_cons,ih,oO,List.map_append]
theorem AH{n:Nat}{rs:List al}{c:AV}(h:fh n rs c= .unit):c.strip=c:=by
 cases c<;>first|rfl|simp[fh]at h
theorem qF{get:Get}{g:aP}: ∀{vs:List AV} {l:List Value} {i:Nat} {v:AV} {x:Value},ah get g vs l→vs[i]?=some v→l[i]?=some x→ae get g v x:=by
 intro vs l i v x h e e'
 obtain⟨y,h1,h2⟩:=cQ h e
 rw[e']at h1
 injection h1 with h1
 rw[h1];exact h2
theorem uL(n:Nat)(L:List Nat)(rs rs':List al): ∀(cs:List AV) (bs:List Cell),gC n L rs (cs.map AV.strip) bs=gC n L rs' cs bs
 | [],bs=>by cases bs<;>rfl
 |c::cs,[]=>rfl
 |c::cs,b::bs=>by
  have ih:=uL n L rs rs' cs bs
  cases c with
  |sl i p sub=>
   cases p with
   |nil=>cases sub with
    |none=>
     obtain⟨t,x⟩:=b
     cases t<;>simp only[List.map_cons,AV.strip,gC,ih]
    |some s=>simp only[List.map_cons,AV.strip,gC,ih]
   |cons q p=>simp only[List.map_cons,AV.strip,gC,ih]
  |_=>simp only[List.map_cons,AV.strip,gC,ih]
theorem rR(get:Get): ∀(V:List Nat) (cs:List AV) (x:Nat×al),x∈kR get V cs→ ∃l,x.2= .var l
 | [],_,_,h=>by cases h
 |r::V,cs,x,h=>by
  rcases List.mem_cons.1 h with h|h
  ·subst h;exact⟨_,rfl⟩
  ·exact rR get V _ x h
theorem AF{n:Nat}{rs:List al}{c:AV}{t:Ty}(h:fh n rs c= .sl t): ∃i,c= .sl i [] none∧i<n:=by
 cases c with
 |sl i p sub=>
  cases p with
  |nil=>cases sub with
   |none=>
    simp only[fh]at h
    cases hb:Nat.blt i n with
    |true=>rw[Nat.blt_eq]at hb;exact⟨i,rfl,hb⟩
    |false=>rw[hb]at h;cases h
   |some s=>simp[fh]at h
  |cons q p=>simp[fh]at h
 |_=>simp[fh]at h
theorem pw: ∀(l:List (Nat×al)) (st:St),st.rs.length≤(st.aY l).rs.length
 | [],st=>Nat.le_refl _
 |(i,x)::l,st=>by
  rw[kJ]
  refine Nat.le_trans ?_ (pw l (st.fx i x))
  show st.rs.length≤(setAt st.rs i x).length
  unfold setAt
  cases hb:Nat.blt i st.rs.length with
  |true=>simp
  |false=>simp
theorem yf{t:Ty}{xs:List (den t)}{H:Path→Value}{rw_:Bool}(h:bK w rw_ t xs H): ∃a n c,H []= .slice a n c:=by
 rcases h with⟨h0,_⟩|⟨a,cap,h0,_⟩
 ·exact⟨_,_,_,h0⟩
 ·exact⟨_,_,_,h0⟩
theorem zl{ls:bX}{stS stF:St}{gS:aP}{actH:Act}{f:Nat}{vs':List AV}{us':List Value}{y:den (resTy P f)}{x:den (se ls.lv.length ls.ld.length ls.all.length (stS.rs.map al.strip))}{bornF:Nat→Prop}
  (R:Rel w0 st g born acts w) (hq: ∀r∈ls.all,∀j r' p t xs,st.get j= .pend r' p t xs→r'≠r) (hn:ls.all.Nodup) (hlt: ∀r,born r→r<st.rs.length)
  (hidx:eE ls.all.length stS.rs (dy ls.lv.length ls.ld.length stS.rs)=List.range' ls.lv.length (ls.ld.length+ls.ln.length))
  (pt:Part w st g ls stS gS actH) {wB:cw} (hle:(l8 w (lA st.get g ls.all)).le wB) (R':Rel wB stF g' bornF [actH] w') (hA:ah stF.get g' vs' us')
  (hend:qb P f ls.lv.length ls.ld.length ls.all.length (stS.rs.map al.strip) vs' stF=some (y,x)):
  ∃g2,Rel w0 (mQ ls st (stS.rs.map al.strip) x) g2 born acts w'∧(∀r,born r→r<(mQ ls st (stS.rs.map al.strip) x).rs.length)∧xG P (cS P f) us'∧
   ∃G,Rep w' true (eW P (cS P f)) y G 0 (fun k=>(cq us')[k]?)∧Sep (eW P (cS P f)) y G 0∧ ∀b,Blk (eW P (cS P f)) y G 0 b→ ¬w0.eH b∧ ∀r,¬Own (mQ ls st (stS.rs.map al.strip) x).get g2 r b:=by
 classical
 have hall:ls.all.length=ls.lv.length+(ls.ld.length+ls.ln.length):=by simp[bX.all]
 have KB:=hle.run R'.below
 have hfr:=R'.frames
 have htop:rJ stF.get g' stF.top actH:=by
  unfold St.top
  generalize stF.fr=fr at hfr
  cases fr with
  |nil=>simp only[fq]at hfr;cases hfr
  |cons f fs=>
   obtain⟨a',as,e,h1,_⟩:=hfr
   injection e with e1 _
   subst e1;exact h1
 let hv:Nat→Value:=fun i=>actH.tmps.getD i Go.undef
 have hh: ∀i,ae stF.get g' (stF.top.getD i .undef) (hv i):=htop.slot
 have hvi: ∀i,hv i=if i<stS.rs.length then mE gS ((lG ls.lv.length ls.ld.length ls.all.length (stS.rs.length-ls.all.length)).getD i .undef) i else Go.undef:=pt.act
 have plen:=pt.len
 have hvV: ∀i,i<ls.lv.length→hv i= .pointer (some ⟨(gS i).b,0,none⟩):=fun i hi=>by
  rw[hvi i,if_pos (by omega),jQ _ _ _ _ _ (by omega),if_pos hi];rfl
 have hvD: ∀i,ls.lv.length≤i→i<ls.lv.length+ls.ld.length→hv i=(gS i).H []:=fun i h1 h2=>by
  rw[hvi i,if_pos (by omega),jQ _ _ _ _ _ (by omega),if_neg (by omega),if_pos h2];rfl
 have hvar: ∀(i r:Nat),ls.lv[i]?=some r→i<ls.lv.length∧ls.all.getD i 0=r∧r∈ls.all∧gS i=g r:=fun i r hi=>by
  have h1:=(List.getElem?_eq_some_iff.1 hi).1
  have e:ls.all.getD i 0=r:=by
   simp only[List.getD_eq_getElem?_getD,bX.all]
   rw[List.getElem?_append_left h1,hi];rfl
  refine⟨by omega,e,?_,?_⟩
  ·simp only[bX.all,List.mem_append];exact .inl (List.mem_iff_getElem?.2 ⟨i,hi⟩)
  ·rw[pt.gs i (by omega),e]
 have hrow: ∀i,ls.lv.length≤i→i<ls.all.length→stS.get i=st.get (ls.all.getD i 0)∧ ∃t xs,stS.get i= .row true t xs:=pt.row
 have HVS:HV stS.get gS hv:=by
  refine⟨fun i=> ?_⟩
  by_cases h0:i<stS.rs.length
  ·by_cases h1:i<ls.lv.length
   ·left
    refine⟨?_,hvV i h1⟩
    obtain⟨cs,cs0,arr,te,p1,_⟩:=pt.var i (ls.lv[i]'(by omega)) (List.getElem?_eq_getElem _)
    have:stS.get i= .var cs:=by
     show stS.rs.getD i .dead=_
     simp only[List.getD_eq_getElem?_getD,p1];rfl
    rw[this];rfl
   ·by_cases h2:i<ls.lv.length+ls.ld.length
    ·right;left
     obtain⟨e1,t,xs,e2⟩:=hrow i (by omega) (by omega)
     refine⟨by rw[e2];rfl,hvD i (by omega) h2,?_⟩
     rw[hvD i (by omega) h2,pt.gs i (by omega)]
     have hr:=R.roots (ls.all.getD i 0)
     unfold aX at hr
     rw[←e1,e2]at hr
     rcases hr.1 with⟨h0,_⟩|⟨a,cap,h0,_⟩
     ·exact⟨_,_,_,h0⟩
     ·exact⟨_,_,_,h0⟩
    ·by_cases h3:i<ls.all.length
     ·right;right
      rw[hvi i,if_pos h0,jQ _ _ _ _ _ (by omega),if_neg h1,if_neg h2,if_pos h3];rfl
     ·right;left
      obtain⟨⟨e,ys,e1⟩,e2⟩:=pt.ro i (by omega) h0
      have e3:hv i=(gS i).H []:=by
       rw[hvi i,if_pos h0,jQ _ _ _ _ _ (by omega),if_neg h1,if_neg h2,if_neg h3,if_pos (by omega)];rfl
      exact⟨by rw[e1];rfl,e3,by rw[e3];exact e2⟩
  ·right;right
   rw[hvi i,if_neg h0]
 unfold qb at hend
 generalize hvo:varsOf stF.get (stF.top.take ls.lv.length) ((stS.rs.map al.strip).take ls.lv.length)=vo at hend
 obtain⟨ok0,fin⟩:=vo
 simp only at hend
 generalize hrd:b8 stF.get (resTy P f) (vs'.flatMap AV.cells)=rd at hend
 obtain⟨ok1,y1,rest⟩:=rd
 simp only at hend
 generalize hgv:gives stF.get (resTy P f) (vs'.flatMap AV.cells)=gv at hend
 obtain⟨ok2,l,rest2⟩:=gv
 simp only at hend
 generalize hbl:tq stF.get (jD ls.lv.length ls.ld.length ls.all.length (stS.rs.map al.strip)) ((stF.top.drop ls.lv.length).take ls.ld.length++fin)=bl at hend
 obtain⟨ok3,x,l'⟩:=bl
 simp only at hend
 obtain⟨hok,hend⟩:=j4 hend
 simp only[Option.some.injEq,Prod.mk.injEq]at hend
 obtain⟨rfl,rfl⟩:=hend
 obtain⟨k0,hok⟩:=ay.1 hok
 obtain⟨k1,hok⟩:=ay.1 hok
 obtain⟨k2,hok⟩:=ay.1 hok
 obtain⟨k3,hok⟩:=ay.1 hok
 obtain⟨k4,hok⟩:=af.1 hok
 obtain⟨_,hok⟩:=af.1 hok
 obtain⟨k6,hok⟩:=af.1 hok
 obtain⟨k7,hok⟩:=af.1 hok
 obtain⟨k8,_⟩:=af.1 hok
 have k6:(l++l').Nodup:=of_decide_eq_true k6
 have k7:((stF.top.drop ls.lv.length).take ls.ld.length).length=ls.ld.length:=by simpa[Tst.val]using k7
 have k8:qM stF.get stF.top ls.all.length (jD ls.lv.length ls.ld.length ls.all.length (stS.rs.map al.strip)) (dy ls.lv.length ls.ld.length (stS.rs.map al.strip)) ((stF.top.drop ls.lv.length).take ls.ld.length++fin)=true:=k8
 have htake:stS.rs.take ls.lv.length=stS.rs.take ls.lv.length:=rfl
 obtain⟨arrs,a1,a2,a2',a3⟩:=uV (g:=g) R'.roots ls.lv (stF.top.take ls.lv.length) ((stS.rs.map al.strip).take ls.lv.length) ok0 fin hvo k0 (by rw[List.length_take,List.length_map];omega) (fun i r hi=>by
  obtain⟨h1,_,_,h4⟩:=hvar i r hi
  have e:(stF.top.take ls.lv.length).getD i .undef=stF.top.getD i .undef:=by
   simp only[List.getD_eq_getElem?_getD];rw[List.getElem?_take,if_pos h1]
  rw[e,←h4]
  have:=hh i
  rw[hvV i h1]at this
  exact this)
 let Dv:List Value:=(List.range ls.ld.length).map fun i=>(gS (ls.lv.length+i)).H []
 have hD1:ah stF.get g' ((stF.top.drop ls.lv.length).take ls.ld.length) Dv:=by
  have: ∀(l:List AV) (n k:Nat),l.length=n→(∀i,i<n→ae stF.get g' (l.getD i .undef) ((gS (k+i)).H []))→ah stF.get g' l ((List.range n).map fun i=>(gS (k+i)).H []):=by
   intro l
   induction l with
   |nil=>intro n k hl _;subst hl;simp[ah]
   |cons v l ih=>
    intro n k hl h
    subst hl
    rw[List.length_cons,List.range_succ_eq_map,List.map_cons,List.map_map,ah]
    refine⟨_,_,rfl,by simpa using h 0 (by simp),?_⟩
    have:=ih l.length (k+1) rfl fun i hi=>by
     have:=h (i+1) (by simpa using hi)
     have e:k+1+i=k+(i+1):=by omega
     rw[e];simpa using this
    have e:((fun i=>(gS (k+i)).H [])∘Nat.succ)=fun i=>(gS (k+1+i)).H []:=by
     funext i
     have:k+i.succ=k+1+i:=by omega
     simp only[Function.comp,this]
    rw[e];exact this
  refine this _ ls.ld.length ls.lv.length k7 fun i hi=> ?_
  have e:((stF.top.drop ls.lv.length).take ls.ld.length).getD i .undef=stF.top.getD (ls.lv.length+i) .undef:=by
   simp only[List.getD_eq_getElem?_getD];rw[List.getElem?_take,if_pos hi,List.getElem?_drop]
  rw[e,←hvD (ls.lv.length+i) (by omega) (by omega)]
  exact hh _
 let valsF:List Value:=Dv++arrs.flatMap (·.toList)
 have hF:ah stF.get g' ((stF.top.drop ls.lv.length).take ls.ld.length++fin) valsF:=dW hD1 a2
 obtain⟨vals0,f1,f2⟩:=pt.flat
 have hsubl:=pt.sub
 let OC:=dy ls.lv.length ls.ld.length stS.rs
 have hOC:dy ls.lv.length ls.ld.length (stS.rs.map al.strip)=OC.map AV.strip:=AD _ _ _
 have hOCl:OC.length=ls.ld.length+((stS.rs.take ls.lv.length).flatMap eN).length:=by simp[OC,dy]
 have htys:jD ls.lv.length ls.ld.length ls.all.length (stS.rs.map al.strip)=OC.map (fh ls.all.length stS.rs):=by
  unfold jD
  rw[hOC,List.map_map]
  congr 1
  funext c
  exact Az _ _ _
 have hfinl:fin.length=((stS.rs.take ls.lv.length).flatMap eN).length:=by
  rw[a2',←List.map_take]
  generalize stS.rs.take ls.lv.length=l
  induction l with
  |nil=>rfl
  |cons x l ih=>simp only[List.map_cons,List.flatMap_cons,List.length_append,ih,oO,List.length_map]
 have hFl:((stF.top.drop ls.lv.length).take ls.ld.length++fin).length=OC.length:=by rw[List.length_append,k7,hfinl,hOCl]
 have hvFl:valsF.length=OC.length:=by rw[eu hF,hFl]
 obtain⟨ll,b1,b2,b3,b4,b5⟩:=xn R'.roots R'.sep _ _ valsF ok3 x l' (fun t ht=>by
   rw[htys]at ht
   obtain⟨c,_,rfl⟩:=List.mem_map.1 ht
   exact y7 _ _ _) hF (by rw[htys,List.length_map,hFl]) hbl k3
 generalize hcells:iI (jD ls.lv.length ls.ld.length ls.all.length (stS.rs.map al.strip)) x=cells at*
 have hcl:cells.length=OC.length:=by rw[b2,htys,List.length_map]
 have hcty: ∀(J:Nat) (c:AV) (b:Cell),OC[J]?=some c→cells[J]?=some b→b.1=fh ls.all.length stS.rs c:=fun J c b h1 h2=>by
  have e:=congrArg (fun l=>l[J]?) b3
  simp only[List.getElem?_map,h2,Option.map_some]at e
  rw[htys]at e
  simp only[List.getElem?_map,h1,Option.map_some,Option.some.injEq]at e
  exact e
 have hnodup':l'.Nodup:=(List.nodup_append.1 k6).2.1
 let Pr:Nat→(Path→Value)→Prop:=fun i H=> ∃(J:Nat) (t:Ty) (xs:List (den t)) (lj:List Nat) (v:Value),OC[J]?=some (.sl i [] none)∧cells[J]?=some ⟨.sl t,xs⟩∧ll[J]?=some lj∧valsF[J]?=some v∧qJ w' stF.get g' lj v H ⟨.sl t,xs⟩
 have hPr: ∀i,ls.lv.length≤i→i<ls.all.length→ ∃H,Pr i H:=fun i h1 h2=>by
  have hm:i∈eE ls.all.length stS.rs OC:=by
   rw[show OC=dy ls.lv.length ls.ld.length stS.rs from rfl,hidx]
   simp only[List.mem_range'_1];omega
  obtain⟨_,J,hJ⟩:=(ly _ _ _ _).1 hm
  have hJl:=(List.getElem?_eq_some_iff.1 hJ).1
  obtain⟨b,lj,H,c1,c2,c3⟩:=b5 J (valsF[J]'(by omega)) (List.getElem?_eq_getElem _)
  have hty:=hcty J _ b hJ c1
  obtain⟨_,t,xs,e⟩:=hrow i h1 h2
  have:fh ls.all.length stS.rs (.sl i [] none)= .sl t:=by
   have hb:Nat.blt i ls.all.length=true:=by rw[Nat.blt_eq];exact h2
   have e:stS.rs.getD i .dead= .row true t xs:=e
   simp only[fh,hb,cond_true,e]
  rw[this]at hty
  obtain⟨tb,db⟩:=b
  simp only at hty
  subst hty
  exact⟨H,J,t,db,lj,_,hJ,c1,c2,List.getElem?_eq_getElem _,c3⟩
 let Hof:Nat→Path→Value:=fun i=>if h:ls.lv.length≤i∧i<ls.all.length then Classical.choose (hPr i h.1 h.2)else fun _=>Go.undef
 have hHof: ∀i,ls.lv.length≤i→i<ls.all.length→Pr i (Hof i):=fun i h1 h2=>by
  show Pr i (if h:ls.lv.length≤i∧i<ls.all.length then Classical.choose (hPr i h.1 h.2)else fun _=>Go.undef)
  rw[dif_pos ⟨h1,h2⟩]
  exact Classical.choose_spec (hPr i h1 h2)
 have hJinj: ∀(i J J':Nat),ls.lv.length≤i→i<ls.all.length→OC[J]?=some (.sl i [] none)→OC[J']?=some (.sl i [] none)→J=J':=fun i J J' h1 h2 h3 h4=>
  tf ls.all.length stS.rs OC i J J' (by rw[show OC=dy ls.lv.length ls.ld.length stS.rs from rfl,hidx];exact List.nodup_range') h2 h3 h4
 let g2:aP:=fun r=>match idx ls.all 0 r with
  |some i=>if ls.lv.length≤i then⟨0,Hof i,fun _=>False⟩else g r
  |none=>g r
 have hidxL: ∀i,i<ls.all.length→idx ls.all 0 (ls.all.getD i 0)=some i:=by
  have key: ∀(L:List Nat) (k i:Nat),L.Nodup→i<L.length→idx L k (L.getD i 0)=some (k+i):=by
   intro L
   induction L with
   |nil=>intro k i _ h;simp at h
   |cons x L ih=>
    intro k i hn hi
    rw[List.nodup_cons]at hn
    cases i with
    |zero=>simp[idx]
    |succ i=>
     have hne:x≠L.getD i 0:=fun e=>hn.1 (by
      rw[e]
      have hi':i<L.length:=by simpa using hi
      simp only[List.getD_eq_getElem?_getD,List.getElem?_eq_getElem hi']
      exact List.getElem_mem hi')
     have hb:Nat.beq x (L.getD i 0)=false:=by
      cases h:Nat.beq x (L.getD i 0)with
      |false=>rfl
      |true=>exact absurd (ey h) hne
     simp only[List.getD_cons_succ]
     unfold idx
     rw[hb]
     simp only[cond_false]
     rw[ih (k+1) i hn.2 (by simpa using hi)]
     congr 1;omega
  intro i hi
  have:=key ls.all 0 i hn hi
  simpa using this
 have hidxN: ∀r,r∉ls.all→idx ls.all 0 r=none:=fun r hr=>by
  cases h:idx ls.all 0 r with
  |none=>rfl
  |some i=>
   exfalso
   have:=(lI _ _ _ _ h).2
   exact hr (List.mem_iff_getElem?.2 ⟨_,this⟩)
 have g2V: ∀(i r:Nat),ls.lv[i]?=some r→g2 r=g r:=fun i r hi=>by
  obtain⟨h1,h2,_,_⟩:=hvar i r hi
  have:=hidxL i (by omega)
  rw[h2]at this
  show(match idx ls.all 0 r with
   |some i=>if ls.lv.length≤i then _ else g r
   |none=>g r)=g r
  rw[this]
  simp only
  rw[if_neg (by omega)]
 have g2R: ∀i,ls.lv.length≤i→i<ls.all.length→g2 (ls.all.getD i 0)=⟨0,Hof i,fun _=>False⟩:=fun i h1 h2=>by
  show(match idx ls.all 0 (ls.all.getD i 0)with
   |some i=>if ls.lv.length≤i then(⟨0,Hof i,fun _=>False⟩:Info)else g _
   |none=>g _)=_
  rw[hidxL i h2]
  simp only
  rw[if_pos h1]
 have g2N: ∀r,r∉ls.all→g2 r=g r:=fun r hr=>by
  show(match idx ls.all 0 r with
   |some i=>if ls.lv.length≤i then _ else g r
   |none=>g r)=g r
  rw[hidxN r hr]
 let upd:=vk ls st (stS.rs.map al.strip) cells
 let stC:=fC 0 ls.ln (fC 1 ls.ld st)
 have hst2:mQ ls st (stS.rs.map al.strip) x=stC.aY upd:=by
  unfold mQ
  rw[hcells]
  rfl
 rw[hst2]
 have hupd:upd=gC ls.all.length ls.all stS.rs OC cells++kR st.get ls.lv (iM (ls.lv.flatMap (aZ st.get)) (cells.drop ls.ld.length)):=by
  show gC _ _ _ _ _++_=_
  rw[hOC,uL ls.all.length ls.all _ stS.rs]
 have hidx':eE ls.all.length stS.rs OC=List.range' ls.lv.length (ls.ld.length+ls.ln.length):=hidx
 have hkeysR:(gC ls.all.length ls.all stS.rs OC cells).map (·.1)=ls.ld++ls.ln:=by
  rw[qP ls.all.length ls.all stS.rs OC cells (by rw[b3,htys]) (fun i hi=>by
   rw[hidx']at hi
   simp only[List.mem_range'_1]at hi
   obtain⟨_,t,xs,e⟩:=hrow i hi.1 (by omega)
   exact⟨true,t,xs,e⟩),hidx']
  have: ∀(l m:List Nat) (k:Nat),k=m.length→(List.range' k l.length).map (fun i=>(m++l).getD i 0)=l:=by
   intro l
   induction l with
   |nil=>intro m k _;rfl
   |cons x l ih=>
    intro m k hk
    rw[List.length_cons,List.range'_succ,List.map_cons]
    congr 1
    ·subst hk;simp[List.getD_eq_getElem?_getD]
    ·have:=ih (m++ [x]) (k+1) (by simp[hk])
     rw[List.append_assoc]at this
     exact this
  have h:=this (ls.ld++ls.ln) ls.lv ls.lv.length rfl
  rw[List.length_append]at h
  exact h
 have hkeysV:=rh (get:=st.get) ls.lv (iM (ls.lv.flatMap (aZ st.get)) (cells.drop ls.ld.length))
 have hkeys:upd.map (·.1)=(ls.ld++ls.ln)++ls.lv:=by rw[hupd,List.map_append,hkeysR,hkeysV]
 have hkn:(upd.map (·.1)).Nodup:=by
  rw[hkeys]
  have hn:(ls.lv++(ls.ld++ls.ln)).Nodup:=hn
  rw[List.nodup_append]at hn⊢
  exact⟨hn.2.1,hn.1,fun a ha b hb e=>hn.2.2 b hb a ha e.symm⟩
 have hmemk: ∀r,r∈upd.map (·.1)↔r∈ls.all:=fun r=>by
  rw[hkeys]
  simp only[bX.all,List.mem_append]
  exact or_comm
 have hgetS:(stC.aY upd).get=fE upd stC.get:=fX upd stC
 have getO: ∀r,r∉ls.all→(stC.aY upd).get r=vi 0 ls.ln (vi 1 ls.ld (st.get r)):=fun r hr=>by
  rw[hgetS,iW upd _ r (fun h=>hr ((hmemk r).1 h))]
  show(fC 0 ls.ln (fC 1 ls.ld st)).get r=_
  rw[oi,oi]
 have getI: ∀r y,(r,y)∈upd→(stC.aY upd).get r=y:=fun r y h=>by
  rw[hgetS];exact tI upd _ r y hkn h
 have getR: ∀i,ls.lv.length≤i→i<ls.all.length→ ∃(J:Nat) (t:Ty) (xs:List (den t)) (lj:List Nat) (v:Value),OC[J]?=some (.sl i [] none)∧cells[J]?=some ⟨.sl t,xs⟩∧ll[J]?=some lj∧valsF[J]?=some v∧
   qJ w' stF.get g' lj v (Hof i) ⟨.sl t,xs⟩∧(stC.aY upd).get (ls.all.getD i 0)= .row true t xs∧ ∃xs0,st.get (ls.all.getD i 0)= .row true t xs0:=fun i h1 h2=>by
  obtain⟨J,t,xs,lj,v,c1,c2,c3,c4,c5⟩:=hHof i h1 h2
  obtain⟨e1,t0,xs0,e2⟩:=hrow i h1 h2
  have hty:=hcty J _ _ c1 c2
  have hb:Nat.blt i ls.all.length=true:=by rw[Nat.blt_eq];exact h2
  have e2':stS.rs.getD i .dead= .row true t0 xs0:=e2
  have:Ty.sl t=Ty.sl t0:=by
   have hty:Ty.sl t=_:=hty
   rw[hty];simp only[fh,hb,cond_true,e2']
  injection this with this
  subst this
  exact⟨J,t,xs,lj,v,c1,c2,c3,c4,c5,getI _ _ (by rw[hupd];exact List.mem_append.2 (.inl (td _ _ _ _ _ J i t xs c1 c2 h2))),xs0,by rw[←e1];exact e2⟩
 have getVv: ∀r∈ls.lv,∃seg,(stC.aY upd).get r= .var seg:=fun r hr=>by
  rw[←hkeysV]at hr
  obtain⟨y,hy,e⟩:=List.mem_map.1 hr
  obtain⟨seg,e2⟩:=rR _ _ _ y hy
  refine⟨seg,getI r _ ?_⟩
  rw[hupd]
  refine List.mem_append.2 (.inr ?_)
  rw[←e,←e2];exact hy
 have stV: ∀r∈ls.lv,∃cs0 arr te,st.get r= .var cs0∧w.heap[(g r).b]?=some (.cells arr te (0,0)):=fun r hr=>by
  obtain⟨i,hi⟩:=List.mem_iff_getElem?.1 hr
  obtain⟨cs,cs0,arr,te,p1,p2,p3,p4,_⟩:=pt.var i r hi
  exact⟨cs0,arr,te,p2,p4⟩
 have memL: ∀r,r∈ls.all→r∈ls.lv∨ ∃i,ls.lv.length≤i∧i<ls.all.length∧r=ls.all.getD i 0:=fun r hr=>by
  obtain⟨i,hi⟩:=List.mem_iff_getElem?.1 hr
  have hl:=(List.getElem?_eq_some_iff.1 hi).1
  rcases Nat.lt_or_ge i ls.lv.length with h|h
  ·left
   simp only[bX.all]at hi
   rw[List.getElem?_append_left h]at hi
   exact List.mem_iff_getElem?.2 ⟨i,hi⟩
  ·right
   exact⟨i,h,hl,by simp only[List.getD_eq_getElem?_getD,hi];rfl⟩
 have memV: ∀r,r∈ls.lv→r∈ls.all:=fun r hr=>by simp only[bX.all,List.mem_append];exact .inl hr
 have g2V': ∀r∈ls.lv,g2 r=g r:=fun r hr=>by
  obtain⟨i,hi⟩:=List.mem_iff_getElem?.1 hr
  exact g2V i r hi
 have getO': ∀r,r∉ls.all→(∀cs,st.get r≠ .var cs)→(stC.aY upd).get r=st.get r:=fun r hr h=>by
  rw[getO r hr,sH 1 _ _ h,sH 0 _ _ h]
 have getOv: ∀r cs,r∉ls.all→st.get r= .var cs→(stC.aY upd).get r= .var (fO 0 ls.ln (fO 1 ls.ld cs)):=fun r cs hr h=>by
  rw[getO r hr,h,si,si]
 have HH: ∀r,r∉ls.all→Holds st.get (stC.aY upd).get g g2 r fun _=>True:=fun r hr=>by
  by_cases hvr: ∃cs,st.get r= .var cs
  ·obtain⟨cs,hg⟩:=hvr
   have e:=getOv r cs hr hg
   exact⟨fun t ht=>by rw[e]at ht;simp[cP]at ht,fun _=>⟨by rw[hg];rfl,by rw[g2N r hr]⟩⟩
  ·have e:=getO' r hr (fun cs h=>hvr ⟨cs,h⟩)
   exact⟨fun t ht=>⟨by rw[←e];exact ht,fun _ _=>by rw[g2N r hr]⟩,fun hv=>⟨by rw[←e];exact hv,by rw[g2N r hr]⟩⟩
 have HVs: ∀r∈ls.all,isVar ((stC.aY upd).get r)=true→isVar (st.get r)=true∧(g2 r).b=(g r).b:=fun r hr hv=>by
  rcases memL r hr with h|⟨i,h1,h2,rfl⟩
  ·obtain⟨cs0,_,_,e,_⟩:=stV r h
   exact⟨by rw[e];rfl,by rw[g2V' r h]⟩
  ·obtain⟨J,t,xs,lj,v,_,_,_,_,_,e,_⟩:=getR i h1 h2
   rw[e]at hv;cases hv
 have inD: ∀r∈ls.ld,∃i,ls.lv.length≤i∧i<ls.lv.length+ls.ld.length∧r=ls.all.getD i 0:=fun r hr=>by
  obtain⟨i,hi⟩:=List.mem_iff_getElem?.1 hr
  have hl:=(List.getElem?_eq_some_iff.1 hi).1
  refine⟨ls.lv.length+i,by omega,by omega,?_⟩
  simp only[List.getD_eq_getElem?_getD,bX.all]
  rw[List.getElem?_append_right (by omega),Nat.add_sub_cancel_left,List.getElem?_append_left hl,hi];rfl
 have inN: ∀r∈ls.ln,∃i,ls.lv.length≤i∧i<ls.all.length∧r=ls.all.getD i 0:=fun r hr=>by
  rcases memL r (by simp only[bX.all,List.mem_append];exact .inr (.inr hr))with h|h
  ·exfalso
   have hn:(ls.lv++(ls.ld++ls.ln)).Nodup:=hn
   exact(List.nodup_append.1 hn).2.2 r h r (List.mem_append.2 (.inr hr)) rfl
  ·exact h
 have hAn:Dq st.get (stC.aY upd).get g g2 ls.ld ls.ln:=by
  refine⟨fun r hr=> ?_,fun r hr=> ?_,fun r h1 h2=> ?_⟩
  ·obtain⟨i,h1,h2,rfl⟩:=inD r hr
   obtain⟨J,t,xs,lj,v,c1,c2,c3,c4,c5,e,xs0,e0⟩:=getR i h1 (by omega)
   refine⟨by rw[e];rfl,fun t' ht=>⟨by rw[e]at ht;rw[e0];exact ht,?_⟩⟩
   rw[g2R i h1 (by omega)]
   show Hof i []=_
   have hJ:OC[i-ls.lv.length]?=some (.sl i [] none):=by
    show(dy ls.lv.length ls.ld.length stS.rs)[i-ls.lv.length]?=_
    unfold dy
    rw[List.getElem?_append_left (by simp;omega)]
    have:i-ls.lv.length<ls.ld.length:=by omega
    have e:ls.lv.length+(i-ls.lv.length)=i:=by omega
    simp[this,e]
   have hJJ:=hJinj i J _ h1 (by omega) c1 hJ
   subst hJJ
   have hv:valsF[i-ls.lv.length]?=some ((gS i).H []):=by
    show(Dv++_)[i-ls.lv.length]?=_
    rw[List.getElem?_append_left (by simp[Dv];omega)]
    have:i-ls.lv.length<ls.ld.length:=by omega
    have e:ls.lv.length+(i-ls.lv.length)=i:=by omega
    simp[Dv,this,e]
   rw[hv]at c4
   injection c4 with c4
   rw[c5.1,←c4,pt.gs i (by omega)]
  ·obtain⟨i,h1,h2,rfl⟩:=inN r hr
   obtain⟨J,t,xs,lj,v,c1,c2,c3,c4,c5,e,xs0,e0⟩:=getR i h1 h2
   exact⟨by rw[e];rfl,fun t' ht=>by rw[e]at ht;rw[e0];exact ht⟩
  ·by_cases hr:r∈ls.all
   ·have hv:r∈ls.lv:=by
     simp only[bX.all,List.mem_append]at hr
     rcases hr with h|h|h
     ·exact h
     ·exact absurd h h1
     ·exact absurd h h2
    obtain⟨seg,e⟩:=getVv r hv
    exact⟨fun t ht=>by rw[e]at ht;simp[cP]at ht,fun hh=>HVs r hr hh⟩
   ·exact HH r hr
 have hOCr: ∀j,OC[ls.ld.length+j]?=((stS.rs.take ls.lv.length).flatMap eN)[j]?:=fun j=>by
  show(dy ls.lv.length ls.ld.length stS.rs)[_]?=_
  unfold dy
  rw[List.getElem?_append_right (by simp)]
  simp
 have hvFr: ∀j,valsF[ls.ld.length+j]?=(arrs.flatMap (·.toList))[j]?:=fun j=>by
  show(Dv++_)[_]?=_
  rw[List.getElem?_append_right (by simp[Dv])]
  simp[Dv]
 have hcellsV:ah (stC.aY upd).get g2 (iM (ls.lv.flatMap (aZ st.get)) (cells.drop ls.ld.length)) (arrs.flatMap (·.toList)):=by
  have hl1:(ls.lv.flatMap (aZ st.get)).length=((stS.rs.take ls.lv.length).flatMap eN).length:=hsubl.1.symm
  refine rH _ _ _ (by rw[List.length_drop,hcl,hOCl,hl1];omega) (by rw[eu a2,hfinl,hl1]) fun j o b v ho hb hv=> ?_
  rw[List.getElem?_drop]at hb
  have hj:j<((stS.rs.take ls.lv.length).flatMap eN).length:=by rw[←hl1];exact(List.getElem?_eq_some_iff.1 ho).1
  generalize hc0:((stS.rs.take ls.lv.length).flatMap eN)[j]=c0
  have hc:((stS.rs.take ls.lv.length).flatMap eN)[j]?=some c0:=by rw[List.getElem?_eq_getElem hj,hc0]
  have hOCj:OC[ls.ld.length+j]?=some c0:=by rw[hOCr,hc]
  have hvj:valsF[ls.ld.length+j]?=some v:=by rw[hvFr,hv]
  have hsc:=hsubl.2 j o c0 ho hc
  have hty:=hcty _ c0 b hOCj hb
  obtain⟨b',lj,H,q1,q2,q3⟩:=b5 _ v hvj
  rw[hb]at q1
  injection q1 with q1
  subst q1
  obtain⟨tb,db⟩:=b
  simp only at hty
  cases tb with
  |int k=>have q3:v= .int k db:=q3;subst q3;show ae _ _ (.int k db) _;rw[ae]
  |bool=>have q3:v= .bool db:=q3;subst q3;show ae _ _ (.bool db) _;rw[ae]
  |str=>have q3:v= .string db:=q3;subst q3;show ae _ _ (.str db) _;rw[ae]
  |pair a b=>exact q3.elim
  |sl t=>
   obtain⟨i,rfl,hi⟩:=AF hty.symm
   have ho':=Eb hsc hi
   subst ho'
   have him:i∈eE ls.all.length stS.rs OC:=(ly _ _ _ _).2 ⟨hi,_,hOCj⟩
   rw[hidx']at him
   simp only[List.mem_range'_1]at him
   show ae _ _ (.sl (ls.all.getD i 0) [] none) v
   obtain⟨J,t',xs,lj',v',c1,c2,c3,c4,c5,e,_⟩:=getR i him.1 hi
   have hJJ:=hJinj i _ _ him.1 hi c1 hOCj
   subst hJJ
   rw[hvj]at c4
   injection c4 with c4
   subst c4
   rw[ae]
   refine⟨?_,fun t0 e0 _ _=> ?_⟩
   ·obtain⟨a,n,c,hs⟩:=yf q3.2.1
    exact⟨a,n,c,by rw[←q3.1];exact hs⟩
   ·rw[g2R i him.1 hi]
    exact c5.1.symm
  |unit=>
   show ae _ _ o v
   have hfj: ∃f,((stF.top.drop ls.lv.length).take ls.ld.length++fin)[ls.ld.length+j]?=some f:=by
    have:ls.ld.length+j<((stF.top.drop ls.lv.length).take ls.ld.length++fin).length:=by rw[hFl,hOCl];omega
    exact⟨_,List.getElem?_eq_getElem this⟩
   obtain⟨f,hf⟩:=hfj
   have hst:=s0 _ _ _ (ls.ld.length+j) c0 f k8 (by rw[htys,List.getElem?_map,hOCj,Option.map_some,hty]) (by rw[hOC,List.getElem?_map,hOCj,Option.map_some,AH hty.symm]) hf
   rcases hst with e|hst
   ·subst e
    rw[Cs hsc];simp[ae]
   ·have hv0: ∃v0,vals0[j]?=some v0:=by
     obtain⟨v0,h1,_⟩:=cQ f1 ho
     exact⟨v0,h1⟩
    obtain⟨v0,hv0⟩:=hv0
    have e1:=qF f1 ho hv0
    have e2:=qF f2 hc hv0
    have e3:=qF hF hf hvj
    have e4:=zo HVS hh c0 f v0 v hst e2 e3
    subst e4
    obtain⟨b0,ok',rs',hs',hok',_⟩:=hsc
    exact BO (fun r hr=>by rw[kB,if_pos hr]) HH HVs o b0 ok' c0 rs' f v hs' hok' hst e1
 have hsegs:=tO (get:=st.get) ls.lv _ arrs a1 hcellsV (fun i r arr hi ha=>by
  obtain⟨arr',te,x',y',cs,s1,s2,s3,s4,s5,s6,s7⟩:=a3 i r hi
  rw[ha]at s1
  injection s1 with s1
  subst s1
  obtain⟨cs1,cs0,arr0,te0,p1,p2,p3,_⟩:=pt.var i r hi
  obtain⟨h1,_⟩:=hvar i r hi
  rw[List.getElem?_take,if_pos h1,List.getElem?_map,p1]at s2
  simp only[Option.map_some,Option.some.injEq]at s2
  rw[s7,←s2,oO]
  unfold aZ
  rw[p2]
  simp[eN,p3])
 have hkeep: ∀b,b<w.heap.size→ ¬lA st.get g ls.all b→w'.heap[b]?=w.heap[b]?:=fun b h1 h2=>by
  rw[KB.block b ⟨by show b<(blank _ _).heap.size;rw[fV];exact h1,h2⟩]
  exact eC h2
 have notL: ∀r b,r∉ls.all→Own st.get g r b→ ¬lA st.get g ls.all b:=fun r b hr h ⟨r',hr',h'⟩=>R.sep r r' b (fun e=>hr (e▸hr')) h h'
 have hsame: ∀r b,r∉ls.all→Own st.get g r b→w'.heap[b]?=w.heap[b]?:=fun r b hr h=>hkeep b (fS R h) (notL r b hr h)
 have ownO: ∀r b,r∉ls.all→(Own (stC.aY upd).get g2 r b↔Own st.get g r b):=fun r b hr=>by
  cases hg:st.get r with
  |var cs=>unfold Own;rw[getOv r cs hr hg,hg];simp only[g2N r hr]
  |dead=>unfold Own;rw[getO' r hr (fun cs h=>by rw[hg]at h;cases h),hg]
  |row rw_ t xs=>unfold Own;rw[getO' r hr (fun cs h=>by rw[hg]at h;cases h),hg];cases rw_<;>simp only[g2N r hr]
  |half t xs=>unfold Own;rw[getO' r hr (fun cs h=>by rw[hg]at h;cases h),hg];simp only[g2N r hr]
  |sh t xs=>unfold Own;rw[getO' r hr (fun cs h=>by rw[hg]at h;cases h),hg];simp only[g2N r hr]
  |pend r' p t xs=>
   have hr':r'∉ls.all:=fun h=>hq r' h r r' p t xs hg rfl
   unfold Own;rw[getO' r hr (fun cs h=>by rw[hg]at h;cases h),hg];simp only[g2N r hr,nF,g2N r' hr']
 have ownV: ∀r b,r∈ls.lv→Own (stC.aY upd).get g2 r b→b=(g r).b∧Own st.get g r b∧ ∃x cs,stF.get x= .var cs∧Own stF.get g' x b:=fun r b hr h=>by
  obtain⟨seg,e⟩:=getVv r hr
  obtain⟨cs0,_,_,e0,_⟩:=stV r hr
  obtain⟨i,hi⟩:=List.mem_iff_getElem?.1 hr
  obtain⟨arr',te,x',y',cs,s1,s2,s3,s4,s5,s6,s7⟩:=a3 i r hi
  have hb:b=(g r).b:=by
   unfold Own at h
   rw[e]at h
   rw[h,g2V' r hr]
  refine⟨hb,?_,x',cs,s5,?_⟩
  ·unfold Own;rw[e0];exact hb
  ·unfold Own;rw[s5];rw[hb,s6]
 have ownR: ∀i b,ls.lv.length≤i→i<ls.all.length→Own (stC.aY upd).get g2 (ls.all.getD i 0) b→ ∃(J:Nat) (lj:List Nat),OC[J]?=some (AV.sl i [] none)∧ll[J]?=some lj∧ ∃r'∈lj,Own stF.get g' r' b:=fun i b h1 h2 h=>by
  obtain⟨J,t,xs,lj,v,c1,c2,c3,c4,c5,e,_⟩:=getR i h1 h2
  unfold Own at h
  rw[e]at h
  simp only[g2R i h1 h2]at h
  exact⟨J,lj,c1,c3,c5.2.2.1 b h⟩
 have inl': ∀J lj,ll[J]?=some lj→ ∀r∈lj,r∈l':=fun J lj h r hr=>by
  rw[b1]
  exact List.mem_flatten.2 ⟨lj,List.mem_iff_getElem?.2 ⟨J,h⟩,hr⟩
 have lowF: ∀r b,Own stF.get g' r b→w.heap.size≤b∨lA st.get g ls.all b:=fun r b h=>by
  have: ¬(l8 w (lA st.get g ls.all)).eH b:=fun hk=>R'.low r b h (hle.eH b hk)
  by_cases hL:lA st.get g ls.all b
  ·exact .inr hL
  ·left
   exact Nat.le_of_not_lt fun hlt=>this ⟨by show b<(blank _ _).heap.size;rw[fV];exact hlt,hL⟩
 have lowF': ∀r b,Own stF.get g' r b→ ¬w0.eH b:=fun r b h=>(lowF r b h).elim R.fresh (lA.low R)
 have disO: ∀r r' b,r∉ls.all→Own st.get g r b→Own stF.get g' r' b→False:=fun r r' b hr h h'=>by
  rcases lowF r' b h' with h2|h2
  ·have:=fS R h;omega
  ·exact notL r b hr h h2
 have hflat:=List.pairwise_flatten.1 (show List.Pairwise (fun a b=>a≠b) ll.flatten by rw[←b1];exact hnodup')
 have hljn: ∀(J:Nat) lj,ll[J]?=some lj→lj.Nodup:=fun J lj h=>hflat.1 lj (List.mem_iff_getElem?.2 ⟨J,h⟩)
 have hljd: ∀(J J':Nat) lj lj' r,J≠J'→ll[J]?=some lj→ll[J']?=some lj'→r∈lj→r∈lj'→False:=fun J J' lj lj' r hne h h' hr hr'=>by
  obtain⟨q1,q2⟩:=List.getElem?_eq_some_iff.1 h
  obtain⟨q3,q4⟩:=List.getElem?_eq_some_iff.1 h'
  have hp:=List.pairwise_iff_getElem.1 hflat.2
  rcases Nat.lt_or_gt_of_ne hne with hlt|hgt
  ·exact hp J J' q1 q3 hlt r (by rw[q2];exact hr) r (by rw[q4];exact hr') rfl
  ·exact hp J' J q3 q1 hgt r (by rw[q4];exact hr') r (by rw[q2];exact hr) rfl
 have hfrC:(stC.aY upd).fr=st.fr.map fun f=>fO 0 ls.ln (fO 1 ls.ld f):=by
  show(fC 0 ls.ln (fC 1 ls.ld st)).fr=_
  rw[qv,qv,List.map_map];rfl
 have hothK: ∀(k:Nat) (o:Obj),w.heap[k]?=some o→o.isCells=false→w'.heap[k]?=some o:=fun k o h1 h2=>
  KB.oth k o ((eC fun⟨r,_,h⟩=>by rw[jd R h o h1]at h2;cases h2).trans h1) h2
 have KW:dn w0 w0.v w':=⟨KB.os.trans R.below.os,KB.tape.trans R.below.tape,KB.output.trans R.below.output,by have:=KB.size;rw[show(l8 w (lA st.get g ls.all)).v.heap.size=w.heap.size from fV _ _]at this;exact Nat.le_trans R.below.size this,fun k hk=>(hkeep k (by have:=hk.1;have:=R.below.size;omega) fun h=>lA.low R h hk).trans (R.below.block k hk),fun k o h1 h2=>hothK k o (R.below.oth k o h1 h2) h2⟩
 refine⟨g2,⟨KW,fun r=> ?_,fun r r' b hne h1 h2=> ?_,fun r b h=> ?_,?_,fun fr hfr r hr=> ?_,fun r z hz=> ?_,fun r hr=> ?_,R.marks.step hothK⟩,fun r hr=> ?_,?_⟩
 ·
  by_cases hr:r∈ls.all
  ·rcases memL r hr with hr'|⟨i,h1,h2,rfl⟩
   ·obtain⟨i,hi⟩:=List.mem_iff_getElem?.1 hr'
    obtain⟨arr',te,x',y',cs,s1,s2,s3,s4,s5,s6,s7⟩:=a3 i r hi
    obtain⟨seg,p1,p2,p3⟩:=hsegs i r arr' hi s1
    have e:=getI r _ (by rw[hupd];exact List.mem_append.2 (.inr p1))
    unfold aX
    rw[e]
    exact⟨arr',te,by rw[g2V' r hr'];exact s3,s4,p2⟩
   ·obtain⟨J,t,xs,lj,v,c1,c2,c3,c4,c5,e,_⟩:=getR i h1 h2
    unfold aX
    rw[e]
    simp only[g2R i h1 h2]
    exact⟨c5.2.1,c5.2.2.2 (hljn J lj c3)⟩
  ·have h:=R.roots r
   unfold aX at h⊢
   cases hg:st.get r with
   |dead=>rw[getO' r hr (fun cs h=>by rw[hg]at h;cases h),hg];trivial
   |var cs=>
    rw[hg]at h
    obtain⟨arr,te,h1,h2,h3⟩:=h
    rw[getOv r cs hr hg]
    exact⟨arr,te,by rw[g2N r hr,hsame r _ hr (by unfold Own;rw[hg])];exact h1,h2,wO hAn _ _ h3⟩
   |row rw_ t xs=>
    rw[hg]at h
    rw[getO' r hr (fun cs h=>by rw[hg]at h;cases h),hg]
    cases rw_ with
    |true=>
     simp only[g2N r hr]
     exact⟨eX (fun b hb=>hsame r b hr (by unfold Own;rw[hg];exact hb)) h.1,h.2⟩
    |false=>simp only at h⊢;rw[g2N r hr];exact h
   |half t xs=>
    rw[hg]at h
    obtain⟨a,n,c,h1,h2,h3,hz,h4,h5⟩:=h
    rw[getO' r hr (fun cs h=>by rw[hg]at h;cases h),hg]
    simp only[g2N r hr]
    exact⟨a,n,c,h1,h2,h3,hz,eX (fun b hb=>hsame r b hr (by unfold Own;rw[hg];exact(kr h1).1 hb)) h4,h5⟩
   |sh t xs=>
    rw[hg]at h
    rw[getO' r hr (fun cs h=>by rw[hg]at h;cases h),hg]
    simp only[g2N r hr]
    exact h.frame (fun b hb=>hsame r b hr (by unfold Own;rw[hg];exact hb)) R.below KW
   |pend r' p t xs=>
    rw[hg]at h
    obtain⟨h1,h2,t',xs',h3,h4,h5⟩:=h
    have hr':r'∉ls.all:=fun h=>hq r' h r r' p t xs hg rfl
    rw[getO' r hr (fun cs h=>by rw[hg]at h;cases h),hg]
    refine⟨?_,h2,t',xs',by rw[getO' r' hr' (fun cs h=>by rw[h3]at h;cases h)];exact h3,h4,?_⟩
    ·rw[g2N r hr]
     refine eX (fun b hb=> ?_) h1
     by_cases hh:nF g r' p b
     ·exact hsame r' b hr' (by unfold Own;rw[h3];exact h5 b hh)
     ·exact hsame r b hr (by unfold Own;rw[hg];exact⟨hb,hh⟩)
    ·intro b hb
     unfold nF at hb
     rw[g2N r' hr']at hb⊢
     exact h5 b hb
 ·
  have key: ∀r r' b,r≠r'→Own (stC.aY upd).get g2 r b→Own (stC.aY upd).get g2 r' b→r∈ls.all→False:=by
   intro r r' b hne h1 h2 hr
   rcases memL r hr with hv|⟨i,i1,i2,rfl⟩
   ·obtain⟨_,q2,x',cs,q3,q4⟩:=ownV r b hv h1
    by_cases hr':r'∈ls.all
    ·rcases memL r' hr' with hv'|⟨i,i1,i2,rfl⟩
     ·exact R.sep r r' b hne q2 (ownV r' b hv' h2).2.1
     ·obtain⟨J,lj,c1,c2,r3,c3,c4⟩:=ownR i b i1 i2 h2
      obtain⟨t,xs,e⟩:=b4 r3 (inl' J lj c2 r3 c3)
      exact R'.sep x' r3 b (fun e'=>by subst e';rw[q3]at e;cases e) q4 c4
    ·exact R.sep r r' b hne q2 ((ownO r' b hr').1 h2)
   ·obtain⟨J,lj,c1,c2,r3,c3,c4⟩:=ownR i b i1 i2 h1
    by_cases hr':r'∈ls.all
    ·rcases memL r' hr' with hv'|⟨i',i1',i2',rfl⟩
     ·obtain⟨_,q2,x',cs,q3,q4⟩:=ownV r' b hv' h2
      obtain⟨t,xs,e⟩:=b4 r3 (inl' J lj c2 r3 c3)
      exact R'.sep x' r3 b (fun e'=>by subst e';rw[q3]at e;cases e) q4 c4
     ·obtain⟨J',lj',c1',c2',r3',c3',c4'⟩:=ownR i' b i1' i2' h2
      by_cases e:r3=r3'
      ·subst e
       by_cases eJ:J=J'
       ·subst eJ
        rw[c1]at c1'
        simp only[Option.some.injEq,AV.sl.injEq,and_true]at c1'
        subst c1'
        exact hne rfl
       ·exact hljd J J' lj lj' r3 eJ c2 c2' c3 c3'
      ·exact R'.sep r3 r3' b e c4 c4'
    ·exact disO r' r3 b hr' ((ownO r' b hr').1 h2) c4
  by_cases hr:r∈ls.all
  ·exact key r r' b hne h1 h2 hr
  ·by_cases hr':r'∈ls.all
   ·exact key r' r b (fun e=>hne e.symm) h2 h1 hr'
   ·exact R.sep r r' b hne ((ownO r b hr).1 h1) ((ownO r' b hr').1 h2)
 ·
  by_cases hr:r∈ls.all
  ·rcases memL r hr with hv|⟨i,i1,i2,rfl⟩
   ·exact R.low r b (ownV r b hv h).2.1
   ·obtain⟨J,lj,c1,c2,r3,c3,c4⟩:=ownR i b i1 i2 h
    exact lowF' r3 b c4
  ·exact R.low r b ((ownO r b hr).1 h)
 ·rw[hfrC];exact tw hAn R.frames
 ·rw[hfrC]at hfr
  obtain⟨f0,hf0,rfl⟩:=List.mem_map.1 hfr
  exact R.bornF f0 hf0 r (lr 1 _ _ r (lr 0 _ _ r hr))
 ·by_cases hr:r∈ls.all
  ·rcases memL r hr with hv|⟨i,i1,i2,rfl⟩
   ·obtain⟨i,hi⟩:=List.mem_iff_getElem?.1 hv
    obtain⟨arr',te,x',y',cs,s1,s2,s3,s4,s5,s6,s7⟩:=a3 i r hi
    obtain⟨seg,p1,p2,p3⟩:=hsegs i r arr' hi s1
    have e:=getI r _ (by rw[hupd];exact List.mem_append.2 (.inr p1))
    rw[e]at hz
    have hz:=oC _ _ z (p3 z hz)
    have: ∀(V:List Nat),z∈AV.ag (V.flatMap (aZ st.get))→ ∃r,z∈(st.get r).roots:=by
     intro V
     induction V with
     |nil=>intro h;simp[AV.ag]at h
     |cons a V ih=>
      intro h
      simp only[List.flatMap_cons]at h
      rcases fQ h with h|h
      ·refine⟨a,?_⟩
       unfold aZ at h
       cases hg:st.get a<;>rw[hg]at h<;>first|exact h|simp[AV.ag]at h
      ·exact ih h
    obtain⟨r1,h1⟩:=this _ hz
    exact R.bornR r1 z h1
   ·obtain⟨J,t,xs,lj,v,c1,c2,c3,c4,c5,e,_⟩:=getR i i1 i2
    rw[e]at hz;simp[al.roots]at hz
  ·by_cases hvr: ∃cs,st.get r= .var cs
   ·obtain⟨cs,hg⟩:=hvr
    rw[getOv r cs hr hg]at hz
    exact R.bornR r z (by rw[hg];exact lr 1 _ _ z (lr 0 _ _ z hz))
   ·rw[getO' r hr (fun cs h=>hvr ⟨cs,h⟩)]at hz
    exact R.bornR r z hz
 ·refine R.alive r fun e=> ?_
  by_cases h:r∈ls.all
  ·rcases memL r h with hv|⟨i,i1,i2,rfl⟩
   ·obtain⟨cs0,_,_,e0,_⟩:=stV r hv
    rw[e0]at e;cases e
   ·obtain⟨J,t,xs,lj,v,c1,c2,c3,c4,c5,_,xs0,e0⟩:=getR i i1 i2
    rw[e0]at e;cases e
  ·exact hr (by rw[getO' r h (fun cs h=>by rw[e]at h;cases h)];exact e)
 ·have h1:=(pw upd stC)
  have h2:stC.rs.length=st.rs.length:=by
   show(fC 0 ls.ln (fC 1 ls.ld st)).rs.length=_
   rw[oe,oe]
  have:=hlt r hr
  omega
 ·
  obtain⟨f1',f2',f3'⟩:=jL (cS P f) vs' us' k4 hA
  obtain⟨q1,_,q3,q4,_⟩:=lO R'.roots R'.sep f2' (resTy P f) 0 ok1 ok2 y l rest rest2 hrd hgv k1 k2
  refine⟨f1',_,q1,q4 (List.nodup_append.1 k6).1,fun b hb=> ?_⟩
  obtain⟨r3,hr3,ho⟩:=q3 b hb
  have hr3row:=uw _ _ _ _ _ hgv k2 r3 hr3
  refine⟨lowF' r3 b ho,fun r h=> ?_⟩
  by_cases hr:r∈ls.all
  ·rcases memL r hr with hv|⟨i,i1,i2,rfl⟩
   ·obtain⟨_,q2,x',cs,q3',q4'⟩:=ownV r b hv h
    obtain⟨t,xs,e⟩:=hr3row
    exact R'.sep x' r3 b (fun e'=>by subst e';rw[q3']at e;cases e) q4' ho
   ·obtain⟨J,lj,c1,c2,r4,c3,c4⟩:=ownR i b i1 i2 h
    exact R'.sep r3 r4 b ((List.nodup_append.1 k6).2.2 r3 hr3 r4 (inl' J lj c2 r4 c3)) ho c4
  ·exact disO r r3 b hr ((ownO r b hr).1 h) ho
theorem FL{env:Env P}(hE:jo P env){m3:Bool}{f:Nat}{vs vs':List AV}(h:ioK (R:=List AV×St) env m3 f vs st (fun vs st=>some (vs,st))=some (vs',st')):zK P f vs st vs' st':=by
 unfold ioK at h
 simp only[eD]at h
 generalize hlv:vV st.get vs=lv at h
 generalize hld:ve m3 st.get vs=ld at h
 generalize hln:vN m3 st.get lv=ln at h
 generalize hs:j7 ⟨lv,ld,ln⟩ st vs=s at h
 obtain⟨ok,stS⟩:=s
 simp only[St.force_eq,gq]at h
 obtain⟨hok,h⟩:=j4 h
 obtain⟨k1,hok⟩:=af.1 hok
 obtain⟨k2,hok⟩:=af.1 hok
 obtain⟨k3,hok⟩:=af.1 hok
 have k1:(bX.all ⟨lv,ld,ln⟩).Nodup:=of_decide_eq_true k1
 have k2:bS st.rs (fu (bX.all ⟨lv,ld,ln⟩))=true:=k2
 have k3:eE (bX.all ⟨lv,ld,ln⟩).length stS.rs (dy lv.length ld.length stS.rs)=List.range' lv.length (ld.length+ln.length):=of_decide_eq_true k3
 have h:Option.bind (lg env f lv.length ld.length (bX.all ⟨lv,ld,ln⟩).length (stS.rs.map al.strip) stS) _=_:=h
 cases hr:lg env f lv.length ld.length (bX.all ⟨lv,ld,ln⟩).length (stS.rs.map al.strip) stS with
 |none=>rw[hr]at h;cases h
 |some yx=>
 obtain⟨y,x⟩:=yx
 rw[hr]at h
 simp only[Option.bind_some]at h
 generalize hla:fL P true (cS P f) y (mQ ⟨lv,ld,ln⟩ st (stS.rs.map al.strip) x).rs.length=la at h
 obtain⟨vsR,rsR⟩:=la
 simp only[Option.some.injEq,Prod.mk.injEq]at h
 obtain⟨rfl,rfl⟩:=h
 unfold lg at hr
 rw[hE.det]at hr
 cases hin:env.inl (R:=List AV×St) f stS.top ⟨stS.fr.tail,stS.rs⟩ (fun vs st=>some (vs,st))with
 |none=>rw[hin]at hr;cases hr
 |some p=>
 obtain⟨vsF,stF⟩:=p
 rw[hin]at hr
 simp only[Option.bind_some]at hr
 obtain⟨hfn,hval⟩:=hE.inl f stS.top _ vsF stF hin
 refine⟨hfn,fun w0 g born acts w us R hlt hA hb=> ?_⟩
 have hq:=fp (st:=st) (l:=bX.all ⟨lv,ld,ln⟩) k2 fun r hr=>List.mem_map.2 ⟨r,hr,rfl⟩
 have hD: ∀r∈ld++ln,∃t xs,st.get r= .row true t xs:=fun r hr=>by
  rcases List.mem_append.1 hr with hr|hr
  ·rw[←hld]at hr
   obtain⟨v,_,hv⟩:=List.mem_flatMap.1 hr
   exact pf hv
  ·rw[←hln]at hr
   obtain⟨v,_,hv⟩:=List.mem_flatMap.1 hr
   exact pf hv
 obtain⟨gS,actH,Rp,Ap,Bp,pt⟩:=uE (m3:=m3) R hq k1 hD hA hs hok
 refine Calls.mono (hval _ gS _ [actH] w us Rp (fun r hr=>hr) Ap Bp) fun e w' he=> ?_
 obtain⟨us',g',born',rfl,⟨wB,hle,R'⟩,_,A',_⟩:=he
 obtain⟨g2,R2,hlt2,hF,G,hrep,hsep,hblk⟩:=zl R hq k1 hlt k3 pt hle R' A' hr
 obtain⟨g3,b3,R3,L3,A3,B3,_⟩:=jH (P:=P) (acts:=acts) true (cS P f) y us' (cq us') _ g2 born _ 0 G vsR rsR R2 hF (fun k _=>by rw[Nat.zero_add]) hrep (fun _=>hsep) (fun _ b hb=>hblk b hb) hla
  (fun i h1 _ hb=>by have:=hlt2 i hb;omega)
 refine⟨us',g3,b3,rfl,.of R3,fun r hr=> ?_,A3,fun r hr=>(L3.born_iff r).2 (.inr (B3 r hr))⟩
 have hlen:=pw (ak (mQ ⟨lv,ld,ln⟩ st (stS.rs.map al.strip) x).rs.length rsR) (mQ ⟨lv,ld,ln⟩ st (stS.rs.map al.strip) x)
 rcases(L3.born_iff r).1 hr with h|h
 ·have:=hlt2 r h
  exact Nat.lt_of_lt_of_le this hlen
 ·have key: ∀(l:List (Nat×al)) (st:St) (r:Nat),r∈l.map (·.1)→r<(st.aY l).rs.length:=by
   intro l
   induction l with
   |nil=>intro st r h;simp at h
   |cons a l ih=>
    intro st r h
    obtain⟨i,z⟩:=a
    rw[kJ]
    simp only[List.map_cons,List.mem_cons]at h
    rcases h with rfl|h
    ·refine Nat.lt_of_lt_of_le ?_ (pw l _)
     show r<(setAt st.rs r z).length
     unfold setAt
     cases hb:Nat.blt r st.rs.length with
     |true=>rw[Nat.blt_eq]at hb;simpa using hb
     |false=>simp;omega
    ·exact ih _ r h
  exact key _ _ r ((cl _ _ _).2 h)
theorem DR{ls:bX}{stF:St}{actH:Act}{f n:Nat}{rs0:List al}{vs':List AV}{us':List Value}{y:den (resTy P f)}{x:den (se 0 0 n rs0)}{bornF:Nat→Prop}
  (R:Rel w0 st g born acts w) (hq: ∀r∈ls.all,∀j r' p t xs,st.get j= .pend r' p t xs→r'≠r)
  {wB:cw} (hle:(l8 w (lA st.get g ls.all)).le wB) (R':Rel wB stF g' bornF [actH] w') (hA:ah stF.get g' vs' us') (hend:qb P f 0 0 n rs0 vs' stF=some (y,x)):
  Rel w0 (st.aY (dU ls.all)) g born acts w'∧xG P (cS P f) us'∧
   ∃G,Rep w' true (eW P (cS P f)) y G 0 (fun k=>(cq us')[k]?)∧Sep (eW P (cS P f)) y G 0∧ ∀b,Blk (eW P (cS P f)) y G 0 b→ ¬w0.eH b∧ ∀r,¬Own (st.aY (dU ls.all)).get g r b:=by
 have KB:=hle.run R'.below
 have hkeep: ∀b,b<w.heap.size→ ¬lA st.get g ls.all b→w'.heap[b]?=w.heap[b]?:=fun b h1 h2=>by
  rw[KB.block b ⟨by show b<(blank _ _).heap.size;rw[fV];exact h1,h2⟩]
  exact eC h2
 have hothK: ∀(k:Nat) (o:Obj),w.heap[k]?=some o→o.isCells=false→w'.heap[k]?=some o:=fun k o h1 h2=>
  KB.oth k o ((eC fun⟨r,_,h⟩=>by rw[jd R h o h1]at h2;cases h2).trans h1) h2
 have lowF: ∀r b,Own stF.get g' r b→w.heap.size≤b∨lA st.get g ls.all b:=fun r b h=>by
  have: ¬(l8 w (lA st.get g ls.all)).eH b:=fun hk=>R'.low r b h (hle.eH b hk)
  by_cases hL:lA st.get g ls.all b
  ·exact .inr hL
  ·left
   exact Nat.le_of_not_lt fun hlt=>this ⟨by show b<(blank _ _).heap.size;rw[fV];exact hlt,hL⟩
 unfold qb at hend
 generalize hvo:varsOf stF.get (stF.top.take 0) (rs0.take 0)=vo at hend
 obtain⟨ok0,fin⟩:=vo
 simp only at hend
 generalize hrd:b8 stF.get (resTy P f) (vs'.flatMap AV.cells)=rd at hend
 obtain⟨ok1,y1,rest⟩:=rd
 simp only at hend
 generalize hgv:gives stF.get (resTy P f) (vs'.flatMap AV.cells)=gv at hend
 obtain⟨ok2,l,rest2⟩:=gv
 simp only at hend
 generalize hbl:tq stF.get (jD 0 0 n rs0) ((stF.top.drop 0).take 0++fin)=bl at hend
 obtain⟨ok3,x,l'⟩:=bl
 simp only at hend
 obtain⟨hok,hend⟩:=j4 hend
 simp only[Option.some.injEq,Prod.mk.injEq]at hend
 obtain⟨rfl,rfl⟩:=hend
 obtain⟨k0,hok⟩:=ay.1 hok
 obtain⟨k1,hok⟩:=ay.1 hok
 obtain⟨k2,hok⟩:=ay.1 hok
 obtain⟨k3,hok⟩:=ay.1 hok
 obtain⟨k4,hok⟩:=af.1 hok
 obtain⟨_,hok⟩:=af.1 hok
 obtain⟨k6,hok⟩:=af.1 hok
 have k6:(l++l').Nodup:=of_decide_eq_true k6
 obtain⟨f1',f2',f3'⟩:=jL (cS P f) vs' us' k4 hA
 obtain⟨q1,_,q3,q4,_⟩:=lO R'.roots R'.sep f2' (resTy P f) 0 ok1 ok2 y l rest rest2 hrd hgv k1 k2
 refine⟨u4 (pF ls.all st R hq) ⟨KB.os,KB.tape,KB.output,by have:=KB.size;rw[show(l8 w (lA st.get g ls.all)).v.heap.size=w.heap.size from fV _ _]at this;exact this,fun k hk=> ?_,hothK⟩ (fun r b h=> ?_),f1',_,q1,q4 (List.nodup_append.1 k6).1,fun b hb=> ?_⟩
 ·have h1:=hk.1
  have h2:=R.below.size
  exact hkeep k (by omega) fun h=>lA.low R h hk
 ·obtain⟨_,h2,h3⟩:=pz R hq h
  exact hkeep b (fS R h2) h3
 ·obtain⟨r3,hr3,ho⟩:=q3 b hb
  refine⟨(lowF r3 b ho).elim R.fresh (lA.low R),fun r h=> ?_⟩
  obtain⟨_,h2,h3⟩:=pz R hq h
  rcases lowF r3 b ho with h4|h4
  ·have:=fS R h2;omega
  ·exact h3 h4
theorem EM{env:Env P}(hE:jo P env){f:Nat}{vs vs':List AV}{base:Nat}{upd:List (Nat×al)}{rd qu:List Nat}
  (h:wF (R:=List AV×List (Nat×al)×List Nat×List Nat) env f vs st base (fun a b c d=>some (a,b,c,d))=some (vs',upd,rd,qu)):
  (∃fn,P.funcs[f]?=some fn∧fn.body.isSome=true)∧ ∀(w0:cw) (g:aP) (born:Nat→Prop) (acts:List Act) (w:World) (us:List Value),Rel w0 st g born acts w→(∀r,born r→r<st.rs.length)→
   ah st.get g vs us→(∀r∈AV.ag vs,born r)→(∀i∈upd.map (·.1),base≤i→ ¬born i)→
   Calls P f us.toArray w fun e w'=> ∃us' g' born',e= .returned (nW us')∧Rel w0 (st.aY upd) g' born' acts w'∧(∀r,born' r→born r∨r∈upd.map (·.1))∧ah (st.aY upd).get g' vs' us'∧ ∀r∈AV.ag vs',born' r:=by
 unfold wF at h
 simp only[eD]at h
 generalize hlv:vV st.get vs=lv at h
 generalize hs:j7 ⟨lv,[],[]⟩ st vs=s at h
 obtain⟨ok,stS⟩:=s
 simp only[St.force_eq,gq]at h
 obtain⟨hok,h⟩:=j4 h
 obtain⟨k1,hok⟩:=af.1 hok
 obtain⟨k2,hok⟩:=af.1 hok
 obtain⟨k3,hok⟩:=af.1 hok
 have k1:(bX.all ⟨lv,[],[]⟩).Nodup:=of_decide_eq_true k1
 have k2:bS st.rs (fu (bX.all ⟨lv,[],[]⟩))=true:=k2
 have k3:eE (bX.all ⟨lv,[],[]⟩).length stS.rs (dy lv.length 0 stS.rs)=List.range' lv.length 0:=of_decide_eq_true k3
 have h:Option.bind (lg env f lv.length 0 (bX.all ⟨lv,[],[]⟩).length (stS.rs.map al.strip) stS) _=_:=h
 cases hr:lg env f lv.length 0 (bX.all ⟨lv,[],[]⟩).length (stS.rs.map al.strip) stS with
 |none=>rw[hr]at h;cases h
 |some yx=>
 obtain⟨y,x⟩:=yx
 rw[hr]at h
 simp only[Option.bind_some]at h
 generalize hla:fL P true (cS P f) y base=la at h
 obtain⟨vsR,rsR⟩:=la
 simp only[Option.some.injEq,Prod.mk.injEq]at h
 obtain⟨rfl,rfl,-,-⟩:=h
 unfold lg at hr
 rw[hE.det]at hr
 cases hin:env.inl (R:=List AV×St) f stS.top ⟨stS.fr.tail,stS.rs⟩ (fun vs st=>some (vs,st))with
 |none=>rw[hin]at hr;cases hr
 |some p=>
 obtain⟨vsF,stF⟩:=p
 rw[hin]at hr
 simp only[Option.bind_some]at hr
 obtain⟨hfn,hval⟩:=hE.inl f stS.top _ vsF stF hin
 refine⟨hfn,fun w0 g born acts w us R hlt hA hb hfresh=> ?_⟩
 have hq:=fp (st:=st) (l:=bX.all ⟨lv,[],[]⟩) k2 fun r hr=>List.mem_map.2 ⟨r,hr,rfl⟩
 have hD: ∀r∈([]:List Nat)++ [],∃t xs,st.get r= .row true t xs:=fun r hr=>by cases hr
 obtain⟨gS,actH,Rp,Ap,Bp,pt⟩:=uE (m3:=false) (ls:=⟨lv,[],[]⟩) R hq k1 hD hA hs hok
 refine Calls.mono (hval _ gS _ [actH] w us Rp (fun r hr=>hr) Ap Bp) fun e w' he=> ?_
 obtain⟨us',g',born',rfl,⟨wB,hle,R'⟩,_,A',_⟩:=he
 obtain⟨g2,R2,hlt2,hF,G,hrep,hsep,hblk⟩:=zl (ls:=⟨lv,[],[]⟩) R hq k1 hlt k3 pt hle R' A' hr
 have hst:mQ ⟨lv,[],[]⟩ st (stS.rs.map al.strip) x=st.aY (vk ⟨lv,[],[]⟩ st (stS.rs.map al.strip) (iI (jD lv.length 0 (bX.all ⟨lv,[],[]⟩).length (stS.rs.map al.strip)) x)):=rfl
 rw[hst]at R2 hlt2 hblk
 obtain⟨g3,b3,R3,L3,A3,B3,_⟩:=jH (P:=P) (acts:=acts) true (cS P f) y us' (cq us') _ g2 born base 0 G vsR rsR R2 hF (fun k _=>by rw[Nat.zero_add]) hrep (fun _=>hsep) (fun _ b hb=>hblk b hb) hla
  (fun i h1 h2=>hfresh i (by rw[List.map_append,List.mem_append];exact .inr ((cl _ _ _).2 ⟨h1,h2⟩)) h1)
 rw[←js]at R3 A3
 refine⟨us',g3,b3,rfl,R3,fun r hr=> ?_,A3,fun r hr=>(L3.born_iff r).2 (.inr (B3 r hr))⟩
 rw[List.map_append,List.mem_append]
 exact((L3.born_iff r).1 hr).imp id fun h=> .inr ((cl _ _ _).2 h)
theorem FZ{env:Env P}(hE:jo P env){f:Nat}{vs vs':List AV}{base:Nat}{upd:List (Nat×al)}{rd qu:List Nat}
  (h:ioC (R:=List AV×List (Nat×al)×List Nat×List Nat) env f vs st base (fun a b c d=>some (a,b,c,d))=some (vs',upd,rd,qu)):
  (∃fn,P.funcs[f]?=some fn∧fn.body.isSome=true)∧ ∀(w0:cw) (g:aP) (born:Nat→Prop) (acts:List Act) (w:World) (us:List Value),Rel w0 st g born acts w→(∀r,born r→r<st.rs.length)→
   ah st.get g vs us→(∀r∈AV.ag vs,born r)→(∀i∈upd.map (·.1),base≤i→ ¬born i)→
   Calls P f us.toArray w fun e w'=> ∃us' g' born',e= .returned (nW us')∧Rel w0 (st.aY upd) g' born' acts w'∧(∀r,born' r→born r∨r∈upd.map (·.1))∧ah (st.aY upd).get g' vs' us'∧ ∀r∈AV.ag vs',born' r:=by
 unfold ioC at h
 simp only[eD]at h
 generalize hlv:Bd vs=lv at h
 generalize hln:ve true st.get vs++vN true st.get lv=ln at h
 generalize hs:j7 ⟨lv,[],ln⟩ st vs=s at h
 obtain⟨ok,stS⟩:=s
 simp only[St.force_eq,gq]at h
 obtain⟨hok,h⟩:=j4 h
 obtain⟨k1,hok⟩:=af.1 hok
 obtain⟨k2,hok⟩:=af.1 hok
 have k1:(bX.all ⟨lv,[],ln⟩).Nodup:=of_decide_eq_true k1
 have k2:bS st.rs (fu (bX.all ⟨lv,[],ln⟩))=true:=k2
 have h:Option.bind (lg env f 0 0 (bX.all ⟨lv,[],ln⟩).length (stS.rs.map al.strip) stS) _=_:=h
 cases hr:lg env f 0 0 (bX.all ⟨lv,[],ln⟩).length (stS.rs.map al.strip) stS with
 |none=>rw[hr]at h;cases h
 |some yx=>
 obtain⟨y,x⟩:=yx
 rw[hr]at h
 simp only[Option.bind_some]at h
 generalize hla:fL P true (cS P f) y base=la at h
 obtain⟨vsR,rsR⟩:=la
 simp only[Option.some.injEq,Prod.mk.injEq]at h
 obtain⟨rfl,rfl,-,-⟩:=h
 unfold lg at hr
 rw[hE.det]at hr
 cases hin:env.inl (R:=List AV×St) f stS.top ⟨stS.fr.tail,stS.rs⟩ (fun vs st=>some (vs,st))with
 |none=>rw[hin]at hr;cases hr
 |some p=>
 obtain⟨vsF,stF⟩:=p
 rw[hin]at hr
 simp only[Option.bind_some]at hr
 obtain⟨hfn,hval⟩:=hE.inl f stS.top _ vsF stF hin
 refine⟨hfn,fun w0 g born acts w us R hlt hA hb hfresh=> ?_⟩
 have hq:=fp (st:=st) (l:=bX.all ⟨lv,[],ln⟩) k2 fun r hr=>List.mem_map.2 ⟨r,hr,rfl⟩
 have hD: ∀r∈([]:List Nat)++ln,∃t xs,st.get r= .row true t xs:=fun r hr=>by
  rw[List.nil_append,←hln]at hr
  rcases List.mem_append.1 hr with hr|hr
  ·obtain⟨v,_,hv⟩:=List.mem_flatMap.1 hr
   exact pf hv
  ·obtain⟨v,_,hv⟩:=List.mem_flatMap.1 hr
   exact pf hv
 obtain⟨gS,actH,Rp,Ap,Bp,pt⟩:=uE (m3:=true) (ls:=⟨lv,[],ln⟩) R hq k1 hD hA hs hok
 refine Calls.mono (hval _ gS _ [actH] w us Rp (fun r hr=>hr) Ap Bp) fun e w' he=> ?_
 obtain⟨us',g',born',rfl,⟨wB,hle,R'⟩,_,A',_⟩:=he
 obtain⟨R2,hF,G,hrep,hsep,hblk⟩:=DR (ls:=⟨lv,[],ln⟩) R hq hle R' A' hr
 obtain⟨g3,b3,R3,L3,A3,B3,_⟩:=jH (P:=P) (acts:=acts) true (cS P f) y us' (cq us') _ g born base 0 G vsR rsR R2 hF (fun k _=>by rw[Nat.zero_add]) hrep (fun _=>hsep) (fun _ b hb=>hblk b hb) hla
  (fun i h1 h2=>hfresh i (by rw[List.map_append,List.mem_append];exact .inr ((cl _ _ _).2 ⟨h1,h2⟩)) h1)
 rw[←js]at R3 A3
 refine⟨us',g3,b3,rfl,R3,fun r hr=> ?_,A3,fun r hr=>(L3.born_iff r).2 (.inr (B3 r hr))⟩
 rw[List.map_append,List.mem_append]
 exact((L3.born_iff r).1 hr).imp id fun h=> .inr ((cl _ _ _).2 h)
theorem Fz{m:Nat}{env:Env P}(hE:jo P env){f:Nat}{vs vs':List AV}{base:Nat}{upd:List (Nat×al)}{rd qu:List Nat}
  (h:ioD (R:=List AV×List (Nat×al)×List Nat×List Nat) m env f vs st base (fun a b c d=>some (a,b,c,d))=some (vs',upd,rd,qu)):
  (∃fn,P.funcs[f]?=some fn∧fn.body.isSome=true)∧ ∀(w0:cw) (g:aP) (born:Nat→Prop) (acts:List Act) (w:World) (us:List Value),Rel w0 st g born acts w→(∀r,born r→r<st.rs.length)→
   ah st.get g vs us→(∀r∈AV.ag vs,born r)→(∀i∈upd.map (·.1),base≤i→ ¬born i)→
   Calls P f us.toArray w fun e w'=> ∃us' g' born',e= .returned (nW us')∧Rel w0 (st.aY upd) g' born' acts w'∧(∀r,born' r→born r∨r∈upd.map (·.1))∧ah (st.aY upd).get g' vs' us'∧ ∀r∈AV.ag vs',born' r:=by
 unfold ioD at h
 cases hm:Nat.beq m 5 with
 |true=>rw[hm]at h;exact FZ hE h
 |false=>rw[hm]at h;exact EM hE h
theorem EL{cfg:Cfg}{env:Env P}(hE:jo P env){f:Nat}{vs vs':List AV}(h:Ax (R:=List AV×St) P cfg env f vs st (fun vs st=>some (vs,st))=some (vs',st')):zK P f vs st vs' st':=by
 unfold Ax at h
 cases hm:cM st.get (cfg.mode f) vs with
 |true=>rw[hm]at h;exact FL hE h
 |false=>rw[hm]at h;exact hE.inl f vs st vs' st' h
end
end
end Go.Am
end
section
/- Soundness: calls whose results share memory. -/
namespace Go.Am
noncomputable section
attribute [local instance] D.real
section
variable {P : Program} {cfg : Cfg} {env : Env P} {w0 : cw} {w w' : World} {st st' : St} {g g' : aP} {born : Nat → Prop} {a : Act} {as acts : List Act}
theorem om: ∀(l seen:List Nat) (r:Nat),r∈jj seen l↔r∈seen∨r∈l
 | [],seen,r=>by simp[jj]
 |x::l,seen,r=>by
  unfold jj
  cases h:seen.contains x with
  |true=>
   simp only[cond_true]
   rw[om l seen r]
   have:x∈seen:=by simpa using h
   simp only[List.mem_cons]
   refine⟨fun h=>h.imp id .inr,fun h=> ?_⟩
   rcases h with h|rfl|h
   ·exact .inl h
   ·exact .inl this
   ·exact .inr h
  |false=>
   simp only[cond_false]
   rw[om l (seen++ [x]) r]
   simp[or_assoc]
theorem yI(R:Rel w0 st g born acts w){vs:List AV}{us:List Value}(hA:ah st.get g vs us){L:List Nat}(hL:ur st.get vs=L)(hk: ∀r∈L,AU (st.get r)=true)
  {ts:List TypeId} {ok:List Tst} {x:den (eW P ts)} {rest:List AV} (hfit:fitAll P ts vs=true) (hrd:gO st.get (eW P ts) (vs.flatMap AV.cells)=(ok,x,rest)) (hok:bh ok):
  iB P (pI w0.w w fun b=> ∃r∈L,Own st.get g r b) ts us x:=by
 classical
 obtain⟨hF,hC,hCb⟩:=jL ts vs us hfit hA
 let get':Get:=fun r=>if r∈L then st.get r else match st.get r with
  | .row false t xs=> .row false t xs
  |_=> .dead
 have hget: ∀r,r∈L→get' r=st.get r:=fun r h=>if_pos h
 have heap: ∀r b,r∈L→Own st.get g r b→(pI w0.w w fun b=> ∃r∈L,Own st.get g r b).heap[b]?=w.heap[b]?:=fun r b hr h=>eC fun h'=>h' (.inr ⟨r,hr,h⟩)
 have hty: ∀r t,cP (get' r)=some t→cP (st.get r)=some t:=by
  intro r t h
  by_cases hr:r∈L
  ·rwa [hget r hr]at h
  ·simp only[get',if_neg hr]at h
   split at h
   ·next e=>rw[e];exact h
   ·cases h
 have hvr: ∀r,isVar (get' r)=true→isVar (st.get r)=true:=by
  intro r h
  by_cases hr:r∈L
  ·rwa [hget r hr]at h
  ·simp only[get',if_neg hr]at h
   split at h<;>cases h
 have hold: ∀r,Holds st.get get' g g r fun _=>True:=fun r=>⟨fun t h=>⟨hty r t h,fun _ _=>rfl⟩,fun h=>⟨hvr r h,rfl⟩⟩
 have hR: ∀r,aX w0 (pI w0.w w fun b=> ∃r∈L,Own st.get g r b) get' g r:=by
  intro r
  have h:=R.roots r
  unfold aX at h⊢
  by_cases hr:r∈L
  ·have hkr:=hk r hr
   have hh:=heap r
   rw[hget r hr]
   unfold Own at hh
   cases hg:st.get r with
   |row rw_ t xs=>
    rw[hg]at h hh
    cases rw_ with
    |true=>exact⟨eX (fun b hb=>hh b hr hb) h.1,h.2⟩
    |false=>exact h
   |sh t xs=>
    rw[hg]at h hh
    exact h.step (fun b hb=>hh b hr hb) fun a v ha hv=>⟨kj hv (.inl ha),ha⟩
   |var cs=>
    rw[hg]at h hh
    obtain⟨arr,te,h1,h2,h3⟩:=h
    exact⟨arr,te,(hh _ hr rfl).trans h1,h2,dt _ _ (fun r _=>hold r) h3⟩
   |dead=>rw[hg]at hkr;cases hkr
   |half t xs=>rw[hg]at hkr;cases hkr
   |pend q p t xs=>rw[hg]at hkr;cases hkr
  ·simp only[get',if_neg hr]
   cases hg:st.get r with
   |row rw_ t xs=>
    rw[hg]at h
    cases rw_ with
    |true=>trivial
    |false=>exact h
   |_=>trivial
 have hmem: ∀r,r∈AV.ag (vs.flatMap AV.cells)∨r∈iu st.get (vs.flatMap AV.cells)→get' r=st.get r:=by
  intro r h
  have h:r∈AV.ag vs∨r∈iu st.get (vs.flatMap AV.cells):=h.imp (hCb r) id
  by_cases hr:r∈L
  ·exact hget r hr
  ·have hf:(match st.get r with
    | .row false _ _=>false
    | .dead=>false
    |_=>true)=false:=by
    cases hb:(match st.get r with
    | .row false _ _=>false
    | .dead=>false
    |_=>true)with
    |false=>rfl
    |true=>
     refine(hr ?_).elim
     rw[←hL]
     unfold ur
     rw[List.mem_filter,om]
     refine⟨.inr (List.mem_append.2 h),hb⟩
   simp only[get',if_neg hr]
   cases hg:st.get r with
   |row rw_ t xs=>
    cases rw_ with
    |true=>rw[hg]at hf;cases hf
    |false=>rfl
   |dead=>rfl
   |_=>rw[hg]at hf;cases hf
 have hcg:=(tp (get:=st.get) (get':=get') (eW P ts) (vs.flatMap AV.cells) (fun r hr=>(hmem r (.inl hr)).symm) (fun r n cs hm hg x hx=>(hmem x (.inr (q9 hm hg hx))).symm)).1
 rw[hcg]at hrd
 obtain⟨G,h,_⟩:=sf hR (fun a v hv=>kj (dX R.below a v hv) (.inl ⟨a,v,rfl,hv⟩)) (dt _ _ (fun r _=>hold r) hC) (eW P ts) 0 ok x rest hrd hok
 exact⟨hF,G,h⟩
theorem tK{B B':cw}{get:Get}(hc: ∀(a:Addr) (v:Value),B.w.cell? a=some v→B'.w.cell? a=some v)(hR: ∀r,aX B w get g r)(ho: ∀r b,Own get g r b→w'.heap[b]?=w.heap[b]?)
  (hr: ∀(a:Addr) (v:Value),Rds B.w a.block→w.cell? a=some v→w'.cell? a=some v) (r:Nat):aX B' w' get g r:=by
 have h:=hR r
 have hh:=ho r
 unfold aX at h⊢
 unfold Own at hh
 cases hg:get r with
 |dead=>trivial
 |var cs=>
  rw[hg]at h hh
  obtain⟨arr,te,h1,h2,h3⟩:=h
  exact⟨arr,te,(hh _ rfl).trans h1,h2,h3⟩
 |row rw_ t xs=>
  rw[hg]at h hh
  cases rw_ with
  |true=>exact⟨eX (fun b hb=>hh b hb) h.1,h.2⟩
  |false=>exact mw hc h
 |half t xs=>
  rw[hg]at h hh
  obtain⟨a,n,c,h1,h2,h3,hz,h4,h5⟩:=h
  exact⟨a,n,c,h1,h2,h3,hz,eX (fun b hb=>hh b ((kr h1).1 hb)) h4,h5⟩
 |sh t xs=>
  rw[hg]at h hh
  exact h.step (fun b hb=>hh b hb) fun a v ha hv=>⟨hr a v ha hv,Rds.mono hc ha⟩
 |pend r2 p t xs=>
  rw[hg]at h hh
  obtain⟨h1,h2,t',xs',h3,h4,h5⟩:=h
  refine⟨eX (fun b hb=> ?_) h1,h2,t',xs',h3,h4,h5⟩
  by_cases hhb:nF g r2 p b
  ·exact ho r2 b (by unfold Own;rw[h3];exact h5 b hhb)
  ·exact hh b ⟨hb,hhb⟩
theorem Cy(R:Rel w0 st g born acts w)(hbel:RowKit.Below w.heap.size w w'){r':World}(hc: ∀(a:Addr) (v:Value),w0.w.cell? a=some v→r'.cell? a=some v)(hw: ∀(a:Addr) (v:Value),r'.cell? a=some v→w'.cell? a=some v)
  (ho: ∀r b,Own st.get g r b→ ¬Rds r' b) (hn: ∀b,Rds r' b→Rds w0.w b∨ ¬w0.eH b): ∃w1,w0.le w1∧w1.w=r'∧Rel w1 st g born acts w':=by
 let keep':Nat→Prop:=fun b=>b<w'.heap.size∧(w0.eH b∨Rds r' b)
 have hsz:=R.below.size
 have hin: ∀b,Rds r' b→b<w'.heap.size:=fun b ⟨a,v,e,h⟩=>e▸World.block_lt_of_cell? w' a (hw a v h)
 let w1:cw:=⟨blank w' fun b=> ¬keep' b,r',fun b=> ¬keep' b,fun a x h=>⟨oy (hw a x h) fun h'=>h' ⟨hin _ ⟨a,x,rfl,h⟩,.inr ⟨a,x,rfl,h⟩⟩,fun h'=>h' ⟨hin _ ⟨a,x,rfl,h⟩,.inr ⟨a,x,rfl,h⟩⟩⟩,
  fun b o h k=>sx h k,w0.oth,w0.othc⟩
 have hk1: ∀b,w1.eH b↔keep' b:=fun b=>⟨fun h=>Classical.not_not.1 h.2,fun h=>⟨by show b<(blank w' _).heap.size;rw[fV];exact h.1,fun h'=>h' h⟩⟩
 have hlt0: ∀b,w0.eH b→b<w.heap.size:=fun b h=>Nat.lt_of_lt_of_le h.1 hsz
 have hle:w0.le w1:=by
  refine⟨fun b h=>(hk1 b).2 ⟨Nat.lt_of_lt_of_le (hlt0 b h) hbel.size,.inl h⟩,fun b h=>((hk1 b).1 h).2,?_,hc,hn,rfl⟩
  refine⟨(hbel.os).trans R.below.os,(hbel.tape).trans R.below.tape,(hbel.output).trans R.below.output,?_,fun b h=> ?_,fun b o h1 h2=> ?_⟩
  ·show _≤(blank w' _).heap.size
   rw[fV];exact Nat.le_trans hsz hbel.size
  ·exact(eC fun h'=>h' ⟨Nat.lt_of_lt_of_le (hlt0 b h) hbel.size,.inl h⟩).trans ((hbel.block b (hlt0 b h)).trans (R.below.block b h))
  ·have hkb:w0.eH b:=⟨(Array.getElem?_eq_some_iff.1 h1).1,fun hl=>by rw[w0.lentc b o hl h1]at h2;cases h2⟩
   exact(eC fun h'=>h' ⟨Nat.lt_of_lt_of_le (hlt0 b hkb) hbel.size,.inl hkb⟩).trans ((hbel.block b (hlt0 b hkb)).trans ((R.below.block b hkb).trans h1))
 have hB1:dn w1 w1.v w':=by
  refine⟨rfl,rfl,rfl,by show(blank w' _).heap.size≤_;rw[fV];exact Nat.le_refl _,fun b h=>(eC h.2).symm,fun b o h1 h2=> ?_⟩
  by_cases hb:keep' b
  ·exact(eC fun h'=>h' hb).symm.trans h1
  ·rw[sx hb h1]at h2;cases h2
 have hst: ∀r b,Own st.get g r b→w'.heap[b]?=w.heap[b]?:=fun r b h=>hbel.block b (fS R h)
 refine⟨w1,hle,rfl,hB1,fun r=>tK hc R.roots hst (fun a v ha hv=>(im (hbel.block _ (hlt0 _ (cw.rds ha)))).trans hv) r,R.sep,fun r b h hk=> ?_,R.frames,R.bornF,R.bornR,R.alive,R.marks.nodup,fun D hD=> ?_,fun k o h=> ?_⟩
 ·rcases((hk1 b).1 hk).2 with h'|h'
  ·exact R.low r b h h'
  ·exact ho r b h h'
 ·obtain⟨h1,h2,h3⟩:=R.marks.empty D hD
  have hlt:=(Array.getElem?_eq_some_iff.1 h1).1
  have h4:=(hbel.block D hlt).trans h1
  refine⟨h4,fun hk=> ?_,h3⟩
  rcases((hk1 D).1 hk).2 with h'|⟨a,v,e,h'⟩
  ·exact h2 h'
  ·have:=hw a v h'
   subst e
   unfold World.cell? at this
   rw[h4]at this
   cases this
 ·have h1:=R.marks.oth k o h
  exact(hbel.block k (Array.getElem?_eq_some_iff.1 h1).1).trans h1
theorem Cz(rs:List al)(i:Nat)(x:al):rs.length≤(setAt rs i x).length∧i<(setAt rs i x).length:=by
 unfold setAt
 cases hb:Nat.blt i rs.length with
 |true=>have:=dQ hb;simp;omega
 |false=>
  have hge:rs.length≤i:=by
   rcases Nat.lt_or_ge i rs.length with h|h
   ·rw[←Nat.blt_eq,hb]at h;cases h
   ·exact h
  simp;omega
theorem iw: ∀(l:List (Nat×al)) (st:St),st.rs.length≤(st.aY l).rs.length∧ ∀i∈l.map (·.1),i<(st.aY l).rs.length
 | [],st=>⟨Nat.le_refl _,fun i h=>by simp at h⟩
 |(i,x)::l,st=>by
  obtain⟨h1,h2⟩:=iw l (st.fx i x)
  obtain⟨h3,h4⟩:=Cz st.rs i x
  rw[kJ]
  refine⟨Nat.le_trans h3 h1,fun j hj=> ?_⟩
  simp only[List.map_cons,List.mem_cons]at hj
  rcases hj with rfl|hj
  ·exact Nat.lt_of_lt_of_le h4 h1
  ·exact h2 j hj
theorem FH(hE:jo P env){f:Nat}{vs vs':List AV}(h:ioS (R:=List AV×St) env f vs st (fun vs st=>some (vs,st))=some (vs',st')):zK P f vs st vs' st':=by
 unfold ioS at h
 simp only[eD]at h
 generalize hL:ur st.get vs=L at h
 generalize hrd:gO st.get (gk P f) (vs.flatMap AV.cells)=rd at h
 obtain⟨ok,x,rest⟩:=rd
 simp only[iR]at h
 split at h
 rotate_left
 ·cases h
 next hok=>
 obtain⟨hfit,hok⟩:=af.1 (jE.1 hok)
 obtain⟨_,hok⟩:=af.1 hok
 obtain⟨hq,hok⟩:=af.1 hok
 obtain⟨hk,hok⟩:=af.1 hok
 have hk: ∀r∈L,AU (st.get r)=true:=fun r hr=>List.all_eq_true.1 hk r hr
 have h:(env.ps f x).bind _=_:=h
 cases hps:env.ps f x with
 |none=>rw[hps]at h;cases h
 |some y=>
 rw[hps]at h
 simp only[Option.bind_some]at h
 generalize hla:fL P false (cS P f) y st.rs.length=la at h
 obtain⟨vsR,rsR⟩:=la
 simp only[Option.some.injEq,Prod.mk.injEq]at h
 obtain⟨rfl,rfl⟩:=h
 obtain⟨hfn,hval⟩:=hE.ps f x y hps
 refine⟨hfn,fun w0 g born acts w us R hlt hA hb=> ?_⟩
 have hq':=fp (st:=st) (l:=L) hq fun r hr=>List.mem_map.2 ⟨r,hr,rfl⟩
 have hargs:=yI (P:=P) R hA hL hk (ts:=fH P f) hfit hrd hok
 refine Calls.mono (hval w _ us.toArray (fun a v h=>(jO h).1) (by simpa using hargs)) fun e w' he=> ?_
 obtain⟨us',r',rfl,hbel,hc,hw,hn,hF,G,hrep⟩:=he
 have hc0: ∀(a:Addr) (v:Value),w0.w.cell? a=some v→r'.cell? a=some v:=fun a v hv=>hc a v (kj (dX R.below a v hv) (.inl ⟨a,v,rfl,hv⟩))
 have hn1: ∀b,Rds r' b→Rds w0.w b∨(∃r∈L,Own st.get g r b)∨w.heap.size≤b:=fun b hb=>by
  rcases hn b hb with⟨a,v,rfl,h⟩|h
  ·exact(jO h).2.imp id .inl
  ·exact .inr (.inr h)
 have RK:=pF L st R hq'
 obtain⟨w1,hle,rfl,R1⟩:=Cy RK hbel hc0 hw (fun r b h hr=>by
   obtain⟨k1,k2,k3⟩:=pz R hq' h
   rcases hn1 b hr with h'|⟨r2,h2,h3⟩|h'
   ·exact R.low r b k2 (cw.rds h')
   ·exact k3 ⟨r2,h2,h3⟩
   ·have:=fS R k2;omega)
  (fun b hb=>by
   rcases hn1 b hb with h'|⟨r2,h2,h3⟩|h'
   ·exact .inl h'
   ·exact .inr (R.low r2 b h3)
   ·exact .inr (R.fresh h'))
 have hlenK: ∀r,born r→r<st.rs.length:=hlt
 obtain⟨g3,b3,R3,L3,A3,B3,_⟩:=jH (P:=P) (acts:=acts) false (cS P f) y us' (cq us') _ g born st.rs.length 0 G vsR rsR R1 hF (fun k _=>by rw[Nat.zero_add]) hrep (fun h=>by cases h) (fun h=>by cases h) hla
  (fun i h1 _ hb=>by have:=hlt i hb;omega)
 have hset:(St.mk st.fr (gJ st.rs (dU L++ak st.rs.length rsR)))=(st.aY (dU L)).aY (ak st.rs.length rsR):=by rw[←js];rfl
 rw[hset]
 refine⟨us',g3,b3,rfl,⟨w1,hle,R3⟩,fun r hr=> ?_,A3,fun r hr=>(L3.born_iff r).2 (.inr (B3 r hr))⟩
 have hl1:=iw (dU L) st
 have hl2:=iw (ak st.rs.length rsR) (st.aY (dU L))
 rcases(L3.born_iff r).1 hr with h|h
 ·have:=hlt r h
  exact Nat.lt_of_lt_of_le this (Nat.le_trans hl1.1 hl2.1)
 ·exact hl2.2 r ((cl _ _ _).2 h)
end
end
end Go.Am
end
