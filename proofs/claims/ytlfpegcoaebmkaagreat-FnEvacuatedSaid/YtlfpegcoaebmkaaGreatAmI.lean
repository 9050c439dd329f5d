/- A call in a part of the state, to which rows and variables are lent, is sound, whatever the program. -/
import Derived.Test.YtlfpegcoaebmkaaGreatAmV
set_option linter.unusedSimpArgs false
set_option linter.unusedVariables false
set_option linter.unnecessarySimpa false
set_option linter.unusedSectionVars false
open List renaming length_append → Mb, mem_append → Md, getD_eq_getElem?_getD → Mk, length_cons → Nr, getElem_mem → Ns, mem_cons_of_mem → Mo, nil_append → N1, mem_singleton → Nt, getElem?_append_left → Mq, getElem?_append_right → Mr, mem_cons_self → Mw, getElem?_eq_getElem → MC, getElem?_eq_none → MG, mem_cons → MH, getElem?_cons_zero → Nu, map_cons → MP, range' → Ln, getElem?_eq_some_iff → Nv, flatMap_cons → NO, range → LV, mem_map → M5, length_map → N2, eq_nil_of_length_eq_zero → N3, getElem?_take → M6, mem_iff_getElem? → N4, map_append → NP, getElem?_map → Nz, nodup_cons → N5, map_map → N6, nodup_append → N7, getElem?_drop → N8, mem_flatMap → N9, length_range → Lw, mem_range'_1 → Lx, getElem?_range → MD
open Bool renaming and_eq_true → Nc
open Nat renaming le_refl → Ng, lt_or_ge → Nh, zero_add → Ni, le_of_not_lt → Oa, lt_of_lt_of_le → Nj, blt_eq → Nl, le_trans → Ob, sub_zero → Oc, add_sub_cancel_left → Lt
open Array renaming getElem?_eq_some_iff → Nn, toList_inj → Od
open Option renaming bind_some → Oe, getD_some → Nq, map_some → NI, bind → N0
open Classical renaming choose → Of
section
/- Soundness: calls in a part of the state. The part: its world, its values. -/
namespace Go.Am
noncomputable section
attribute [local instance] D.real
def AR(P:Program)(f:Nat)(vs:List AV)(st:St)(vs':List AV)(st':St):Prop:=
 (∃fn,P.funcs[f]?=some fn∧fn.body.isSome=true)∧
 ∀(w0:cP) (g:bm) (born:Nat→Prop) (acts:List Act) (w:World) (us:List Value),Rel w0 st g born acts w→(∀r,born r→r<st.rs.length)→aj st.get g vs us→(∀r∈AV.ag vs,born r)→
  Calls P f us.toArray w fun e w'=> ∃us' g' born',e= .returned (qD us')∧eI w0 st' g' born' acts w'∧(∀r,born' r→r<st'.rs.length)∧aj st'.get g' vs' us'∧ ∀r∈AV.ag vs',born' r
structure kF (P : Program) (env : Env P) : Prop where
  det : kt P env
  pc : ∀ f x y, env.pc f x = some y → Valid P f x y
  ps : ∀ f x y, env.ps f x = some y → GK P f x y
  inl : ∀ f vs st vs' st', env.inl (R := List AV × St) f vs st (fun vs st => some (vs, st)) = some (vs', st') → AR P f vs st vs' st'
theorem EA{w:World}{lent:Nat→Prop}{k:Nat}{o:Obj}(h:(blank w lent).heap[k]?=some o)(ho:o.isCells=false):w.heap[k]?=some o:=by
 by_cases hl:lent k
 ·have e:(blank w lent).heap[k]?=(w.heap[k]?).map fun _=> .cells #[] 0 (0,0):=by
   simp[blank,hl]
  rw[e]at h
  cases hw:w.heap[k]? with
  |none=>rw[hw]at h;cases h
  |some x=>
   rw[hw]at h
   injection h with h
   subst h
   cases ho
 ·exact(fG hl).symm.trans h
def nz(w:World)(lent:Nat→Prop):cP:=⟨blank w lent,blank w lent,lent,fun a x h=>⟨h,(pD h).2⟩,fun _ _ h k=>u6 h k,fun _=>none,fun _ _ h=>by cases h⟩
section
variable {w0 : cP} {w w' : World} {st st' : St} {g g' : bm} {born born' : Nat → Prop} {acts : List Act} {a : Act}
theorem lY: ∀(l:List Nat) (st:St) (r:Nat),(st.bz (fj l)).get r=if r∈l then .dead else st.get r
 | [],st,r=>by simp[fj,Gt]
 |x::l,st,r=>by
  show((st.gN x .dead).bz (fj l)).get r=_
  rw[lY l,gI]
  by_cases h1:r∈l
  ·simp[h1]
  ·by_cases h2:r=x<;>simp[h1,h2]
theorem rh: ∀(l:List Nat) (st:St),Rel w0 st g born acts w→(∀r∈l,∀j r' p t xs,st.get j= .pend r' p t xs→r'≠r)→Rel w0 (st.bz (fj l)) g born acts w
 | [],st,R,_=>R
 |x::l,st,R,hq=>by
  show Rel w0 ((st.gN x .dead).bz (fj l)) g born acts w
  refine rh l _ (FR R x fun j r' p t xs e=> .inl (hq x Mw j r' p t xs e)) fun r hr j r' p t xs e=> ?_
  rw[gI]at e
  split at e
  ·cases e
  ·exact hq r (Mo _ hr) j r' p t xs e
theorem wT(R:Rel w0 st g born acts w)(hb:dV w0 w w')(ho: ∀r b,Own st.get g r b→w'.heap[b]?=w.heap[b]?):Rel w0 st g born acts w':=by
 refine mz (fun _=>False) R hb rfl (fun r _=>⟨fun t ht=>⟨ht,fun _ _=>rfl⟩,fun hv=>⟨hv,rfl⟩⟩) (fun r _=>⟨rfl,rfl,fun b hbo=>ho r b hbo⟩)
  (fun _ _ _ _ _ _ _ h=>h) (fun r h=>h.elim) (fun r _ _ h=>h.elim) (fun r _ h=>h.elim) (fun _ h=>h) (fun r h=>h.elim) (fun r h=>h.elim)
def mV(get:Get)(g:bm)(L:List Nat)(b:Nat):Prop:= ∃r∈L,Own get g r b
theorem mV.low{L:List Nat}(R:Rel w0 st g born acts w){b:Nat}(h:mV st.get g L b): ¬w0.fT b:=by
 obtain⟨r,_,h⟩:=h
 exact R.low r b h
theorem qX{L:List Nat}(R:Rel w0 st g born acts w)(hq: ∀r∈L,∀j r' p t xs,st.get j= .pend r' p t xs→r'≠r){r b:Nat}(h:Own (st.bz (fj L)).get g r b):r∉L∧Own st.get g r b∧ ¬mV st.get g L b:=by
 have hr:r∉L:=fun hr=>by
  unfold Own at h
  rw[lY,if_pos hr]at h
  exact h
 have e:Own st.get g r b:=by
  unfold Own at h⊢
  rw[lY,if_neg hr]at h
  exact h
 exact⟨hr,e,fun⟨r',hr',h'⟩=>R.sep r r' b (fun e=>hr (e▸hr')) e h'⟩
theorem B8{L:List Nat}(R:Rel w0 st g born acts w):dV w0 w (blank w (mV st.get g L)):=
 ⟨rfl,rfl,rfl,by rw[iC];exact Ng _,fun k hk=>fG fun h=>mV.low R h hk,fun k o h1 h2=>(fG fun⟨r,_,h⟩=>by rw[j9 R h o h1]at h2;cases h2).trans h1⟩
theorem FE{L:List Nat}(R:Rel w0 st g born acts w)(hq: ∀r∈L,∀j r' p t xs,st.get j= .pend r' p t xs→r'≠r):
  Rel w0 (st.bz (fj L)) g born acts (blank w (mV st.get g L)):=
 wT (rh L st R hq) (B8 R) fun _ b h=>fG (qX R hq h).2.2
def Hu(get:Get)(g:bm)(L:List Nat)(getS:Get)(gS:bm):Prop:= ∀r i,idx L 0 r=some i→
 (∀t,du (getS i)=some t→du (get r)=some t∧ ∀p,(gS i).H p=(g r).H p)∧(isVar (getS i)=true→isVar (get r)=true∧(gS i).b=(g r).b)
def JD(wb:World)(x:aB)(inf:Info):Prop:= ∃e ys,x= .row false e ys∧cf wb false e ys inf.H∧ ∃a n c,inf.H []= .slice a n c
def tf(wb:World)(rs:List aB)(infs:List Info):Prop:=infs.length=rs.length∧ ∀(k:Nat) (x:aB) (inf:Info),rs[k]?=some x→infs[k]?=some inf→JD wb x inf
theorem tf.nil{wb:World}:tf wb [] []:=⟨rfl,fun k x inf h=>by simp at h⟩
theorem tf.app{wb:World}{rs rs':List aB}{i i':List Info}(h:tf wb rs i)(h':tf wb rs' i'):tf wb (rs++rs') (i++i'):=by
 refine⟨by simp[h.1,h'.1],fun k x inf hx hi=> ?_⟩
 rcases Nh k rs.length with hk|hk
 ·rw[Mq hk]at hx
  rw[Mq (by rw[h.1];exact hk)]at hi
  exact h.2 k x inf hx hi
 ·rw[Mr hk]at hx
  rw[Mr (by rw[h.1];exact hk),h.1]at hi
  exact h'.2 _ x inf hx hi
def At(getS:Get)(gS:bm)(b:Nat)(rs:List aB)(infs:List Info):Prop:= ∀(k:Nat) (x:aB) (inf:Info),rs[k]?=some x→infs[k]?=some inf→getS (b+k)=x∧gS (b+k)=inf
theorem At.left{getS:Get}{gS:bm}{b:Nat}{rs rs':List aB}{i i':List Info}(h:At getS gS b (rs++rs') (i++i'))(hl:i.length=rs.length):At getS gS b rs i:=fun k x inf hx hi=>
 h k x inf (by rw[Mq (Nv.1 hx).1];exact hx) (by rw[Mq (Nv.1 hi).1];exact hi)
theorem At.right{getS:Get}{gS:bm}{b:Nat}{rs rs':List aB}{i i':List Info}(h:At getS gS b (rs++rs') (i++i'))(hl:i.length=rs.length):At getS gS (b+rs.length) rs' i':=fun k x inf hx hi=>by
 have:=h (rs.length+k) x inf (by rw[Mr (by omega)];simpa using hx) (by rw[Mr (by omega),hl];simpa using hi)
 rw[Nat.add_assoc];exact this
mutual
theorem ET{getK:Get}{wb:World}{L:List Nat}{get:Get}(hR: ∀r,bw w0 wb getK g r)(hB:Seen w0 wb)(hG: ∀r t,du (getK r)=some t→du (get r)=some t):
  ∀(v:AV) (x:Value) (b:Nat) (ok:List Tst) (v':AV) (rs:List aB),dP getK L v b=(ok,v',rs)→bM ok→ae get g v x→
   ∃infs,tf wb rs infs∧(∀r∈v'.roots,r<L.length∨(b≤r∧r<b+rs.length))∧ ∀getS gS,Hu get g L getS gS→At getS gS b rs infs→ae getS gS v' x
 | .int k n,x,b,ok,v',rs,h,_,hx=>by
  rw[dP]at h;simp only[Prod.mk.injEq]at h;obtain⟨_,rfl,rfl⟩:=h
  exact⟨[],.nil,fun r hr=>by simp[AV.roots]at hr,fun _ _ _ _=>by rw[ae]at hx⊢;exact hx⟩
 | .bool n,x,b,ok,v',rs,h,_,hx=>by
  rw[dP]at h;simp only[Prod.mk.injEq]at h;obtain⟨_,rfl,rfl⟩:=h
  exact⟨[],.nil,fun r hr=>by simp[AV.roots]at hr,fun _ _ _ _=>by rw[ae]at hx⊢;exact hx⟩
 | .kb n,x,b,ok,v',rs,h,_,hx=>by
  rw[dP]at h;simp only[Prod.mk.injEq]at h;obtain⟨_,rfl,rfl⟩:=h
  exact⟨[],.nil,fun r hr=>by simp[AV.roots]at hr,fun _ _ _ _=>by rw[ae]at hx;rw[ae];exact hx⟩
 | .ki k n,x,b,ok,v',rs,h,_,hx=>by
  rw[dP]at h;simp only[Prod.mk.injEq]at h;obtain⟨_,rfl,rfl⟩:=h
  exact⟨[],.nil,fun r hr=>by simp[AV.roots]at hr,fun _ _ _ _=>by rw[ae]at hx;rw[ae];exact hx⟩
 | .str n,x,b,ok,v',rs,h,_,hx=>by
  rw[dP]at h;simp only[Prod.mk.injEq]at h;obtain⟨_,rfl,rfl⟩:=h
  exact⟨[],.nil,fun r hr=>by simp[AV.roots]at hr,fun _ _ _ _=>by rw[ae]at hx⊢;exact hx⟩
 | .nilS,x,b,ok,v',rs,h,_,hx=>by
  rw[dP]at h;simp only[Prod.mk.injEq]at h;obtain⟨_,rfl,rfl⟩:=h
  exact⟨[],.nil,fun r hr=>by simp[AV.roots]at hr,fun _ _ _ _=>by rw[ae]at hx⊢;exact hx⟩
 | .undef,x,b,ok,v',rs,h,_,hx=>by
  rw[dP]at h;simp only[Prod.mk.injEq]at h;obtain⟨_,rfl,rfl⟩:=h
  exact⟨[],.nil,fun r hr=>by simp[AV.roots]at hr,fun _ _ _ _=>by simp[ae]⟩
 | .nb n,x,b,ok,v',rs,h,hok,hx=>by
  rw[dP]at h;simp only[Prod.mk.injEq]at h;obtain⟨rfl,_⟩:=h;exact(aY hok).elim
 | .pe r p i f,x,b,ok,v',rs,h,hok,hx=>by
  rw[dP]at h;simp only[Prod.mk.injEq]at h;obtain⟨rfl,_⟩:=h;exact(aY hok).elim
 | .tup vs,x,b,ok,v',rs,h,hok,hx=>by
  rw[dP]at h;simp only[Prod.mk.injEq]at h;obtain⟨rfl,_⟩:=h;exact(aY hok).elim
 | .lit r n,x,b,ok,v',rs,h,hok,hx=>by
  rw[dP]at h
  split at h
  ·next i hi=>
   simp only[Prod.mk.injEq]at h;obtain⟨_,rfl,rfl⟩:=h
   have hlt:=(Nv.1 (mY L 0 r i hi).2).1
   refine⟨[],.nil,fun r' hr=> ?_,fun getS gS hc _=> ?_⟩
   ·simp only[AV.roots,Nt]at hr;subst hr;left;omega
   ·rw[ae]at hx⊢
    refine⟨hx.1,fun hv=> ?_⟩
    obtain⟨h1,h2⟩:=(hc r i hi).2 hv
    rw[h2];exact hx.2 h1
  ·simp only[Prod.mk.injEq]at h;obtain⟨rfl,_⟩:=h;exact(aY hok).elim
 | .sl r p sub,x,b,ok,v',rs,h,hok,hx=>by
  unfold dP at h
  generalize hi:BT L r p sub=m at h
  cases m with
  |some i=>
   simp only[Prod.mk.injEq]at h;obtain⟨_,rfl,rfl⟩:=h
   have hi':p= []∧sub=none∧idx L 0 r=some i:=by
    cases p with
    |nil=>cases sub with
     |none=>exact⟨rfl,rfl,hi⟩
     |some s=>cases hi
    |cons q p=>cases sub<;>cases hi
   obtain⟨rfl,rfl,hi⟩:=hi'
   have hlt:=(Nv.1 (mY L 0 r i hi).2).1
   refine⟨[],.nil,fun r' hr=> ?_,fun getS gS hc _=> ?_⟩
   ·simp only[AV.roots,Nt]at hr;subst hr;left;omega
   ·rw[ae]at hx⊢
    refine⟨hx.1,fun t e ht he=> ?_⟩
    obtain⟨h1,h2⟩:=(hc r i hi).1 t ht
    rw[h2];exact hx.2 t e h1 he
  |none=>
   generalize hs:sliceAt getK r p=s at h
   obtain⟨ok1,e,ys⟩:=s
   simp only[Prod.mk.injEq]at h
   obtain⟨rfl,rfl,rfl⟩:=h
   have hxK:ae getK g (.sl r p sub) x:=by
    rw[ae]at hx⊢
    exact⟨hx.1,fun t e ht he=>hx.2 t e (hG r t ht) he⟩
   have hrep:=zb hR hB hs hok hxK
   rw[ae]at hx
   obtain⟨a,n,c,hsl⟩:=hx.1
   have hH:hdr g (.sl r p sub) x []=x:=rfl
   refine⟨[⟨0,hdr g (.sl r p sub) x,fun _=>False⟩],⟨rfl,fun k y inf hy hi=> ?_⟩,fun r' hr=> ?_,fun getS gS _ hat=> ?_⟩
   ·cases k with
    |zero=>
     simp only[Nu,Option.some.injEq]at hy hi
     subst hy;subst hi
     exact⟨e,_,rfl,hrep,a,n,c,hsl⟩
    |succ k=>simp at hy
   ·simp only[AV.roots,Nt]at hr;subst hr;right;simp
   ·obtain⟨h1,h2⟩:=hat 0 _ _ rfl rfl
    rw[ae]
    refine⟨⟨a,n,c,hsl⟩,fun t e' ht he=> ?_⟩
    have:(gS b).H []=x:=by
     have h2:gS b=_:=h2
     rw[h2]
     rfl
    exact this.symm
 | .pv r c,x,b,ok,v',rs,h,hok,hx=>by
  rw[dP]at h
  split at h
  ·next i hi=>
   simp only[Prod.mk.injEq]at h;obtain⟨_,rfl,rfl⟩:=h
   have hlt:=(Nv.1 (mY L 0 r i hi).2).1
   refine⟨[],.nil,fun r' hr=> ?_,fun getS gS hc _=> ?_⟩
   ·simp only[AV.roots,Nt]at hr;subst hr;left;omega
   ·rw[ae]at hx⊢
    refine⟨hx.1,fun hv=> ?_⟩
    obtain⟨h1,h2⟩:=(hc r i hi).2 hv
    rw[h2];exact hx.2 h1
  ·simp only[Prod.mk.injEq]at h;obtain⟨rfl,_⟩:=h;exact(aY hok).elim
 | .fn f p q,x,b,ok,v',rs,h,hok,hx=>by
  rw[dP]at h
  generalize h1:iX getK L p b=s1 at h
  obtain⟨ok1,p',r1⟩:=s1
  simp only at h
  generalize h2:iX getK L q (b+r1.length)=s2 at h
  obtain⟨ok2,q',r2⟩:=s2
  simp only[Prod.mk.injEq]at h
  obtain⟨rfl,rfl,rfl⟩:=h
  obtain⟨k1,k2⟩:=aJ.1 hok
  rw[ae]at hx
  obtain⟨vs,ws,rfl,hp,hq⟩:=hx
  obtain⟨i1,o1,b1,a1⟩:=pk hR hB hG p _ b ok1 p' r1 h1 k1 hp
  obtain⟨i2,o2,b2,a2⟩:=pk hR hB hG q _ _ ok2 q' r2 h2 k2 hq
  refine⟨i1++i2,o1.app o2,fun r hr=> ?_,fun getS gS hc hat=> ?_⟩
  ·simp only[AV.roots,Md]at hr
   simp only[Mb]
   rcases hr with hr|hr
   ·rcases b1 r hr with h|h
    ·exact .inl h
    ·exact .inr ⟨h.1,by omega⟩
   ·rcases b2 r hr with h|h
    ·exact .inl h
    ·exact .inr ⟨by omega,by omega⟩
  ·rw[ae]
   exact⟨vs,ws,rfl,a1 getS gS hc (hat.left o1.1),a2 getS gS hc (hat.right o1.1)⟩
 | .agg cs,x,b,ok,v',rs,h,hok,hx=>by
  rw[dP]at h
  generalize h1:iX getK L cs b=s1 at h
  obtain⟨ok1,p',r1⟩:=s1
  simp only[Prod.mk.injEq]at h
  obtain⟨rfl,rfl,rfl⟩:=h
  rw[ae]at hx
  obtain⟨vs,rfl,hone,hp⟩:=hx
  obtain⟨i1,o1,b1,a1⟩:=pk hR hB hG cs _ b ok1 p' r1 h1 hok hp
  refine⟨i1,o1,fun r hr=>b1 r (by simpa[AV.roots]using hr),fun getS gS hc hat=> ?_⟩
  rw[ae]
  exact⟨vs,rfl,hone,a1 getS gS hc hat⟩
theorem pk{getK:Get}{wb:World}{L:List Nat}{get:Get}(hR: ∀r,bw w0 wb getK g r)(hB:Seen w0 wb)(hG: ∀r t,du (getK r)=some t→du (get r)=some t):
  ∀(vs:List AV) (xs:List Value) (b:Nat) (ok:List Tst) (vs':List AV) (rs:List aB),iX getK L vs b=(ok,vs',rs)→bM ok→aj get g vs xs→
   ∃infs,tf wb rs infs∧(∀r∈AV.ag vs',r<L.length∨(b≤r∧r<b+rs.length))∧ ∀getS gS,Hu get g L getS gS→At getS gS b rs infs→aj getS gS vs' xs
 | [],xs,b,ok,vs',rs,h,_,hx=>by
  rw[iX]at h;simp only[Prod.mk.injEq]at h;obtain⟨_,rfl,rfl⟩:=h
  exact⟨[],.nil,fun r hr=>by simp[AV.ag]at hr,fun _ _ _ _=>by rw[aj]at hx⊢;exact hx⟩
 |v::vs,xs,b,ok,vs',rs,h,hok,hx=>by
  rw[iX]at h
  generalize h1:dP getK L v b=s1 at h
  obtain⟨ok1,p',r1⟩:=s1
  simp only at h
  generalize h2:iX getK L vs (b+r1.length)=s2 at h
  obtain⟨ok2,q',r2⟩:=s2
  simp only[Prod.mk.injEq]at h
  obtain⟨rfl,rfl,rfl⟩:=h
  obtain⟨k1,k2⟩:=aJ.1 hok
  rw[aj]at hx
  obtain⟨x,xs',rfl,hp,hq⟩:=hx
  obtain⟨i1,o1,b1,a1⟩:=ET hR hB hG v x b ok1 p' r1 h1 k1 hp
  obtain⟨i2,o2,b2,a2⟩:=pk hR hB hG vs xs' _ ok2 q' r2 h2 k2 hq
  refine⟨i1++i2,o1.app o2,fun r hr=> ?_,fun getS gS hc hat=> ?_⟩
  ·simp only[AV.ag,Md]at hr
   simp only[Mb]
   rcases hr with hr|hr
   ·rcases b1 r hr with h|h
    ·exact .inl h
    ·exact .inr ⟨h.1,by omega⟩
   ·rcases b2 r hr with h|h
    ·exact .inl h
    ·exact .inr ⟨by omega,by omega⟩
  ·rw[aj]
   exact⟨x,xs',rfl,a1 getS gS hc (hat.left o1.1),a2 getS gS hc (hat.right o1.1)⟩
end
end
end
end Go.Am
end
section
/- Soundness: the part of a state that a call sees stands in the relation. -/
namespace Go.Am
noncomputable section
attribute [local instance] D.real
section
variable {w0 : cP} {w w' : World} {st st' : St} {g g' : bm} {born born' : Nat → Prop} {acts : List Act} {a : Act}
theorem vh{getK:Get}{wb:World}{L:List Nat}(R:Rel w0 st g born acts w)(hR: ∀r,bw w0 wb getK g r)(hB:Seen w0 wb)(hG: ∀r t,du (getK r)=some t→du (st.get r)=some t):
  ∀(V:List Nat) (b:Nat) (ok:List Tst) (vr rs:List aB),jb st.get getK L V b=(ok,vr,rs)→bM ok→
   ∃infs,tf wb rs infs∧vr.length=V.length∧ ∀(i r:Nat),V[i]?=some r→ ∃cs cs0 arr te,vr[i]?=some (.var cs)∧st.get r= .var cs0∧cs.length=cs0.length∧
    (∀x∈AV.ag cs,x<L.length∨(b≤x∧x<b+rs.length))∧w.heap[(g r).b]?=some (.cells arr te (0,0))∧(∀x∈arr.toList,x.oneCell'=true)∧aj st.get g cs0 arr.toList∧
    ∀getS gS,Hu st.get g L getS gS→At getS gS b rs infs→aj getS gS cs arr.toList
 | [],b,ok,vr,rs,h,_=>by
  simp only[jb,Prod.mk.injEq]at h;obtain⟨_,rfl,rfl⟩:=h
  exact⟨[],.nil,rfl,fun i r h=>by simp at h⟩
 |r::V,b,ok,vr,rs,h,hok=>by
  unfold jb at h
  generalize h1:iX getK L (bD st.get r) b=s1 at h
  obtain⟨ok1,cs,r1⟩:=s1
  simp only at h
  generalize h2:jb st.get getK L V (b+r1.length)=s2 at h
  obtain⟨ok2,vr2,r2⟩:=s2
  simp only[Prod.mk.injEq]at h
  obtain⟨rfl,rfl,rfl⟩:=h
  obtain⟨k0,k⟩:=af.1 hok
  obtain⟨k1,k2⟩:=aJ.1 k
  have hroot:=R.roots r
  unfold bw at hroot
  unfold bD at h1
  cases hg:st.get r with
  |var cs0=>
   rw[hg]at hroot h1
   obtain⟨arr,te,q1,q2,q3⟩:=hroot
   obtain⟨i1,o1,b1,a1⟩:=pk hR hB hG cs0 _ b ok1 cs r1 h1 k1 q3
   obtain⟨i2,o2,l2,a2⟩:=vh R hR hB hG V _ ok2 vr2 r2 h2 k2
   have hlen:cs.length=cs0.length:=by
    have e: ∀(vs:List AV) (b:Nat) (ok:List Tst) (vs':List AV) (rs:List aB),iX getK L vs b=(ok,vs',rs)→vs'.length=vs.length:=by
     intro vs
     induction vs with
     |nil=>intro b ok vs' rs h;rw[iX]at h;simp only[Prod.mk.injEq]at h;obtain⟨_,rfl,_⟩:=h;rfl
     |cons v vs ih=>
      intro b ok vs' rs h
      rw[iX]at h
      generalize dP getK L v b=s1 at h
      obtain⟨ok1,p',r1⟩:=s1
      simp only at h
      generalize h2:iX getK L vs (b+r1.length)=s2 at h
      obtain⟨ok2,q',r2⟩:=s2
      simp only[Prod.mk.injEq]at h
      obtain⟨_,rfl,_⟩:=h
      simp[ih _ _ _ _ h2]
    exact e _ _ _ _ _ h1
   refine⟨i1++i2,o1.app o2,by simp[l2],fun i r' hi=> ?_⟩
   cases i with
   |zero=>
    simp only[Nu,Option.some.injEq]at hi
    subst hi
    refine⟨cs,cs0,arr,te,rfl,hg,hlen,fun x hx=> ?_,q1,q2,q3,fun getS gS hc hat=>a1 getS gS hc (hat.left o1.1)⟩
    rcases b1 x hx with h|h
    ·exact .inl h
    ·right;simp only[Mb];omega
   |succ i=>
    obtain⟨cs2,cs20,arr2,te2,p1,p2,p3,p4,p5,p6,p7,p8⟩:=a2 i r' (by simpa using hi)
    refine⟨cs2,cs20,arr2,te2,by simpa using p1,p2,p3,fun x hx=> ?_,p5,p6,p7,fun getS gS hc hat=>p8 getS gS hc (hat.right o1.1)⟩
    rcases p4 x hx with h|h
    ·exact .inl h
    ·right;simp only[Mb];omega
  |dead=>rw[hg]at k0;cases k0
  |row=>rw[hg]at k0;cases k0
  |pend=>rw[hg]at k0;cases k0
  |half=>rw[hg]at k0;cases k0
  |sh=>rw[hg]at k0;cases k0
def It(getK:Get)(L:List Nat)(o c:AV):Prop:= ∃b ok rs,dP getK L o b=(ok,c,rs)∧bM ok∧L.length≤b
def Di(getK:Get)(L:List Nat)(os cs:List AV):Prop:=cs.length=os.length∧ ∀(j:Nat) (o c:AV),os[j]?=some o→cs[j]?=some c→It getK L o c
theorem Di.app{getK:Get}{L:List Nat}{a b c d:List AV}(h:Di getK L a b)(k:Di getK L c d):Di getK L (a++c) (b++d):=by
 refine⟨by simp[h.1,k.1],fun j o x ho hx=> ?_⟩
 rcases Nh j a.length with hj|hj
 ·rw[Mq hj]at ho
  rw[Mq (by rw[h.1];exact hj)]at hx
  exact h.2 j o x ho hx
 ·rw[Mr hj]at ho
  rw[Mr (by rw[h.1];exact hj),h.1]at hx
  exact k.2 _ o x ho hx
theorem BX{getK:Get}{L:List Nat}: ∀(vs:List AV) (b:Nat) (ok:List Tst) (vs':List AV) (rs:List aB),iX getK L vs b=(ok,vs',rs)→bM ok→L.length≤b→Di getK L vs vs'
 | [],b,ok,vs',rs,h,_,_=>by
  rw[iX]at h;simp only[Prod.mk.injEq]at h;obtain⟨_,rfl,_⟩:=h
  exact⟨rfl,fun j o c h=>by simp at h⟩
 |v::vs,b,ok,vs',rs,h,hok,hb=>by
  rw[iX]at h
  generalize h1:dP getK L v b=s1 at h
  obtain⟨ok1,p',r1⟩:=s1
  simp only at h
  generalize h2:iX getK L vs (b+r1.length)=s2 at h
  obtain⟨ok2,q',r2⟩:=s2
  simp only[Prod.mk.injEq]at h
  obtain⟨rfl,rfl,rfl⟩:=h
  obtain⟨k1,k2⟩:=aJ.1 hok
  obtain⟨i1,i2⟩:=BX vs _ ok2 q' r2 h2 k2 (by omega)
  refine⟨by simp[i1],fun j o c ho hc=> ?_⟩
  cases j with
  |zero=>
   simp only[Nu,Option.some.injEq]at ho hc
   subst ho;subst hc
   exact⟨b,ok1,r1,h1,k1,hb⟩
  |succ j=>exact i2 j o c (by simpa using ho) (by simpa using hc)
theorem vt{getK get:Get}{L:List Nat}: ∀(V:List Nat) (b:Nat) (ok:List Tst) (vr rs:List aB),jb get getK L V b=(ok,vr,rs)→bM ok→L.length≤b→Di getK L (V.flatMap (bD get)) (vr.flatMap fO)
 | [],b,ok,vr,rs,h,_,_=>by
  simp only[jb,Prod.mk.injEq]at h;obtain⟨_,rfl,rfl⟩:=h
  exact⟨rfl,fun j o c h=>by simp at h⟩
 |r::V,b,ok,vr,rs,h,hok,hb=>by
  unfold jb at h
  generalize h1:iX getK L (bD get r) b=s1 at h
  obtain⟨ok1,cs,r1⟩:=s1
  simp only at h
  generalize h2:jb get getK L V (b+r1.length)=s2 at h
  obtain⟨ok2,vr2,r2⟩:=s2
  simp only[Prod.mk.injEq]at h
  obtain⟨rfl,rfl,rfl⟩:=h
  obtain⟨k0,k⟩:=af.1 hok
  obtain⟨k1,k2⟩:=aJ.1 k
  simp only[NO]
  exact(BX _ _ _ _ _ h1 k1 hb).app (vt V _ ok2 vr2 r2 h2 k2 (by omega))
theorem BQ{getS:Get}{gS:bm}: ∀(V:List Nat) (vr:List aB) (f:Nat→List AV),vr.length=V.length→
  (∀(i r:Nat),V[i]?=some r→ ∃cs arr te,vr[i]?=some (.var cs)∧w.heap[(g r).b]?=some (.cells arr te (0,0))∧aj st.get g (f r) arr.toList∧aj getS gS cs arr.toList)→
  ∃vals,aj st.get g (V.flatMap f) vals∧aj getS gS (vr.flatMap fO) vals
 | [],vr,f,hl,_=>by
  cases vr with
  |nil=>exact⟨[],by simp[aj],by simp[aj]⟩
  |cons=>simp at hl
 |r::V,vr,f,hl,h=>by
  cases vr with
  |nil=>simp at hl
  |cons y vr=>
   obtain⟨cs,arr,te,p1,p2,p3,p4⟩:=h 0 r rfl
   simp only[Nu,Option.some.injEq]at p1
   subst p1
   obtain⟨vals,q1,q2⟩:=BQ V vr f (by simpa using hl) fun i r' hi=>by
    obtain⟨cs,arr,te,p1,p2,p3,p4⟩:=h (i+1) r' (by simpa using hi)
    exact⟨cs,arr,te,by simpa using p1,p2,p3,p4⟩
   exact⟨arr.toList++vals,by simp only[NO];exact fk p3 q1,by simp only[NO];exact fk p4 q2⟩
theorem kZ(nV nD n m i:Nat)(hn:nV+nD≤n):(nf nV nD n m).getD i .undef=
  if i<nV then .pv i 0 else if i<nV+nD then .sl i [] none else if i<n then .undef else if i<n+m then .sl i [] none else .undef:=by
 unfold nf
 simp only[Mk]
 by_cases h1:i<nV
 ·rw[Mq (by simpa using h1)]
  simp[h1]
 ·rw[Mr (by simpa using Oa h1)]
  simp only[N2,Lw,h1,if_false]
  by_cases h2:i<nV+nD
  ·rw[Mq (by simp;omega)]
   have:i-nV<nD:=by omega
   have e:nV+(i-nV)=i:=by omega
   simp[h2,this,e]
  ·rw[Mr (by simp;omega)]
   simp only[N2,Lw,h2,if_false]
   by_cases h3:i<n
   ·rw[Mq (by simp;omega)]
    have:i-nV-nD<n-nV-nD:=by omega
    simp[h3,this]
   ·rw[Mr (by simp;omega)]
    simp only[List.length_replicate,h3,if_false]
    by_cases h4:i<n+m
    ·have e1:i-nV-nD-(n-nV-nD)<m:=by omega
     have e2:n+(i-nV-nD-(n-nV-nD))=i:=by omega
     simp[h4,e1,e2]
    ·have e1: ¬i-nV-nD-(n-nV-nD)<m:=by omega
     simp[h4,e1]
theorem A0(nV nD n m:Nat)(hn:nV+nD≤n):(nf nV nD n m).length=n+m:=by
 simp[nf];omega
def n6(gS:bm)(v:AV)(i:Nat):Value:=match v with
 | .pv _ _=> .pointer (some ⟨(gS i).b,0,none⟩)
 | .sl _ _ _=>(gS i).H []
 |_=>Go.undef
theorem q9{m3:Bool}{get:Get}{v:AV}{r:Nat}(h:r∈tA m3 get v): ∃t xs,get r= .row true t xs:=by
 unfold tA at h
 split at h
 ·next r'=>
  cases m3 with
  |false=>simp at h
  |true=>
   simp only[cond_true]at h
   split at h
   ·next t xs e=>simp only[Nt]at h;subst h;exact⟨t,xs,e⟩
   ·cases h
 ·cases h
structure Part (w : World) (st : St) (g : bm) (ls : cq) (stS : St) (gS : bm) (actH : Act) : Prop where
  gs : ∀ i, i < ls.all.length → gS i = g (ls.all.getD i 0)
  act : ∀ i, actH.tmps.getD i Go.undef = if i < stS.rs.length then n6 gS ((nf ls.lv.length ls.ld.length ls.all.length (stS.rs.length - ls.all.length)).getD i .undef) i else Go.undef
  len : ls.all.length ≤ stS.rs.length
  row : ∀ i, ls.lv.length ≤ i → i < ls.all.length → stS.get i = st.get (ls.all.getD i 0) ∧ ∃ t xs, stS.get i = .row true t xs
  ro : ∀ i, ls.all.length ≤ i → i < stS.rs.length → (∃ e ys, stS.get i = .row false e ys) ∧ ∃ a n c, (gS i).H [] = .slice a n c
  sub : Di (st.bz (fj ls.all)).get ls.all (ls.lv.flatMap (bD st.get)) ((stS.rs.take ls.lv.length).flatMap fO)
  flat : ∃ vals, aj st.get g (ls.lv.flatMap (bD st.get)) vals ∧ aj stS.get gS ((stS.rs.take ls.lv.length).flatMap fO) vals
  var : ∀ (i r : Nat), ls.lv[i]? = some r → ∃ cs cs0 arr te, stS.rs[i]? = some (.var cs) ∧ st.get r = .var cs0 ∧ cs.length = cs0.length ∧ w.heap[(g r).b]? = some (.cells arr te (0, 0)) ∧ aj st.get g cs0 arr.toList ∧ aj stS.get gS cs arr.toList
theorem xc{m3:Bool}{vs:List AV}{us:List Value}{ls:cq}{ok:List Tst}{stS:St}(R:Rel w0 st g born acts w)(hq: ∀r∈ls.all,∀j r' p t xs,st.get j= .pend r' p t xs→r'≠r)
  (hn:ls.all.Nodup) (hD: ∀r∈ls.ld++ls.ln,∃t xs,st.get r= .row true t xs) (hA:aj st.get g vs us) (h:lO ls st vs=(ok,stS)) (hok:bM ok):
  ∃gS actH,Rel (nz w (mV st.get g ls.all)) ⟨stS.fr.tail,stS.rs⟩ gS (fun r=>r<stS.rs.length) [actH] w∧aj stS.get gS stS.top us∧(∀r∈AV.ag stS.top,r<stS.rs.length)∧Part w st g ls stS gS actH:=by
 have Rb:=FE R hq
 have hgetK:(fun r=>bif ls.all.contains r then aB.dead else st.get r)=(st.bz (fj ls.all)).get:=by
  funext r
  rw[lY]
  by_cases hr:r∈ls.all
  ·simp[hr]
  ·simp[hr]
 have hG: ∀r t,du ((st.bz (fj ls.all)).get r)=some t→du (st.get r)=some t:=by
  intro r t ht
  rw[lY]at ht
  split at ht
  ·simp[du]at ht
  ·exact ht
 unfold lO at h
 rw[hgetK]at h
 generalize h1:iX (st.bz (fj ls.all)).get ls.all vs ls.all.length=s1 at h
 obtain⟨ok1,vsS,roA⟩:=s1
 simp only at h
 generalize h2:jb st.get (st.bz (fj ls.all)).get ls.all ls.lv (ls.all.length+roA.length)=s2 at h
 obtain⟨ok2,vrs,roV⟩:=s2
 simp only[Prod.mk.injEq]at h
 obtain⟨rfl,rfl⟩:=h
 obtain⟨k1,k2⟩:=aJ.1 hok
 obtain⟨iA,oA,bA,aA⟩:=pk Rb.roots (fm Rb.below) hG vs us _ ok1 vsS roA h1 k1 hA
 obtain⟨iV,oV,lV,aV⟩:=vh R Rb.roots (fm Rb.below) hG ls.lv _ ok2 vrs roV h2 k2
 have hall:ls.all.length=ls.lv.length+(ls.ld.length+ls.ln.length):=by simp[cq.all]
 have hrl:(vrs++((ls.ld++ls.ln).map st.get++(roA++roV))).length=ls.all.length+(roA.length+roV.length):=by simp[lV,hall];omega
 generalize hrs:vrs++((ls.ld++ls.ln).map st.get++(roA++roV))=rsS at*
 let gS:bm:=fun i=>if i<ls.all.length then g (ls.all.getD i 0)else(iA++iV).getD (i-ls.all.length) ⟨0,fun _=>Go.undef,fun _=>False⟩
 have hg1: ∀i,i<ls.all.length→gS i=g (ls.all.getD i 0):=fun i hi=>if_pos hi
 have getV: ∀i,i<ls.lv.length→rsS[i]?=vrs[i]?:=fun i hi=>by
  rw[←hrs,Mq (by omega)]
 have getR: ∀i,ls.lv.length≤i→i<ls.all.length→rsS.getD i .dead=st.get (ls.all.getD i 0)∧ls.all.getD i 0∈ls.ld++ls.ln:=fun i h3 h4=>by
  have hlt:i-vrs.length<(ls.ld++ls.ln).length:=by simp;omega
  have e:ls.all.getD i 0=(ls.ld++ls.ln)[i-vrs.length]:=by
   simp only[Mk,cq.all]
   rw[Mr (by omega),←lV,MC hlt];rfl
  refine⟨?_,by rw[e];exact Ns hlt⟩
  rw[e,←hrs]
  simp only[Mk]
  rw[Mr (by omega),Mq (by simpa using hlt),Nz,MC hlt]
  rfl
 have getO: ∀i,ls.all.length≤i→rsS[i]?=(roA++roV)[i-ls.all.length]?:=fun i h3=>by
  rw[←hrs,Mr (by omega),Mr (by simp;omega)]
  congr 1
  simp[hall];omega
 have ros:=oA.app oV
 have hat:At (St.mk [] rsS).get gS ls.all.length (roA++roV) (iA++iV):=by
  intro k x inf hx hi
  refine⟨?_,?_⟩
  ·show rsS.getD (ls.all.length+k) .dead=x
   simp only[Mk]
   rw[getO _ (by omega),Lt,hx];rfl
  ·show(if ls.all.length+k<ls.all.length then _ else _)=inf
   rw[if_neg (by omega),Lt]
   simp only[Mk,hi,Nq]
 have hcorr:Hu st.get g ls.all (St.mk [] rsS).get gS:=by
  intro r i hi
  obtain⟨_,h4⟩:=mY ls.all 0 r i hi
  rw[Oc]at h4
  have hlt:=(Nv.1 h4).1
  have er:ls.all.getD i 0=r:=by simp only[Mk,h4];rfl
  rw[hg1 i hlt,er]
  rcases Nh i ls.lv.length with h5|h5
  ·have e5:ls.lv[i]?=some r:=by
    rw[←h4];simp only[cq.all];rw[Mq h5]
   obtain⟨cs,cs0,arr,te,p1,p2,_⟩:=aV i r e5
   have eg:(St.mk [] rsS).get i= .var cs:=by
    show rsS.getD i .dead=_
    simp only[Mk];rw[getV i h5,p1];rfl
   rw[eg]
   exact⟨fun t ht=>by simp[du]at ht,fun _=>⟨by rw[p2];rfl,rfl⟩⟩
  ·obtain⟨e6,_⟩:=getR i h5 hlt
   have eg:(St.mk [] rsS).get i=st.get r:=by rw[←er];exact e6
   rw[eg]
   exact⟨fun t ht=>⟨ht,fun _=>rfl⟩,fun hv=>⟨hv,rfl⟩⟩
 have hatA:=hat.left oA.1
 have hatV:=hat.right oA.1
 have getro: ∀i,ls.all.length≤i→i<rsS.length→ ∃inf,JD (blank w (mV st.get g ls.all)) (rsS.getD i .dead) inf∧gS i=inf:=by
  intro i h3 h4
  have hlt:i-ls.all.length<(roA++roV).length:=by simp;omega
  have hi:i-ls.all.length<(iA++iV).length:=by rw[ros.1];exact hlt
  have e:=getO i h3
  rw[MC hlt]at e
  refine⟨(iA++iV)[i-ls.all.length],?_,?_⟩
  ·have:rsS.getD i .dead=(roA++roV)[i-ls.all.length]:=by simp only[Mk,e];rfl
   rw[this]
   exact ros.2 _ _ _ (MC hlt) (MC hi)
  ·show(if i<ls.all.length then _ else _)=_
   rw[if_neg (by omega)]
   simp only[Mk,MC hi];rfl
 let hs:=nf ls.lv.length ls.ld.length ls.all.length (roA.length+roV.length)
 have hsl:hs.length=rsS.length:=by rw[hrl];exact A0 _ _ _ _ (by omega)
 let actH:Act:={tmps:=((LV rsS.length).map fun i=>n6 gS (hs.getD i .undef) i).toArray,defers:= []}
 have hact: ∀i,actH.tmps.getD i Go.undef=if i<rsS.length then n6 gS (hs.getD i .undef) i else Go.undef:=by
  intro i
  show(((LV rsS.length).map fun i=>n6 gS (hs.getD i .undef) i).toArray).getD i Go.undef=_
  rw[Array.getD_eq_getD_getElem?]
  simp only[List.getElem?_toArray,Nz,MD]
  by_cases hi:i<rsS.length
  ·simp[hi,MD hi]
  ·rw[MG (by simpa using Oa hi),if_neg hi];rfl
 have hvt:(St.mk [] rsS).rs.take ls.lv.length=vrs:=by
  show rsS.take ls.lv.length=vrs
  rw[←hrs,←lV,List.take_left]
 have hsub:rsS.length-ls.all.length=roA.length+roV.length:=by omega
 refine⟨gS,actH,?_,aA (St.mk [] rsS).get gS hcorr hatA,fun r hr=> ?_,⟨hg1,fun i=>by rw[hact i,hsub],by show ls.all.length≤rsS.length;omega,fun i h3 h4=> ?_,fun i h3 h4=> ?_,?_,?_,fun i r hi=> ?_⟩⟩
 rotate_left
 ·rcases bA r hr with h|h
  ·show r<rsS.length;omega
  ·show r<rsS.length;omega
 ·obtain⟨e6,e7⟩:=getR i h3 h4
  obtain⟨t,xs,e8⟩:=hD _ e7
  exact⟨e6,t,xs,e6.trans e8⟩
 ·obtain⟨inf,⟨e,ys,h5,_,h6⟩,h7⟩:=getro i h3 h4
  exact⟨⟨e,ys,h5⟩,by rw[h7];exact h6⟩
 ·rw[hvt]
  exact vt _ _ _ _ _ h2 k2 (by omega)
 ·rw[hvt]
  refine BQ (w:=w) ls.lv vrs _ lV fun i r hi=> ?_
  obtain⟨cs,cs0,arr,te,p1,p2,p3,p4,p5,p6,p7,p8⟩:=aV i r hi
  exact⟨cs,arr,te,p1,p5,by unfold bD;rw[p2];exact p7,p8 _ gS hcorr hatV⟩
 ·obtain⟨cs,cs0,arr,te,p1,p2,p3,p4,p5,p6,p7,p8⟩:=aV i r hi
  have h5:=(Nv.1 hi).1
  exact⟨cs,cs0,arr,te,by show rsS[i]?=_;rw[getV i h5,p1],p2,p3,p5,p7,p8 _ gS hcorr hatV⟩
 have lget: ∀i,i<ls.lv.length→ ∃r,ls.lv[i]?=some r∧ls.all.getD i 0=r∧r∈ls.all:=fun i hi=>by
  refine⟨ls.lv[i],MC hi,?_,?_⟩
  ·simp only[Mk,cq.all]
   rw[Mq hi,MC hi];rfl
  ·simp only[cq.all,Md];exact .inl (Ns hi)
 have hownS: ∀i b,Own (St.mk [] rsS).get gS i b→i<ls.all.length∧Own st.get g (ls.all.getD i 0) b:=by
  intro i b ho
  rcases Nh i ls.all.length with h3|h3
  ·refine⟨h3,?_⟩
   rcases Nh i ls.lv.length with h5|h5
   ·obtain⟨r,e5,e6,_⟩:=lget i h5
    obtain⟨cs,cs0,arr,te,p1,p2,_⟩:=aV i r e5
    have eg:(St.mk [] rsS).get i= .var cs:=by
     show rsS.getD i .dead=_
     simp only[Mk];rw[getV i h5,p1];rfl
    unfold Own at ho⊢
    rw[eg]at ho
    rw[e6,p2]
    rw[hg1 i h3,e6]at ho
    exact ho
   ·obtain⟨e6,e7⟩:=getR i h5 h3
    obtain⟨t,xs,e8⟩:=hD _ e7
    have eg:(St.mk [] rsS).get i= .row true t xs:=e6.trans e8
    unfold Own at ho⊢
    rw[eg]at ho
    rw[e8]
    rw[hg1 i h3]at ho
    exact ho
  ·exfalso
   rcases Nh i rsS.length with h4|h4
   ·obtain⟨inf,⟨e,ys,h5,_⟩,_⟩:=getro i h3 h4
    have eg:(St.mk [] rsS).get i= .row false e ys:=h5
    unfold Own at ho
    rw[eg]at ho
    exact ho
   ·have eg:(St.mk [] rsS).get i= .dead:=by
     show rsS.getD i .dead=_
     simp only[Mk];rw[MG h4];rfl
    unfold Own at ho
    rw[eg]at ho
    exact ho
 have hmem: ∀i,i<ls.all.length→ls.all.getD i 0∈ls.all:=fun i hi=>by
  simp only[Mk,MC hi];exact Ns hi
 have hinj: ∀i j,i<ls.all.length→j<ls.all.length→i≠j→ls.all.getD i 0≠ls.all.getD j 0:=fun i j hi hj hij e=>by
  simp only[Mk,MC hi,MC hj,Nq]at e
  exact hij (zJ hn e)
 refine⟨⟨rfl,rfl,rfl,by show(blank _ _).heap.size≤_;rw[iC];exact Ng _,fun k hk=>(fG hk.2).symm,fun k o h1 h2=>EA h1 h2⟩,fun i=> ?_,fun i j b hij h3 h4=> ?_,fun i b ho=> ?_,?_,fun f hf r hr=> ?_,fun i x hx=> ?_,fun i hi=> ?_,⟨List.nodup_nil,(fun D h=>by cases h),(fun k o h=>by cases h)⟩⟩
 ·
  show bw _ w (St.mk [] rsS).get gS i
  rcases Nh i ls.all.length with h3|h3
  ·rcases Nh i ls.lv.length with h5|h5
   ·obtain⟨r,e5,e6,_⟩:=lget i h5
    obtain⟨cs,cs0,arr,te,p1,p2,p3,p4,p5,p6,p7,p8⟩:=aV i r e5
    have eg:(St.mk [] rsS).get i= .var cs:=by
     show rsS.getD i .dead=_
     simp only[Mk];rw[getV i h5,p1];rfl
    unfold bw
    rw[eg]
    exact⟨arr,te,by rw[hg1 i h3,e6];exact p5,p6,p8 _ gS hcorr hatV⟩
   ·obtain⟨e6,e7⟩:=getR i h5 h3
    obtain⟨t,xs,e8⟩:=hD _ e7
    have eg:(St.mk [] rsS).get i= .row true t xs:=e6.trans e8
    have hr:=R.roots (ls.all.getD i 0)
    unfold bw at hr⊢
    rw[e8]at hr
    rw[eg]
    simp only[hg1 i h3]
    exact hr
  ·rcases Nh i rsS.length with h4|h4
   ·obtain⟨inf,⟨e,ys,h5,h6,_⟩,h7⟩:=getro i h3 h4
    have eg:(St.mk [] rsS).get i= .row false e ys:=h5
    unfold bw
    rw[eg]
    simp only[h7]
    exact h6
   ·have eg:(St.mk [] rsS).get i= .dead:=by
     show rsS.getD i .dead=_
     simp only[Mk];rw[MG h4];rfl
    unfold bw
    rw[eg];trivial
 ·obtain⟨h5,h6⟩:=hownS i b h3
  obtain⟨h7,h8⟩:=hownS j b h4
  exact R.sep _ _ b (hinj i j h5 h7 hij) h6 h8
 ·obtain⟨h5,h6⟩:=hownS i b ho
  exact fun hk=>hk.2 ⟨_,hmem i h5,h6⟩
 ·
  refine⟨actH,[],rfl,⟨?_,fun i=> ?_,(fun d h=>by cases h)⟩,rfl⟩
  ·show hs.length≤actH.tmps.size
   rw[hsl]
   show rsS.length≤(((LV rsS.length).map _).toArray).size
   simp
  ·show ae (St.mk [] rsS).get gS (hs.getD i .undef) (actH.tmps.getD i Go.undef)
   rw[hact i]
   by_cases hi:i<rsS.length
   ·rw[if_pos hi]
    have hh:=kZ ls.lv.length ls.ld.length ls.all.length (roA.length+roV.length) i (by omega)
    by_cases c1:i<ls.lv.length
    ·rw[if_pos c1]at hh
     rw[show hs.getD i .undef=_ from hh]
     simp only[n6]
     rw[ae]
     exact⟨⟨_,rfl⟩,fun _=>rfl⟩
    ·rw[if_neg c1]at hh
     have row: ∀(H:Path→Value),(∃a n c,H []= .slice a n c)→(gS i).H=H→ae (St.mk [] rsS).get gS (.sl i [] none) ((gS i).H []):=by
      intro H hH e
      rw[ae]
      refine⟨by rw[e];exact hH,fun _ _ _ _=>rfl⟩
     by_cases c2:i<ls.lv.length+ls.ld.length
     ·rw[if_pos c2]at hh
      rw[show hs.getD i .undef=_ from hh]
      simp only[n6]
      obtain⟨e6,e7⟩:=getR i (by omega) (by omega)
      obtain⟨t,xs,e8⟩:=hD _ e7
      have hr:=R.roots (ls.all.getD i 0)
      unfold bw at hr
      rw[e8]at hr
      refine row _ ?_ rfl
      rw[hg1 i (by omega)]
      rcases hr.1 with⟨h0,_⟩|⟨a,cap,h0,_⟩
      ·exact⟨_,_,_,h0⟩
      ·exact⟨_,_,_,h0⟩
     ·rw[if_neg c2]at hh
      by_cases c3:i<ls.all.length
      ·rw[if_pos c3]at hh
       rw[show hs.getD i .undef=_ from hh]
       simp[ae]
      ·rw[if_neg c3]at hh
       by_cases c4:i<ls.all.length+(roA.length+roV.length)
       ·rw[if_pos c4]at hh
        rw[show hs.getD i .undef=_ from hh]
        simp only[n6]
        obtain⟨inf,⟨e,ys,h5,h6,h7⟩,h8⟩:=getro i (by omega) hi
        exact row _ h7 (by rw[h8])
       ·omega
   ·rw[if_neg hi]
    have:hs.getD i .undef= .undef:=by
     simp only[Mk];rw[MG (by omega)];rfl
    rw[this];simp[ae]
 ·have hf:f∈ [hs]:=hf
  simp only[Nt]at hf
  subst hf
  have: ∀l:List AV,(∀v∈l,∀x∈v.roots,x<rsS.length)→ ∀x∈AV.ag l,x<rsS.length:=by
   intro l
   induction l with
   |nil=>intro _ x hx;simp[AV.ag]at hx
   |cons v l ih=>
    intro h x hx
    simp only[AV.ag,Md]at hx
    exact hx.elim (h v Mw x) (ih (fun u hu=>h u (Mo _ hu)) x)
  refine this hs (fun v hv x hx=> ?_) r hr
  obtain⟨i,hi,e⟩:=List.mem_iff_getElem.1 hv
  have hh:=kZ ls.lv.length ls.ld.length ls.all.length (roA.length+roV.length) i (by omega)
  have ev:hs.getD i .undef=v:=by simp only[Mk,MC hi,e];rfl
  rw[show(nf ls.lv.length ls.ld.length ls.all.length (roA.length+roV.length)).getD i .undef=v from ev]at hh
  have:x=i:=by
   rw[hh]at hx
   split at hx
   ·simpa[AV.roots]using hx
   ·split at hx
    ·simpa[AV.roots]using hx
    ·split at hx
     ·simp[AV.roots]at hx
     ·split at hx
      ·simpa[AV.roots]using hx
      ·simp[AV.roots]at hx
  omega
 ·have hx:x∈((St.mk [] rsS).get i).roots:=hx
  show x<rsS.length
  rcases Nh i ls.all.length with h3|h3
  ·rcases Nh i ls.lv.length with h5|h5
   ·obtain⟨r,e5,e6,_⟩:=lget i h5
    obtain⟨cs,cs0,arr,te,p1,p2,p3,p4,p5,p6,p7,p8⟩:=aV i r e5
    have eg:(St.mk [] rsS).get i= .var cs:=by
     show rsS.getD i .dead=_
     simp only[Mk];rw[getV i h5,p1];rfl
    rw[eg]at hx
    rcases p4 x hx with h|h<;>omega
   ·obtain⟨e6,e7⟩:=getR i h5 h3
    obtain⟨t,xs,e8⟩:=hD _ e7
    rw[show(St.mk [] rsS).get i= .row true t xs from e6.trans e8]at hx
    simp[aB.roots]at hx
  ·rcases Nh i rsS.length with h4|h4
   ·obtain⟨inf,⟨e,ys,h5,_⟩,_⟩:=getro i h3 h4
    rw[show(St.mk [] rsS).get i= .row false e ys from h5]at hx
    simp[aB.roots]at hx
   ·have eg:(St.mk [] rsS).get i= .dead:=by
     show rsS.getD i .dead=_
     simp only[Mk];rw[MG h4];rfl
    rw[eg]at hx
    simp[aB.roots]at hx
 ·rcases Nh i rsS.length with h4|h4
  ·exact h4
  ·exfalso
   refine hi ?_
   show rsS.getD i .dead=_
   simp only[Mk];rw[MG h4];rfl
end
end
end Go.Am
end
section
/- Soundness: what comes back of a part. -/
namespace Go.Am
noncomputable section
attribute [local instance] D.real
section
variable {w0 : cP} {w w' : World} {st st' : St} {g g' : bm} {born born' : Nat → Prop} {acts : List Act} {a : Act} {get : Get}
theorem yq: ∀(t:Ty) (vs:List AV) (ok:List Tst) (l:List Nat) (rest:List AV),gives get t vs=(ok,l,rest)→bM ok→ ∀r∈l,∃t xs,get r= .row true t xs:=by
 intro t
 induction t with
 |int k=>intro vs ok l rest h _ r hr;simp only[gives,Prod.mk.injEq]at h;obtain⟨_,rfl,_⟩:=h;cases hr
 |bool=>intro vs ok l rest h _ r hr;simp only[gives,Prod.mk.injEq]at h;obtain⟨_,rfl,_⟩:=h;cases hr
 |str=>intro vs ok l rest h _ r hr;simp only[gives,Prod.mk.injEq]at h;obtain⟨_,rfl,_⟩:=h;cases hr
 |unit=>intro vs ok l rest h _ r hr;simp only[gives,Prod.mk.injEq]at h;obtain⟨_,rfl,_⟩:=h;cases hr
 |pair a b iha ihb=>
  intro vs ok l rest h hok r hr
  unfold gives at h
  split at h
  ·unfold tj at h
   split at h
   ·next t xs hg=>
    simp only[Prod.mk.injEq]at h;obtain⟨_,rfl,_⟩:=h
    simp only[Nt]at hr
    subst hr;exact⟨_,_,hg⟩
   ·simp only[Prod.mk.injEq]at h;obtain⟨_,rfl,_⟩:=h;cases hr
  generalize ha:gives get a vs=ra at h
  obtain⟨ok1,l1,rest1⟩:=ra
  simp only at h
  generalize hb:gives get b rest1=rb at h
  obtain⟨ok2,l2,rest2⟩:=rb
  simp only[Prod.mk.injEq]at h
  obtain⟨rfl,rfl,rfl⟩:=h
  obtain⟨k1,k2⟩:=aJ.1 hok
  rcases Md.1 hr with hr|hr
  ·exact iha _ _ _ _ ha k1 r hr
  ·exact ihb _ _ _ _ hb k2 r hr
 |sl e ih=>
  intro vs ok l rest h hok r hr
  unfold gives at h
  split at h
  ·simp only[Prod.mk.injEq]at h;obtain⟨_,rfl,_⟩:=h;cases hr
  ·split at h
   ·next t xs hg=>
    simp only[Prod.mk.injEq]at h;obtain⟨_,rfl,_⟩:=h
    simp only[Nt]at hr
    subst hr;exact⟨_,_,hg⟩
   ·simp only[Prod.mk.injEq]at h;obtain⟨_,rfl,_⟩:=h;cases hr
  ·simp only[Prod.mk.injEq]at h;obtain⟨_,rfl,_⟩:=h;cases hr
def sb(w:World)(get:Get)(g:bm)(l:List Nat)(v:Value)(H:Path→Value):Cell→Prop
 |⟨.sl e,xs⟩=>H []=v∧cf w true e xs H∧(∀b,bu e xs H b→ ∃r∈l,Own get g r b)∧(l.Nodup→dH e xs H)
 |⟨.int k,n⟩=>v= .int k n
 |⟨.bool,b⟩=>v= .bool b
 |⟨.str,s⟩=>v= .string s
 |⟨.unit,_⟩=>True
 |⟨.pair _ _,_⟩=>False
def Ty.one:Ty→Bool
 | .pair _ _=>false
 |_=>true
theorem BZ(n:Nat)(rs:List aB)(c:AV):(gC n rs c).one=true:=by
 unfold gC
 split<;>try rfl
 next i=>
  cases Nat.blt i n with
  |false=>rfl
  |true=>simp only[cond_true];split<;>rfl
theorem D5(hR: ∀r,bw w0 w get g r)(hS: ∀r r' b,r≠r'→Own get g r b→Own get g r' b→False){t:Ty}{v:AV}{x:Value}{ok:List Tst}{d:den t}{l:List Nat}(ht:t.one=true)
  (hv:ae get g v x) (h:rd1 get t v=(ok,d,l)) (hok:bM ok): ∃H,sb w get g l x H ⟨t,d⟩∧ ∀r∈l,∃t xs,get r= .row true t xs:=by
 have hA:aj get g [v] [x]:=by rw[aj];exact⟨x,[],rfl,hv,by rw[aj]⟩
 have main: ∀(t:Ty) (d:den t),(match cF get t [v]with
   |(ok,x,_)=>match gives get t [v]with
    |(ok',l,_)=>(ok++ok',x,l))=(ok,d,l)→
   Rep w true t d (Gof g [v] [x]) 0 (fun k=> [x][k]?)∧(∀b,Blk t d (Gof g [v] [x]) 0 b→ ∃r∈l,Own get g r b)∧(l.Nodup→Sep t d (Gof g [v] [x]) 0)∧ ∀r∈l,∃t xs,get r= .row true t xs:=by
  intro t d h
  generalize h1:cF get t [v]=r1 at h
  obtain⟨ok1,d1,rest1⟩:=r1
  simp only at h
  generalize h2:gives get t [v]=r2 at h
  obtain⟨ok2,l2,rest2⟩:=r2
  simp only[Prod.mk.injEq]at h
  obtain⟨rfl,rfl,rfl⟩:=h
  obtain⟨k1,k2⟩:=aJ.1 hok
  obtain⟨q1,_,q3,q4,_⟩:=nq hR hS hA t 0 ok1 ok2 d1 l2 rest1 rest2 h1 h2 k1 k2
  exact⟨q1,q3,q4,yq t _ _ _ _ h2 k2⟩
 cases t with
 |pair=>cases ht
 |unit=>
  simp only[rd1,Prod.mk.injEq]at h
  obtain⟨_,_,rfl⟩:=h
  exact⟨fun _=>Go.undef,trivial,fun r h=>by cases h⟩
 |int k=>obtain⟨h1,_,_,h4⟩:=main (.int k) d h;exact⟨fun _=>Go.undef,by have h1: [x][0]?=some (.int k d):=h1;simpa[sb]using h1,h4⟩
 |bool=>obtain⟨h1,_,_,h4⟩:=main .bool d h;exact⟨fun _=>Go.undef,by have h1: [x][0]?=some (.bool d):=h1;simpa[sb]using h1,h4⟩
 |str=>obtain⟨h1,_,_,h4⟩:=main .str d h;exact⟨fun _=>Go.undef,by have h1: [x][0]?=some (.string d):=h1;simpa[sb]using h1,h4⟩
 |sl e=>
  obtain⟨h1,h2,h3,h4⟩:=main (.sl e) d h
  refine⟨Gof g [v] [x] 0,⟨?_,h1.2,h2,h3⟩,h4⟩
  have:=h1.1
  simp only[Nu,Option.some.injEq]at this
  exact this.symm
theorem zl(hR: ∀r,bw w0 w get g r)(hS: ∀r r' b,r≠r'→Own get g r b→Own get g r' b→False): ∀(tys:List Ty) (fin:List AV) (vals:List Value) (ok:List Tst) (x:den (Ty.all tys)) (l:List Nat),
  (∀t∈tys,t.one=true)→aj get g fin vals→tys.length=fin.length→vi get tys fin=(ok,x,l)→bM ok→
  ∃(ll:List (List Nat)),l=ll.flatten∧(jZ tys x).length=tys.length∧(jZ tys x).map (·.1)=tys∧(∀r∈l,∃t xs,get r= .row true t xs)∧
   ∀(j:Nat) (v:Value),vals[j]?=some v→ ∃c lj H,(jZ tys x)[j]?=some c∧ll[j]?=some lj∧sb w get g lj v H c
 | [],fin,vals,ok,x,l,_,hA,hl,h,_=>by
  simp only[vi,Prod.mk.injEq]at h
  obtain⟨_,_,rfl⟩:=h
  have:fin= []:=by cases fin with
   |nil=>rfl
   |cons=>simp at hl
  subst this
  rw[aj]at hA
  subst hA
  exact⟨[],rfl,rfl,rfl,fun r h=>(by cases h),fun j v h=>(by simp at h)⟩
 | [t],fin,vals,ok,x,l,ho,hA,hl,h,hok=>by
  cases fin with
  |nil=>simp at hl
  |cons f fs=>
   have:fs= []:=by cases fs with
    |nil=>rfl
    |cons=>simp at hl
   subst this
   rw[aj]at hA
   obtain⟨v,vs,rfl,hv,hA⟩:=hA
   rw[aj]at hA
   subst hA
   obtain⟨H,h1,h2⟩:=D5 hR hS (ho t (by simp)) hv h hok
   refine⟨[l],by simp,rfl,rfl,h2,fun j v' hj=> ?_⟩
   cases j with
   |zero=>simp only[Nu,Option.some.injEq]at hj;subst hj;exact⟨⟨t,x⟩,l,H,rfl,rfl,h1⟩
   |succ j=>simp at hj
 |t::u::r,fin,vals,ok,x,l,ho,hA,hl,h,hok=>by
  cases fin with
  |nil=>simp at hl
  |cons f fs=>
   unfold vi at h
   generalize h1:rd1 get t ((f::fs).headD .undef)=r1 at h
   obtain⟨ok1,x1,l1⟩:=r1
   simp only at h
   generalize h2:vi get (u::r) (f::fs).tail=r2 at h
   obtain⟨ok2,x2,l2⟩:=r2
   simp only[Prod.mk.injEq]at h
   obtain⟨rfl,rfl,rfl⟩:=h
   obtain⟨k1,k2⟩:=aJ.1 hok
   rw[aj]at hA
   obtain⟨v,vs,rfl,hv,hA⟩:=hA
   obtain⟨H,q1,q2⟩:=D5 hR hS (ho t (by simp)) hv h1 k1
   obtain⟨ll,p1,p2,p3,p4,p5⟩:=zl hR hS (u::r) fs vs ok2 x2 l2 (fun t' h'=>ho t' (Mo _ h')) hA (by simpa using hl) h2 k2
   refine⟨l1::ll,by simp[p1],?_,?_,fun r' hr=> ?_,fun j v' hj=> ?_⟩
   ·show(jZ (u::r) x2).length+1=_;rw[p2];rfl
   ·show t::(jZ (u::r) x2).map (·.1)=_;rw[p3]
   ·exact(Md.1 hr).elim (q2 r') (p4 r')
   ·cases j with
    |zero=>simp only[Nu,Option.some.injEq]at hj;subst hj;exact⟨⟨t,x1⟩,l1,H,rfl,rfl,q1⟩
    |succ j=>
     obtain⟨c,lj,H',s1,s2,s3⟩:=p5 j v' (by simpa using hj)
     exact⟨c,lj,H',by show(⟨t,x1⟩::jZ (u::r) x2)[j+1]?=some c;simpa using s1,by simpa using s2,s3⟩
theorem xn(hR: ∀r,bw w0 w' get g' r): ∀(V:List Nat) (hl:List AV) (rl:List aB) (ok:List Tst) (fin:List AV),varsOf get hl rl=(ok,fin)→bM ok→V.length=rl.length→
  (∀(i r:Nat),V[i]?=some r→ae get g' (hl.getD i .undef) (.pointer (some ⟨(g r).b,0,none⟩)))→
  ∃arrs:List (Array Value),arrs.length=V.length∧aj get g' fin (arrs.flatMap (·.toList))∧fin.length=(rl.flatMap fO).length∧ ∀(i r:Nat),V[i]?=some r→
   ∃arr te x y cs,arrs[i]?=some arr∧rl[i]?=some y∧w'.heap[(g r).b]?=some (.cells arr te (0,0))∧(∀v∈arr.toList,v.oneCell'=true)∧get x= .var cs∧(g' x).b=(g r).b∧arr.size=(fO y).length
 | [],hl,rl,ok,fin,h,hok,hlen,_=>by
  cases rl with
  |cons=>simp at hlen
  |nil=>
   cases hl with
   |nil=>simp only[varsOf,Prod.mk.injEq]at h;obtain⟨_,rfl⟩:=h;exact⟨[],rfl,by simp[aj],rfl,fun i r h=>by simp at h⟩
   |cons=>simp only[varsOf,Prod.mk.injEq]at h;obtain⟨rfl,_⟩:=h;exact(aY hok).elim
 |r::V,hl,rl,ok,fin,h,hok,hlen,hv=>by
  cases rl with
  |nil=>simp at hlen
  |cons y rl=>
   cases hl with
   |nil=>simp only[varsOf,Prod.mk.injEq]at h;obtain⟨rfl,_⟩:=h;exact(aY hok).elim
   |cons u hl=>
    unfold varsOf at h
    have hu:=hv 0 r rfl
    split at h
    ·next x=>
     have hu:ae get g' (.pv x 0) (.pointer (some ⟨(g r).b,0,none⟩)):=hu
     have hroot:=hR x
     unfold bw at hroot
     split at h
     ·next cs' hg=>
      rw[hg]at hroot
      obtain⟨arr,te,q1,q2,q3⟩:=hroot
      generalize h2:varsOf get hl rl=r2 at h
      obtain⟨ok2,fin2⟩:=r2
      simp only[Prod.mk.injEq]at h
      obtain⟨rfl,rfl⟩:=h
      obtain⟨k1,k2⟩:=af.1 hok
      obtain⟨arrs,p1,p2,p2',p3⟩:=xn hR V hl rl ok2 fin2 h2 k2 (by simpa using hlen) fun i r' hi=>hv (i+1) r' (by simpa using hi)
      rw[ae]at hu
      have hb:=hu.2 (by rw[hg];rfl)
      injection hb with hb
      injection hb with hb
      injection hb with hb _ _
      have hcl:cs'.length=(fO y).length:=by simpa[Tst.val]using k1
      have hsz:arr.size=cs'.length:=by have:=fC q3;simpa using this
      refine⟨arr::arrs,by simp[p1],?_,by simp[p2',hcl],fun i r' hi=> ?_⟩
      ·simp only[NO];exact fk q3 p2
      ·cases i with
       |zero=>
        simp only[Nu,Option.some.injEq]at hi
        subst hi
        exact⟨arr,te,x,y,cs',rfl,rfl,by rw[hb];exact q1,q2,hg,hb.symm,by omega⟩
       |succ i=>
        obtain⟨arr',te',x',y',cs'',s1,s2,s3,s4,s5,s6,s7⟩:=p3 i r' (by simpa using hi)
        exact⟨arr',te',x',y',cs'',by simpa using s1,by simpa using s2,s3,s4,s5,s6,s7⟩
     ·simp only[Prod.mk.injEq]at h;obtain⟨rfl,_⟩:=h;exact(aY hok).elim
    ·simp only[Prod.mk.injEq]at h;obtain⟨rfl,_⟩:=h;exact(aY hok).elim
structure HV (getS : Get) (gS : bm) (hv : Nat → Value) : Prop where
  each : ∀ i, (isVar (getS i) = true ∧ hv i = .pointer (some ⟨(gS i).b, 0, none⟩)) ∨ ((du (getS i)).isSome = true ∧ hv i = (gS i).H [] ∧ ∃ a n c, hv i = .slice a n c) ∨ hv i = Go.undef
theorem yT(p:Option Addr):Go.undef≠ .pointer p:=by unfold Go.undef;exact fun h=>by cases h
theorem vX(a:Option Addr)(n c:Nat):Go.undef≠ .slice a n c:=by unfold Go.undef;exact fun h=>by cases h
mutual
theorem Bg{getS:Get}{gS:bm}{n:Nat}{hs:List AV}{hv:Nat→Value}(hH:HV getS gS hv)(hh: ∀i,ae get g' (hs.getD i .undef) (hv i)):
  ∀(c f:AV) (x x':Value),eP get hs n c f=true→ae getS gS c x→ae get g' f x'→x'=x
 | .nilS,f,x,x',h,hx,hx'=>by
  cases f<;>simp only[eP]at h<;>try cases h
  rw[ae]at hx hx'
  rw[hx,hx']
 | .sl i p sub,f,x,x',h,hx,hx'=>by
  cases p with
  |cons q p=>cases f<;>simp[eP]at h
  |nil=>cases sub with
   |some s=>cases f<;>simp[eP]at h
   |none=>cases f with
    |sl r p2 sub2=>cases p2 with
     |cons q p=>simp[eP]at h
     |nil=>cases sub2 with
      |some s=>simp[eP]at h
      |none=>
       simp only[eP,Nc]at h
       obtain⟨⟨_,h1⟩,h2⟩:=h
       have hi:=hh i
       split at h1
       ·next r' e=>
        rw[e]at hi
        have:r'=r:=by simpa using h1
        subst this
        split at h2
        ·next rw_ t xs hg=>
         rw[ae]at hi hx'
         have i1:hv i=(g' r').H []:=hi.2 t t (by rw[hg];rfl) rfl
         have i2:x'=(g' r').H []:=hx'.2 t t (by rw[hg];rfl) rfl
         obtain⟨a,n,c,hsl⟩:=hi.1
         rw[ae]at hx
         rcases hH.each i with⟨_,e2⟩|⟨e1,e2,_⟩|e2
         ·rw[e2]at hsl;cases hsl
         ·obtain⟨t',ht'⟩:=Option.isSome_iff_exists.1 e1
          have:x=(gS i).H []:=hx.2 t' t' ht' rfl
          rw[i2,←i1,e2,this]
         ·rw[e2]at hsl;exact(vX _ _ _ hsl).elim
        ·cases h2
       ·cases h1
    |_=>simp[eP]at h
 | .pv i c,f,x,x',h,hx,hx'=>by
  cases f<;>simp only[eP]at h<;>try cases h
  next r c'=>
   simp only[Nc]at h
   obtain⟨⟨h0,h1⟩,h2⟩:=h
   have hc:c=c':=by simpa using h0
   subst hc
   have hi:=hh i
   split at h1
   ·next r' e=>
    rw[e]at hi
    have:r'=r:=by simpa using h1
    subst this
    split at h2
    ·next cs hg=>
     rw[ae]at hi hx'
     have i1:hv i= .pointer (some ⟨(g' r').b,0,none⟩):=hi.2 (by rw[hg];rfl)
     have i2:=hx'.2 (by rw[hg];rfl)
     rw[ae]at hx
     rcases hH.each i with⟨e1,e2⟩|⟨_,_,a,n,c,e2⟩|e2
     ·rw[hx.2 e1,i2]
      rw[i1]at e2
      injection e2 with e2
      injection e2 with e2
      injection e2 with e2 _ _
      rw[e2]
     ·rw[i1]at e2;cases e2
     ·rw[i1]at e2;exact(yT _ e2.symm).elim
    ·cases h2
   ·cases h1
 | .fn f0 p q,f,x,x',h,hx,hx'=>by
  cases f<;>simp only[eP]at h<;>try cases h
  next f1 p' q'=>
   simp only[Nc]at h
   obtain⟨h0,h1,h2⟩:=h
   have hf:f0=f1:=by simpa using h0
   subst hf
   rw[ae]at hx hx'
   obtain⟨vs,ws,rfl,hp,hq⟩:=hx
   obtain⟨vs',ws',rfl,hp',hq'⟩:=hx'
   have e1:=uQ hH hh p p' _ _ h1 hp hp'
   have e2:=uQ hH hh q q' _ _ h2 hq hq'
   have e1:vs'=vs:=Od.1 e1
   have e2:ws'=ws:=Od.1 e2
   rw[e1,e2]
 | .undef,f,x,x',h,_,_=>by cases f<;>simp[eP]at h
 | .int k n,f,x,x',h,_,_=>by cases f<;>simp[eP]at h
 | .bool b,f,x,x',h,_,_=>by cases f<;>simp[eP]at h
 | .kb b,f,x,x',h,_,_=>by cases f<;>simp[eP]at h
 | .ki k n,f,x,x',h,_,_=>by cases f<;>simp[eP]at h
 | .nb n,f,x,x',h,_,_=>by cases f<;>simp[eP]at h
 | .str s,f,x,x',h,_,_=>by cases f<;>simp[eP]at h
 | .pe r p i f0,f,x,x',h,_,_=>by cases f<;>simp[eP]at h
 | .agg cs,f,x,x',h,_,_=>by cases f<;>simp[eP]at h
 | .tup cs,f,x,x',h,_,_=>by cases f<;>simp[eP]at h
theorem uQ{getS:Get}{gS:bm}{n:Nat}{hs:List AV}{hv:Nat→Value}(hH:HV getS gS hv)(hh: ∀i,ae get g' (hs.getD i .undef) (hv i)):
  ∀(cs fs:List AV) (xs xs':List Value),rS get hs n cs fs=true→aj getS gS cs xs→aj get g' fs xs'→xs'=xs
 | [],[],xs,xs',_,hx,hx'=>by rw[aj]at hx hx';rw[hx,hx']
 | [],f::fs,xs,xs',h,_,_=>by simp[rS]at h
 |c::cs,[],xs,xs',h,_,_=>by simp[rS]at h
 |c::cs,f::fs,xs,xs',h,hx,hx'=>by
  simp only[rS,Nc]at h
  rw[aj]at hx hx'
  obtain⟨x,xs1,rfl,h1,h2⟩:=hx
  obtain⟨x',xs1',rfl,h3,h4⟩:=hx'
  rw[Bg hH hh c f x x' h.1 h1 h3,uQ hH hh cs fs xs1 xs1' h.2 h2 h4]
end
theorem vW{n:Nat}{hs:List AV}: ∀(tys:List Ty) (cs fin:List AV) (j:Nat) (c f:AV),sV get hs n tys cs fin=true→tys[j]?=some .unit→cs[j]?=some c→fin[j]?=some f→c= .undef∨eP get hs n c f=true
 | [],_,_,j,_,_,_,ht,_,_=>by simp at ht
 |t::tys,[],_,j,_,_,_,_,hc,_=>by simp at hc
 |t::tys,_::_,[],j,_,_,_,_,_,hf=>by simp at hf
 |t::tys,c0::cs,f0::fin,j,c,f,h,ht,hc,hf=>by
  simp only[sV,Nc,List.headD_cons,List.tail_cons]at h
  cases j with
  |zero=>
   simp only[Nu,Option.some.injEq]at ht hc hf
   subst ht;subst hc;subst hf
   have:=h.1
   simp only at this
   split at this
   ·left;rfl
   ·right;exact this
  |succ j=>exact vW tys cs fin j c f h.2 (by simpa using ht) (by simpa using hc) (by simpa using hf)
end
end
end Go.Am
end
section
/- Soundness: the caller's state with what came back. -/
namespace Go.Am
noncomputable section
attribute [local instance] D.real
section
variable {w0 : cP} {w w' : World} {st st' : St} {g g' g2 : bm} {born born' : Nat → Prop} {acts : List Act} {a : Act} {get get2 : Get}
def ij(n:Nat):List Nat→List AV→List AV
 | [],f=>f
 |r::l,f=>ij n l (AV.jH r n f)
def xP(n:Nat):List Nat→aB→aB
 | [],x=>x
 |r::l,x=>xP n l (x.cut r n)
theorem rZ(n:Nat): ∀(l:List Nat) (st:St),(gQ n l st).fr=st.fr.map (ij n l)
 | [],st=>by simp[gQ];exact(List.map_id _).symm
 |r::l,st=>by
  show(gQ n l (st.cut (some (r,n)))).fr=_
  rw[rZ n l]
  show(st.fr.map (AV.jH r n)).map (ij n l)=_
  rw[N6];rfl
theorem FK(st:St)(r n x:Nat):(st.cut (some (r,n))).get x=(st.get x).cut r n:=by
 show(st.rs.map (aB.cut r n)).getD x .dead=_
 simp only[Mk,Nz]
 show _=(st.rs.getD x .dead).cut r n
 simp only[Mk]
 cases st.rs[x]?<;>rfl
theorem qQ(n:Nat): ∀(l:List Nat) (st:St) (x:Nat),(gQ n l st).get x=xP n l (st.get x)
 | [],st,x=>rfl
 |r::l,st,x=>by
  show(gQ n l (st.cut (some (r,n)))).get x=_
  rw[qQ n l,FK];rfl
theorem qH(n:Nat): ∀(l:List Nat) (st:St),(gQ n l st).rs.length=st.rs.length
 | [],st=>rfl
 |r::l,st=>by
  show(gQ n l (st.cut (some (r,n)))).rs.length=_
  rw[qH n l];show(st.rs.map _).length=_;simp
theorem u9(n:Nat): ∀(l:List Nat) (x:aB),(∀cs,x≠ .var cs)→xP n l x=x
 | [],x,_=>rfl
 |r::l,x,h=>by
  have e:x.cut r n=x:=by
   cases x<;>first|rfl|exact absurd rfl (h _)
  show xP n l (x.cut r n)=x
  rw[e];exact u9 n l x h
theorem um(n:Nat): ∀(l:List Nat) (cs:List AV),xP n l (.var cs)= .var (ij n l cs)
 | [],cs=>rfl
 |r::l,cs=>um n l (AV.jH r n cs)
theorem mg(n:Nat): ∀(l:List Nat) (f:List AV),(ij n l f).length=f.length
 | [],f=>rfl
 |r::l,f=>by show(ij n l _).length=_;rw[mg n l,Bf]
theorem mN(n:Nat): ∀(l:List Nat) (f:List AV) (x:Nat),x∈AV.ag (ij n l f)→x∈AV.ag f
 | [],f,x,h=>h
 |r::l,f,x,h=>ur.2 f x (mN n l _ x h)
open Classical in
def mix{α:Type}(l:List Nat)(a b:Nat→α):Nat→α:=fun r=>if r∈l then a r else b r
theorem yp(n:Nat)(get2:Get)(g2:bm): ∀(l:List Nat) (get:Get) (g:bm) (v:AV) (x:Value),(∀r∈l,isVar (get2 r)=false∧ ∀t,du (get2 r)=some t→du (get r)=some t∧ ∀p:Path,p.length<n→(g2 r).H p=(g r).H p)→
  ae get g v x→ ∃v',ij n l [v]= [v']∧ae (mix l get2 get) (mix l g2 g) v' x
 | [],get,g,v,x,_,hx=>⟨v,rfl,by
  have e1:mix [] get2 get=get:=by funext r;simp[mix]
  have e2:mix [] g2 g=g:=by funext r;simp[mix]
  rw[e1,e2];exact hx⟩
 |r::l,get,g,v,x,h,hx=>by
  classical
  have h1:ae (fun y=>if y=r then get2 r else get y) (fun y=>if y=r then g2 r else g y) (v.cut r n) x:=by
   refine ux v x (fun y _=> ?_) hx
   by_cases e:y=r
   ·subst e
    obtain⟨k1,k2⟩:=h y Mw
    refine⟨fun t ht=> ?_,fun hv=> ?_⟩
    ·simp only[if_true]at ht⊢
     exact⟨(k2 t ht).1,fun p hp=>(k2 t ht).2 p (hp trivial)⟩
    ·simp only[if_true]at hv
     rw[k1]at hv;cases hv
   ·refine⟨fun t ht=> ?_,fun hv=> ?_⟩
    ·simp only[e,if_false]at ht⊢
     exact⟨ht,fun _ _=>trivial⟩
    ·simp only[e,if_false]at hv⊢
     exact⟨hv,trivial⟩
  obtain⟨v',e1,e2⟩:=yp n get2 g2 l _ _ (v.cut r n) x (fun y hy=>by
   obtain⟨k1,k2⟩:=h y (Mo _ hy)
   refine⟨k1,fun t ht=> ?_⟩
   by_cases e:y=r
   ·subst e
    simp only[if_true]
    exact⟨ht,fun _ _=>trivial⟩
   ·simp only[e,if_false]
    exact k2 t ht) h1
  refine⟨v',?_,?_⟩
  ·show ij n l (AV.jH r n [v])=_
   rw[AV.jH,AV.jH];exact e1
  ·have q1:mix l get2 (fun y=>if y=r then get2 r else get y)=mix (r::l) get2 get:=by
    funext y
    simp only[mix,MH]
    by_cases e:y∈l
    ·simp[e]
    ·by_cases e':y=r
     ·simp[e']
     ·simp[e,e']
   have q2:mix l g2 (fun y=>if y=r then g2 r else g y)=mix (r::l) g2 g:=by
    funext y
    simp only[mix,MH]
    by_cases e:y∈l
    ·simp[e]
    ·by_cases e':y=r
     ·simp[e']
     ·simp[e,e']
   rw[←q1,←q2];exact e2
theorem nI(n:Nat): ∀(l:List Nat) (v:AV) (f:List AV),∃v',ij n l [v]= [v']∧ij n l (v::f)=v'::ij n l f
 | [],v,f=>⟨v,rfl,rfl⟩
 |r::l,v,f=>by
  obtain⟨v',e1,e2⟩:=nI n l (v.cut r n) (AV.jH r n f)
  refine⟨v',?_,?_⟩
  ·show ij n l (AV.jH r n [v])=_
   rw[AV.jH,AV.jH];exact e1
  ·show ij n l (AV.jH r n (v::f))=_
   rw[AV.jH];exact e2
structure Ga (get get2 : Get) (g g2 : bm) (D N : List Nat) : Prop where
  d : ∀ r ∈ D, isVar (get2 r) = false ∧ ∀ t, du (get2 r) = some t → du (get r) = some t ∧ (g2 r).H [] = (g r).H []
  n : ∀ r ∈ N, isVar (get2 r) = false ∧ ∀ t, du (get2 r) = some t → du (get r) = some t
  else_ : ∀ r, r ∉ D → r ∉ N → mW get get2 g g2 r fun _ => True
theorem BA{D N:List Nat}(h:Ga get get2 g g2 D N){v:AV}{x:Value}(hx:ae get g v x): ∃v',ij 0 N (ij 1 D [v])= [v']∧ae get2 g2 v' x:=by
 obtain⟨v1,e1,h1⟩:=yp 1 get2 g2 D get g v x (fun r hr=>⟨(h.d r hr).1,fun t ht=>⟨((h.d r hr).2 t ht).1,fun p hp=>by
  have:p= []:=by cases p with
   |nil=>rfl
   |cons=>simp at hp
  subst this
  exact((h.d r hr).2 t ht).2⟩⟩) hx
 obtain⟨v2,e2,h2⟩:=yp 0 get2 g2 N _ _ v1 x (fun r hr=>⟨(h.n r hr).1,fun t ht=>⟨by
  by_cases e:r∈D
  ·simp only[mix,e,if_true];exact ht
  ·simp only[mix,e,if_false];exact(h.n r hr).2 t ht,fun p hp=>by omega⟩⟩) h1
 refine⟨v2,by rw[e1];exact e2,jY v2 x (fun r _=> ?_) h2⟩
 by_cases e1:r∈N
 ·refine⟨fun t ht=> ?_,fun hv=> ?_⟩
  ·simp only[mix,e1,if_true];exact⟨ht,fun _ _=>trivial⟩
  ·simp only[mix,e1,if_true];exact⟨hv,trivial⟩
 ·by_cases e2:r∈D
  ·refine⟨fun t ht=> ?_,fun hv=> ?_⟩
   ·simp only[mix,e1,e2,if_true,if_false];exact⟨ht,fun _ _=>trivial⟩
   ·simp only[mix,e1,e2,if_true,if_false];exact⟨hv,trivial⟩
  ·refine⟨fun t ht=> ?_,fun hv=> ?_⟩
   ·simp only[mix,e1,e2,if_false];exact(h.else_ r e2 e1).row t ht
   ·simp only[mix,e1,e2,if_false];exact(h.else_ r e2 e1).var hv
theorem zm{D N:List Nat}(h:Ga get get2 g g2 D N): ∀(f:List AV) (i:Nat) (x:Value),ae get g (f.getD i .undef) x→ae get2 g2 ((ij 0 N (ij 1 D f)).getD i .undef) x
 | [],i,x,_=>by
  have:ij 0 N (ij 1 D [])= []:=by
   apply N3
   rw[mg,mg];rfl
  rw[this];simp[ae]
 |v::f,i,x,hx=>by
  obtain⟨v1,e1,e2⟩:=nI 1 D v f
  obtain⟨v2,e3,e4⟩:=nI 0 N v1 (ij 1 D f)
  rw[e2,e4]
  cases i with
  |zero=>
   obtain⟨v',q1,q2⟩:=BA h (v:=v) (x:=x) (by simpa using hx)
   rw[e1,e3]at q1
   injection q1 with q1
   subst q1
   simpa using q2
  |succ i=>simpa using zm h f i x (by simpa using hx)
theorem y9{D N:List Nat}(h:Ga get get2 g g2 D N): ∀(f:List AV) (xs:List Value),aj get g f xs→aj get2 g2 (ij 0 N (ij 1 D f)) xs
 | [],xs,hx=>by
  have:ij 0 N (ij 1 D [])= []:=by
   apply N3
   rw[mg,mg];rfl
  rw[this]
  rw[aj]at hx⊢;exact hx
 |v::f,xs,hx=>by
  obtain⟨v1,e1,e2⟩:=nI 1 D v f
  obtain⟨v2,e3,e4⟩:=nI 0 N v1 (ij 1 D f)
  rw[e2,e4]
  rw[aj]at hx⊢
  obtain⟨x,xs,rfl,hv,hx⟩:=hx
  obtain⟨v',q1,q2⟩:=BA h hv
  rw[e1,e3]at q1
  injection q1 with q1
  subst q1
  exact⟨x,xs,rfl,q2,y9 h f xs hx⟩
theorem vK{D N:List Nat}(h:Ga get get2 g g2 D N): ∀{fr:List (List AV)} {acts:List Act},gJ get g fr acts→gJ get2 g2 (fr.map fun f=>ij 0 N (ij 1 D f)) acts
 | [],_,h=>h
 |f::fs,_,⟨a,as,e,h1,h2⟩=>⟨a,as,e,⟨by rw[mg,mg];exact h1.size,fun i=>zm h f i _ (h1.slot i),h1.defers⟩,vK h h2⟩
mutual
theorem DS{getK get':Get}{L:List Nat}{hs:List AV}(hk: ∀r∈L,getK r= .dead)(HH: ∀r,r∉L→mW get get2 g g2 r fun _=>True)(HV: ∀r∈L,isVar (get2 r)=true→isVar (get r)=true∧(g2 r).b=(g r).b):
  ∀(o:AV) (b:Nat) (ok:List Tst) (c:AV) (rs:List aB) (f:AV) (x:Value),dP getK L o b=(ok,c,rs)→bM ok→eP get' hs L.length c f=true→ae get g o x→ae get2 g2 o x
 | .int k n,b,ok,c,rs,f,x,h,_,hs,_=>by
  rw[dP]at h;simp only[Prod.mk.injEq]at h;obtain⟨_,rfl,_⟩:=h
  cases f<;>simp[eP]at hs
 | .bool n,b,ok,c,rs,f,x,h,_,hs,_=>by
  rw[dP]at h;simp only[Prod.mk.injEq]at h;obtain⟨_,rfl,_⟩:=h
  cases f<;>simp[eP]at hs
 | .kb n,b,ok,c,rs,f,x,h,_,hs,_=>by
  rw[dP]at h;simp only[Prod.mk.injEq]at h;obtain⟨_,rfl,_⟩:=h
  cases f<;>simp[eP]at hs
 | .ki k n,b,ok,c,rs,f,x,h,_,hs,_=>by
  rw[dP]at h;simp only[Prod.mk.injEq]at h;obtain⟨_,rfl,_⟩:=h
  cases f<;>simp[eP]at hs
 | .str n,b,ok,c,rs,f,x,h,_,hs,_=>by
  rw[dP]at h;simp only[Prod.mk.injEq]at h;obtain⟨_,rfl,_⟩:=h
  cases f<;>simp[eP]at hs
 | .nilS,b,ok,c,rs,f,x,h,_,_,hx=>by rw[ae]at hx⊢;exact hx
 | .undef,b,ok,c,rs,f,x,_,_,_,_=>by simp[ae]
 | .nb n,b,ok,c,rs,f,x,h,hok,_,_=>by
  rw[dP]at h;simp only[Prod.mk.injEq]at h;obtain⟨rfl,_⟩:=h;exact(aY hok).elim
 | .pe r p i f0,b,ok,c,rs,f,x,h,hok,_,_=>by
  rw[dP]at h;simp only[Prod.mk.injEq]at h;obtain⟨rfl,_⟩:=h;exact(aY hok).elim
 | .tup vs,b,ok,c,rs,f,x,h,hok,_,_=>by
  rw[dP]at h;simp only[Prod.mk.injEq]at h;obtain⟨rfl,_⟩:=h;exact(aY hok).elim
 | .lit r n,b,ok,c,rs,f,x,h,hok,hs,_=>by
  rw[dP]at h
  split at h
  ·simp only[Prod.mk.injEq]at h;obtain⟨_,rfl,_⟩:=h
   cases f<;>simp[eP]at hs
  ·simp only[Prod.mk.injEq]at h;obtain⟨rfl,_⟩:=h;exact(aY hok).elim
 | .agg cs,b,ok,c,rs,f,x,h,hok,hs,hx=>by
  rw[dP]at h
  generalize h1:iX getK L cs b=s1 at h
  obtain⟨ok1,p',r1⟩:=s1
  simp only[Prod.mk.injEq]at h
  obtain⟨_,rfl,_⟩:=h
  cases f<;>simp[eP]at hs
 | .sl r p sub,b,ok,c,rs,f,x,h,hok,hs,hx=>by
  unfold dP at h
  generalize hi:BT L r p sub=m at h
  cases m with
  |some i=>
   simp only[Prod.mk.injEq]at h;obtain⟨_,rfl,_⟩:=h
   have hi':idx L 0 r=some i:=by
    cases p with
    |nil=>cases sub with
     |none=>exact hi
     |some s=>cases hi
    |cons q p=>cases sub<;>cases hi
   have hlt:=(Nv.1 (mY L 0 r i hi').2).1
   exfalso
   cases f with
   |sl r2 p2 sub2=>
    cases p2 with
    |cons=>simp[eP]at hs
    |nil=>cases sub2 with
     |some=>simp[eP]at hs
     |none=>
      simp only[eP,Nc]at hs
      have:=Nat.le_of_ble_eq_true hs.1.1
      omega
   |_=>simp[eP]at hs
  |none=>
   generalize hsl:sliceAt getK r p=s at h
   obtain⟨ok1,e,ys⟩:=s
   simp only[Prod.mk.injEq]at h
   obtain⟨rfl,_,_⟩:=h
   have hr:r∉L:=fun hr=>by
    unfold sliceAt at hsl
    rw[hk r hr]at hsl
    simp only[Prod.mk.injEq]at hsl
    obtain⟨rfl,_⟩:=hsl
    exact aY hok
   exact jY _ _ (fun r' hr'=>by simp only[AV.roots,Nt]at hr';subst hr';exact HH r' hr) hx
 | .pv r c0,b,ok,c,rs,f,x,h,hok,hs,hx=>by
  by_cases hr:r∈L
  ·rw[ae]at hx⊢
   refine⟨hx.1,fun hv=> ?_⟩
   obtain⟨h1,h2⟩:=HV r hr hv
   rw[h2];exact hx.2 h1
  ·exact jY _ _ (fun r' hr'=>by simp only[AV.roots,Nt]at hr';subst hr';exact HH r' hr) hx
 | .fn f0 p q,b,ok,c,rs,f,x,h,hok,hs,hx=>by
  rw[dP]at h
  generalize h1:iX getK L p b=s1 at h
  obtain⟨ok1,p',r1⟩:=s1
  simp only at h
  generalize h2:iX getK L q (b+r1.length)=s2 at h
  obtain⟨ok2,q',r2⟩:=s2
  simp only[Prod.mk.injEq]at h
  obtain⟨rfl,rfl,_⟩:=h
  obtain⟨k1,k2⟩:=aJ.1 hok
  rw[ae]at hx⊢
  obtain⟨vs,ws,rfl,hp,hq⟩:=hx
  cases f<;>simp only[eP]at hs<;>try cases hs
  next f1 p1 q1=>
   simp only[Nc]at hs
   exact⟨vs,ws,rfl,w6 hk HH HV p b ok1 p' r1 p1 _ h1 k1 hs.2.1 hp,w6 hk HH HV q _ ok2 q' r2 q1 _ h2 k2 hs.2.2 hq⟩
theorem w6{getK get':Get}{L:List Nat}{hs:List AV}(hk: ∀r∈L,getK r= .dead)(HH: ∀r,r∉L→mW get get2 g g2 r fun _=>True)(HV: ∀r∈L,isVar (get2 r)=true→isVar (get r)=true∧(g2 r).b=(g r).b):
  ∀(os:List AV) (b:Nat) (ok:List Tst) (cs:List AV) (rs:List aB) (fs:List AV) (xs:List Value),iX getK L os b=(ok,cs,rs)→bM ok→rS get' hs L.length cs fs=true→aj get g os xs→aj get2 g2 os xs
 | [],b,ok,cs,rs,fs,xs,_,_,_,hx=>by rw[aj]at hx⊢;exact hx
 |o::os,b,ok,cs,rs,fs,xs,h,hok,hs,hx=>by
  rw[iX]at h
  generalize h1:dP getK L o b=s1 at h
  obtain⟨ok1,p',r1⟩:=s1
  simp only at h
  generalize h2:iX getK L os (b+r1.length)=s2 at h
  obtain⟨ok2,q',r2⟩:=s2
  simp only[Prod.mk.injEq]at h
  obtain⟨rfl,rfl,_⟩:=h
  obtain⟨k1,k2⟩:=aJ.1 hok
  rw[aj]at hx⊢
  obtain⟨x,xs1,rfl,hp,hq⟩:=hx
  cases fs with
  |nil=>simp[rS]at hs
  |cons f fs=>
   simp only[rS,Nc]at hs
   exact⟨x,xs1,rfl,DS hk HH HV o b ok1 p' r1 f x h1 k1 hs.1 hp,w6 hk HH HV os _ ok2 q' r2 fs xs1 h2 k2 hs.2 hq⟩
end
theorem Gd{getK:Get}{L:List Nat}{o:AV}{i:Nat}(h:It getK L o (.sl i [] none))(hi:i<L.length):o= .sl (L.getD i 0) [] none:=by
 obtain⟨b,ok,rs,h,hok,hb⟩:=h
 cases o with
 |sl r p sub=>
  unfold dP at h
  generalize hm:BT L r p sub=m at h
  cases m with
  |some j=>
   simp only[Prod.mk.injEq]at h
   obtain⟨_,h,_⟩:=h
   injection h with h _ _
   subst h
   cases p with
   |cons=>cases sub<;>cases hm
   |nil=>cases sub with
    |some=>cases hm
    |none=>
     have hm:idx L 0 r=some j:=hm
     have:=(mY L 0 r j hm).2
     rw[Oc]at this
     simp only[Mk,this];rfl
  |none=>
   generalize sliceAt getK r p=s at h
   obtain⟨ok1,e,ys⟩:=s
   simp only[Prod.mk.injEq]at h
   obtain⟨_,h,_⟩:=h
   injection h with h _ _
   omega
 |pv r c=>rw[dP]at h;split at h<;>simp at h
 |lit r c=>rw[dP]at h;split at h<;>simp at h
 |fn f p q=>
  rw[dP]at h
  generalize iX getK L p b=s1 at h
  obtain⟨ok1,p',r1⟩:=s1
  simp only at h
  generalize iX getK L q (b+r1.length)=s2 at h
  obtain⟨ok2,q',r2⟩:=s2
  simp at h
 |agg cs=>
  rw[dP]at h
  generalize iX getK L cs b=s1 at h
  obtain⟨ok1,p',r1⟩:=s1
  simp at h
 |_=>rw[dP]at h;simp at h
theorem EV{getK:Get}{L:List Nat}{o:AV}(h:It getK L o .undef):o= .undef:=by
 obtain⟨b,ok,rs,h,hok,hb⟩:=h
 cases o with
 |sl r p sub=>
  unfold dP at h
  generalize BT L r p sub=m at h
  cases m with
  |some j=>simp at h
  |none=>
   generalize sliceAt getK r p=s at h
   obtain⟨ok1,e,ys⟩:=s
   simp at h
 |pv r c=>
  rw[dP]at h
  split at h
  ·simp at h
  ·simp only[Prod.mk.injEq]at h;obtain⟨rfl,_⟩:=h;exact(aY hok).elim
 |fn f p q=>
  rw[dP]at h
  generalize iX getK L p b=s1 at h
  obtain⟨ok1,p',r1⟩:=s1
  simp only at h
  generalize iX getK L q (b+r1.length)=s2 at h
  obtain⟨ok2,q',r2⟩:=s2
  simp at h
 |agg cs=>
  rw[dP]at h
  generalize iX getK L cs b=s1 at h
  obtain⟨ok1,p',r1⟩:=s1
  simp at h
 |nb n=>rw[dP]at h;simp only[Prod.mk.injEq]at h;obtain⟨rfl,_⟩:=h;exact(aY hok).elim
 |pe r p i f=>rw[dP]at h;simp only[Prod.mk.injEq]at h;obtain⟨rfl,_⟩:=h;exact(aY hok).elim
 |tup vs=>rw[dP]at h;simp only[Prod.mk.injEq]at h;obtain⟨rfl,_⟩:=h;exact(aY hok).elim
 |lit r n=>
  rw[dP]at h
  split at h
  ·simp at h
  ·simp only[Prod.mk.injEq]at h;obtain⟨rfl,_⟩:=h;exact(aY hok).elim
 |undef=>rfl
 |_=>rw[dP]at h;simp at h
theorem sO: ∀(os:List AV) (cells:List Cell) (vals:List Value),os.length=cells.length→os.length=vals.length→
  (∀(j:Nat) (o:AV) (c:Cell) (v:Value),os[j]?=some o→cells[j]?=some c→vals[j]?=some v→ae get2 g2 (Fj o c) v)→aj get2 g2 (jT os cells) vals
 | [],cells,vals,_,h2,_=>by
  have:vals= []:=by cases vals with
   |nil=>rfl
   |cons=>simp at h2
  subst this
  cases cells<;>simp[jT,aj]
 |o::os,[],vals,h1,_,_=>by simp at h1
 |o::os,c::cells,[],_,h2,_=>by simp at h2
 |o::os,c::cells,v::vals,h1,h2,h=>by
  show aj get2 g2 (Fj o c::jT os cells) (v::vals)
  rw[aj]
  exact⟨v,vals,rfl,h 0 o c v rfl rfl rfl,sO os cells vals (by simpa using h1) (by simpa using h2) fun j o' c' v' a b d=>h (j+1) o' c' v' (by simpa using a) (by simpa using b) (by simpa using d)⟩
theorem Du(o:AV)(c:Cell)(r:Nat)(h:r∈(Fj o c).roots):r∈o.roots:=by
 unfold Fj at h
 split at h
 ·simp[AV.roots]at h
 ·simp[AV.roots]at h
 ·simp[AV.roots]at h
 ·exact h
theorem qM: ∀(os:List AV) (cells:List Cell) (r:Nat),r∈AV.ag (jT os cells)→r∈AV.ag os
 | [],cells,r,h=>by cases cells<;>simp[jT,AV.ag]at h
 |o::os,[],r,h=>h
 |o::os,c::cells,r,h=>by
  have h:r∈AV.ag (Fj o c::jT os cells):=h
  simp only[AV.ag,Md]at h⊢
  exact h.imp (Du o c r) (qM os cells r)
theorem Ad(n:Nat): ∀(l:List AV) (r:Nat),r∈AV.ag (l.take n)→r∈AV.ag l:=by
 induction n with
 |zero=>intro l r h;simp[AV.ag]at h
 |succ n ih=>
  intro l r h
  cases l with
  |nil=>simp[AV.ag]at h
  |cons v l=>
   simp only[List.take_succ_cons,AV.ag,Md]at h⊢
   exact h.imp id (ih l r)
theorem zP(n:Nat): ∀(l:List AV) (r:Nat),r∈AV.ag (l.drop n)→r∈AV.ag l:=by
 induction n with
 |zero=>intro l r h;exact h
 |succ n ih=>
  intro l r h
  cases l with
  |nil=>simp[AV.ag]at h
  |cons v l=>
   simp only[AV.ag,Md]
   exact .inr (ih l r h)
theorem uh: ∀(V:List Nat) (cs:List AV),(mr get V cs).map (·.1)=V
 | [],cs=>rfl
 |r::V,cs=>by show r::(mr get V _).map (·.1)=_;rw[uh V]
theorem vG: ∀(V:List Nat) (cs:List AV) (arrs:List (Array Value)),arrs.length=V.length→aj get2 g2 cs (arrs.flatMap (·.toList))→
  (∀(i r:Nat) (arr:Array Value),V[i]?=some r→arrs[i]?=some arr→arr.size=(bD get r).length)→
  ∀(i r:Nat) (arr:Array Value),V[i]?=some r→arrs[i]?=some arr→ ∃seg,(r,aB.var seg)∈mr get V cs∧aj get2 g2 seg arr.toList∧ ∀x∈AV.ag seg,x∈AV.ag cs
 | [],cs,arrs,_,_,_,i,r,arr,h,_=>by simp at h
 |r0::V,cs,[],hl,_,_,i,r,arr,_,h=>by simp at h
 |r0::V,cs,arr0::arrs,hl,hA,hs,i,r,arr,hi,ha=>by
  have h0:=hs 0 r0 arr0 rfl rfl
  simp only[NO]at hA
  have hT:=jt (bD get r0).length hA
  have hDr:=ju (bD get r0).length hA
  rw[List.take_left' (by simpa using h0)]at hT
  rw[List.drop_left' (by simpa using h0)]at hDr
  cases i with
  |zero=>
   simp only[Nu,Option.some.injEq]at hi ha
   subst hi;subst ha
   exact⟨_,Mw,hT,fun x hx=>Ad _ _ x hx⟩
  |succ i=>
   obtain⟨seg,p1,p2,p3⟩:=vG V (cs.drop (bD get r0).length) arrs (by simpa using hl) hDr (fun i r arr h1 h2=>hs (i+1) r arr (by simpa using h1) (by simpa using h2)) i r arr (by simpa using hi) (by simpa using ha)
   exact⟨seg,Mo _ p1,p2,fun x hx=>zP _ _ x (p3 x hx)⟩
theorem tD(n:Nat)(L:List Nat)(rs:List aB): ∀(cs:List AV) (bs:List Cell),bs.map (·.1)=cs.map (gC n rs)→(∀i∈fK n rs cs,∃rw t xs,rs.getD i .dead= .row rw t xs)→(iT n L rs cs bs).map (·.1)=(fK n rs cs).map fun i=>L.getD i 0
 | [],bs,_,_=>by cases bs<;>rfl
 |c::cs,[],h,_=>by simp at h
 |c::cs,b::bs,h,hr=>by
  simp only[MP,List.cons.injEq]at h
  obtain⟨h1,h2⟩:=h
  have skip:(∀i∈fK n rs cs,∃rw t xs,rs.getD i .dead= .row rw t xs)→(iT n L rs cs bs).map (·.1)=(fK n rs cs).map fun i=>L.getD i 0:=tD n L rs cs bs h2
  unfold iT
  unfold fK at hr⊢
  split
  ·next i t xs=>
   simp only at hr⊢
   cases hb:Nat.blt i n with
   |true=>
    rw[hb]at hr
    simp only[cond_true,NP,MP,List.map_nil,List.cons_append,N1]at hr⊢
    rw[skip fun i hi=>hr i (Mo _ hi)]
   |false=>
    rw[hb]at hr
    simp only[cond_false,N1]at hr⊢
    exact skip hr
  ·next hno=>
   simp only[N1]
   split at hr
   ·next i=>
    cases hb:Nat.blt i n with
    |true=>
     exfalso
     rw[hb]at hr
     simp only[cond_true]at hr
     obtain⟨rw_,t,xs,e⟩:=hr i Mw
     have:gC n rs (.sl i [] none)= .sl t:=by
      simp only[gC,hb,cond_true,e]
     rw[this]at h1
     obtain⟨t0,x0⟩:=b
     simp only at h1
     subst h1
     exact hno i t x0 rfl rfl
    |false=>
     rw[hb]at hr
     simp only[cond_false]at hr⊢
     exact skip hr
   ·exact skip hr
theorem vI(n:Nat)(L:List Nat)(rs:List aB): ∀(cs:List AV) (bs:List Cell) (J i:Nat) (t:Ty) (xs:List (den t)),cs[J]?=some (.sl i [] none)→bs[J]?=some ⟨.sl t,xs⟩→i<n→(L.getD i 0,aB.row true t xs)∈iT n L rs cs bs
 | [],bs,J,i,t,xs,h,_,_=>by simp at h
 |c::cs,[],J,i,t,xs,_,h,_=>by simp at h
 |c::cs,b::bs,J,i,t,xs,hc,hb,hi=>by
  cases J with
  |zero=>
   simp only[Nu,Option.some.injEq]at hc hb
   subst hc;subst hb
   unfold iT
   have:Nat.blt i n=true:=by rw[Nl];exact hi
   simp[this]
  |succ J=>
   unfold iT
   exact Md.2 (.inr (vI n L rs cs bs J i t xs (by simpa using hc) (by simpa using hb) hi))
theorem mM(n:Nat)(rs:List aB): ∀(cs:List AV) (i:Nat),i∈fK n rs cs↔i<n∧ ∃J:Nat,cs[J]?=some (.sl i [] none)
 | [],i=>by simp[fK]
 |c::cs,i=>by
  have ih:=mM n rs cs i
  unfold fK
  split
  ·next k=>
   cases hb:Nat.blt k n with
   |true=>
    simp only[cond_true,MH,ih]
    rw[Nl]at hb
    constructor
    ·rintro(rfl|⟨h1,J,h2⟩)
     ·exact⟨hb,0,rfl⟩
     ·exact⟨h1,J+1,by simpa using h2⟩
    ·rintro⟨h1,J,h2⟩
     cases J with
     |zero=>simp only[Nu,Option.some.injEq,AV.sl.injEq]at h2;exact .inl h2.1.symm
     |succ J=>exact .inr ⟨h1,J,by simpa using h2⟩
   |false=>
    simp only[cond_false,ih]
    have hb: ¬k<n:=fun h=>by rw[←Nl,hb]at h;cases h
    constructor
    ·rintro⟨h1,J,h2⟩;exact⟨h1,J+1,by simpa using h2⟩
    ·rintro⟨h1,J,h2⟩
     cases J with
     |zero=>simp only[Nu,Option.some.injEq,AV.sl.injEq]at h2;omega
     |succ J=>exact⟨h1,J,by simpa using h2⟩
  ·next hno=>
   rw[ih]
   constructor
   ·rintro⟨h1,J,h2⟩;exact⟨h1,J+1,by simpa using h2⟩
   ·rintro⟨h1,J,h2⟩
    cases J with
    |zero=>simp only[Nu,Option.some.injEq]at h2;exact(hno i h2).elim
    |succ J=>exact⟨h1,J,by simpa using h2⟩
theorem vz(n:Nat)(rs:List aB): ∀(cs:List AV) (i J J':Nat),(fK n rs cs).Nodup→i<n→cs[J]?=some (.sl i [] none)→cs[J']?=some (.sl i [] none)→J=J'
 | [],i,J,J',_,_,h,_=>by simp at h
 |c::cs,i,J,J',hn,hi,h,h'=>by
  cases J with
  |zero=>cases J' with
   |zero=>rfl
   |succ J'=>
    exfalso
    simp only[Nu,Option.some.injEq]at h
    subst h
    have hb:Nat.blt i n=true:=by rw[Nl];exact hi
    simp only[fK,hb,cond_true,N5]at hn
    exact hn.1 ((mM n rs cs i).2 ⟨hi,J',by simpa using h'⟩)
  |succ J=>cases J' with
   |zero=>
    exfalso
    simp only[Nu,Option.some.injEq]at h'
    subst h'
    have hb:Nat.blt i n=true:=by rw[Nl];exact hi
    simp only[fK,hb,cond_true,N5]at hn
    exact hn.1 ((mM n rs cs i).2 ⟨hi,J,by simpa using h⟩)
   |succ J'=>
    have hn':(fK n rs cs).Nodup:=by
     unfold fK at hn
     split at hn
     ·next k=>
      cases hb:Nat.blt k n with
      |true=>rw[hb]at hn;simp only[cond_true,N5]at hn;exact hn.2
      |false=>rw[hb]at hn;exact hn
     ·exact hn
    rw[vz n rs cs i J J' hn' hi (by simpa using h) (by simpa using h')]
theorem ve: ∀(l:List (Nat×aB)) (f:Get) (r:Nat) (x:aB),(l.map (·.1)).Nodup→(r,x)∈l→gW l f r=x
 | [],f,r,x,_,h=>by cases h
 |(i,y)::l,f,r,x,hn,h=>by
  simp only[MP,N5]at hn
  unfold gW
  rcases MH.1 h with h|h
  ·injection h with h1 h2
   subst h1;subst h2
   rw[jV l _ r hn.1,if_pos rfl]
  ·exact ve l _ r x hn.2 h
end
end
end Go.Am
end
section
/- Soundness: a call in a part of the state. -/
namespace Go.Am
noncomputable section
attribute [local instance] D.real
section
variable {P : Program} {w0 : cP} {w w' : World} {st st' : St} {g g' g2 : bm} {born born' : Nat → Prop} {acts : List Act} {a : Act} {get get2 : Get}
theorem Dz(n:Nat)(rs:List aB)(c:AV):gC n (rs.map aB.strip) c.strip=gC n rs c:=by
 have e: ∀i,(match (rs.map aB.strip).getD i .dead with
   | .row _ t _=>Ty.sl t
   |_=> .unit)=(match rs.getD i .dead with
   | .row _ t _=>Ty.sl t
   |_=> .unit):=by
  intro i
  simp only[Mk,Nz]
  cases rs[i]? with
  |none=>rfl
  |some x=>cases x<;>rfl
 cases c with
 |sl i p sub=>
  cases p with
  |nil=>cases sub with
   |none=>simp only[AV.strip,gC];congr 1;exact e _
   |some s=>rfl
  |cons q p=>rfl
 |_=>rfl
theorem qJ(x:aB):fO x.strip=(fO x).map AV.strip:=by cases x<;>rfl
theorem C0(nV nD:Nat)(rs:List aB):eu nV nD (rs.map aB.strip)=(eu nV nD rs).map AV.strip:=by
 unfold eu
 rw[NP,N6]
 congr 1
 rw[←List.map_take]
 generalize rs.take nV=l
 induction l with
 |nil=>rfl
 |cons x l ih=>simp only[MP,NO,ih,qJ,NP]
theorem CP{n:Nat}{rs:List aB}{c:AV}(h:gC n rs c= .unit):c.strip=c:=by
 cases c<;>first|rfl|simp[gC]at h
theorem sg{get:Get}{g:bm}: ∀{vs:List AV} {l:List Value} {i:Nat} {v:AV} {x:Value},aj get g vs l→vs[i]?=some v→l[i]?=some x→ae get g v x:=by
 intro vs l i v x h e e'
 obtain⟨y,h1,h2⟩:=dz h e
 rw[e']at h1
 injection h1 with h1
 rw[h1];exact h2
theorem xK(n:Nat)(L:List Nat)(rs rs':List aB): ∀(cs:List AV) (bs:List Cell),iT n L rs (cs.map AV.strip) bs=iT n L rs' cs bs
 | [],bs=>by cases bs<;>rfl
 |c::cs,[]=>rfl
 |c::cs,b::bs=>by
  have ih:=xK n L rs rs' cs bs
  cases c with
  |sl i p sub=>
   cases p with
   |nil=>cases sub with
    |none=>
     obtain⟨t,x⟩:=b
     cases t<;>simp only[MP,AV.strip,iT,ih]
    |some s=>simp only[MP,AV.strip,iT,ih]
   |cons q p=>simp only[MP,AV.strip,iT,ih]
  |_=>simp only[MP,AV.strip,iT,ih]
theorem sP(get:Get): ∀(V:List Nat) (cs:List AV) (x:Nat×aB),x∈mr get V cs→ ∃l,x.2= .var l
 | [],_,_,h=>by cases h
 |r::V,cs,x,h=>by
  rcases MH.1 h with h|h
  ·subst h;exact⟨_,rfl⟩
  ·exact sP get V _ x h
theorem CT{n:Nat}{rs:List aB}{c:AV}{t:Ty}(h:gC n rs c= .sl t): ∃i,c= .sl i [] none∧i<n:=by
 cases c with
 |sl i p sub=>
  cases p with
  |nil=>cases sub with
   |none=>
    simp only[gC]at h
    cases hb:Nat.blt i n with
    |true=>rw[Nl]at hb;exact⟨i,rfl,hb⟩
    |false=>rw[hb]at h;cases h
   |some s=>simp[gC]at h
  |cons q p=>simp[gC]at h
 |_=>simp[gC]at h
theorem rf: ∀(l:List (Nat×aB)) (st:St),st.rs.length≤(st.bz l).rs.length
 | [],st=>Ng _
 |(i,x)::l,st=>by
  rw[lW]
  refine Ob ?_ (rf l (st.gN i x))
  show st.rs.length≤(setAt st.rs i x).length
  unfold setAt
  cases hb:Nat.blt i st.rs.length with
  |true=>simp
  |false=>simp
theorem AI{t:Ty}{xs:List (den t)}{H:Path→Value}{rw_:Bool}(h:cf w rw_ t xs H): ∃a n c,H []= .slice a n c:=by
 rcases h with⟨h0,_⟩|⟨a,cap,h0,_⟩
 ·exact⟨_,_,_,h0⟩
 ·exact⟨_,_,_,h0⟩
theorem Bu{ls:cq}{stS stF:St}{gS:bm}{actH:Act}{f:Nat}{vs':List AV}{us':List Value}{y:den (resTy P f)}{x:den (uU ls.lv.length ls.ld.length ls.all.length (stS.rs.map aB.strip))}{bornF:Nat→Prop}
  (R:Rel w0 st g born acts w) (hq: ∀r∈ls.all,∀j r' p t xs,st.get j= .pend r' p t xs→r'≠r) (hn:ls.all.Nodup) (hlt: ∀r,born r→r<st.rs.length)
  (hidx:fK ls.all.length stS.rs (eu ls.lv.length ls.ld.length stS.rs)=Ln ls.lv.length (ls.ld.length+ls.ln.length))
  (pt:Part w st g ls stS gS actH) {wB:cP} (hle:(nz w (mV st.get g ls.all)).le wB) (R':Rel wB stF g' bornF [actH] w') (hA:aj stF.get g' vs' us')
  (hend:nE P f ls.lv.length ls.ld.length ls.all.length (stS.rs.map aB.strip) vs' stF=some (y,x)):
  ∃g2,Rel w0 (oE ls st (stS.rs.map aB.strip) x) g2 born acts w'∧(∀r,born r→r<(oE ls st (stS.rs.map aB.strip) x).rs.length)∧C5 P (dK P f) us'∧
   ∃G,Rep w' true (jd P (dK P f)) y G 0 (fun k=>(dN us')[k]?)∧Sep (jd P (dK P f)) y G 0∧ ∀b,Blk (jd P (dK P f)) y G 0 b→ ¬w0.fT b∧ ∀r,¬Own (oE ls st (stS.rs.map aB.strip) x).get g2 r b:=by
 classical
 have hall:ls.all.length=ls.lv.length+(ls.ld.length+ls.ln.length):=by simp[cq.all]
 have KB:=hle.run R'.below
 have hfr:=R'.frames
 have htop:tU stF.get g' stF.top actH:=by
  unfold St.top
  generalize stF.fr=fr at hfr
  cases fr with
  |nil=>simp only[gJ]at hfr;cases hfr
  |cons f fs=>
   obtain⟨a',as,e,h1,_⟩:=hfr
   injection e with e1 _
   subst e1;exact h1
 let hv:Nat→Value:=fun i=>actH.tmps.getD i Go.undef
 have hh: ∀i,ae stF.get g' (stF.top.getD i .undef) (hv i):=htop.slot
 have hvi: ∀i,hv i=if i<stS.rs.length then n6 gS ((nf ls.lv.length ls.ld.length ls.all.length (stS.rs.length-ls.all.length)).getD i .undef) i else Go.undef:=pt.act
 have plen:=pt.len
 have hvV: ∀i,i<ls.lv.length→hv i= .pointer (some ⟨(gS i).b,0,none⟩):=fun i hi=>by
  rw[hvi i,if_pos (by omega),kZ _ _ _ _ _ (by omega),if_pos hi];rfl
 have hvD: ∀i,ls.lv.length≤i→i<ls.lv.length+ls.ld.length→hv i=(gS i).H []:=fun i h1 h2=>by
  rw[hvi i,if_pos (by omega),kZ _ _ _ _ _ (by omega),if_neg (by omega),if_pos h2];rfl
 have hvar: ∀(i r:Nat),ls.lv[i]?=some r→i<ls.lv.length∧ls.all.getD i 0=r∧r∈ls.all∧gS i=g r:=fun i r hi=>by
  have h1:=(Nv.1 hi).1
  have e:ls.all.getD i 0=r:=by
   simp only[Mk,cq.all]
   rw[Mq h1,hi];rfl
  refine⟨by omega,e,?_,?_⟩
  ·simp only[cq.all,Md];exact .inl (N4.2 ⟨i,hi⟩)
  ·rw[pt.gs i (by omega),e]
 have hrow: ∀i,ls.lv.length≤i→i<ls.all.length→stS.get i=st.get (ls.all.getD i 0)∧ ∃t xs,stS.get i= .row true t xs:=pt.row
 have HVS:HV stS.get gS hv:=by
  refine⟨fun i=> ?_⟩
  by_cases h0:i<stS.rs.length
  ·by_cases h1:i<ls.lv.length
   ·left
    refine⟨?_,hvV i h1⟩
    obtain⟨cs,cs0,arr,te,p1,_⟩:=pt.var i (ls.lv[i]'(by omega)) (MC _)
    have:stS.get i= .var cs:=by
     show stS.rs.getD i .dead=_
     simp only[Mk,p1];rfl
    rw[this];rfl
   ·by_cases h2:i<ls.lv.length+ls.ld.length
    ·right;left
     obtain⟨e1,t,xs,e2⟩:=hrow i (by omega) (by omega)
     refine⟨by rw[e2];rfl,hvD i (by omega) h2,?_⟩
     rw[hvD i (by omega) h2,pt.gs i (by omega)]
     have hr:=R.roots (ls.all.getD i 0)
     unfold bw at hr
     rw[←e1,e2]at hr
     rcases hr.1 with⟨h0,_⟩|⟨a,cap,h0,_⟩
     ·exact⟨_,_,_,h0⟩
     ·exact⟨_,_,_,h0⟩
    ·by_cases h3:i<ls.all.length
     ·right;right
      rw[hvi i,if_pos h0,kZ _ _ _ _ _ (by omega),if_neg h1,if_neg h2,if_pos h3];rfl
     ·right;left
      obtain⟨⟨e,ys,e1⟩,e2⟩:=pt.ro i (by omega) h0
      have e3:hv i=(gS i).H []:=by
       rw[hvi i,if_pos h0,kZ _ _ _ _ _ (by omega),if_neg h1,if_neg h2,if_neg h3,if_pos (by omega)];rfl
      exact⟨by rw[e1];rfl,e3,by rw[e3];exact e2⟩
  ·right;right
   rw[hvi i,if_neg h0]
 unfold nE at hend
 generalize hvo:varsOf stF.get (stF.top.take ls.lv.length) ((stS.rs.map aB.strip).take ls.lv.length)=vo at hend
 obtain⟨ok0,fin⟩:=vo
 simp only at hend
 generalize hrd:cF stF.get (resTy P f) (vs'.flatMap AV.cells)=rd at hend
 obtain⟨ok1,y1,rest⟩:=rd
 simp only at hend
 generalize hgv:gives stF.get (resTy P f) (vs'.flatMap AV.cells)=gv at hend
 obtain⟨ok2,l,rest2⟩:=gv
 simp only at hend
 generalize hbl:vi stF.get (kI ls.lv.length ls.ld.length ls.all.length (stS.rs.map aB.strip)) ((stF.top.drop ls.lv.length).take ls.ld.length++fin)=bl at hend
 obtain⟨ok3,x,l'⟩:=bl
 simp only at hend
 obtain⟨hok,hend⟩:=lz hend
 simp only[Option.some.injEq,Prod.mk.injEq]at hend
 obtain⟨rfl,rfl⟩:=hend
 obtain⟨k0,hok⟩:=aJ.1 hok
 obtain⟨k1,hok⟩:=aJ.1 hok
 obtain⟨k2,hok⟩:=aJ.1 hok
 obtain⟨k3,hok⟩:=aJ.1 hok
 obtain⟨k4,hok⟩:=af.1 hok
 obtain⟨_,hok⟩:=af.1 hok
 obtain⟨k6,hok⟩:=af.1 hok
 obtain⟨k7,hok⟩:=af.1 hok
 obtain⟨k8,_⟩:=af.1 hok
 have k6:(l++l').Nodup:=of_decide_eq_true k6
 have k7:((stF.top.drop ls.lv.length).take ls.ld.length).length=ls.ld.length:=by simpa[Tst.val]using k7
 have k8:sV stF.get stF.top ls.all.length (kI ls.lv.length ls.ld.length ls.all.length (stS.rs.map aB.strip)) (eu ls.lv.length ls.ld.length (stS.rs.map aB.strip)) ((stF.top.drop ls.lv.length).take ls.ld.length++fin)=true:=k8
 have htake:stS.rs.take ls.lv.length=stS.rs.take ls.lv.length:=rfl
 obtain⟨arrs,a1,a2,a2',a3⟩:=xn (g:=g) R'.roots ls.lv (stF.top.take ls.lv.length) ((stS.rs.map aB.strip).take ls.lv.length) ok0 fin hvo k0 (by rw[List.length_take,N2];omega) (fun i r hi=>by
  obtain⟨h1,_,_,h4⟩:=hvar i r hi
  have e:(stF.top.take ls.lv.length).getD i .undef=stF.top.getD i .undef:=by
   simp only[Mk];rw[M6,if_pos h1]
  rw[e,←h4]
  have:=hh i
  rw[hvV i h1]at this
  exact this)
 let Dv:List Value:=(LV ls.ld.length).map fun i=>(gS (ls.lv.length+i)).H []
 have hD1:aj stF.get g' ((stF.top.drop ls.lv.length).take ls.ld.length) Dv:=by
  have: ∀(l:List AV) (n k:Nat),l.length=n→(∀i,i<n→ae stF.get g' (l.getD i .undef) ((gS (k+i)).H []))→aj stF.get g' l ((LV n).map fun i=>(gS (k+i)).H []):=by
   intro l
   induction l with
   |nil=>intro n k hl _;subst hl;simp[aj]
   |cons v l ih=>
    intro n k hl h
    subst hl
    rw[Nr,List.range_succ_eq_map,MP,N6,aj]
    refine⟨_,_,rfl,by simpa using h 0 (by simp),?_⟩
    have:=ih l.length (k+1) rfl fun i hi=>by
     have:=h (i+1) (by simpa using hi)
     have e:k+1+i=k+(i+1):=by omega
     rw[e];simpa using this
    have e:((fun i=>(gS (k+i)).H [])∘Nat.succ)=fun i=>(gS (k+1+i)).H []:=by
     funext i
     have:k+i.succ=k+1+i:=by omega
     simp only[Function.comp,this]
    rw[e];exact this
  refine this _ ls.ld.length ls.lv.length k7 fun i hi=> ?_
  have e:((stF.top.drop ls.lv.length).take ls.ld.length).getD i .undef=stF.top.getD (ls.lv.length+i) .undef:=by
   simp only[Mk];rw[M6,if_pos hi,N8]
  rw[e,←hvD (ls.lv.length+i) (by omega) (by omega)]
  exact hh _
 let valsF:List Value:=Dv++arrs.flatMap (·.toList)
 have hF:aj stF.get g' ((stF.top.drop ls.lv.length).take ls.ld.length++fin) valsF:=fk hD1 a2
 obtain⟨vals0,f1,f2⟩:=pt.flat
 have hsubl:=pt.sub
 let OC:=eu ls.lv.length ls.ld.length stS.rs
 have hOC:eu ls.lv.length ls.ld.length (stS.rs.map aB.strip)=OC.map AV.strip:=C0 _ _ _
 have hOCl:OC.length=ls.ld.length+((stS.rs.take ls.lv.length).flatMap fO).length:=by simp[OC,eu]
 have htys:kI ls.lv.length ls.ld.length ls.all.length (stS.rs.map aB.strip)=OC.map (gC ls.all.length stS.rs):=by
  unfold kI
  rw[hOC,N6]
  congr 1
  funext c
  exact Dz _ _ _
 have hfinl:fin.length=((stS.rs.take ls.lv.length).flatMap fO).length:=by
  rw[a2',←List.map_take]
  generalize stS.rs.take ls.lv.length=l
  induction l with
  |nil=>rfl
  |cons x l ih=>simp only[MP,NO,Mb,ih,qJ,N2]
 have hFl:((stF.top.drop ls.lv.length).take ls.ld.length++fin).length=OC.length:=by rw[Mb,k7,hfinl,hOCl]
 have hvFl:valsF.length=OC.length:=by rw[fC hF,hFl]
 obtain⟨ll,b1,b2,b3,b4,b5⟩:=zl R'.roots R'.sep _ _ valsF ok3 x l' (fun t ht=>by
   rw[htys]at ht
   obtain⟨c,_,rfl⟩:=M5.1 ht
   exact BZ _ _ _) hF (by rw[htys,N2,hFl]) hbl k3
 generalize hcells:jZ (kI ls.lv.length ls.ld.length ls.all.length (stS.rs.map aB.strip)) x=cells at*
 have hcl:cells.length=OC.length:=by rw[b2,htys,N2]
 have hcty: ∀(J:Nat) (c:AV) (b:Cell),OC[J]?=some c→cells[J]?=some b→b.1=gC ls.all.length stS.rs c:=fun J c b h1 h2=>by
  have e:=congrArg (fun l=>l[J]?) b3
  simp only[Nz,h2,NI]at e
  rw[htys]at e
  simp only[Nz,h1,NI,Option.some.injEq]at e
  exact e
 have hnodup':l'.Nodup:=(N7.1 k6).2.1
 let Pr:Nat→(Path→Value)→Prop:=fun i H=> ∃(J:Nat) (t:Ty) (xs:List (den t)) (lj:List Nat) (v:Value),OC[J]?=some (.sl i [] none)∧cells[J]?=some ⟨.sl t,xs⟩∧ll[J]?=some lj∧valsF[J]?=some v∧sb w' stF.get g' lj v H ⟨.sl t,xs⟩
 have hPr: ∀i,ls.lv.length≤i→i<ls.all.length→ ∃H,Pr i H:=fun i h1 h2=>by
  have hm:i∈fK ls.all.length stS.rs OC:=by
   rw[show OC=eu ls.lv.length ls.ld.length stS.rs from rfl,hidx]
   simp only[Lx];omega
  obtain⟨_,J,hJ⟩:=(mM _ _ _ _).1 hm
  have hJl:=(Nv.1 hJ).1
  obtain⟨b,lj,H,c1,c2,c3⟩:=b5 J (valsF[J]'(by omega)) (MC _)
  have hty:=hcty J _ b hJ c1
  obtain⟨_,t,xs,e⟩:=hrow i h1 h2
  have:gC ls.all.length stS.rs (.sl i [] none)= .sl t:=by
   have hb:Nat.blt i ls.all.length=true:=by rw[Nl];exact h2
   have e:stS.rs.getD i .dead= .row true t xs:=e
   simp only[gC,hb,cond_true,e]
  rw[this]at hty
  obtain⟨tb,db⟩:=b
  simp only at hty
  subst hty
  exact⟨H,J,t,db,lj,_,hJ,c1,c2,MC _,c3⟩
 let Hof:Nat→Path→Value:=fun i=>if h:ls.lv.length≤i∧i<ls.all.length then Of (hPr i h.1 h.2)else fun _=>Go.undef
 have hHof: ∀i,ls.lv.length≤i→i<ls.all.length→Pr i (Hof i):=fun i h1 h2=>by
  show Pr i (if h:ls.lv.length≤i∧i<ls.all.length then Of (hPr i h.1 h.2)else fun _=>Go.undef)
  rw[dif_pos ⟨h1,h2⟩]
  exact Classical.choose_spec (hPr i h1 h2)
 have hJinj: ∀(i J J':Nat),ls.lv.length≤i→i<ls.all.length→OC[J]?=some (.sl i [] none)→OC[J']?=some (.sl i [] none)→J=J':=fun i J J' h1 h2 h3 h4=>
  vz ls.all.length stS.rs OC i J J' (by rw[show OC=eu ls.lv.length ls.ld.length stS.rs from rfl,hidx];exact List.nodup_range') h2 h3 h4
 let g2:bm:=fun r=>match idx ls.all 0 r with
  |some i=>if ls.lv.length≤i then⟨0,Hof i,fun _=>False⟩else g r
  |none=>g r
 have hidxL: ∀i,i<ls.all.length→idx ls.all 0 (ls.all.getD i 0)=some i:=by
  have key: ∀(L:List Nat) (k i:Nat),L.Nodup→i<L.length→idx L k (L.getD i 0)=some (k+i):=by
   intro L
   induction L with
   |nil=>intro k i _ h;simp at h
   |cons x L ih=>
    intro k i hn hi
    rw[N5]at hn
    cases i with
    |zero=>simp[idx]
    |succ i=>
     have hne:x≠L.getD i 0:=fun e=>hn.1 (by
      rw[e]
      have hi':i<L.length:=by simpa using hi
      simp only[Mk,MC hi']
      exact Ns hi')
     have hb:Nat.beq x (L.getD i 0)=false:=by
      cases h:Nat.beq x (L.getD i 0)with
      |false=>rfl
      |true=>exact absurd (fE h) hne
     simp only[List.getD_cons_succ]
     unfold idx
     rw[hb]
     simp only[cond_false]
     rw[ih (k+1) i hn.2 (by simpa using hi)]
     congr 1;omega
  intro i hi
  have:=key ls.all 0 i hn hi
  simpa using this
 have hidxN: ∀r,r∉ls.all→idx ls.all 0 r=none:=fun r hr=>by
  cases h:idx ls.all 0 r with
  |none=>rfl
  |some i=>
   exfalso
   have:=(mY _ _ _ _ h).2
   exact hr (N4.2 ⟨_,this⟩)
 have g2V: ∀(i r:Nat),ls.lv[i]?=some r→g2 r=g r:=fun i r hi=>by
  obtain⟨h1,h2,_,_⟩:=hvar i r hi
  have:=hidxL i (by omega)
  rw[h2]at this
  show(match idx ls.all 0 r with
   |some i=>if ls.lv.length≤i then _ else g r
   |none=>g r)=g r
  rw[this]
  simp only
  rw[if_neg (by omega)]
 have g2R: ∀i,ls.lv.length≤i→i<ls.all.length→g2 (ls.all.getD i 0)=⟨0,Hof i,fun _=>False⟩:=fun i h1 h2=>by
  show(match idx ls.all 0 (ls.all.getD i 0)with
   |some i=>if ls.lv.length≤i then(⟨0,Hof i,fun _=>False⟩:Info)else g _
   |none=>g _)=_
  rw[hidxL i h2]
  simp only
  rw[if_pos h1]
 have g2N: ∀r,r∉ls.all→g2 r=g r:=fun r hr=>by
  show(match idx ls.all 0 r with
   |some i=>if ls.lv.length≤i then _ else g r
   |none=>g r)=g r
  rw[hidxN r hr]
 let upd:=xI ls st (stS.rs.map aB.strip) cells
 let stC:=gQ 0 ls.ln (gQ 1 ls.ld st)
 have hst2:oE ls st (stS.rs.map aB.strip) x=stC.bz upd:=by
  unfold oE
  rw[hcells]
  rfl
 rw[hst2]
 have hupd:upd=iT ls.all.length ls.all stS.rs OC cells++mr st.get ls.lv (jT (ls.lv.flatMap (bD st.get)) (cells.drop ls.ld.length)):=by
  show iT _ _ _ _ _++_=_
  rw[hOC,xK ls.all.length ls.all _ stS.rs]
 have hidx':fK ls.all.length stS.rs OC=Ln ls.lv.length (ls.ld.length+ls.ln.length):=hidx
 have hkeysR:(iT ls.all.length ls.all stS.rs OC cells).map (·.1)=ls.ld++ls.ln:=by
  rw[tD ls.all.length ls.all stS.rs OC cells (by rw[b3,htys]) (fun i hi=>by
   rw[hidx']at hi
   simp only[Lx]at hi
   obtain⟨_,t,xs,e⟩:=hrow i hi.1 (by omega)
   exact⟨true,t,xs,e⟩),hidx']
  have: ∀(l m:List Nat) (k:Nat),k=m.length→(Ln k l.length).map (fun i=>(m++l).getD i 0)=l:=by
   intro l
   induction l with
   |nil=>intro m k _;rfl
   |cons x l ih=>
    intro m k hk
    rw[Nr,List.range'_succ,MP]
    congr 1
    ·subst hk;simp[Mk]
    ·have:=ih (m++ [x]) (k+1) (by simp[hk])
     rw[List.append_assoc]at this
     exact this
  have h:=this (ls.ld++ls.ln) ls.lv ls.lv.length rfl
  rw[Mb]at h
  exact h
 have hkeysV:=uh (get:=st.get) ls.lv (jT (ls.lv.flatMap (bD st.get)) (cells.drop ls.ld.length))
 have hkeys:upd.map (·.1)=(ls.ld++ls.ln)++ls.lv:=by rw[hupd,NP,hkeysR,hkeysV]
 have hkn:(upd.map (·.1)).Nodup:=by
  rw[hkeys]
  have hn:(ls.lv++(ls.ld++ls.ln)).Nodup:=hn
  rw[N7]at hn⊢
  exact⟨hn.2.1,hn.1,fun a ha b hb e=>hn.2.2 b hb a ha e.symm⟩
 have hmemk: ∀r,r∈upd.map (·.1)↔r∈ls.all:=fun r=>by
  rw[hkeys]
  simp only[cq.all,Md]
  exact or_comm
 have hgetS:(stC.bz upd).get=gW upd stC.get:=iz upd stC
 have getO: ∀r,r∉ls.all→(stC.bz upd).get r=xP 0 ls.ln (xP 1 ls.ld (st.get r)):=fun r hr=>by
  rw[hgetS,jV upd _ r (fun h=>hr ((hmemk r).1 h))]
  show(gQ 0 ls.ln (gQ 1 ls.ld st)).get r=_
  rw[qQ,qQ]
 have getI: ∀r y,(r,y)∈upd→(stC.bz upd).get r=y:=fun r y h=>by
  rw[hgetS];exact ve upd _ r y hkn h
 have getR: ∀i,ls.lv.length≤i→i<ls.all.length→ ∃(J:Nat) (t:Ty) (xs:List (den t)) (lj:List Nat) (v:Value),OC[J]?=some (.sl i [] none)∧cells[J]?=some ⟨.sl t,xs⟩∧ll[J]?=some lj∧valsF[J]?=some v∧
   sb w' stF.get g' lj v (Hof i) ⟨.sl t,xs⟩∧(stC.bz upd).get (ls.all.getD i 0)= .row true t xs∧ ∃xs0,st.get (ls.all.getD i 0)= .row true t xs0:=fun i h1 h2=>by
  obtain⟨J,t,xs,lj,v,c1,c2,c3,c4,c5⟩:=hHof i h1 h2
  obtain⟨e1,t0,xs0,e2⟩:=hrow i h1 h2
  have hty:=hcty J _ _ c1 c2
  have hb:Nat.blt i ls.all.length=true:=by rw[Nl];exact h2
  have e2':stS.rs.getD i .dead= .row true t0 xs0:=e2
  have:Ty.sl t=Ty.sl t0:=by
   have hty:Ty.sl t=_:=hty
   rw[hty];simp only[gC,hb,cond_true,e2']
  injection this with this
  subst this
  exact⟨J,t,xs,lj,v,c1,c2,c3,c4,c5,getI _ _ (by rw[hupd];exact Md.2 (.inl (vI _ _ _ _ _ J i t xs c1 c2 h2))),xs0,by rw[←e1];exact e2⟩
 have getVv: ∀r∈ls.lv,∃seg,(stC.bz upd).get r= .var seg:=fun r hr=>by
  rw[←hkeysV]at hr
  obtain⟨y,hy,e⟩:=M5.1 hr
  obtain⟨seg,e2⟩:=sP _ _ _ y hy
  refine⟨seg,getI r _ ?_⟩
  rw[hupd]
  refine Md.2 (.inr ?_)
  rw[←e,←e2];exact hy
 have stV: ∀r∈ls.lv,∃cs0 arr te,st.get r= .var cs0∧w.heap[(g r).b]?=some (.cells arr te (0,0)):=fun r hr=>by
  obtain⟨i,hi⟩:=N4.1 hr
  obtain⟨cs,cs0,arr,te,p1,p2,p3,p4,_⟩:=pt.var i r hi
  exact⟨cs0,arr,te,p2,p4⟩
 have memL: ∀r,r∈ls.all→r∈ls.lv∨ ∃i,ls.lv.length≤i∧i<ls.all.length∧r=ls.all.getD i 0:=fun r hr=>by
  obtain⟨i,hi⟩:=N4.1 hr
  have hl:=(Nv.1 hi).1
  rcases Nh i ls.lv.length with h|h
  ·left
   simp only[cq.all]at hi
   rw[Mq h]at hi
   exact N4.2 ⟨i,hi⟩
  ·right
   exact⟨i,h,hl,by simp only[Mk,hi];rfl⟩
 have memV: ∀r,r∈ls.lv→r∈ls.all:=fun r hr=>by simp only[cq.all,Md];exact .inl hr
 have g2V': ∀r∈ls.lv,g2 r=g r:=fun r hr=>by
  obtain⟨i,hi⟩:=N4.1 hr
  exact g2V i r hi
 have getO': ∀r,r∉ls.all→(∀cs,st.get r≠ .var cs)→(stC.bz upd).get r=st.get r:=fun r hr h=>by
  rw[getO r hr,u9 1 _ _ h,u9 0 _ _ h]
 have getOv: ∀r cs,r∉ls.all→st.get r= .var cs→(stC.bz upd).get r= .var (ij 0 ls.ln (ij 1 ls.ld cs)):=fun r cs hr h=>by
  rw[getO r hr,h,um,um]
 have HH: ∀r,r∉ls.all→mW st.get (stC.bz upd).get g g2 r fun _=>True:=fun r hr=>by
  by_cases hvr: ∃cs,st.get r= .var cs
  ·obtain⟨cs,hg⟩:=hvr
   have e:=getOv r cs hr hg
   exact⟨fun t ht=>by rw[e]at ht;simp[du]at ht,fun _=>⟨by rw[hg];rfl,by rw[g2N r hr]⟩⟩
  ·have e:=getO' r hr (fun cs h=>hvr ⟨cs,h⟩)
   exact⟨fun t ht=>⟨by rw[←e];exact ht,fun _ _=>by rw[g2N r hr]⟩,fun hv=>⟨by rw[←e];exact hv,by rw[g2N r hr]⟩⟩
 have HVs: ∀r∈ls.all,isVar ((stC.bz upd).get r)=true→isVar (st.get r)=true∧(g2 r).b=(g r).b:=fun r hr hv=>by
  rcases memL r hr with h|⟨i,h1,h2,rfl⟩
  ·obtain⟨cs0,_,_,e,_⟩:=stV r h
   exact⟨by rw[e];rfl,by rw[g2V' r h]⟩
  ·obtain⟨J,t,xs,lj,v,_,_,_,_,_,e,_⟩:=getR i h1 h2
   rw[e]at hv;cases hv
 have inD: ∀r∈ls.ld,∃i,ls.lv.length≤i∧i<ls.lv.length+ls.ld.length∧r=ls.all.getD i 0:=fun r hr=>by
  obtain⟨i,hi⟩:=N4.1 hr
  have hl:=(Nv.1 hi).1
  refine⟨ls.lv.length+i,by omega,by omega,?_⟩
  simp only[Mk,cq.all]
  rw[Mr (by omega),Lt,Mq hl,hi];rfl
 have inN: ∀r∈ls.ln,∃i,ls.lv.length≤i∧i<ls.all.length∧r=ls.all.getD i 0:=fun r hr=>by
  rcases memL r (by simp only[cq.all,Md];exact .inr (.inr hr))with h|h
  ·exfalso
   have hn:(ls.lv++(ls.ld++ls.ln)).Nodup:=hn
   exact(N7.1 hn).2.2 r h r (Md.2 (.inr hr)) rfl
  ·exact h
 have hAn:Ga st.get (stC.bz upd).get g g2 ls.ld ls.ln:=by
  refine⟨fun r hr=> ?_,fun r hr=> ?_,fun r h1 h2=> ?_⟩
  ·obtain⟨i,h1,h2,rfl⟩:=inD r hr
   obtain⟨J,t,xs,lj,v,c1,c2,c3,c4,c5,e,xs0,e0⟩:=getR i h1 (by omega)
   refine⟨by rw[e];rfl,fun t' ht=>⟨by rw[e]at ht;rw[e0];exact ht,?_⟩⟩
   rw[g2R i h1 (by omega)]
   show Hof i []=_
   have hJ:OC[i-ls.lv.length]?=some (.sl i [] none):=by
    show(eu ls.lv.length ls.ld.length stS.rs)[i-ls.lv.length]?=_
    unfold eu
    rw[Mq (by simp;omega)]
    have:i-ls.lv.length<ls.ld.length:=by omega
    have e:ls.lv.length+(i-ls.lv.length)=i:=by omega
    simp[this,e]
   have hJJ:=hJinj i J _ h1 (by omega) c1 hJ
   subst hJJ
   have hv:valsF[i-ls.lv.length]?=some ((gS i).H []):=by
    show(Dv++_)[i-ls.lv.length]?=_
    rw[Mq (by simp[Dv];omega)]
    have:i-ls.lv.length<ls.ld.length:=by omega
    have e:ls.lv.length+(i-ls.lv.length)=i:=by omega
    simp[Dv,this,e]
   rw[hv]at c4
   injection c4 with c4
   rw[c5.1,←c4,pt.gs i (by omega)]
  ·obtain⟨i,h1,h2,rfl⟩:=inN r hr
   obtain⟨J,t,xs,lj,v,c1,c2,c3,c4,c5,e,xs0,e0⟩:=getR i h1 h2
   exact⟨by rw[e];rfl,fun t' ht=>by rw[e]at ht;rw[e0];exact ht⟩
  ·by_cases hr:r∈ls.all
   ·have hv:r∈ls.lv:=by
     simp only[cq.all,Md]at hr
     rcases hr with h|h|h
     ·exact h
     ·exact absurd h h1
     ·exact absurd h h2
    obtain⟨seg,e⟩:=getVv r hv
    exact⟨fun t ht=>by rw[e]at ht;simp[du]at ht,fun hh=>HVs r hr hh⟩
   ·exact HH r hr
 have hOCr: ∀j,OC[ls.ld.length+j]?=((stS.rs.take ls.lv.length).flatMap fO)[j]?:=fun j=>by
  show(eu ls.lv.length ls.ld.length stS.rs)[_]?=_
  unfold eu
  rw[Mr (by simp)]
  simp
 have hvFr: ∀j,valsF[ls.ld.length+j]?=(arrs.flatMap (·.toList))[j]?:=fun j=>by
  show(Dv++_)[_]?=_
  rw[Mr (by simp[Dv])]
  simp[Dv]
 have hcellsV:aj (stC.bz upd).get g2 (jT (ls.lv.flatMap (bD st.get)) (cells.drop ls.ld.length)) (arrs.flatMap (·.toList)):=by
  have hl1:(ls.lv.flatMap (bD st.get)).length=((stS.rs.take ls.lv.length).flatMap fO).length:=hsubl.1.symm
  refine sO _ _ _ (by rw[List.length_drop,hcl,hOCl,hl1];omega) (by rw[fC a2,hfinl,hl1]) fun j o b v ho hb hv=> ?_
  rw[N8]at hb
  have hj:j<((stS.rs.take ls.lv.length).flatMap fO).length:=by rw[←hl1];exact(Nv.1 ho).1
  generalize hc0:((stS.rs.take ls.lv.length).flatMap fO)[j]=c0
  have hc:((stS.rs.take ls.lv.length).flatMap fO)[j]?=some c0:=by rw[MC hj,hc0]
  have hOCj:OC[ls.ld.length+j]?=some c0:=by rw[hOCr,hc]
  have hvj:valsF[ls.ld.length+j]?=some v:=by rw[hvFr,hv]
  have hsc:=hsubl.2 j o c0 ho hc
  have hty:=hcty _ c0 b hOCj hb
  obtain⟨b',lj,H,q1,q2,q3⟩:=b5 _ v hvj
  rw[hb]at q1
  injection q1 with q1
  subst q1
  obtain⟨tb,db⟩:=b
  simp only at hty
  cases tb with
  |int k=>have q3:v= .int k db:=q3;subst q3;show ae _ _ (.int k db) _;rw[ae]
  |bool=>have q3:v= .bool db:=q3;subst q3;show ae _ _ (.bool db) _;rw[ae]
  |str=>have q3:v= .string db:=q3;subst q3;show ae _ _ (.str db) _;rw[ae]
  |pair a b=>exact q3.elim
  |sl t=>
   obtain⟨i,rfl,hi⟩:=CT hty.symm
   have ho':=Gd hsc hi
   subst ho'
   have him:i∈fK ls.all.length stS.rs OC:=(mM _ _ _ _).2 ⟨hi,_,hOCj⟩
   rw[hidx']at him
   simp only[Lx]at him
   show ae _ _ (.sl (ls.all.getD i 0) [] none) v
   obtain⟨J,t',xs,lj',v',c1,c2,c3,c4,c5,e,_⟩:=getR i him.1 hi
   have hJJ:=hJinj i _ _ him.1 hi c1 hOCj
   subst hJJ
   rw[hvj]at c4
   injection c4 with c4
   subst c4
   rw[ae]
   refine⟨?_,fun t0 e0 _ _=> ?_⟩
   ·obtain⟨a,n,c,hs⟩:=AI q3.2.1
    exact⟨a,n,c,by rw[←q3.1];exact hs⟩
   ·rw[g2R i him.1 hi]
    exact c5.1.symm
  |unit=>
   show ae _ _ o v
   have hfj: ∃f,((stF.top.drop ls.lv.length).take ls.ld.length++fin)[ls.ld.length+j]?=some f:=by
    have:ls.ld.length+j<((stF.top.drop ls.lv.length).take ls.ld.length++fin).length:=by rw[hFl,hOCl];omega
    exact⟨_,MC this⟩
   obtain⟨f,hf⟩:=hfj
   have hst:=vW _ _ _ (ls.ld.length+j) c0 f k8 (by rw[htys,Nz,hOCj,NI,hty]) (by rw[hOC,Nz,hOCj,NI,CP hty.symm]) hf
   rcases hst with e|hst
   ·subst e
    rw[EV hsc];simp[ae]
   ·have hv0: ∃v0,vals0[j]?=some v0:=by
     obtain⟨v0,h1,_⟩:=dz f1 ho
     exact⟨v0,h1⟩
    obtain⟨v0,hv0⟩:=hv0
    have e1:=sg f1 ho hv0
    have e2:=sg f2 hc hv0
    have e3:=sg hF hf hvj
    have e4:=Bg HVS hh c0 f v0 v hst e2 e3
    subst e4
    obtain⟨b0,ok',rs',hs',hok',_⟩:=hsc
    exact DS (fun r hr=>by rw[lY,if_pos hr]) HH HVs o b0 ok' c0 rs' f v hs' hok' hst e1
 have hsegs:=vG (get:=st.get) ls.lv _ arrs a1 hcellsV (fun i r arr hi ha=>by
  obtain⟨arr',te,x',y',cs,s1,s2,s3,s4,s5,s6,s7⟩:=a3 i r hi
  rw[ha]at s1
  injection s1 with s1
  subst s1
  obtain⟨cs1,cs0,arr0,te0,p1,p2,p3,_⟩:=pt.var i r hi
  obtain⟨h1,_⟩:=hvar i r hi
  rw[M6,if_pos h1,Nz,p1]at s2
  simp only[NI,Option.some.injEq]at s2
  rw[s7,←s2,qJ]
  unfold bD
  rw[p2]
  simp[fO,p3])
 have hkeep: ∀b,b<w.heap.size→ ¬mV st.get g ls.all b→w'.heap[b]?=w.heap[b]?:=fun b h1 h2=>by
  rw[KB.block b ⟨by show b<(blank _ _).heap.size;rw[iC];exact h1,h2⟩]
  exact fG h2
 have notL: ∀r b,r∉ls.all→Own st.get g r b→ ¬mV st.get g ls.all b:=fun r b hr h ⟨r',hr',h'⟩=>R.sep r r' b (fun e=>hr (e▸hr')) h h'
 have hsame: ∀r b,r∉ls.all→Own st.get g r b→w'.heap[b]?=w.heap[b]?:=fun r b hr h=>hkeep b (iB R h) (notL r b hr h)
 have ownO: ∀r b,r∉ls.all→(Own (stC.bz upd).get g2 r b↔Own st.get g r b):=fun r b hr=>by
  cases hg:st.get r with
  |var cs=>unfold Own;rw[getOv r cs hr hg,hg];simp only[g2N r hr]
  |dead=>unfold Own;rw[getO' r hr (fun cs h=>by rw[hg]at h;cases h),hg]
  |row rw_ t xs=>unfold Own;rw[getO' r hr (fun cs h=>by rw[hg]at h;cases h),hg];cases rw_<;>simp only[g2N r hr]
  |half t xs=>unfold Own;rw[getO' r hr (fun cs h=>by rw[hg]at h;cases h),hg];simp only[g2N r hr]
  |sh t xs=>unfold Own;rw[getO' r hr (fun cs h=>by rw[hg]at h;cases h),hg];simp only[g2N r hr]
  |pend r' p t xs=>
   have hr':r'∉ls.all:=fun h=>hq r' h r r' p t xs hg rfl
   unfold Own;rw[getO' r hr (fun cs h=>by rw[hg]at h;cases h),hg];simp only[g2N r hr,oR,g2N r' hr']
 have ownV: ∀r b,r∈ls.lv→Own (stC.bz upd).get g2 r b→b=(g r).b∧Own st.get g r b∧ ∃x cs,stF.get x= .var cs∧Own stF.get g' x b:=fun r b hr h=>by
  obtain⟨seg,e⟩:=getVv r hr
  obtain⟨cs0,_,_,e0,_⟩:=stV r hr
  obtain⟨i,hi⟩:=N4.1 hr
  obtain⟨arr',te,x',y',cs,s1,s2,s3,s4,s5,s6,s7⟩:=a3 i r hi
  have hb:b=(g r).b:=by
   unfold Own at h
   rw[e]at h
   rw[h,g2V' r hr]
  refine⟨hb,?_,x',cs,s5,?_⟩
  ·unfold Own;rw[e0];exact hb
  ·unfold Own;rw[s5];rw[hb,s6]
 have ownR: ∀i b,ls.lv.length≤i→i<ls.all.length→Own (stC.bz upd).get g2 (ls.all.getD i 0) b→ ∃(J:Nat) (lj:List Nat),OC[J]?=some (AV.sl i [] none)∧ll[J]?=some lj∧ ∃r'∈lj,Own stF.get g' r' b:=fun i b h1 h2 h=>by
  obtain⟨J,t,xs,lj,v,c1,c2,c3,c4,c5,e,_⟩:=getR i h1 h2
  unfold Own at h
  rw[e]at h
  simp only[g2R i h1 h2]at h
  exact⟨J,lj,c1,c3,c5.2.2.1 b h⟩
 have inl': ∀J lj,ll[J]?=some lj→ ∀r∈lj,r∈l':=fun J lj h r hr=>by
  rw[b1]
  exact List.mem_flatten.2 ⟨lj,N4.2 ⟨J,h⟩,hr⟩
 have lowF: ∀r b,Own stF.get g' r b→w.heap.size≤b∨mV st.get g ls.all b:=fun r b h=>by
  have: ¬(nz w (mV st.get g ls.all)).fT b:=fun hk=>R'.low r b h (hle.fT b hk)
  by_cases hL:mV st.get g ls.all b
  ·exact .inr hL
  ·left
   exact Oa fun hlt=>this ⟨by show b<(blank _ _).heap.size;rw[iC];exact hlt,hL⟩
 have lowF': ∀r b,Own stF.get g' r b→ ¬w0.fT b:=fun r b h=>(lowF r b h).elim R.fresh (mV.low R)
 have disO: ∀r r' b,r∉ls.all→Own st.get g r b→Own stF.get g' r' b→False:=fun r r' b hr h h'=>by
  rcases lowF r' b h' with h2|h2
  ·have:=iB R h;omega
  ·exact notL r b hr h h2
 have hflat:=List.pairwise_flatten.1 (show List.Pairwise (fun a b=>a≠b) ll.flatten by rw[←b1];exact hnodup')
 have hljn: ∀(J:Nat) lj,ll[J]?=some lj→lj.Nodup:=fun J lj h=>hflat.1 lj (N4.2 ⟨J,h⟩)
 have hljd: ∀(J J':Nat) lj lj' r,J≠J'→ll[J]?=some lj→ll[J']?=some lj'→r∈lj→r∈lj'→False:=fun J J' lj lj' r hne h h' hr hr'=>by
  obtain⟨q1,q2⟩:=Nv.1 h
  obtain⟨q3,q4⟩:=Nv.1 h'
  have hp:=List.pairwise_iff_getElem.1 hflat.2
  rcases Nat.lt_or_gt_of_ne hne with hlt|hgt
  ·exact hp J J' q1 q3 hlt r (by rw[q2];exact hr) r (by rw[q4];exact hr') rfl
  ·exact hp J' J q3 q1 hgt r (by rw[q4];exact hr') r (by rw[q2];exact hr) rfl
 have hfrC:(stC.bz upd).fr=st.fr.map fun f=>ij 0 ls.ln (ij 1 ls.ld f):=by
  show(gQ 0 ls.ln (gQ 1 ls.ld st)).fr=_
  rw[rZ,rZ,N6];rfl
 have hothK: ∀(k:Nat) (o:Obj),w.heap[k]?=some o→o.isCells=false→w'.heap[k]?=some o:=fun k o h1 h2=>
  KB.oth k o ((fG fun⟨r,_,h⟩=>by rw[j9 R h o h1]at h2;cases h2).trans h1) h2
 have KW:dV w0 w0.v w':=⟨KB.os.trans R.below.os,KB.tape.trans R.below.tape,KB.output.trans R.below.output,by have:=KB.size;rw[show(nz w (mV st.get g ls.all)).v.heap.size=w.heap.size from iC _ _]at this;exact Ob R.below.size this,fun k hk=>(hkeep k (by have:=hk.1;have:=R.below.size;omega) fun h=>mV.low R h hk).trans (R.below.block k hk),fun k o h1 h2=>hothK k o (R.below.oth k o h1 h2) h2⟩
 refine⟨g2,⟨KW,fun r=> ?_,fun r r' b hne h1 h2=> ?_,fun r b h=> ?_,?_,fun fr hfr r hr=> ?_,fun r z hz=> ?_,fun r hr=> ?_,R.marks.step hothK⟩,fun r hr=> ?_,?_⟩
 ·
  by_cases hr:r∈ls.all
  ·rcases memL r hr with hr'|⟨i,h1,h2,rfl⟩
   ·obtain⟨i,hi⟩:=N4.1 hr'
    obtain⟨arr',te,x',y',cs,s1,s2,s3,s4,s5,s6,s7⟩:=a3 i r hi
    obtain⟨seg,p1,p2,p3⟩:=hsegs i r arr' hi s1
    have e:=getI r _ (by rw[hupd];exact Md.2 (.inr p1))
    unfold bw
    rw[e]
    exact⟨arr',te,by rw[g2V' r hr'];exact s3,s4,p2⟩
   ·obtain⟨J,t,xs,lj,v,c1,c2,c3,c4,c5,e,_⟩:=getR i h1 h2
    unfold bw
    rw[e]
    simp only[g2R i h1 h2]
    exact⟨c5.2.1,c5.2.2.2 (hljn J lj c3)⟩
  ·have h:=R.roots r
   unfold bw at h⊢
   cases hg:st.get r with
   |dead=>rw[getO' r hr (fun cs h=>by rw[hg]at h;cases h),hg];trivial
   |var cs=>
    rw[hg]at h
    obtain⟨arr,te,h1,h2,h3⟩:=h
    rw[getOv r cs hr hg]
    exact⟨arr,te,by rw[g2N r hr,hsame r _ hr (by unfold Own;rw[hg])];exact h1,h2,y9 hAn _ _ h3⟩
   |row rw_ t xs=>
    rw[hg]at h
    rw[getO' r hr (fun cs h=>by rw[hg]at h;cases h),hg]
    cases rw_ with
    |true=>
     simp only[g2N r hr]
     exact⟨gw (fun b hb=>hsame r b hr (by unfold Own;rw[hg];exact hb)) h.1,h.2⟩
    |false=>simp only at h⊢;rw[g2N r hr];exact h
   |half t xs=>
    rw[hg]at h
    obtain⟨a,n,c,h1,h2,h3,hz,h4,h5⟩:=h
    rw[getO' r hr (fun cs h=>by rw[hg]at h;cases h),hg]
    simp only[g2N r hr]
    exact⟨a,n,c,h1,h2,h3,hz,gw (fun b hb=>hsame r b hr (by unfold Own;rw[hg];exact(lP h1).1 hb)) h4,h5⟩
   |sh t xs=>
    rw[hg]at h
    rw[getO' r hr (fun cs h=>by rw[hg]at h;cases h),hg]
    simp only[g2N r hr]
    exact h.frame (fun b hb=>hsame r b hr (by unfold Own;rw[hg];exact hb)) R.below KW
   |pend r' p t xs=>
    rw[hg]at h
    obtain⟨h1,h2,t',xs',h3,h4,h5⟩:=h
    have hr':r'∉ls.all:=fun h=>hq r' h r r' p t xs hg rfl
    rw[getO' r hr (fun cs h=>by rw[hg]at h;cases h),hg]
    refine⟨?_,h2,t',xs',by rw[getO' r' hr' (fun cs h=>by rw[h3]at h;cases h)];exact h3,h4,?_⟩
    ·rw[g2N r hr]
     refine gw (fun b hb=> ?_) h1
     by_cases hh:oR g r' p b
     ·exact hsame r' b hr' (by unfold Own;rw[h3];exact h5 b hh)
     ·exact hsame r b hr (by unfold Own;rw[hg];exact⟨hb,hh⟩)
    ·intro b hb
     unfold oR at hb
     rw[g2N r' hr']at hb⊢
     exact h5 b hb
 ·
  have key: ∀r r' b,r≠r'→Own (stC.bz upd).get g2 r b→Own (stC.bz upd).get g2 r' b→r∈ls.all→False:=by
   intro r r' b hne h1 h2 hr
   rcases memL r hr with hv|⟨i,i1,i2,rfl⟩
   ·obtain⟨_,q2,x',cs,q3,q4⟩:=ownV r b hv h1
    by_cases hr':r'∈ls.all
    ·rcases memL r' hr' with hv'|⟨i,i1,i2,rfl⟩
     ·exact R.sep r r' b hne q2 (ownV r' b hv' h2).2.1
     ·obtain⟨J,lj,c1,c2,r3,c3,c4⟩:=ownR i b i1 i2 h2
      obtain⟨t,xs,e⟩:=b4 r3 (inl' J lj c2 r3 c3)
      exact R'.sep x' r3 b (fun e'=>by subst e';rw[q3]at e;cases e) q4 c4
    ·exact R.sep r r' b hne q2 ((ownO r' b hr').1 h2)
   ·obtain⟨J,lj,c1,c2,r3,c3,c4⟩:=ownR i b i1 i2 h1
    by_cases hr':r'∈ls.all
    ·rcases memL r' hr' with hv'|⟨i',i1',i2',rfl⟩
     ·obtain⟨_,q2,x',cs,q3,q4⟩:=ownV r' b hv' h2
      obtain⟨t,xs,e⟩:=b4 r3 (inl' J lj c2 r3 c3)
      exact R'.sep x' r3 b (fun e'=>by subst e';rw[q3]at e;cases e) q4 c4
     ·obtain⟨J',lj',c1',c2',r3',c3',c4'⟩:=ownR i' b i1' i2' h2
      by_cases e:r3=r3'
      ·subst e
       by_cases eJ:J=J'
       ·subst eJ
        rw[c1]at c1'
        simp only[Option.some.injEq,AV.sl.injEq,and_true]at c1'
        subst c1'
        exact hne rfl
       ·exact hljd J J' lj lj' r3 eJ c2 c2' c3 c3'
      ·exact R'.sep r3 r3' b e c4 c4'
    ·exact disO r' r3 b hr' ((ownO r' b hr').1 h2) c4
  by_cases hr:r∈ls.all
  ·exact key r r' b hne h1 h2 hr
  ·by_cases hr':r'∈ls.all
   ·exact key r' r b (fun e=>hne e.symm) h2 h1 hr'
   ·exact R.sep r r' b hne ((ownO r b hr).1 h1) ((ownO r' b hr').1 h2)
 ·
  by_cases hr:r∈ls.all
  ·rcases memL r hr with hv|⟨i,i1,i2,rfl⟩
   ·exact R.low r b (ownV r b hv h).2.1
   ·obtain⟨J,lj,c1,c2,r3,c3,c4⟩:=ownR i b i1 i2 h
    exact lowF' r3 b c4
  ·exact R.low r b ((ownO r b hr).1 h)
 ·rw[hfrC];exact vK hAn R.frames
 ·rw[hfrC]at hfr
  obtain⟨f0,hf0,rfl⟩:=M5.1 hfr
  exact R.bornF f0 hf0 r (mN 1 _ _ r (mN 0 _ _ r hr))
 ·by_cases hr:r∈ls.all
  ·rcases memL r hr with hv|⟨i,i1,i2,rfl⟩
   ·obtain⟨i,hi⟩:=N4.1 hv
    obtain⟨arr',te,x',y',cs,s1,s2,s3,s4,s5,s6,s7⟩:=a3 i r hi
    obtain⟨seg,p1,p2,p3⟩:=hsegs i r arr' hi s1
    have e:=getI r _ (by rw[hupd];exact Md.2 (.inr p1))
    rw[e]at hz
    have hz:=qM _ _ z (p3 z hz)
    have: ∀(V:List Nat),z∈AV.ag (V.flatMap (bD st.get))→ ∃r,z∈(st.get r).roots:=by
     intro V
     induction V with
     |nil=>intro h;simp[AV.ag]at h
     |cons a V ih=>
      intro h
      simp only[NO]at h
      rcases iq h with h|h
      ·refine⟨a,?_⟩
       unfold bD at h
       cases hg:st.get a<;>rw[hg]at h<;>first|exact h|simp[AV.ag]at h
      ·exact ih h
    obtain⟨r1,h1⟩:=this _ hz
    exact R.bornR r1 z h1
   ·obtain⟨J,t,xs,lj,v,c1,c2,c3,c4,c5,e,_⟩:=getR i i1 i2
    rw[e]at hz;simp[aB.roots]at hz
  ·by_cases hvr: ∃cs,st.get r= .var cs
   ·obtain⟨cs,hg⟩:=hvr
    rw[getOv r cs hr hg]at hz
    exact R.bornR r z (by rw[hg];exact mN 1 _ _ z (mN 0 _ _ z hz))
   ·rw[getO' r hr (fun cs h=>hvr ⟨cs,h⟩)]at hz
    exact R.bornR r z hz
 ·refine R.alive r fun e=> ?_
  by_cases h:r∈ls.all
  ·rcases memL r h with hv|⟨i,i1,i2,rfl⟩
   ·obtain⟨cs0,_,_,e0,_⟩:=stV r hv
    rw[e0]at e;cases e
   ·obtain⟨J,t,xs,lj,v,c1,c2,c3,c4,c5,_,xs0,e0⟩:=getR i i1 i2
    rw[e0]at e;cases e
  ·exact hr (by rw[getO' r h (fun cs h=>by rw[e]at h;cases h)];exact e)
 ·have h1:=(rf upd stC)
  have h2:stC.rs.length=st.rs.length:=by
   show(gQ 0 ls.ln (gQ 1 ls.ld st)).rs.length=_
   rw[qH,qH]
  have:=hlt r hr
  omega
 ·
  obtain⟨f1',f2',f3'⟩:=kO (dK P f) vs' us' k4 hA
  obtain⟨q1,_,q3,q4,_⟩:=nq R'.roots R'.sep f2' (resTy P f) 0 ok1 ok2 y l rest rest2 hrd hgv k1 k2
  refine⟨f1',_,q1,q4 (N7.1 k6).1,fun b hb=> ?_⟩
  obtain⟨r3,hr3,ho⟩:=q3 b hb
  have hr3row:=yq _ _ _ _ _ hgv k2 r3 hr3
  refine⟨lowF' r3 b ho,fun r h=> ?_⟩
  by_cases hr:r∈ls.all
  ·rcases memL r hr with hv|⟨i,i1,i2,rfl⟩
   ·obtain⟨_,q2,x',cs,q3',q4'⟩:=ownV r b hv h
    obtain⟨t,xs,e⟩:=hr3row
    exact R'.sep x' r3 b (fun e'=>by subst e';rw[q3']at e;cases e) q4' ho
   ·obtain⟨J,lj,c1,c2,r4,c3,c4⟩:=ownR i b i1 i2 h
    exact R'.sep r3 r4 b ((N7.1 k6).2.2 r3 hr3 r4 (inl' J lj c2 r4 c3)) ho c4
  ·exact disO r r3 b hr ((ownO r b hr).1 h) ho
theorem Is{env:Env P}(hE:kF P env){m3:Bool}{f:Nat}{vs vs':List AV}(h:ioK (R:=List AV×St) env m3 f vs st (fun vs st=>some (vs,st))=some (vs',st')):AR P f vs st vs' st':=by
 unfold ioK at h
 simp only[fF]at h
 generalize hlv:yL st.get vs=lv at h
 generalize hld:xi m3 st.get vs=ld at h
 generalize hln:xJ m3 st.get lv=ln at h
 generalize hs:lO ⟨lv,ld,ln⟩ st vs=s at h
 obtain⟨ok,stS⟩:=s
 simp only[St.force_eq,iK]at h
 obtain⟨hok,h⟩:=lz h
 obtain⟨k1,hok⟩:=af.1 hok
 obtain⟨k2,hok⟩:=af.1 hok
 obtain⟨k3,hok⟩:=af.1 hok
 have k1:(cq.all ⟨lv,ld,ln⟩).Nodup:=of_decide_eq_true k1
 have k2:cm st.rs (gK (cq.all ⟨lv,ld,ln⟩))=true:=k2
 have k3:fK (cq.all ⟨lv,ld,ln⟩).length stS.rs (eu lv.length ld.length stS.rs)=Ln lv.length (ld.length+ln.length):=of_decide_eq_true k3
 have h:N0 (mR env f lv.length ld.length (cq.all ⟨lv,ld,ln⟩).length (stS.rs.map aB.strip) stS) _=_:=h
 cases hr:mR env f lv.length ld.length (cq.all ⟨lv,ld,ln⟩).length (stS.rs.map aB.strip) stS with
 |none=>rw[hr]at h;cases h
 |some yx=>
 obtain⟨y,x⟩:=yx
 rw[hr]at h
 simp only[Oe]at h
 generalize hla:ia P true (dK P f) y (oE ⟨lv,ld,ln⟩ st (stS.rs.map aB.strip) x).rs.length=la at h
 obtain⟨vsR,rsR⟩:=la
 simp only[Option.some.injEq,Prod.mk.injEq]at h
 obtain⟨rfl,rfl⟩:=h
 unfold mR at hr
 rw[hE.det]at hr
 cases hin:env.inl (R:=List AV×St) f stS.top ⟨stS.fr.tail,stS.rs⟩ (fun vs st=>some (vs,st))with
 |none=>rw[hin]at hr;cases hr
 |some p=>
 obtain⟨vsF,stF⟩:=p
 rw[hin]at hr
 simp only[Oe]at hr
 obtain⟨hfn,hval⟩:=hE.inl f stS.top _ vsF stF hin
 refine⟨hfn,fun w0 g born acts w us R hlt hA hb=> ?_⟩
 have hq:=gH (st:=st) (l:=cq.all ⟨lv,ld,ln⟩) k2 fun r hr=>M5.2 ⟨r,hr,rfl⟩
 have hD: ∀r∈ld++ln,∃t xs,st.get r= .row true t xs:=fun r hr=>by
  rcases Md.1 hr with hr|hr
  ·rw[←hld]at hr
   obtain⟨v,_,hv⟩:=N9.1 hr
   exact q9 hv
  ·rw[←hln]at hr
   obtain⟨v,_,hv⟩:=N9.1 hr
   exact q9 hv
 obtain⟨gS,actH,Rp,Ap,Bp,pt⟩:=xc (m3:=m3) R hq k1 hD hA hs hok
 refine Calls.mono (hval _ gS _ [actH] w us Rp (fun r hr=>hr) Ap Bp) fun e w' he=> ?_
 obtain⟨us',g',born',rfl,⟨wB,hle,R'⟩,_,A',_⟩:=he
 obtain⟨g2,R2,hlt2,hF,G,hrep,hsep,hblk⟩:=Bu R hq k1 hlt k3 pt hle R' A' hr
 obtain⟨g3,b3,R3,L3,A3,B3,_⟩:=kS (P:=P) (acts:=acts) true (dK P f) y us' (dN us') _ g2 born _ 0 G vsR rsR R2 hF (fun k _=>by rw[Ni]) hrep (fun _=>hsep) (fun _ b hb=>hblk b hb) hla
  (fun i h1 _ hb=>by have:=hlt2 i hb;omega)
 refine⟨us',g3,b3,rfl,.of R3,fun r hr=> ?_,A3,fun r hr=>(L3.born_iff r).2 (.inr (B3 r hr))⟩
 have hlen:=rf (aw (oE ⟨lv,ld,ln⟩ st (stS.rs.map aB.strip) x).rs.length rsR) (oE ⟨lv,ld,ln⟩ st (stS.rs.map aB.strip) x)
 rcases(L3.born_iff r).1 hr with h|h
 ·have:=hlt2 r h
  exact Nj this hlen
 ·have key: ∀(l:List (Nat×aB)) (st:St) (r:Nat),r∈l.map (·.1)→r<(st.bz l).rs.length:=by
   intro l
   induction l with
   |nil=>intro st r h;simp at h
   |cons a l ih=>
    intro st r h
    obtain⟨i,z⟩:=a
    rw[lW]
    simp only[MP,MH]at h
    rcases h with rfl|h
    ·refine Nj ?_ (rf l _)
     show r<(setAt st.rs r z).length
     unfold setAt
     cases hb:Nat.blt r st.rs.length with
     |true=>rw[Nl]at hb;simpa using hb
     |false=>simp;omega
    ·exact ih _ r h
  exact key _ _ r ((cI _ _ _).2 h)
theorem F1{ls:cq}{stF:St}{actH:Act}{f n:Nat}{rs0:List aB}{vs':List AV}{us':List Value}{y:den (resTy P f)}{x:den (uU 0 0 n rs0)}{bornF:Nat→Prop}
  (R:Rel w0 st g born acts w) (hq: ∀r∈ls.all,∀j r' p t xs,st.get j= .pend r' p t xs→r'≠r)
  {wB:cP} (hle:(nz w (mV st.get g ls.all)).le wB) (R':Rel wB stF g' bornF [actH] w') (hA:aj stF.get g' vs' us') (hend:nE P f 0 0 n rs0 vs' stF=some (y,x)):
  Rel w0 (st.bz (fj ls.all)) g born acts w'∧C5 P (dK P f) us'∧
   ∃G,Rep w' true (jd P (dK P f)) y G 0 (fun k=>(dN us')[k]?)∧Sep (jd P (dK P f)) y G 0∧ ∀b,Blk (jd P (dK P f)) y G 0 b→ ¬w0.fT b∧ ∀r,¬Own (st.bz (fj ls.all)).get g r b:=by
 have KB:=hle.run R'.below
 have hkeep: ∀b,b<w.heap.size→ ¬mV st.get g ls.all b→w'.heap[b]?=w.heap[b]?:=fun b h1 h2=>by
  rw[KB.block b ⟨by show b<(blank _ _).heap.size;rw[iC];exact h1,h2⟩]
  exact fG h2
 have hothK: ∀(k:Nat) (o:Obj),w.heap[k]?=some o→o.isCells=false→w'.heap[k]?=some o:=fun k o h1 h2=>
  KB.oth k o ((fG fun⟨r,_,h⟩=>by rw[j9 R h o h1]at h2;cases h2).trans h1) h2
 have lowF: ∀r b,Own stF.get g' r b→w.heap.size≤b∨mV st.get g ls.all b:=fun r b h=>by
  have: ¬(nz w (mV st.get g ls.all)).fT b:=fun hk=>R'.low r b h (hle.fT b hk)
  by_cases hL:mV st.get g ls.all b
  ·exact .inr hL
  ·left
   exact Oa fun hlt=>this ⟨by show b<(blank _ _).heap.size;rw[iC];exact hlt,hL⟩
 unfold nE at hend
 generalize hvo:varsOf stF.get (stF.top.take 0) (rs0.take 0)=vo at hend
 obtain⟨ok0,fin⟩:=vo
 simp only at hend
 generalize hrd:cF stF.get (resTy P f) (vs'.flatMap AV.cells)=rd at hend
 obtain⟨ok1,y1,rest⟩:=rd
 simp only at hend
 generalize hgv:gives stF.get (resTy P f) (vs'.flatMap AV.cells)=gv at hend
 obtain⟨ok2,l,rest2⟩:=gv
 simp only at hend
 generalize hbl:vi stF.get (kI 0 0 n rs0) ((stF.top.drop 0).take 0++fin)=bl at hend
 obtain⟨ok3,x,l'⟩:=bl
 simp only at hend
 obtain⟨hok,hend⟩:=lz hend
 simp only[Option.some.injEq,Prod.mk.injEq]at hend
 obtain⟨rfl,rfl⟩:=hend
 obtain⟨k0,hok⟩:=aJ.1 hok
 obtain⟨k1,hok⟩:=aJ.1 hok
 obtain⟨k2,hok⟩:=aJ.1 hok
 obtain⟨k3,hok⟩:=aJ.1 hok
 obtain⟨k4,hok⟩:=af.1 hok
 obtain⟨_,hok⟩:=af.1 hok
 obtain⟨k6,hok⟩:=af.1 hok
 have k6:(l++l').Nodup:=of_decide_eq_true k6
 obtain⟨f1',f2',f3'⟩:=kO (dK P f) vs' us' k4 hA
 obtain⟨q1,_,q3,q4,_⟩:=nq R'.roots R'.sep f2' (resTy P f) 0 ok1 ok2 y l rest rest2 hrd hgv k1 k2
 refine⟨wT (rh ls.all st R hq) ⟨KB.os,KB.tape,KB.output,by have:=KB.size;rw[show(nz w (mV st.get g ls.all)).v.heap.size=w.heap.size from iC _ _]at this;exact this,fun k hk=> ?_,hothK⟩ (fun r b h=> ?_),f1',_,q1,q4 (N7.1 k6).1,fun b hb=> ?_⟩
 ·have h1:=hk.1
  have h2:=R.below.size
  exact hkeep k (by omega) fun h=>mV.low R h hk
 ·obtain⟨_,h2,h3⟩:=qX R hq h
  exact hkeep b (iB R h2) h3
 ·obtain⟨r3,hr3,ho⟩:=q3 b hb
  refine⟨(lowF r3 b ho).elim R.fresh (mV.low R),fun r h=> ?_⟩
  obtain⟨_,h2,h3⟩:=qX R hq h
  rcases lowF r3 b ho with h4|h4
  ·have:=iB R h2;omega
  ·exact h3 h4
theorem Hp{env:Env P}(hE:kF P env){f:Nat}{vs vs':List AV}{base:Nat}{upd:List (Nat×aB)}{rd qu:List Nat}
  (h:yZ (R:=List AV×List (Nat×aB)×List Nat×List Nat) env f vs st base (fun a b c d=>some (a,b,c,d))=some (vs',upd,rd,qu)):
  (∃fn,P.funcs[f]?=some fn∧fn.body.isSome=true)∧ ∀(w0:cP) (g:bm) (born:Nat→Prop) (acts:List Act) (w:World) (us:List Value),Rel w0 st g born acts w→(∀r,born r→r<st.rs.length)→
   aj st.get g vs us→(∀r∈AV.ag vs,born r)→(∀i∈upd.map (·.1),base≤i→ ¬born i)→
   Calls P f us.toArray w fun e w'=> ∃us' g' born',e= .returned (qD us')∧Rel w0 (st.bz upd) g' born' acts w'∧(∀r,born' r→born r∨r∈upd.map (·.1))∧aj (st.bz upd).get g' vs' us'∧ ∀r∈AV.ag vs',born' r:=by
 unfold yZ at h
 simp only[fF]at h
 generalize hlv:yL st.get vs=lv at h
 generalize hs:lO ⟨lv,[],[]⟩ st vs=s at h
 obtain⟨ok,stS⟩:=s
 simp only[St.force_eq,iK]at h
 obtain⟨hok,h⟩:=lz h
 obtain⟨k1,hok⟩:=af.1 hok
 obtain⟨k2,hok⟩:=af.1 hok
 obtain⟨k3,hok⟩:=af.1 hok
 have k1:(cq.all ⟨lv,[],[]⟩).Nodup:=of_decide_eq_true k1
 have k2:cm st.rs (gK (cq.all ⟨lv,[],[]⟩))=true:=k2
 have k3:fK (cq.all ⟨lv,[],[]⟩).length stS.rs (eu lv.length 0 stS.rs)=Ln lv.length 0:=of_decide_eq_true k3
 have h:N0 (mR env f lv.length 0 (cq.all ⟨lv,[],[]⟩).length (stS.rs.map aB.strip) stS) _=_:=h
 cases hr:mR env f lv.length 0 (cq.all ⟨lv,[],[]⟩).length (stS.rs.map aB.strip) stS with
 |none=>rw[hr]at h;cases h
 |some yx=>
 obtain⟨y,x⟩:=yx
 rw[hr]at h
 simp only[Oe]at h
 generalize hla:ia P true (dK P f) y base=la at h
 obtain⟨vsR,rsR⟩:=la
 simp only[Option.some.injEq,Prod.mk.injEq]at h
 obtain⟨rfl,rfl,-,-⟩:=h
 unfold mR at hr
 rw[hE.det]at hr
 cases hin:env.inl (R:=List AV×St) f stS.top ⟨stS.fr.tail,stS.rs⟩ (fun vs st=>some (vs,st))with
 |none=>rw[hin]at hr;cases hr
 |some p=>
 obtain⟨vsF,stF⟩:=p
 rw[hin]at hr
 simp only[Oe]at hr
 obtain⟨hfn,hval⟩:=hE.inl f stS.top _ vsF stF hin
 refine⟨hfn,fun w0 g born acts w us R hlt hA hb hfresh=> ?_⟩
 have hq:=gH (st:=st) (l:=cq.all ⟨lv,[],[]⟩) k2 fun r hr=>M5.2 ⟨r,hr,rfl⟩
 have hD: ∀r∈([]:List Nat)++ [],∃t xs,st.get r= .row true t xs:=fun r hr=>by cases hr
 obtain⟨gS,actH,Rp,Ap,Bp,pt⟩:=xc (m3:=false) (ls:=⟨lv,[],[]⟩) R hq k1 hD hA hs hok
 refine Calls.mono (hval _ gS _ [actH] w us Rp (fun r hr=>hr) Ap Bp) fun e w' he=> ?_
 obtain⟨us',g',born',rfl,⟨wB,hle,R'⟩,_,A',_⟩:=he
 obtain⟨g2,R2,hlt2,hF,G,hrep,hsep,hblk⟩:=Bu (ls:=⟨lv,[],[]⟩) R hq k1 hlt k3 pt hle R' A' hr
 have hst:oE ⟨lv,[],[]⟩ st (stS.rs.map aB.strip) x=st.bz (xI ⟨lv,[],[]⟩ st (stS.rs.map aB.strip) (jZ (kI lv.length 0 (cq.all ⟨lv,[],[]⟩).length (stS.rs.map aB.strip)) x)):=rfl
 rw[hst]at R2 hlt2 hblk
 obtain⟨g3,b3,R3,L3,A3,B3,_⟩:=kS (P:=P) (acts:=acts) true (dK P f) y us' (dN us') _ g2 born base 0 G vsR rsR R2 hF (fun k _=>by rw[Ni]) hrep (fun _=>hsep) (fun _ b hb=>hblk b hb) hla
  (fun i h1 h2=>hfresh i (by rw[NP,Md];exact .inr ((cI _ _ _).2 ⟨h1,h2⟩)) h1)
 rw[←kG]at R3 A3
 refine⟨us',g3,b3,rfl,R3,fun r hr=> ?_,A3,fun r hr=>(L3.born_iff r).2 (.inr (B3 r hr))⟩
 rw[NP,Md]
 exact((L3.born_iff r).1 hr).imp id fun h=> .inr ((cI _ _ _).2 h)
theorem Ii{env:Env P}(hE:kF P env){f:Nat}{vs vs':List AV}{base:Nat}{upd:List (Nat×aB)}{rd qu:List Nat}
  (h:ioC (R:=List AV×List (Nat×aB)×List Nat×List Nat) env f vs st base (fun a b c d=>some (a,b,c,d))=some (vs',upd,rd,qu)):
  (∃fn,P.funcs[f]?=some fn∧fn.body.isSome=true)∧ ∀(w0:cP) (g:bm) (born:Nat→Prop) (acts:List Act) (w:World) (us:List Value),Rel w0 st g born acts w→(∀r,born r→r<st.rs.length)→
   aj st.get g vs us→(∀r∈AV.ag vs,born r)→(∀i∈upd.map (·.1),base≤i→ ¬born i)→
   Calls P f us.toArray w fun e w'=> ∃us' g' born',e= .returned (qD us')∧Rel w0 (st.bz upd) g' born' acts w'∧(∀r,born' r→born r∨r∈upd.map (·.1))∧aj (st.bz upd).get g' vs' us'∧ ∀r∈AV.ag vs',born' r:=by
 unfold ioC at h
 simp only[fF]at h
 generalize hlv:CO vs=lv at h
 generalize hln:xi true st.get vs++xJ true st.get lv=ln at h
 generalize hs:lO ⟨lv,[],ln⟩ st vs=s at h
 obtain⟨ok,stS⟩:=s
 simp only[St.force_eq,iK]at h
 obtain⟨hok,h⟩:=lz h
 obtain⟨k1,hok⟩:=af.1 hok
 obtain⟨k2,hok⟩:=af.1 hok
 have k1:(cq.all ⟨lv,[],ln⟩).Nodup:=of_decide_eq_true k1
 have k2:cm st.rs (gK (cq.all ⟨lv,[],ln⟩))=true:=k2
 have h:N0 (mR env f 0 0 (cq.all ⟨lv,[],ln⟩).length (stS.rs.map aB.strip) stS) _=_:=h
 cases hr:mR env f 0 0 (cq.all ⟨lv,[],ln⟩).length (stS.rs.map aB.strip) stS with
 |none=>rw[hr]at h;cases h
 |some yx=>
 obtain⟨y,x⟩:=yx
 rw[hr]at h
 simp only[Oe]at h
 generalize hla:ia P true (dK P f) y base=la at h
 obtain⟨vsR,rsR⟩:=la
 simp only[Option.some.injEq,Prod.mk.injEq]at h
 obtain⟨rfl,rfl,-,-⟩:=h
 unfold mR at hr
 rw[hE.det]at hr
 cases hin:env.inl (R:=List AV×St) f stS.top ⟨stS.fr.tail,stS.rs⟩ (fun vs st=>some (vs,st))with
 |none=>rw[hin]at hr;cases hr
 |some p=>
 obtain⟨vsF,stF⟩:=p
 rw[hin]at hr
 simp only[Oe]at hr
 obtain⟨hfn,hval⟩:=hE.inl f stS.top _ vsF stF hin
 refine⟨hfn,fun w0 g born acts w us R hlt hA hb hfresh=> ?_⟩
 have hq:=gH (st:=st) (l:=cq.all ⟨lv,[],ln⟩) k2 fun r hr=>M5.2 ⟨r,hr,rfl⟩
 have hD: ∀r∈([]:List Nat)++ln,∃t xs,st.get r= .row true t xs:=fun r hr=>by
  rw[N1,←hln]at hr
  rcases Md.1 hr with hr|hr
  ·obtain⟨v,_,hv⟩:=N9.1 hr
   exact q9 hv
  ·obtain⟨v,_,hv⟩:=N9.1 hr
   exact q9 hv
 obtain⟨gS,actH,Rp,Ap,Bp,pt⟩:=xc (m3:=true) (ls:=⟨lv,[],ln⟩) R hq k1 hD hA hs hok
 refine Calls.mono (hval _ gS _ [actH] w us Rp (fun r hr=>hr) Ap Bp) fun e w' he=> ?_
 obtain⟨us',g',born',rfl,⟨wB,hle,R'⟩,_,A',_⟩:=he
 obtain⟨R2,hF,G,hrep,hsep,hblk⟩:=F1 (ls:=⟨lv,[],ln⟩) R hq hle R' A' hr
 obtain⟨g3,b3,R3,L3,A3,B3,_⟩:=kS (P:=P) (acts:=acts) true (dK P f) y us' (dN us') _ g born base 0 G vsR rsR R2 hF (fun k _=>by rw[Ni]) hrep (fun _=>hsep) (fun _ b hb=>hblk b hb) hla
  (fun i h1 h2=>hfresh i (by rw[NP,Md];exact .inr ((cI _ _ _).2 ⟨h1,h2⟩)) h1)
 rw[←kG]at R3 A3
 refine⟨us',g3,b3,rfl,R3,fun r hr=> ?_,A3,fun r hr=>(L3.born_iff r).2 (.inr (B3 r hr))⟩
 rw[NP,Md]
 exact((L3.born_iff r).1 hr).imp id fun h=> .inr ((cI _ _ _).2 h)
theorem I0{m:Nat}{env:Env P}(hE:kF P env){f:Nat}{vs vs':List AV}{base:Nat}{upd:List (Nat×aB)}{rd qu:List Nat}
  (h:ioD (R:=List AV×List (Nat×aB)×List Nat×List Nat) m env f vs st base (fun a b c d=>some (a,b,c,d))=some (vs',upd,rd,qu)):
  (∃fn,P.funcs[f]?=some fn∧fn.body.isSome=true)∧ ∀(w0:cP) (g:bm) (born:Nat→Prop) (acts:List Act) (w:World) (us:List Value),Rel w0 st g born acts w→(∀r,born r→r<st.rs.length)→
   aj st.get g vs us→(∀r∈AV.ag vs,born r)→(∀i∈upd.map (·.1),base≤i→ ¬born i)→
   Calls P f us.toArray w fun e w'=> ∃us' g' born',e= .returned (qD us')∧Rel w0 (st.bz upd) g' born' acts w'∧(∀r,born' r→born r∨r∈upd.map (·.1))∧aj (st.bz upd).get g' vs' us'∧ ∀r∈AV.ag vs',born' r:=by
 unfold ioD at h
 cases hm:Nat.beq m 5 with
 |true=>rw[hm]at h;exact Ii hE h
 |false=>rw[hm]at h;exact Hp hE h
theorem HJ{cfg:Cfg}{env:Env P}(hE:kF P env){f:Nat}{vs vs':List AV}(h:CD (R:=List AV×St) P cfg env f vs st (fun vs st=>some (vs,st))=some (vs',st')):AR P f vs st vs' st':=by
 unfold CD at h
 cases hm:bK st.get (cfg.mode f) vs with
 |true=>rw[hm]at h;exact Is hE h
 |false=>rw[hm]at h;exact hE.inl f vs st vs' st' h
end
end
end Go.Am
end
section
/- Soundness: calls whose results share memory. -/
namespace Go.Am
noncomputable section
attribute [local instance] D.real
section
variable {P : Program} {cfg : Cfg} {env : Env P} {w0 : cP} {w w' : World} {st st' : St} {g g' : bm} {born : Nat → Prop} {a : Act} {as acts : List Act}
theorem qI: ∀(l seen:List Nat) (r:Nat),r∈kv seen l↔r∈seen∨r∈l
 | [],seen,r=>by simp[kv]
 |x::l,seen,r=>by
  unfold kv
  cases h:seen.contains x with
  |true=>
   simp only[cond_true]
   rw[qI l seen r]
   have:x∈seen:=by simpa using h
   simp only[MH]
   refine⟨fun h=>h.imp id .inr,fun h=> ?_⟩
   rcases h with h|rfl|h
   ·exact .inl h
   ·exact .inl this
   ·exact .inr h
  |false=>
   simp only[cond_false]
   rw[qI l (seen++ [x]) r]
   simp[or_assoc]
theorem BB(R:Rel w0 st g born acts w){vs:List AV}{us:List Value}(hA:aj st.get g vs us){L:List Nat}(hL:wv st.get vs=L)(hk: ∀r∈L,CM (st.get r)=true)
  {ts:List TypeId} {ok:List Tst} {x:den (jd P ts)} {rest:List AV} (hfit:mU P ts vs=true) (hrd:jm st.get (jd P ts) (vs.flatMap AV.cells)=(ok,x,rest)) (hok:bM ok):
  kf P (rA w0.w w fun b=> ∃r∈L,Own st.get g r b) ts us x:=by
 classical
 obtain⟨hF,hC,hCb⟩:=kO ts vs us hfit hA
 let get':Get:=fun r=>if r∈L then st.get r else match st.get r with
  | .row false t xs=> .row false t xs
  |_=> .dead
 have hget: ∀r,r∈L→get' r=st.get r:=fun r h=>if_pos h
 have heap: ∀r b,r∈L→Own st.get g r b→(rA w0.w w fun b=> ∃r∈L,Own st.get g r b).heap[b]?=w.heap[b]?:=fun r b hr h=>fG fun h'=>h' (.inr ⟨r,hr,h⟩)
 have hty: ∀r t,du (get' r)=some t→du (st.get r)=some t:=by
  intro r t h
  by_cases hr:r∈L
  ·rwa [hget r hr]at h
  ·simp only[get',if_neg hr]at h
   split at h
   ·next e=>rw[e];exact h
   ·cases h
 have hvr: ∀r,isVar (get' r)=true→isVar (st.get r)=true:=by
  intro r h
  by_cases hr:r∈L
  ·rwa [hget r hr]at h
  ·simp only[get',if_neg hr]at h
   split at h<;>cases h
 have hold: ∀r,mW st.get get' g g r fun _=>True:=fun r=>⟨fun t h=>⟨hty r t h,fun _ _=>rfl⟩,fun h=>⟨hvr r h,rfl⟩⟩
 have hR: ∀r,bw w0 (rA w0.w w fun b=> ∃r∈L,Own st.get g r b) get' g r:=by
  intro r
  have h:=R.roots r
  unfold bw at h⊢
  by_cases hr:r∈L
  ·have hkr:=hk r hr
   have hh:=heap r
   rw[hget r hr]
   unfold Own at hh
   cases hg:st.get r with
   |row rw_ t xs=>
    rw[hg]at h hh
    cases rw_ with
    |true=>exact⟨gw (fun b hb=>hh b hr hb) h.1,h.2⟩
    |false=>exact h
   |sh t xs=>
    rw[hg]at h hh
    exact h.step (fun b hb=>hh b hr hb) fun a v ha hv=>⟨lI hv (.inl ha),ha⟩
   |var cs=>
    rw[hg]at h hh
    obtain⟨arr,te,h1,h2,h3⟩:=h
    exact⟨arr,te,(hh _ hr rfl).trans h1,h2,ed _ _ (fun r _=>hold r) h3⟩
   |dead=>rw[hg]at hkr;cases hkr
   |half t xs=>rw[hg]at hkr;cases hkr
   |pend q p t xs=>rw[hg]at hkr;cases hkr
  ·simp only[get',if_neg hr]
   cases hg:st.get r with
   |row rw_ t xs=>
    rw[hg]at h
    cases rw_ with
    |true=>trivial
    |false=>exact h
   |_=>trivial
 have hmem: ∀r,r∈AV.ag (vs.flatMap AV.cells)∨r∈jF st.get (vs.flatMap AV.cells)→get' r=st.get r:=by
  intro r h
  have h:r∈AV.ag vs∨r∈jF st.get (vs.flatMap AV.cells):=h.imp (hCb r) id
  by_cases hr:r∈L
  ·exact hget r hr
  ·have hf:(match st.get r with
    | .row false _ _=>false
    | .dead=>false
    |_=>true)=false:=by
    cases hb:(match st.get r with
    | .row false _ _=>false
    | .dead=>false
    |_=>true)with
    |false=>rfl
    |true=>
     refine(hr ?_).elim
     rw[←hL]
     unfold wv
     rw[List.mem_filter,qI]
     refine⟨.inr (Md.2 h),hb⟩
   simp only[get',if_neg hr]
   cases hg:st.get r with
   |row rw_ t xs=>
    cases rw_ with
    |true=>rw[hg]at hf;cases hf
    |false=>rfl
   |dead=>rfl
   |_=>rw[hg]at hf;cases hf
 have hcg:=(vj (get:=st.get) (get':=get') (jd P ts) (vs.flatMap AV.cells) (fun r hr=>(hmem r (.inl hr)).symm) (fun r n cs hm hg x hx=>(hmem x (.inr (tK hm hg hx))).symm)).1
 rw[hcg]at hrd
 obtain⟨G,h,_⟩:=uO hR (fun a v hv=>lI (fm R.below a v hv) (.inl ⟨a,v,rfl,hv⟩)) (ed _ _ (fun r _=>hold r) hC) (jd P ts) 0 ok x rest hrd hok
 exact⟨hF,G,h⟩
theorem vx{B B':cP}{get:Get}(hc: ∀(a:Addr) (v:Value),B.w.cell? a=some v→B'.w.cell? a=some v)(hR: ∀r,bw B w get g r)(ho: ∀r b,Own get g r b→w'.heap[b]?=w.heap[b]?)
  (hr: ∀(a:Addr) (v:Value),Rds B.w a.block→w.cell? a=some v→w'.cell? a=some v) (r:Nat):bw B' w' get g r:=by
 have h:=hR r
 have hh:=ho r
 unfold bw at h⊢
 unfold Own at hh
 cases hg:get r with
 |dead=>trivial
 |var cs=>
  rw[hg]at h hh
  obtain⟨arr,te,h1,h2,h3⟩:=h
  exact⟨arr,te,(hh _ rfl).trans h1,h2,h3⟩
 |row rw_ t xs=>
  rw[hg]at h hh
  cases rw_ with
  |true=>exact⟨gw (fun b hb=>hh b hb) h.1,h.2⟩
  |false=>exact n4 hc h
 |half t xs=>
  rw[hg]at h hh
  obtain⟨a,n,c,h1,h2,h3,hz,h4,h5⟩:=h
  exact⟨a,n,c,h1,h2,h3,hz,gw (fun b hb=>hh b ((lP h1).1 hb)) h4,h5⟩
 |sh t xs=>
  rw[hg]at h hh
  exact h.step (fun b hb=>hh b hb) fun a v ha hv=>⟨hr a v ha hv,Rds.mono hc ha⟩
 |pend r2 p t xs=>
  rw[hg]at h hh
  obtain⟨h1,h2,t',xs',h3,h4,h5⟩:=h
  refine⟨gw (fun b hb=> ?_) h1,h2,t',xs',h3,h4,h5⟩
  by_cases hhb:oR g r2 p b
  ·exact ho r2 b (by unfold Own;rw[h3];exact h5 b hhb)
  ·exact hh b ⟨hb,hhb⟩
theorem E7(R:Rel w0 st g born acts w)(hbel:RowKit.Below w.heap.size w w'){r':World}(hc: ∀(a:Addr) (v:Value),w0.w.cell? a=some v→r'.cell? a=some v)(hw: ∀(a:Addr) (v:Value),r'.cell? a=some v→w'.cell? a=some v)
  (ho: ∀r b,Own st.get g r b→ ¬Rds r' b) (hn: ∀b,Rds r' b→Rds w0.w b∨ ¬w0.fT b): ∃w1,w0.le w1∧w1.w=r'∧Rel w1 st g born acts w':=by
 let keep':Nat→Prop:=fun b=>b<w'.heap.size∧(w0.fT b∨Rds r' b)
 have hsz:=R.below.size
 have hin: ∀b,Rds r' b→b<w'.heap.size:=fun b ⟨a,v,e,h⟩=>e▸World.block_lt_of_cell? w' a (hw a v h)
 let w1:cP:=⟨blank w' fun b=> ¬keep' b,r',fun b=> ¬keep' b,fun a x h=>⟨qx (hw a x h) fun h'=>h' ⟨hin _ ⟨a,x,rfl,h⟩,.inr ⟨a,x,rfl,h⟩⟩,fun h'=>h' ⟨hin _ ⟨a,x,rfl,h⟩,.inr ⟨a,x,rfl,h⟩⟩⟩,
  fun b o h k=>u6 h k,w0.oth,w0.othc⟩
 have hk1: ∀b,w1.fT b↔keep' b:=fun b=>⟨fun h=>Classical.not_not.1 h.2,fun h=>⟨by show b<(blank w' _).heap.size;rw[iC];exact h.1,fun h'=>h' h⟩⟩
 have hlt0: ∀b,w0.fT b→b<w.heap.size:=fun b h=>Nj h.1 hsz
 have hle:w0.le w1:=by
  refine⟨fun b h=>(hk1 b).2 ⟨Nj (hlt0 b h) hbel.size,.inl h⟩,fun b h=>((hk1 b).1 h).2,?_,hc,hn,rfl⟩
  refine⟨(hbel.os).trans R.below.os,(hbel.tape).trans R.below.tape,(hbel.output).trans R.below.output,?_,fun b h=> ?_,fun b o h1 h2=> ?_⟩
  ·show _≤(blank w' _).heap.size
   rw[iC];exact Ob hsz hbel.size
  ·exact(fG fun h'=>h' ⟨Nj (hlt0 b h) hbel.size,.inl h⟩).trans ((hbel.block b (hlt0 b h)).trans (R.below.block b h))
  ·have hkb:w0.fT b:=⟨(Nn.1 h1).1,fun hl=>by rw[w0.lentc b o hl h1]at h2;cases h2⟩
   exact(fG fun h'=>h' ⟨Nj (hlt0 b hkb) hbel.size,.inl hkb⟩).trans ((hbel.block b (hlt0 b hkb)).trans ((R.below.block b hkb).trans h1))
 have hB1:dV w1 w1.v w':=by
  refine⟨rfl,rfl,rfl,by show(blank w' _).heap.size≤_;rw[iC];exact Ng _,fun b h=>(fG h.2).symm,fun b o h1 h2=> ?_⟩
  by_cases hb:keep' b
  ·exact(fG fun h'=>h' hb).symm.trans h1
  ·rw[u6 hb h1]at h2;cases h2
 have hst: ∀r b,Own st.get g r b→w'.heap[b]?=w.heap[b]?:=fun r b h=>hbel.block b (iB R h)
 refine⟨w1,hle,rfl,hB1,fun r=>vx hc R.roots hst (fun a v ha hv=>(jB (hbel.block _ (hlt0 _ (cP.rds ha)))).trans hv) r,R.sep,fun r b h hk=> ?_,R.frames,R.bornF,R.bornR,R.alive,R.marks.nodup,fun D hD=> ?_,fun k o h=> ?_⟩
 ·rcases((hk1 b).1 hk).2 with h'|h'
  ·exact R.low r b h h'
  ·exact ho r b h h'
 ·obtain⟨h1,h2,h3⟩:=R.marks.empty D hD
  have hlt:=(Nn.1 h1).1
  have h4:=(hbel.block D hlt).trans h1
  refine⟨h4,fun hk=> ?_,h3⟩
  rcases((hk1 D).1 hk).2 with h'|⟨a,v,e,h'⟩
  ·exact h2 h'
  ·have:=hw a v h'
   subst e
   unfold World.cell? at this
   rw[h4]at this
   cases this
 ·have h1:=R.marks.oth k o h
  exact(hbel.block k (Nn.1 h1).1).trans h1
theorem ED(rs:List aB)(i:Nat)(x:aB):rs.length≤(setAt rs i x).length∧i<(setAt rs i x).length:=by
 unfold setAt
 cases hb:Nat.blt i rs.length with
 |true=>have:=fe hb;simp;omega
 |false=>
  have hge:rs.length≤i:=by
   rcases Nh i rs.length with h|h
   ·rw[←Nl,hb]at h;cases h
   ·exact h
  simp;omega
theorem jE: ∀(l:List (Nat×aB)) (st:St),st.rs.length≤(st.bz l).rs.length∧ ∀i∈l.map (·.1),i<(st.bz l).rs.length
 | [],st=>⟨Ng _,fun i h=>by simp at h⟩
 |(i,x)::l,st=>by
  obtain⟨h1,h2⟩:=jE l (st.gN i x)
  obtain⟨h3,h4⟩:=ED st.rs i x
  rw[lW]
  refine⟨Ob h3 h1,fun j hj=> ?_⟩
  simp only[MP,MH]at hj
  rcases hj with rfl|hj
  ·exact Nj h4 h1
  ·exact h2 j hj
theorem Ig(hE:kF P env){f:Nat}{vs vs':List AV}(h:ioS (R:=List AV×St) env f vs st (fun vs st=>some (vs,st))=some (vs',st')):AR P f vs st vs' st':=by
 unfold ioS at h
 simp only[fF]at h
 generalize hL:wv st.get vs=L at h
 generalize hrd:jm st.get (iw P f) (vs.flatMap AV.cells)=rd at h
 obtain⟨ok,x,rest⟩:=rd
 simp only[jN]at h
 split at h
 rotate_left
 ·cases h
 next hok=>
 obtain⟨hfit,hok⟩:=af.1 (kM.1 hok)
 obtain⟨_,hok⟩:=af.1 hok
 obtain⟨hq,hok⟩:=af.1 hok
 obtain⟨hk,hok⟩:=af.1 hok
 have hk: ∀r∈L,CM (st.get r)=true:=fun r hr=>List.all_eq_true.1 hk r hr
 have h:(env.ps f x).bind _=_:=h
 cases hps:env.ps f x with
 |none=>rw[hps]at h;cases h
 |some y=>
 rw[hps]at h
 simp only[Oe]at h
 generalize hla:ia P false (dK P f) y st.rs.length=la at h
 obtain⟨vsR,rsR⟩:=la
 simp only[Option.some.injEq,Prod.mk.injEq]at h
 obtain⟨rfl,rfl⟩:=h
 obtain⟨hfn,hval⟩:=hE.ps f x y hps
 refine⟨hfn,fun w0 g born acts w us R hlt hA hb=> ?_⟩
 have hq':=gH (st:=st) (l:=L) hq fun r hr=>M5.2 ⟨r,hr,rfl⟩
 have hargs:=BB (P:=P) R hA hL hk (ts:=ir P f) hfit hrd hok
 refine Calls.mono (hval w _ us.toArray (fun a v h=>(kW h).1) (by simpa using hargs)) fun e w' he=> ?_
 obtain⟨us',r',rfl,hbel,hc,hw,hn,hF,G,hrep⟩:=he
 have hc0: ∀(a:Addr) (v:Value),w0.w.cell? a=some v→r'.cell? a=some v:=fun a v hv=>hc a v (lI (fm R.below a v hv) (.inl ⟨a,v,rfl,hv⟩))
 have hn1: ∀b,Rds r' b→Rds w0.w b∨(∃r∈L,Own st.get g r b)∨w.heap.size≤b:=fun b hb=>by
  rcases hn b hb with⟨a,v,rfl,h⟩|h
  ·exact(kW h).2.imp id .inl
  ·exact .inr (.inr h)
 have RK:=rh L st R hq'
 obtain⟨w1,hle,rfl,R1⟩:=E7 RK hbel hc0 hw (fun r b h hr=>by
   obtain⟨k1,k2,k3⟩:=qX R hq' h
   rcases hn1 b hr with h'|⟨r2,h2,h3⟩|h'
   ·exact R.low r b k2 (cP.rds h')
   ·exact k3 ⟨r2,h2,h3⟩
   ·have:=iB R k2;omega)
  (fun b hb=>by
   rcases hn1 b hb with h'|⟨r2,h2,h3⟩|h'
   ·exact .inl h'
   ·exact .inr (R.low r2 b h3)
   ·exact .inr (R.fresh h'))
 have hlenK: ∀r,born r→r<st.rs.length:=hlt
 obtain⟨g3,b3,R3,L3,A3,B3,_⟩:=kS (P:=P) (acts:=acts) false (dK P f) y us' (dN us') _ g born st.rs.length 0 G vsR rsR R1 hF (fun k _=>by rw[Ni]) hrep (fun h=>by cases h) (fun h=>by cases h) hla
  (fun i h1 _ hb=>by have:=hlt i hb;omega)
 have hset:(St.mk st.fr (iW st.rs (fj L++aw st.rs.length rsR)))=(st.bz (fj L)).bz (aw st.rs.length rsR):=by rw[←kG];rfl
 rw[hset]
 refine⟨us',g3,b3,rfl,⟨w1,hle,R3⟩,fun r hr=> ?_,A3,fun r hr=>(L3.born_iff r).2 (.inr (B3 r hr))⟩
 have hl1:=jE (fj L) st
 have hl2:=jE (aw st.rs.length rsR) (st.bz (fj L))
 rcases(L3.born_iff r).1 hr with h|h
 ·have:=hlt r h
  exact Nj this (Ob hl1.1 hl2.1)
 ·exact hl2.2 r ((cI _ _ _).2 h)
end
end
end Go.Am
end
