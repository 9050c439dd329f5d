/- Each operation that the machine takes is sound, whatever the program. -/
import Derived.Test.YtloognjnfelgfaaDoorAmS
import Derived.Laws.OwnMore
import Derived.Laws.Slices
import Derived.Laws.Small
import Derived.Laws.BytesString
set_option linter.unusedSimpArgs false
set_option linter.unusedVariables false
set_option linter.unnecessarySimpa false
set_option linter.unusedSectionVars false
section
/- Soundness: the zero value's cells; types that are as their trees say. -/
namespace Go.Am
noncomputable section
attribute [local instance] D.real
def G0:Nat→Path→Value:=fun _ _=> .slice none 0 0
theorem n0: ∀(t:Ty) (f b:Nat),¬Blk t (bm t) G0 f b:=by
 intro t
 induction t with
 |pair a b' iha ihb=>intro f b h;exact h.elim (iha _ _) (ihb _ _)
 |sl e ih=>
  intro f b h
  rcases h with⟨a,n,c,h,_⟩|⟨i,x,h,_⟩
  ·cases h
  ·have h:([]:List (den e))[i]?=some x:=h
   simp at h
 |unit=>intro f b h;exact h
 |int k=>intro f b h;exact h
 |bool=>intro f b h;exact h
 |str=>intro f b h;exact h
theorem AP: ∀(t:Ty) (f:Nat),Sep t (bm t) G0 f:=by
 intro t
 induction t with
 |pair a b' iha ihb=>intro f;exact⟨iha _,ihb _,fun bl h _=>n0 a _ _ h⟩
 |sl e ih=>
  intro f
  refine⟨fun a n c i x h=>by(cases h),fun i j x y b _ h _=> ?_,fun i x h=> ?_⟩
  ·have h:([]:List (den e))[i]?=some x:=h
   simp at h
  ·have h:([]:List (den e))[i]?=some x:=h
   simp at h
 |unit=>intro f;trivial
 |int k=>intro f;trivial
 |bool=>intro f;trivial
 |str=>intro f;trivial
theorem uY{w:World}{rw:Bool}: ∀(t:Ty) (l rest:List Value),nm t l=some rest→
  ∃pre,l=pre++rest∧pre.length=t.size∧(∀x∈pre,x.oneCell'=true)∧
   ∀(f:Nat) (rd:Nat→Option Value),(∀k,k<t.size→rd (f+k)=pre[k]?)→Rep w rw t (bm t) G0 f rd:=by
 intro t
 have leafs: ∀(t:Ty) (l rest:List Value),t.size=1→(match l with
   |v::l=>bif eY t v then some l else none
   | []=>none)=some rest→ ∃v,l=v::rest∧eY t v=true:=by
  intro t l rest _ h
  cases l with
  |nil=>cases h
  |cons v l=>
   simp only at h
   cases hz:eY t v with
   |true=>rw[hz]at h;simp only[cond_true,Option.some.injEq]at h;subst h;exact⟨v,rfl,hz⟩
   |false=>rw[hz]at h;cases h
 induction t with
 |pair a b iha ihb=>
  intro l rest h
  unfold nm at h
  split at h
  ·next l' hl=>
   obtain⟨p1,e1,n1,o1,r1⟩:=iha _ _ hl
   obtain⟨p2,e2,n2,o2,r2⟩:=ihb _ _ h
   refine⟨p1++p2,by rw[e1,e2,List.append_assoc],by simp[Ty.size,n1,n2],?_,?_⟩
   ·intro x hx;rcases List.mem_append.1 hx with hx|hx
    ·exact o1 x hx
    ·exact o2 x hx
   ·intro f rd hrd
    simp only[Ty.size]at hrd
    refine⟨r1 f rd fun k hk=> ?_,r2 (f+a.size) rd fun k hk=> ?_⟩
    ·rw[hrd k (by omega),List.getElem?_append_left (by omega)]
    ·rw[Nat.add_assoc,hrd (a.size+k) (by omega),List.getElem?_append_right (by omega),n1]
     congr 1;omega
  ·cases h
 |unit=>
  intro l rest h
  simp only[nm,Option.some.injEq]at h
  exact⟨[],by simp[h],rfl,by simp,fun f rd _=>trivial⟩
 |int k=>
  intro l rest h
  obtain⟨v,rfl,hz⟩:=leafs (.int k) l rest rfl h
  cases v<;>first|(simp[eY]at hz;done)|skip
  next k' n=>
   simp only[eY,Bool.and_eq_true,decide_eq_true_eq]at hz
   obtain⟨rfl,rfl⟩:=hz
   refine⟨[_],rfl,rfl,by simp[Value.oneCell'],fun f rd hrd=> ?_⟩
   have h1:rd f=some (.int k 0):=by simpa using hrd 0 (by simp[Ty.size])
   exact h1
 |bool=>
  intro l rest h
  obtain⟨v,rfl,hz⟩:=leafs .bool l rest rfl h
  cases v<;>first|(simp[eY]at hz;done)|skip
  next b=>
   cases b with
   |true=>simp[eY]at hz
   |false=>
    refine⟨[_],rfl,rfl,by simp[Value.oneCell'],fun f rd hrd=> ?_⟩
    have h1:rd f=some (.bool false):=by simpa using hrd 0 (by simp[Ty.size])
    exact h1
 |str=>
  intro l rest h
  obtain⟨v,rfl,hz⟩:=leafs .str l rest rfl h
  cases v<;>first|(simp[eY]at hz;done)|skip
  next s=>
   have hs:s=ByteArray.empty:=by
    have:=Nat.eq_of_beq_eq_true hz
    exact ByteArray.size_eq_zero_iff.1 this
   subst hs
   refine⟨[_],rfl,rfl,by simp[Value.oneCell'],fun f rd hrd=> ?_⟩
   have h1:rd f=some (.string ByteArray.empty):=by simpa using hrd 0 (by simp[Ty.size])
   exact h1
 |sl e ih=>
  intro l rest h
  obtain⟨v,rfl,hz⟩:=leafs (.sl e) l rest rfl h
  cases v<;>first|(simp[eY]at hz;done)|skip
  next a n c=>
   cases a with
   |some a=>simp[eY]at hz
   |none=>
    have:n=0∧c=0:=by
     unfold eY at hz
     split at hz<;>simp_all
    obtain⟨rfl,rfl⟩:=this
    refine⟨[_],rfl,rfl,by simp[Value.oneCell'],fun f rd hrd=> ?_⟩
    have h1:rd f=some (.slice none 0 0):=by simpa using hrd 0 (by simp[Ty.size])
    exact⟨h1,.inl ⟨rfl,rfl⟩⟩
section
variable {P : Program}
theorem lH{t:TypeId}(h:mg P t=true): ∃i agg ty d z,P.info? t=some i∧qL P t=some (agg,ty)∧P.underlying t=some d∧
  i.size=ty.size∧i.bytes≤128∧agg=kB P t∧i.zero=some z∧nm ty z.cells.toList=some []:=by
 unfold mg at h
 split at h
 ·next i agg ty d h1 h2 h3=>
  simp only[Bool.and_eq_true,beq_iff_eq]at h
  obtain⟨⟨⟨h4,h5⟩,h6⟩,h7⟩:=h
  split at h7
  ·next z hz=>
   split at h7
   ·next hzz=>exact⟨i,agg,ty,d,z,h1,h2,h3,Nat.eq_of_beq_eq_true h4,Nat.le_of_ble_eq_true h5,h6,hz,hzz⟩
   ·cases h7
  ·cases h7
 ·cases h
theorem Hc{t:TypeId}{agg:Bool}{ty:Ty}(h:qL P t=some (agg,ty)):tyD P t=ty:=by unfold tyD;rw[h]
theorem gr{t e:TypeId}(h:fQ P t=some e):P.underlying t=some (.slice e):=by
 unfold fQ at h
 split at h
 ·next h'=>injection h with h;subst h;exact h'
 ·cases h
theorem cd{t:TypeId}{te:Ty}(h:cV P t te=true): ∃e i z,P.underlying t=some (.slice e)∧mg P e=true∧P.info? e=some i∧i.size=te.size∧i.bytes≤128∧i.zero=some z∧
  nm te z.cells.toList=some []∧0<te.size∧P.cellsOf e=te.size∧z.cells.size=te.size:=by
 unfold cV at h
 split at h
 ·next e he=>
  simp only[Bool.and_eq_true,decide_eq_true_eq]at h
  obtain⟨⟨h1,h2⟩,h3⟩:=h
  obtain⟨i,agg,ty,d,z,k1,k2,_,k4,k5,_,k7,k8⟩:=lH h1
  rw[Hc k2]at h2
  subst h2
  obtain⟨pre,e1,e2,_⟩:=uY (w:=default) (rw:=true) ty z.cells.toList [] k8
  refine⟨e,i,z,gr he,h1,k1,k4,k5,k7,k8,by rw[←Nat.blt_eq];exact h3,by simp[Program.cellsOf,k1,k4],?_⟩
  have:z.cells.toList.length=ty.size:=by rw[e1];simpa using e2
  simpa using this
 ·cases h
end
end
end Go.Am
end
section
/- Soundness: steps of operations that answer a value alone, out of rows: len, addresses, loads, parts. -/
namespace Go.Am
attribute [local instance] D.real
section
variable {P : Program} {w0 : bu} {w : World} {st : St} {g : aB} {born : Nat → Prop} {a : Act} {asx : List Act} {o : Oper} {base : Nat}
theorem cX{a b:Nat}(h:Nat.beq a b=true):a=b:=Nat.eq_of_beq_eq_true h
theorem cE{a b:Nat}(h:Nat.blt a b=true):a<b:=by rw[←Nat.blt_eq];exact h
theorem jM{a b:Nat}(h:Nat.ble a b=true):a≤b:=Nat.le_of_ble_eq_true h
theorem qg{t:TypeId}(h:wq P t=true):P.underlying t=some .string:=by
 unfold wq at h;split at h
 ·assumption
 ·cases h
theorem uQ(R:Rel w0 st g born (a::asx) w){r:Nat}{p:Path}{sub:Option (Nat×Nat)}{v:Value}{rw:Bool}{t e:Ty}{xs:List (den t)}{ys:List (den e)}{ok:List Tst}
  (hg:st.get r= .row rw t xs) (hrow:rowAt t xs p=(ok,⟨e,ys⟩)) (hok:aN ok) (hv:ae st.get g (.sl r p sub) v):
  aS w false e ys (fun q=>(g r).H (p++q))∧mI e.size sub ((g r).H p) v∧ ∃b c,v= .slice b (bR sub ys) c:=by
 obtain⟨h1,h2⟩:=E4 R hg hrow hok hv
 obtain⟨b,c,h3⟩:=mZ h1
 simp only[List.append_nil]at h3
 exact⟨h1,h2,Ga h3 h2⟩
theorem ED{t ty:TypeId}{x:Operand}{av:AV}(hrun: ∀v,a.eval x=v→ ∀r,(Builtin.len_ #[t] ty #[v]).run P w= .ok r w→(execOp a.eval o).run P w= .ok (.value r) w)
  (R:Rel w0 st g born (a::asx) w) (hx:ae st.get g av (a.eval x)) (hok:aN (nt P t av st.get).ok):cu P o a.eval w (dU w0 st born (a::asx) (nt P t av st.get)):=by
 unfold nt at hok⊢
 split at hok
 ·next s=>
  rw[ae]at hx
  have ht:=qg (af.1 hok).1
  refine bo R rfl rfl (v:=goInt s.size) (hrun _ hx _ ?_) (by rw[ae];rfl) (fun r h=>by simp[AV.roots]at h)
  simp[Builtin.len_,ar ht]
 ·rw[ae]at hx
  have ht:=(af.1 hok).1
  obtain⟨e,he⟩:=Option.isSome_iff_exists.1 ht
  refine bo R rfl rfl (v:=goInt 0) (hrun _ hx _ ?_) (by rw[ae];rfl) (fun r h=>by simp[AV.roots]at h)
  simp[Builtin.len_,ar (gr he)]
 ·next r p sub=>
  split at hok
  ·next rw t' xs hg=>
   generalize hrow:Go.Am.rowAt t' xs p=rr at hok
   obtain⟨ok,e,ys⟩:=rr
   simp only at hok⊢
   obtain⟨h1,h2⟩:=af.1 hok
   obtain⟨e',he⟩:=Option.isSome_iff_exists.1 (show(fQ P t).isSome=true from h1)
   obtain⟨_,_,b,c,h3⟩:=uQ R hg hrow h2 hx
   refine bo R rfl rfl (v:=goInt (bR sub ys)) (hrun _ h3 _ ?_) (by rw[ae];rfl) (fun r h=>by simp[AV.roots]at h)
   simp[Builtin.len_,ar (gr he)]
  ·exact(ay hok).elim
 ·exact(ay hok).elim
theorem cb{t:TypeId}{i:TypeInfo}(h:P.info? t=some i)(w:World):(sizeOf t).run P w= .ok (P.cellsOf t) w:=by
 simp[sizeOf,typeInfo,h,Program.cellsOf]
theorem rW{t:TypeId}(h:0<P.cellsOf t): ∃i,P.info? t=some i:=by
 unfold Program.cellsOf at h
 cases hi:P.info? t with
 |none=>rw[hi]at h;simp at h
 |some i=>exact⟨i,rfl⟩
theorem uC{s:TypeId}{x:Operand}{i:Nat}(ho:o.op= .fieldAddr s x i)(R:Rel w0 st g born (a::asx) w)
  (hok:aN (jB P s i [an st x]).ok):cu P o a.eval w (dU w0 st born (a::asx) (jB P s i [an st x])):=by
 obtain⟨hx,hb⟩:=bC R x
 unfold jB at hok⊢
 split at hok
 ·next f ft r c hf h=>
  injection h with h _
  rw[h]at hx hb
  rw[ae]at hx
  obtain⟨⟨ad,had⟩,hx2⟩:=hx
  obtain⟨fs,fld,hu,hfld,rfl,rfl⟩:=kJ hf
  have hpos:0<P.cellsOf fld.type:=cE (af.1 hok).1
  obtain⟨ti,hti⟩:=rW hpos
  refine bo R rfl rfl (v:= .pointer (some (ad.add fld.offset))) ?_ ?_ (fun r h=>hb r (by simpa[AV.roots]using h))
  ·have hz:P.cellsOf fld.type≠0:=by omega
   unfold execOp;rw[ho]
   simp[Instr.fieldAt,ar hu,hfld,had,Instr.sureAddr,fieldPlace,cb hti,hz]
  ·rw[ae]
   refine⟨⟨_,rfl⟩,fun hv=> ?_⟩
   have:=hx2 hv
   rw[had]at this
   injection this with this
   injection this with this
   rw[this]
   unfold Addr.add
   split
   ·next h0=>rw[h0];rfl
   ·rfl
 ·next f ft r p j gg hf h=>
  injection h with h _
  rw[h]at hx hb
  rw[ae]at hx
  obtain⟨⟨ad,had⟩,hx2⟩:=hx
  obtain⟨fs,fld,hu,hfld,rfl,rfl⟩:=kJ hf
  have hpos:0<P.cellsOf fld.type:=cE (af.1 hok).1
  obtain⟨ti,hti⟩:=rW hpos
  refine bo R rfl rfl (v:= .pointer (some (ad.add fld.offset))) ?_ ?_ (fun r h=>hb r (by simpa[AV.roots]using h))
  ·have hz:P.cellsOf fld.type≠0:=by omega
   unfold execOp;rw[ho]
   simp[Instr.fieldAt,ar hu,hfld,had,Instr.sureAddr,fieldPlace,cb hti,hz]
  ·rw[ae]
   refine⟨⟨_,rfl⟩,fun t e ht he=> ?_⟩
   obtain⟨b,n,cap,k1,k2⟩:=hx2 t e ht he
   rw[had]at k2
   injection k2 with k2
   injection k2 with k2
   refine⟨b,n,cap,k1,?_⟩
   rw[k2,add_add,Nat.add_assoc]
 ·exact(ay hok).elim
theorem vy{xt:TypeId}{x ix:Operand}(ho:o.op= .indexAddr xt x ix)(R:Rel w0 st g born (a::asx) w)
  (hok:aN (fw P xt (an st x) (an st ix) st.get).ok):cu P o a.eval w (dU w0 st born (a::asx) (fw P xt (an st x) (an st ix) st.get)):=by
 obtain⟨hx,hb⟩:=bC R x
 obtain⟨hi,_⟩:=bC R ix
 unfold fw at hok⊢
 split at hok
 ·next k n hn=>
  rw[hn,ae]at hi
  split at hok
  ·next r p sub hsl=>
   rw[hsl]at hx hb
   split at hok
   ·next rw t xs hg=>
    generalize hrow:Go.Am.rowAt t xs p=rr at hok
    obtain⟨ok,e,ys⟩:=rr
    simp only at hok⊢
    obtain⟨h1,h2⟩:=af.1 hok
    obtain⟨h2,h3⟩:=aq.1 h2
    obtain⟨h3,h4⟩:=af.1 h3
    have h3:0≤n:=of_decide_eq_true (show decide (0≤n)=true from h3)
    have h4:n.toNat<bR sub ys:=of_decide_eq_true (show decide (n.toNat<bR sub ys)=true from(af.1 h4).1)
    obtain⟨e',i',z,hu,_,hinf,_,_,_,_,_,hce,_⟩:=cd h1
    obtain⟨hrep,hsub,b,c,hv⟩:=uQ R hg hrow h2 hx
    obtain⟨ad,hb2⟩: ∃ad,b=some ad:=by
     cases b with
     |some ad=>exact⟨ad,rfl⟩
     |none=>
      exfalso
      cases sub with
      |none=>
       have hsub:a.eval x=(g r).H p:=hsub
       have h4:n.toNat<ys.length:=h4
       rcases hrep with⟨_,hy⟩|⟨a',cap,h0,_⟩
       ·rw[hy]at h4;simp at h4
       ·simp only[List.append_nil]at h0;rw[←hsub,hv]at h0;cases h0
      |some s=>
       obtain⟨o',l'⟩:=s
       have h4:n.toNat<l':=h4
       rcases hsub with⟨_,_,_,h⟩|⟨a',n',c',j,_,h,_⟩
       ·omega
       ·rw[hv]at h;cases h
    subst hb2
    have hlt:n<(bR sub ys:Nat):=by omega
    refine bo R rfl rfl (v:= .pointer (some (ad.add (n.toNat*e.size)))) ?_ ?_ (fun r h=>hb r (by simpa[AV.roots]using h))
    ·unfold execOp;rw[ho]
     simp only[Instr.indexAt,hi,asIntOf,Sem.run_bind,Sem.run_pure,Result.andThen_ok,ar hu,hv,hlt,h3,and_self,if_true,cb hinf,hce]
    ·rw[ae]
     refine⟨⟨_,rfl⟩,fun t2 e2 ht he=> ?_⟩
     rw[hg]at ht
     have ht:t=t2:=by simpa[bI]using ht
     subst ht
     have hte:typeAt t p=some e:=by
      have hro:=R.roots r
      unfold aF at hro
      rw[hg]at hro
      have hRo:aS w false t xs (g r).H:=by
       cases rw with
       |true=>exact rR hro.1
       |false=>exact lC (cJ R.below) hro
      exact(gH p t xs (g r).H ok e ys hrow h2 hRo).2.1
     rw[hte]at he
     injection he with he
     subst he
     cases sub with
     |none=>
      have hsub:a.eval x=(g r).H p:=hsub
      exact⟨ad,_,_,by rw[←hsub,hv],by simp only[cF,Nat.add_zero];rfl⟩
     |some s=>
      obtain⟨o',l'⟩:=s
      have h4:n.toNat<l':=h4
      rcases hsub with⟨_,h,_,_⟩|⟨a',n',c',j,k1,k2,k3,k4,k5,k6⟩
      ·rw[hv]at h;cases h
      ·rw[hv]at k2
       injection k2 with k2 _ _
       injection k2 with k2
       refine⟨a',n',c',k1,?_⟩
       have:j=o':=by omega
       rw[k2,add_add,this]
       congr 3
       show o'*e.size+n.toNat*e.size=(o'+n.toNat)*e.size+0
       rw[Nat.add_mul];rfl
   ·exact(ay hok).elim
  ·next r c hpv=>
   rw[hpv]at hx hb
   rw[ae]at hx
   obtain⟨⟨ad,had⟩,hx2⟩:=hx
   split at hok
   ·next m e hu=>
    obtain⟨hk,h3⟩:=af.1 hok
    obtain⟨h3,h4⟩:=af.1 h3
    have h3:0≤n:=of_decide_eq_true (show decide (0≤n)=true from h3)
    have h4:=(af.1 h4).1
    have h4:n<(m:Nat):=of_decide_eq_true (show decide (n<(m:Int))=true from h4)
    refine bo R rfl rfl (v:= .pointer (some (ad.add (n.toNat*P.cellsOf e)))) ?_ ?_ (fun r h=>hb r (by simpa[AV.roots]using h))
    ·unfold execOp;rw[ho]
     simp only[Instr.indexAt,hi,asIntOf,Sem.run_bind,Sem.run_pure,Result.andThen_ok,ar hu,had,Instr.sureAddr,h3,h4,and_self,if_true,lp hk]
    ·rw[ae]
     refine⟨⟨_,rfl⟩,fun hv=> ?_⟩
     have:=hx2 hv
     rw[had]at this
     injection this with this
     injection this with this
     rw[this]
     unfold Addr.add
     split
     ·next h0=>rw[h0];rfl
     ·rfl
   ·exact(ay hok).elim
  ·next r p i f hpe=>
   rw[hpe]at hx hb
   rw[ae]at hx
   obtain⟨⟨ad,had⟩,hx2⟩:=hx
   split at hok
   ·next m e hu=>
    obtain⟨hk,h3⟩:=af.1 hok
    obtain⟨h3,h4⟩:=af.1 h3
    have h3:0≤n:=of_decide_eq_true (show decide (0≤n)=true from h3)
    have h4:=(af.1 h4).1
    have h4:n<(m:Nat):=of_decide_eq_true (show decide (n<(m:Int))=true from h4)
    refine bo R rfl rfl (v:= .pointer (some (ad.add (n.toNat*P.cellsOf e)))) ?_ ?_ (fun r h=>hb r (by simpa[AV.roots]using h))
    ·unfold execOp;rw[ho]
     simp only[Instr.indexAt,hi,asIntOf,Sem.run_bind,Sem.run_pure,Result.andThen_ok,ar hu,had,Instr.sureAddr,h3,h4,and_self,if_true,lp hk]
    ·rw[ae]
     refine⟨⟨_,rfl⟩,fun t e2 ht he=> ?_⟩
     obtain⟨b,n',cap,k1,k2⟩:=hx2 t e2 ht he
     rw[had]at k2
     injection k2 with k2
     injection k2 with k2
     exact⟨b,n',cap,k1,by rw[k2,add_add,Nat.add_assoc]⟩
   ·exact(ay hok).elim
  ·exact(ay hok).elim
 ·exact(ay hok).elim
end
end Go.Am
end
section
/- Soundness: loads. -/
namespace Go.Am
attribute [local instance] D.real
section
variable {P : Program} {w0 : bu} {w : World} {st : St} {g : aB} {born : Nat → Prop} {a : Act} {asx : List Act} {o : Oper} {base : Nat}
theorem EZ{get:Get}{r:Nat}{p:Path}{i:Nat}: ∀(t:Ty) (d:den t) (f:Nat) (rd:Nat→Option Value),
  Rep w false t d (fun f q=>(g r).H (p++(i,f)::q)) f rd→
  ∃vs,ai get g (jV r p i t d f) vs∧vs.length=t.size∧(∀x∈vs,x.oneCell'=true)∧(∀k,k<t.size→rd (f+k)=vs[k]?)∧ ∀x∈AV.ah (jV r p i t d f),x=r:=by
 intro t
 have one: ∀(av:AV) (f:Nat) (rd:Nat→Option Value) (v:Value),rd f=some v→ae get g av v→v.oneCell'=true→(∀x∈av.roots,x=r)→
   ∃vs,ai get g [av] vs∧vs.length=1∧(∀x∈vs,x.oneCell'=true)∧(∀k,k<1→rd (f+k)=vs[k]?)∧ ∀x∈AV.ah [av],x=r:=by
  intro av f rd v h1 h2 h3 h4
  refine⟨[v],?_,rfl,by simpa using h3,fun k hk=> ?_,fun x hx=> ?_⟩
  ·rw[ai];exact⟨v,[],rfl,h2,by rw[ai]⟩
  ·obtain rfl:k=0:=by omega
   simpa using h1
  ·simp only[AV.ah,List.append_nil]at hx;exact h4 x hx
 induction t with
 |int k=>intro d f rd h;exact one _ f rd _ h (by rw[ae]) rfl (fun x hx=>by simp[AV.roots]at hx)
 |bool=>intro d f rd h;exact one _ f rd _ h (by rw[ae]) rfl (fun x hx=>by simp[AV.roots]at hx)
 |str=>intro d f rd h;exact one _ f rd _ h (by rw[ae]) rfl (fun x hx=>by simp[AV.roots]at hx)
 |unit=>intro d f rd h;exact⟨[],by simp[jV,ai],rfl,by simp,fun k hk=>by simp[Ty.size]at hk,fun x hx=>by simp[jV,AV.ah]at hx⟩
 |sl e ih=>
  intro d f rd h
  obtain⟨h1,h2⟩:=h
  obtain⟨aa,c,h3⟩:=mZ (t:=e) h2
  refine one _ f rd _ h1 ?_ ?_ (fun x hx=>by simpa[AV.roots]using hx)
  ·rw[ae]
   exact⟨⟨_,_,_,h3⟩,fun t e' _ _=>rfl⟩
  ·rw[h3];rfl
 |pair a b iha ihb=>
  intro d f rd h
  obtain⟨v1,h1,n1,o1,c1,x1⟩:=iha d.1 f rd h.1
  obtain⟨v2,h2,n2,o2,c2,x2⟩:=ihb d.2 (f+a.size) rd h.2
  refine⟨v1++v2,cK h1 h2,by simp[n1,n2,Ty.size],fun x hx=> ?_,fun k hk=> ?_,fun x hx=> ?_⟩
  ·exact(List.mem_append.1 hx).elim (o1 x) (o2 x)
  ·simp only[Ty.size]at hk
   rcases Nat.lt_or_ge k a.size with h|h
   ·rw[c1 k h,List.getElem?_append_left (by omega)]
   ·have:=c2 (k-a.size) (by omega)
    have e:f+a.size+(k-a.size)=f+k:=by omega
    rw[e]at this
    rw[this,List.getElem?_append_right (by omega),n1]
  ·have app: ∀(l m:List AV),x∈AV.ah (l++m)→x∈AV.ah l∨x∈AV.ah m:=by
    intro l
    induction l with
    |nil=>intro m h;exact .inr h
    |cons u us ih=>
     intro m h
     simp only[List.cons_append,AV.ah,List.mem_append]at h⊢
     rcases h with h|h
     ·exact .inl (.inl h)
     ·exact(ih m h).imp .inr id
   exact(app _ _ hx).elim (x1 x) (x2 x)
theorem z8{get:Get}{t:TypeId}{cs:List AV}{vs:List Value}{f:Nat}{ad:Addr}(hA:ai get g cs vs)(h1: ∀x∈vs,x.oneCell'=true)
  (hc: ∀k v,vs[k]?=some v→w.cell? (ad.add k)=some v) (hok:aN (fh P t cs f).ok):
  ∃v,(loadVar t (ad.add f)).run P w= .ok v w∧ae get g (fh P t cs f).v v∧(∀r∈(fh P t cs f).v.roots,r∈AV.ah cs)∧(fh P t cs f).upd= []∧(fh P t cs f).cut=none:=by
 unfold fh at hok⊢
 have hlen:=cW hA
 cases hagg:kB P t with
 |true=>
  rw[hagg]at hok
  simp only[cond_true,true_and]at hok⊢
  obtain⟨k1,k2⟩:=af.1 hok
  have k1:fL P t=true:=k1
  have k2:f+P.cellsOf t≤cs.length:=jM (af.1 k2).1
  have hl:((vs.drop f).take (P.cellsOf t)).length=P.cellsOf t:=by simp;omega
  have hload:=run_loadCells_list (P:=P) w (ad.add f) ((vs.drop f).take (P.cellsOf t)) fun j v hj=>by
   rw[List.getElem?_take]at hj
   split at hj
   ·rw[List.getElem?_drop]at hj
    rw[add_add]
    exact hc _ _ hj
   ·cases hj
  rw[hl]at hload
  refine⟨.agg ((vs.drop f).take (P.cellsOf t)).toArray,?_,?_,fun r hr=> ?_,by trivial⟩
  ·simp[loadVar,mr k1,hagg,lp k1,hload]
  ·rw[ae]
   refine⟨_,rfl,fun x hx=> ?_,?_⟩
   ·simp only[List.toList_toArray]at hx;exact h1 x (List.drop_subset _ _ (List.take_subset _ _ hx))
   ·simp only[List.toList_toArray];exact fZ _ (gd _ hA)
  ·simp only[AV.roots]at hr
   exact gK _ (jh _ hr)
 |false=>
  rw[hagg]at hok
  simp only[cond_false,true_and]at hok⊢
  obtain⟨k1,k2⟩:=af.1 hok
  have k1:fL P t=true:=k1
  have hf:f<cs.length:=cE (af.1 k2).1
  obtain⟨v,hv,hr⟩:=bK hA (dP (d:=AV.undef) hf)
  refine⟨v,?_,hr,fun r hr=>gQ hr,by trivial⟩
  simp[loadVar,mr k1,hagg,hc f v hv]
theorem mQ(b c:Nat):(⟨b,0,none⟩:Addr).add c=⟨b,c,none⟩:=by
 unfold Addr.add
 split
 ·next h=>rw[h]
 ·simp
theorem sM(R:Rel w0 st g born (a::asx) w){t:TypeId}{av:AV}{v:Value}(hx:ae st.get g av v)(hb: ∀r∈av.roots,born r)(hok:aN (fg P t av st.get).ok):
  ∃u,(Instr.loadAt t v).run P w= .ok u w∧ae st.get g (fg P t av st.get).v u∧(∀r∈(fg P t av st.get).v.roots,born r)∧(fg P t av st.get).upd= []∧(fg P t av st.get).cut=none:=by
 unfold fg at hok⊢
 split at hok
 ·next r c=>
  rw[ae]at hx
  split at hok
  ·next cs hg=>
   have hro:=R.roots r
   unfold aF at hro
   rw[hg]at hro
   obtain⟨arr,te,h1,h2,h3⟩:=hro
   have hv:=hx.2 (by rw[hg];rfl)
   obtain⟨u,k1,k2,k3,k4,k5⟩:=z8 (P:=P) (w:=w) (ad:=⟨(g r).b,0,none⟩) (t:=t) (f:=c) h3 h2 (fun k v hk=>by
    rw[mQ]
    rw[cell_of_row w _ k _ _ _ h1];simpa using hk) hok
   rw[mQ]at k1
   refine⟨u,by rw[hv];simpa[Instr.loadAt,Instr.sureAddr]using k1,k2,fun x hx=> ?_,k4,k5⟩
   exact R.bornR r x (by rw[hg];exact k3 x hx)
  ·exact(ay hok).elim
 ·next r p i f=>
  split at hok
  ·next rw t' xs hg=>
   generalize hrow:Go.Am.rowAt t' xs p=rr at hok
   obtain⟨ok,e,ys⟩:=rr
   simp only at hok⊢
   generalize hpo:fh P t (jV r p i e (D.rd ys i (bm e)) 0) f=po at hok
   obtain⟨ok',v',u',c',q'⟩:=po
   simp only at hok⊢
   obtain⟨h2,h3⟩:=aq.1 hok
   obtain⟨h3,h4⟩:=af.1 h3
   have h3:i<ys.length:=of_decide_eq_true (show decide (i<ys.length)=true from h3)
   have hro:=R.roots r
   unfold aF at hro
   rw[hg]at hro
   have hRo:aS w false t' xs (g r).H:=by
    cases rw with
    |true=>exact rR hro.1
    |false=>exact lC (cJ R.below) hro
   obtain⟨hrep,hte,_,_⟩:=gH p t' xs (g r).H ok e ys hrow h2 hRo
   rw[ae]at hx
   obtain⟨b,n,cap,k1,k2⟩:=hx.2 t' e (by rw[hg];rfl) hte
   rcases hrep with⟨_,hy⟩|⟨b',cap',e0,_,_,hel⟩
   ·rw[hy]at h3;simp at h3
   ·simp only[List.append_nil]at e0
    rw[k1]at e0
    injection e0 with e0 _ _
    injection e0 with e0
    subst e0
    have hget:ys[i]?=some (ys.getD i (bm e)):=dP h3
    have hE:=hel i _ hget
    obtain⟨vs,m1,m2,m3,m4,m5⟩:=EZ (g:=g) (get:=st.get) (r:=r) (p:=p) (i:=i) e (ys.getD i (bm e)) 0 _ hE
    have hpo1:aN (fh P t (jV r p i e (D.rd ys i (bm e)) 0) f).ok:=by rw[hpo];exact h4
    obtain⟨u,l1,l2,l3,l4,l5⟩:=z8 (P:=P) (w:=w) (ad:=b.add (i*e.size)) (t:=t) (f:=f) m1 m3 (fun k v hk=>by
     have hk2:k<e.size:=by
      rcases Nat.lt_or_ge k e.size with h|h
      ·exact h
      ·rw[List.getElem?_eq_none (by omega)]at hk;cases hk
     have:=m4 k hk2
     rw[hk,Nat.zero_add]at this
     rw[add_add];exact this) hpo1
    have hpo2:fh P t (jV r p i e (ys.getD i (bm e)) 0) f={ok:=ok',v:=v',upd:=u',cut:=c',quiet:=q'}:=hpo
    rw[hpo2]at l2 l3 l4 l5
    rw[add_add]at l1
    refine⟨u,by rw[k2];simpa[Instr.loadAt,Instr.sureAddr]using l1,l2,fun x hx=> ?_,trivial,trivial⟩
    have:=m5 x (l3 x hx)
    subst this
    exact hb x (by simp[AV.roots])
  ·exact(ay hok).elim
 ·exact(ay hok).elim
theorem DO{t:TypeId}{x:Operand}(ho:o.op= .load t x)(R:Rel w0 st g born (a::asx) w)
  (hok:aN (fg P t (an st x) st.get).ok):cu P o a.eval w (dU w0 st born (a::asx) (fg P t (an st x) st.get)):=by
 obtain⟨hx,hb⟩:=bC R x
 obtain⟨u,h1,h2,h3,h4,h5⟩:=sM R hx hb hok
 refine bo R h4 h5 (v:=u) ?_ h2 h3
 unfold execOp;rw[ho]
 simp[h1]
theorem pK(b:Bool)(v u:AV):(pd b v u).roots= []:=by
 unfold pd
 split
 ·next k a k' b'=>cases decide (k=k')<;>rfl
 ·rfl
theorem tu{get:Get}{b:Bool}{v u:AV}{x:Value}(h:if b=true then ae get g v x else ae get g u x):ae get g (pd b v u) x:=by
 unfold pd
 split
 ·next k a k' b'=>
  cases hk:decide (k=k')with
  |true=>
   have hk:=of_decide_eq_true hk
   subst hk
   simp only[cond_true]
   have e:(D.sel b a b':Int)=if b=true then a else b':=rfl
   cases b with
   |true=>simp only[if_true]at h;rw[ae]at h⊢;rw[e];exact h
   |false=>simp only[Bool.false_eq_true,if_false]at h;rw[ae]at h⊢;rw[e];exact h
  |false=>simp[ae]
 ·simp[ae]
theorem qM{get:Get}: ∀(cs:List AV) (vs:List Value) (i:Nat) (n:Int),ai get g cs vs→(i:Int)≤n→n<(i+cs.length:Nat)→
  ∃v,vs[n.toNat-i]?=some v∧ae get g (jm cs i n) v∧(jm cs i n).roots= []
 | [],_,i,n,_,h1,h2=>by simp at h2;omega
 | [c],vs,i,n,hA,h1,h2=>by
  rw[ai]at hA
  obtain⟨x,xs,rfl,h3,h4⟩:=hA
  have e:n=i:=by simp at h2;omega
  refine⟨x,by subst e;simp,?_,?_⟩
  ·unfold jm;cases c<;>first|exact h3|simp[ae,AD]
  ·unfold jm;cases c<;>rfl
 |c::c2::cs,vs,i,n,hA,h1,h2=>by
  rw[ai]at hA
  obtain⟨x,xs,rfl,h3,h4⟩:=hA
  have hstep:jm (c::c2::cs) i n=pd (D.eq n (D.ofN i)) c (jm (c2::cs) (i+1) n):=by rw[jm]
  rw[hstep]
  have e0:D.eq n (D.ofN i)=decide (n=(i:Int)):=rfl
  by_cases e:n=i
  ·exact⟨x,by subst e;simp,tu (by rw[e0];simpa[e]using h3),pK _ _ _⟩
  ·obtain⟨v,k1,k2,k3⟩:=qM (c2::cs) xs (i+1) n h4 (by omega) (by simp only[List.length_cons]at h2⊢;omega)
   refine⟨v,?_,tu (by rw[e0];simpa[e]using k2),pK _ _ _⟩
   have:n.toNat-i=(n.toNat-(i+1))+1:=by omega
   rw[this];simpa using k1
theorem BG{xt:TypeId}{x ix:Operand}(ho:o.op= .index xt x ix)(R:Rel w0 st g born (a::asx) w)
  (hok:aN (nQ P xt (an st x) (an st ix)).ok):cu P o a.eval w (dU w0 st born (a::asx) (nQ P xt (an st x) (an st ix))):=by
 obtain⟨hx,hb⟩:=bC R x
 obtain⟨hi,_⟩:=bC R ix
 unfold nQ at hok⊢
 split at hok
 ·next s k n e1 e2=>
  rw[e1,ae]at hx
  rw[e2,ae]at hi
  obtain⟨h1,h2⟩:=af.1 hok
  obtain⟨h2,h3⟩:=af.1 h2
  have h2:0≤n:=of_decide_eq_true (show decide (0≤n)=true from h2)
  have h3:n.toNat<s.size:=of_decide_eq_true (show decide (n.toNat<s.size)=true from(af.1 h3).1)
  have hs:s[n.toNat]?=some (s.data.getD n.toNat 0):=by
   have h3':n.toNat<s.data.size:=h3
   have e1:s[n.toNat]?=some s[n.toNat]:=by simp[h3]
   rw[e1,Array.getD_eq_getD_getElem?,Array.getElem?_eq_getElem h3',Option.getD_some]
   rfl
  refine bo R rfl rfl (v:= .int .u8 (s.data.getD n.toNat 0).toNat) ?_ (by rw[ae];rfl) (fun r h=>by simp[AV.roots]at h)
  unfold execOp;rw[ho]
  simp only[Instr.index,hi,hx,asIntOf,Sem.run_bind,Sem.run_pure,Result.andThen_ok,ar (qg h1),h2,if_true,hs]
 ·next cs k n e1 e2=>
  rw[e1]at hx hb
  rw[ae]at hx
  rw[e2,ae]at hi
  split at hok
  ·next m e hu=>
   obtain⟨h1,h2⟩:=af.1 hok
   obtain⟨h2,h3⟩:=af.1 h2
   obtain⟨h3,h4⟩:=af.1 h3
   have h1:(fL P e&&Nat.beq (P.cellsOf e) 1&& !kB P e)=true:=h1
   simp only[Bool.and_eq_true,Bool.not_eq_true']at h1
   obtain⟨⟨k1,k2⟩,k3⟩:=h1
   have k2:=cX k2
   have h2:cs.length=m:=cX h2
   have h3:0≤n:=of_decide_eq_true (show decide (0≤n)=true from h3)
   have h4:n<(m:Int):=of_decide_eq_true (show decide (n<(m:Int))=true from(af.1 h4).1)
   obtain⟨vs,hv,hone,hA⟩:=hx
   obtain⟨v,l1,l2,l3⟩:=qM cs vs.toList 0 n hA (by omega) (by omega)
   have l1':vs[n.toNat]?=some v:=by simpa using l1
   refine bo R rfl rfl (v:=v) ?_ l2 (fun r h=>by rw[show(_:AV).roots= []from l3]at h;cases h)
   unfold execOp;rw[ho]
   simp only[Instr.index,hi,hv,asIntOf,Sem.run_bind,Sem.run_pure,Result.andThen_ok,ar hu,h3,h4,and_self,if_true,lp k1,k2]
   simp[part,mr k1,k3,l1']
  ·exact(ay hok).elim
 ·exact(ay hok).elim
end
end Go.Am
end
section
/- Soundness: slices of slices and strings, conversions, closures, min and max. -/
namespace Go.Am
attribute [local instance] D.real
section
variable {P : Program} {w0 : bu} {w : World} {st : St} {g : aB} {born : Nat → Prop} {a : Act} {asx : List Act} {o : Oper} {base : Nat}
theorem ql{n:Nat}{lo hi:Option AV}{vlo vhi:Option Value}{get:Get}{isS:Bool}{cap:Nat}(hn:n≤cap)
  (hlo: ∀x,lo=some x→ ∃v,vlo=some v∧ae get g x v) (hlo':lo=none→vlo=none)
  (hhi: ∀x,hi=some x→ ∃v,vhi=some v∧ae get g x v) (hhi':hi=none→vhi=none)
  {ok:List Tst} {l h:Nat} (hb:bounds n lo hi=(ok,l,h)) (hok:aN ok):
  (Instr.sliceBounds isS n cap vlo vhi none).run P w= .ok (l,h,cap) w∧l≤h∧h≤n:=by
 unfold bounds at hb
 split at hb
 ·simp only[Prod.mk.injEq]at hb
  obtain⟨_,rfl,rfl⟩:=hb
  rw[hlo' rfl,hhi' rfl]
  exact⟨by simp[Instr.sliceBounds],by omega,by omega⟩
 ·next k hh=>
  simp only[Prod.mk.injEq]at hb
  obtain⟨rfl,rfl,rfl⟩:=hb
  obtain⟨v,e,hv⟩:=hhi _ rfl
  rw[ae]at hv
  obtain⟨h1,h2⟩:=af.1 hok
  have h1:0≤hh:=of_decide_eq_true (show decide (0≤hh)=true from h1)
  have h2:hh.toNat≤n:=of_decide_eq_true (show decide (hh.toNat≤n)=true from(af.1 h2).1)
  rw[hlo' rfl,e,hv]
  refine⟨?_,by omega,h2⟩
  simp[Instr.sliceBounds,run_sliceBound,h1,(by omega:hh≤(cap:Int))]
  rfl
 ·next k ll=>
  simp only[Prod.mk.injEq]at hb
  obtain⟨rfl,rfl,rfl⟩:=hb
  obtain⟨v,e,hv⟩:=hlo _ rfl
  rw[ae]at hv
  obtain⟨h1,h2⟩:=af.1 hok
  have h1:0≤ll:=of_decide_eq_true (show decide (0≤ll)=true from h1)
  have h2:ll.toNat≤n:=of_decide_eq_true (show decide (ll.toNat≤n)=true from(af.1 h2).1)
  rw[hhi' rfl,e,hv]
  refine⟨?_,h2,by omega⟩
  simp[Instr.sliceBounds,run_sliceBound,h1,(by omega:ll≤(n:Int))]
  rfl
 ·next k ll k' hh=>
  simp only[Prod.mk.injEq]at hb
  obtain⟨rfl,rfl,rfl⟩:=hb
  obtain⟨v,e,hv⟩:=hlo _ rfl
  obtain⟨v',e',hv'⟩:=hhi _ rfl
  rw[ae]at hv hv'
  obtain⟨h1,h2⟩:=af.1 hok
  obtain⟨h2,h3⟩:=af.1 h2
  obtain⟨h3,h4⟩:=af.1 h3
  have h1:0≤hh:=of_decide_eq_true (show decide (0≤hh)=true from h1)
  have h2:hh.toNat≤n:=of_decide_eq_true (show decide (hh.toNat≤n)=true from h2)
  have h3:0≤ll:=of_decide_eq_true (show decide (0≤ll)=true from h3)
  have h4:ll.toNat≤hh.toNat:=of_decide_eq_true (show decide (ll.toNat≤hh.toNat)=true from(af.1 h4).1)
  rw[e,hv,e',hv']
  refine⟨?_,h4,h2⟩
  have eh:(hh.toNat:Int)=hh:=Int.toNat_of_nonneg h1
  simp[Instr.sliceBounds,run_sliceBound,h1,h3,eh,(by omega:hh≤(cap:Int)),(by omega:ll≤hh)]
  exact⟨rfl,rfl⟩
 ·simp only[Prod.mk.injEq]at hb
  obtain⟨rfl,_⟩:=hb
  exact(ay hok).elim
theorem sub_sub{sz:Nat}{sub:Option (Nat×Nat)}{v0:Value}{b:Option Addr}{n c l h:Nat}(h0:v0= .slice none 0 0∨ ∃a m k,v0= .slice (some a) m k∧m≤k)
  (hs:mI sz sub v0 (.slice b n c)) (hl:l≤h) (hh:h≤n):
  mI sz (some (cF sub l,h-l)) v0 (.slice (if c=l then b else b.map (·.add (l*sz))) (h-l) (c-l))∧n≤c:=by
 cases sub with
 |none=>
  have hs:Value.slice b n c=v0:=hs
  rcases h0 with h0|⟨a,m,k,h0,hmk⟩
  ·rw[h0]at hs
   injection hs with e1 e2 e3
   subst e1;subst e2;subst e3
   refine⟨.inl ⟨h0,?_,?_,?_⟩,Nat.le_refl _⟩
   ·obtain rfl:h=0:=by omega
    obtain rfl:l=0:=by omega
    simp
   ·show l=0;omega
   ·omega
  ·rw[h0]at hs
   injection hs with e1 e2 e3
   subst e1;subst e2;subst e3
   refine⟨.inr ⟨a,n,c,if c=l then 0 else l,h0,?_,?_,hmk,?_,?_⟩,hmk⟩
   ·by_cases e:c=l
    ·simp only[e,if_true,Nat.zero_mul]
     show Value.slice (some a) (h-l) (l-l)=Value.slice (some (a.add 0)) (h-l) (l-l)
     rw[show a.add 0=a from rfl]
    ·simp only[e,if_false];rfl
   ·show l+(h-l)≤n;omega
   ·show(if c=l then 0 else l)≤l;split<;>omega
   ·show(if c=l then 0 else l)=l∨l=c;split<;>omega
 |some s=>
  obtain⟨o1,l1⟩:=s
  rcases hs with⟨e0,hs,rfl,rfl⟩|⟨a,m,k,j,e0,hs,k1,k2,k3,k4⟩
  ·injection hs with e1 e2 e3
   subst e1;subst e2;subst e3
   refine⟨.inl ⟨e0,?_,?_,?_⟩,Nat.le_refl _⟩
   ·obtain rfl:h=0:=by omega
    obtain rfl:l=0:=by omega
    simp
   ·show 0+l=0;omega
   ·omega
  ·injection hs with e1 e2 e3
   subst e1;subst e2;subst e3
   refine⟨.inr ⟨a,m,k,if k-o1=l then j else j+l,e0,?_,?_,k2,?_,?_⟩,by omega⟩
   ·by_cases e:k-o1=l
    ·simp only[e,if_true]
     congr 1
     show l-l=k-(o1+l);omega
    ·simp only[e,if_false,Option.map_some,add_add]
     congr 1
     ·rw[Nat.add_mul]
     ·show k-o1-l=k-(o1+l);omega
   ·show o1+l+(h-l)≤m;omega
   ·show(if k-o1=l then j else j+l)≤o1+l;split<;>omega
   ·show(if k-o1=l then j else j+l)=o1+l∨o1+l=k;split<;>omega
theorem vw(R:Rel w0 st g born (a::asx) w)(x:Option Operand)(rest:List Operand):
  (∀v,(od ((x.toList++rest).map (an st)) x).1=some v→ ∃u,x.map a.eval=some u∧ae st.get g v u)∧
  ((od ((x.toList++rest).map (an st)) x).1=none→x.map a.eval=none)∧(od ((x.toList++rest).map (an st)) x).2=rest.map (an st):=by
 cases x with
 |none=>exact⟨fun v h=>(by cases h),fun _=>rfl,rfl⟩
 |some x=>
  refine⟨fun v h=> ?_,fun h=>(by cases h),rfl⟩
  injection h with h
  subst h
  exact⟨_,rfl,(bC R x).1⟩
theorem By{t:TypeId}{x:Operand}{lo hi:Option Operand}{avlo avhi:Option AV}(ho:o.op= .slice t x lo hi none)(R:Rel w0 st g born (a::asx) w)
  (hlo: ∀v,avlo=some v→ ∃u,lo.map a.eval=some u∧ae st.get g v u) (hlo':avlo=none→lo.map a.eval=none)
  (hhi: ∀v,avhi=some v→ ∃u,hi.map a.eval=some u∧ae st.get g v u) (hhi':avhi=none→hi.map a.eval=none)
  (hok:aN (kr P t (an st x) avlo avhi st.get).ok):cu P o a.eval w (dU w0 st born (a::asx) (kr P t (an st x) avlo avhi st.get)):=by
 obtain⟨hx,hb⟩:=bC R x
 unfold kr at hok⊢
 split at hok
 ·next hn=>
  rw[hn,ae]at hx
  generalize hbd:bounds 0 avlo avhi=bd at hok
  obtain⟨ok,l,h⟩:=bd
  simp only at hok⊢
  obtain⟨k1,k2⟩:=aq.1 hok
  obtain⟨k1,k3⟩:=af.1 k1
  obtain⟨e,he⟩:=Option.isSome_iff_exists.1 (show(fQ P t).isSome=true from k1)
  have k3:mg P ((fQ P t).getD 0)=true:=(af.1 k3).1
  rw[he]at k3
  obtain⟨i,_,_,_,_,hinf,_⟩:=lH k3
  obtain⟨hrun,hlh,hhn⟩:=ql (P:=P) (w:=w) (isS:=true) (cap:=0) (Nat.le_refl _) hlo hlo' hhi hhi' hbd k2
  obtain rfl:h=0:=by omega
  obtain rfl:l=0:=by omega
  refine bo R rfl rfl (v:= .slice none 0 0) ?_ (by rw[ae]) (fun r h=>by simp[AV.roots]at h)
  unfold execOp;rw[ho]
  have hrun2:(Instr.sliceBounds true 0 0 (lo.map a.eval) (hi.map a.eval) none).run P w= .ok (0,0,0) w:=hrun
  have hinf:P.info? e=some i:=hinf
  simp[Instr.sliceAt,Instr.slice,hx,ar (gr he),hrun2,cb hinf]
 ·next s hs=>
  rw[hs,ae]at hx
  generalize hbd:bounds (D.lenS s) avlo avhi=bd at hok
  obtain⟨ok,l,h⟩:=bd
  simp only at hok⊢
  obtain⟨h1,h2⟩:=af.1 hok
  obtain⟨hrun,hlh,hhn⟩:=ql (P:=P) (w:=w) (isS:=false) (cap:=s.size) (Nat.le_refl _) hlo hlo' hhi hhi' hbd h2
  refine bo R rfl rfl (v:= .string (s.extract l h)) ?_ (by rw[ae];rfl) (fun r h=>by simp[AV.roots]at h)
  unfold execOp;rw[ho]
  have hrun':(Instr.sliceBounds false s.size s.size (Option.map a.eval lo) (Option.map a.eval hi) none).run P w= .ok (l,h,s.size) w:=hrun
  simp only[Instr.sliceAt,Instr.slice,hx,Sem.run_bind,Sem.run_pure,Result.andThen_ok,ar (qg h1),Option.map_none,Option.isSome_none,Bool.false_eq_true,if_false,hrun']
 ·next r p sub hsl=>
  rw[hsl]at hx hb
  split at hok
  ·next rw t' xs hg=>
   generalize hrow:Go.Am.rowAt t' xs p=rr at hok
   obtain⟨ok,e,ys⟩:=rr
   simp only at hok⊢
   generalize hbd:bounds (bR sub ys) avlo avhi=bd at hok
   obtain⟨ok',l,h⟩:=bd
   simp only at hok⊢
   obtain⟨h1,h2⟩:=af.1 hok
   obtain⟨h2,h3⟩:=aq.1 h2
   obtain⟨e',i',z,hu,_,hinf,_,_,_,_,_,hce,_⟩:=cd h1
   obtain⟨hrep,hsub,b,c,hv⟩:=uQ R hg hrow h2 hx
   have h0:(g r).H p= .slice none 0 0∨ ∃a m k,(g r).H p= .slice (some a) m k∧m≤k:=by
    rcases hrep with⟨h0,_⟩|⟨a',cap,h0,hle,_⟩
    ·simp only[List.append_nil]at h0;exact .inl h0
    ·simp only[List.append_nil]at h0;exact .inr ⟨_,_,_,h0,hle⟩
   have hte:typeAt t' p=some e:=by
    have hro:=R.roots r
    unfold aF at hro
    rw[hg]at hro
    have hRo:aS w false t' xs (g r).H:=by
     cases rw with
     |true=>exact rR hro.1
     |false=>exact lC (cJ R.below) hro
    exact(gH p t' xs (g r).H ok e ys hrow h2 hRo).2.1
   rw[hv]at hsub
   have hnc:bR sub ys≤c:=(sub_sub (l:=0) (h:=0) h0 hsub (Nat.le_refl _) (Nat.zero_le _)).2
   obtain⟨hrun,hlh,hhn⟩:=ql (P:=P) (w:=w) (isS:=true) (cap:=c) hnc hlo hlo' hhi hhi' hbd h3
   have hss:=(sub_sub h0 hsub hlh hhn).1
   refine bo R rfl rfl (v:= .slice (if c=l then b else b.map (·.add (l*e.size))) (h-l) (c-l)) ?_ ?_ (fun x hx=>hb x (by simpa[AV.roots]using hx))
   ·unfold execOp;rw[ho]
    simp only[Instr.sliceAt,Instr.slice,hv,Sem.run_bind,Sem.run_pure,Result.andThen_ok,ar hu,Option.map_none,hrun,cb hinf,hce]
   ·rw[ae]
    refine⟨⟨_,_,_,rfl⟩,fun t2 e2 ht he=> ?_⟩
    rw[hg]at ht
    have ht:t'=t2:=by simpa[bI]using ht
    subst ht
    rw[hte]at he
    injection he with he
    subst he
    exact hss
  ·exact(ay hok).elim
 ·exact(ay hok).elim
theorem zq{op:BinOp}{t yt:TypeId}{x y:Operand}(ho:o.op= .binOp op t x y yt)(R:Rel w0 st g born (a::asx) w)
  (hok:aN (aP P o (o.op.operands.toList.map (an st)) st.get base).ok):
  cu P o a.eval w (dU w0 st born (a::asx) (aP P o (o.op.operands.toList.map (an st)) st.get base)):=by
 have e:aP P o (o.op.operands.toList.map (an st)) st.get base=rF P t op (an st x) (an st y) st.get:=by
  unfold aP;rw[ho];rfl
 unfold rF at e
 split at e
 ·next r p sub hx hy=>
  obtain⟨hx',hb⟩:=bC R x
  obtain⟨hy',_⟩:=bC R y
  rw[hx]at hx'
  rw[hy,ae]at hy'
  rw[e]at hok⊢
  split at hok
  ·next rw t' xs hg=>
   generalize hrow:Go.Am.rowAt t' xs p=rr at hok
   obtain⟨ok,e1,ys⟩:=rr
   simp only at hok⊢
   obtain⟨k1,k2⟩:=af.1 hok
   obtain⟨e',he⟩:=Option.isSome_iff_exists.1 (show(fQ P t).isSome=true from k1)
   obtain⟨hrep,hsub,b,c,hv⟩:=uQ R hg hrow k2 hx'
   refine bo R rfl rfl (v:= .bool b.isNone) ?_ ?_ (fun r h=>by simp[AV.roots]at h)
   ·unfold execOp;rw[ho]
    have hq:(Op.equalIn 10000 t (.slice b (bR sub ys) c) (.slice none 0 0)).run P w= .ok b.isNone w:=by
     show(Op.equalIn (9999+1) t _ _).run P w=_
     unfold Op.equalIn
     cases b<;>simp[ar (gr he)]
    simp[hv,hy',eqGuard,binOp,Op.equal,Op.maxDepth,hq]
   ·rw[ae]
    refine⟨_,rfl,fun hn=> ?_⟩
    cases b with
    |some=>rfl
    |none=>
     exfalso
     rw[hv]at hsub
     have h0:(g r).H p= .slice none 0 0∧ys.length=0∨ ∃a m k,(g r).H p= .slice (some a) m k:=by
      rcases hrep with⟨h0,h1⟩|⟨a',cap,h0,_⟩
      ·simp only[List.append_nil]at h0;exact .inl ⟨h0,by rw[h1];rfl⟩
      ·simp only[List.append_nil]at h0;exact .inr ⟨_,_,_,h0⟩
     cases sub with
     |none=>
      have hsub:Value.slice none ys.length c=(g r).H p:=hsub
      rcases h0 with⟨_,h1⟩|⟨a,m,k,h1⟩
      ·exact hn h1
      ·rw[h1]at hsub;cases hsub
     |some ol=>
      obtain⟨o1,l1⟩:=ol
      rcases hsub with⟨_,h2,_,h3⟩|⟨a,n,c',j,_,h2,_⟩
      ·exact hn h3
      ·cases h2
  ·exact(ay hok).elim
 ·exact BI ho R e hok
theorem wH{fn:Fn}{first cap:Array Operand}(ho:o.op= .makeFunc fn first cap)(R:Rel w0 st g born (a::asx) w)
  (hok:aN (qw fn first.size ((first++cap).toList.map (an st))).ok):cu P o a.eval w (dU w0 st born (a::asx) (qw fn first.size ((first++cap).toList.map (an st)))):=by
 obtain⟨hA,hb⟩:=nT R (first++cap).toList
 unfold qw at hok⊢
 split at hok
 ·next f=>
  refine bo R rfl rfl (v:= .func (.func f) (first.map a.eval) (cap.map a.eval)) ?_ ?_ (fun r hr=> ?_)
  ·unfold execOp;rw[ho]
   simp[Instr.makeFunc]
  ·rw[ae]
   refine⟨_,_,rfl,?_,?_⟩
   ·have:=fZ first.size hA
    have e:(((first++cap).toList.map a.eval).take first.size)=(first.map a.eval).toList:=by simp
    rw[e]at this;exact this
   ·have:=gd first.size hA
    have e:(((first++cap).toList.map a.eval).drop first.size)=(cap.map a.eval).toList:=by simp
    rw[e]at this;exact this
  ·simp only[AV.roots,List.mem_append]at hr
   rcases hr with hr|hr
   ·exact hb r (jh _ hr)
   ·exact hb r (gK _ hr)
 ·exact(ay hok).elim
theorem uZ{gt:Bool}{l:List AV}{vs:List Value}{ts:Array TypeId}{ty:TypeId}{get:Get}(hA:ai get g l vs)(hok:aN (l9 gt l).ok):
  ∃v,((if gt=true then Builtin.max_ ts ty vs.toArray else Builtin.min_ ts ty vs.toArray)).run P w= .ok v w∧ae get g (l9 gt l).v v∧(l9 gt l).v.roots= []∧(l9 gt l).upd= []∧(l9 gt l).cut=none:=by
 unfold l9 at hok⊢
 split at hok
 ·next k x k' y=>
  obtain⟨u,v,rfl,h1,h2⟩:=Gg hA
  rw[ae]at h1 h2
  subst h1;subst h2
  cases hk:decide (k=k')with
  |false=>rw[hk]at hok;exact(ay hok).elim
  |true=>
   have hk:=of_decide_eq_true hk
   subst hk
   simp only[cond_true]
   cases gt with
   |true=>
    refine⟨.int k (if y>x then y else x),by simp[run_max_int2],?_,rfl,trivial,trivial⟩
    simp only[cond_true]
    rw[ae]
    have:(D.sel (D.lt x y) y x:Int)=if decide (x<y)=true then y else x:=rfl
    rw[this];simp
   |false=>
    refine⟨.int k (if y<x then y else x),by simp[run_min_int2],?_,rfl,trivial,trivial⟩
    simp only[cond_false]
    rw[ae]
    have:(D.sel (D.lt y x) y x:Int)=if decide (y<x)=true then y else x:=rfl
    rw[this];simp
 ·exact(ay hok).elim
end
end Go.Am
end
section
/- Soundness: conversions; states with roots set; values whose nil slices get rows. -/
namespace Go.Am
noncomputable section
attribute [local instance] D.real
section
variable {P : Program} {w0 : bu} {w w' : World} {st st' : St} {g : aB} {born : Nat → Prop} {a : Act} {asx acts : List Act} {o : Oper} {base : Nat}
theorem fold_push: ∀(ns:List Int) (s:ByteArray),(ns.foldl (fun r n=>r.push (UInt8.ofNat n.toNat)) s)=⟨s.data++(ns.map fun n=>UInt8.ofNat n.toNat).toArray⟩
 | [],s=>by cases s;simp
 |n::ns,s=>by
  rw[List.foldl_cons,fold_push ns]
  cases s
  simp[ByteArray.push]
theorem Ba{w:World}{k:IntKind}{xs:List Int}{H:Path→Value}{aa:Addr}(hx: ∀i (x:Int),xs[i]?=some x→Rep w false (.int k) x (fun f p=>H ((i,f)::p)) 0 (fun f=>w.cell? (aa.add (i*(Ty.int k).size+f)))):
  (loadCells aa xs.length).run P w= .ok (xs.map (Value.int k)).toArray w:=by
 have:=run_loadCells_list (P:=P) w aa (xs.map (Value.int k)) (fun j v hj=>by
  rw[List.getElem?_map]at hj
  cases hxj:xs[j]? with
  |none=>rw[hxj]at hj;cases hj
  |some x=>
   rw[hxj]at hj
   injection hj with hj
   subst hj
   have h1:w.cell? (aa.add (j*1+0))=some (.int k x):=hx j x hxj
   simpa using h1)
 simpa using this
theorem yG{src dst:TypeId}{x:Operand}(ho:o.op= .convert src dst x)(R:Rel w0 st g born (a::asx) w)
  (hok:aN (ov P src dst (an st x) st.get).ok):cu P o a.eval w (dU w0 st born (a::asx) (ov P src dst (an st x) st.get)):=by
 obtain⟨hx,hb⟩:=bC R x
 unfold ov at hok⊢
 split at hok
 ·next ds k k' n h1 h2 h3=>
  rw[h3,ae]at hx
  refine bo R rfl rfl (v:= .int k (k.wrap n)) ?_ (by rw[ae];rfl) (fun r h=>by simp[AV.roots]at h)
  unfold execOp;rw[ho]
  simp[convert,ar h1,ar h2,hx,Conv.intToInt]
 ·next ds s h1 h2 h3=>
  rw[h3,ae]at hx
  refine bo R rfl rfl (v:= .string s) ?_ (by rw[ae]) (fun r h=>by simp[AV.roots]at h)
  unfold execOp;rw[ho]
  simp[convert,ar h1,ar h2,hx]
 ·next e h1 h2 _=>
  by_cases he:P.underlying e=some (.int .u8)
  ·have hm:EE P e=true:=by unfold EE;rw[he]
   rw[hm]at hok
   simp only[hm,cond_true]at hok⊢
   generalize hrd:bp st.get (.sl (.int .u8)) [an st x]=rd at hok
   obtain⟨ok,xs,rest⟩:=rd
   simp only at hok⊢
   have hA:ai st.get g [an st x] [a.eval x]:=by rw[ai];exact⟨_,_,rfl,hx,by rw[ai]⟩
   have hrep:=kQ R.roots (cJ R.below) hA (.sl (.int .u8)) 0 ok xs rest hrd hok
   have hrep:Rep w false (.sl (.int .u8)) xs (Gof g [an st x] [a.eval x]) 0 (fun k=> [a.eval x][k]?):=by
    rcases hrep with⟨h,_⟩|⟨h,_⟩
    ·exact h
    ·simp[Ty.size]at h
   obtain⟨h4,h5⟩:=hrep
   have h4:a.eval x=Gof g [an st x] [a.eval x] 0 []:=by simpa using h4
   refine bo R rfl rfl (v:= .string (D.ofInts xs)) ?_ (by rw[ae]) (fun r h=>by simp[AV.roots]at h)
   have hexec:execOp a.eval o=(do pure (.value (←convert src dst (a.eval x)))):=by unfold execOp;rw[ho]
   rw[hexec]
   rcases h5 with⟨h6,h7⟩|⟨aa,cap,h6,_,_,h7⟩
   ·rw[←h4]at h6
    rw[h6]
    subst h7
    simp[convert,ar h1,ar h2,ar he,Conv.bytesToString]
    rfl
   ·rw[←h4]at h6
    rw[h6]
    have hl:=Ba (P:=P) (w:=w) h7
    have hs:=run_bytesToString (P:=P) w aa (List.length xs) cap xs hl
    rw[fold_push]at hs
    simp only[Sem.run_bind,run_convert_bytes_string w src dst e _ _ _ h1 he h2,hs,Result.andThen_ok,Sem.run_pure]
    congr 2
    congr 1
    show ByteArray.mk _=ByteArray.mk _
    congr 1
    simp
  ·have hm:EE P e=false:=by
    unfold EE
    split
    ·next h=>exact absurd h he
    ·rfl
   rw[hm]at hok
   exact(ay hok).elim
 ·exact(ay hok).elim
def eF:List (Nat×ak)→Get→Get
 | [],f=>f
 |(i,x)::l,f=>eF l fun r=>if r=i then x else f r
theorem eX: ∀(l:List (Nat×ak)) (st:St),(st.aH l).get=eF l st.get
 | [],_=>rfl
 |(i,x)::l,st=>by
  rw[jJ,eX l]
  show eF l (st.ep i x).get=eF l fun r=>if r=i then x else st.get r
  congr 1
  funext r
  exact dN st i x r
theorem gY: ∀(l:List (Nat×ak)) (f:Get) (r:Nat),r∉l.map (·.1)→eF l f r=f r
 | [],_,_,_=>rfl
 |(i,x)::l,f,r,h=>by
  simp only[List.map_cons,List.mem_cons,not_or]at h
  unfold eF
  rw[gY l _ r h.2,if_neg h.1]
theorem lG: ∀(l:List (Nat×ak)) (f f':Get) (r:Nat),f r=f' r→eF l f r=eF l f' r
 | [],_,_,_,h=>h
 |(i,x)::l,f,f',r,h=>by
  unfold eF
  refine lG l _ _ r ?_
  simp only[h]
theorem A8(l m:List (Nat×ak))(f:Get):eF (l++m) f=eF m (eF l f):=by
 induction l generalizing f with
 |nil=>rfl
 |cons a l ih=>obtain⟨i,x⟩:=a;exact ih _
theorem br(base:Nat)(rs:List ak): ∀i,i∈(aj base rs).map (·.1)↔base≤i∧i<base+rs.length:=by
 induction rs generalizing base with
 |nil=>intro i;simp[aj]
 |cons x rs ih=>
  intro i
  simp only[aj,List.map_cons,List.mem_cons,ih,List.length_cons]
  omega
theorem jc(R:Rel w0 st g born acts w)(hf:st'.fr=st.fr)(hg: ∀r,st'.get r=st.get r):Rel w0 st' g born acts w:=by
 have e:st'.get=st.get:=funext hg
 refine⟨R.below,?_,?_,?_,?_,?_,?_,?_,R.marks⟩
 ·rw[e];exact R.roots
 ·rw[e];exact R.sep
 ·rw[e];exact R.low
 ·rw[e,hf];exact R.frames
 ·rw[hf];exact R.bornF
 ·intro r;rw[hg];exact R.bornR r
 ·intro r;rw[hg];exact R.alive r
theorem pY(w:World)(e:Ty):aS w true e [] (fun _=> .slice none 0 0)∧bD e [] (fun _=> .slice none 0 0):=
 ⟨.inl ⟨rfl,rfl⟩,fun a n c i x h=>by(cases h),fun i j x y b _ h _=>by simp at h,fun i x h=>by simp at h⟩
theorem tz(e:Ty)(b:Nat): ¬aD e [] (fun _=> .slice none 0 0) b:=by
 rintro(⟨a,n,c,h,_⟩|⟨i,x,h,_⟩)
 ·cases h
 ·simp at h
theorem Laid.refl(st:St)(g:aB)(born:Nat→Prop)(lo:Nat):Laid st st g g born born lo lo:=
 ⟨fun _ _=>⟨rfl,rfl⟩,fun r=>⟨.inl,fun h=>h.elim id fun h=>by omega⟩⟩
theorem Laid.trans{st1 st2 st3:St}{g1 g2 g3:aB}{b1 b2 b3:Nat→Prop}{lo mi hi:Nat}(h1:lo≤mi)(h2:mi≤hi)(L1:Laid st1 st2 g1 g2 b1 b2 lo mi)(L2:Laid st2 st3 g2 g3 b2 b3 mi hi):Laid st1 st3 g1 g3 b1 b3 lo hi:=by
 refine⟨fun r hr=> ?_,fun r=> ?_⟩
 ·obtain⟨e1,e2⟩:=L1.old r hr
  obtain⟨e3,e4⟩:=L2.old r ((L1.born_iff r).2 (.inl hr))
  exact⟨e3.trans e1,e4.trans e2⟩
 ·rw[L2.born_iff,L1.born_iff]
  constructor
  ·rintro((h|h)|h)
   ·exact .inl h
   ·exact .inr ⟨h.1,by omega⟩
   ·exact .inr ⟨by omega,h.2⟩
  ·rintro(h|h)
   ·exact .inl (.inl h)
   ·by_cases h':r<mi
    ·exact .inl (.inr ⟨h.1,h'⟩)
    ·exact .inr ⟨by omega,h.2⟩
theorem uf: ∀(t:Ty) (st:St) (g:aB) (born:Nat→Prop) (base:Nat) (vs ws:List AV) (vals:List Value) (rs:List ak),
  Rel w0 st g born acts w→ai st.get g vs vals→(∀r∈AV.ah vs,born r)→lk t vs base=(ws,rs)→(∀i,base≤i→i<base+rs.length→ ¬born i)→
  ∃g' born',Rel w0 (st.aH (aj base rs)) g' born' acts w∧Laid st (st.aH (aj base rs)) g g' born born' base (base+rs.length)∧
   ai (st.aH (aj base rs)).get g' ws vals∧ ∀r∈AV.ah ws,born' r:=by
 intro t
 have triv: ∀(st:St) (g:aB) (born:Nat→Prop) (base:Nat) (vs ws:List AV) (vals:List Value) (rs:List ak),
   Rel w0 st g born acts w→ai st.get g vs vals→(∀r∈AV.ah vs,born r)→(vs,([]:List ak))=(ws,rs)→
   ∃g' born',Rel w0 (st.aH (aj base rs)) g' born' acts w∧Laid st (st.aH (aj base rs)) g g' born born' base (base+rs.length)∧
    ai (st.aH (aj base rs)).get g' ws vals∧ ∀r∈AV.ah ws,born' r:=by
  intro st g born base vs ws vals rs R hA hb h
  simp only[Prod.mk.injEq]at h
  obtain⟨rfl,rfl⟩:=h
  exact⟨g,born,R,Laid.refl _ _ _ _,hA,hb⟩
 induction t with
 |int k=>intro st g born base vs ws vals rs R hA hb h _;exact triv st g born base vs ws vals rs R hA hb h
 |bool=>intro st g born base vs ws vals rs R hA hb h _;exact triv st g born base vs ws vals rs R hA hb h
 |str=>intro st g born base vs ws vals rs R hA hb h _;exact triv st g born base vs ws vals rs R hA hb h
 |unit=>intro st g born base vs ws vals rs R hA hb h _;exact triv st g born base vs ws vals rs R hA hb h
 |sl e ih=>
  intro st g born base vs ws vals rs R hA hb h hfr
  unfold lk at h
  split at h
  ·next r=>
   simp only[Prod.mk.injEq]at h
   obtain⟨rfl,rfl⟩:=h
   have hi: ¬born base:=hfr base (Nat.le_refl _) (by simp)
   have e1:(st.ep base (.row true e [])).get base= .row true e []:=bQ _ _ _
   have e2:dK g base ⟨0,fun _=> .slice none 0 0,fun _=>False⟩ base=⟨0,fun _=> .slice none 0 0,fun _=>False⟩:=bU _ _ _
   have hown: ∀b,¬Own (st.ep base (.row true e [])).get (dK g base ⟨0,fun _=> .slice none 0 0,fun _=>False⟩) base b:=by
    intro b h
    unfold Own at h
    rw[e1]at h
    simp only[e2]at h
    exact tz e b h
   have R':=CM R base (.row true e []) ⟨0,fun _=> .slice none 0 0,fun _=>False⟩ hi (by
     unfold aF
     rw[e1]
     simp only[e2]
     exact pY w e)
    (fun b h=>(hown b h).elim) (fun r b h _=>(hown b h).elim) (fun r h=>by simp[ak.roots]at h)
   have L:Laid st (st.ep base (.row true e [])) g (dK g base ⟨0,fun _=> .slice none 0 0,fun _=>False⟩) born (fun r=>born r∨r=base) base (base+1):=
    ⟨fun r hr=>⟨aT fun e=>hi (e▸hr),aE fun e=>hi (e▸hr)⟩,fun r=>⟨fun h=>h.imp id fun h=>by omega,fun h=>h.imp id fun h=>by omega⟩⟩
   refine⟨_,_,R',L,?_,fun x hx=> ?_⟩
   ·rw[ai]at hA⊢
    obtain⟨x,xs,rfl,h1,h2⟩:=hA
    rw[ae]at h1
    refine⟨x,xs,rfl,?_,bZ _ _ (fun r hr=>L.holds (hb r (by simp only[AV.ah,List.mem_append];exact .inr hr))) h2⟩
    rw[ae,h1]
    refine⟨⟨_,_,_,rfl⟩,fun t e' _ _=> ?_⟩
    rw[e2];rfl
   ·simp only[AV.ah,AV.roots,List.mem_append,List.mem_singleton]at hx
    rcases hx with hx|hx
    ·exact .inr hx
    ·exact .inl (hb x (by simp only[AV.ah,List.mem_append];exact .inr hx))
  ·exact triv st g born base vs ws vals rs R hA hb h
 |pair t1 t2 iha ihb=>
  intro st g born base vs ws vals rs R hA hb h hfr
  unfold lk at h
  generalize ha:lk t1 (vs.take t1.size) base=ra at h
  obtain⟨ws1,rs1⟩:=ra
  simp only at h
  generalize hbb:lk t2 (vs.drop t1.size) (base+rs1.length)=rb at h
  obtain⟨ws2,rs2⟩:=rb
  simp only[Prod.mk.injEq]at h
  obtain⟨rfl,rfl⟩:=h
  obtain⟨g1,b1,R1,L1,A1,B1⟩:=iha st g born base _ _ (vals.take t1.size) rs1 R (fZ _ hA) (fun r hr=>hb r (jh _ hr)) ha (fun i h1 h2=>hfr i h1 (by simp;omega))
  obtain⟨g2,b2,R2,L2,A2,B2⟩:=ihb _ g1 b1 (base+rs1.length) _ _ (vals.drop t1.size) rs2 R1
   (bZ _ _ (fun r hr=>L1.holds (hb r (gK _ hr))) (gd _ hA)) (fun r hr=>(L1.born_iff r).2 (.inl (hb r (gK _ hr)))) hbb
   (fun i h1 h2 hbi=>((L1.born_iff i).1 hbi).elim (hfr i (by omega) (by simp;omega)) fun h=>by omega)
  have hset:st.aH (aj base (rs1++rs2))=(st.aH (aj base rs1)).aH (aj (base+rs1.length) rs2):=by
   rw[ig,iH]
  rw[hset]
  refine⟨g2,b2,R2,?_,?_,fun x hx=> ?_⟩
  ·have:=Laid.trans (by omega) (by omega) L1 L2
   rw[List.length_append,←Nat.add_assoc];exact this
  ·have:=cK (bZ _ _ (fun r hr=>L2.holds (B1 r hr)) A1) A2
   rwa [List.take_append_drop]at this
  ·have app: ∀(l m:List AV),x∈AV.ah (l++m)→x∈AV.ah l∨x∈AV.ah m:=by
    intro l
    induction l with
    |nil=>intro m h;exact .inr h
    |cons u us ih=>
     intro m h
     simp only[List.cons_append,AV.ah,List.mem_append]at h⊢
     rcases h with h|h
     ·exact .inl (.inl h)
     ·exact(ih m h).imp .inr id
   rcases app _ _ hx with hx|hx
   ·exact(L2.born_iff x).2 (.inl (B1 x hx))
   ·exact B2 x hx
theorem oH{t:TypeId}{v v':AV}{x:Value}{rs:List ak}(R:Rel w0 st g born acts w)(hA:ae st.get g v x)(hb: ∀r∈v.roots,born r)(h:nq P t v base=(v',rs))
  (hfr: ∀i,base≤i→i<base+rs.length→ ¬born i):
  ∃g' born',Rel w0 (st.aH (aj base rs)) g' born' acts w∧Laid st (st.aH (aj base rs)) g g' born born' base (base+rs.length)∧
   ae (st.aH (aj base rs)).get g' v' x∧ ∀r∈v'.roots,born' r:=by
 unfold nq at h
 split at h
 ·generalize hf:lk (tyD P t) [.nilS] base=ff at h
  obtain⟨vs,rs'⟩:=ff
  simp only[Prod.mk.injEq]at h
  obtain⟨rfl,rfl⟩:=h
  obtain⟨g',b',R',L,A,B⟩:=uf (tyD P t) st g born base [.nilS] vs [x] rs' R (by rw[ai];exact⟨x,[],rfl,hA,by rw[ai]⟩) (fun r hr=>by simp[AV.ah,AV.roots]at hr) hf hfr
  refine⟨g',b',R',L,?_,fun r hr=>B r ?_⟩
  ·cases vs with
   |nil=>simp[ae]
   |cons u us=>
    rw[ai]at A
    obtain⟨y,ys,e,h1,_⟩:=A
    injection e with e1 e2
    subst e1
    exact h1
  ·cases vs with
   |nil=>simp[AV.roots]at hr
   |cons u us=>simp only[AV.ah,List.mem_append];exact .inl hr
 ·next cs=>
  generalize hf:lk (tyD P t) cs base=ff at h
  obtain⟨vs,rs'⟩:=ff
  simp only[Prod.mk.injEq]at h
  obtain⟨rfl,rfl⟩:=h
  rw[ae]at hA
  obtain⟨xs,rfl,h1,h2⟩:=hA
  obtain⟨g',b',R',L,A,B⟩:=uf (tyD P t) st g born base cs vs xs.toList rs' R h2 (fun r hr=>hb r (by simpa[AV.roots]using hr)) hf hfr
  exact⟨g',b',R',L,by rw[ae];exact⟨xs,rfl,h1,A⟩,fun r hr=>B r (by simpa[AV.roots]using hr)⟩
 ·simp only[Prod.mk.injEq]at h
  obtain⟨rfl,rfl⟩:=h
  exact⟨g,born,R,Laid.refl _ _ _ _,hA,hb⟩
end
end
end Go.Am
end
section
/- Soundness: variables made: move, alloc, box. -/
namespace Go.Am
attribute [local instance] D.real
section
variable {P : Program} {w0 : bu} {w w' : World} {st st' : St} {g : aB} {born : Nat → Prop} {a : Act} {asx acts : List Act} {o : Oper} {base : Nat}
theorem eW{x:Nat}: ∀{l m:List AV},x∈AV.ah (l++m)→x∈AV.ah l∨x∈AV.ah m:=by
 intro l
 induction l with
 |nil=>intro m h;exact .inr h
 |cons u us ih=>
  intro m h
  simp only[List.cons_append,AV.ah,List.mem_append]at h⊢
  rcases h with h|h
  ·exact .inl (.inl h)
  ·exact(ih h).imp .inr id
theorem jd{get:Get}{v:AV}{x:Value}(h:ae get g v x)(hs:v.kC=true):
  ai get g v.cells x.cells.toList∧(∀c∈x.cells.toList,c.oneCell'=true)∧ ∀r∈AV.ah v.cells,r∈v.roots:=by
 have one: ∀(u:AV) (y:Value),ae get g u y→y.oneCell'=true→u.cells= [u]→ai get g u.cells y.cells.toList∧(∀c∈y.cells.toList,c.oneCell'=true)∧ ∀r∈AV.ah u.cells,r∈u.roots:=by
  intro u y h1 h2 h3
  have hy:y.cells= #[y]:=by cases y<;>first|rfl|simp[Value.oneCell']at h2
  rw[h3,hy]
  refine⟨?_,by simpa using h2,fun r hr=>by simpa[AV.ah]using hr⟩
  rw[ai];exact⟨y,[],rfl,h1,by rw[ai]⟩
 cases v with
 |undef=>cases hs
 |tup vs=>cases hs
 |agg cs=>
  rw[ae]at h
  obtain⟨vs,rfl,h1,h2⟩:=h
  exact⟨h2,h1,fun r hr=>by simpa[AV.roots,AV.cells]using hr⟩
 |int k n=>exact one _ _ h (by rw[ae]at h;rw[h];rfl) rfl
 |bool b=>exact one _ _ h (by rw[ae]at h;rw[h];rfl) rfl
 |kb b=>exact one _ _ h (by rw[ae]at h;rw[h];rfl) rfl
 |ki k n=>exact one _ _ h (by rw[ae]at h;rw[h];rfl) rfl
 |nb n=>exact one _ _ h (by rw[ae]at h;obtain⟨b,h,_⟩:=h;rw[h];rfl) rfl
 |str s=>exact one _ _ h (by rw[ae]at h;rw[h];rfl) rfl
 |nilS=>exact one _ _ h (by rw[ae]at h;rw[h];rfl) rfl
 |sl r p sub=>exact one _ _ h (by rw[ae]at h;obtain⟨⟨a,n,c,e⟩,_⟩:=h;rw[e];rfl) rfl
 |pv r c=>exact one _ _ h (by rw[ae]at h;obtain⟨⟨a,e⟩,_⟩:=h;rw[e];rfl) rfl
 |pe r p i f=>exact one _ _ h (by rw[ae]at h;obtain⟨⟨a,e⟩,_⟩:=h;rw[e];rfl) rfl
 |fn f x y=>exact one _ _ h (by rw[ae]at h;obtain⟨vs,ws,e,_⟩:=h;rw[e];rfl) rfl
 |lit r n=>exact one _ _ h (by rw[ae]at h;obtain⟨⟨a,n,c,e⟩,_⟩:=h;rw[e];rfl) rfl
theorem CQ(R:Rel w0 st g born acts w){i:Nat}{cs:List AV}{arr:Array Value}{te:TypeId}(hi: ¬born i)(hA:ai st.get g cs arr.toList)(h1: ∀x∈arr.toList,x.oneCell'=true)
  (hb: ∀r∈AV.ah cs,born r):Rel w0 (st.ep i (.var cs)) (dK g i ⟨w.heap.size,fun _=>Go.undef,fun _=>False⟩) (fun r=>born r∨r=i) acts (w.alloc (.cells arr te)):=by
 have e1:(st.ep i (.var cs)).get i= .var cs:=bQ _ _ _
 have e2:dK g i ⟨w.heap.size,fun _=>Go.undef,fun _=>False⟩ i=⟨w.heap.size,fun _=>Go.undef,fun _=>False⟩:=bU _ _ _
 refine CK R i (.var cs) ⟨w.heap.size,fun _=>Go.undef,fun _=>False⟩ hi ((RowKit.Below.refl _ _).alloc (Nat.le_refl _) _) ?_ (fun b hb=> ?_) (fun r hr=>hb r hr)
 ·unfold aF
  rw[e1]
  refine⟨arr,te,?_,h1,bZ _ _ (fun r hr=> ?_) hA⟩
  ·rw[e2];exact heap_alloc_new w _
  ·have hne:r≠i:=fun e=>hi (e▸hb r hr)
   exact⟨fun t ht=>by rw[aT hne]at ht;exact⟨ht,fun _ _=>by rw[aE hne]⟩,fun hv=>by rw[aT hne]at hv;exact⟨hv,by rw[aE hne]⟩⟩
 ·unfold Own at hb
  rw[e1]at hb
  simp only[e2]at hb
  omega
theorem Dd{l:List (Nat×ak)}{i:Nat}{x:ak}(h:i∉l.map (·.1))(st:St)(r:Nat):(st.aH ((i,x)::l)).get r=((st.aH l).ep i x).get r:=by
 rw[dN,eX,eX]
 show eF l (fun r=>if r=i then x else st.get r) r=_
 by_cases e:r=i
 ·subst e
  rw[gY l _ r h]
  simp
 ·rw[if_neg e]
  exact lG l _ _ r (by simp[e])
theorem yH{base n:Nat}{rs:List ak}(h:base<n):base∉(aj n rs).map (·.1):=by
 rw[br];omega
theorem Du{x:Operand}{t:TypeId}(hrun:(execOp a.eval o).run P w= .ok (.value (a.eval x)) w)(R:Rel w0 st g born (a::asx) w)
  (hfr: ∀i,base≤i→i∈(aj base (nq P t (an st x) base).2).map (·.1)→ ¬born i):
  cu P o a.eval w (dU w0 st born (a::asx) {ok:= [],v:=(nq P t (an st x) base).1,upd:=aj base (nq P t (an st x) base).2}):=by
 obtain⟨hx,hb⟩:=bC R x
 generalize hf:nq P t (an st x) base=ff at hfr⊢
 obtain⟨v',rs⟩:=ff
 obtain⟨g',b',R',L,A,B⟩:=oH R hx hb hf (fun i h1 h2=>hfr i h1 ((br _ _ _).2 ⟨h1,h2⟩))
 exact cu.value hrun ⟨g',b',R',A,B,fun r hr=>((L.born_iff r).1 hr).imp id fun h=>(br _ _ _).2 h,fun r hr=>(L.born_iff r).2 (.inl hr)⟩
theorem y6{ok:List Tst}{cs:List AV}{rs:List ak}{arr:Array Value}{te:TypeId}{g':aB}{b':Nat→Prop}(R':Rel w0 (st.aH (aj (base+1) rs)) g' b' acts w)
  (hb': ∀r,b' r↔born r∨(base+1≤r∧r<base+1+rs.length)) (hbase: ¬born base)
  (hA:ai (st.aH (aj (base+1) rs)).get g' cs arr.toList) (h1: ∀x∈arr.toList,x.oneCell'=true) (hB: ∀r∈AV.ah cs,b' r):
  dU w0 st born acts {ok:=ok,v:= .pv base 0,upd:=(base,.var cs)::aj (base+1) rs} (.pointer (some ⟨w.heap.size,0,none⟩)) (w.alloc (.cells arr te)):=by
 have hi: ¬b' base:=fun h=>((hb' base).1 h).elim hbase fun h=>by omega
 have R2:=CQ (te:=te) R' hi hA h1 hB
 have hget: ∀r,(st.aH ((base,.var cs)::aj (base+1) rs)).get r=((st.aH (aj (base+1) rs)).ep base (.var cs)).get r:=Dd (yH (by omega)) st
 refine⟨_,_,jc R2 rfl hget,?_,fun r hr=> ?_,fun r hr=> ?_,fun r hr=> ?_⟩
 ·show ae _ _ (.pv base 0) _
  rw[ae]
  refine⟨⟨_,rfl⟩,fun _=> ?_⟩
  rw[bU]
 ·simp only[AV.roots,List.mem_singleton]at hr;exact .inr hr
 ·rcases hr with hr|hr
  ·rcases(hb' r).1 hr with h|h
   ·exact .inl h
   ·exact .inr (by simp only[List.map_cons,List.mem_cons];exact .inr ((br _ _ _).2 h))
  ·exact .inr (by simp[hr])
 ·exact .inl ((hb' r).2 (.inl hr))
theorem zJ{elem:TypeId}{x:Operand}(ho:o.op= .box elem x)(R:Rel w0 st g born (a::asx) w){v':AV}{rs:List ak}(hf:nq P elem (an st x) (base+1)=(v',rs))
  (hok:aN [Tst.s v'.kC]) (hfr: ∀i,base≤i→i∈((base,ak.var v'.cells)::aj (base+1) rs).map (·.1)→ ¬born i):
  cu P o a.eval w (dU w0 st born (a::asx) {ok:= [.s v'.kC],v:= .pv base 0,upd:=(base,.var v'.cells)::aj (base+1) rs}):=by
 obtain⟨hx,hb⟩:=bC R x
 have hsol:v'.kC=true:=(af.1 hok).1
 obtain⟨g',b',R',L,A,B⟩:=oH R hx hb hf (fun i h1 h2=>hfr i (by omega) (by simp only[List.map_cons,List.mem_cons];exact .inr ((br _ _ _).2 ⟨h1,h2⟩)))
 obtain⟨c1,c2,c3⟩:=jd A hsol
 have hD:=y6 (ok:= [.s v'.kC]) (te:=elem) R' L.born_iff (hfr base (Nat.le_refl _) (by simp)) c1 c2 (fun r hr=>B r (c3 r hr))
 refine cu.value ?_ hD
 unfold execOp;rw[ho]
 simp[Instr.box,newVar,newRow]
theorem zO{t:TypeId}{cs:List AV}{rs:List ak}(R:Rel w0 st g born acts w)(h:gN P t base=some (cs,rs))(hfr: ∀i,base≤i→i<base+rs.length→ ¬born i):
  ∃z i,P.info? t=some i∧i.zero=some z∧i.size=i.size∧(∀x∈z.cells.toList,x.oneCell'=true)∧ ∃g' born',Rel w0 (st.aH (aj base rs)) g' born' acts w∧
   Laid st (st.aH (aj base rs)) g g' born born' base (base+rs.length)∧ai (st.aH (aj base rs)).get g' cs z.cells.toList∧ ∀r∈AV.ah cs,born' r:=by
 unfold gN at h
 split at h
 ·next x hx=>
  obtain⟨agg,ty⟩:=x
  cases htk:mg P t with
  |false=>rw[htk]at h;cases h
  |true=>
   rw[htk]at h
   simp only[cond_true,Option.some.injEq]at h
   obtain⟨i,agg',ty',d,z,k1,k2,k3,k4,k5,k6,k7,k8⟩:=lH htk
   rw[hx]at k2
   injection k2 with k2
   injection k2 with k2 k2'
   subst k2;subst k2'
   obtain⟨pre,e1,e2,e3,e4⟩:=uY (w:=w) (rw:=true) ty z.cells.toList [] k8
   simp only[List.append_nil]at e1
   obtain⟨g',b',R',L,n,V,ro,ow⟩:=AB (w:=w) true ty (bm ty) st g born base 0 pre G0 cs rs R (e4 0 _ (fun k _=>by simp)) (fun _=>AP ty 0) (fun _ b hb=>(n0 ty 0 b hb).elim) h hfr
   refine⟨z,i,k1,k7,rfl,by rw[e1];exact e3,g',b',R',L,?_,fun r hr=>(L.born_iff r).2 (.inr (ro r hr))⟩
   rw[e1]
   have: ∀(vs:List AV) (l:List Value),vs.length=l.length→(∀k,k<vs.length→ ∃x,l[k]?=some x∧ae (st.aH (aj base rs)).get g' (vs.getD k .undef) x)→ai (st.aH (aj base rs)).get g' vs l:=by
    intro vs
    induction vs with
    |nil=>intro l hl _;rw[ai];cases l with
     |nil=>rfl
     |cons=>simp at hl
    |cons v vs ih=>
     intro l hl h
     cases l with
     |nil=>simp at hl
     |cons x l=>
      rw[ai]
      obtain⟨x',hx',hv⟩:=h 0 (by simp)
      simp only[List.getElem?_cons_zero,Option.some.injEq]at hx'
      subst hx'
      exact⟨x,l,rfl,by simpa using hv,ih l (by simpa using hl) fun k hk=>by simpa using h (k+1) (by simpa using hk)⟩
   refine this cs pre (by omega) fun k hk=> ?_
   obtain⟨x,hx,hv,_⟩:=V k (by omega)
   exact⟨x,by simpa using hx,hv⟩
 ·split at h
  ·next i hi=>
   split at h
   ·next z hz=>
    cases hall:z.cells.toList.all Value.oneCell' with
    |false=>rw[hall]at h;cases h
    |true=>
     rw[hall]at h
     simp only[cond_true,Option.some.injEq,Prod.mk.injEq]at h
     obtain⟨rfl,rfl⟩:=h
     refine⟨z,i,hi,hz,rfl,fun x hx=>List.all_eq_true.1 hall x hx,g,born,R,Laid.refl _ _ _ _,?_,fun r hr=> ?_⟩
     ·have: ∀(n:Nat) (l:List Value),l.length=n→ai (st.aH (aj base [])).get g (List.replicate n .undef) l:=by
       intro n
       induction n with
       |zero=>intro l hl;rw[List.length_eq_zero_iff.1 hl];simp[ai]
       |succ n ih=>
        intro l hl
        cases l with
        |nil=>cases hl
        |cons x l=>rw[List.replicate_succ,ai];exact⟨x,l,rfl,by simp[ae],ih l (by simpa using hl)⟩
      exact this _ _ (by simp)
     ·have:AV.ah (List.replicate z.cells.size .undef)= []:=lI fun v hv=>by rw[List.eq_of_mem_replicate hv];rfl
      rw[this]at hr;cases hr
   ·cases h
  ·cases h
theorem Bn{t:TypeId}(ho:o.op= .alloc t)(R:Rel w0 st g born (a::asx) w){cs:List AV}{rs:List ak}(hz:gN P t (base+1)=some (cs,rs))
  (hfr: ∀i,base≤i→i∈((base,ak.var cs)::aj (base+1) rs).map (·.1)→ ¬born i):
  cu P o a.eval w (dU w0 st born (a::asx) {ok:= [],v:= .pv base 0,upd:=(base,.var cs)::aj (base+1) rs}):=by
 obtain⟨z,i,h1,h2,_,h3,g',b',R',L,A,B⟩:=zO R hz (fun i h1 h2=>hfr i (by omega) (by simp only[List.map_cons,List.mem_cons];exact .inr ((br _ _ _).2 ⟨h1,h2⟩)))
 have hD:=y6 (ok:= []) (te:=t) R' L.born_iff (hfr base (Nat.le_refl _) (by simp)) A h3 B
 refine cu.value ?_ hD
 unfold execOp;rw[ho]
 simp[Instr.alloc,zeroValue,typeInfo,h1,h2,newVar,newRow]
end
end Go.Am
end
section
/- Soundness: rows made out of rows that are given up; make; an empty slice. -/
namespace Go.Am
attribute [local instance] D.real
section
variable {P : Program} {w0 : bu} {w w' : World} {st st' : St} {g g' : aB} {born : Nat → Prop} {a : Act} {asx acts : List Act} {o : Oper} {base : Nat}
theorem FD: ∀(t:Ty) (d:den t) (G:Nat→Path→Value) (f:Nat) (rd:Nat→Option Value),Rep w true t d G f rd→ ∀b,Blk t d G f b→b<w.heap.size:=by
 intro t
 induction t with
 |pair a b iha ihb=>intro d G f rd h b hb;exact hb.elim (iha _ _ _ _ h.1 b) (ihb _ _ _ _ h.2 b)
 |sl e ih=>
  intro d G f rd h b hb
  rcases h.2 with⟨h0,rfl⟩|⟨a,cap,h0,_,h2,h3⟩
  ·rcases hb with⟨a,n,c,e,_⟩|⟨i,x,hx,_⟩
   ·rw[h0]at e;cases e
   ·simp at hx
  ·rcases hb with⟨a',n,c,e,hc,rfl⟩|⟨i,x,hx,hb⟩
   ·rw[h0]at e;injection e with e _ ec;injection e with e;subst e;subst ec
    obtain⟨_,arr,te,h4,_⟩:=h2 rfl hc
    exact(Array.getElem?_eq_some_iff.1 h4).1
   ·exact ih _ _ _ _ (h3 i x hx) b hb
 |unit=>intro _ _ _ _ _ _ h;exact h.elim
 |int k=>intro _ _ _ _ _ _ h;exact h.elim
 |bool=>intro _ _ _ _ _ _ h;exact h.elim
 |str=>intro _ _ _ _ _ _ h;exact h.elim
theorem uy{t:Ty}{xs:List (den t)}{H:Path→Value}(h:aS w true t xs H){b:Nat}(hb:aD t xs H b):b<w.heap.size:=
 FD (.sl t) xs (fun _=>H) 0 (fun _=>some (H [])) ⟨rfl,h⟩ b hb
theorem eO(R:Rel w0 st g born acts w){r b:Nat}(h:Own st.get g r b):b<w.heap.size:=by
 have hr:=R.roots r
 unfold Own at h
 unfold aF at hr
 cases hg:st.get r with
 |dead=>rw[hg]at h;exact h.elim
 |var cs=>
  rw[hg]at h hr
  obtain⟨arr,te,h1,_⟩:=hr
  subst h
  exact(Array.getElem?_eq_some_iff.1 h1).1
 |row rw t xs=>
  rw[hg]at h hr
  cases rw with
  |true=>exact uy hr.1 h
  |false=>exact h.elim
 |half t xs=>
  rw[hg]at h hr
  obtain⟨a,n,c,h1,_,_,_,h4,_⟩:=hr
  exact uy h4 ((jl h1).2 h)
 |sh t xs=>
  rw[hg]at h hr
  obtain⟨arr,te,h1⟩:=hr.1 b h
  exact(Array.getElem?_eq_some_iff.1 h1).1
 |pend r' p t xs=>
  rw[hg]at h hr
  exact uy hr.1 h.1
theorem CL: ∀(t:Ty) (d:den t) (G:Nat→Path→Value) (f:Nat) (rd:Nat→Option Value),Rep w true t d G f rd→ ∀b,Blk t d G f b→ ∃arr te,w.heap[b]?=some (.cells arr te (0,0)):=by
 intro t
 induction t with
 |pair a b iha ihb=>intro d G f rd h b hb;exact hb.elim (iha _ _ _ _ h.1 b) (ihb _ _ _ _ h.2 b)
 |sl e ih=>
  intro d G f rd h b hb
  rcases h.2 with⟨h0,rfl⟩|⟨a,cap,h0,_,h2,h3⟩
  ·rcases hb with⟨a,n,c,e,_⟩|⟨i,x,hx,_⟩
   ·rw[h0]at e;cases e
   ·simp at hx
  ·rcases hb with⟨a',n,c,e,hc,rfl⟩|⟨i,x,hx,hb⟩
   ·rw[h0]at e;injection e with e _ ec;injection e with e;subst e;subst ec
    obtain⟨_,arr,te,h4,_⟩:=h2 rfl hc
    exact⟨arr,te,h4⟩
   ·exact ih _ _ _ _ (h3 i x hx) b hb
 |unit=>intro _ _ _ _ _ _ h;exact h.elim
 |int k=>intro _ _ _ _ _ _ h;exact h.elim
 |bool=>intro _ _ _ _ _ _ h;exact h.elim
 |str=>intro _ _ _ _ _ _ h;exact h.elim
theorem CD(R:Rel w0 st g born acts w){r b:Nat}(h:Own st.get g r b): ∃arr te,w.heap[b]?=some (.cells arr te (0,0)):=by
 have hr:=R.roots r
 unfold Own at h
 unfold aF at hr
 have row: ∀{t:Ty} {xs:List (den t)} {H:Path→Value},aS w true t xs H→aD t xs H b→ ∃arr te,w.heap[b]?=some (.cells arr te (0,0)):=fun{t xs H} h hb=>
  CL (.sl t) xs (fun _=>H) 0 (fun _=>some (H [])) ⟨rfl,h⟩ b hb
 cases hg:st.get r with
 |dead=>rw[hg]at h;exact h.elim
 |var cs=>
  rw[hg]at h hr
  obtain⟨arr,te,h1,_⟩:=hr
  subst h
  exact⟨arr,te,h1⟩
 |row rw t xs=>
  rw[hg]at h hr
  cases rw with
  |true=>exact row hr.1 h
  |false=>exact h.elim
 |half t xs=>
  rw[hg]at h hr
  obtain⟨a,n,c,h1,_,_,_,h4,_⟩:=hr
  exact row h4 ((jl h1).2 h)
 |sh t xs=>
  rw[hg]at h hr
  exact hr.1 b h
 |pend r' p t xs=>
  rw[hg]at h hr
  exact row hr.1 h.1
theorem ib(R:Rel w0 st g born acts w){r b:Nat}(h:Own st.get g r b): ∀(o:Obj),w.heap[b]?=some o→o.isCells=true:=by
 obtain⟨arr,te,h1⟩:=CD R h
 intro o h2
 rw[h1]at h2;injection h2 with h2;subst h2;rfl
theorem AU(R:Rel w0 st g born acts w)(l:List Nat)(hq: ∀r∈l,∀j r' p t xs,st.get j= .pend r' p t xs→r'≠r){i:Nat}{x:ak}{inf:Info}(hi: ¬born i)
  (hf:st'.fr=st.fr) (hget: ∀r,st'.get r=if r=i then x else if r∈l then .dead else st.get r)
  (hb:bL w0 w w') (hblk: ∀b,b<w.heap.size→w'.heap[b]?=w.heap[b]?∨ ∃r∈l,Own st.get g r b)
  (hok:aF w0 w' st'.get (dK g i inf) i) (hown: ∀b,Own st'.get (dK g i inf) i b→w.heap.size≤b∨ ∃r∈l,Own st.get g r b) (hx: ∀r∈x.roots,born r):
  Rel w0 st' (dK g i inf) (fun r=>born r∨r=i) acts w':=by
 have hne: ∀r,born r→r≠i:=fun r h e=>hi (e▸h)
 have hgi:st'.get i=x:=by rw[hget];simp
 have hdead: ∀r,r≠i→r∈l→st'.get r= .dead:=fun r h1 h2=>by rw[hget,if_neg h1,if_pos h2]
 have hoth: ∀r,r≠i→r∉l→st'.get r=st.get r:=fun r h1 h2=>by rw[hget,if_neg h1,if_neg h2]
 refine jU (fun r=>r=i∨r∈l) R hb hf (fun r hr=>⟨fun t ht=> ?_,fun hv=> ?_⟩) (fun r hr=> ?_) (fun r r' p t xs hr e=> ?_) (fun r hr=> ?_)
  (fun r r' b hr hrr h h'=> ?_) (fun r b hr h=> ?_) (fun _ h=> .inl h) (fun r hr y hy=> ?_) (fun r hr h=> ?_)
 ·by_cases hl:r∈l
  ·rw[hdead r (hne r hr) hl]at ht;simp[bI]at ht
  ·rw[hoth r (hne r hr) hl]at ht;exact⟨ht,fun _ _=>by rw[aE (hne r hr)]⟩
 ·by_cases hl:r∈l
  ·rw[hdead r (hne r hr) hl]at hv;simp[isVar]at hv
  ·rw[hoth r (hne r hr) hl]at hv;exact⟨hv,by rw[aE (hne r hr)]⟩
 ·have h1:r≠i:=fun e=>hr (.inl e)
  have h2:r∉l:=fun e=>hr (.inr e)
  refine⟨hoth r h1 h2,aE h1,fun b hbo=> ?_⟩
  rcases hblk b (eO R hbo)with h|⟨r2,h3,h4⟩
  ·exact h
  ·exact(R.sep r r2 b (fun e=>h2 (e▸h3)) hbo h4).elim
 ·rintro(e'|e')
  ·subst e';exact hi (R.bornR r r' (by rw[e];simp[ak.roots]))
  ·exact hq r' e' r r' p t xs e rfl
 ·by_cases e:r=i
  ·subst e;exact hok
  ·unfold aF;rw[hdead r e (hr.resolve_left e)];trivial
 ·by_cases e:r=i
  ·subst e
   by_cases hl:r'∈l
   ·unfold Own at h';rw[hdead r' (fun e=>hrr e.symm) hl]at h';exact h'
   ·have h2:Own st.get g r' b:=(mN (hoth r' (fun e=>hrr e.symm) hl) (aE fun e=>hrr e.symm) fun q p t xs e=>aE (hne q (R.bornR r' q (by rw[e];simp[ak.roots])))).1 h'
    rcases hown b h with h3|⟨r2,h3,h4⟩
    ·have:=eO R h2;omega
    ·exact R.sep r' r2 b (fun e=>hl (e▸h3)) h2 h4
  ·unfold Own at h;rw[hdead r e (hr.resolve_left e)]at h;exact h
 ·by_cases e:r=i
  ·subst e
   rcases hown b h with h3|⟨r2,_,h4⟩
   ·exact R.fresh h3
   ·exact R.low r2 b h4
  ·unfold Own at h;rw[hdead r e (hr.resolve_left e)]at h;exact h.elim
 ·by_cases e:r=i
  ·subst e;rw[hgi]at hy;exact .inl (hx y hy)
  ·rw[hdead r e (hr.resolve_left e)]at hy;simp[ak.roots]at hy
 ·by_cases e:r=i
  ·exact .inr e
  ·rw[hdead r e (hr.resolve_left e)]at h;exact absurd rfl h
theorem Dc(R:Rel w0 st g born acts w){r0 r1:Nat}{t:Ty}{ys hs:List (den t)}(h0:st.get r0= .row true t ys)(hne:r1≠r0)
  (hq: ∀r,r=r0∨r=r1→ ∀j r' p t xs,st.get j= .pend r' p t xs→r'≠r) {i:Nat} {x:ak} {inf:Info} (hi: ¬born i)
  (hf:st'.fr=st.fr) (hget: ∀r,st'.get r=if r=i then x else if r=r0 then .half t hs else if r=r1 then .dead else st.get r)
  (hb:bL w0 w w') (hblk: ∀b,b<w.heap.size→w'.heap[b]?=w.heap[b]?∨Own st.get g r1 b)
  (hhalf: ∃a n c,(g r0).H []= .slice a n c∧hs.length≤n∧n≤c∧(a=none→c=0)∧aS w true t hs (tJ a hs.length c (g r0).H)∧bD t hs (g r0).H)
  (hsub: ∀b,aD t hs (g r0).H b→Own st.get g r0 b)
  (hok:aF w0 w' st'.get (dK g i inf) i) (hown: ∀b,Own st'.get (dK g i inf) i b→w.heap.size≤b∨Own st.get g r1 b∨(Own st.get g r0 b∧ ¬aD t hs (g r0).H b)) (hx: ∀r∈x.roots,born r):
  Rel w0 st' (dK g i inf) (fun r=>born r∨r=i) acts w':=by
 have hne': ∀r,born r→r≠i:=fun r h e=>hi (e▸h)
 have hb0:born r0:=R.alive r0 (by rw[h0];exact fun h=>by cases h)
 have h0i:r0≠i:=hne' r0 hb0
 have hgi:st'.get i=x:=by rw[hget];simp
 have hg0:st'.get r0= .half t hs:=by rw[hget,if_neg h0i,if_pos rfl]
 have hdead: ∀r,r≠i→r=r1→st'.get r= .dead:=fun r h1 h2=>by rw[hget,if_neg h1,if_neg (by rw[h2];exact hne),if_pos h2]
 have hoth: ∀r,r≠i→r≠r0→r≠r1→st'.get r=st.get r:=fun r h1 h2 h3=>by rw[hget,if_neg h1,if_neg h2,if_neg h3]
 have own0: ∀b,Own st'.get (dK g i inf) r0 b→aD t hs (g r0).H b:=fun b h=>by
  unfold Own at h;rw[hg0]at h;simp only[aE h0i]at h;exact h
 have ownO: ∀r b,r≠i→r≠r0→r≠r1→Own st'.get (dK g i inf) r b→Own st.get g r b:=fun r b h1 h2 h3 h=>by
  refine(mN (hoth r h1 h2 h3) (aE h1) fun q p t xs e=>aE (hne' q (R.bornR r q (by rw[e];simp[ak.roots])))).1 h
 refine jU (fun r=>r=i∨r=r0∨r=r1) R hb hf (fun r hr=>⟨fun t' ht=> ?_,fun hv=> ?_⟩) (fun r hr=> ?_) (fun r r' p t xs hr e=> ?_) (fun r hr=> ?_)
  (fun r r' b hr hrr h h'=> ?_) (fun r b hr h=> ?_) (fun _ h=> .inl h) (fun r hr y hy=> ?_) (fun r hr h=> ?_)
 ·by_cases e0:r=r0
  ·subst e0
   rw[hg0]at ht
   exact⟨by rw[h0];exact ht,fun _ _=>by rw[aE h0i]⟩
  ·by_cases e1:r=r1
   ·rw[hdead r (hne' r hr) e1]at ht;simp[bI]at ht
   ·rw[hoth r (hne' r hr) e0 e1]at ht;exact⟨ht,fun _ _=>by rw[aE (hne' r hr)]⟩
 ·by_cases e0:r=r0
  ·rw[e0,hg0]at hv;simp[isVar]at hv
  ·by_cases e1:r=r1
   ·rw[hdead r (hne' r hr) e1]at hv;simp[isVar]at hv
   ·rw[hoth r (hne' r hr) e0 e1]at hv;exact⟨hv,by rw[aE (hne' r hr)]⟩
 ·have h1:r≠i:=fun e=>hr (.inl e)
  have h2:r≠r0:=fun e=>hr (.inr (.inl e))
  have h3:r≠r1:=fun e=>hr (.inr (.inr e))
  refine⟨hoth r h1 h2 h3,aE h1,fun b hbo=> ?_⟩
  rcases hblk b (eO R hbo)with h|h4
  ·exact h
  ·exact(R.sep r r1 b h3 hbo h4).elim
 ·rintro(e'|e')
  ·subst e';exact hi (R.bornR r r' (by rw[e];simp[ak.roots]))
  ·exact hq r' e' r r' p t xs e rfl
 ·by_cases e:r=i
  ·subst e;exact hok
  ·by_cases e0:r=r0
   ·subst e0
    obtain⟨a,n,c,k1,k2,k3,kz,k4,k5⟩:=hhalf
    unfold aF
    rw[hg0]
    simp only[aE h0i]
    refine⟨a,n,c,k1,k2,k3,kz,dQ (fun b hb=> ?_) k4,k5⟩
    have ho:=hsub b ((jl k1).1 hb)
    rcases hblk b (eO R ho)with h|h
    ·exact h
    ·exact(R.sep r r1 b (fun e=>hne e.symm) ho h).elim
   ·unfold aF;rw[hdead r e (hr.resolve_left e|>.resolve_left e0)];trivial
 ·by_cases e:r=i
  ·subst e
   by_cases e0:r'=r0
   ·subst e0
    have h2:=own0 b h'
    rcases hown b h with h3|h3|h3
    ·have:=eO R (hsub b h2);omega
    ·exact R.sep r' r1 b (fun e=>hne e.symm) (hsub b h2) h3
    ·exact h3.2 h2
   ·by_cases e1:r'=r1
    ·unfold Own at h';rw[hdead r' (fun e=>hrr e.symm) e1]at h';exact h'
    ·have h2:=ownO r' b (fun e=>hrr e.symm) e0 e1 h'
     rcases hown b h with h3|h3|h3
     ·have:=eO R h2;omega
     ·exact R.sep r' r1 b e1 h2 h3
     ·exact R.sep r' r0 b e0 h2 h3.1
  ·by_cases e0:r=r0
   ·subst e0
    have h2:=hsub b (own0 b h)
    by_cases e1:r'=i
    ·subst e1
     rcases hown b h' with h3|h3|h3
     ·have:=eO R h2;omega
     ·exact R.sep r r1 b (fun e=>hne e.symm) h2 h3
     ·exact h3.2 (own0 b h)
    ·by_cases e2:r'=r1
     ·unfold Own at h';rw[hdead r' e1 e2]at h';exact h'
     ·exact R.sep r r' b hrr h2 (ownO r' b e1 (fun e=>hrr e.symm) e2 h')
   ·unfold Own at h;rw[hdead r e (hr.resolve_left e|>.resolve_left e0)]at h;exact h
 ·by_cases e:r=i
  ·subst e
   rcases hown b h with h3|h3|h3
   ·exact R.fresh h3
   ·exact R.low r1 b h3
   ·exact R.low r0 b h3.1
  ·by_cases e0:r=r0
   ·subst e0;exact R.low r b (hsub b (own0 b h))
   ·unfold Own at h;rw[hdead r e (hr.resolve_left e|>.resolve_left e0)]at h;exact h.elim
 ·by_cases e:r=i
  ·subst e;rw[hgi]at hy;exact .inl (hx y hy)
  ·by_cases e0:r=r0
   ·subst e0;rw[hg0]at hy;simp[ak.roots]at hy
   ·rw[hdead r e (hr.resolve_left e|>.resolve_left e0)]at hy;simp[ak.roots]at hy
 ·by_cases e:r=i
  ·exact .inr e
  ·by_cases e0:r=r0
   ·subst e0;exact .inl hb0
   ·rw[hdead r e (hr.resolve_left e|>.resolve_left e0)]at h;exact absurd rfl h
theorem Dp(l:List Nat)(f:Get)(r:Nat):eF (cH l) f r=if r∈l then .dead else f r:=by
 induction l generalizing f with
 |nil=>simp[cH,eF]
 |cons x l ih=>
  show eF (cH l) (fun r=>if r=x then .dead else f r) r=_
  rw[ih]
  by_cases h1:r∈l
  ·simp[h1]
  ·by_cases h2:r=x
   ·simp[h2]
   ·simp[h1,h2]
theorem we(l:List Nat)(i:Nat)(x:ak)(st:St)(r:Nat):(st.aH (cH l++ [(i,x)])).get r=if r=i then x else if r∈l then .dead else st.get r:=by
 rw[eX,A8]
 show(if r=i then x else eF (cH l) st.get r)=_
 rw[Dp]
theorem dI{l:List Nat}{q:List (Nat×Option Nat)}(h:a8 st.rs q=true)(hl: ∀r∈l,(r,none)∈q): ∀r∈l,∀j r' p t xs,st.get j= .pend r' p t xs→r'≠r:=by
 intro r hr j r' p t xs e er
 have:=List.all_eq_true.1 h (r,none) (hl r hr)
 have:=mV (st:=st) this e er
 cases this
theorem ko{ok:List Tst}{q:List (Nat×Option Nat)}{l:List Nat}{e:Ty}{xs:List (den e)}{inf:Info}(R:Rel w0 st g born acts w)(hi: ¬born base)
  (hq: ∀r∈l,∀j r' p t xs,st.get j= .pend r' p t xs→r'≠r)
  (hb:bL w0 w w') (hblk: ∀b,b<w.heap.size→w'.heap[b]?=w.heap[b]?∨ ∃r∈l,Own st.get g r b)
  (hrep:aS w' true e xs inf.H) (hsep:bD e xs inf.H) (hown: ∀b,aD e xs inf.H b→w.heap.size≤b∨ ∃r∈l,Own st.get g r b):
  dU w0 st born acts {ok:=ok,v:= .sl base [] none,upd:=cH l++ [(base,.row true e xs)],quiet:=q} (inf.H []) w':=by
 have hget:=we l base (.row true e xs) st
 have hgi:(st.aH (cH l++ [(base,.row true e xs)])).get base= .row true e xs:=by rw[hget];simp
 have R':=AU (st':=st.aH (cH l++ [(base,.row true e xs)])) (inf:=inf) R l hq hi rfl hget hb hblk (by
   unfold aF;rw[hgi];simp only[bU];exact⟨hrep,hsep⟩)
  (fun b h=>by
   unfold Own at h;rw[hgi]at h;simp only[bU]at h;exact hown b h) (fun r hr=>by simp[ak.roots]at hr)
 refine⟨_,_,R',?_,fun r hr=> ?_,fun r hr=>hr.imp id fun e=> ?_,fun r hr=> .inl hr⟩
 ·show ae _ _ (.sl base [] none) _
  rw[ae]
  refine⟨?_,fun t e' _ _=> ?_⟩
  ·rcases hrep with⟨h,_⟩|⟨a,c,h,_⟩
   ·exact⟨_,_,_,h⟩
   ·exact⟨_,_,_,h⟩
  ·show inf.H []=(dK g base inf base).H []
   rw[bU]
 ·simp only[AV.roots,List.mem_singleton]at hr;exact .inr hr
 ·subst e;simp
theorem w8{te:Ty}{z:Value}{e:TypeId}{l c:Nat}(hz:nm te z.cells.toList=some [])(hzs:z.cells.size=te.size)(hpos:0<te.size)(hlc:l≤c):
  aS (w.alloc (.cells (madeCells z.cells (c*te.size)) e)) true te (List.replicate l (bm te)) (fun q=>match q with
   | []=> .slice (some ⟨w.heap.size,0,none⟩) l c
   |_=> .slice none 0 0)∧
  bD te (List.replicate l (bm te)) (fun q=>match q with
   | []=> .slice (some ⟨w.heap.size,0,none⟩) l c
   |_=> .slice none 0 0)∧
  ∀b,aD te (List.replicate l (bm te)) (fun q=>match q with
   | []=> .slice (some ⟨w.heap.size,0,none⟩) l c
   |_=> .slice none 0 0) b→b=w.heap.size:=by
 have hget: ∀{i:Nat} {x:den te},(List.replicate l (bm te))[i]?=some x→x=bm te∧i<l:=by
  intro i x h
  rw[List.getElem?_replicate]at h
  split at h
  ·next h'=>injection h with h;exact⟨h.symm,h'⟩
  ·cases h
 refine⟨.inr ⟨⟨w.heap.size,0,none⟩,c,by simp,by simpa using hlc,fun _ hc=>⟨rfl,_,_,heap_alloc_new w _,by simp[size_madeCells]⟩,fun i x hx=> ?_⟩,
  ⟨fun a n c i x _ _ hx hb=> ?_,fun i j x y b _ hx _ hb=> ?_,fun i x hx=> ?_⟩,fun b hb=> ?_⟩
 ·obtain⟨rfl,hil⟩:=hget hx
  obtain⟨pre,e1,e2,_,e4⟩:=uY (w:=w.alloc (.cells (madeCells z.cells (c*te.size)) e)) (rw:=true) te z.cells.toList [] hz
  simp only[List.append_nil]at e1
  refine e4 0 _ fun k hk=> ?_
  rw[mQ]
  have hlt:i*te.size+k<c*te.size:=by
   have:(i+1)*te.size≤c*te.size:=Nat.mul_le_mul_right _ (by omega)
   rw[Nat.add_mul]at this;omega
  have hmod:(i*te.size+k) % te.size=k:=by
   rw[Nat.mul_comm,Nat.mul_add_mod];exact Nat.mod_eq_of_lt hk
  rw[←e1]
  simp only[Nat.zero_add]
  rw[World.cell?_alloc_new]
  simp only[madeCells,Array.getElem?_map,hzs]
  rw[show(Array.range (c*te.size))[i*te.size+k]?=some (i*te.size+k) by simp[hlt]]
  simp only[Option.map_some,hmod]
  have hk2:k<z.cells.size:=by omega
  simp[hk2]
 ·obtain⟨rfl,_⟩:=hget hx
  exact n0 te 0 _ hb
 ·obtain⟨rfl,_⟩:=hget hx
  exact(n0 te 0 _ hb).elim
 ·obtain⟨rfl,_⟩:=hget hx
  exact AP te 0
 ·rcases hb with⟨a,n,c',h,_,rfl⟩|⟨i,x,hx,hb⟩
  ·injection h with h;injection h with h;subst h;rfl
  ·obtain⟨rfl,_⟩:=hget hx
   exact(n0 te 0 _ hb).elim
theorem u6{t:TypeId}{l c:Operand}(ho:o.op= .makeSlice t l c)(R:Rel w0 st g born (a::asx) w)
  (hok:aN (oM P t [an st l,an st c] base).ok) (hfr: ∀i,base≤i→i∈(oM P t [an st l,an st c] base).upd.map (·.1)→ ¬born i):
  cu P o a.eval w (dU w0 st born (a::asx) (oM P t [an st l,an st c] base)):=by
 obtain⟨hl,_⟩:=bC R l
 obtain⟨hc,_⟩:=bC R c
 revert hfr
 unfold oM at hok⊢
 split at hok
 ·next e k x k' y he h=>
  injection h with h1 h2
  injection h2 with h2 _
  rw[h1,ae]at hl
  rw[h2,ae]at hc
  split at hok
  ·next agg te hty=>
   intro hfr
   obtain⟨k1,k2⟩:=af.1 hok
   obtain⟨k2,k3⟩:=af.1 k2
   obtain⟨k3,k4⟩:=af.1 k3
   have k2:0≤x:=of_decide_eq_true (show decide (0≤x)=true from k2)
   have k3:x≤y:=of_decide_eq_true (show decide (x≤y)=true from k3)
   have k4:y.toNat≤lim:=of_decide_eq_true (show decide (y.toNat≤lim)=true from(af.1 k4).1)
   simp only[lim]at k4
   obtain⟨e',i,z,hu,_,hinf,hsz,hby,hz,hzi,hpos,hce,hzs⟩:=cd k1
   have hrun:=run_make (P:=P) w t e' i z hu hinf hz k k' x y k2 k3 (by
    have:i.bytes*y.toNat≤128*1099511627776:=Nat.mul_le_mul hby k4
    have:((i.bytes*y.toNat:Nat):Int)≤281474976710656:=by omega
    rw[Int.natCast_mul,Int.toNat_of_nonneg (by omega)]at this
    exact this) (by omega)
   rw[hsz]at hrun
   obtain⟨r1,r2,r3⟩:=w8 (w:=w) (e:=e') (l:=x.toNat) (c:=y.toNat) hzi hzs hpos (by omega)
   have hD:=ko (base:=base) (ok:= [.s (cV P t te),.d (D.le 0 x),.d (D.le x y),.d (D.leN (D.nat y) lim)]) (q:= []) (l:= []) (inf:=⟨0,_,fun _=>False⟩) R (hfr base (Nat.le_refl _) (by simp))
    (fun r hr=>by cases hr) ((bL.refl _ _).alloc R.below.size _) (fun b hb=> .inl (RowKit.Below.heap_alloc _ _ _ hb)) r1 r2 (fun b hb=> .inl (by rw[r3 b hb];exact Nat.le_refl _))
   refine cu.value ?_ hD
   unfold execOp;rw[ho]
   simp[hl,hc,hrun]
  ·exact(ay hok).elim
 ·exact(ay hok).elim
theorem u5{t:TypeId}{x lo hi mx:Operand}{lo':Option Operand}(ho:o.op= .slice t x lo' (some hi) (some mx))(h1:isZero hi=true)(h2:isZero mx=true)(h3:lo'.all isZero=true)(R:Rel w0 st g born (a::asx) w)
  (hok:aN (hZ P t (an st x) st.get base).ok) (hfr: ∀i,base≤i→i∈(hZ P t (an st x) st.get base).upd.map (·.1)→ ¬born i):
  cu P o a.eval w (dU w0 st born (a::asx) (hZ P t (an st x) st.get base)):=by
 obtain⟨hx,hb⟩:=bC R x
 have hzero: ∀y,isZero y=true→ ∃k,a.eval y= .int k 0:=by
  intro y hy
  unfold isZero at hy
  split at hy
  ·next k n=>have:n=0:=of_decide_eq_true hy;subst this;exact⟨k,rfl⟩
  ·cases hy
 obtain⟨kh,eh⟩:=hzero hi h1
 obtain⟨km,em⟩:=hzero mx h2
 have hbounds: ∀(len cap:Nat),(Instr.sliceBounds true len cap (lo'.map a.eval) (some (a.eval hi)) (some (a.eval mx))).run P w= .ok (0,0,0) w:=by
  intro len cap
  rw[eh,em]
  cases lo' with
  |none=>simp[Instr.sliceBounds,run_sliceBound]
  |some y=>
   obtain⟨kl,el⟩:=hzero y (by simpa using h3)
   simp[Instr.sliceBounds,run_sliceBound,el]
 have hrun: ∀e i b n c,P.underlying t=some (.slice e)→P.info? e=some i→a.eval x= .slice b n c→(execOp a.eval o).run P w= .ok (.value (.slice b 0 0)) w:=by
  intro e i b n c hu hi hv
  unfold execOp;rw[ho]
  simp[Instr.sliceAt,Instr.slice,hv,ar hu,hbounds,cb hi]
 revert hfr
 unfold hZ at hok⊢
 split at hok
 ·next hn=>
  intro _
  rw[hn,ae]at hx
  obtain⟨k1,k2⟩:=af.1 hok
  obtain⟨e,he⟩:=Option.isSome_iff_exists.1 (show(fQ P t).isSome=true from k1)
  have k2:mg P ((fQ P t).getD 0)=true:=(af.1 k2).1
  rw[he]at k2
  obtain⟨i,_,_,_,_,hinf,_⟩:=lH k2
  exact bo R rfl rfl (v:= .slice none 0 0) (hrun e i _ _ _ (gr he) hinf hx) (by rw[ae]) (fun r h=>by simp[AV.roots]at h)
 ·next r p sub hsl=>
  rw[hsl]at hx hb
  split at hok
  ·next rw t' xs hg=>
   generalize hrow:Go.Am.rowAt t' xs p=rr at hok
   obtain⟨ok,e,ys⟩:=rr
   simp only at hok⊢
   intro hfr
   obtain⟨k1,k2⟩:=af.1 hok
   obtain⟨e',i,z,hu,_,hinf,hsz,hby,hz,hzi,hpos,hce,hzs⟩:=cd k1
   obtain⟨_,_,b,c,hv⟩:=uQ R hg hrow k2 hx
   have hsl2: ∀q,aD e ([]:List (den e)) (fun q=> .slice b 0 0) q→False:=by
    rintro q (⟨aa,n,c,h,hc,_⟩|⟨i,x,h,_⟩)
    ·injection h with _ _ h3;omega
    ·simp at h
   have hD:=ko (base:=base) (ok:= .s (cV P t e)::ok) (q:= []) (l:= []) (e:=e) (xs:= []) (inf:=⟨0,fun _=> .slice b 0 0,fun _=>False⟩) R (hfr base (Nat.le_refl _) (by simp))
    (fun r hr=>by cases hr) (bL.refl _ _) (fun b hb=> .inl rfl) (by
     cases b with
     |none=>exact .inl ⟨rfl,rfl⟩
     |some ad=>exact .inr ⟨ad,0,rfl,Nat.le_refl _,fun _ h=>absurd rfl h,fun i x h=>by simp at h⟩)
    ⟨fun a n c i x h _ hx=>by simp at hx,fun i j x y b _ h _=>by simp at h,fun i x h=>by simp at h⟩ (fun b hb=>(hsl2 b hb).elim)
   exact cu.value (hrun e' i _ _ _ hu hinf hv) hD
  ·exact(ay hok).elim
 ·exact(ay hok).elim
def Gk(v:Value)(H:Path→Value):Path→Value
 | []=>v
 |q::p=>H (q::p)
theorem F5{t:Ty}{xs:List (den t)}{H:Path→Value}{ad:Addr}{n c m:Nat}(h:aS w true t xs H)(h0:H []= .slice (some ad) n c)(h1:xs.length≤m)(h2:m≤c):aS w true t xs (Gk (.slice (some ad) n m) H):=by
 rcases h with⟨k0,_⟩|⟨a,cap,k0,k1,k2,k3⟩
 ·rw[h0]at k0;cases k0
 ·rw[h0]at k0
  injection k0 with e1 e2 e3
  injection e1 with e1
  subst e1;subst e2;subst e3
  refine .inr ⟨ad,m,rfl,h1,fun hrw hm=> ?_,k3⟩
  obtain⟨q1,arr,te,q2,q3⟩:=k2 hrw (by omega)
  exact⟨q1,arr,te,q2,by have:m*t.size≤c*t.size:=Nat.mul_le_mul_right _ h2;omega⟩
theorem zv{t:Ty}{xs:List (den t)}{H:Path→Value}{ad:Addr}{n c m b:Nat}(h0:H []= .slice (some ad) n c)(h2:m≤c)(h:aD t xs (Gk (.slice (some ad) n m) H) b):aD t xs H b:=by
 rcases h with⟨a,n',c',e,hc,rfl⟩|⟨i,x,hx,hb⟩
 ·injection e with e1 _ e3
  injection e1 with e1
  subst e1;subst e3
  exact .inl ⟨_,_,_,h0,by omega,rfl⟩
 ·exact .inr ⟨i,x,hx,hb⟩
theorem za{t:Ty}{xs:List (den t)}{H:Path→Value}{ad:Addr}{n c m:Nat}(h0:H []= .slice (some ad) n c)(h2:m≤c)(h:bD t xs H):bD t xs (Gk (.slice (some ad) n m) H):=by
 obtain⟨k1,k2,k3⟩:=h
 refine⟨fun a n' c' i x e hc hx hb=> ?_,k2,k3⟩
 injection e with e1 _ e3
 injection e1 with e1
 subst e1;subst e3
 exact k1 _ _ _ i x h0 (by omega) hx hb
theorem vH{t:TypeId}{x hi mx:Operand}{xv:AV}{h c:Int}{kh kc:IntKind}(ho:o.op= .slice t x none (some hi) (some mx))(hxv:an st x=xv)(eh:a.eval hi= .int kh h)(ec:a.eval mx= .int kc c)(R:Rel w0 st g born (a::asx) w)
  (hok:aN (jE P t xv h c st.get base).ok) (hfr: ∀i,base≤i→i∈(jE P t xv h c st.get base).upd.map (·.1)→ ¬born i) (hq:a8 st.rs (jE P t xv h c st.get base).quiet=true):
  cu P o a.eval w (dU w0 st born (a::asx) (jE P t xv h c st.get base)):=by
 obtain⟨hx,hb⟩:=bC R x
 rw[hxv]at hx hb
 revert hfr hq
 unfold jE at hok⊢
 split at hok
 ·next r p sub=>
  split at hok
  ·next e ys hg=>
   intro hfr hq
   obtain⟨k1,k2⟩:=af.1 hok
   obtain⟨k2,k3⟩:=af.1 k2
   obtain⟨k3,k4⟩:=af.1 k3
   have k4:=(af.1 k4).1
   have k2:0≤h:=of_decide_eq_true (show decide (0≤h)=true from k2)
   have k3:h≤c:=of_decide_eq_true (show decide (h≤c)=true from k3)
   have k4:c.toNat≤bR sub ys:=of_decide_eq_true (show decide (c.toNat≤bR sub ys)=true from k4)
   obtain⟨e',i,z,hu,_,hinf,hsz,hby,hz,hzi,hpos,hce,hzs⟩:=cd k1
   have hro:=R.roots r
   unfold aF at hro
   rw[hg]at hro
   obtain⟨hrep,hsep⟩:=hro
   rw[ae]at hx
   obtain⟨⟨b,n,cc,hv⟩,hx2⟩:=hx
   have hsub:=hx2 e e (by rw[hg];rfl) (by simp[typeAt])
   rw[hv]at hsub
   have r1:=il hrep hsub
   have r2:=fx hsub hsep
   have hH0:nj sub (.slice b n cc) (g r).H []= .slice b n cc:=rfl
   have hlen:(dJ sub ys).length=bR sub ys:=by
    cases sub with
    |none=>rfl
    |some s=>
     obtain⟨o1,l1⟩:=s
     show(List.take l1 (List.drop o1 ys)).length=l1
     rcases hrep with⟨h0,rfl⟩|⟨a',cap,h0,_⟩
     ·rcases hsub with⟨_,_,rfl,rfl⟩|⟨a'',n'',c'',j,e1,_⟩
      ·rfl
      ·rw[h0]at e1;cases e1
     ·rcases hsub with⟨e1,_⟩|⟨a'',n'',c'',j,e1,_,e2,_⟩
      ·rw[h0]at e1;cases e1
      ·rw[h0]at e1
       injection e1 with _ e1 _
       simp;omega
   have hrun:(execOp a.eval o).run P w= .ok (.value (.slice b h.toNat c.toNat)) w:=by
    have hn:n=(dJ sub ys).length∧n≤cc:=by
     rcases r1 with⟨h0,h1⟩|⟨a',cap,h0,h1,_⟩
     ·rw[hH0]at h0;injection h0 with _ h2 h3;rw[h1];subst h2;subst h3;exact⟨rfl,Nat.le_refl _⟩
     ·rw[hH0]at h0;injection h0 with _ h2 h3;subst h2;subst h3;exact⟨rfl,h1⟩
    have hbnd:(Instr.sliceBounds true n cc none (some (.int kh h)) (some (.int kc c))).run P w= .ok (0,h.toNat,c.toNat) w:=by
     have q1:0≤c:=by omega
     have q2:c≤(cc:Int):=by omega
     have q3:h≤((c.toNat:Nat):Int):=by omega
     have b1:(Instr.sliceBound (.int kc c) cc .slice3Acap).run P w= .ok c.toNat w:=by
      rw[run_sliceBound]
      ·exact q1
      ·exact q2
     have b2:(Instr.sliceBound (.int kh h) c.toNat .slice3B).run P w= .ok h.toNat w:=by
      rw[run_sliceBound]
      ·exact k2
      ·exact q3
     simp[Instr.sliceBounds,b1,b2]
    unfold execOp;rw[ho]
    cases b with
    |none=>simp[Instr.sliceAt,Instr.slice,hv,ar hu,eh,ec,hbnd,cb hinf]
    |some ad=>simp[Instr.sliceAt,Instr.slice,hv,ar hu,eh,ec,hbnd,cb hinf,Addr.add]
   have key: ∃H':Path→Value,H' []= .slice b h.toNat c.toNat∧aS w true e ((dJ sub ys).take h.toNat) H'∧bD e ((dJ sub ys).take h.toNat) H'∧ ∀bl,aD e ((dJ sub ys).take h.toNat) H' bl→aD e ys (g r).H bl:=by
    have e0:dJ (some (0,h.toNat)) (dJ sub ys)=(dJ sub ys).take h.toNat:=by
     show List.take h.toNat (List.drop 0 _)=_
     rw[List.drop_zero]
    cases b with
    |none=>
     have hz0:n=0∧cc=0:=by
      rcases r1 with⟨h0,h1⟩|⟨a',cap,h0,h1,_⟩
      ·rw[hH0]at h0;injection h0 with _ h2 h3;exact⟨h2,h3⟩
      ·rw[hH0]at h0;cases h0
     have hnil:dJ sub ys= []:=by
      rcases r1 with⟨h0,h1⟩|⟨a',cap,h0,h1,_⟩
      ·exact h1
      ·rw[hH0]at h0;cases h0
     have hc0:c.toNat=0:=by rw[hnil]at hlen;simp at hlen;omega
     have hh0:h.toNat=0:=by omega
     rw[hnil,hc0,hh0]
     exact⟨fun _=> .slice none 0 0,rfl,.inl ⟨rfl,rfl⟩,⟨fun a n c i x h _ hx=>by simp at hx,fun i j x y b _ h _=>by simp at h,fun i x h=>by simp at h⟩,fun bl hb=>(by
      rcases hb with⟨a,n,c,e,_⟩|⟨i,x,h,_⟩
      ·cases e
      ·simp at h)⟩
    |some ad=>
     have hn:n=(dJ sub ys).length∧n≤cc:=by
      rcases r1 with⟨h0,h1⟩|⟨a',cap,h0,h1,_⟩
      ·rw[hH0]at h0;cases h0
      ·rw[hH0]at h0;injection h0 with _ h2 h3;subst h2;subst h3;exact⟨rfl,h1⟩
     have hs2:mI e.size (some (0,h.toNat)) (nj sub (.slice (some ad) n cc) (g r).H []) (.slice (some ad) h.toNat cc):=
      .inr ⟨ad,n,cc,0,rfl,by simp[Addr.add],by omega,hn.2,Nat.le_refl _,.inl rfl⟩
     have s1:=il r1 hs2
     have s2:=fx hs2 r2
     have s3:=fun bl=>eR (xs:=dJ sub ys) (H:=nj sub (.slice (some ad) n cc) (g r).H) hs2 (b:=bl)
     rw[e0]at s1 s2
     have hH1:nj (some (0,h.toNat)) (.slice (some ad) h.toNat cc) (nj sub (.slice (some ad) n cc) (g r).H) []= .slice (some ad) h.toNat cc:=rfl
     refine⟨Gk (.slice (some ad) h.toNat c.toNat) _,rfl,F5 s1 hH1 (by rw[List.length_take];omega) (by omega),za hH1 (by omega) s2,fun bl hb=> ?_⟩
     have hb:=zv hH1 (by omega) hb
     rw[←e0]at hb
     exact eR hsub (s3 bl hb)
   obtain⟨H',hH',t1,t2,t3⟩:=key
   have hD:=ko (base:=base) (ok:= [.s (cV P t e),.d (D.le 0 h),.d (D.le h c),.d (D.leN (D.nat c) (bR sub ys))]) (q:=dL [r]) (l:= [r]) (e:=e) (xs:=(dJ sub ys).take h.toNat) (inf:=⟨0,H',fun _=>False⟩) R (hfr base (Nat.le_refl _) (by simp[cH]))
    (dI hq fun r' hr=>List.mem_map.2 ⟨r',hr,rfl⟩) (bL.refl _ _) (fun b hb=> .inl rfl) t1 t2 (fun bl hb=> .inr ⟨r,List.mem_singleton.2 rfl,by unfold Own;rw[hg];exact t3 bl hb⟩)
   have hD':dU w0 st born (a::asx) {ok:= [.s (cV P t e),.d (D.le 0 h),.d (D.le h c),.d (D.leN (D.nat c) (bR sub ys))],v:= .sl base [] none,upd:=cH [r]++ [(base,.row true e (D.take (D.nat h) (dJ sub ys)))],quiet:=dL [r]} (.slice b h.toNat c.toNat) w:=by
    have:=hD
    rw[show(⟨0,H',fun _=>False⟩:Info).H []= .slice b h.toNat c.toNat from hH']at this
    exact this
   exact cu.value hrun hD'
  ·exact(ay hok).elim
 ·exact(ay hok).elim
theorem D5{t:TypeId}{x hi:Operand}{e:Ty}{xs:List (den e)}{r:Nat}{k:IntKind}{h:Int}(ho:o.op= .slice t x none (some hi) none)(R:Rel w0 st g born (a::asx) w)
  (hx:ae st.get g (.sl r [] none) (a.eval x)) (hg:st.get r= .half e xs) (eh:a.eval hi= .int k h)
  (hok:aN (mY P t e xs r h base).ok) (hfr: ∀i,base≤i→i∈(mY P t e xs r h base).upd.map (·.1)→ ¬born i) (hq:a8 st.rs (mY P t e xs r h base).quiet=true):
  cu P o a.eval w (dU w0 st born (a::asx) (mY P t e xs r h base)):=by
 obtain⟨k1,k2⟩:=af.1 hok
 obtain⟨k2,k3⟩:=af.1 k2
 have k3:=(af.1 k3).1
 have k2:0≤h:=of_decide_eq_true (show decide (0≤h)=true from k2)
 have k3:h.toNat≤xs.length:=of_decide_eq_true (show decide (h.toNat≤xs.length)=true from k3)
 obtain⟨e',i,z,hu,_,hinf,hsz,hby,hz,hzi,hpos,hce,hzs⟩:=cd k1
 have hro:=R.roots r
 unfold aF at hro
 rw[hg]at hro
 obtain⟨ad,n,c,q1,q2,q3,qz,q4,q5⟩:=hro
 rw[ae]at hx
 have hv:a.eval x= .slice ad n c:=by
  have:=hx.2 e e (by rw[hg];rfl) (by simp[typeAt])
  rw[q1]at this
  exact this
 have hrun:(execOp a.eval o).run P w= .ok (.value (.slice ad h.toNat c)) w:=by
  have hbnd:(Instr.sliceBounds true n c none (some (.int k h)) none).run P w= .ok (0,h.toNat,c) w:=by
   have b2:(Instr.sliceBound (.int k h) c .sliceAcap).run P w= .ok h.toNat w:=by
    rw[run_sliceBound]
    ·exact k2
    ·show h≤(c:Int);omega
   simp[Instr.sliceBounds,b2]
  unfold execOp;rw[ho]
  cases ad<;>simp[Instr.sliceAt,Instr.slice,hv,ar hu,eh,hbnd,cb hinf,Addr.add]
 have hs2:mI e.size (some (0,h.toNat)) (tJ ad xs.length c (g r).H []) (.slice ad h.toNat c):=by
  cases ad with
  |none=>
   have:=qz rfl
   have e1:xs.length=0:=by omega
   have e2:h.toNat=0:=by omega
   have e3:c=0:=this
   subst e3
   rw[e1,e2]
   exact .inl ⟨rfl,rfl,rfl,rfl⟩
  |some ad=>exact .inr ⟨ad,xs.length,c,0,rfl,by simp[Addr.add],by omega,by omega,Nat.le_refl _,.inl rfl⟩
 have hsep:bD e xs (tJ ad xs.length c (g r).H):=⟨fun a' n' c' i x e hc hx hb=>by
  simp only[tJ,Value.slice.injEq]at e
  obtain⟨rfl,rfl,rfl⟩:=e
  exact q5.1 _ _ _ i x q1 hc hx hb,q5.2.1,q5.2.2⟩
 have s1:=il q4 hs2
 have s2:=fx hs2 hsep
 have s3:=fun bl=>eR (xs:=xs) (H:=tJ ad xs.length c (g r).H) hs2 (b:=bl)
 have e0:dJ (some (0,h.toNat)) xs=xs.take h.toNat:=by
  show List.take h.toNat (List.drop 0 _)=_
  rw[List.drop_zero]
 rw[e0]at s1 s2 s3
 have hD:=ko (base:=base) (ok:= [.s (cV P t e),.d (D.le 0 h),.d (D.leN (D.nat h) (D.len xs))]) (q:=dL [r]) (l:= [r]) (e:=e) (xs:=xs.take h.toNat) (inf:=⟨0,nj (some (0,h.toNat)) (.slice ad h.toNat c) (tJ ad xs.length c (g r).H),fun _=>False⟩) R (hfr base (Nat.le_refl _) (by simp[mY,cH]))
  (dI hq fun r' hr=>List.mem_map.2 ⟨r',hr,rfl⟩) (bL.refl _ _) (fun b hb=> .inl rfl) s1 s2 (fun bl hb=> .inr ⟨r,List.mem_singleton.2 rfl,by unfold Own;rw[hg];exact(jl q1).1 (s3 bl hb)⟩)
 exact cu.value hrun hD
end
end Go.Am
end
section
/- Soundness: rows of literals. -/
namespace Go.Am
attribute [local instance] D.real
section
variable {P : Program} {w0 : bu} {w w' : World} {st st' : St} {g g' : aB} {born : Nat → Prop} {a : Act} {asx acts : List Act} {o : Oper} {base : Nat}
theorem uk: ∀(l:List Value) (k off:Nat) (cells:Array Value),
  ((l.zipIdx k).foldl (fun cs x=>cs.setIfInBounds (off+x.2) x.1) cells).size=cells.size∧
  ∀q,((l.zipIdx k).foldl (fun cs x=>cs.setIfInBounds (off+x.2) x.1) cells)[q]?=if off+k≤q∧q<off+k+l.length∧q<cells.size then l[q-(off+k)]? else cells[q]?
 | [],k,off,cells=>⟨rfl,fun q=>by rw[if_neg (by simp;omega)];rfl⟩
 |v::l,k,off,cells=>by
  rw[List.zipIdx_cons,List.foldl_cons]
  obtain⟨h1,h2⟩:=uk l (k+1) off (cells.setIfInBounds (off+k) v)
  refine⟨by rw[h1];simp,fun q=> ?_⟩
  rw[h2,Array.getElem?_setIfInBounds,Array.size_setIfInBounds]
  by_cases e:off+k=q
  ·subst e
   rw[if_neg (by omega)]
   by_cases hq:off+k<cells.size
   ·simp[hq]
   ·rw[if_pos rfl,if_neg (by omega)]
    simp[hq,Array.getElem?_eq_none (show cells.size≤off+k by omega)]
  ·rw[if_neg e]
   by_cases h:off+(k+1)≤q∧q<off+(k+1)+l.length∧q<cells.size
   ·rw[if_pos h,if_pos (by simp only[List.length_cons];omega)]
    have:q-(off+k)=(q-(off+(k+1)))+1:=by omega
    rw[this,List.getElem?_cons_succ]
   ·rw[if_neg h,if_neg (by simp only[List.length_cons];omega)]
theorem fill_eq{place:Nat→Option (Nat×Nat)}{cells:Array Value}{i:Nat}{v:Value}{rest:List (Nat×Value)}{off size:Nat}(h1:place i=some (off,size))(h2:v.cells.size=size)(h3:off+size≤cells.size):
  Instr.fill place cells ((i,v)::rest)=Instr.fill place ((v.cells.toList.zipIdx).foldl (fun cs x=>cs.setIfInBounds (off+x.2) x.1) cells) rest:=by
 have e:(v.cells.zipIdx.foldl (fun cs (x:Value×Nat)=>cs.setIfInBounds (off+x.2) x.1) cells)=((v.cells.toList.zipIdx).foldl (fun cs x=>cs.setIfInBounds (off+x.2) x.1) cells):=by
  rw[←Array.foldl_toList];simp
 show(match place i with
  |none=>none
  |some (off,size)=>if v.cells.size≠size||off+v.cells.size>cells.size then none else Instr.fill place (v.cells.zipIdx.foldl (fun cs (x:Value×Nat)=>cs.setIfInBounds (off+x.2) x.1) cells) rest)=_
 rw[h1]
 simp only[h2,ne_eq,not_true_eq_false,decide_false,Bool.false_or]
 rw[if_neg (by simp;omega),e]
theorem pZ{size:Nat}: ∀(us:List Value) (k:Nat) (cells:Array Value),(∀u∈us,u.cells.size=size)→(k+us.length)*size≤cells.size→
  ∃out,Instr.fill (fun i=>some (i*size,size)) cells ((List.range' k us.length).zip us)=some out∧out.size=cells.size∧
   (∀i u f,us[i]?=some u→f<size→out[(k+i)*size+f]?=u.cells[f]?)∧ ∀q,q<k*size→out[q]?=cells[q]?
 | [],k,cells,_,_=>⟨cells,rfl,rfl,fun i u f h=>by simp at h,fun q _=>rfl⟩
 |u::us,k,cells,hs,hl=>by
  have hu:u.cells.size=size:=hs u List.mem_cons_self
  have e1:(k+(u::us).length)*size=k*size+size+us.length*size:=by
   rw[List.length_cons,Nat.add_mul,Nat.add_mul];omega
  rw[e1]at hl
  have hfill:=fill_eq (place:=fun i=>some (i*size,size)) (cells:=cells) (i:=k) (v:=u) (rest:=(List.range' (k+1) us.length).zip us) rfl hu (by omega)
  obtain⟨s1,s2⟩:=uk u.cells.toList 0 (k*size) cells
  obtain⟨out,o1,o2,o3,o4⟩:=pZ us (k+1) ((u.cells.toList.zipIdx).foldl (fun cs x=>cs.setIfInBounds (k*size+x.2) x.1) cells) (fun u' h=>hs u' (List.mem_cons_of_mem _ h)) (by
   rw[s1,Nat.add_mul,Nat.add_mul];omega)
  refine⟨out,?_,by rw[o2,s1],fun i u' f hi hf=> ?_,fun q hq=> ?_⟩
  ·rw[List.length_cons,List.range'_succ,List.zip_cons_cons,hfill];exact o1
  ·cases i with
   |zero=>
    simp only[List.getElem?_cons_zero,Option.some.injEq]at hi
    subst hi
    rw[Nat.add_zero,o4 _ (by rw[Nat.add_mul];omega),s2,if_pos (by simp[hu];omega)]
    simp
   |succ i=>
    have:=o3 i u' f (by simpa using hi) hf
    rw[show k+(i+1)=k+1+i by omega];exact this
  ·rw[o4 q (by rw[Nat.add_mul];omega),s2,if_neg (by omega)]
theorem sV{get:Get}(hR: ∀r,aF w0 w get g r)(hB:Seen w0 w)(hS: ∀r r' b,r≠r'→Own get g r b→Own get g r' b→False){te:Ty}:
  ∀(vs:List AV) (us:List Value) (ok ok':List Tst) (xs:List (den te)) (l:List Nat),ai get g vs us→readAll get te vs=(ok,xs)→iB get te vs=(ok',l)→aN ok→aN ok'→
   xs.length=vs.length∧ ∃ls:List (List Nat),l=ls.flatten∧ls.length=vs.length∧ ∀(i:Nat) (x:den te),xs[i]?=some x→ ∃(v:AV) (u:Value) (li:List Nat),vs[i]?=some v∧us[i]?=some u∧ls[i]?=some li∧
    u.cells.size=te.size∧(∀c∈u.cells.toList,c.oneCell'=true)∧Rep w true te x (Gof g v.cells u.cells.toList) 0 (fun k=>u.cells.toList[k]?)∧
    (∀b,Blk te x (Gof g v.cells u.cells.toList) 0 b→ ∃r∈li,Own get g r b)∧(li.Nodup→Sep te x (Gof g v.cells u.cells.toList) 0)
 | [],us,ok,ok',xs,l,_,h,hg,_,_=>by
  simp only[readAll,Prod.mk.injEq]at h
  simp only[iB,Prod.mk.injEq]at hg
  obtain⟨rfl,rfl⟩:=h
  obtain⟨rfl,rfl⟩:=hg
  exact⟨rfl,[],rfl,rfl,fun i x h=>by simp at h⟩
 |v::vs,us,ok,ok',xs,l,hA,h,hg,hok,hok'=>by
  unfold readAll at h
  unfold iB at hg
  generalize h1:bp get te v.cells=r1 at h
  obtain⟨k1,x1,rest⟩:=r1
  simp only at h
  generalize h2:readAll get te vs=r2 at h
  obtain⟨k2,xs2⟩:=r2
  simp only[Prod.mk.injEq]at h
  obtain⟨rfl,rfl⟩:=h
  generalize h3:gives get te v.cells=g1 at hg
  obtain⟨m1,l1,rest'⟩:=g1
  simp only at hg
  generalize h4:iB get te vs=g2 at hg
  obtain⟨m2,l2⟩:=g2
  simp only[Prod.mk.injEq]at hg
  obtain⟨rfl,rfl⟩:=hg
  obtain⟨ka0,kb⟩:=aq.1 hok
  obtain⟨ka,kc⟩:=aq.1 ka0
  obtain⟨kc,kd⟩:=af.1 kc
  obtain⟨kd,_⟩:=af.1 kd
  obtain⟨ma,mb⟩:=aq.1 hok'
  rw[ai]at hA
  obtain⟨u,us',rfl,hv,hA⟩:=hA
  obtain⟨c1,c2,c3⟩:=jd hv (show v.kC=true from kd)
  have hgv:=kM hR hS c1 te 0 k1 m1 x1 l1 rest rest' h1 h3 ka ma
  obtain⟨q1,rfl,q3,q4,q5⟩:=hgv
  have hlen:u.cells.size=te.size:=by
   have hrest:rest'= []:=by
    have:rest'.isEmpty=true:=kc
    exact List.isEmpty_iff.1 this
   rw[hrest]at q5
   have h6:v.cells.length≤te.size:=by
    have:=List.drop_eq_nil_iff.1 q5.symm
    omega
   have h7:=cW c1
   have h8:te.size≤v.cells.length:=by
    rcases kQ hR hB c1 te 0 k1 x1 rest' h1 ka with⟨_,_,h⟩|⟨h,_⟩<;>omega
   simp at h7;omega
  obtain⟨n1,ls,e1,e2,e3⟩:=sV hR hB hS vs us' k2 m2 xs2 l2 hA h2 h4 kb mb
  refine⟨by simp[n1],l1::ls,by simp[e1],by simp[e2],fun i x hi=> ?_⟩
  cases i with
  |zero=>
   simp only[List.getElem?_cons_zero,Option.some.injEq]at hi
   subst hi
   exact⟨v,u,l1,rfl,rfl,rfl,hlen,c2,q1,q3,q4⟩
  |succ i=>
   obtain⟨v',u',li,f1,f2,f3,f4⟩:=e3 i x (by simpa using hi)
   exact⟨v',u',li,by simpa using f1,by simpa using f2,by simpa using f3,f4⟩
theorem nJ{α β γ:Type}(f:β→γ): ∀(ps:List (α×β)),(ps.map (·.1)).zip ((ps.map (·.2)).map f)=ps.map fun p=>(p.1,f p.2)
 | []=>rfl
 |p::ps=>by
  have:=nJ f ps
  simp only[List.map_cons,List.zip_cons_cons,this]
theorem FM{t e:TypeId}{te:Ty}{len:Nat}{ps:Array (Nat×Operand)}(ho:o.op= .buildSlice t len ps)(R:Rel w0 st g born (a::asx) w)(h1:cV P t te=true)(h5:ps.toList.map (·.1)=List.range len)(h6:len*te.size≤16777216)
  (hs1:te.size=1) (hlit:((ps.toList.map (·.2)).map (an st)).all E7=true) (hfr: ¬born base) (ok:List Tst):
  cu P o a.eval w (dU w0 st born (a::asx) {ok:=ok,v:= .lit base len,upd:= [(base,.var ((ps.toList.map (·.2)).map (an st)))]}):=by
 obtain⟨e',i,z,hu,_,hinf,hsz,hby,hz,hzi,hpos,hce,hzs⟩:=cd h1
 obtain⟨hA,hAb⟩:=nT R (ps.toList.map (·.2))
 have hplen:ps.toList.length=len:=by
  have:=congrArg List.length h5;simpa using this
 have hone: ∀u∈(ps.toList.map (·.2)).map a.eval,u.cells= #[u]∧u.oneCell'=true:=by
  intro u hu
  obtain⟨k,hk,ek⟩:=List.getElem_of_mem hu
  have hk':k<((ps.toList.map (·.2)).map (an st)).length:=by simpa using hk
  have hl:=List.all_eq_true.1 hlit _ (List.getElem_mem hk')
  obtain⟨x,hx,hr⟩:=bK hA (List.getElem?_eq_getElem hk')
  rw[List.getElem?_eq_getElem hk,ek]at hx
  injection hx with hx
  subst hx
  generalize((ps.toList.map (·.2)).map (an st))[k]=v at hl hr
  cases v<;>first|cases hl|skip
  ·rw[ae]at hr;subst hr;exact⟨rfl,rfl⟩
  ·rw[ae]at hr;obtain⟨⟨_,_,_,rfl⟩,_⟩:=hr;exact⟨rfl,rfl⟩
 have husz: ∀u∈(ps.toList.map (·.2)).map a.eval,u.cells.size=te.size:=fun u hu=>by rw[(hone u hu).1,hs1];rfl
 obtain⟨out,o1,o2,o3,_⟩:=pZ (size:=te.size) ((ps.toList.map (·.2)).map a.eval) 0 (madeCells z.cells (len*te.size)) husz (by simp[size_madeCells,hplen])
 have hzip:(List.range' 0 ((ps.toList.map (·.2)).map a.eval).length).zip ((ps.toList.map (·.2)).map a.eval)=ps.toList.map fun p=>(p.1,a.eval p.2):=by
  rw[←nJ]
  congr 1
  rw[h5,List.range_eq_range']
  simp[hplen]
 rw[hzip]at o1
 have hosz:out.size=len:=by rw[o2,size_madeCells,hs1,Nat.mul_one]
 have hout:out.toList=(ps.toList.map (·.2)).map a.eval:=by
  apply List.ext_getElem?
  intro k
  rcases Nat.lt_or_ge k len with hk|hk
  ·have hk2:k<((ps.toList.map (·.2)).map a.eval).length:=by simp[hplen];exact hk
   have:=o3 k _ 0 (List.getElem?_eq_getElem hk2) (by omega)
   rw[hs1,(hone _ (List.getElem_mem hk2)).1]at this
   rw[Array.getElem?_toList,List.getElem?_eq_getElem hk2]
   simpa using this
  ·rw[List.getElem?_eq_none (by simpa[hosz]using hk),List.getElem?_eq_none (by simp[hplen];exact hk)]
 have hrun:(execOp a.eval o).run P w= .ok (.value (.slice (some ⟨w.heap.size,0,none⟩) len len)) (w.alloc (.cells out e')):=by
  unfold execOp;rw[ho]
  have hn: ¬(len*te.size>2^24):=by omega
  have hmap:(ps.map fun(x:Nat×Operand)=>(x.1,a.eval x.2)).toList=ps.toList.map fun p=>(p.1,a.eval p.2):=by simp
  by_cases h0:len*te.size=0
  ·have m0:madeCells z.cells 0= #[]:=by simp[madeCells,Array.range_zero']
   rw[h0,m0]at o1
   simp only[Instr.buildSlice,Sem.run_bind,ar hu,Result.andThen_ok,cb hinf,hce,hn,if_false,h0,if_true,Sem.run_pure,hmap]
   simp[o1,newRow,Array.range_zero']
  ·simp only[Instr.buildSlice,Sem.run_bind,ar hu,Result.andThen_ok,cb hinf,hce,hn,if_false,h0,Sem.run_pure,hmap,zeroValue,typeInfo,run_program,hinf,hz]
   have:(Array.range (len*te.size)).map (z.cells[· % z.cells.size]!)=madeCells z.cells (len*te.size):=rfl
   simp[this,o1,newRow]
 have R2:=CQ (te:=e') R hfr (cs:=(ps.toList.map (·.2)).map (an st)) (arr:=out) (by rw[hout];exact hA) (fun x hx=>by rw[hout]at hx;exact(hone x hx).2) hAb
 refine cu.value hrun ⟨_,_,R2,?_,fun r hr=> ?_,fun r hr=> ?_,fun r hr=> .inl hr⟩
 ·rw[ae]
  refine⟨⟨_,_,_,rfl⟩,fun _=> ?_⟩
  rw[bU]
 ·simp only[AV.roots,List.mem_singleton]at hr;exact .inr hr
 ·rcases hr with hr|hr
  ·exact .inl hr
  ·exact .inr (by simp[hr])
theorem step_empty{t:TypeId}{te:Ty}{ps:Array (Nat×Operand)}(ho:o.op= .buildSlice t 0 ps)(R:Rel w0 st g born (a::asx) w)(h1:cV P t te=true)(hps:ps.toList= [])(hfr: ¬born base)(ok:List Tst):
  cu P o a.eval w (dU w0 st born (a::asx) {ok:=ok,v:= .sl base [] none,upd:= [(base,.sh te [])]}):=by
 obtain⟨e',i,z,hu,_,hinf,hsz,hby,hz,hzi,hpos,hce,hzs⟩:=cd h1
 have hps:ps= #[]:=by rw[←Array.toList_inj];exact hps
 subst hps
 have hrun:(execOp a.eval o).run P w= .ok (.value (.slice (some ⟨w.heap.size,0,none⟩) 0 0)) (w.alloc (.cells #[] e')):=by
  unfold execOp;rw[ho]
  simp[Instr.buildSlice,ar hu,cb hinf,hce,newRow,Array.range_zero',Instr.fill]
 have e1:(st.ep base (.sh te [])).get base= .sh te []:=bQ _ _ _
 have R2:=CK R base (.sh te []) ⟨0,fun _=> .slice (some ⟨w.heap.size,0,none⟩) 0 0,fun _=>False⟩ hfr ((RowKit.Below.refl _ _).alloc (Nat.le_refl _) (.cells #[] e')) (by
   unfold aF
   rw[e1]
   simp only[bU]
   refine⟨fun b h=>h.elim,fun b ⟨ad,n,c,h,hc,_⟩=> ?_,.inr ⟨_,0,rfl,Nat.le_refl _,fun _ h=>absurd rfl h,fun i x h=>by simp at h⟩⟩
   injection h with _ _ h
   exact hc h.symm)
  (fun b h=>by unfold Own at h;rw[e1]at h;simp only[bU]at h) (fun r hr=>by simp[ak.roots]at hr)
 refine cu.value hrun ⟨_,_,R2,?_,fun r hr=> ?_,fun r hr=> ?_,fun r hr=> .inl hr⟩
 ·rw[ae]
  refine⟨⟨_,_,_,rfl⟩,fun t2 e2 _ _=> ?_⟩
  show _=(dK g base _ base).H []
  rw[bU]
 ·simp only[AV.roots,List.mem_singleton]at hr;exact .inr hr
 ·rcases hr with hr|hr
  ·exact .inl hr
  ·exact .inr (by simp[hr])
theorem tH{t:TypeId}{len:Nat}{ps:Array (Nat×Operand)}(ho:o.op= .buildSlice t len ps)(R:Rel w0 st g born (a::asx) w)
  (hok:aN (dn P t len ((ps.toList.map (·.1)).zip ((ps.toList.map (·.2)).map (an st))) st.get base).ok)
  (hfr: ∀i,base≤i→i∈(dn P t len ((ps.toList.map (·.1)).zip ((ps.toList.map (·.2)).map (an st))) st.get base).upd.map (·.1)→ ¬born i)
  (hq:a8 st.rs (dn P t len ((ps.toList.map (·.1)).zip ((ps.toList.map (·.2)).map (an st))) st.get base).quiet=true):
  cu P o a.eval w (dU w0 st born (a::asx) (dn P t len ((ps.toList.map (·.1)).zip ((ps.toList.map (·.2)).map (an st))) st.get base)):=by
 rw[nJ]at hok hfr hq⊢
 obtain⟨hA,_⟩:=nT R (ps.toList.map (·.2))
 revert hfr hq
 unfold dn at hok⊢
 split at hok
 ·exact(ay hok).elim
 next e he=>
 split at hok
 ·exact(ay hok).elim
 next agg te hty=>
 have e2:(ps.toList.map fun p=>(p.1,an st p.2)).map (·.2)=(ps.toList.map (·.2)).map (an st):=by simp
 have e1:(ps.toList.map fun p=>(p.1,an st p.2)).map (·.1)=ps.toList.map (·.1):=by simp
 rw[e1,e2]at hok⊢
 generalize hra:readAll st.get te ((ps.toList.map (·.2)).map (an st))=ra at hok
 obtain⟨ok,xs⟩:=ra
 simp only at hok⊢
 generalize hga:iB st.get te ((ps.toList.map (·.2)).map (an st))=ga at hok
 obtain⟨ok',l⟩:=ga
 simp only at hok⊢
 intro hfr hq
 cases hbl:((!(ok'.all HD)||(Cm te&&Nat.blt 0 len))&&(Nat.beq te.size 1&&((ps.toList.map (·.2)).map (an st)).all E7))with
 |true=>
  rw[hbl]at hok hfr
  simp only[cond_true]at hok hfr⊢
  simp only[Bool.and_eq_true]at hbl
  obtain⟨h1,h5⟩:=af.1 hok
  obtain⟨h5,h6⟩:=af.1 h5
  have h5:ps.toList.map (·.1)=List.range len:=of_decide_eq_true (show decide (ps.toList.map (·.1)=List.range len)=true from h5)
  have h6:len*te.size≤16777216:=jM (af.1 h6).1
  exact FM (e:=e) ho R h1 h5 h6 (cX hbl.2.1) hbl.2.2 (hfr base (Nat.le_refl _) (by simp)) _
 |false=>
 rw[hbl]at hok hfr hq
 simp only[cond_false]at hok hfr hq⊢
 cases hdp:(Cm te&&(ps.toList.map fun p=>(p.1,an st p.2)).isEmpty)with
 |true=>
  rw[hdp]at hok hfr
  simp only[cond_true]at hok hfr⊢
  obtain⟨h1,h5⟩:=af.1 hok
  have h5:len=0:=cX (af.1 h5).1
  subst h5
  simp only[Bool.and_eq_true,List.isEmpty_iff,List.map_eq_nil_iff]at hdp
  exact step_empty ho R h1 hdp.2 (hfr base (Nat.le_refl _) (by simp)) _
 |false=>
 rw[hdp]at hok hfr hq
 simp only[cond_false]at hok hfr hq⊢
 obtain⟨h1,h2⟩:=aq.1 hok
 obtain⟨h1,h3⟩:=aq.1 h1
 obtain⟨h1,h4⟩:=aq.1 h1
 obtain⟨h1,h5⟩:=af.1 h1
 obtain⟨h5,h6⟩:=af.1 h5
 have h5:ps.toList.map (·.1)=List.range len:=of_decide_eq_true (show decide (ps.toList.map (·.1)=List.range len)=true from h5)
 have h6:len*te.size≤16777216:=jM (af.1 h6).1
 have hnd:l.Nodup:=of_decide_eq_true (show decide l.Nodup=true from(af.1 h2).1)
 obtain⟨e',i,z,hu,_,hinf,hsz,hby,hz,hzi,hpos,hce,hzs⟩:=cd h1
 obtain⟨hlen,ls,el,hll,hel⟩:=sV R.roots (cJ R.below) R.sep _ _ _ _ _ _ hA hra hga h4 h3
 have hplen:ps.toList.length=len:=by
  have:=congrArg List.length h5;simpa using this
 have hxl:xs.length=len:=by rw[hlen];simpa using hplen
 have hus: ∀i,i<len→ ∃u,((ps.toList.map (·.2)).map a.eval)[i]?=some u∧u.cells.size=te.size:=by
  intro i hi
  obtain⟨v,u,li,f1,f2,f3,f4,_⟩:=hel i _ (dP (d:=bm te) (by omega))
  exact⟨u,f2,f4⟩
 have husz: ∀u∈(ps.toList.map (·.2)).map a.eval,u.cells.size=te.size:=by
  intro u hu
  obtain⟨i,hi,e⟩:=List.getElem_of_mem hu
  obtain⟨u',h',hs⟩:=hus i (by simpa[hplen]using hi)
  rw[List.getElem?_eq_getElem hi,e]at h'
  injection h' with h'
  subst h';exact hs
 obtain⟨out,o1,o2,o3,_⟩:=pZ (size:=te.size) ((ps.toList.map (·.2)).map a.eval) 0 (madeCells z.cells (len*te.size)) husz (by simp[size_madeCells,hplen])
 have hzip:(List.range' 0 ((ps.toList.map (·.2)).map a.eval).length).zip ((ps.toList.map (·.2)).map a.eval)=ps.toList.map fun p=>(p.1,a.eval p.2):=by
  rw[←nJ]
  congr 1
  rw[h5,List.range_eq_range']
  simp[hplen]
 rw[hzip]at o1
 have hosz:out.size=len*te.size:=by rw[o2,size_madeCells]
 have hrun:(execOp a.eval o).run P w= .ok (.value (.slice (some ⟨w.heap.size,0,none⟩) len len)) (w.alloc (.cells out e')):=by
  unfold execOp;rw[ho]
  have hn: ¬(len*te.size>2^24):=by omega
  have hmap:(ps.map fun(x:Nat×Operand)=>(x.1,a.eval x.2)).toList=ps.toList.map fun p=>(p.1,a.eval p.2):=by simp
  by_cases h0:len*te.size=0
  ·have m0:madeCells z.cells 0= #[]:=by simp[madeCells,Array.range_zero']
   rw[h0,m0]at o1
   simp only[Instr.buildSlice,Sem.run_bind,ar hu,Result.andThen_ok,cb hinf,hce,hn,if_false,h0,if_true,Sem.run_pure,hmap]
   simp[o1,newRow,Array.range_zero']
  ·simp only[Instr.buildSlice,Sem.run_bind,ar hu,Result.andThen_ok,cb hinf,hce,hn,if_false,h0,Sem.run_pure,hmap,zeroValue,typeInfo,run_program,hinf,hz]
   have:(Array.range (len*te.size)).map (z.cells[· % z.cells.size]!)=madeCells z.cells (len*te.size):=rfl
   simp[this,o1,newRow]
 let H:Path→Value:=fun q=>match q with
  | []=> .slice (some ⟨w.heap.size,0,none⟩) len len
  |(i,f)::q=>Gof g ((((ps.toList.map (·.2)).map (an st)).getD i .undef).cells) ((((ps.toList.map (·.2)).map a.eval).getD i Go.undef).cells.toList) f q
 have hfact: ∀i x,xs[i]?=some x→ ∃li,ls[i]?=some li∧Rep w true te x (fun f p=>H ((i,f)::p)) 0 (fun k=>((((ps.toList.map (·.2)).map a.eval).getD i Go.undef).cells)[k]?)∧
   (∀b,Blk te x (fun f p=>H ((i,f)::p)) 0 b→ ∃r∈li,Own st.get g r b)∧(li.Nodup→Sep te x (fun f p=>H ((i,f)::p)) 0)∧i<len∧
   ∀f,f<te.size→out[i*te.size+f]?=((((ps.toList.map (·.2)).map a.eval).getD i Go.undef).cells)[f]?:=by
  intro i x hi
  obtain⟨v,u,li,f1,f2,f3,f4,f5,f6,f7,f8⟩:=hel i x hi
  have d1:((ps.toList.map (·.2)).map (an st)).getD i .undef=v:=by rw[List.getD_eq_getElem?_getD,f1];rfl
  have d2:((ps.toList.map (·.2)).map a.eval).getD i Go.undef=u:=by rw[List.getD_eq_getElem?_getD,f2];rfl
  have hil:i<len:=by
   rcases Nat.lt_or_ge i xs.length with h|h
   ·omega
   ·rw[List.getElem?_eq_none h]at hi;cases hi
  have hH:(fun f p=>H ((i,f)::p))=Gof g v.cells u.cells.toList:=by
   funext f q
   show Gof g ((((ps.toList.map (·.2)).map (an st)).getD i .undef).cells) ((((ps.toList.map (·.2)).map a.eval).getD i Go.undef).cells.toList) f q=_
   rw[d1,d2]
  refine⟨li,f3,?_,?_,?_,hil,fun f hf=> ?_⟩
  ·rw[hH,d2];simpa using f6
  ·rw[hH];exact f7
  ·rw[hH];exact f8
  ·rw[d2,←o3 i u f f2 hf,Nat.zero_add]
 have hsplit:=List.pairwise_flatten.1 (show ls.flatten.Pairwise (· ≠ ·) by rw[←el];exact hnd)
 have hq': ∀r∈l,∀j r' p t xs,st.get j= .pend r' p t xs→r'≠r:=dI hq fun r hr=>List.mem_map.2 ⟨r,hr,rfl⟩
 have hmem: ∀(i:Nat) (li:List Nat),ls[i]?=some li→ ∀r∈li,r∈l:=by
  intro i li h r hr
  rw[el];exact List.mem_flatten.2 ⟨li,List.mem_of_getElem? h,hr⟩
 have hD:=ko (base:=base) (ok:= [.s (cV P t te),.s (decide (ps.toList.map (·.1)=List.range len)),.s (Nat.ble (len*te.size) 16777216)]++ok++ok'++ [.s (decide l.Nodup)]) (q:=dL l) (l:=l) (e:=te) (xs:=xs) (inf:=⟨0,H,fun _=>False⟩)
  (w':=w.alloc (.cells out e')) R (hfr base (Nat.le_refl _) (by simp)) hq' ((bL.refl _ _).alloc R.below.size _) (fun b hb=> .inl (RowKit.Below.heap_alloc _ _ _ hb)) ?_ ?_ ?_
 ·exact cu.value hrun hD
 ·refine .inr ⟨⟨w.heap.size,0,none⟩,len,by rw[hxl],by omega,fun _ hc=>⟨rfl,_,_,heap_alloc_new w _,by simp[hosz]⟩,fun i x hi=> ?_⟩
  obtain⟨li,f3,f6,f7,_,hil,fo⟩:=hfact i x hi
  refine dR te x _ 0 _ _ (fun b hb=> ?_) (fun k _ hk=> ?_) f6
  ·obtain⟨r,_,hr⟩:=f7 b hb
   exact RowKit.Below.heap_alloc _ _ _ (eO R hr)
  ·simp only[Nat.zero_add]at hk
   rw[mQ,World.cell?_alloc_new]
   exact fo k hk
 ·refine⟨fun aa n c i x h _ hi hb=> ?_,fun i j x y b hij hi hj hb hb'=> ?_,fun i x hi=> ?_⟩
  ·injection h with h;injection h with h;subst h
   obtain⟨li,_,_,f7,_⟩:=hfact i x hi
   obtain⟨r,_,hr⟩:=f7 _ hb
   have:=eO R hr
   simp at this
  ·obtain⟨li,f3,_,f7,_⟩:=hfact i x hi
   obtain⟨lj,f3',_,f7',_⟩:=hfact j y hj
   obtain⟨r,hr,hro⟩:=f7 b hb
   obtain⟨r',hr',hro'⟩:=f7' b hb'
   refine R.sep r r' b ?_ hro hro'
   have hp:=hsplit.2
   rw[List.pairwise_iff_getElem]at hp
   have gi:i<ls.length:=(List.getElem?_eq_some_iff.1 f3).1
   have gj:j<ls.length:=(List.getElem?_eq_some_iff.1 f3').1
   have ei:ls[i]=li:=(List.getElem?_eq_some_iff.1 f3).2
   have ej:ls[j]=lj:=(List.getElem?_eq_some_iff.1 f3').2
   rcases Nat.lt_or_gt_of_ne hij with h|h
   ·exact hp i j gi gj h r (by rw[ei];exact hr) r' (by rw[ej];exact hr')
   ·exact fun e=>hp j i gj gi h r' (by rw[ej];exact hr') r (by rw[ei];exact hr) e.symm
  ·obtain⟨li,f3,_,_,f8,_⟩:=hfact i x hi
   exact f8 (hsplit.1 li (List.mem_of_getElem? f3))
 ·rintro b (⟨aa,n,c,h,_,rfl⟩|⟨i,x,hi,hb⟩)
  ·injection h with h;injection h with h;subst h;exact .inl (Nat.le_refl _)
  ·obtain⟨li,f3,_,f7,_⟩:=hfact i x hi
   obtain⟨r,hr,hro⟩:=f7 b hb
   exact .inr ⟨r,hmem i li f3 r hr,hro⟩
end
end Go.Am
end
section
/- Soundness: what is appended. -/
namespace Go.Am
attribute [local instance] D.real
section
variable {P : Program} {w0 : bu} {w w' : World} {st st' : St} {g g' : aB} {born : Nat → Prop} {a : Act} {asx acts : List Act} {o : Oper} {base : Nat}
theorem zF{rw rw':Bool}: ∀(t:Ty) (d:den t) (G G':Nat→Path→Value) (f:Nat) (rd rd':Nat→Option Value),t.flat=true→Rep w rw t d G f rd→(∀k,f≤k→k<f+t.size→rd' k=rd k)→Rep w' rw' t d G' f rd':=by
 intro t
 induction t with
 |int k=>intro d G G' f rd rd' _ h hr;exact(hr f (Nat.le_refl _) (by simp[Ty.size])).trans h
 |bool=>intro d G G' f rd rd' _ h hr;exact(hr f (Nat.le_refl _) (by simp[Ty.size])).trans h
 |str=>intro d G G' f rd rd' _ h hr;exact(hr f (Nat.le_refl _) (by simp[Ty.size])).trans h
 |unit=>intros;trivial
 |sl e ih=>intro d G G' f rd rd' h;simp[Ty.flat]at h
 |pair a b iha ihb=>
  intro d G G' f rd rd' hf h hr
  simp only[Ty.flat,Bool.and_eq_true]at hf
  simp only[Ty.size]at hr
  exact⟨iha _ _ _ _ _ _ hf.1 h.1 fun k h1 h2=>hr k h1 (by omega),ihb _ _ _ _ _ _ hf.2 h.2 fun k h1 h2=>hr k (by omega) (by omega)⟩
theorem mG: ∀(t:Ty) (d:den t) (G:Nat→Path→Value) (f b:Nat),t.flat=true→ ¬Blk t d G f b:=by
 intro t
 induction t with
 |pair a b' iha ihb=>intro d G f b h hb;simp only[Ty.flat,Bool.and_eq_true]at h;exact hb.elim (iha _ _ _ _ h.1) (ihb _ _ _ _ h.2)
 |sl e ih=>intro d G f b h;simp[Ty.flat]at h
 |unit=>intro d G f b _ h;exact h
 |int k=>intro d G f b _ h;exact h
 |bool=>intro d G f b _ h;exact h
 |str=>intro d G f b _ h;exact h
theorem Au: ∀(t:Ty) (d:den t) (G:Nat→Path→Value) (f:Nat),t.flat=true→Sep t d G f:=by
 intro t
 induction t with
 |pair a b' iha ihb=>intro d G f h;simp only[Ty.flat,Bool.and_eq_true]at h;exact⟨iha _ _ _ h.1,ihb _ _ _ h.2,fun bl hb _=>mG a _ _ _ _ h.1 hb⟩
 |sl e ih=>intro d G f h;simp[Ty.flat]at h
 |unit=>intros;trivial
 |int k=>intros;trivial
 |bool=>intros;trivial
 |str=>intros;trivial
theorem oP{rw:Bool}: ∀(t:Ty) (d:den t) (G:Nat→Path→Value) (f:Nat) (rd:Nat→Option Value),Rep w rw t d G f rd→ ∀k,f≤k→k<f+t.size→ ∃v,rd k=some v∧v.oneCell'=true:=by
 intro t
 have one: ∀(f k:Nat) (rd:Nat→Option Value) (v:Value),rd f=some v→v.oneCell'=true→f≤k→k<f+1→ ∃v,rd k=some v∧v.oneCell'=true:=by
  intro f k rd v h1 h2 h3 h4
  obtain rfl:k=f:=by omega
  exact⟨v,h1,h2⟩
 induction t with
 |int k=>intro d G f rd h k h1 h2;exact one f k rd _ h rfl h1 h2
 |bool=>intro d G f rd h k h1 h2;exact one f k rd _ h rfl h1 h2
 |str=>intro d G f rd h k h1 h2;exact one f k rd _ h rfl h1 h2
 |unit=>intro d G f rd h k h1 h2;simp[Ty.size]at h2;omega
 |sl e ih=>
  intro d G f rd h k h1 h2
  obtain⟨aa,c,h3⟩:=mZ (t:=e) h.2
  exact one f k rd _ h.1 (by rw[h3];rfl) h1 h2
 |pair a b iha ihb=>
  intro d G f rd h k h1 h2
  simp only[Ty.size]at h2
  rcases Nat.lt_or_ge k (f+a.size)with h3|h3
  ·exact iha _ _ _ _ h.1 k h1 h3
  ·exact ihb _ _ _ _ h.2 k h3 (by omega)
structure j8 (w : World) (rw : Bool) (e : Ty) (xs : List (den e)) (G : Nat → Nat → Path → Value) (cells : List Value) : Prop where
  len : cells.length = xs.length * e.size
  one : ∀ v ∈ cells, v.oneCell' = true
  rep : ∀ i x, xs[i]? = some x → Rep w rw e x (G i) 0 (fun f => cells[i * e.size + f]?)
theorem j8.nil(w:World)(rw:Bool)(e:Ty)(G:Nat→Nat→Path→Value):j8 w rw e [] G []:=⟨by simp,by simp,fun i x h=>by simp at h⟩
theorem js{rw:Bool}{e:Ty}{xs:List (den e)}{H:Path→Value}(h:aS w rw e xs H):
  ∃cells,j8 w rw e xs (fun i f q=>H ((i,f)::q)) cells∧ ∀ad n c,H []= .slice (some ad) n c→ ∀k v,cells[k]?=some v→w.cell? (ad.add k)=some v:=by
 rcases h with⟨h0,rfl⟩|⟨ad,cap,h0,hle,hg,hx⟩
 ·exact⟨[],j8.nil _ _ _ _,fun ad n c e=>by rw[h0]at e;cases e⟩
 ·have hcell: ∀k,k<xs.length*e.size→ ∃v,w.cell? (ad.add k)=some v∧v.oneCell'=true:=by
   intro k hk
   have hpos:0<e.size:=by
    rcases Nat.eq_zero_or_pos e.size with h|h
    ·rw[h]at hk;simp at hk
    ·exact h
   have hi:k/e.size<xs.length:=(Nat.div_lt_iff_lt_mul hpos).2 hk
   obtain⟨v,h1,h2⟩:=oP e _ _ 0 _ (hx (k/e.size) _ (dP (d:=bm e) hi)) (k % e.size) (Nat.zero_le _) (by simpa using Nat.mod_lt k hpos)
   rw[Nat.mul_comm,Nat.div_add_mod]at h1
   exact⟨v,h1,h2⟩
  have hget: ∀k,k<xs.length*e.size→((List.range (xs.length*e.size)).map fun k=>(w.cell? (ad.add k)).getD Go.undef)[k]?=w.cell? (ad.add k):=by
   intro k hk
   obtain⟨v,h1,_⟩:=hcell k hk
   simp[hk,h1]
  refine⟨(List.range (xs.length*e.size)).map fun k=>(w.cell? (ad.add k)).getD Go.undef,⟨by simp,fun v hv=> ?_,fun i x hi=> ?_⟩,fun ad' n c e' k v hk=> ?_⟩
  ·obtain⟨k,hk,rfl⟩:=List.mem_map.1 hv
   obtain⟨v,h1,h2⟩:=hcell k (List.mem_range.1 hk)
   rw[h1];exact h2
  ·have hil:i<xs.length:=by
    rcases Nat.lt_or_ge i xs.length with h|h
    ·exact h
    ·rw[List.getElem?_eq_none h]at hi;cases hi
   refine dR e x _ 0 _ _ (fun b _=>rfl) (fun f _ hf=> ?_) (hx i x hi)
   have:(i+1)*e.size≤xs.length*e.size:=Nat.mul_le_mul_right _ hil
   rw[Nat.add_mul]at this
   exact hget _ (by omega)
  ·rw[h0]at e';injection e' with e';injection e' with e';subst e'
   have hlt:k<xs.length*e.size:=by
    rcases Nat.lt_or_ge k ((List.range (xs.length*e.size)).map fun k=>(w.cell? (ad.add k)).getD Go.undef).length with h|h
    ·simpa using h
    ·rw[List.getElem?_eq_none h]at hk;cases hk
   rw[hget k hlt]at hk;exact hk
structure Src (P : Program) (w : World) (e : Ty) (v : Value) (zs : List (den e)) (B2 : Nat → Prop) (G : Nat → Nat → Path → Value) (news : List Value) : Prop where
  len : (Builtin.lenOf v).run P w = .ok zs.length w
  cells : ∀ w2 : World, (∀ ad, w2.cell? ad = w.cell? ad) → (Builtin.firstCells e.size zs.length v).run P w2 = .ok news.toArray w2
  el : j8 w true e zs G news
  blk : ∀ i x b, zs[i]? = some x → Blk e x (G i) 0 b → B2 b
  cross : ∀ i j x y b, i ≠ j → zs[i]? = some x → zs[j]? = some y → Blk e x (G i) 0 b → Blk e y (G j) 0 b → False
  sep : ∀ i x, zs[i]? = some x → Sep e x (G i) 0
theorem oW{e:Ty}{n:Nat}{v:Value}{news:List Value}{w2:World}(hl:news.length=n*e.size)(hv:v= .slice none 0 0∧n=0∨ ∃ad c,v= .slice (some ad) n c)
  (hc: ∀ad n c,v= .slice (some ad) n c→ ∀k u,news[k]?=some u→w2.cell? (ad.add k)=some u):(Builtin.firstCells e.size n v).run P w2= .ok news.toArray w2:=by
 rcases hv with⟨rfl,rfl⟩|⟨ad,c,rfl⟩
 ·have:news= []:=by simpa using hl
  subst this
  exact run_firstCells_none w2 _ _ _ _
 ·exact run_firstCells_some w2 e.size n ad n c news hl (hc ad n c rfl)
theorem sK(R:Rel w0 st g born acts w){e:Ty}{x:AV}{v:Value}{ok:List Tst}{zs:List (den e)}{l:List Nat}(hx:ae st.get g x v)(h:vj e x st.get=(ok,zs,l))(hok:aN ok):
  (l.length≤1∧(e.flat=true→l= []))∧ ∃G news,Src P w e v zs (fun b=> ∃r∈l,Own st.get g r b) G news:=by
 unfold vj at h
 split at h
 ·next b=>
  rw[ae]at hx
  subst hx
  split at h
  ·next he _=>
   subst he
   simp only[eC,Prod.mk.injEq]at h
   obtain⟨rfl,rfl,rfl⟩:=h
   refine⟨⟨by simp,fun _=>rfl⟩,fun _ _ _=>Go.undef,(b.data.toList.map fun c=>Value.int .u8 c.toNat),?_,fun w2 _=> ?_,⟨?_,?_,fun i x hi=> ?_⟩,fun i x b _ hb=>hb.elim,fun i j x y b _ _ _ hb=>hb.elim,fun i x _=>trivial⟩
   ·show(Builtin.lenOf (.string b)).run P w= .ok ((b.data.toList.map fun b=>(b.toNat:Int)).length) w
    simp[Builtin.lenOf]
   ·show(Builtin.firstCells 1 ((b.data.toList.map fun b=>(b.toNat:Int)).length) (.string b)).run P w2=_
    simp only[Builtin.firstCells,Sem.run_pure,List.length_map,Array.length_toList]
    congr 1
    apply Array.ext'
    simp only[Array.toList_map,ByteArray.data_extract,Array.toList_extract]
    simp
    rw[List.take_of_length_le (by simp)]
   ·show _=(b.data.toList.map fun b=>(b.toNat:Int)).length*1
    simp
   ·intro u hu
    obtain⟨c,_,rfl⟩:=List.mem_map.1 hu
    rfl
   ·show(b.data.toList.map fun c=>Value.int .u8 c.toNat)[i*1+0]?=some (.int .u8 x)
    have hi:(b.data.toList.map fun b=>(b.toNat:Int))[i]?=some x:=hi
    rw[List.getElem?_map]at hi⊢
    rw[Nat.mul_one,Nat.add_zero]
    cases hb:b.data.toList[i]? with
    |none=>rw[hb]at hi;cases hi
    |some c=>rw[hb]at hi;injection hi with hi;rw[←hi];rfl
  ·simp only[Prod.mk.injEq]at h;obtain⟨rfl,_⟩:=h;exact(ay hok).elim
 ·generalize hrd:bp st.get (.sl e) [x]=rd at h
  obtain⟨ok1,xs,rest⟩:=rd
  simp only at h
  have hA:ai st.get g [x] [v]:=by rw[ai];exact⟨_,_,rfl,hx,by rw[ai]⟩
  have runs: ∀{rw:Bool} {news:List Value},aS w rw e xs (Gof g [x] [v] 0)→v=Gof g [x] [v] 0 []→news.length=xs.length*e.size→(∀ad n c,Gof g [x] [v] 0 []= .slice (some ad) n c→ ∀k u,news[k]?=some u→w.cell? (ad.add k)=some u)→
    (Builtin.lenOf v).run P w= .ok xs.length w∧ ∀w2:World,(∀ad,w2.cell? ad=w.cell? ad)→(Builtin.firstCells e.size xs.length v).run P w2= .ok news.toArray w2:=by
   intro rw news hrow hv hl hc
   refine⟨?_,fun w2 h2=> ?_⟩
   ·obtain⟨aa,c,h3⟩:=mZ (t:=e) hrow
    rw[hv,h3];simp[Builtin.lenOf]
   ·refine oW hl ?_ (fun ad n c e k u hk=>by rw[h2];rw[hv]at e;exact hc ad n c e k u hk)
    rcases hrow with⟨h0,h1⟩|⟨ad,cap,h0,_⟩
    ·exact .inl ⟨by rw[hv,h0],by rw[h1];rfl⟩
    ·exact .inr ⟨ad,cap,by rw[hv,h0]⟩
  cases hfl:e.flat with
  |true=>
   rw[hfl]at h
   simp only[cond_true,Prod.mk.injEq]at h
   obtain⟨rfl,rfl,rfl⟩:=h
   have hrep:=kQ R.roots (cJ R.below) hA (.sl e) 0 ok1 xs rest hrd hok
   have hrep:Rep w false (.sl e) xs (Gof g [x] [v]) 0 (fun k=> [v][k]?):=by
    rcases hrep with⟨h,_⟩|⟨h,_⟩
    ·exact h
    ·simp[Ty.size]at h
   obtain⟨h4,h5⟩:=hrep
   have h4:v=Gof g [x] [v] 0 []:=by simpa using h4
   obtain⟨cells,hel,hcl⟩:=js h5
   obtain⟨r1,r2⟩:=runs h5 h4 hel.len hcl
   exact⟨⟨by simp,fun _=>rfl⟩,fun _ _ _=>Go.undef,cells,r1,r2,⟨hel.len,hel.one,fun i x hi=>zF e x _ _ 0 _ _ hfl (hel.rep i x hi) fun _ _ _=>rfl⟩,fun i x b _ hb=>(mG e x _ _ _ hfl hb).elim,fun i j x y b _ _ _ hb=>(mG e x _ _ _ hfl hb).elim,fun i x _=>Au e x _ _ hfl⟩
  |false=>
   rw[hfl]at h
   simp only[cond_false]at h
   generalize hgv:gives st.get (.sl e) [x]=gv at h
   obtain⟨ok2,l2,rest2⟩:=gv
   simp only[Prod.mk.injEq]at h
   obtain⟨rfl,rfl,rfl⟩:=h
   obtain⟨k1,k2⟩:=aq.1 hok
   obtain⟨q1,_,q3,q4,_⟩:=kM R.roots R.sep hA (.sl e) 0 ok1 ok2 xs l2 rest rest2 hrd hgv k1 k2
   obtain⟨h4,h5⟩:=q1
   have h4:v=Gof g [x] [v] 0 []:=by simpa using h4
   have hl1:l2.length≤1:=by
    unfold gives at hgv
    split at hgv
    ·simp only[Prod.mk.injEq]at hgv;obtain⟨_,rfl,_⟩:=hgv;simp
    ·split at hgv
     ·simp only[Prod.mk.injEq]at hgv;obtain⟨_,rfl,_⟩:=hgv;simp
     ·simp only[Prod.mk.injEq]at hgv;obtain⟨_,rfl,_⟩:=hgv;simp
    ·simp only[Prod.mk.injEq]at hgv;obtain⟨_,rfl,_⟩:=hgv;simp
   have hnd:l2.Nodup:=by
    match l2,hl1 with
    | [],_=>exact List.nodup_nil
    | [r],_=>simp
   have hsep:bD e xs (Gof g [x] [v] 0):=q4 hnd
   obtain⟨cells,hel,hcl⟩:=js h5
   obtain⟨r1,r2⟩:=runs h5 h4 hel.len hcl
   exact⟨⟨hl1,fun h=>by cases h⟩,_,cells,r1,r2,hel,fun i x b hi hb=>q3 b (.inr ⟨i,x,hi,hb⟩),fun i j x y b hij hi hj hb hb'=>hsep.2.1 i j x y b hij hi hj hb hb',fun i x hi=>hsep.2.2 i x hi⟩
end
end Go.Am
end
