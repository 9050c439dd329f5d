/- Arguments and results; states told anew; whatever the program. -/
import Derived.Test.YtloognjnfelgfaaDoorAmU
set_option linter.unusedSimpArgs false
set_option linter.unusedVariables false
set_option linter.unnecessarySimpa false
set_option linter.unusedSectionVars false
section
/- Soundness: the machine's steps as functions; what an operation's answer hangs on. -/
namespace Go.Am
noncomputable section
attribute [local instance] D.real
def okB(l:List Tst):Bool:=l.all Tst.val
theorem iJ{l:List Tst}:okB l=true↔aN l:=by simp[okB,aN]
theorem gE{R:Type}: ∀(l:List Tst) (x:Option R),chk l x=if okB l=true then x else none
 | [],_=>rfl
 | .s b::l,x=>by
  show(bif b then chk l x else none)=_
  cases b with
  |true=>rw[cond_true,gE l x];simp[okB,Tst.val]
  |false=>simp[okB,Tst.val]
 | .d b::l,x=>by
  show(if b=true then chk l x else none)=_
  cases b with
  |true=>rw[if_pos rfl,gE l x];simp[okB,Tst.val]
  |false=>simp[okB,Tst.val]
section
variable {P : Program} {cfg : Cfg} {env : Env P}
def gM(P:Program)(env:Env P):Prop:=
 (∀(R:Type) (f:Nat) (vs:List AV) (st:St) (K:List AV→St→Option R),env.inl f vs st K=(env.inl (R:=List AV×St) f vs st fun vs st=>some (vs,st)).bind fun p=>K p.1 p.2)∧
 ∀f n,∃b:Bool,∀(R:Type) (x:Option R),env.srt f n x=if b=true then x else none
theorem gP{α β:Type}(b:Prop) [Decidable b](x:Option α)(K:α→Option β):(if b then x else none).bind K=if b then x.bind K else none:=by
 split<;>rfl
def nr(o:Oper)(avs:List AV)(out:Out)(st:St):Touch:=⟨qt o avs,out.upd.map (·.1),out.quiet.map (·.1)++jk st out.upd,out.cut.isSome⟩
def qO(o:Oper)(out:Out)(st:St):St:=((st.aH out.upd).cut out.cut).put o.dst out.v
theorem gJ{R:Type}(o:Oper)(avs:List AV)(out:Out)(st:St)(K:Touch→St→Option R):
  yQ o avs out st K=if okB (.s (a8 st.rs out.quiet)::out.ok)=true then K (nr o avs out st) (qO o out st)else none:=by
 obtain⟨ok,v,upd,cut,quiet⟩:=out
 show chk (.s (a8 st.rs quiet)::ok) _=_
 rw[gE,St.force_eq];rfl
theorem Ft{R:Type}(env:Env P)(m3 m7:Bool)(f:Nat)(vs:List AV)(st:St)(K:List AV→St→Option R):
  ioK env m3 m7 f vs st K=(ioK (R:=List AV×St) env m3 m7 f vs st fun vs st=>some (vs,st)).bind fun p=>K p.1 p.2:=by
 unfold ioK
 simp only[cY]
 generalize jA _ st vs=s
 obtain⟨ok,stS⟩:=s
 simp only[gE,gP,St.force_eq,fp]
 split
 ·show Option.bind _ _=(Option.bind _ _).bind _
  rw[Option.bind_assoc]
  congr 1
 ·rfl
theorem D6{R:Type}(env:Env P)(f:Nat)(vs:List AV)(st:St)(base:Nat)(K:List AV→List (Nat×ak)→List Nat→List Nat→Option R):
  wK env f vs st base K=(wK (R:=List AV×List (Nat×ak)×List Nat×List Nat) env f vs st base fun a b c d=>some (a,b,c,d)).bind fun p=>K p.1 p.2.1 p.2.2.1 p.2.2.2:=by
 unfold wK
 simp only[cY]
 generalize jA _ st vs=s
 obtain⟨ok,stS⟩:=s
 simp only[gE,gP,St.force_eq,fp]
 split
 ·show Option.bind _ _=(Option.bind _ _).bind _
  rw[Option.bind_assoc]
  congr 1
 ·rfl
theorem EU{R:Type}(env:Env P)(f:Nat)(vs:List AV)(st:St)(base:Nat)(K:List AV→List (Nat×ak)→List Nat→List Nat→Option R):
  ioC env f vs st base K=(ioC (R:=List AV×List (Nat×ak)×List Nat×List Nat) env f vs st base fun a b c d=>some (a,b,c,d)).bind fun p=>K p.1 p.2.1 p.2.2.1 p.2.2.2:=by
 unfold ioC
 simp only[cY]
 generalize jA _ st vs=s
 obtain⟨ok,stS⟩:=s
 simp only[gE,gP,St.force_eq,fp]
 split
 ·show Option.bind _ _=(Option.bind _ _).bind _
  rw[Option.bind_assoc]
  congr 1
 ·rfl
theorem mw{R:Type}(m:Nat)(env:Env P)(f:Nat)(vs:List AV)(st:St)(base:Nat)(K:List AV→List (Nat×ak)→List Nat→List Nat→Option R):
  ioD m env f vs st base K=(ioD (R:=List AV×List (Nat×ak)×List Nat×List Nat) m env f vs st base fun a b c d=>some (a,b,c,d)).bind fun p=>K p.1 p.2.1 p.2.2.1 p.2.2.2:=by
 unfold ioD
 cases Nat.beq m 5 with
 |true=>exact EU env f vs st base K
 |false=>exact D6 env f vs st base K
theorem Bc{R:Type}(hE:gM P env)(f:Nat)(vs:List AV)(st:St)(K:List AV→St→Option R):
  xI env f vs st K=(xI (R:=List AV×St) env f vs st fun vs st=>some (vs,st)).bind fun p=>K p.1 p.2:=by
 unfold xI
 split
 ·split
  ·next t xs _=>
   obtain⟨b,hb⟩:=hE.2 f t.size
   rw[hb,hb]
   simp only[gE,St.force_eq,gP]
   show(if _ then(if _ then Option.bind _ _ else none)else none)=(if _ then(if _ then(Option.bind _ _).bind _ else none)else none)
   rw[Option.bind_assoc]
   rfl
  ·rfl
 ·rfl
theorem sF{R:Type}(hE:gM P env)(f:Nat)(vs:List AV)(st:St)(K:List AV→St→Option R):
  BR P cfg env f vs st K=(BR (R:=List AV×St) P cfg env f vs st fun vs st=>some (vs,st)).bind fun p=>K p.1 p.2:=by
 unfold BR
 cases Nat.beq (cfg.mode f) 8 with
 |true=>exact Bc hE f vs st K
 |false=>
 simp only[cond_false]
 cases bc st.get (cfg.mode f) vs with
 |true=>exact Ft env _ _ f vs st K
 |false=>exact hE.1 R f vs st K
theorem uj{R:Type}(env:Env P)(f:Nat)(vs:List AV)(st:St)(K:List AV→St→Option R):
  ioS env f vs st K=(ioS (R:=List AV×St) env f vs st fun vs st=>some (vs,st)).bind fun p=>K p.1 p.2:=by
 unfold ioS
 simp only[cY]
 generalize fT st.get (eH P f) (vs.flatMap AV.cells)=s
 obtain⟨ok,x,rest⟩:=s
 simp only[gE,gP]
 split
 ·show(env.ps f x).bind _=((env.ps f x).bind _).bind _
  rw[Option.bind_assoc]
  congr 1
 ·rfl
theorem wP{R:Type}(hE:gM P env)(base:Nat)(dr:Bool)(o:Oper)(st:St)(K:Touch→St→Option R):
  px P cfg env base dr o st K=(px (R:=Touch×St) P cfg env base dr o st fun t st=>some (t,st)).bind fun p=>K p.1 p.2:=by
 unfold px
 split
 ·next c _=>
  cases(gX P c).isSome with
  |true=>simp only[cond_true];rw[gJ,gJ,gP];rfl
  |false=>
  simp only[cond_false]
  unfold qW
  split
  ·rw[gJ,gJ,gP];rfl
  ·rfl
  ·split
   ·next f first cap _=>
    cases Nat.beq (cfg.mode f) 0 with
    |true=>
     simp only[cond_true]
     split
     ·generalize fT st.get (eH P f) _=rd
      obtain⟨ok,x,rest⟩:=rd
      simp only[gE,gP]
      split
      ·show(env.pc f x).bind _=((env.pc f x).bind _).bind _
       rw[Option.bind_assoc]
       congr 1
       funext r
       generalize eN P true (bE P f) r base=l
       obtain⟨vs,rs⟩:=l
       simp only[St.force_eq]
       rfl
      ·rfl
     ·rfl
    |false=>
     simp only[cond_false]
     cases Nat.beq (cfg.mode f) 6 with
     |true=>
      simp only[cond_true]
      cases dr with
      |true=>rfl
      |false=>
       simp only[cond_false]
       split
       ·rw[uj,uj (R:=Touch×St),Option.bind_assoc]
        congr 1
        funext p
        simp only[St.force_eq]
        rfl
       ·rfl
     |false=>
     simp only[cond_false]
     cases dr with
     |true=>
      simp only[cond_true]
      cases Nat.ble 4 (cfg.mode f)with
      |false=>rfl
      |true=>
       simp only[cond_true]
       rw[mw,mw (R:=Touch×St),Option.bind_assoc]
       congr 1
       funext p
       simp only[cY,St.force_eq]
       rfl
     |false=>
      simp only[cond_false]
      generalize qU P cfg f _ _=fa
      obtain⟨vs,rs⟩:=fa
      simp only
      rw[sF hE,sF (R:=Touch×St) hE,Option.bind_assoc]
      congr 1
      funext p
      simp only[St.force_eq]
      rfl
   ·rfl
 ·rw[gJ,gJ,gP];rfl
theorem mn{R:Type}(hE:gM P env)(base:Nat)(dr:Bool)(o:Oper)(st:St)(K:Touch→St→Option R):
  opK P cfg env base dr o st K=(opK (R:=Touch×St) P cfg env base dr o st fun t st=>some (t,st)).bind fun p=>K p.1 p.2:=by
 unfold opK
 cases dr with
 |true=>simp only[cond_true];exact wP hE base true o st K
 |false=>
  simp only[cond_false]
  split
  ·rw[gJ,gJ,gP];rfl
  ·exact wP hE base false o st K
theorem mT{R:Type}(base:Nat)(o:Oper)(st:St)(K:Touch→St→Option R):opK P cfg env base true o st K=px P cfg env base true o st K:=rfl
def jv(ops:Array Oper)(i:Nat)(o:Oper)(st:St):St:=
 match o.dst with
 |none=>st
 |some d=>match st.top.getD d .undef with
  | .bool b=>bif nk ops i then st.put (some d) (.kb b)else st
  |_=>st
theorem mL{R:Type}(ops:Array Oper)(i:Nat)(o:Oper)(st:St)(K:St→Option R):iT ops i o st K=K (jv ops i o st):=by
 unfold iT jv
 generalize o.dst=dd
 cases dd with
 |none=>rfl
 |some d=>
  simp only
  generalize st.top.getD d .undef=v
  cases v<;>try rfl
  next b=>
   simp only
   cases nk ops i with
   |false=>rfl
   |true=>
    simp only[cond_true]
    show(if b=true then _ else _)=_
    cases b<;>rfl
theorem jS{R:Type}(hE:gM P env)(b0:Option Nat)(ops:Array Oper)(i:Nat)(st:St)(K:Touch→St→Option R):
  jg P cfg env b0 ops i st K=(jg (R:=Touch×St) P cfg env b0 ops i st fun t st=>some (t,st)).bind fun p=>K p.1 p.2:=by
 have key: ∀o:Oper,(opK P cfg env (np b0 i st) b0.isSome o st fun t st=>iT ops i o st (K t))=
   (opK (R:=Touch×St) P cfg env (np b0 i st) b0.isSome o st fun t st=>iT ops i o st fun st=>some (t,st)).bind fun p=>K p.1 p.2:=by
  intro o
  have h1:=mn (cfg:=cfg) hE (np b0 i st) b0.isSome o st (fun t st=>iT ops i o st (K t))
  have h2:=mn (R:=Touch×St) (cfg:=cfg) hE (np b0 i st) b0.isSome o st (fun t st=>iT ops i o st fun st=>some (t,st))
  rw[h1,h2,Option.bind_assoc]
  congr 1
  funext p
  simp only[mL]
  rfl
 unfold jg
 generalize ops[i]?=oo
 cases oo with
 |none=>rfl
 |some o=>
  simp only
  generalize hg:o.guard=gg
  cases gg with
  |none=>exact key o
  |some jw=>
   obtain⟨j,want⟩:=jw
   simp only
   generalize(ops[j]?).bind (·.dst)=dd
   cases dd with
   |none=>rfl
   |some d=>
    simp only
    generalize st.top.getD d .undef=v
    cases v<;>try rfl
    case kb b=>
     simp only
     cases b==want with
     |true=>exact key o
     |false=>simp only[cond_false,St.force_eq];rfl
    case tup l=>simp only[St.force_eq];rfl
end
end
end Go.Am
end
section
/- Soundness: the state told anew: slots that are not read any more, roots numbered anew. -/
namespace Go.Am
attribute [local instance] D.real
section
variable {w0 : bu} {w : World} {st : St} {g : aB} {born : Nat → Prop} {a : Act} {asx acts : List Act}
theorem rk(live:List Nat): ∀(l:List AV) (k i:Nat),(jo live k l).getD i .undef=l.getD i .undef∨(jo live k l).getD i .undef= .undef
 | [],_,_=> .inl rfl
 |v::l,k,i=>by
  unfold jo
  cases i with
  |zero=>cases live.contains k<;>simp
  |succ i=>simpa using rk live l (k+1) i
theorem qA(live:List Nat): ∀(l:List AV) (k:Nat),(jo live k l).length=l.length
 | [],_=>rfl
 |v::l,k=>by unfold jo;simp[qA live l]
theorem oc(live:List Nat): ∀(l:List AV) (k r:Nat),r∈AV.ah (jo live k l)→r∈AV.ah l
 | [],_,_,h=>h
 |v::l,k,r,h=>by
  unfold jo at h
  simp only[AV.ah,List.mem_append]at h⊢
  rcases h with h|h
  ·cases hc:live.contains k with
   |true=>rw[hc]at h;exact .inl h
   |false=>rw[hc]at h;simp[AV.roots]at h
  ·exact .inr (oc live l _ r h)
theorem zW(R:Rel w0 st g born acts w)(live:List Nat):Rel w0 (st.dh live) g born acts w:=by
 obtain⟨fr,rs⟩:=st
 cases fr with
 |nil=>exact R
 |cons f fs=>
  obtain⟨a,asx,e,h1,h2⟩:=R.frames
  refine⟨R.below,R.roots,R.sep,R.low,⟨a,asx,e,⟨by rw[qA];exact h1.size,fun i=> ?_,h1.defers⟩,h2⟩,fun f' hf' r hr=> ?_,R.bornR,R.alive,R.marks⟩
  ·rcases rk live f 0 i with h|h
   ·rw[h];exact h1.slot i
   ·rw[h];simp[ae]
  ·rcases List.mem_cons.1 hf' with rfl|hf'
   ·exact R.bornF f List.mem_cons_self r (oc live f 0 r hr)
   ·exact R.bornF f' (List.mem_cons_of_mem _ hf') r hr
theorem kI: ∀(l:List Nat) (k r i:Nat),idx l k r=some i→k≤i∧l[i-k]?=some r
 | [],_,_,_,h=>by cases h
 |x::l,k,r,i,h=>by
  unfold idx at h
  cases hb:Nat.beq x r with
  |true=>
   rw[hb]at h
   simp only[cond_true,Option.some.injEq]at h
   subst h
   exact⟨Nat.le_refl _,by rw[Nat.sub_self,List.getElem?_cons_zero,cX hb]⟩
  |false=>
   rw[hb]at h
   obtain⟨h1,h2⟩:=kI l (k+1) r i h
   refine⟨by omega,?_⟩
   have:i-k=(i-(k+1))+1:=by omega
   rw[this,List.getElem?_cons_succ];exact h2
mutual
theorem wS{get get':Get}{g g':aB}{π:Nat→Option Nat}(hπ: ∀r i,π r=some i→(∀t,bI (get' i)=some t→bI (get r)=some t)∧(isVar (get' i)=true→isVar (get r)=true)∧g' i=g r):
  ∀(av:AV) (v:Value),ae get g av v→ae get' g' (av.ren π) v
 | .undef,_,_=>by rw[AV.ren];simp[ae]
 | .int _ _,_,h=>by rw[ae]at h;rw[AV.ren,ae];exact h
 | .bool _,_,h=>by rw[ae]at h;rw[AV.ren,ae];exact h
 | .kb _,_,h=>by rw[ae]at h;rw[AV.ren,ae];exact h
 | .ki _ _,_,h=>by rw[ae]at h;rw[AV.ren,ae];exact h
 | .nb _,_,h=>by rw[ae]at h;rw[AV.ren,ae];exact h
 | .str _,_,h=>by rw[ae]at h;rw[AV.ren,ae];exact h
 | .nilS,_,h=>by rw[ae]at h;rw[AV.ren,ae];exact h
 | .sl r p sub,v,h=>by
  rw[ae]at h
  rw[AV.ren]
  cases hp:π r with
  |none=>simp[ae]
  |some i=>
   obtain⟨h1,_,h3⟩:=hπ r i hp
   simp only
   rw[ae]
   exact⟨h.1,fun t e ht he=>by rw[h3];exact h.2 t e (h1 t ht) he⟩
 | .lit r n,v,h=>by
  rw[ae]at h
  rw[AV.ren]
  cases hp:π r with
  |none=>simp[ae]
  |some i=>
   obtain⟨_,h2,h3⟩:=hπ r i hp
   simp only
   rw[ae]
   exact⟨h.1,fun hv=>by rw[h3];exact h.2 (h2 hv)⟩
 | .pv r c,v,h=>by
  rw[ae]at h
  rw[AV.ren]
  cases hp:π r with
  |none=>simp[ae]
  |some i=>
   obtain⟨_,h2,h3⟩:=hπ r i hp
   simp only
   rw[ae]
   exact⟨h.1,fun hv=>by rw[h3];exact h.2 (h2 hv)⟩
 | .pe r p i f,v,h=>by
  rw[ae]at h
  rw[AV.ren]
  cases hp:π r with
  |none=>simp[ae]
  |some k=>
   obtain⟨h1,_,h3⟩:=hπ r k hp
   simp only
   rw[ae]
   exact⟨h.1,fun t e ht he=>by rw[h3];exact h.2 t e (h1 t ht) he⟩
 | .fn f a b,v,h=>by
  rw[ae]at h
  rw[AV.ren,ae]
  obtain⟨vs,ws,rfl,h1,h2⟩:=h
  exact⟨vs,ws,rfl,jD hπ a _ h1,jD hπ b _ h2⟩
 | .agg cs,v,h=>by
  rw[ae]at h
  rw[AV.ren,ae]
  obtain⟨vs,rfl,h1,h2⟩:=h
  exact⟨vs,rfl,h1,jD hπ cs _ h2⟩
 | .tup cs,v,h=>by
  rw[ae]at h
  rw[AV.ren,ae]
  obtain⟨vs,rfl,h2⟩:=h
  exact⟨vs,rfl,jD hπ cs _ h2⟩
theorem jD{get get':Get}{g g':aB}{π:Nat→Option Nat}(hπ: ∀r i,π r=some i→(∀t,bI (get' i)=some t→bI (get r)=some t)∧(isVar (get' i)=true→isVar (get r)=true)∧g' i=g r):
  ∀(vs:List AV) (l:List Value),ai get g vs l→ai get' g' (AV.mu π vs) l
 | [],_,h=>by rw[ai]at h;rw[AV.mu,ai];exact h
 |v::vs,l,h=>by
  rw[ai]at h
  rw[AV.mu,ai]
  obtain⟨x,xs,rfl,h0,h⟩:=h
  exact⟨x,xs,rfl,wS hπ v x h0,jD hπ vs xs h⟩
end
mutual
theorem De{π:Nat→Option Nat}: ∀(av:AV) (i:Nat),i∈(av.ren π).roots→ ∃r,π r=some i
 | .undef,i,h=>by rw[AV.ren]at h;simp[AV.roots]at h
 | .int _ _,i,h=>by rw[AV.ren]at h;simp[AV.roots]at h
 | .bool _,i,h=>by rw[AV.ren]at h;simp[AV.roots]at h
 | .kb _,i,h=>by rw[AV.ren]at h;simp[AV.roots]at h
 | .ki _ _,i,h=>by rw[AV.ren]at h;simp[AV.roots]at h
 | .nb _,i,h=>by rw[AV.ren]at h;simp[AV.roots]at h
 | .str _,i,h=>by rw[AV.ren]at h;simp[AV.roots]at h
 | .nilS,i,h=>by rw[AV.ren]at h;simp[AV.roots]at h
 | .sl r p sub,i,h=>by
  rw[AV.ren]at h
  cases hp:π r with
  |none=>rw[hp]at h;simp[AV.roots]at h
  |some k=>rw[hp]at h;simp only[AV.roots,List.mem_singleton]at h;exact⟨r,by rw[hp,h]⟩
 | .pv r c,i,h=>by
  rw[AV.ren]at h
  cases hp:π r with
  |none=>rw[hp]at h;simp[AV.roots]at h
  |some k=>rw[hp]at h;simp only[AV.roots,List.mem_singleton]at h;exact⟨r,by rw[hp,h]⟩
 | .lit r n,i,h=>by
  rw[AV.ren]at h
  cases hp:π r with
  |none=>rw[hp]at h;simp[AV.roots]at h
  |some k=>rw[hp]at h;simp only[AV.roots,List.mem_singleton]at h;exact⟨r,by rw[hp,h]⟩
 | .pe r p j f,i,h=>by
  rw[AV.ren]at h
  cases hp:π r with
  |none=>rw[hp]at h;simp[AV.roots]at h
  |some k=>rw[hp]at h;simp only[AV.roots,List.mem_singleton]at h;exact⟨r,by rw[hp,h]⟩
 | .fn f a b,i,h=>by
  rw[AV.ren]at h
  simp only[AV.roots,List.mem_append]at h
  exact h.elim (iW a i) (iW b i)
 | .agg cs,i,h=>by rw[AV.ren]at h;exact iW cs i (by simpa[AV.roots]using h)
 | .tup cs,i,h=>by rw[AV.ren]at h;exact iW cs i (by simpa[AV.roots]using h)
theorem iW{π:Nat→Option Nat}: ∀(vs:List AV) (i:Nat),i∈AV.ah (AV.mu π vs)→ ∃r,π r=some i
 | [],i,h=>by rw[AV.mu]at h;simp[AV.ah]at h
 |v::vs,i,h=>by
  rw[AV.mu]at h
  simp only[AV.ah,List.mem_append]at h
  exact h.elim (De v i) (iW vs i)
end
theorem xg{π:Nat→Option Nat}: ∀(vs:List AV) (i:Nat),(AV.mu π vs).getD i .undef=(vs.getD i .undef).ren π
 | [],i=>by rw[AV.mu];simp;rw[AV.ren]
 |v::vs,i=>by
  rw[AV.mu]
  cases i with
  |zero=>simp
  |succ i=>simpa using xg vs i
theorem Ah{π:Nat→Option Nat}: ∀(vs:List AV),(AV.mu π vs).length=vs.length
 | []=>by rw[AV.mu]
 |v::vs=>by rw[AV.mu];simp[Ah vs]
theorem vT{get get':Get}{g g':aB}{π:Nat→Option Nat}(hπ: ∀r i,π r=some i→(∀t,bI (get' i)=some t→bI (get r)=some t)∧(isVar (get' i)=true→isVar (get r)=true)∧g' i=g r):
  ∀{fr:List (List AV)} {acts:List Act},eu get g fr acts→eu get' g' (fr.map (AV.mu π)) acts
 | [],_,h=>h
 |f::fs,_,⟨a,asx,e,h1,h2⟩=>⟨a,asx,e,⟨by rw[Ah];exact h1.size,fun i=>by rw[xg];exact wS hπ _ _ (h1.slot i),h1.defers⟩,vT hπ h2⟩
theorem ot{π:Nat→Option Nat}{r:Nat}{p:Path}{t:Ty}{xs:List (den t)}(h:π r=none):(ak.pend r p t xs).ren π= .dead:=by
 simp only[ak.ren,h]
theorem oz{π:Nat→Option Nat}{r k:Nat}{p:Path}{t:Ty}{xs:List (den t)}(h:π r=some k):(ak.pend r p t xs).ren π= .pend k p t xs:=by
 simp only[ak.ren,h]
theorem xA{l:List Nat}(h:l.Nodup){i j:Nat}{hi:i<l.length}{hj:j<l.length}(e:l[i]=l[j]):i=j:=by
 have hp:=List.pairwise_iff_getElem.1 h
 rcases Nat.lt_trichotomy i j with h1|h1|h1
 ·exact absurd e (hp i j hi hj h1)
 ·exact h1
 ·exact absurd e.symm (hp j i hj hi h1)
theorem C4(R:Rel w0 st g born acts w)(ord:List Nat)(hnd:ord.Nodup): ∃g',Rel w0 (st.uo ord) g' (fun i=>i<ord.length) acts w:=by
 refine⟨fun i=>g (ord.getD i 0),?_⟩
 have hget: ∀i,(st.uo ord).get i=if h:i<ord.length then(st.get ord[i]).ren (idx ord 0)else .dead:=by
  intro i
  show(ord.map fun r=>(st.rs.getD r .dead).ren (idx ord 0)).getD i .dead=_
  rw[List.getD_eq_getElem?_getD,List.getElem?_map]
  split
  ·next h=>rw[List.getElem?_eq_getElem h];rfl
  ·next h=>rw[List.getElem?_eq_none (by omega)];rfl
 have hgd: ∀i (h:i<ord.length),ord.getD i 0=ord[i]:=fun i h=>by rw[List.getD_eq_getElem?_getD,List.getElem?_eq_getElem h];rfl
 have hidx: ∀r i,idx ord 0 r=some i→ ∃h:i<ord.length,ord[i]=r:=by
  intro r i h
  have h2:=(kI ord 0 r i h).2
  rw[Nat.sub_zero]at h2
  obtain⟨h3,h4⟩:=List.getElem?_eq_some_iff.1 h2
  exact⟨h3,h4⟩
 have hπ: ∀r i,idx ord 0 r=some i→(∀t,bI ((st.uo ord).get i)=some t→bI (st.get r)=some t)∧(isVar ((st.uo ord).get i)=true→isVar (st.get r)=true)∧(fun i=>g (ord.getD i 0)) i=g r:=by
  intro r i h
  obtain⟨h1,h2⟩:=hidx r i h
  have e:=hget i
  rw[dif_pos h1,h2]at e
  rw[e]
  refine⟨fun t ht=> ?_,fun hv=> ?_,by show g (ord.getD i 0)=g r;rw[hgd i h1,h2]⟩
  ·generalize st.get r=x at ht⊢
   cases x with
   |pend r' p t' xs=>
    cases hp:idx ord 0 r' with
    |none=>rw[ot hp]at ht;simp[bI]at ht
    |some k=>rw[oz hp]at ht;exact ht
   |_=>exact ht
  ·generalize st.get r=x at hv⊢
   cases x with
   |pend r' p t' xs=>
    cases hp:idx ord 0 r' with
    |none=>rw[ot hp]at hv;simp[isVar]at hv
    |some k=>rw[oz hp]at hv;simp[isVar]at hv
   |var cs=>rfl
   |dead=>simp[ak.ren,isVar]at hv
   |row rw t xs=>simp[ak.ren,isVar]at hv
   |half t xs=>simp[ak.ren,isVar]at hv
   |sh t xs=>simp[ak.ren,isVar]at hv
 have hrow: ∀r i rw t xs,idx ord 0 r=some i→st.get r= .row rw t xs→(st.uo ord).get i= .row rw t xs:=by
  intro r i rw t xs h e
  obtain⟨h1,h2⟩:=hidx r i h
  rw[hget,dif_pos h1,h2,e];rfl
 have hown: ∀i b,Own (st.uo ord).get (fun i=>g (ord.getD i 0)) i b→ ∃h:i<ord.length,Own st.get g ord[i] b:=by
  intro i b h
  have hlt:i<ord.length:=by
   rcases Nat.lt_or_ge i ord.length with h'|h'
   ·exact h'
   ·unfold Own at h;rw[hget,dif_neg (by omega)]at h;exact h.elim
  refine⟨hlt,?_⟩
  unfold Own at h⊢
  rw[hget,dif_pos hlt]at h
  generalize hx:st.get ord[i]=x at h⊢
  cases x with
  |dead=>exact h
  |var cs=>simp only[ak.ren,hgd i hlt]at h;exact h
  |row rw t xs=>cases rw<;>simp only[ak.ren,hgd i hlt]at h<;>exact h
  |half t xs=>simp only[ak.ren,hgd i hlt]at h;exact h
  |sh t xs=>simp only[ak.ren,hgd i hlt]at h;exact h
  |pend r' p t xs=>
   cases hp:idx ord 0 r' with
   |none=>rw[ot hp]at h;exact h.elim
   |some k=>
    rw[oz hp]at h
    obtain⟨k1,k2⟩:=hidx r' k hp
    simp only[hgd i hlt,mh,hgd k k1,k2]at h
    exact h
 refine⟨R.below,fun i=> ?_,fun i j b hij h h'=> ?_,fun i b h=> ?_,vT hπ R.frames,fun f hf r hr=> ?_,fun i x hx=> ?_,fun i h=> ?_,R.marks⟩
 ·by_cases hlt:i<ord.length
  ·have hgi:=hget i
   rw[dif_pos hlt]at hgi
   have h:=R.roots ord[i]
   unfold aF at h⊢
   rw[hgi]
   generalize hx:st.get ord[i]=x at h⊢
   cases x with
   |dead=>trivial
   |var cs=>
    obtain⟨arr,te,h1,h2,h3⟩:=h
    exact⟨arr,te,by simp only[hgd i hlt];exact h1,h2,jD hπ _ _ h3⟩
   |row rw t xs=>cases rw<;>simp only[ak.ren,hgd i hlt]<;>exact h
   |half t xs=>simp only[ak.ren,hgd i hlt];exact h
   |sh t xs=>simp only[ak.ren,hgd i hlt];exact h
   |pend r' p t xs=>
    cases hp:idx ord 0 r' with
    |none=>rw[ot hp];trivial
    |some k=>
     rw[oz hp]
     obtain⟨h1,h2,t',xs',h3,h4,h5⟩:=h
     obtain⟨k1,k2⟩:=hidx r' k hp
     simp only[hgd i hlt]
     refine⟨h1,h2,t',xs',hrow r' k true t' xs' hp h3,h4,fun b hb=> ?_⟩
     unfold mh at hb
     simp only[hgd k k1,k2]at hb⊢
     exact h5 b hb
  ·have hgi:=hget i
   rw[dif_neg hlt]at hgi
   unfold aF;rw[hgi];trivial
 ·obtain⟨h1,h2⟩:=hown i b h
  obtain⟨h3,h4⟩:=hown j b h'
  exact R.sep _ _ b (fun e=>hij (xA hnd e)) h2 h4
 ·obtain⟨h1,h2⟩:=hown i b h
  exact R.low _ b h2
 ·obtain⟨f0,hf0,rfl⟩:=List.mem_map.1 hf
  obtain⟨r',hr'⟩:=iW f0 r hr
  exact(hidx r' r hr').1
 ·rw[hget]at hx
  split at hx
  ·next hlt=>
   generalize st.get ord[i]=y at hx
   cases y with
   |dead=>simp[ak.ren,ak.roots]at hx
   |var cs=>
    obtain⟨r',hr'⟩:=iW cs x hx
    exact(hidx r' x hr').1
   |row rw t xs=>simp[ak.ren,ak.roots]at hx
   |half t xs=>simp[ak.ren,ak.roots]at hx
   |sh t xs=>simp[ak.ren,ak.roots]at hx
   |pend r' p t xs=>
    cases hp:idx ord 0 r' with
    |none=>rw[ot hp]at hx;simp[ak.roots]at hx
    |some k=>
     rw[oz hp]at hx
     simp only[ak.roots,List.mem_singleton]at hx
     subst hx
     exact(hidx r' x hp).1
  ·simp[ak.roots]at hx
 ·rcases Nat.lt_or_ge i ord.length with h'|h'
  ·exact h'
  ·exact absurd (by rw[hget,dif_neg (by omega)]) h
theorem Dg(R:Rel w0 st g born acts w)(hb: ∀r,born r→r<st.rs.length)(live:List Nat): ∃g' born',Rel w0 (st.canon live) g' born' acts w∧ ∀r,born' r→r<(st.canon live).rs.length:=by
 have R1:=zW R live
 have hlen:(st.dh live).rs=st.rs:=by unfold St.dh;split<;>rfl
 unfold St.canon
 simp only
 generalize((reach (st.dh live).rs 4 (iv [] ((st.dh live).fr.flatMap AV.ah))).filter (alive (st.dh live).rs))=ord
 cases hd:decide ord.Nodup with
 |true=>
  simp only[cond_true]
  obtain⟨g',R2⟩:=C4 R1 ord (of_decide_eq_true hd)
  refine⟨g',_,R2,fun r hr=> ?_⟩
  show r<(ord.map _).length
  rw[List.length_map];exact hr
 |false=>
  simp only[cond_false]
  exact⟨g,born,R1,fun r hr=>by rw[hlen];exact hb r hr⟩
end
end Go.Am
end
section
/- Soundness: arguments and results. -/
namespace Go.Am
noncomputable section
attribute [local instance] D.real
def bh(us:List Value):List Value:=us.flatMap fun u=>u.cells.toList
def Fit(P:Program)(t:TypeId)(u:Value):Prop:=
 if kj P t=true then∃cs,u= .agg cs∧cs.size=(tyD P t).size∧ ∀c∈cs.toList,c.oneCell'=true else u.oneCell'=true∧(tyD P t).size=1
def yu(P:Program):List TypeId→List Value→Prop
 | [],l=>l= []
 |t::ts,l=> ∃u us,l=u::us∧Fit P t u∧yu P ts us
def dw(P:Program)(ts:List TypeId):Ty:=Ty.all (ts.map (tyD P))
def fN(P:Program)(W:World)(ts:List TypeId)(us:List Value)(x:den (dw P ts)):Prop:=
 yu P ts us∧ ∃G,Rep W false (dw P ts) x G 0 (fun k=>(bh us)[k]?)
def mR:List Value→Value
 | [u]=>u
 |us=> .tuple us.toArray
def jy(P:Program)(B:Nat)(w:World)(ts:List TypeId)(us:List Value)(y:den (dw P ts)):Prop:=
 yu P ts us∧ ∃G,Rep w true (dw P ts) y G 0 (fun k=>(bh us)[k]?)∧Sep (dw P ts) y G 0∧ ∀b,Blk (dw P ts) y G 0 b→B≤b
def Valid(P:Program)(f:Nat)(x:den (eH P f))(y:den (resTy P f)):Prop:=
 (∃fn,P.funcs[f]?=some fn∧fn.body.isSome=true)∧
 ∀(W:World) (args:Array Value),fN P W (dV P f) args.toList x→
  Calls P f args W fun e w'=> ∃us,e= .returned (mR us)∧RowKit.Below W.heap.size W w'∧jy P W.heap.size w' (bE P f) us y
section
variable {P : Program} {w0 : bu} {w w' : World} {st st' : St} {g g' : aB} {born : Nat → Prop} {a : Act} {asx acts : List Act} {o : Oper} {base : Nat}
theorem oR{t:TypeId}{u:Value}(h:Fit P t u):u.cells.size=(tyD P t).size∧ ∀c∈u.cells.toList,c.oneCell'=true:=by
 unfold Fit at h
 split at h
 ·obtain⟨cs,rfl,h1,h2⟩:=h
  exact⟨h1,h2⟩
 ·rw[hU h.1]
  exact⟨by rw[h.2];rfl,by simpa using h.1⟩
theorem fC(u:Value)(us:List Value):bh (u::us)=u.cells.toList++bh us:=rfl
theorem iQ(rw:Bool): ∀(ts:List TypeId) (d:den (dw P ts)) (us vals:List Value) (st:St) (g:aB) (born:Nat→Prop) (base f:Nat) (G:Nat→Path→Value) (vs:List AV) (rs:List ak),
  Rel w0 st g born acts w→yu P ts us→(∀k,k<(bh us).length→vals[f+k]?=(bh us)[k]?)→Rep (bif rw then w else w0.w) rw (dw P ts) d G f (fun k=>vals[k]?)→(rw=true→Sep (dw P ts) d G f)→
  (rw=true→ ∀b,Blk (dw P ts) d G f b→ ¬w0.dh b∧ ∀r,¬Own st.get g r b)→eN P rw ts d base=(vs,rs)→(∀i,base≤i→i<base+rs.length→ ¬born i)→
  ∃g' born',Rel w0 (st.aH (aj base rs)) g' born' acts w∧Laid st (st.aH (aj base rs)) g g' born born' base (base+rs.length)∧
   ai (st.aH (aj base rs)).get g' vs us∧(∀r∈AV.ah vs,base≤r∧r<base+rs.length)∧ ∀r b,Own (st.aH (aj base rs)).get g' r b→Own st.get g r b∨(rw=true∧Blk (dw P ts) d G f b):=by
 have one: ∀(t:TypeId) (d:den (tyD P t)) (u:Value) (vals:List Value) (st:St) (g:aB) (born:Nat→Prop) (base f:Nat) (G:Nat→Path→Value) (vs:List AV) (rs:List ak),
   Rel w0 st g born acts w→Fit P t u→(∀k,k<u.cells.size→vals[f+k]?=u.cells[k]?)→Rep (bif rw then w else w0.w) rw (tyD P t) d G f (fun k=>vals[k]?)→(rw=true→Sep (tyD P t) d G f)→
   (rw=true→ ∀b,Blk (tyD P t) d G f b→ ¬w0.dh b∧ ∀r,¬Own st.get g r b)→nh rw (tyD P t) d base=(vs,rs)→(∀i,base≤i→i<base+rs.length→ ¬born i)→
   ∃g' born',Rel w0 (st.aH (aj base rs)) g' born' acts w∧Laid st (st.aH (aj base rs)) g g' born born' base (base+rs.length)∧
    ae (st.aH (aj base rs)).get g' (mkV (kj P t) vs) u∧(∀r∈(mkV (kj P t) vs).roots,base≤r∧r<base+rs.length)∧ ∀r b,Own (st.aH (aj base rs)).get g' r b→Own st.get g r b∨(rw=true∧Blk (tyD P t) d G f b):=by
  intro t d u vals st g born base f G vs rs R hfit hv hrep hsep hblk hl hfr
  obtain⟨g',b',R',L,n,V,ro,ow⟩:=AB (w:=w) rw (tyD P t) d st g born base f vals G vs rs R hrep hsep hblk hl hfr
  obtain⟨hc1,hc2⟩:=oR hfit
  refine⟨g',b',R',L,?_,?_,ow⟩
  ·unfold Fit at hfit
   cases hagg:kj P t with
   |true=>
    rw[if_pos hagg]at hfit
    obtain⟨cs,rfl,h1,h2⟩:=hfit
    show ae _ _ (.agg vs) _
    rw[ae]
    refine⟨cs,rfl,h2,?_⟩
    have: ∀(vs:List AV) (l:List Value),vs.length=l.length→(∀k,k<vs.length→ ∃x,l[k]?=some x∧ae (st.aH (aj base rs)).get g' (vs.getD k .undef) x)→ai (st.aH (aj base rs)).get g' vs l:=by
     intro vs
     induction vs with
     |nil=>intro l hl _;rw[ai];cases l with
      |nil=>rfl
      |cons=>simp at hl
     |cons v vs ih=>
      intro l hl h
      cases l with
      |nil=>simp at hl
      |cons x l=>
       rw[ai]
       obtain⟨x',hx',hv⟩:=h 0 (by simp)
       simp only[List.getElem?_cons_zero,Option.some.injEq]at hx'
       subst hx'
       exact⟨x,l,rfl,by simpa using hv,ih l (by simpa using hl) fun k hk=>by simpa using h (k+1) (by simpa using hk)⟩
    refine this vs cs.toList (by simp;omega) fun k hk=> ?_
    obtain⟨x,hx,hvx,_⟩:=V k (by omega)
    have:=hv k (by show k<cs.size;omega)
    rw[this]at hx
    exact⟨x,by simpa[Value.cells]using hx,hvx⟩
   |false=>
    rw[if_neg (by rw[hagg];simp)]at hfit
    obtain⟨x,hx,hvx,_⟩:=V 0 (by omega)
    have:=hv 0 (by omega)
    rw[this]at hx
    rw[hU hfit.1]at hx
    simp only[List.getElem?_toArray,List.getElem?_cons_zero,Option.some.injEq]at hx
    subst hx
    have:(mkV false vs)=vs.getD 0 .undef:=by cases vs<;>rfl
    rw[this];exact hvx
  ·intro r hr
   refine ro r ?_
   cases hagg:kj P t with
   |true=>rw[hagg]at hr;simpa[mkV,AV.roots]using hr
   |false=>
    rw[hagg]at hr
    have:(mkV false vs)=vs.getD 0 .undef:=by cases vs<;>rfl
    rw[this]at hr
    exact gQ hr
 intro ts
 induction ts with
 |nil=>
  intro d us vals st g born base f G vs rs R hfit _ _ _ _ hl _
  simp only[eN,Prod.mk.injEq]at hl
  obtain⟨rfl,rfl⟩:=hl
  exact⟨g,born,R,Laid.refl _ _ _ _,by rw[ai];exact hfit,fun r h=>by simp[AV.ah]at h,fun r b h=> .inl h⟩
 |cons t ts ih=>
  intro d us vals st g born base f G vs rs R hfit hv hrep hsep hblk hl hfr
  obtain⟨u,us',rfl,hf1,hf2⟩:=hfit
  obtain⟨hc1,hc2⟩:=oR hf1
  cases ts with
  |nil=>
   have hus:us'= []:=hf2
   subst hus
   have hl:(match nh rw (tyD P t) d base with
    |(vs,rs)=>([mkV (kj P t) vs],rs))=(vs,rs):=hl
   generalize hld:nh rw (tyD P t) d base=ld at hl
   obtain⟨vs1,rs1⟩:=ld
   simp only[Prod.mk.injEq]at hl
   obtain⟨rfl,rfl⟩:=hl
   obtain⟨g',b',R',L,A,B,O⟩:=one t d u vals st g born base f G vs1 rs1 R hf1 (fun k hk=>by
    have:=hv k (by simp[bh];exact hk)
    rw[this];simp[bh]) hrep hsep hblk hld hfr
   refine⟨g',b',R',L,by rw[ai];exact⟨u,[],rfl,A,by rw[ai]⟩,fun r hr=>B r ?_,O⟩
   simpa[AV.ah]using hr
  |cons t2 ts=>
   have hl:(match nh rw (tyD P t) d.1 base with
    |(vs,rs)=>match eN P rw (t2::ts) d.2 (base+rs.length)with
     |(ws,rs')=>(mkV (kj P t) vs::ws,rs++rs'))=(vs,rs):=hl
   generalize hld:nh rw (tyD P t) d.1 base=ld at hl
   obtain⟨vs1,rs1⟩:=ld
   simp only at hl
   generalize hla:eN P rw (t2::ts) d.2 (base+rs1.length)=la at hl
   obtain⟨vs2,rs2⟩:=la
   simp only[Prod.mk.injEq]at hl
   obtain⟨rfl,rfl⟩:=hl
   obtain⟨g1,b1,R1,L1,A1,B1,O1⟩:=one t d.1 u vals st g born base f G vs1 rs1 R hf1 (fun k hk=>by
     have:=hv k (by rw[fC,List.length_append];simp;omega)
     rw[this,fC,List.getElem?_append_left (by simpa using hk)];simp) hrep.1 (fun h=>(hsep h).1) (fun h bl hb=>hblk h bl (.inl hb)) hld (fun i h1 h2=>hfr i h1 (by simp;omega))
   obtain⟨g2,b2,R2,L2,A2,B2,O2⟩:=ih d.2 us' vals _ g1 b1 (base+rs1.length) (f+(tyD P t).size) G vs2 rs2 R1 hf2 (fun k hk=>by
     have:=hv ((tyD P t).size+k) (by rw[fC,List.length_append];simp;omega)
     rw[Nat.add_assoc,this,fC,List.getElem?_append_right (by simp;omega)]
     congr 1;simp;omega) hrep.2 (fun h=>(hsep h).2.1)
    (fun h bl hb=>⟨(hblk h bl (.inr hb)).1,fun r ho=>(O1 r bl ho).elim ((hblk h bl (.inr hb)).2 r) fun ho=>(hsep h).2.2 bl ho.2 hb⟩) hla
    (fun i h1 h2 hbi=>((L1.born_iff i).1 hbi).elim (hfr i (by omega) (by simp;omega)) fun h=>by omega)
   have hset:st.aH (aj base (rs1++rs2))=(st.aH (aj base rs1)).aH (aj (base+rs1.length) rs2):=by
    rw[ig,iH]
   rw[hset]
   refine⟨g2,b2,R2,?_,?_,fun r hr=> ?_,fun r bl h=> ?_⟩
   ·have:=Laid.trans (by omega) (by omega) L1 L2
    rw[List.length_append,←Nat.add_assoc];exact this
   ·rw[ai]
    exact⟨u,us',rfl,gO _ _ (fun r hr=>L2.holds ((L1.born_iff r).2 (.inr (B1 r hr)))) A1,A2⟩
   ·simp only[AV.ah,List.mem_append]at hr
    rw[List.length_append]
    rcases hr with hr|hr
    ·have:=B1 r hr;omega
    ·have:=B2 r hr;omega
   ·rcases O2 r bl h with h|⟨h,h'⟩
    ·rcases O1 r bl h with h|⟨h,h'⟩
     ·exact .inl h
     ·exact .inr ⟨h,.inl h'⟩
    ·exact .inr ⟨h,.inr h'⟩
theorem iU{get:Get}: ∀(ts:List TypeId) (vs:List AV) (us:List Value),fitAll P ts vs=true→ai get g vs us→
  yu P ts us∧ai get g (vs.flatMap AV.cells) (bh us)∧ ∀r∈AV.ah (vs.flatMap AV.cells),r∈AV.ah vs
 | [],[],us,_,h=>by
  rw[ai]at h
  subst h
  exact⟨rfl,by simp[bh,ai],fun r h=>by simp[AV.ah]at h⟩
 | [],v::vs,us,h,_=>by simp[fitAll]at h
 |t::ts,[],us,h,_=>by simp[fitAll]at h
 |t::ts,v::vs,us,h,hA=>by
  simp only[fitAll,Bool.and_eq_true]at h
  rw[ai]at hA
  obtain⟨u,us',rfl,hv,hA⟩:=hA
  obtain⟨h1,h2,h3⟩:=iU ts vs us' h.2 hA
  have hsol:v.kC=true:=by
   have:=h.1
   cases v<;>first|rfl|simp[DE]at this
  obtain⟨c1,c2,c3⟩:=jd hv hsol
  refine⟨⟨u,us',rfl,?_,h1⟩,?_,fun r hr=> ?_⟩
  ·have hf:=h.1
   unfold Fit
   cases v with
   |undef=>simp[DE]at hf
   |tup l=>simp[DE]at hf
   |agg cs=>
    simp only[DE,Bool.and_eq_true]at hf
    rw[if_pos hf.1]
    rw[ae]at hv
    obtain⟨xs,rfl,k1,k2⟩:=hv
    exact⟨xs,rfl,by have:=cW k2;have:=cX hf.2;simp at*;omega,k1⟩
   |_=>
    simp only[DE,Bool.and_eq_true,Bool.not_eq_true']at hf
    rw[if_neg (by rw[hf.1];simp)]
    refine⟨?_,cX hf.2⟩
    rw[ae]at hv
    first
     |(rw[hv];rfl)
     |(obtain⟨_,e,_⟩:=hv;rw[e];rfl)
     |(obtain⟨⟨_,_,_,e⟩,_⟩:=hv;rw[e];rfl)
     |(obtain⟨⟨_,e⟩,_⟩:=hv;rw[e];rfl)
     |(obtain⟨_,_,e,_⟩:=hv;rw[e];rfl)
  ·rw[List.flatMap_cons,fC]
   exact cK c1 h2
  ·rw[List.flatMap_cons]at hr
   simp only[AV.ah,List.mem_append]
   rcases eW hr with hr|hr
   ·exact .inl (c3 r hr)
   ·exact .inr (h3 r hr)
theorem BF(R:Rel w0 st g born (a::asx) w)(rv:ResultVar)(hok:aN (nW P st rv).1):
  ∃u,(match rv with
   | .tmp t=>pure (a.tmps.getD t Go.undef)
   | .cell x t=>do loadVar t (←asAddr (a.tmps.getD x Go.undef)):Sem Value).run P w= .ok u w∧ae st.get g (nW P st rv).2 u∧ ∀r∈(nW P st rv).2.roots,born r:=by
 cases rv with
 |tmp t=>
  obtain⟨h1,h2⟩:=bC R (.tmp t)
  exact⟨a.tmps.getD t Go.undef,rfl,h1,h2⟩
 |cell x t=>
  obtain⟨h1,h2⟩:=pb R x
  obtain⟨u,k1,k2,k3,_,_⟩:=sM (P:=P) R h1 h2 hok
  refine⟨u,?_,k2,k3⟩
  have: ∃ad,a.tmps.getD x Go.undef= .pointer (some ad):=by
   have hok:aN (fg P t (st.top.getD x .undef) st.get).ok:=hok
   unfold fg at hok
   split at hok
   ·next r c e=>rw[e,ae]at h1;exact h1.1
   ·next r p i f e=>rw[e,ae]at h1;exact h1.1
   ·exact(ay hok).elim
  obtain⟨ad,had⟩:=this
  rw[had]at k1
  show(do loadVar t (←asAddr (a.tmps.getD x Go.undef)):Sem Value).run P w=_
  rw[had]
  simpa[Instr.loadAt,Instr.sureAddr,asAddr]using k1
theorem vk{fn:Func}(R:Rel w0 st g born (a::asx) w)(hok:aN (sf P fn st).1):
  ∃us,(results fn a.tmps).run P w= .ok (mR us) w∧ai st.get g (sf P fn st).2 us∧ ∀r∈AV.ah (sf P fn st).2,born r:=by
 have key: ∀(l:List ResultVar),aN ((l.map (nW P st)).flatMap (·.1))→ ∃us,(l.mapM (fun rv=>(match rv with
   | .tmp t=>pure (a.tmps.getD t Go.undef)
   | .cell x t=>do loadVar t (←asAddr (a.tmps.getD x Go.undef)):Sem Value))).run P w= .ok us w∧ai st.get g ((l.map (nW P st)).map (·.2)) us∧ ∀r∈AV.ah ((l.map (nW P st)).map (·.2)),born r:=by
  intro l
  induction l with
  |nil=>intro _;exact⟨[],rfl,by simp[ai],fun r h=>by simp[AV.ah]at h⟩
  |cons rv l ih=>
   intro hok
   rw[List.map_cons,List.flatMap_cons]at hok
   obtain⟨h1,h2⟩:=aq.1 hok
   obtain⟨u,k1,k2,k3⟩:=BF R rv h1
   obtain⟨us,m1,m2,m3⟩:=ih h2
   refine⟨u::us,?_,?_,fun r hr=> ?_⟩
   ·rw[List.mapM_cons]
    simp only[Sem.run_bind,k1,Result.andThen_ok,m1,Sem.run_pure]
   ·rw[List.map_cons,List.map_cons,ai];exact⟨u,us,rfl,k2,m2⟩
   ·rw[List.map_cons,List.map_cons]at hr
    simp only[AV.ah,List.mem_append]at hr
    exact hr.elim (k3 r) (m3 r)
 obtain⟨us,h1,h2,h3⟩:=key fn.results.toList hok
 refine⟨us,?_,h2,h3⟩
 have e:(fn.results.mapM (fun rv=>(match rv with
   | .tmp t=>pure (a.tmps.getD t Go.undef)
   | .cell x t=>do loadVar t (←asAddr (a.tmps.getD x Go.undef)):Sem Value))).run P w= .ok us.toArray w:=by
  rw[Array.mapM_eq_mapM_toList,Sem.run_map,h1];rfl
 unfold results
 rw[Sem.run_bind]
 erw [e]
 simp only[Result.andThen_ok,Sem.run_pure]
 congr 1
 match us with
 | []=>rfl
 | [u]=>rfl
 |u::v::r=>simp[mR]
theorem FL{rw:Bool}: ∀(t:Ty) (d:den t) (G:Nat→Path→Value) (f0 o:Nat) (rd rd':Nat→Option Value),Rep w rw t d G (f0+o) rd→(∀g,f0≤g→g<f0+t.size→rd' g=rd (g+o))→Rep w rw t d (fun k=>G (k+o)) f0 rd':=by
 intro t
 induction t with
 |int k=>intro d G f0 o rd rd' h hr;exact(hr f0 (Nat.le_refl _) (by simp[Ty.size])).trans h
 |bool=>intro d G f0 o rd rd' h hr;exact(hr f0 (Nat.le_refl _) (by simp[Ty.size])).trans h
 |str=>intro d G f0 o rd rd' h hr;exact(hr f0 (Nat.le_refl _) (by simp[Ty.size])).trans h
 |unit=>intro d G f0 o rd rd' _ _;trivial
 |pair a b iha ihb=>
  intro d G f0 o rd rd' h hr
  refine⟨iha _ _ _ _ _ _ h.1 (fun g h1 h2=>hr g h1 (by simp only[Ty.size];omega)),?_⟩
  have h2:=h.2
  rw[show f0+o+a.size=(f0+a.size)+o by omega]at h2
  exact ihb _ _ _ _ _ _ h2 (fun g h1 h2=>hr g (by omega) (by simp only[Ty.size];omega))
 |sl e ih=>
  intro d G f0 o rd rd' h hr
  exact⟨(hr f0 (Nat.le_refl _) (by simp[Ty.size])).trans h.1,h.2⟩
theorem qC{w0:bu}{get:Get}{g:aB}(hR: ∀r,aF w0 w get g r)(hB:Seen w0 w){avs:List AV}{vals:List Value}(hA:ai get g avs vals)(e:Ty)(hpos:0<e.size):
  ∀(n k:Nat) (ok:List Tst) (xs:List (den e)) (rest:List AV),iy (bp get e) n (avs.drop k)=(ok,xs,rest)→aN ok→
   xs.length=n∧ ∀i x,xs[i]?=some x→Rep w false e x (Gof g avs vals) (k+i*e.size) (fun q=>vals[q]?)
 |0,k,ok,xs,rest,h,_=>by
  simp only[iy,Prod.mk.injEq]at h
  obtain⟨_,rfl,_⟩:=h
  exact⟨rfl,fun i x h=>by simp at h⟩
 |n+1,k,ok,xs,rest,h,hok=>by
  unfold iy at h
  generalize h1:bp get e (avs.drop k)=r1 at h
  obtain⟨ok1,x1,rest1⟩:=r1
  simp only at h
  generalize h2:iy (bp get e) n rest1=r2 at h
  obtain⟨ok2,xs2,rest2⟩:=r2
  simp only[Prod.mk.injEq]at h
  obtain⟨rfl,rfl,rfl⟩:=h
  obtain⟨k1,k2⟩:=aq.1 hok
  rcases kQ hR hB hA e k ok1 x1 rest1 h1 k1 with⟨q1,q2,_⟩|⟨q1,_⟩
  ·subst q2
   obtain⟨p1,p2⟩:=qC hR hB hA e hpos n (k+e.size) ok2 xs2 rest2 h2 k2
   refine⟨by simp[p1],fun i x hx=> ?_⟩
   cases i with
   |zero=>
    simp only[List.getElem?_cons_zero,Option.some.injEq]at hx
    subst hx
    simpa using q1
   |succ i=>
    have:=p2 i x (by simpa using hx)
    rw[show k+(i+1)*e.size=k+e.size+i*e.size by rw[Nat.add_mul];omega]
    exact this
  ·omega
theorem sw{w0:bu}{get:Get}{g:aB}(hR: ∀r,aF w0 w get g r)(hB:Seen w0 w){avs:List AV}{vals:List Value}(hA:ai get g avs vals):
  ∀(t:Ty) (f:Nat) (ok:List Tst) (d:den t) (rest:List AV),fT get t (avs.drop f)=(ok,d,rest)→aN ok→
   ∃G,Rep w false t d G f (fun k=>vals[k]?)∧rest=avs.drop (f+t.size):=by
 have plain: ∀(t:Ty) (f:Nat) (ok:List Tst) (d:den t) (rest:List AV),bp get t (avs.drop f)=(ok,d,rest)→aN ok→ ∃G,Rep w false t d G f (fun k=>vals[k]?)∧rest=avs.drop (f+t.size):=by
  intro t f ok d rest h hok
  rcases kQ hR hB hA t f ok d rest h hok with⟨q1,q2,_⟩|⟨q0,q1,q2⟩
  ·exact⟨_,q1,q2⟩
  ·exact⟨_,q2,by rw[q0];exact q1⟩
 intro t
 induction t with
 |int k=>intro f ok d rest h hok;exact plain _ f ok d rest h hok
 |bool=>intro f ok d rest h hok;exact plain _ f ok d rest h hok
 |str=>intro f ok d rest h hok;exact plain _ f ok d rest h hok
 |unit=>intro f ok d rest h hok;exact plain _ f ok d rest h hok
 |pair a b iha ihb=>
  intro f ok d rest h hok
  unfold fT at h
  generalize h1:fT get a (avs.drop f)=r1 at h
  obtain⟨ok1,x1,rest1⟩:=r1
  simp only at h
  generalize h2:fT get b rest1=r2 at h
  obtain⟨ok2,x2,rest2⟩:=r2
  simp only[Prod.mk.injEq]at h
  obtain⟨rfl,rfl,rfl⟩:=h
  obtain⟨k1,k2⟩:=aq.1 hok
  obtain⟨G1,q1,rfl⟩:=iha f ok1 x1 rest1 h1 k1
  obtain⟨G2,q2,rfl⟩:=ihb (f+a.size) ok2 x2 rest2 h2 k2
  refine⟨fun k=>if k<f+a.size then G1 k else G2 k,⟨fK a _ _ _ _ _ (fun k _ hk=>by rw[if_pos hk]) q1,fK b _ _ _ _ _ (fun k hk _=>by rw[if_neg (by omega)]) q2⟩,by simp only[Ty.size];congr 1;omega⟩
 |sl e ih=>
  intro f ok d rest h hok
  unfold fT at h
  split at h
  ·next r n vs' ee=>
   split at h
   ·next cs hg=>
    generalize hm:iy (bp get e) n cs=m at h
    obtain⟨ok1,xs,rest1⟩:=m
    simp only[Prod.mk.injEq]at h
    obtain⟨rfl,rfl,rfl⟩:=h
    obtain⟨_,hok⟩:=af.1 hok
    obtain⟨hpos,hok⟩:=af.1 hok
    have hpos:=cE hpos
    obtain⟨e1,e2,_⟩:=drop_cons ee
    obtain⟨x,hx,hr⟩:=bK hA e1
    rw[ae]at hr
    have hro:=hR r
    unfold aF at hro
    rw[hg]at hro
    obtain⟨arr,te,h1,h2,h3⟩:=hro
    have hv:=hr.2 (by rw[hg];rfl)
    obtain⟨p1,p2⟩:=qC hR hB h3 e hpos n 0 ok1 xs rest1 (by rw[List.drop_zero];exact hm) hok
    refine⟨fun _ p=>match p with
     | []=>x
     |(i,fi)::q=>Gof g cs arr.toList (i*e.size+fi) q,⟨hx,.inr ⟨⟨(g r).b,0,none⟩,n,by rw[p1];exact hv,by omega,fun h=>(by cases h),fun i y hy=> ?_⟩⟩,e2⟩
    have:=p2 i y hy
    rw[show 0+i*e.size=0+(i*e.size)from rfl]at this
    have hd:=FL (rd':=fun fi=>w.cell? ((⟨(g r).b,0,none⟩:Addr).add (i*e.size+fi))) e y _ 0 (i*e.size) _ this (fun k _ hk=>by
     rw[mQ,cell_of_row w _ _ _ _ _ h1,Nat.add_comm k]
     simp)
    have eg:(fun(fi:Nat) (p:Path)=>Gof g cs arr.toList (i*e.size+fi) p)=fun k=>Gof g cs arr.toList (k+i*e.size):=by
     funext k;rw[Nat.add_comm]
    rw[←eg]at hd
    exact hd
   ·simp only[Prod.mk.injEq]at h;obtain⟨rfl,_⟩:=h;exact(ay hok).elim
  ·exact plain _ f ok d rest h hok
end
end
end Go.Am
end
section
/- Soundness: bases that tell more; results that share memory. -/
namespace Go.Am
noncomputable section
attribute [local instance] D.real
theorem bL.mono{B B':bu}(h: ∀b,B.dh b→B'.dh b){a w:World}(k:bL B' a w):bL B a w:=⟨k.os,k.tape,k.output,k.size,fun b hb=>k.block b (h b hb),k.oth⟩
structure bu.le (B B' : bu) : Prop where
  dh : ∀ b, B.dh b → B'.dh b
  new : ∀ b, B'.dh b → B.dh b ∨ Rds B'.w b
  keeps : bL B B.v B'.v
  cell : ∀ (a : Addr) (x : Value), B.w.cell? a = some x → B'.w.cell? a = some x
  rds : ∀ b, Rds B'.w b → Rds B.w b ∨ ¬ B.dh b
  oth : B'.oth = B.oth
theorem bu.le.refl(B:bu):B.le B:=⟨fun _ h=>h,fun _ h=> .inl h,bL.refl _ _,fun _ _ h=>h,fun _ h=> .inl h,rfl⟩
theorem bu.le.run{B B':bu}(h:B.le B'){w:World}(k:bL B' B'.v w):bL B B.v w:=h.keeps.trans (k.mono h.dh)
theorem Rds.mono{r r':World}(h: ∀(a:Addr) (x:Value),r.cell? a=some x→r'.cell? a=some x){b:Nat}:Rds r b→Rds r' b:=fun⟨a,v,e,k⟩=>⟨a,v,e,h a v k⟩
theorem bu.le.trans{A B C:bu}(h:A.le B)(k:B.le C):A.le C:=
 ⟨fun b hb=>k.dh b (h.dh b hb),fun b hb=>(k.new b hb).elim (fun hb=>(h.new b hb).imp id (Rds.mono k.cell)) .inr,h.run k.keeps,fun a x hx=>k.cell a x (h.cell a x hx),
  fun b hb=>(k.rds b hb).elim (fun hb=>h.rds b hb) fun hb=> .inr fun hk=>hb (h.dh b hk),k.oth.trans h.oth⟩
def cg(w0:bu)(st:St)(g:aB)(born:Nat→Prop)(acts:List Act)(w:World):Prop:= ∃w1,w0.le w1∧Rel w1 st g born acts w
section
variable {P : Program} {w0 w1 : bu} {w w' : World} {st st' : St} {g g' : aB} {born : Nat → Prop} {a : Act} {asx acts : List Act}
theorem cg.of(R:Rel w0 st g born acts w):cg w0 st g born acts w:=⟨w0,.refl _,R⟩
theorem cg.up(h:w0.le w1)(R:cg w1 st g born acts w):cg w0 st g born acts w:=let⟨w2,k,R⟩:=R;⟨w2,h.trans k,R⟩
theorem cg.below(R:cg w0 st g born acts w):bL w0 w0.v w:=let⟨_,k,R⟩:=R;k.run R.below
theorem mq{v:Value}{av:AV}(R:cg w0 st g born (a::acts) w)(dst:Option Tmp)(hv:ae st.get g av v)(hb: ∀r∈av.roots,born r):
  cg w0 (st.put dst av) g born (a.put dst v::acts) w:=let⟨w2,k,R⟩:=R;⟨w2,k,nv R dst hv hb⟩
theorem BH(R:cg w0 st g born acts w)(hb: ∀r,born r→r<st.rs.length)(live:List Nat): ∃g' born',cg w0 (st.canon live) g' born' acts w∧ ∀r,born' r→r<(st.canon live).rs.length:=
 let⟨w2,k,R⟩:=R;let⟨g',b',R',h⟩:=Dg R hb live;⟨g',b',⟨w2,k,R'⟩,h⟩
end
section
variable {get get' : Get}
def b6(get get':Get)(l:List Nat):Prop:= ∀r∈l,get r=get' r
theorem b6.cons{v:AV}{vs:List AV}(h:b6 get get' (AV.ah (v::vs))):b6 get get' v.roots∧b6 get get' (AV.ah vs):=
 ⟨fun r hr=>h r (by simp only[AV.ah,List.mem_append];exact .inl hr),fun r hr=>h r (by simp only[AV.ah,List.mem_append];exact .inr hr)⟩
theorem pC{r:Nat}{p:Path}(h:get r=get' r):sliceAt get r p=sliceAt get' r p:=by unfold sliceAt;rw[h]
theorem gh: ∀(t:Ty) (vs:List AV),b6 get get' (AV.ah vs)→bp get t vs=bp get' t vs∧ ∀r∈AV.ah (bp get t vs).2.2,r∈AV.ah vs:=by
 have tail: ∀(v:AV) (vs:List AV) (r:Nat),r∈AV.ah vs→r∈AV.ah (v::vs):=fun v vs r h=>by simp only[AV.ah,List.mem_append];exact .inr h
 intro t
 induction t with
 |int k=>
  intro vs h
  unfold bp
  split
  ·exact⟨rfl,fun r hr=>tail _ _ r hr⟩
  ·exact⟨rfl,fun r hr=>by simp[AV.ah]at hr⟩
 |bool=>
  intro vs h
  unfold bp
  split
  ·exact⟨rfl,fun r hr=>tail _ _ r hr⟩
  ·exact⟨rfl,fun r hr=>tail _ _ r hr⟩
  ·exact⟨rfl,fun r hr=>by simp[AV.ah]at hr⟩
 |str=>
  intro vs h
  unfold bp
  split
  ·exact⟨rfl,fun r hr=>tail _ _ r hr⟩
  ·exact⟨rfl,fun r hr=>by simp[AV.ah]at hr⟩
 |unit=>intro vs h;exact⟨rfl,fun r hr=>hr⟩
 |sl e ih=>
  intro vs h
  unfold bp
  split
  ·exact⟨rfl,fun r hr=>tail _ _ r hr⟩
  ·next r p sub vs=>
   have e1:sliceAt get r p=sliceAt get' r p:=pC (h r (by simp[AV.ah,AV.roots]))
   rw[e1]
   refine⟨rfl,fun x hx=> ?_⟩
   generalize sliceAt get' r p=s at hx
   obtain⟨ok,e',ys⟩:=s
   simp only at hx
   split at hx
   ·exact tail _ _ x hx
   ·simp[AV.ah]at hx
  ·exact⟨rfl,fun r hr=>by simp[AV.ah]at hr⟩
 |pair a b iha ihb=>
  intro vs h
  obtain⟨h1,h2⟩:=iha vs h
  unfold bp
  rw[←h1]
  generalize bp get a vs=ra at h2
  obtain⟨ok,x,rest⟩:=ra
  simp only at h2⊢
  obtain⟨h3,h4⟩:=ihb rest (fun r hr=>h r (h2 r hr))
  rw[←h3]
  generalize bp get b rest=rb at h4
  obtain⟨ok',y,rest'⟩:=rb
  simp only at h4⊢
  exact⟨trivial,fun r hr=>h2 r (h4 r hr)⟩
theorem nP(e:Ty): ∀(n:Nat) (vs:List AV),b6 get get' (AV.ah vs)→iy (bp get e) n vs=iy (bp get' e) n vs
 |0,_,_=>rfl
 |n+1,vs,h=>by
  obtain⟨h1,h2⟩:=gh e vs h
  unfold iy
  rw[←h1]
  generalize bp get e vs=ra at h2
  obtain⟨ok,x,rest⟩:=ra
  simp only at h2⊢
  rw[nP e n rest (fun r hr=>h r (h2 r hr))]
theorem D3: ∀(t:Ty) (vs:List AV),∀v∈(bp get t vs).2.2,v∈vs:=by
 intro t
 induction t with
 |int k=>intro vs v h;unfold bp at h;split at h<;>simp_all
 |bool=>intro vs v h;unfold bp at h;split at h<;>simp_all
 |str=>intro vs v h;unfold bp at h;split at h<;>simp_all
 |unit=>intro vs v h;exact h
 |sl e ih=>
  intro vs v h
  unfold bp at h
  split at h
  ·exact List.mem_cons_of_mem _ h
  ·next r p sub vs=>
   generalize sliceAt get r p=s at h
   obtain⟨ok,e',ys⟩:=s
   simp only at h
   split at h
   ·exact List.mem_cons_of_mem _ h
   ·simp at h
  ·simp at h
 |pair a b iha ihb=>
  intro vs v h
  unfold bp at h
  have h1:=iha vs
  generalize bp get a vs=ra at h h1
  obtain⟨ok,x,rest⟩:=ra
  simp only at h h1
  have h2:=ihb rest
  generalize bp get b rest=rb at h h2
  obtain⟨ok',y,rest'⟩:=rb
  exact h1 v (h2 v h)
theorem qJ{vs:List AV}{r n:Nat}{cs:List AV}{x:Nat}(h:AV.lit r n∈vs)(hg:get r= .var cs)(hx:x∈AV.ah cs):x∈gB get vs:=by
 unfold gB
 rw[List.mem_flatMap]
 exact⟨_,h,by simp only[qF,hg];exact hx⟩
theorem oK: ∀{vs:List AV},b6 get get' (AV.ah vs)→gB get vs=gB get' vs
 | [],_=>rfl
 |v::vs,h=>by
  obtain⟨h1,h2⟩:=h.cons
  have e:qF get v=qF get' v:=by
   cases v<;>try rfl
   next r n=>unfold qF;simp only[h1 r (by simp[AV.roots])]
  have ih:=oK h2
  unfold gB at ih⊢
  rw[List.flatMap_cons,List.flatMap_cons,e,ih]
theorem sO: ∀(t:Ty) (vs:List AV),b6 get get' (AV.ah vs)→(∀r n cs,AV.lit r n∈vs→get r= .var cs→b6 get get' (AV.ah cs))→
  fT get t vs=fT get' t vs∧(∀r∈AV.ah (fT get t vs).2.2,r∈AV.ah vs)∧ ∀v∈(fT get t vs).2.2,v∈vs:=by
 intro t
 have plain: ∀(t:Ty) (vs:List AV),b6 get get' (AV.ah vs)→bp get t vs=bp get' t vs∧(∀r∈AV.ah (bp get t vs).2.2,r∈AV.ah vs)∧ ∀v∈(bp get t vs).2.2,v∈vs:=
  fun t vs h=>⟨(gh t vs h).1,(gh t vs h).2,D3 t vs⟩
 induction t with
 |int k=>intro vs h _;exact plain _ vs h
 |bool=>intro vs h _;exact plain _ vs h
 |str=>intro vs h _;exact plain _ vs h
 |unit=>intro vs h _;exact plain _ vs h
 |sl e ih=>
  intro vs h hv
  unfold fT
  split
  ·next r n vs'=>
   have e1:get r=get' r:=h r (by simp[AV.ah,AV.roots])
   rw[←e1]
   cases hg:get r with
   |var cs=>
    simp only
    rw[nP e n cs (hv r n cs (List.mem_cons_self) hg)]
    exact⟨rfl,fun x hx=>by simp only[AV.ah,List.mem_append];exact .inr hx,fun v h=>List.mem_cons_of_mem _ h⟩
   |_=>exact⟨rfl,fun x hx=>by simp[AV.ah]at hx,fun v h=>by simp at h⟩
  ·exact plain _ _ h
 |pair a b iha ihb=>
  intro vs h hv
  obtain⟨h1,h2,h5⟩:=iha vs h hv
  unfold fT
  rw[←h1]
  generalize fT get a vs=ra at h2 h5
  obtain⟨ok,x,rest⟩:=ra
  simp only at h2 h5⊢
  obtain⟨h3,h4,h6⟩:=ihb rest (fun r hr=>h r (h2 r hr)) (fun r n cs hm=>hv r n cs (h5 _ hm))
  rw[←h3]
  generalize fT get b rest=rb at h4 h6
  obtain⟨ok',y,rest'⟩:=rb
  simp only at h4 h6⊢
  exact⟨trivial,fun r hr=>h2 r (h4 r hr),fun v hv=>h5 v (h6 v hv)⟩
end
def Fb(P:Program)(f:Nat)(x:den (eH P f))(y:den (resTy P f)):Prop:=
 (∃fn,P.funcs[f]?=some fn∧fn.body.isSome=true)∧
 ∀(W r:World) (args:Array Value),(∀(a:Addr) (v:Value),r.cell? a=some v→W.cell? a=some v)→fN P r (dV P f) args.toList x→
  Calls P f args W fun e w'=> ∃us r',e= .returned (mR us)∧RowKit.Below W.heap.size W w'∧(∀(a:Addr) (v:Value),r.cell? a=some v→r'.cell? a=some v)∧
   (∀(a:Addr) (v:Value),r'.cell? a=some v→w'.cell? a=some v)∧(∀b,Rds r' b→Rds r b∨W.heap.size≤b)∧fN P r' (bE P f) us y
end
end Go.Am
end
