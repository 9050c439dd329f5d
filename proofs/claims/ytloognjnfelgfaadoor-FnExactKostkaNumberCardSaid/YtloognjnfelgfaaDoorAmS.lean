/- The relation between the machine's states and worlds is kept by the parts of an operation, whatever the program. -/
import Derived.Test.YtloognjnfelgfaaDoorAmM
import Derived.Below
import Derived.Laws.World
import Derived.Laws.Sem
import Derived.RangeFuncFrom
import Derived.Laws.StructEq
set_option linter.unusedSimpArgs false
set_option linter.unusedVariables false
set_option linter.unnecessarySimpa false
set_option linter.unusedSectionVars false
section
/- Soundness, first part: how data lies in the world; what of the world it hangs on. -/
namespace Go.Am
noncomputable section
attribute [local instance] D.real
def nM{α:Type}(w:World)(rw:Bool)(sz:Nat)(R:α→(Nat→Path→Value)→(Nat→Option Value)→Prop)(xs:List α)(H:Path→Value):Prop:=
 (H []= .slice none 0 0∧xs= [])∨
 ∃a cap,H []= .slice (some a) xs.length cap∧xs.length≤cap∧
  (rw=true→cap≠0→a.spot=none∧ ∃arr te,w.heap[a.block]?=some (.cells arr te (0,0))∧a.off+cap*sz≤arr.size)∧
  ∀i (x:α),xs[i]?=some x→R x (fun f p=>H ((i,f)::p)) (fun f=>w.cell? (a.add (i*sz+f)))
def Rep(w:World)(rw:Bool):(t:Ty)→den t→(Nat→Path→Value)→Nat→(Nat→Option Value)→Prop
 | .int k,n,_,f,rd=>rd f=some (.int k n)
 | .bool,b,_,f,rd=>rd f=some (.bool b)
 | .str,s,_,f,rd=>rd f=some (.string s)
 | .sl e,xs,G,f,rd=>rd f=some (G f [])∧nM w rw e.size (fun x G' rd'=>Rep w rw e x G' 0 rd') xs (G f)
 | .pair a b,d,G,f,rd=>Rep w rw a d.1 G f rd∧Rep w rw b d.2 G (f+a.size) rd
 | .unit,_,_,_,_=>True
def sG{α:Type}(B:α→(Nat→Path→Value)→Nat→Prop)(xs:List α)(H:Path→Value)(b:Nat):Prop:=
 (∃a n c,H []= .slice (some a) n c∧c≠0∧a.block=b)∨ ∃i x,xs[i]?=some x∧B x (fun f p=>H ((i,f)::p)) b
def Blk:(t:Ty)→den t→(Nat→Path→Value)→Nat→Nat→Prop
 | .sl e,xs,G,f,b=>sG (fun x G' b=>Blk e x G' 0 b) xs (G f) b
 | .pair a b',d,G,f,b=>Blk a d.1 G f b∨Blk b' d.2 G (f+a.size) b
 |_,_,_,_,_=>False
def Bl{α:Type}(B:α→(Nat→Path→Value)→Nat→Prop)(S:α→(Nat→Path→Value)→Prop)(xs:List α)(H:Path→Value):Prop:=
 (∀a n c i x,H []= .slice (some a) n c→c≠0→xs[i]?=some x→ ¬B x (fun f p=>H ((i,f)::p)) a.block)∧
 (∀i j x y b,i≠j→xs[i]?=some x→xs[j]?=some y→B x (fun f p=>H ((i,f)::p)) b→B y (fun f p=>H ((j,f)::p)) b→False)∧
 ∀i x,xs[i]?=some x→S x (fun f p=>H ((i,f)::p))
def Sep:(t:Ty)→den t→(Nat→Path→Value)→Nat→Prop
 | .sl e,xs,G,f=>Bl (fun x G' b=>Blk e x G' 0 b) (fun x G'=>Sep e x G' 0) xs (G f)
 | .pair a b,d,G,f=>Sep a d.1 G f∧Sep b d.2 G (f+a.size)∧ ∀bl,Blk a d.1 G f bl→Blk b d.2 G (f+a.size) bl→False
 |_,_,_,_=>True
theorem dS(a:Addr)(n:Nat):(a.add n).block=a.block:=by
 unfold Addr.add;split<;>rfl
theorem gp{w w':World}{a:Addr}(h:w'.heap[a.block]?=w.heap[a.block]?):w'.cell? a=w.cell? a:=World.cell?_of_block h
theorem dR{w w':World}{rw:Bool}: ∀(t:Ty) (d:den t) (G:Nat→Path→Value) (f:Nat) (rd rd':Nat→Option Value),
  (∀b,Blk t d G f b→w'.heap[b]?=w.heap[b]?)→(∀g,f≤g→g<f+t.size→rd' g=rd g)→Rep w rw t d G f rd→Rep w' rw t d G f rd':=by
 intro t
 induction t with
 |int k=>intro d G f rd rd' _ hr h;exact(hr f (Nat.le_refl _) (by simp[Ty.size])).trans h
 |bool=>intro d G f rd rd' _ hr h;exact(hr f (Nat.le_refl _) (by simp[Ty.size])).trans h
 |str=>intro d G f rd rd' _ hr h;exact(hr f (Nat.le_refl _) (by simp[Ty.size])).trans h
 |unit=>intro d G f rd rd' _ _ _;trivial
 |pair a b iha ihb=>
  intro d G f rd rd' hb hr h
  exact⟨iha _ _ _ _ _ (fun bl hbl=>hb bl (.inl hbl)) (fun g h1 h2=>hr g h1 (by simp only[Ty.size];omega)) h.1,
   ihb _ _ _ _ _ (fun bl hbl=>hb bl (.inr hbl)) (fun g h1 h2=>hr g (by omega) (by simp only[Ty.size];omega)) h.2⟩
 |sl e ih=>
  intro d G f rd rd' hb hr h
  obtain⟨h0,h1⟩:=h
  refine⟨(hr f (Nat.le_refl _) (by simp[Ty.size])).trans h0,?_⟩
  rcases h1 with h1|⟨a,cap,hH,hle,hg,hx⟩
  ·exact .inl h1
  ·have hab:cap≠0→w'.heap[a.block]?=w.heap[a.block]?:=fun hc=>hb _ (.inl ⟨a,_,_,hH,hc,rfl⟩)
   refine .inr ⟨a,cap,hH,hle,fun hrw hc=> ?_,fun i x hi=> ?_⟩
   ·obtain⟨h2,arr,te,h3,h4⟩:=hg hrw hc
    exact⟨h2,arr,te,(hab hc).trans h3,h4⟩
   ·have hc:cap≠0:=by
     have:i<List.length d:=by
      rcases Nat.lt_or_ge i (List.length d)with h|h
      ·exact h
      ·rw[List.getElem?_eq_none h]at hi;cases hi
     omega
    have hab:=hab hc
    refine ih _ _ _ _ _ (fun bl hbl=>hb bl (.inr ⟨i,x,hi,hbl⟩)) (fun g _ _=> ?_) (hx i x hi)
    exact gp (by rw[dS];exact hab)
theorem dQ{w w':World}{rw:Bool}{t:Ty}{xs:List (den t)}{H:Path→Value}
  (hb: ∀b,sG (fun x G b=>Blk t x G 0 b) xs H b→w'.heap[b]?=w.heap[b]?)
  (h:nM w rw t.size (fun x G rd=>Rep w rw t x G 0 rd) xs H):nM w' rw t.size (fun x G rd=>Rep w' rw t x G 0 rd) xs H:=by
 have:=dR (w:=w) (w':=w') (rw:=rw) (.sl t) xs (fun _=>H) 0 (fun _=>some (H [])) (fun _=>some (H [])) hb (fun _ _ _=>rfl) ⟨rfl,h⟩
 exact this.2
theorem Fi{w:World}: ∀(t:Ty) (d:den t) (G:Nat→Path→Value) (f:Nat) (rd:Nat→Option Value) (rw:Bool),Rep w rw t d G f rd→Rep w false t d G f rd:=by
 intro t
 induction t with
 |int k=>intro d G f rd rw h;exact h
 |bool=>intro d G f rd rw h;exact h
 |str=>intro d G f rd rw h;exact h
 |unit=>intro d G f rd rw h;trivial
 |pair a b iha ihb=>intro d G f rd rw h;exact⟨iha _ _ _ _ _ h.1,ihb _ _ _ _ _ h.2⟩
 |sl e ih=>
  intro d G f rd rw h
  refine⟨h.1,?_⟩
  rcases h.2 with h1|⟨a,cap,hH,hle,_,hx⟩
  ·exact .inl h1
  ·exact .inr ⟨a,cap,hH,hle,(fun h=>by cases h),fun i x hi=>ih _ _ _ _ _ (hx i x hi)⟩
theorem ur {w : World} {rw : Bool} : ∀ (t : Ty) (d : den t) (G : Nat → Path → Value) (f0 f : Nat) (rd : Nat → Option Value),
    f < t.size → Rep w rw t d G f0 rd → Rep w rw (cellAt t d f).1 (cellAt t d f).2 G (f0 + f) rd := by
  intro t
  induction t with
  | unit => intro d G f0 f rd hf _; simp [Ty.size] at hf
  | pair a b iha ihb =>
    intro d G f0 f rd hf h
    simp only [Ty.size] at hf
    by_cases hlt : f < a.size
    · have e : cellAt (.pair a b) d f = cellAt a d.1 f := by
        have : Nat.blt f a.size = true := by rw [Nat.blt_eq]; exact hlt
        simp [cellAt, this]
      rw [e]; exact iha _ _ _ _ _ hlt h.1
    · have e : cellAt (.pair a b) d f = cellAt b d.2 (f - a.size) := by
        have : Nat.blt f a.size = false := by
          cases hb : Nat.blt f a.size with
          | false => rfl
          | true => rw [Nat.blt_eq] at hb; exact absurd hb hlt
        simp [cellAt, this]
      rw [e]
      have := ihb d.2 G (f0 + a.size) (f - a.size) rd (by omega) h.2
      have e2 : f0 + a.size + (f - a.size) = f0 + f := by omega
      rwa [e2] at this
  | int k => intro d G f0 f rd hf h; simp only [Ty.size] at hf; obtain rfl : f = 0 := by omega
             exact h
  | bool => intro d G f0 f rd hf h; simp only [Ty.size] at hf; obtain rfl : f = 0 := by omega
            exact h
  | str => intro d G f0 f rd hf h; simp only [Ty.size] at hf; obtain rfl : f = 0 := by omega
           exact h
  | sl e => intro d G f0 f rd hf h; simp only [Ty.size] at hf; obtain rfl : f = 0 := by omega
            exact h
def Tst.val:Tst→Bool
 | .s b=>b
 | .d b=>b
def aN(l:List Tst):Prop:= ∀t∈l,t.val=true
theorem mF:aN []:=fun _ h=>by cases h
theorem af{t:Tst}{l:List Tst}:aN (t::l)↔t.val=true∧aN l:=by simp[aN]
theorem aq{l m:List Tst}:aN (l++m)↔aN l∧aN m:=by
 simp only[aN,List.mem_append];exact⟨fun h=>⟨fun t ht=>h t (.inl ht),fun t ht=>h t (.inr ht)⟩,fun h t ht=>ht.elim (h.1 t) (h.2 t)⟩
theorem iF{R:Type}: ∀{l:List Tst} {x:Option R} {r:R},chk l x=some r→aN l∧x=some r
 | [],_,_,h=>⟨mF,h⟩
 | .s b::l,x,r,h=>by
  cases b with
  |true=>obtain⟨h1,h2⟩:=iF (l:=l) (by simpa[chk]using h);exact⟨af.2 ⟨rfl,h1⟩,h2⟩
  |false=>simp[chk]at h
 | .d b::l,x,r,h=>by
  change (if b=true then chk l x else none)=some r at h
  cases b with
  |true=>obtain⟨h1,h2⟩:=iF (l:=l) (x:=x) (r:=r) (by simpa using h);exact⟨af.2 ⟨rfl,h1⟩,h2⟩
  |false=>simp at h
def fE:Ty→Nat→Ty
 | .pair a b,f=>bif Nat.blt f a.size then fE a f else fE b (f-a.size)
 | .unit,_=> .unit
 | .int k,f=>bif Nat.beq f 0 then .int k else .unit
 | .bool,f=>bif Nat.beq f 0 then .bool else .unit
 | .str,f=>bif Nat.beq f 0 then .str else .unit
 | .sl e,f=>bif Nat.beq f 0 then .sl e else .unit
theorem ja: ∀(t:Ty) (d:den t) (f:Nat),(cellAt t d f).1=fE t f:=by
 intro t
 induction t with
 |pair a b iha ihb=>
  intro d f
  unfold cellAt fE
  cases Nat.blt f a.size<;>simp[iha,ihb]
 |unit=>intro d f;rfl
 |int k=>intro d f;unfold cellAt fE;cases Nat.beq f 0<;>rfl
 |bool=>intro d f;unfold cellAt fE;cases Nat.beq f 0<;>rfl
 |str=>intro d f;unfold cellAt fE;cases Nat.beq f 0<;>rfl
 |sl e=>intro d f;unfold cellAt fE;cases Nat.beq f 0<;>rfl
theorem oO: ∀(t:Ty) (f:Nat) (e:Ty),fE t f= .sl e→f<t.size:=by
 intro t
 induction t with
 |pair a b iha ihb=>
  intro f e h
  unfold fE at h
  simp only[Ty.size]
  cases hb:Nat.blt f a.size with
  |true=>rw[Nat.blt_eq]at hb;omega
  |false=>
   rw[hb]at h
   have:=ihb _ _ h
   have h2: ¬f<a.size:=fun h=>by rw[←Nat.blt_eq,hb]at h;cases h
   omega
 |unit=>intro f e h;simp[fE]at h
 |int k=>intro f e h;unfold fE at h;cases hb:Nat.beq f 0<;>rw[hb]at h<;>simp at h
 |bool=>intro f e h;unfold fE at h;cases hb:Nat.beq f 0<;>rw[hb]at h<;>simp at h
 |str=>intro f e h;unfold fE at h;cases hb:Nat.beq f 0<;>rw[hb]at h<;>simp at h
 |sl e'=>intro f e h;unfold fE at h;cases hb:Nat.beq f 0 with
  |true=>have:=Nat.eq_of_beq_eq_true hb;subst this;simp[Ty.size]
  |false=>rw[hb]at h;simp at h
def typeAt:Ty→Path→Option Ty
 |t,[]=>some t
 |t,(_,f)::p=>match fE t f with
  | .sl e=>typeAt e p
  |_=>none
abbrev aS(w:World)(rw:Bool)(t:Ty)(xs:List (den t))(H:Path→Value):Prop:=nM w rw t.size (fun x G rd=>Rep w rw t x G 0 rd) xs H
abbrev aD(t:Ty)(xs:List (den t))(H:Path→Value)(b:Nat):Prop:=sG (fun x G b=>Blk t x G 0 b) xs H b
abbrev bD(t:Ty)(xs:List (den t))(H:Path→Value):Prop:=Bl (fun x G b=>Blk t x G 0 b) (fun x G=>Sep t x G 0) xs H
theorem fz{a b:Ty}{d:den (.pair a b)}{f:Nat}(h:f<a.size):cellAt (.pair a b) d f=cellAt a d.1 f:=by
 have:Nat.blt f a.size=true:=by rw[Nat.blt_eq];exact h
 simp[cellAt,this]
theorem gk{a b:Ty}{d:den (.pair a b)}{f:Nat}(h: ¬f<a.size):cellAt (.pair a b) d f=cellAt b d.2 (f-a.size):=by
 have:Nat.blt f a.size=false:=by
  cases hb:Nat.blt f a.size with
  |false=>rfl
  |true=>rw[Nat.blt_eq]at hb;exact absurd hb h
 simp[cellAt,this]
theorem bG : ∀ (t : Ty) (d : den t) (G : Nat → Path → Value) (f0 f b : Nat), f < t.size → Blk (cellAt t d f).1 (cellAt t d f).2 G (f0 + f) b → Blk t d G f0 b := by
  intro t
  induction t with
  | unit => intro d G f0 f b hf _; simp [Ty.size] at hf
  | pair a b' iha ihb =>
    intro d G f0 f b hf h
    simp only [Ty.size] at hf
    by_cases h2 : f < a.size
    · rw [fz h2] at h; exact .inl (iha _ _ _ _ _ h2 h)
    · rw [gk h2] at h
      refine .inr (ihb d.2 G (f0 + a.size) (f - a.size) b (by omega) ?_)
      have e2 : f0 + a.size + (f - a.size) = f0 + f := by omega
      rw [e2]; exact h
  | int k => intro d G f0 f b hf h; simp only [Ty.size] at hf; obtain rfl : f = 0 := by omega
             exact h
  | bool => intro d G f0 f b hf h; simp only [Ty.size] at hf; obtain rfl : f = 0 := by omega
            exact h
  | str => intro d G f0 f b hf h; simp only [Ty.size] at hf; obtain rfl : f = 0 := by omega
           exact h
  | sl e => intro d G f0 f b hf h; simp only [Ty.size] at hf; obtain rfl : f = 0 := by omega
            exact h
theorem vI : ∀ (t : Ty) (d : den t) (G : Nat → Path → Value) (f0 f : Nat), f < t.size → Sep t d G f0 → Sep (cellAt t d f).1 (cellAt t d f).2 G (f0 + f) := by
  intro t
  induction t with
  | unit => intro d G f0 f hf _; simp [Ty.size] at hf
  | pair a b' iha ihb =>
    intro d G f0 f hf h
    simp only [Ty.size] at hf
    by_cases h2 : f < a.size
    · rw [fz h2]; exact iha _ _ _ _ h2 h.1
    · rw [gk h2]
      have := ihb d.2 G (f0 + a.size) (f - a.size) (by omega) h.2.1
      have e2 : f0 + a.size + (f - a.size) = f0 + f := by omega
      rw [e2] at this; exact this
  | int k => intro d G f0 f hf h; simp only [Ty.size] at hf; obtain rfl : f = 0 := by omega
             exact h
  | bool => intro d G f0 f hf h; simp only [Ty.size] at hf; obtain rfl : f = 0 := by omega
            exact h
  | str => intro d G f0 f hf h; simp only [Ty.size] at hf; obtain rfl : f = 0 := by omega
           exact h
  | sl e => intro d G f0 f hf h; simp only [Ty.size] at hf; obtain rfl : f = 0 := by omega
            exact h
theorem dP{α:Type}{xs:List α}{i:Nat}{d:α}(h:i<xs.length):xs[i]?=some (xs.getD i d):=by
 simp[List.getD,List.getElem?_eq_getElem h]
theorem gH{w:World}{rw:Bool}: ∀(p:Path) (t:Ty) (xs:List (den t)) (H:Path→Value) (ok:List Tst) (e:Ty) (ys:List (den e)),
  rowAt t xs p=(ok,⟨e,ys⟩)→aN ok→aS w rw t xs H→
  aS w rw e ys (fun q=>H (p++q))∧typeAt t p=some e∧(∀b,aD e ys (fun q=>H (p++q)) b→aD t xs H b)∧(bD t xs H→bD e ys (fun q=>H (p++q))):=by
 intro p
 induction p with
 |nil=>
  intro t xs H ok e ys h _ hr
  simp only[rowAt,Prod.mk.injEq,Sigma.mk.injEq]at h
  obtain⟨-,rfl,h⟩:=h
  obtain rfl:=eq_of_heq h
  exact⟨hr,rfl,fun b hb=>hb,fun hs=>hs⟩
 |cons q p ih=>
  intro t xs H ok e ys h hok hr
  obtain⟨i,f⟩:=q
  simp only[rowAt]at h
  have hty:=ja t (D.rd xs i (bm t)) f
  generalize hc:cellAt t (D.rd xs i (bm t)) f=c at h hty
  obtain⟨c,d⟩:=c
  simp only at hty
  cases c with
  |sl e'=>
   simp only at h
   generalize hra:rowAt e' d p=ra at h
   obtain⟨ok',e'',ys'⟩:=ra
   simp only[Prod.mk.injEq,Sigma.mk.injEq]at h
   obtain⟨rfl,rfl,h⟩:=h
   obtain rfl:=eq_of_heq h
   obtain⟨hi,hok'⟩:=af.1 hok
   have hi:i<xs.length:=of_decide_eq_true (show decide (i<xs.length)=true from hi)
   have hf:f<t.size:=oO t f e' hty.symm
   have hget:xs[i]?=some (D.rd xs i (bm t)):=dP hi
   rcases hr with⟨_,rfl⟩|⟨a,cap,hH,hle,hg,hx⟩
   ·simp at hi
   ·have h1:=ur t _ _ 0 f _ hf (hx i _ hget)
    rw[hc]at h1
    simp only[Nat.zero_add]at h1
    obtain⟨h2,h3⟩:=h1
    obtain⟨r1,r2,r3,r4⟩:=ih e' d (fun q=>H ((i,f)::q)) ok' e'' ys' hra hok' h3
    refine⟨r1,?_,fun b hb=> ?_,fun hs=> ?_⟩
    ·simp only[typeAt,←hty];exact r2
    ·refine .inr ⟨i,_,hget,?_⟩
     have:=r3 b hb
     refine bG t _ _ 0 f b hf ?_
     rw[hc];simp only[Nat.zero_add];exact this
    ·refine r4 ?_
     have:=vI t _ _ 0 f hf (hs.2.2 i _ hget)
     rw[hc]at this
     simp only[Nat.zero_add]at this
     exact this
  |_=>
   simp only[Prod.mk.injEq]at h
   obtain⟨rfl,-⟩:=h
   have:=(af.1 hok).1
   simp[Tst.val]at this
theorem zE: ∀(t:Ty) (d:den t) (G:Nat→Path→Value) (f0 f1 f2 b:Nat),f1<t.size→f2<t.size→f1≠f2→Sep t d G f0→
  Blk (cellAt t d f1).1 (cellAt t d f1).2 G (f0+f1) b→Blk (cellAt t d f2).1 (cellAt t d f2).2 G (f0+f2) b→False:=by
 intro t
 induction t with
 |unit=>intro d G f0 f1 f2 b h;simp[Ty.size]at h
 |int k=>intro d G f0 f1 f2 b h1 h2 h3;simp only[Ty.size]at h1 h2;omega
 |bool=>intro d G f0 f1 f2 b h1 h2 h3;simp only[Ty.size]at h1 h2;omega
 |str=>intro d G f0 f1 f2 b h1 h2 h3;simp only[Ty.size]at h1 h2;omega
 |sl e=>intro d G f0 f1 f2 b h1 h2 h3;simp only[Ty.size]at h1 h2;omega
 |pair a b' iha ihb=>
  intro d G f0 f1 f2 b h1 h2 h3 hs k1 k2
  simp only[Ty.size]at h1 h2
  have right: ∀{f:Nat},¬f<a.size→Blk (cellAt (.pair a b') d f).1 (cellAt (.pair a b') d f).2 G (f0+f) b→Blk (cellAt b' d.2 (f-a.size)).1 (cellAt b' d.2 (f-a.size)).2 G (f0+a.size+(f-a.size)) b:=by
   intro f hf h
   rw[gk hf]at h
   have e2:f0+a.size+(f-a.size)=f0+f:=by omega
   rw[e2];exact h
  by_cases c1:f1<a.size
  ·rw[fz c1]at k1
   by_cases c2:f2<a.size
   ·rw[fz c2]at k2
    exact iha _ _ _ _ _ _ c1 c2 h3 hs.1 k1 k2
   ·exact hs.2.2 b (bG a d.1 G f0 f1 b c1 k1) (bG b' d.2 G _ _ b (by omega) (right c2 k2))
  ·by_cases c2:f2<a.size
   ·rw[fz c2]at k2
    exact hs.2.2 b (bG a d.1 G f0 f2 b c2 k2) (bG b' d.2 G _ _ b (by omega) (right c1 k1))
   ·exact ihb _ _ _ _ _ _ (by omega) (by omega) (by omega) hs.2.1 (right c1 k1) (right c2 k2)
theorem Bf{t e e':Ty}{xs:List (den t)}{H:Path→Value}{i i' f f':Nat}{ok ok':List Tst}{ys:List (den e)}{zs:List (den e')}(h1:rowAt t xs [(i,f)]=(ok,⟨e,ys⟩))(k1:aN ok)(h2:rowAt t xs [(i',f')]=(ok',⟨e',zs⟩))(k2:aN ok')
  (hf:f'≠f) (hs:bD t xs H) {b:Nat} (b1:aD e ys (fun q=>H ((i,f)::q)) b) (b2:aD e' zs (fun q=>H ((i',f')::q)) b):False:=by
 have one: ∀{e:Ty} {ys:List (den e)} {i f:Nat} {ok:List Tst},rowAt t xs [(i,f)]=(ok,⟨e,ys⟩)→aN ok→aD e ys (fun q=>H ((i,f)::q)) b→
   ∃x,xs[i]?=some x∧f<t.size∧Blk (cellAt t x f).1 (cellAt t x f).2 (fun f p=>H ((i,f)::p)) (0+f) b:=by
  intro e ys i f ok h hok hb
  simp only[rowAt]at h
  have hty:=ja t (D.rd xs i (bm t)) f
  generalize hc:cellAt t (D.rd xs i (bm t)) f=c at h hty
  obtain⟨c,d⟩:=c
  simp only at hty
  cases c with
  |sl e'=>
   simp only[Prod.mk.injEq,Sigma.mk.injEq]at h
   obtain⟨rfl,rfl,h⟩:=h
   obtain rfl:=eq_of_heq h
   obtain⟨hi,_⟩:=af.1 hok
   have hi:i<xs.length:=of_decide_eq_true (show decide (i<xs.length)=true from hi)
   refine⟨D.rd xs i (bm t),dP hi,oO t f e' hty.symm,?_⟩
   rw[hc,Nat.zero_add]
   exact hb
  |_=>
   simp only[Prod.mk.injEq]at h
   obtain⟨rfl,-⟩:=h
   have:=(af.1 hok).1
   simp[Tst.val]at this
 obtain⟨x,x1,x2,x3⟩:=one h1 k1 b1
 obtain⟨y,y1,y2,y3⟩:=one h2 k2 b2
 by_cases hi:i=i'
 ·subst hi
  rw[x1]at y1;injection y1 with y1;subst y1
  exact zE t x _ 0 f f' b x2 y2 (fun e=>hf e.symm) (hs.2.2 i x x1) x3 y3
 ·exact hs.2.1 i i' x y b hi x1 y1 (bG t x _ 0 f b x2 x3) (bG t y _ 0 f' b y2 y3)
end
end Go.Am
end
section
/- Soundness, second part: parts of slices; updates at a path. -/
namespace Go.Am
noncomputable section
attribute [local instance] D.real
def mI(sz:Nat):Option (Nat×Nat)→Value→Value→Prop
 |none,v0,v=>v=v0
 |some (o,l),v0,v=>(v0= .slice none 0 0∧v= .slice none 0 0∧o=0∧l=0)∨
  ∃a n c j,v0= .slice (some a) n c∧v= .slice (some (a.add (j*sz))) l (c-o)∧o+l≤n∧n≤c∧j≤o∧(j=o∨o=c)
def nj(sub:Option (Nat×Nat))(v:Value)(H:Path→Value):Path→Value
 | []=>v
 |(i,f)::q=>H ((cF sub i,f)::q)
theorem add_add(a:Addr)(m n:Nat):(a.add m).add n=a.add (m+n):=by
 unfold Addr.add
 by_cases hm:m=0
 ·by_cases hn:n=0<;>simp[hm,hn]
 ·by_cases hn:n=0
  ·simp[hm,hn]
  ·have:m+n≠0:=by omega
   simp[hm,hn,this,Nat.add_assoc]
theorem mC{a:Addr}(h:a.spot=none)(n:Nat):(a.add n).spot=none:=by
 unfold Addr.add;split<;>simp[h]
theorem yr(a:Addr)(n:Nat):(a.add n).off=a.off+n:=by
 unfold Addr.add;split
 ·next h=>simp[h]
 ·rfl
theorem lF{α:Type}{sub:Option (Nat×Nat)}{xs:List α}{i:Nat}{x:α}(h:(dJ sub xs)[i]?=some x):xs[cF sub i]?=some x:=by
 cases sub with
 |none=>exact h
 |some s=>
  obtain⟨o,l⟩:=s
  change (List.take l (List.drop o xs))[i]?=some x at h
  rw[List.getElem?_take]at h
  split at h
  ·rw[List.getElem?_drop]at h;exact h
  ·cases h
theorem sub_lt{α:Type}{o l:Nat}{xs:List α}{i:Nat}{x:α}(h:(dJ (some (o,l)) xs)[i]?=some x):i<l:=by
 change (List.take l (List.drop o xs))[i]?=some x at h
 rw[List.getElem?_take]at h
 split at h
 ·assumption
 ·cases h
theorem il{w:World}{rw:Bool}{t:Ty}{xs:List (den t)}{H:Path→Value}{sub:Option (Nat×Nat)}{v:Value}
  (h:aS w rw t xs H) (hs:mI t.size sub (H []) v):aS w rw t (dJ sub xs) (nj sub v H):=by
 cases sub with
 |none=>
  have e:v=H []:=hs
  subst e
  rcases h with⟨h0,h1⟩|⟨a,cap,h0,h1,h2,h3⟩
  ·exact .inl ⟨h0,h1⟩
  ·exact .inr ⟨a,cap,h0,h1,h2,fun i x hx=>h3 i x hx⟩
 |some s=>
  obtain⟨o,l⟩:=s
  rcases h with⟨h0,rfl⟩|⟨a,cap,h0,h1,h2,h3⟩
  ·rcases hs with⟨_,hv,rfl,rfl⟩|⟨a,n,c,j,e,_⟩
   ·exact .inl ⟨hv,rfl⟩
   ·rw[h0]at e;cases e
  ·rcases hs with⟨e,_⟩|⟨a',n,c,j,e,hv,hol,hnc,hj,hjo⟩
   ·rw[h0]at e;cases e
   ·rw[h0]at e
    injection e with e1 e2 e3
    injection e1 with e1
    subst e1;subst e2;subst e3
    have hlen:(dJ (some (o,l)) xs).length=l:=by
     change (List.take l (List.drop o xs)).length=l
     simp;omega
    refine .inr ⟨a.add (j*t.size),cap-o,?_,?_,fun hrw hc=> ?_,fun i x hx=> ?_⟩
    ·rw[hlen];exact hv
    ·rw[hlen];omega
    ·obtain⟨s1,arr,te,s2,s3⟩:=h2 hrw (by omega)
     refine⟨mC s1 _,arr,te,by rw[dS];exact s2,?_⟩
     rw[yr]
     have:j*t.size+(cap-o)*t.size≤cap*t.size:=by
      rw[←Nat.add_mul];exact Nat.mul_le_mul_right _ (by omega)
     omega
    ·have hg:=lF hx
     have hil:i<l:=sub_lt hx
     have hjo':j=o:=by omega
     have:=h3 _ _ hg
     have e: ∀f,(a.add (j*t.size)).add (i*t.size+f)=a.add ((cF (some (o,l)) i)*t.size+f):=by
      intro f
      rw[add_add,hjo']
      have:o*t.size+(i*t.size+f)=(o+i)*t.size+f:=by rw[Nat.add_mul];omega
      rw[this];rfl
     simp only[e]
     exact this
theorem eR{t:Ty}{xs:List (den t)}{H:Path→Value}{sub:Option (Nat×Nat)}{v:Value}
  (hs:mI t.size sub (H []) v) {b:Nat} (h:aD t (dJ sub xs) (nj sub v H) b):aD t xs H b:=by
 rcases h with⟨a,n,c,e,hc,rfl⟩|⟨i,x,hx,hb⟩
 ·change v=_ at e
  subst e
  cases sub with
  |none=>exact .inl ⟨a,n,c,hs.symm,hc,rfl⟩
  |some s=>
   rcases hs with⟨_,hv,_⟩|⟨a',n',c',j,h0,hv,_⟩
   ·cases hv
   ·injection hv with hv1 _ hv3
    injection hv1 with hv1
    subst hv1
    exact .inl ⟨a',n',c',h0,by omega,(dS _ _).symm⟩
 ·exact .inr ⟨_,x,lF hx,hb⟩
theorem fx{t:Ty}{xs:List (den t)}{H:Path→Value}{sub:Option (Nat×Nat)}{v:Value}
  (hs:mI t.size sub (H []) v) (h:bD t xs H):bD t (dJ sub xs) (nj sub v H):=by
 obtain⟨h1,h2,h3⟩:=h
 refine⟨fun a n c i x e hc hx hb=> ?_,fun i j x y b hij hx hy hb hb'=> ?_,fun i x hx=>h3 _ _ (lF hx)⟩
 ·change v=_ at e
  subst e
  cases sub with
  |none=>exact h1 a n c _ x hs.symm hc (lF hx) hb
  |some s=>
   rcases hs with⟨_,hv,_⟩|⟨a',n',c',j,h0,hv,_⟩
   ·cases hv
   ·injection hv with hv1 _ hv3
    injection hv1 with hv1
    subst hv1
    rw[dS]at hb
    exact h1 a' n' c' _ x h0 (by omega) (lF hx) hb
 ·refine h2 _ _ x y b (fun e=>hij ?_) (lF hx) (lF hy) hb hb'
  cases sub with
  |none=>exact e
  |some s=>exact Nat.add_left_cancel e
theorem kg: ∀(t:Ty) (d:den t) (G G':Nat→Path→Value) (f b:Nat),(∀g,f≤g→g<f+t.size→G' g=G g)→(Blk t d G' f b↔Blk t d G f b):=by
 intro t
 induction t with
 |pair a b' iha ihb=>
  intro d G G' f b h
  simp only[Ty.size]at h
  have h1:=iha d.1 G G' f b (fun g _ _=>h g (by omega) (by omega))
  have h2:=ihb d.2 G G' (f+a.size) b (fun g _ _=>h g (by omega) (by omega))
  exact⟨fun x=>x.imp h1.1 h2.1,fun x=>x.imp h1.2 h2.2⟩
 |sl e ih=>
  intro d G G' f b h
  have:G' f=G f:=h f (Nat.le_refl _) (by simp[Ty.size])
  show sG _ d (G' f) b↔sG _ d (G f) b
  rw[this]
 |unit=>intros;exact Iff.rfl
 |int k=>intros;exact Iff.rfl
 |bool=>intros;exact Iff.rfl
 |str=>intros;exact Iff.rfl
theorem vu: ∀(t:Ty) (d:den t) (G G':Nat→Path→Value) (f:Nat),(∀g,f≤g→g<f+t.size→G' g=G g)→Sep t d G f→Sep t d G' f:=by
 intro t
 induction t with
 |pair a b' iha ihb=>
  intro d G G' f h hs
  simp only[Ty.size]at h
  have h1: ∀g,f≤g→g<f+a.size→G' g=G g:=fun g _ _=>h g (by omega) (by omega)
  have h2: ∀g,f+a.size≤g→g<f+a.size+b'.size→G' g=G g:=fun g _ _=>h g (by omega) (by omega)
  exact⟨iha _ _ _ _ h1 hs.1,ihb _ _ _ _ h2 hs.2.1,fun bl x y=>hs.2.2 bl ((kg a _ _ _ _ _ h1).1 x) ((kg b' _ _ _ _ _ h2).1 y)⟩
 |sl e ih=>
  intro d G G' f h hs
  have:G' f=G f:=h f (Nat.le_refl _) (by simp[Ty.size])
  show Bl _ _ d (G' f)
  rw[this];exact hs
 |unit=>intros;trivial
 |int k=>intros;trivial
 |bool=>intros;trivial
 |str=>intros;trivial
theorem fK{w:World}{rw:Bool}: ∀(t:Ty) (d:den t) (G G':Nat→Path→Value) (f:Nat) (rd:Nat→Option Value),
  (∀g,f≤g→g<f+t.size→G' g=G g)→Rep w rw t d G f rd→Rep w rw t d G' f rd:=by
 intro t
 induction t with
 |pair a b' iha ihb=>
  intro d G G' f rd h hs
  simp only[Ty.size]at h
  exact⟨iha _ _ _ _ _ (fun g _ _=>h g (by omega) (by omega)) hs.1,ihb _ _ _ _ _ (fun g _ _=>h g (by omega) (by omega)) hs.2⟩
 |sl e ih=>
  intro d G G' f rd h hs
  have:G' f=G f:=h f (Nat.le_refl _) (by simp[Ty.size])
  show rd f=some (G' f [])∧nM _ _ _ _ d (G' f)
  rw[this];exact hs
 |unit=>intros;trivial
 |int k=>intro _ _ _ _ _ _ h;exact h
 |bool=>intro _ _ _ _ _ _ h;exact h
 |str=>intro _ _ _ _ _ _ h;exact h
theorem kG{a b:Ty}{d:den (.pair a b)}{f:Nat}{g:(c:Ty)→den c→den c}(h:f<a.size):bz (.pair a b) d f g=(bz a d.1 f g,d.2):=by
 have:Nat.blt f a.size=true:=by rw[Nat.blt_eq];exact h
 simp[bz,this]
theorem j1{a b:Ty}{d:den (.pair a b)}{f:Nat}{g:(c:Ty)→den c→den c}(h: ¬f<a.size):bz (.pair a b) d f g=(d.1,bz b d.2 (f-a.size) g):=by
 have:Nat.blt f a.size=false:=by
  cases hb:Nat.blt f a.size with
  |false=>rfl
  |true=>rw[Nat.blt_eq]at hb;exact absurd hb h
 simp[bz,this]
abbrev lB(t:Ty)(d:den t)(f:Nat)(G:Nat→Path→Value)(f0 b:Nat):Prop:=Blk (cellAt t d f).1 (cellAt t d f).2 G (f0+f) b
abbrev lA(t:Ty)(d:den t)(f:Nat)(g:(c:Ty)→den c→den c)(G:Nat→Path→Value)(f0 b:Nat):Prop:=Blk (cellAt t d f).1 (g (cellAt t d f).1 (cellAt t d f).2) G (f0+f) b
theorem FY {w w' : World} {rw : Bool} : ∀ (t : Ty) (d : den t) (G G' : Nat → Path → Value) (f0 f : Nat) (rd rd' : Nat → Option Value) (g : (c : Ty) → den c → den c),
    f < t.size → Rep w rw t d G f0 rd → Sep t d G f0 →
    (∀ k, f0 ≤ k → k < f0 + t.size → k ≠ f0 + f → rd' k = rd k) → (∀ k, f0 ≤ k → k < f0 + t.size → k ≠ f0 + f → G' k = G k) →
    (∀ b, Blk t d G f0 b → ¬ lB t d f G f0 b → w'.heap[b]? = w.heap[b]?) →
    Rep w' rw (cellAt t d f).1 (g (cellAt t d f).1 (cellAt t d f).2) G' (f0 + f) rd' → Rep w' rw t (bz t d f g) G' f0 rd' := by
  intro t
  induction t with
  | unit => intro d G G' f0 f rd rd' g hf; simp [Ty.size] at hf
  | pair a b iha ihb =>
    intro d G G' f0 f rd rd' g hf h hs hr hG hb hn
    simp only [Ty.size] at hf hr hG
    by_cases hlt : f < a.size
    · rw [kG hlt]
      rw [fz hlt] at hn
      have hb1 : ∀ bl, Blk (.pair a b) d G f0 bl → ¬ lB a d.1 f G f0 bl → w'.heap[bl]? = w.heap[bl]? := fun bl h1 h2 => hb bl h1 (by unfold lB; rw [fz hlt]; exact h2)
      refine ⟨iha d.1 G G' f0 f rd rd' g hlt h.1 hs.1 (fun k _ _ hk => hr k (by omega) (by omega) hk) (fun k _ _ hk => hG k (by omega) (by omega) hk) (fun bl h1 h2 => hb1 bl (.inl h1) h2) hn, ?_⟩
      refine fK b _ G G' _ _ (fun k _ _ => hG k (by omega) (by omega) (by omega)) (dR b _ G _ rd rd' (fun bl h1 => hb1 bl (.inr h1) fun h2 => ?_) (fun k _ _ => hr k (by omega) (by omega) (by omega)) h.2)
      exact hs.2.2 bl (bG a _ _ _ _ _ hlt h2) h1
    · rw [j1 hlt]
      rw [gk hlt] at hn
      have e2 : f0 + a.size + (f - a.size) = f0 + f := by omega
      have hb1 : ∀ bl, Blk (.pair a b) d G f0 bl → ¬ lB b d.2 (f - a.size) G (f0 + a.size) bl → w'.heap[bl]? = w.heap[bl]? := fun bl h1 h2 => hb bl h1 (by unfold lB; rw [gk hlt, ← e2]; exact h2)
      refine ⟨?_, ihb d.2 G G' (f0 + a.size) (f - a.size) rd rd' g (by omega) h.2 hs.2.1 (fun k _ _ hk => hr k (by omega) (by omega) (by omega)) (fun k _ _ hk => hG k (by omega) (by omega) (by omega)) (fun bl h1 h2 => hb1 bl (.inr h1) h2) (by rw [e2]; exact hn)⟩
      refine fK a _ G G' _ _ (fun k _ _ => hG k (by omega) (by omega) (by omega)) (dR a _ G _ rd rd' (fun bl h1 => hb1 bl (.inl h1) fun h2 => ?_) (fun k _ _ => hr k (by omega) (by omega) (by omega)) h.1)
      exact hs.2.2 bl h1 (bG b _ _ _ _ _ (by omega) h2)
  | int k => intro d G G' f0 f rd rd' g hf h hs hr hG hb hn; simp only [Ty.size] at hf; obtain rfl : f = 0 := by omega
             exact hn
  | bool => intro d G G' f0 f rd rd' g hf h hs hr hG hb hn; simp only [Ty.size] at hf; obtain rfl : f = 0 := by omega
            exact hn
  | str => intro d G G' f0 f rd rd' g hf h hs hr hG hb hn; simp only [Ty.size] at hf; obtain rfl : f = 0 := by omega
           exact hn
  | sl e => intro d G G' f0 f rd rd' g hf h hs hr hG hb hn; simp only [Ty.size] at hf; obtain rfl : f = 0 := by omega
            exact hn
theorem tT: ∀(t:Ty) (d:den t) (G G':Nat→Path→Value) (f0 f:Nat) (g:(c:Ty)→den c→den c) (b:Nat),
  f<t.size→Sep t d G f0→(∀k,f0≤k→k<f0+t.size→k≠f0+f→G' k=G k)→
  Blk t (bz t d f g) G' f0 b→lA t d f g G' f0 b∨(Blk t d G f0 b∧ ¬lB t d f G f0 b):=by
 intro t
 induction t with
 |unit=>intro d G G' f0 f g b hf;simp[Ty.size]at hf
 |pair a b' iha ihb=>
  intro d G G' f0 f g b hf hs hG h
  simp only[Ty.size]at hf hG
  by_cases hlt:f<a.size
  ·rw[kG hlt]at h
   unfold lA lB
   rw[fz hlt]
   rcases h with h|h
   ·rcases iha d.1 G G' f0 f g b hlt hs.1 (fun k _ _ hk=>hG k (by omega) (by omega) hk) h with h|⟨h1,h2⟩
    ·exact .inl h
    ·exact .inr ⟨.inl h1,h2⟩
   ·have h:=(kg b' d.2 G G' _ _ (fun k _ _=>hG k (by omega) (by omega) (by omega))).1 h
    exact .inr ⟨.inr h,fun h2=>hs.2.2 b (bG a _ _ _ _ _ hlt h2) h⟩
  ·rw[j1 hlt]at h
   unfold lA lB
   rw[gk hlt]
   have e2:f0+a.size+(f-a.size)=f0+f:=by omega
   rcases h with h|h
   ·have h:=(kg a d.1 G G' _ _ (fun k _ _=>hG k (by omega) (by omega) (by omega))).1 h
    exact .inr ⟨.inl h,fun h2=>hs.2.2 b h (bG b' _ _ _ (f-a.size) _ (by omega) (by rw[e2];exact h2))⟩
   ·rcases ihb d.2 G G' (f0+a.size) (f-a.size) g b (by omega) hs.2.1 (fun k _ _ hk=>hG k (by omega) (by omega) (by omega)) h with h|⟨h1,h2⟩
    ·unfold lA at h;rw[e2]at h;exact .inl h
    ·unfold lB at h2;rw[e2]at h2;exact .inr ⟨.inr h1,h2⟩
 |int k=>intro d G G' f0 f g b hf hs hG h;exact h.elim
 |bool=>intro d G G' f0 f g b hf hs hG h;exact h.elim
 |str=>intro d G G' f0 f g b hf hs hG h;exact h.elim
 |sl e=>
      intro d G G' f0 f g b hf hs hG h;simp only[Ty.size]at hf;obtain rfl:f=0:=by omega
      exact .inl h
theorem Gn: ∀(t:Ty) (d:den t) (G G':Nat→Path→Value) (f0 f:Nat) (g:(c:Ty)→den c→den c),
  f<t.size→Sep t d G f0→(∀k,f0≤k→k<f0+t.size→k≠f0+f→G' k=G k)→
  Sep (cellAt t d f).1 (g (cellAt t d f).1 (cellAt t d f).2) G' (f0+f)→(∀b,lA t d f g G' f0 b→lB t d f G f0 b∨ ¬Blk t d G f0 b)→
  Sep t (bz t d f g) G' f0:=by
 intro t
 induction t with
 |unit=>intro d G G' f0 f g hf;simp[Ty.size]at hf
 |pair a b' iha ihb=>
  intro d G G' f0 f g hf hs hG hn hb
  simp only[Ty.size]at hf hG
  by_cases hlt:f<a.size
  ·rw[kG hlt]
   unfold lA lB at hb
   rw[fz hlt]at hn hb
   have hGa: ∀k,f0≤k→k<f0+a.size→k≠f0+f→G' k=G k:=fun k _ _ hk=>hG k (by omega) (by omega) hk
   have hGb: ∀k,f0+a.size≤k→k<f0+a.size+b'.size→G' k=G k:=fun k _ _=>hG k (by omega) (by omega) (by omega)
   refine⟨iha d.1 G G' f0 f g hlt hs.1 hGa hn (fun b h=>(hb b h).imp id fun h1 h2=>h1 (.inl h2)),vu b' _ _ _ _ hGb hs.2.1,fun bl h1 h2=> ?_⟩
   have h2:=(kg b' d.2 G G' _ _ hGb).1 h2
   rcases tT a d.1 G G' f0 f g bl hlt hs.1 hGa h1 with h1|⟨h1,_⟩
   ·rcases hb bl h1 with h3|h3
    ·exact hs.2.2 bl (bG a _ _ _ _ _ hlt h3) h2
    ·exact h3 (.inr h2)
   ·exact hs.2.2 bl h1 h2
  ·rw[j1 hlt]
   unfold lA lB at hb
   rw[gk hlt]at hn hb
   have e2:f0+a.size+(f-a.size)=f0+f:=by omega
   have hGb: ∀k,f0+a.size≤k→k<f0+a.size+b'.size→k≠f0+a.size+(f-a.size)→G' k=G k:=fun k _ _ hk=>hG k (by omega) (by omega) (by omega)
   have hGa: ∀k,f0≤k→k<f0+a.size→G' k=G k:=fun k _ _=>hG k (by omega) (by omega) (by omega)
   rw[←e2]at hn hb
   refine⟨vu a _ _ _ _ hGa hs.1,ihb d.2 G G' (f0+a.size) (f-a.size) g (by omega) hs.2.1 hGb hn (fun b h=>(hb b h).imp id fun h1 h2=>h1 (.inr h2)),fun bl h1 h2=> ?_⟩
   have h1:=(kg a d.1 G G' _ _ hGa).1 h1
   rcases tT b' d.2 G G' (f0+a.size) (f-a.size) g bl (by omega) hs.2.1 hGb h2 with h2|⟨h2,_⟩
   ·rcases hb bl h2 with h3|h3
    ·exact hs.2.2 bl h1 (bG b' _ _ _ _ _ (by omega) h3)
    ·exact h3 (.inl h1)
   ·exact hs.2.2 bl h1 h2
 |int k=>intros;trivial
 |bool=>intros;trivial
 |str=>intros;trivial
 |sl e=>
      intro d G G' f0 f g hf hs hG hn hb;simp only[Ty.size]at hf;obtain rfl:f=0:=by omega
      exact hn
end
end Go.Am
end
section
/- Soundness, third part: updates of a row at a path. -/
namespace Go.Am
noncomputable section
attribute [local instance] D.real
abbrev atI(H:Path→Value)(i:Nat):Nat→Path→Value:=fun f p=>H ((i,f)::p)
section
variable {w w' : World} {rw : Bool} {t : Ty} {xs : List (den t)} {H H' : Path → Value} {i f : Nat} {g : (c : Ty) → den c → den c}
theorem fH{α:Type}{xs:List α}{i j:Nat}{x y:α}(h:(xs.set i x)[j]?=some y):(j=i∧i<xs.length∧y=x)∨(j≠i∧xs[j]?=some y):=by
 rw[List.getElem?_set]at h
 split at h
 ·next e=>
  split at h
  ·next hl=>injection h with h;exact .inl ⟨e.symm,hl,h.symm⟩
  ·cases h
 ·next e=>exact .inr ⟨fun x=>e x.symm,h⟩
theorem zn(hi:i<xs.length)(hf:f<t.size)(h:aS w rw t xs H)(hs:bD t xs H)(h0:H' []=H [])
  (hH: ∀j k q,(j,k)≠(i,f)→H' ((j,k)::q)=H ((j,k)::q))
  (hc: ∀a n c,H []= .slice (some a) n c→(∀j k,j<xs.length→k<t.size→(j,k)≠(i,f)→w'.cell? (a.add (j*t.size+k))=w.cell? (a.add (j*t.size+k)))∧
   (rw=true→ ∀arr te,w.heap[a.block]?=some (.cells arr te (0,0))→ ∃arr',w'.heap[a.block]?=some (.cells arr' te (0,0))∧arr'.size=arr.size))
  (hb: ∀b j x,xs[j]?=some x→Blk t x (atI H j) 0 b→ ¬lB t (xs.getD i (bm t)) f (atI H i) 0 b→w'.heap[b]?=w.heap[b]?)
  (hn: ∀a n c,H []= .slice (some a) n c→Rep w' rw (cellAt t (xs.getD i (bm t)) f).1 (g (cellAt t (xs.getD i (bm t)) f).1 (cellAt t (xs.getD i (bm t)) f).2) (atI H' i) (0+f) (fun k=>w'.cell? (a.add (i*t.size+k)))):
  aS w' rw t (xs.set i (bz t (xs.getD i (bm t)) f g)) H':=by
 have hget:xs[i]?=some (xs.getD i (bm t)):=dP hi
 rcases h with⟨_,rfl⟩|⟨a,cap,hH0,hle,hg,hx⟩
 ·simp at hi
 ·obtain⟨hc1,hc2⟩:=hc a _ _ hH0
  refine .inr ⟨a,cap,by rw[h0,hH0,List.length_set],by rw[List.length_set];exact hle,fun hrw hcap=> ?_,fun j x hj=> ?_⟩
  ·obtain⟨s1,arr,te,s2,s3⟩:=hg hrw hcap
   obtain⟨arr',s4,s5⟩:=hc2 hrw arr te s2
   exact⟨s1,arr',te,s4,by omega⟩
  ·rcases fH hj with⟨rfl,_,rfl⟩|⟨hji,hj⟩
   ·refine FY t _ (atI H j) _ 0 f _ _ g hf (hx j _ hget) (hs.2.2 j _ hget) (fun k _ h2 hk=>hc1 j k hi (by omega) (fun e=>hk (by injection e;omega))) (fun k _ h2 hk=> ?_) (fun b h1 h2=>hb b j _ hget h1 h2) (hn a _ _ hH0)
    funext q
    exact hH j k q (fun e=>hk (by injection e;omega))
   ·have hlt:j<xs.length:=by
     rcases Nat.lt_or_ge j xs.length with h|h
     ·exact h
     ·rw[List.getElem?_eq_none h]at hj;cases hj
    have ne: ∀k,(j,k)≠(i,f):=fun k e=>hji (by injection e)
    refine fK t _ (atI H j) _ 0 _ (fun k _ _=>funext fun q=>hH j k q (ne k)) (dR t _ (atI H j) 0 _ _ (fun b hbb=>hb b j x hj hbb fun h2=> ?_) (fun k _ hk=>hc1 j k hlt (by omega) (ne k)) (hx j x hj))
    exact hs.2.1 j i x _ b hji hj hget hbb (bG t _ _ 0 f b hf h2)
theorem AI(hi:i<xs.length)(hf:f<t.size)(hs:bD t xs H)(h0:H' []=H [])
  (hH: ∀j k q,(j,k)≠(i,f)→H' ((j,k)::q)=H ((j,k)::q)) {b:Nat} (h:aD t (xs.set i (bz t (xs.getD i (bm t)) f g)) H' b):
  lA t (xs.getD i (bm t)) f g (atI H' i) 0 b∨(aD t xs H b∧ ¬lB t (xs.getD i (bm t)) f (atI H i) 0 b):=by
 have hget:xs[i]?=some (xs.getD i (bm t)):=dP hi
 rcases h with⟨a,n,c,e,hcap,rfl⟩|⟨j,x,hj,hb⟩
 ·rw[h0]at e
  exact .inr ⟨.inl ⟨a,n,c,e,hcap,rfl⟩,fun h2=>hs.1 a n c i _ e hcap hget (bG t _ _ 0 f _ hf h2)⟩
 ·rcases fH hj with⟨rfl,_,rfl⟩|⟨hji,hj⟩
  ·rcases tT t _ (atI H j) _ 0 f g b hf (hs.2.2 j _ hget) (fun k _ h2 hk=>funext fun q=>hH j k q (fun e=>hk (by injection e;omega))) hb with h|⟨h1,h2⟩
   ·exact .inl h
   ·exact .inr ⟨.inr ⟨j,_,hget,h1⟩,h2⟩
  ·have ne: ∀k,(j,k)≠(i,f):=fun k e=>hji (by injection e)
   have hb:=(kg t x (atI H j) _ 0 b (fun k _ _=>funext fun q=>hH j k q (ne k))).1 hb
   exact .inr ⟨.inr ⟨j,x,hj,hb⟩,fun h2=>hs.2.1 j i x _ b hji hj hget hb (bG t _ _ 0 f b hf h2)⟩
theorem Aj(hi:i<xs.length)(hf:f<t.size)(hs:bD t xs H)(h0:H' []=H [])
  (hH: ∀j k q,(j,k)≠(i,f)→H' ((j,k)::q)=H ((j,k)::q))
  (hn:Sep (cellAt t (xs.getD i (bm t)) f).1 (g (cellAt t (xs.getD i (bm t)) f).1 (cellAt t (xs.getD i (bm t)) f).2) (atI H' i) (0+f))
  (hb: ∀b,lA t (xs.getD i (bm t)) f g (atI H' i) 0 b→lB t (xs.getD i (bm t)) f (atI H i) 0 b∨ ¬aD t xs H b):
  bD t (xs.set i (bz t (xs.getD i (bm t)) f g)) H':=by
 have hget:xs[i]?=some (xs.getD i (bm t)):=dP hi
 have hGi: ∀k,0≤k→k<0+t.size→k≠0+f→atI H' i k=atI H i k:=fun k _ h2 hk=>funext fun q=>hH i k q (fun e=>hk (by injection e;omega))
 have old: ∀j x b,(xs.set i (bz t (xs.getD i (bm t)) f g))[j]?=some x→Blk t x (atI H' j) 0 b→
   (j=i∧lA t (xs.getD i (bm t)) f g (atI H' i) 0 b)∨ ∃y,xs[j]?=some y∧Blk t y (atI H j) 0 b∧(j=i→ ¬lB t (xs.getD i (bm t)) f (atI H i) 0 b):=by
  intro j x b hj hbb
  rcases fH hj with⟨rfl,_,rfl⟩|⟨hji,hj⟩
  ·rcases tT t _ (atI H j) _ 0 f g b hf (hs.2.2 j _ hget) hGi hbb with h|⟨h1,h2⟩
   ·exact .inl ⟨rfl,h⟩
   ·exact .inr ⟨_,hget,h1,fun _=>h2⟩
  ·have ne: ∀k,(j,k)≠(i,f):=fun k e=>hji (by injection e)
   exact .inr ⟨x,hj,(kg t x (atI H j) _ 0 b (fun k _ _=>funext fun q=>hH j k q (ne k))).1 hbb,fun e=>absurd e hji⟩
 refine⟨fun a n c j x e hcap hj hbb=> ?_,fun j k x y b hjk hj hk hbj hbk=> ?_,fun j x hj=> ?_⟩
 ·rw[h0]at e
  rcases old j x _ hj hbb with⟨rfl,h⟩|⟨y,hy,h,_⟩
  ·rcases hb _ h with h|h
   ·exact hs.1 a n c j _ e hcap hget (bG t _ _ 0 f _ hf h)
   ·exact h (.inl ⟨a,n,c,e,hcap,rfl⟩)
  ·exact hs.1 a n c j y e hcap hy h
 ·have key: ∀j k (y:den t),j≠k→j=i→lA t (xs.getD i (bm t)) f g (atI H' i) 0 b→xs[k]?=some y→Blk t y (atI H k) 0 b→False:=by
   intro j k y hjk hji h hy h'
   rcases hb _ h with h|h
   ·exact hs.2.1 i k _ y b (by omega) hget hy (bG t _ _ 0 f _ hf h) h'
   ·exact h (.inr ⟨k,y,hy,h'⟩)
  rcases old j x b hj hbj with⟨ej,h⟩|⟨x',hx',h,_⟩
  ·rcases old k y b hk hbk with⟨ek,h'⟩|⟨y',hy',h',_⟩
   ·omega
   ·exact key j k y' hjk ej h hy' h'
  ·rcases old k y b hk hbk with⟨ek,h'⟩|⟨y',hy',h',_⟩
   ·exact key k j x' (fun e=>hjk e.symm) ek h' hx' h
   ·exact hs.2.1 j k x' y' b hjk hx' hy' h h'
 ·rcases fH hj with⟨rfl,_,rfl⟩|⟨hji,hj⟩
  ·exact Gn t _ (atI H j) _ 0 f g hf (hs.2.2 j _ hget) hGi hn (fun b h=>(hb b h).imp id fun h1 h2=>h1 (.inr ⟨j,_,hget,h2⟩))
  ·have ne: ∀k,(j,k)≠(i,f):=fun k e=>hji (by injection e)
   exact vu t x (atI H j) _ 0 (fun k _ _=>funext fun q=>hH j k q (ne k)) (hs.2.2 j x hj)
end
def cR:Path→(Path→Value)→(Path→Value)→Path→Value
 | [],H2,_=>H2
 |(i,f)::p,H2,H=>fun q=>match q with
  | []=>H []
  |(j,k)::q=>if j=i∧k=f then cR p H2 (fun q=>H ((i,f)::q)) q else H ((j,k)::q)
theorem vp: ∀(p:Path) (H2 H:Path→Value) (q:Path),q.length<p.length→cR p H2 H q=H q
 | [],_,_,_,h=>by simp at h
 |(i,f)::p,H2,H,[],_=>rfl
 |(i,f)::p,H2,H,(j,k)::q,h=>by
  simp only[cR]
  split
  ·next e=>rw[vp p _ _ q (by simpa using h),e.1,e.2]
  ·rfl
theorem kR: ∀(p:Path) (H:Path→Value),cR p (fun q=>H (p++q)) H=H
 | [],_=>rfl
 |(i,f)::p,H=>by
  funext q
  cases q with
  |nil=>rfl
  |cons x q=>
   obtain⟨j,k⟩:=x
   simp only[cR]
   split
   ·next e=>
    have:=congrFun (kR p (fun q=>H ((i,f)::q))) q
    rw[e.1,e.2];exact this
   ·rfl
theorem As{w w':World}{rw:Bool}(F:(e:Ty)→List (den e)→List (den e)): ∀(p:Path) (t:Ty) (xs:List (den t)) (H:Path→Value) (ok:List Tst) (e:Ty) (ys:List (den e)) (H2:Path→Value),
  rowAt t xs p=(ok,⟨e,ys⟩)→aN ok→aS w rw t xs H→bD t xs H→H2 []=H p→
  aS w' rw e (F e ys) H2→bD e (F e ys) H2→
  (∀b,aD t xs H b→ ¬aD e ys (fun q=>H (p++q)) b→w'.heap[b]?=w.heap[b]?)→
  (∀b,aD e (F e ys) H2 b→aD e ys (fun q=>H (p++q)) b∨ ¬aD t xs H b)→
  aS w' rw t (ir t xs p F) (cR p H2 H)∧bD t (ir t xs p F) (cR p H2 H)∧
   ∀b,aD t (ir t xs p F) (cR p H2 H) b→aD e (F e ys) H2 b∨(aD t xs H b∧ ¬aD e ys (fun q=>H (p++q)) b):=by
 intro p
 induction p with
 |nil=>
  intro t xs H ok e ys H2 h _ _ _ _ hr hs _ _
  simp only[rowAt,Prod.mk.injEq,Sigma.mk.injEq]at h
  obtain⟨-,rfl,h⟩:=h
  obtain rfl:=eq_of_heq h
  exact⟨hr,hs,fun b hb=> .inl hb⟩
 |cons q p ih=>
  intro t xs H ok e ys H2 h hok hr hs h20 hr2 hs2 hfr hbl
  obtain⟨i,f⟩:=q
  have hpath:=gH (w:=w) (rw:=rw) ((i,f)::p) t xs H ok e ys h hok hr
  simp only[rowAt]at h
  have hty:=ja t (D.rd xs i (bm t)) f
  have hmod:ir t xs ((i,f)::p) F=xs.set i (bz t (xs.getD i (bm t)) f fun c=>match c with
   | .sl e=>fun ys=>ir e ys p F
   |_=>fun d=>d):=rfl
  rw[hmod]
  generalize hgg:(fun(c:Ty)=>(match c with
   | .sl e=>fun ys=>ir e ys p F
   |_=>fun d=>d:den c→den c))=g
  have hgsl: ∀e' (zs:List (den e')),g (.sl e') zs=ir e' zs p F:=by intro e' zs;rw[←hgg]
  have hcell:cellAt t (D.rd xs i (bm t)) f=cellAt t (xs.getD i (bm t)) f:=rfl
  rw[hcell]at h hty
  generalize hc:cellAt t (xs.getD i (bm t)) f=c at h hty
  obtain⟨c,d⟩:=c
  simp only at hty
  cases c with
  |sl e'=>
   simp only at h
   generalize hra:rowAt e' d p=ra at h
   obtain⟨ok',e'',ys'⟩:=ra
   simp only[Prod.mk.injEq,Sigma.mk.injEq]at h
   obtain⟨rfl,rfl,h⟩:=h
   obtain rfl:=eq_of_heq h
   obtain⟨hi,hok'⟩:=af.1 hok
   have hi:i<xs.length:=of_decide_eq_true (show decide (i<xs.length)=true from hi)
   have hf:f<t.size:=oO t f e' hty.symm
   have hget:xs[i]?=some (xs.getD i (bm t)):=dP hi
   obtain⟨a,cap,hH0,hle,hg,hx⟩: ∃a cap,H []= .slice (some a) xs.length cap∧xs.length≤cap∧
     (rw=true→cap≠0→a.spot=none∧ ∃arr te,w.heap[a.block]?=some (.cells arr te (0,0))∧a.off+cap*t.size≤arr.size)∧
     ∀i (x:den t),xs[i]?=some x→Rep w rw t x (fun f p=>H ((i,f)::p)) 0 (fun f=>w.cell? (a.add (i*t.size+f))):=by
    rcases hr with⟨_,rfl⟩|h
    ·simp at hi
    ·exact h
   have h1:=ur t _ _ 0 f _ hf (hx i _ hget)
   rw[hc]at h1
   simp only[Nat.zero_add]at h1
   obtain⟨h2,h3⟩:=h1
   have h4:=vI t _ _ 0 f hf (hs.2.2 i _ hget)
   rw[hc]at h4
   simp only[Nat.zero_add]at h4
   have hcb: ∀b,lB t (xs.getD i (bm t)) f (atI H i) 0 b↔aD e' d (fun q=>H ((i,f)::q)) b:=by
    intro b
    unfold lB
    rw[hc]
    simp only[Nat.zero_add]
    exact Iff.rfl
   have hin: ∀b,aD e' d (fun q=>H ((i,f)::q)) b→aD t xs H b:=fun b hb=>
    .inr ⟨i,_,hget,bG t _ _ 0 f b hf ((hcb b).2 hb)⟩
   have hpin: ∀b,aD e'' ys' (fun q=>H ((i,f)::p++q)) b→aD e' d (fun q=>H ((i,f)::q)) b:=
    (gH (w:=w) (rw:=rw) p e' d (fun q=>H ((i,f)::q)) ok' e'' ys' hra hok' h3).2.2.1
   obtain⟨r1,r2,r3⟩:=ih e' d (fun q=>H ((i,f)::q)) ok' e'' ys' H2 hra hok' h3 h4 h20 hr2 hs2
    (fun b hb hnb=>hfr b (hin b hb) hnb) (fun b hb=>(hbl b hb).imp id fun hn hb=>hn (hin b hb))
   have hown:w'.heap[a.block]?=w.heap[a.block]?:=hfr _ (.inl ⟨a,_,_,hH0,by omega,rfl⟩) fun hb=>
    hs.1 a _ _ i _ hH0 (by omega) hget (bG t _ _ 0 f _ hf ((hcb _).2 (hpin _ hb)))
   have hcell': ∀n,w'.cell? (a.add n)=w.cell? (a.add n):=fun n=>gp (by rw[dS];exact hown)
   have h0:cR ((i,f)::p) H2 H []=H []:=rfl
   have hH: ∀j k q,(j,k)≠(i,f)→cR ((i,f)::p) H2 H ((j,k)::q)=H ((j,k)::q):=by
    intro j k q hne
    simp only[cR]
    rw[if_neg (fun e=>hne (by rw[e.1,e.2]))]
   have hat:(fun q=>cR ((i,f)::p) H2 H ((i,f)::q))=cR p H2 (fun q=>H ((i,f)::q)):=by
    funext q;simp[cR]
   have hnb: ∀b,lA t (xs.getD i (bm t)) f g (atI (cR ((i,f)::p) H2 H) i) 0 b↔aD e' (ir e' d p F) (cR p H2 (fun q=>H ((i,f)::q))) b:=by
    intro b
    unfold lA
    rw[hc]
    simp only[Nat.zero_add,hgsl]
    show sG _ _ (fun q=>cR ((i,f)::p) H2 H ((i,f)::q)) b↔_
    rw[hat]
   have hh0:cR p H2 (fun q=>H ((i,f)::q)) []=H [(i,f)]:=by
    cases p with
    |nil=>exact h20
    |cons x p=>obtain⟨j,k⟩:=x;rfl
   refine⟨zn hi hf hr hs h0 hH ?_ ?_ ?_,Aj hi hf hs h0 hH ?_ ?_,fun b hb=> ?_⟩
   ·intro a' n c e
    rw[hH0]at e;injection e with e;injection e with e;subst e
    exact⟨fun j k _ _ _=>hcell' _,fun _ arr te h=>⟨arr,hown.trans h,rfl⟩⟩
   ·intro b j x hj hb hnc
    refine hfr b (.inr ⟨j,x,hj,hb⟩) fun h=>hnc ((hcb b).2 (hpin b h))
   ·intro a' n c e
    rw[hH0]at e;injection e with e;injection e with e;subst e
    rw[hc]
    simp only[Nat.zero_add,hgsl]
    refine⟨?_,?_⟩
    ·show w'.cell? _=some (cR ((i,f)::p) H2 H ((i,f):: []))
     have:=congrFun hat []
     rw[this,hh0,hcell']
     exact h2
    ·show aS w' rw e' (ir e' d p F) (fun q=>cR ((i,f)::p) H2 H ((i,f)::q))
     rw[hat];exact r1
   ·rw[hc]
    simp only[Nat.zero_add,hgsl]
    show bD e' (ir e' d p F) (fun q=>cR ((i,f)::p) H2 H ((i,f)::q))
    rw[hat];exact r2
   ·intro b hb
    rcases r3 b ((hnb b).1 hb)with h|⟨h,_⟩
    ·rcases hbl b h with h|h
     ·exact .inl ((hcb b).2 (hpin b h))
     ·exact .inr h
    ·exact .inl ((hcb b).2 h)
   ·rcases AI hi hf hs h0 hH hb with h|⟨h1,h2⟩
    ·rcases r3 b ((hnb b).1 h)with h|⟨h,h'⟩
     ·exact .inl h
     ·exact .inr ⟨hin b h,h'⟩
    ·exact .inr ⟨h1,fun h=>h2 ((hcb b).2 (hpin b h))⟩
  |_=>
   simp only[Prod.mk.injEq]at h
   obtain⟨rfl,-⟩:=h
   have:=(af.1 hok).1
   simp[Tst.val]at this
end
end Go.Am
end
section
/- Soundness, fourth part: values, roots, the relation of the machine's state to the world. -/
namespace Go.Am
noncomputable section
attribute [local instance] D.real
def blank(w:World)(lent:Nat→Prop):World:=
 open Classical in{w with heap:=w.heap.mapIdx fun i o=>if lent i then .cells #[] 0 (0,0)else o}
theorem fc(w:World)(lent:Nat→Prop):(blank w lent).heap.size=w.heap.size:=by simp[blank]
theorem cZ{w:World}{lent:Nat→Prop}{b:Nat}(h: ¬lent b):(blank w lent).heap[b]?=w.heap[b]?:=by
 simp[blank,h]
theorem zl(w:World)(lent:Nat→Prop)(a:Addr)(h:lent a.block):(blank w lent).cell? a=none:=by
 have e:(blank w lent).heap[a.block]?=(w.heap[a.block]?).map fun _=> .cells #[] 0 (0,0):=by
  simp[blank,h]
 unfold World.cell?
 rw[e]
 cases w.heap[a.block]? with
 |none=>rfl
 |some o=>simp
theorem rT{w:World}{lent:Nat→Prop}{b:Nat}{o:Obj}(h:lent b)(k:(blank w lent).heap[b]?=some o):o.isCells=true:=by
 have e:(blank w lent).heap[b]?=(w.heap[b]?).map fun _=> .cells #[] 0 (0,0):=by
  simp[blank,h]
 rw[e]at k
 cases hw:w.heap[b]? with
 |none=>rw[hw]at k;cases k
 |some x=>rw[hw]at k;injection k with k;subst k;rfl
theorem nf{w:World}{lent:Nat→Prop}{a:Addr}{v:Value}(h:(blank w lent).cell? a=some v):w.cell? a=some v∧ ¬lent a.block:=by
 by_cases hl:lent a.block
 ·rw[zl w lent a hl]at h;cases h
 ·exact⟨(World.cell?_of_block (cZ hl)).symm.trans h,hl⟩
theorem n4{w:World}{lent:Nat→Prop}{a:Addr}{v:Value}(h:w.cell? a=some v)(hl: ¬lent a.block):(blank w lent).cell? a=some v:=
 (World.cell?_of_block (cZ hl)).trans h
def Rds(r:World)(b:Nat):Prop:= ∃a v,a.block=b∧r.cell? a=some v
def pq(r w:World)(S:Nat→Prop):World:=blank w fun b=> ¬(Rds r b∨S b)
theorem iZ{r w:World}{S:Nat→Prop}{a:Addr}{v:Value}(h:(pq r w S).cell? a=some v):w.cell? a=some v∧(Rds r a.block∨S a.block):=by
 obtain⟨h1,h2⟩:=nf h
 exact⟨h1,Classical.not_not.1 h2⟩
theorem jx{r w:World}{S:Nat→Prop}{a:Addr}{v:Value}(h:w.cell? a=some v)(k:Rds r a.block∨S a.block):(pq r w S).cell? a=some v:=
 n4 h fun h'=>h' k
structure Info where
  b : Nat
  H : Path → Value
  S : Nat → Prop
abbrev aB:=Nat→Info
def bI:ak→Option Ty
 | .row _ t _=>some t
 | .pend _ _ t _=>some t
 | .half t _=>some t
 | .sh t _=>some t
 |_=>none
def isVar:ak→Bool
 | .var _=>true
 |_=>false
mutual
def ae(get:Get)(g:aB):AV→Value→Prop
 | .undef,_=>True
 | .int k n,v=>v= .int k n
 | .bool b,v=>v= .bool b
 | .kb b,v=>v= .bool b
 | .ki k n,v=>v= .int k n
 | .nb n,v=> ∃b,v= .bool b∧(n≠0→b=false)
 | .str s,v=>v= .string s
 | .nilS,v=>v= .slice none 0 0
 | .sl r p sub,v=>(∃a n c,v= .slice a n c)∧ ∀t e,bI (get r)=some t→typeAt t p=some e→mI e.size sub ((g r).H p) v
 | .pv r c,v=>(∃a,v= .pointer (some a))∧(isVar (get r)=true→v= .pointer (some ⟨(g r).b,c,none⟩))
 | .lit r n,v=>(∃a m c,v= .slice a m c)∧(isVar (get r)=true→v= .slice (some ⟨(g r).b,0,none⟩) n n)
 | .pe r p i f,v=>(∃a,v= .pointer (some a))∧ ∀t e,bI (get r)=some t→typeAt t p=some e→
   ∃a n cap,(g r).H p= .slice (some a) n cap∧v= .pointer (some (a.add (i*e.size+f)))
 | .fn f a b,v=> ∃vs ws,v= .func (.func f) vs ws∧ai get g a vs.toList∧ai get g b ws.toList
 | .agg cs,v=> ∃vs,v= .agg vs∧(∀x∈vs.toList,x.oneCell'=true)∧ai get g cs vs.toList
 | .tup ws,v=> ∃vs,v= .tuple vs∧ai get g ws vs.toList
def ai(get:Get)(g:aB):List AV→List Value→Prop
 | [],l=>l= []
 |v::vs,l=> ∃x xs,l=x::xs∧ae get g v x∧ai get g vs xs
end
theorem cW{get:Get}{g:aB}: ∀{vs:List AV} {l:List Value},ai get g vs l→l.length=vs.length
 | [],_,h=>by rw[ai]at h;simp[h]
 |v::vs,_,h=>by
  rw[ai]at h
  obtain⟨x,xs,rfl,_,h⟩:=h
  simp[cW h]
theorem bK{get:Get}{g:aB}: ∀{vs:List AV} {l:List Value} {i:Nat} {v:AV},ai get g vs l→vs[i]?=some v→ ∃x,l[i]?=some x∧ae get g v x
 | [],_,_,_,_,e=>by simp at e
 |v::vs,_,i,u,h,e=>by
  rw[ai]at h
  obtain⟨x,xs,rfl,h0,h⟩:=h
  cases i with
  |zero=>simp only[List.getElem?_cons_zero,Option.some.injEq]at e;subst e;exact⟨x,rfl,h0⟩
  |succ i=>simpa using bK h (by simpa using e)
theorem cK{get:Get}{g:aB}: ∀{vs us:List AV} {l m:List Value},ai get g vs l→ai get g us m→ai get g (vs++us) (l++m)
 | [],_,_,_,h,k=>by rw[ai]at h;subst h;exact k
 |v::vs,us,_,m,h,k=>by
  rw[ai]at h
  obtain⟨x,xs,rfl,h0,h⟩:=h
  show ai get g (v::(vs++us)) _
  rw[ai]
  exact⟨x,xs++m,rfl,h0,cK h k⟩
theorem gd{get:Get}{g:aB}: ∀(n:Nat) {vs:List AV} {l:List Value},ai get g vs l→ai get g (vs.drop n) (l.drop n)
 |0,_,_,h=>h
 |n+1,[],_,h=>by rw[ai]at h;subst h;simp[ai]
 |n+1,v::vs,_,h=>by
  rw[ai]at h
  obtain⟨x,xs,rfl,_,h⟩:=h
  exact gd n h
theorem fZ{get:Get}{g:aB}: ∀(n:Nat) {vs:List AV} {l:List Value},ai get g vs l→ai get g (vs.take n) (l.take n)
 |0,_,_,h=>by simp[ai]
 |n+1,[],_,h=>by rw[ai]at h;subst h;simp[ai]
 |n+1,v::vs,_,h=>by
  rw[ai]at h
  obtain⟨x,xs,rfl,h0,h⟩:=h
  simp only[List.take_succ_cons]
  rw[ai]
  exact⟨x,_,rfl,h0,fZ n h⟩
structure Holds (get get' : Get) (g g' : aB) (r : Nat) (ok : Path → Prop) : Prop where
  row : ∀ t, bI (get' r) = some t → bI (get r) = some t ∧ ∀ p, ok p → (g' r).H p = (g r).H p
  var : isVar (get' r) = true → isVar (get r) = true ∧ (g' r).b = (g r).b
mutual
theorem gO{get get':Get}{g g':aB}: ∀(av:AV) (v:Value),(∀r∈av.roots,Holds get get' g g' r fun _=>True)→ae get g av v→ae get' g' av v
 | .undef,_,_,_=>by simp[ae]
 | .int _ _,_,_,h=>by rw[ae]at h⊢;exact h
 | .bool _,_,_,h=>by rw[ae]at h⊢;exact h
 | .kb _,_,_,h=>by rw[ae]at h⊢;exact h
 | .ki _ _,_,_,h=>by rw[ae]at h⊢;exact h
 | .nb _,_,_,h=>by rw[ae]at h⊢;exact h
 | .str _,_,_,h=>by rw[ae]at h⊢;exact h
 | .nilS,_,_,h=>by rw[ae]at h⊢;exact h
 | .sl r p sub,v,k,h=>by
  rw[ae]at h⊢
  refine⟨h.1,fun t e ht he=> ?_⟩
  obtain⟨k1,k2⟩:=(k r (by simp[AV.roots])).row t ht
  rw[k2 p trivial];exact h.2 t e k1 he
 | .pv r c,v,k,h=>by
  rw[ae]at h⊢
  refine⟨h.1,fun ht=> ?_⟩
  obtain⟨k1,k2⟩:=(k r (by simp[AV.roots])).var ht
  rw[k2];exact h.2 k1
 | .lit r n,v,k,h=>by
  rw[ae]at h⊢
  refine⟨h.1,fun ht=> ?_⟩
  obtain⟨k1,k2⟩:=(k r (by simp[AV.roots])).var ht
  rw[k2];exact h.2 k1
 | .pe r p i f,v,k,h=>by
  rw[ae]at h⊢
  refine⟨h.1,fun t e ht he=> ?_⟩
  obtain⟨k1,k2⟩:=(k r (by simp[AV.roots])).row t ht
  rw[k2 p trivial];exact h.2 t e k1 he
 | .fn f a b,v,k,h=>by
  rw[ae]at h⊢
  obtain⟨vs,ws,rfl,h1,h2⟩:=h
  exact⟨vs,ws,rfl,bZ a _ (fun r hr=>k r (by simp[AV.roots,hr])) h1,bZ b _ (fun r hr=>k r (by simp[AV.roots,hr])) h2⟩
 | .agg cs,v,k,h=>by
  rw[ae]at h⊢
  obtain⟨vs,rfl,h1,h2⟩:=h
  exact⟨vs,rfl,h1,bZ cs _ (fun r hr=>k r (by simpa[AV.roots]using hr)) h2⟩
 | .tup cs,v,k,h=>by
  rw[ae]at h⊢
  obtain⟨vs,rfl,h2⟩:=h
  exact⟨vs,rfl,bZ cs _ (fun r hr=>k r (by simpa[AV.roots]using hr)) h2⟩
theorem bZ{get get':Get}{g g':aB}: ∀(vs:List AV) (l:List Value),(∀r∈AV.ah vs,Holds get get' g g' r fun _=>True)→ai get g vs l→ai get' g' vs l
 | [],_,_,h=>by rw[ai]at h⊢;exact h
 |v::vs,l,k,h=>by
  rw[ai]at h⊢
  obtain⟨x,xs,rfl,h0,h⟩:=h
  exact⟨x,xs,rfl,gO v x (fun r hr=>k r (by simp[AV.ah,hr])) h0,bZ vs xs (fun r hr=>k r (by simp[AV.ah,hr])) h⟩
end
mutual
theorem rS{get get':Get}{g g':aB}{r0 n:Nat}: ∀(av:AV) (v:Value),(∀r∈av.roots,Holds get get' g g' r fun p=>r=r0→p.length<n)→ae get g av v→ae get' g' (av.cut r0 n) v
 | .undef,_,_,_=>by simp[ae,AV.cut]
 | .int _ _,_,_,h=>by rw[ae]at h;rw[AV.cut,ae];exact h
 | .bool _,_,_,h=>by rw[ae]at h;rw[AV.cut,ae];exact h
 | .kb _,_,_,h=>by rw[ae]at h;rw[AV.cut,ae];exact h
 | .ki _ _,_,_,h=>by rw[ae]at h;rw[AV.cut,ae];exact h
 | .nb _,_,_,h=>by rw[ae]at h;rw[AV.cut,ae];exact h
 | .str _,_,_,h=>by rw[ae]at h;rw[AV.cut,ae];exact h
 | .nilS,_,_,h=>by rw[ae]at h;rw[AV.cut,ae];exact h
 | .sl r p sub,v,k,h=>by
  rw[ae]at h
  rw[AV.cut]
  cases hb:(Nat.beq r r0&&Nat.ble n p.length)with
  |true=>simp[ae]
  |false=>
   have hp:r=r0→p.length<n:=by
    intro e;subst e
    simp only[Nat.beq_refl,Bool.true_and]at hb
    rcases Nat.lt_or_ge p.length n with h|h
    ·exact h
    ·rw[Nat.ble_eq_true_of_le h]at hb;cases hb
   simp only[cond_false]
   rw[ae]
   refine⟨h.1,fun t e ht he=> ?_⟩
   obtain⟨k1,k2⟩:=(k r (by simp[AV.roots])).row t ht
   rw[k2 p hp];exact h.2 t e k1 he
 | .pv r c,v,k,h=>by
  rw[ae]at h
  rw[AV.cut,ae]
  refine⟨h.1,fun ht=> ?_⟩
  obtain⟨k1,k2⟩:=(k r (by simp[AV.roots])).var ht
  rw[k2];exact h.2 k1
 | .lit r n,v,k,h=>by
  rw[ae]at h
  rw[AV.cut,ae]
  refine⟨h.1,fun ht=> ?_⟩
  obtain⟨k1,k2⟩:=(k r (by simp[AV.roots])).var ht
  rw[k2];exact h.2 k1
 | .pe r p i f,v,k,h=>by
  rw[ae]at h
  rw[AV.cut]
  cases hb:(Nat.beq r r0&&Nat.ble n p.length)with
  |true=>simp[ae]
  |false=>
   have hp:r=r0→p.length<n:=by
    intro e;subst e
    simp only[Nat.beq_refl,Bool.true_and]at hb
    rcases Nat.lt_or_ge p.length n with h|h
    ·exact h
    ·rw[Nat.ble_eq_true_of_le h]at hb;cases hb
   simp only[cond_false]
   rw[ae]
   refine⟨h.1,fun t e ht he=> ?_⟩
   obtain⟨k1,k2⟩:=(k r (by simp[AV.roots])).row t ht
   rw[k2 p hp];exact h.2 t e k1 he
 | .fn f a b,v,k,h=>by
  rw[ae]at h
  rw[AV.cut,ae]
  obtain⟨vs,ws,rfl,h1,h2⟩:=h
  exact⟨vs,ws,rfl,jH a _ (fun r hr=>k r (by simp[AV.roots,hr])) h1,jH b _ (fun r hr=>k r (by simp[AV.roots,hr])) h2⟩
 | .agg cs,v,k,h=>by
  rw[ae]at h
  rw[AV.cut,ae]
  obtain⟨vs,rfl,h1,h2⟩:=h
  exact⟨vs,rfl,h1,jH cs _ (fun r hr=>k r (by simpa[AV.roots]using hr)) h2⟩
 | .tup cs,v,k,h=>by
  rw[ae]at h
  rw[AV.cut,ae]
  obtain⟨vs,rfl,h2⟩:=h
  exact⟨vs,rfl,jH cs _ (fun r hr=>k r (by simpa[AV.roots]using hr)) h2⟩
theorem jH{get get':Get}{g g':aB}{r0 n:Nat}: ∀(vs:List AV) (l:List Value),(∀r∈AV.ah vs,Holds get get' g g' r fun p=>r=r0→p.length<n)→ai get g vs l→ai get' g' (AV.gl r0 n vs) l
 | [],_,_,h=>by rw[ai]at h;rw[AV.gl,ai];exact h
 |v::vs,l,k,h=>by
  rw[ai]at h
  rw[AV.gl,ai]
  obtain⟨x,xs,rfl,h0,h⟩:=h
  exact⟨x,xs,rfl,rS v x (fun r hr=>k r (by simp[AV.ah,hr])) h0,jH vs xs (fun r hr=>k r (by simp[AV.ah,hr])) h⟩
end
def mh(g:aB)(r:Nat)(p:Path)(b:Nat):Prop:= ∃a n c,(g r).H p= .slice (some a) n c∧c≠0∧a.block=b
structure bu where
  v : World
  w : World
  lent : Nat → Prop
  sub : ∀ (a : Addr) (x : Value), w.cell? a = some x → v.cell? a = some x ∧ ¬ lent a.block
  lentc : ∀ b o, lent b → v.heap[b]? = some o → o.isCells = true
  oth : Nat → Option Obj
  othc : ∀ k o, oth k = some o → o.isCells = false
def bu.of(w:World):bu:=⟨w,w,fun _=>False,fun _ _ h=>⟨h,fun h=>h⟩,fun _ _ h=>h.elim,fun _=>none,fun _ _ h=>by cases h⟩
def bu.dh(B:bu)(b:Nat):Prop:=b<B.v.heap.size∧ ¬B.lent b
structure bL (B : bu) (w w' : World) : Prop where
  os : w'.os = w.os
  tape : w'.tape = w.tape
  output : w'.output = w.output
  size : w.heap.size ≤ w'.heap.size
  block : ∀ k, B.dh k → w'.heap[k]? = w.heap[k]?
  oth : ∀ (k : Nat) (o : Obj), w.heap[k]? = some o → o.isCells = false → w'.heap[k]? = some o
theorem bL.refl(B:bu)(w:World):bL B w w:=⟨rfl,rfl,rfl,Nat.le_refl _,fun _ _=>rfl,fun _ _ h _=>h⟩
theorem bL.trans{B:bu}{a b c:World}(h:bL B a b)(k:bL B b c):bL B a c:=
 ⟨k.os.trans h.os,k.tape.trans h.tape,k.output.trans h.output,Nat.le_trans h.size k.size,fun i hi=>(k.block i hi).trans (h.block i hi),fun i o h1 h2=>k.oth i o (h.oth i o h1 h2) h2⟩
theorem bL.zZ{B:bu}{w w':World}(h:RowKit.Below w.heap.size w w')(hs:B.v.heap.size≤w.heap.size):bL B w w':=
 ⟨h.os,h.tape,h.output,h.size,fun k hk=>h.block k (Nat.lt_of_lt_of_le hk.1 hs),fun k o h1 _=>(h.block k (Array.getElem?_eq_some_iff.1 h1).1).trans h1⟩
theorem bL.below{W w:World}(h:bL (bu.of W) W w):RowKit.Below W.heap.size W w:=
 ⟨h.os,h.tape,h.output,h.size,fun k hk=>h.block k ⟨hk,fun h=>h⟩⟩
theorem bL.alloc{B:bu}{a w:World}(h:bL B a w)(hB:B.v.heap.size≤w.heap.size)(o:Obj):bL B a (w.alloc o):=
 h.trans ⟨rfl,rfl,rfl,by simp,fun k hk=>RowKit.Below.heap_alloc _ _ _ (Nat.lt_of_lt_of_le hk.1 hB),fun k o h1 h2=>(KeepsOthers.alloc w _).same k o h1 h2⟩
theorem bL.setCell{B:bu}{a w:World}(h:bL B a w){p:Addr}(hp: ¬B.dh p.block)(u:Value):bL B a (w.setCell p u):=
 h.trans ⟨rfl,rfl,rfl,by simp[World.setCell],fun k hk=>RowKit.Below.heap_setCell _ _ _ _ (fun e=>hp (e▸hk)),fun k o h1 h2=>(KeepsOthers.setCell w _ _).same k o h1 h2⟩
theorem bu.rds{B:bu}{b:Nat}(h:Rds B.w b):B.dh b:=by
 obtain⟨a,v,rfl,h⟩:=h
 obtain⟨h1,h2⟩:=B.sub a v h
 exact⟨World.block_lt_of_cell? B.v a h1,h2⟩
theorem cJ{w0:bu}{w:World}(h:bL w0 w0.v w)(a:Addr)(v:Value)(hv:w0.w.cell? a=some v):w.cell? a=some v:=
 (World.cell?_of_block (w:=w0.v) (h.block a.block (bu.rds ⟨a,v,rfl,hv⟩))).trans (w0.sub a v hv).1
abbrev Seen(B:bu)(w:World):Prop:= ∀(a:Addr) (v:Value),B.w.cell? a=some v→w.cell? a=some v
def jT(v:Value)(b:Nat):Prop:= ∃ad n c,v= .slice (some ad) n c∧c≠0∧ad.block=b
def qb(r w:World)(t:Ty)(xs:List (den t))(H:Path→Value)(S:Nat→Prop):Prop:=
 (∀b,S b→ ∃arr te,w.heap[b]?=some (.cells arr te (0,0)))∧(∀b,jT (H []) b→S b)∧
 nM w true t.size (fun x G rd=>Rep (pq r w fun b=>S b∧ ¬jT (H []) b) false t x G 0 rd) xs H
def tJ(a:Option Addr)(n c:Nat)(H:Path→Value):Path→Value
 | []=> .slice a n c
 |q::p=>H (q::p)
theorem jl{t:Ty}{xs:List (den t)}{H:Path→Value}{a:Option Addr}{n m c b:Nat}(h:H []= .slice a n c):aD t xs (tJ a m c H) b↔aD t xs H b:=by
 constructor
 ·rintro(⟨a',n',c',e,h1,h2⟩|⟨i,x,h1,h2⟩)
  ·simp only[tJ,Value.slice.injEq]at e
   obtain⟨rfl,rfl,rfl⟩:=e
   exact .inl ⟨_,_,_,h,h1,h2⟩
  ·exact .inr ⟨i,x,h1,h2⟩
 ·rintro(⟨a',n',c',e,h1,h2⟩|⟨i,x,h1,h2⟩)
  ·rw[h]at e
   simp only[Value.slice.injEq]at e
   obtain⟨rfl,rfl,rfl⟩:=e
   exact .inl ⟨_,_,_,rfl,h1,h2⟩
  ·exact .inr ⟨i,x,h1,h2⟩
def aF(w0:bu)(w:World)(get:Get)(g:aB)(r:Nat):Prop:=match get r with
 | .dead=>True
 | .var cs=> ∃arr te,w.heap[(g r).b]?=some (.cells arr te (0,0))∧(∀x∈arr.toList,x.oneCell'=true)∧ai get g cs arr.toList
 | .row true t xs=>aS w true t xs (g r).H∧bD t xs (g r).H
 | .row false t xs=>aS w0.w false t xs (g r).H
 | .sh t xs=>qb w0.w w t xs (g r).H (g r).S
 | .half t xs=> ∃a n c,(g r).H []= .slice a n c∧xs.length≤n∧n≤c∧(a=none→c=0)∧aS w true t xs (tJ a xs.length c (g r).H)∧bD t xs (g r).H
 | .pend r' p t xs=>aS w true t xs (g r).H∧t.flat=true∧ ∃t' xs',get r'= .row true t' xs'∧p≠ []∧ ∀b,mh g r' p b→aD t' xs' (g r').H b
def Own(get:Get)(g:aB)(r b:Nat):Prop:=match get r with
 | .dead=>False
 | .var _=>b=(g r).b
 | .row true t xs=>aD t xs (g r).H b
 | .row false _ _=>False
 | .half t xs=>aD t xs (g r).H b
 | .sh _ _=>(g r).S b
 | .pend r' p t xs=>aD t xs (g r).H b∧ ¬mh g r' p b
structure qy (get : Get) (g : aB) (f : List AV) (a : Act) : Prop where
  size : f.length ≤ a.tmps.size
  slot : ∀ i, ae get g (f.getD i .undef) (a.tmps.getD i Go.undef)
  defers : ∀ d ∈ a.defers, ∃ D, d.target = .collected D
def eu(get:Get)(g:aB):List (List AV)→List Act→Prop
 | [],l=>l= []
 |f::fs,l=> ∃a asx,l=a::asx∧qy get g f a∧eu get g fs asx
def ya(d:Deferred):List Nat:=match d.target with
 | .collected D=> [D]
 |_=> []
def marks(a:Act):List Nat:=a.defers.flatMap ya
def fk(acts:List Act):List Nat:=acts.flatMap marks
structure mX (B : bu) (ms : List Nat) (w : World) : Prop where
  nodup : ms.Nodup
  empty : ∀ D ∈ ms, w.heap[D]? = some (.deferred (some [])) ∧ ¬ B.dh D ∧ B.oth D = none
  oth : ∀ k o, B.oth k = some o → w.heap[k]? = some o
theorem mX.step{B:bu}{ms:List Nat}{w w':World}(h:mX B ms w)(ho: ∀(k:Nat) (o:Obj),w.heap[k]?=some o→o.isCells=false→w'.heap[k]?=some o):mX B ms w':=
 ⟨h.nodup,fun D hD=>⟨ho D _ (h.empty D hD).1 rfl,(h.empty D hD).2⟩,fun k o hk=>ho k o (h.oth k o hk) (B.othc k o hk)⟩
structure Rel (w0 : bu) (st : St) (g : aB) (born : Nat → Prop) (acts : List Act) (w : World) : Prop where
  below : bL w0 w0.v w
  roots : ∀ r, aF w0 w st.get g r
  sep : ∀ r r' b, r ≠ r' → Own st.get g r b → Own st.get g r' b → False
  low : ∀ r b, Own st.get g r b → ¬ w0.dh b
  frames : eu st.get g st.fr acts
  bornF : ∀ f ∈ st.fr, ∀ r ∈ AV.ah f, born r
  bornR : ∀ r, ∀ x ∈ (st.get r).roots, born x
  alive : ∀ r, st.get r ≠ .dead → born r
  marks : mX w0 (fk acts) w
theorem Rel.fresh{w0:bu}{st:St}{g:aB}{born:Nat→Prop}{acts:List Act}{w:World}(R:Rel w0 st g born acts w){b:Nat}(h:w.heap.size≤b): ¬w0.dh b:=fun hk=>by
 have:=R.below.size
 have:=hk.1
 omega
end
end Go.Am
end
section
/- Soundness, fifth part: the relation under updates. -/
namespace Go.Am
attribute [local instance] D.real
theorem ny{w w':World}(hc: ∀a v,w.cell? a=some v→w'.cell? a=some v): ∀(t:Ty) (d:den t) (G:Nat→Path→Value) (f:Nat) (rd rd':Nat→Option Value),
  (∀k v,rd k=some v→rd' k=some v)→Rep w false t d G f rd→Rep w' false t d G f rd':=by
 intro t
 induction t with
 |int k=>intro d G f rd rd' h r;exact h _ _ r
 |bool=>intro d G f rd rd' h r;exact h _ _ r
 |str=>intro d G f rd rd' h r;exact h _ _ r
 |unit=>intros;trivial
 |pair a b iha ihb=>intro d G f rd rd' h r;exact⟨iha _ _ _ _ _ h r.1,ihb _ _ _ _ _ h r.2⟩
 |sl e ih=>
  intro d G f rd rd' h r
  refine⟨h _ _ r.1,?_⟩
  rcases r.2 with h1|⟨a,cap,h0,hle,_,hx⟩
  ·exact .inl h1
  ·exact .inr ⟨a,cap,h0,hle,(fun h=>by cases h),fun i x hi=>ih _ _ _ _ _ (fun k v hk=>hc _ v hk) (hx i x hi)⟩
theorem lC{w w':World}(hc: ∀a v,w.cell? a=some v→w'.cell? a=some v){t:Ty}{xs:List (den t)}{H:Path→Value}(h:aS w false t xs H):aS w' false t xs H:=
 (ny hc (.sl t) xs (fun _=>H) 0 (fun _=>some (H [])) (fun _=>some (H [])) (fun _ _ h=>h) ⟨rfl,h⟩).2
theorem rR{w:World}{rw:Bool}{t:Ty}{xs:List (den t)}{H:Path→Value}(h:aS w rw t xs H):aS w false t xs H:=
 (Fi (.sl t) xs (fun _=>H) 0 (fun _=>some (H [])) rw ⟨rfl,h⟩).2
theorem Es{α:Type}{xs:List α}{i n:Nat}{x:α}(h:xs[i]?=some x)(hn:xs.length≤n):n≠0:=by
 rcases Nat.lt_or_ge i xs.length with h'|h'
 ·omega
 ·rw[List.getElem?_eq_none h']at h;cases h
theorem qb.step{r r' w w':World}{t:Ty}{xs:List (den t)}{H:Path→Value}{S:Nat→Prop}(h:qb r w t xs H S)(hS: ∀b,S b→w'.heap[b]?=w.heap[b]?)
  (hr: ∀(a:Addr) (v:Value),Rds r a.block→w.cell? a=some v→w'.cell? a=some v∧Rds r' a.block):qb r' w' t xs H S:=by
 obtain⟨h1,h2,h3⟩:=h
 refine⟨fun b hb=>by rw[hS b hb];exact h1 b hb,h2,?_⟩
 rcases h3 with h3|⟨a,cap,h0,hle,hg,hx⟩
 ·exact .inl h3
 ·have hown:cap≠0→S a.block:=fun hc=>h2 _ ⟨a,_,cap,h0,hc,rfl⟩
  refine .inr ⟨a,cap,h0,hle,fun hrw hc=> ?_,fun i x hi=> ?_⟩
  ·obtain⟨k1,arr,te,k2,k3⟩:=hg hrw hc
   exact⟨k1,arr,te,(hS _ (hown hc)).trans k2,k3⟩
  ·have hc:=Es hi hle
   refine ny (fun b v hb=> ?_) _ _ _ _ _ _ (fun k v hk=> ?_) (hx i x hi)
   ·obtain⟨k1,k2⟩:=iZ hb
    rcases k2 with k2|k2
    ·obtain⟨k3,k4⟩:=hr b v k2 k1
     exact jx k3 (.inl k4)
    ·exact jx ((gp (hS _ k2.1)).trans k1) (.inr k2)
   ·exact(gp (by rw[dS];exact hS _ (hown hc))).trans hk
theorem qb.frame{w0:bu}{w w':World}{t:Ty}{xs:List (den t)}{H:Path→Value}{S:Nat→Prop}(h:qb w0.w w t xs H S)(hS: ∀b,S b→w'.heap[b]?=w.heap[b]?)(k:bL w0 w0.v w)(k':bL w0 w0.v w'):qb w0.w w' t xs H S:=
 h.step hS fun a _ ha hv=>⟨(gp ((k'.block _ (bu.rds ha)).trans (k.block _ (bu.rds ha)).symm)).trans hv,ha⟩
theorem qb.row{r w:World}{t:Ty}{xs:List (den t)}{H:Path→Value}{S:Nat→Prop}(h:qb r w t xs H S):aS w false t xs H:=by
 rcases h.2.2 with h|⟨a,cap,h0,hle,_,hx⟩
 ·exact .inl h
 ·exact .inr ⟨a,cap,h0,hle,(fun h=>by cases h),fun i x hi=>ny (fun b v hb=>(iZ hb).1) _ _ _ _ _ _ (fun _ _ h=>h) (hx i x hi)⟩
theorem se{r n:Nat}:(∀av:AV,∀x∈(av.cut r n).roots,x∈av.roots)∧ ∀l:List AV,∀x∈AV.ah (AV.gl r n l),x∈AV.ah l:=by
 have key: ∀av:AV,∀x∈(av.cut r n).roots,x∈av.roots:=by
  intro av
  refine AV.rec (motive_1:=fun av=> ∀x∈(av.cut r n).roots,x∈av.roots) (motive_2:=fun l=> ∀x∈AV.ah (AV.gl r n l),x∈AV.ah l) ?_ ?_ ?_ ?_ ?_ ?_ ?_ ?_ ?_ ?_ ?_ ?_ ?_ ?_ ?_ ?_ ?_ av
  ·intro x h;rw[AV.cut]at h;exact h
  ·intro k m x h;rw[AV.cut]at h;exact h
  ·intro b x h;rw[AV.cut]at h;exact h
  ·intro b x h;rw[AV.cut]at h;exact h
  ·intro k m x h;rw[AV.cut]at h;exact h
  ·intro b x h;rw[AV.cut]at h;exact h
  ·intro s x h;rw[AV.cut]at h;exact h
  ·intro x h;rw[AV.cut]at h;exact h
  ·intro r' p s x h
   rw[AV.cut]at h
   cases hb:(Nat.beq r' r&&Nat.ble n p.length)<;>rw[hb]at h
   ·exact h
   ·simp[AV.roots]at h
  ·intro r' c x h;rw[AV.cut]at h;exact h
  ·intro r' p i f x h
   rw[AV.cut]at h
   cases hb:(Nat.beq r' r&&Nat.ble n p.length)<;>rw[hb]at h
   ·exact h
   ·simp[AV.roots]at h
  ·intro r' n' x h;rw[AV.cut]at h;exact h
  ·intro f a b ha hb x h
   rw[AV.cut]at h
   simp only[AV.roots,List.mem_append]at h⊢
   exact h.imp (ha x) (hb x)
  ·intro cs hc x h;rw[AV.cut]at h;simp only[AV.roots]at h⊢;exact hc x h
  ·intro cs hc x h;rw[AV.cut]at h;simp only[AV.roots]at h⊢;exact hc x h
  ·intro x h;rw[AV.gl]at h;exact h
  ·intro v vs hv hvs x h
   rw[AV.gl]at h
   simp only[AV.ah,List.mem_append]at h⊢
   exact h.imp (hv x) (hvs x)
 refine⟨key,fun l=> ?_⟩
 induction l with
 |nil=>intro x h;rw[AV.gl]at h;exact h
 |cons v vs ih=>
  intro x h
  rw[AV.gl]at h
  simp only[AV.ah,List.mem_append]at h⊢
  exact h.imp (key v x) (ih x)
section
variable {w0 : bu} {w w' : World} {st st' : St} {g g' : aB} {born born' : Nat → Prop} {acts : List Act}
theorem vW: ∀{l:List AV} {v:AV} {r:Nat},v∈l→r∈v.roots→r∈AV.ah l
 |u::us,v,r,hm,hr=>by
  simp only[AV.ah,List.mem_append]
  rcases List.mem_cons.1 hm with rfl|hm
  ·exact .inl hr
  ·exact .inr (vW hm hr)
theorem gQ{f:List AV}{i r:Nat}(h:r∈(f.getD i .undef).roots):r∈AV.ah f:=by
 rcases Nat.lt_or_ge i f.length with hi|hi
 ·refine vW (v:=f.getD i .undef) ?_ h
  simp[List.getD,List.getElem?_eq_getElem hi]
 ·have:f.getD i .undef= .undef:=by simp[List.getD,List.getElem?_eq_none hi]
  rw[this]at h;simp[AV.roots]at h
theorem tf{get get':Get}: ∀{fr:List (List AV)} {acts:List Act},(∀f∈fr,∀r∈AV.ah f,Holds get get' g g' r fun _=>True)→eu get g fr acts→eu get' g' fr acts
 | [],_,_,h=>h
 |f::fs,_,k,⟨a,asx,e,h1,h2⟩=>
  ⟨a,asx,e,⟨h1.size,fun i=>gO _ _ (fun r hr=>k f List.mem_cons_self r (gQ hr)) (h1.slot i),h1.defers⟩,
   tf (fun f' hf=>k f' (List.mem_cons_of_mem _ hf)) h2⟩
theorem DG{r n:Nat}(f:List AV)(i:Nat):(AV.gl r n f).getD i .undef=(f.getD i .undef).cut r n:=by
 induction f generalizing i with
 |nil=>rw[AV.gl];simp[AV.cut]
 |cons v vs ih=>
  rw[AV.gl]
  cases i with
  |zero=>simp
  |succ i=>simpa using ih i
theorem zA{r n:Nat}(f:List AV):(AV.gl r n f).length=f.length:=by
 induction f with
 |nil=>rw[AV.gl]
 |cons v vs ih=>rw[AV.gl];simp[ih]
theorem vt{get get':Get}{r0 n:Nat}: ∀{fr:List (List AV)} {acts:List Act},(∀f∈fr,∀r∈AV.ah f,Holds get get' g g' r fun p=>r=r0→p.length<n)→eu get g fr acts→eu get' g' (fr.map (AV.gl r0 n)) acts
 | [],_,_,h=>h
 |f::fs,_,k,⟨a,asx,e,h1,h2⟩=>
  ⟨a,asx,e,⟨by rw[zA];exact h1.size,fun i=>by rw[DG];exact rS _ _ (fun r hr=>k f List.mem_cons_self r (gQ hr)) (h1.slot i),h1.defers⟩,
   vt (fun f' hf=>k f' (List.mem_cons_of_mem _ hf)) h2⟩
theorem AG(C:Nat→Prop)(R:Rel w0 st g born acts w)(hb:bL w0 w0.v w')(hmk:mX w0 (fk acts) w')(hfr:st'.fr=st.fr)
  (hholds: ∀r,born r→Holds st.get st'.get g g' r fun _=>True)
  (hsame: ∀r,¬C r→st'.get r=st.get r∧g' r=g r∧ ∀b,Own st.get g r b→w'.heap[b]?=w.heap[b]?)
  (hpend: ∀r r' p t xs,¬C r→st.get r= .pend r' p t xs→ ¬C r')
  (hC: ∀r,C r→aF w0 w' st'.get g' r)
  (hsepC: ∀r r' b,C r→r≠r'→Own st'.get g' r b→Own st'.get g' r' b→False)
  (hlowC: ∀r b,C r→Own st'.get g' r b→ ¬w0.dh b)
  (hborn: ∀r,born r→born' r) (hbornC: ∀r,C r→ ∀x∈(st'.get r).roots,born' x) (haliveC: ∀r,C r→st'.get r≠ .dead→born' r):
  Rel w0 st' g' born' acts w':=by
 have hown: ∀r b,¬C r→(Own st'.get g' r b↔Own st.get g r b):=by
  intro r b hr
  obtain⟨e1,e2,_⟩:=hsame r hr
  unfold Own
  rw[e1]
  cases hg:st.get r with
  |dead=>exact Iff.rfl
  |var cs=>simp only[e2]
  |row rw t xs=>cases rw<;>simp only[e2]
  |half t xs=>simp only[e2]
  |sh t xs=>simp only[e2]
  |pend r' p t xs=>
   have e3:=(hsame r' (hpend r r' p t xs hr hg)).2.1
   simp only[e2,mh,e3]
 refine⟨hb,fun r=> ?_,fun r r' b hne h1 h2=> ?_,fun r b h=> ?_,?_,fun f hf r hr=> ?_,fun r x hx=> ?_,fun r hr=> ?_,hmk⟩
 ·by_cases hr:C r
  ·exact hC r hr
  ·obtain⟨e1,e2,e3⟩:=hsame r hr
   have h:=R.roots r
   unfold aF at h⊢
   rw[e1]
   cases hg:st.get r with
   |dead=>trivial
   |var cs=>
    rw[hg]at h
    obtain⟨arr,te,h1,h2,h3⟩:=h
    refine⟨arr,te,?_,h2,bZ _ _ (fun x hx=>hholds x (R.bornR r x (by rw[hg];exact hx))) h3⟩
    rw[e2,e3 _ (by unfold Own;rw[hg])]
    exact h1
   |row rw t xs=>
    rw[hg]at h
    cases rw with
    |true=>
     refine⟨?_,by rw[e2];exact h.2⟩
     rw[e2]
     exact dQ (fun b hb=>e3 b (by unfold Own;rw[hg];exact hb)) h.1
    |false=>simp only at h⊢;rw[e2];exact h
   |half t xs=>
    rw[hg]at h
    obtain⟨a,n,c,h1,h2,h3,hz,h4,h5⟩:=h
    refine⟨a,n,c,by rw[e2];exact h1,h2,h3,hz,?_,by rw[e2];exact h5⟩
    rw[e2]
    exact dQ (fun b hb=>e3 b (by unfold Own;rw[hg];exact(jl h1).1 hb)) h4
   |sh t xs=>
    rw[hg]at h
    simp only at h⊢
    rw[e2]
    exact h.frame (fun b hb=>e3 b (by unfold Own;rw[hg];exact hb)) R.below hb
   |pend r' p t xs=>
    rw[hg]at h
    obtain⟨h1,h2,t',xs',h3,h4,h5⟩:=h
    obtain⟨e4,e5,e6⟩:=hsame r' (hpend r r' p t xs hr hg)
    refine⟨?_,h2,t',xs',by rw[e4];exact h3,h4,?_⟩
    ·rw[e2]
     refine dQ (fun b hb=> ?_) h1
     by_cases hh:mh g r' p b
     ·exact e6 b (by unfold Own;rw[h3];exact h5 b hh)
     ·exact e3 b (by unfold Own;rw[hg];exact⟨hb,hh⟩)
    ·intro b hb
     unfold mh at hb
     rw[e5]at hb⊢
     exact h5 b hb
 ·by_cases hr:C r
  ·exact hsepC r r' b hr hne h1 h2
  ·by_cases hr':C r'
   ·exact hsepC r' r b hr' (fun e=>hne e.symm) h2 h1
   ·exact R.sep r r' b hne ((hown r b hr).1 h1) ((hown r' b hr').1 h2)
 ·by_cases hr:C r
  ·exact hlowC r b hr h
  ·exact R.low r b ((hown r b hr).1 h)
 ·rw[hfr]
  exact tf (fun f hf r hr=>hholds r (R.bornF f hf r hr)) R.frames
 ·rw[hfr]at hf;exact hborn r (R.bornF f hf r hr)
 ·by_cases hr:C r
  ·exact hbornC r hr x hx
  ·rw[(hsame r hr).1]at hx;exact hborn x (R.bornR r x hx)
 ·by_cases hc:C r
  ·exact haliveC r hc hr
  ·rw[(hsame r hc).1]at hr;exact hborn r (R.alive r hr)
theorem jU(C:Nat→Prop)(R:Rel w0 st g born acts w)(hb:bL w0 w w')(hfr:st'.fr=st.fr)
  (hholds: ∀r,born r→Holds st.get st'.get g g' r fun _=>True)
  (hsame: ∀r,¬C r→st'.get r=st.get r∧g' r=g r∧ ∀b,Own st.get g r b→w'.heap[b]?=w.heap[b]?)
  (hpend: ∀r r' p t xs,¬C r→st.get r= .pend r' p t xs→ ¬C r')
  (hC: ∀r,C r→aF w0 w' st'.get g' r)
  (hsepC: ∀r r' b,C r→r≠r'→Own st'.get g' r b→Own st'.get g' r' b→False)
  (hlowC: ∀r b,C r→Own st'.get g' r b→ ¬w0.dh b)
  (hborn: ∀r,born r→born' r) (hbornC: ∀r,C r→ ∀x∈(st'.get r).roots,born' x) (haliveC: ∀r,C r→st'.get r≠ .dead→born' r):
  Rel w0 st' g' born' acts w':=
 AG C R (R.below.trans hb) (R.marks.step hb.oth) hfr hholds hsame hpend hC hsepC hlowC hborn hbornC haliveC
theorem wk{r0 n:Nat}(C:Nat→Prop)(R:Rel w0 st g born acts w)(hb:bL w0 w w')(hfr:st'.fr=st.fr.map (AV.gl r0 n))
  (hholds: ∀r,born r→Holds st.get st'.get g g' r fun p=>r=r0→p.length<n)
  (hsame: ∀r,¬C r→st'.get r=(st.get r).cut r0 n∧g' r=g r∧ ∀b,Own st.get g r b→w'.heap[b]?=w.heap[b]?)
  (hpend: ∀r r' p t xs,¬C r→st.get r= .pend r' p t xs→ ¬C r')
  (hC: ∀r,C r→aF w0 w' st'.get g' r)
  (hsepC: ∀r r' b,C r→r≠r'→Own st'.get g' r b→Own st'.get g' r' b→False)
  (hlowC: ∀r b,C r→Own st'.get g' r b→ ¬w0.dh b)
  (hborn: ∀r,born r→born' r) (hbornC: ∀r,C r→ ∀x∈(st'.get r).roots,born' x) (haliveC: ∀r,C r→st'.get r≠ .dead→born' r):
  Rel w0 st' g' born' acts w':=by
 have hown: ∀r b,¬C r→(Own st'.get g' r b↔Own st.get g r b):=by
  intro r b hr
  obtain⟨e1,e2,_⟩:=hsame r hr
  unfold Own
  rw[e1]
  cases hg:st.get r with
  |dead=>exact Iff.rfl
  |var cs=>simp only[e2,ak.cut]
  |row rw t xs=>cases rw<;>simp only[e2,ak.cut]
  |half t xs=>simp only[e2,ak.cut]
  |sh t xs=>simp only[e2,ak.cut]
  |pend r' p t xs=>
   have e3:=(hsame r' (hpend r r' p t xs hr hg)).2.1
   simp only[e2,mh,e3,ak.cut]
 refine⟨R.below.trans hb,fun r=> ?_,fun r r' b hne h1 h2=> ?_,fun r b h=> ?_,?_,fun f hf r hr=> ?_,fun r x hx=> ?_,fun r hr=> ?_,R.marks.step hb.oth⟩
 ·by_cases hr:C r
  ·exact hC r hr
  ·obtain⟨e1,e2,e3⟩:=hsame r hr
   have h:=R.roots r
   unfold aF at h⊢
   rw[e1]
   cases hg:st.get r with
   |dead=>trivial
   |var cs=>
    rw[hg]at h
    obtain⟨arr,te,h1,h2,h3⟩:=h
    refine⟨arr,te,?_,h2,jH _ _ (fun x hx=>hholds x (R.bornR r x (by rw[hg];exact hx))) h3⟩
    rw[e2,e3 _ (by unfold Own;rw[hg])]
    exact h1
   |row rw t xs=>
    rw[hg]at h
    cases rw with
    |true=>
     refine⟨?_,by rw[e2];exact h.2⟩
     rw[e2]
     exact dQ (fun b hb=>e3 b (by unfold Own;rw[hg];exact hb)) h.1
    |false=>simp only at h⊢;rw[e2];exact h
   |half t xs=>
    rw[hg]at h
    obtain⟨a,n,c,h1,h2,h3,hz,h4,h5⟩:=h
    refine⟨a,n,c,by rw[e2];exact h1,h2,h3,hz,?_,by rw[e2];exact h5⟩
    rw[e2]
    exact dQ (fun b hb=>e3 b (by unfold Own;rw[hg];exact(jl h1).1 hb)) h4
   |sh t xs=>
    rw[hg]at h
    simp only[ak.cut]at h⊢
    rw[e2]
    exact h.frame (fun b hb=>e3 b (by unfold Own;rw[hg];exact hb)) R.below (R.below.trans hb)
   |pend r' p t xs=>
    rw[hg]at h
    obtain⟨h1,h2,t',xs',h3,h4,h5⟩:=h
    obtain⟨e4,e5,e6⟩:=hsame r' (hpend r r' p t xs hr hg)
    refine⟨?_,h2,t',xs',by rw[e4,h3];rfl,h4,?_⟩
    ·rw[e2]
     refine dQ (fun b hb=> ?_) h1
     by_cases hh:mh g r' p b
     ·exact e6 b (by unfold Own;rw[h3];exact h5 b hh)
     ·exact e3 b (by unfold Own;rw[hg];exact⟨hb,hh⟩)
    ·intro b hb
     unfold mh at hb
     rw[e5]at hb⊢
     exact h5 b hb
 ·by_cases hr:C r
  ·exact hsepC r r' b hr hne h1 h2
  ·by_cases hr':C r'
   ·exact hsepC r' r b hr' (fun e=>hne e.symm) h2 h1
   ·exact R.sep r r' b hne ((hown r b hr).1 h1) ((hown r' b hr').1 h2)
 ·by_cases hr:C r
  ·exact hlowC r b hr h
  ·exact R.low r b ((hown r b hr).1 h)
 ·rw[hfr]
  exact vt (fun f hf r hr=>hholds r (R.bornF f hf r hr)) R.frames
 ·rw[hfr]at hf
  obtain⟨f0,hf0,rfl⟩:=List.mem_map.1 hf
  exact hborn r (R.bornF f0 hf0 r (se.2 f0 r hr))
 ·by_cases hr:C r
  ·exact hbornC r hr x hx
  ·rw[(hsame r hr).1]at hx
   refine hborn x (R.bornR r x ?_)
   generalize st.get r=y at hx⊢
   cases y<;>first|exact hx|exact se.2 _ _ hx
 ·by_cases hc:C r
  ·exact haliveC r hc hr
  ·rw[(hsame r hc).1]at hr
   exact hborn r (R.alive r fun e=>hr (by rw[e];rfl))
end
end Go.Am
end
section
/- Soundness, sixth part: states: force, put, roots set, roots new, roots dropped. -/
namespace Go.Am
noncomputable section
attribute [local instance] D.real
section
variable {R : Type}
theorem ic(n:Nat)(k:Nat→Option R):qI n k=k n:=by cases n<;>rfl
theorem nI: ∀(p:Path) (k:Path→Option R),v8 p k=k p
 | [],_=>rfl
 |(i,f)::p,k=>by simp only[v8,ic,nI p]
mutual
theorem AV.force_eq: ∀(v:AV) (k:AV→Option R),v.force k=k v
 | .undef,_=>by rw[AV.force]
 | .nilS,_=>by rw[AV.force]
 | .int _ _,_=>by rw[AV.force]
 | .bool _,_=>by rw[AV.force]
 | .kb true,_=>by rw[AV.force]
 | .kb false,_=>by rw[AV.force]
 | .ki _ _,_=>by rw[AV.force]
 | .nb _,_=>by rw[AV.force]
 | .str _,_=>by rw[AV.force]
 | .sl r p none,k=>by rw[AV.force,ic,nI]
 | .sl r p (some (o,l)),k=>by rw[AV.force,ic,nI]
 | .pv r c,k=>by rw[AV.force,ic,ic]
 | .lit r n,k=>by rw[AV.force,ic,ic]
 | .pe r p i f,k=>by rw[AV.force,ic,nI,ic]
 | .fn f a b,k=>by rw[AV.force,AV.jI a,AV.jI b]
 | .agg cs,k=>by rw[AV.force,AV.jI cs]
 | .tup cs,k=>by rw[AV.force,AV.jI cs]
theorem AV.jI: ∀(vs:List AV) (k:List AV→Option R),AV.l7 vs k=k vs
 | [],_=>by rw[AV.l7]
 |v::vs,k=>by rw[AV.l7,AV.force_eq v,AV.jI vs]
end
theorem ak.force_eq(x:ak)(k:ak→Option R):x.force k=k x:=by
 cases x with
 |dead=>rfl
 |var cs=>simp only[ak.force,AV.jI]
 |row rw t xs=>rfl
 |half t xs=>rfl
 |sh t xs=>rfl
 |pend r p t xs=>simp only[ak.force,ic,nI]
theorem fp: ∀(l:List ak) (k:List ak→Option R),qo l k=k l
 | [],_=>rfl
 |x::l,k=>by simp only[qo,ak.force_eq,fp l]
theorem vd: ∀(l:List (List AV)) (k:List (List AV)→Option R),tS l k=k l
 | [],_=>rfl
 |x::l,k=>by simp only[tS,AV.jI,vd l]
theorem St.force_eq(st:St)(k:St→Option R):st.force k=k st:=by
 simp only[St.force,vd,fp]
theorem cY: ∀(l:List Nat) (k:List Nat→Option R),j9 l k=k l
 | [],_=>rfl
 |x::l,k=>by simp only[j9,ic,cY l]
end
theorem BK(rs:List ak)(i:Nat)(x:ak)(r:Nat):(setAt rs i x).getD r .dead=if r=i then x else rs.getD r .dead:=by
 unfold setAt
 cases hb:Nat.blt i rs.length with
 |true=>
  rw[Nat.blt_eq]at hb
  simp only[cond_true,List.getD_eq_getElem?_getD,List.getElem?_set]
  by_cases e:r=i
  ·subst e;simp[hb]
  ·rw[if_neg (Ne.symm e),if_neg e]
 |false=>
  have hge:rs.length≤i:=by
   rcases Nat.lt_or_ge i rs.length with h|h
   ·rw[←Nat.blt_eq,hb]at h;cases h
   ·exact h
  simp only[cond_false,List.getD_eq_getElem?_getD,List.append_assoc]
  by_cases e:r=i
  ·subst e
   rw[List.getElem?_append_right hge,List.getElem?_append_right (by simp)]
   simp
  ·simp only[e,if_false]
   rcases Nat.lt_or_ge r rs.length with h|h
   ·rw[List.getElem?_append_left h]
   ·rw[List.getElem?_append_right h,List.getElem?_eq_none h]
    rcases Nat.lt_or_ge (r-rs.length) (i-rs.length)with h2|h2
    ·rw[List.getElem?_append_left (by simpa using h2),List.getElem?_replicate]
     simp[h2]
    ·rw[List.getElem?_append_right (by simpa using h2)]
     have:r-rs.length-(List.replicate (i-rs.length) ak.dead).length=(r-i-1)+1:=by simp;omega
     rw[this];rfl
def St.ep(st:St)(i:Nat)(x:ak):St:={st with rs:=setAt st.rs i x}
def St.aH(st:St)(l:List (Nat×ak)):St:={st with rs:=cU st.rs l}
theorem FP(st:St):st.aH []=st:=rfl
theorem jJ(st:St)(i:Nat)(x:ak)(l:List (Nat×ak)):st.aH ((i,x)::l)=(st.ep i x).aH l:=rfl
theorem iH(l m:List (Nat×ak)): ∀(st:St),st.aH (l++m)=(st.aH l).aH m:=by
 induction l with
 |nil=>intro st;rfl
 |cons a l ih=>intro st;obtain⟨i,x⟩:=a;rw[List.cons_append,jJ,jJ,ih]
theorem dN(st:St)(i:Nat)(x:ak)(r:Nat):(st.ep i x).get r=if r=i then x else st.get r:=BK _ _ _ _
theorem bQ(st:St)(i:Nat)(x:ak):(st.ep i x).get i=x:=by rw[dN,if_pos rfl]
theorem aT{st:St}{i:Nat}{x:ak}{r:Nat}(h:r≠i):(st.ep i x).get r=st.get r:=by rw[dN,if_neg h]
def dK(g:aB)(i:Nat)(x:Info):aB:=fun r=>if r=i then x else g r
theorem bU(g:aB)(i:Nat)(x:Info):dK g i x i=x:=by simp[dK]
theorem aE{g:aB}{i:Nat}{x:Info}{r:Nat}(h:r≠i):dK g i x r=g r:=by simp[dK,h]
theorem oC: ∀(rs:List ak) (r:Nat) (ex:Option Nat) (j0:Nat),quietAt r ex j0 rs=true→ ∀j r' p t xs,rs.getD j .dead= .pend r' p t xs→r'=r→ex=some (j0+j)
 | [],_,_,_,_,j,_,_,_,_,e,_=>by simp at e
 |x::rs,r,ex,j0,h,j,r',p,t,xs,e,er=>by
  unfold quietAt at h
  simp only[Bool.and_eq_true]at h
  cases j with
  |zero=>
   simp only[List.getD_cons_zero]at e
   subst e;subst er
   have h1:=h.1
   simp at h1
   exact h1
  |succ j=>
   have:=oC rs r ex (j0+1) h.2 j r' p t xs (by simpa using e) er
   rw[this];congr 1;omega
theorem mV{st:St}{r:Nat}{ex:Option Nat}(h:quietAt r ex 0 st.rs=true){j r':Nat}{p:Path}{t:Ty}{xs:List (den t)}(e:st.get j= .pend r' p t xs)(er:r'=r):ex=some j:=by
 have:=oC st.rs r ex 0 h j r' p t xs e er
 simpa using this
section
variable {w0 : bu} {w w' : World} {st st' : St} {g g' : aB} {born born' : Nat → Prop} {acts : List Act} {a : Act}
theorem vU(w0:bu)(w:World):bL w0 w w:=bL.refl _ _
theorem Ei(R:Rel w0 st g born acts w)(i:Nat)(hq: ∀j r' p t xs,st.get j= .pend r' p t xs→r'≠i∨j=i):Rel w0 (st.ep i .dead) g born acts w:=by
 refine jU (fun r=>r=i) R (vU _ _) rfl (fun r _=>⟨fun t ht=> ?_,fun hv=> ?_⟩) (fun r hr=>⟨aT hr,rfl,fun _ _=>rfl⟩)
  (fun r r' p t xs hr e=> ?_) (fun r hr=> ?_) (fun r r' b hr _ h=> ?_) (fun r b hr h=> ?_) (fun _ h=>h) (fun r hr x hx=> ?_) (fun r hr h=> ?_)
 ·rw[dN]at ht
  split at ht
  ·simp[bI]at ht
  ·exact⟨ht,fun _ _=>rfl⟩
 ·rw[dN]at hv
  split at hv
  ·simp[isVar]at hv
  ·exact⟨hv,rfl⟩
 ·exact(hq r r' p t xs e).resolve_right hr
 ·subst hr;unfold aF;rw[bQ];trivial
 ·subst hr;unfold Own at h;rw[bQ]at h;exact h.elim
 ·subst hr;unfold Own at h;rw[bQ]at h;exact h.elim
 ·subst hr;rw[bQ]at hx;simp[ak.roots]at hx
 ·subst hr;rw[bQ]at h;exact absurd rfl h
theorem CK(R:Rel w0 st g born acts w)(i:Nat)(x:ak)(inf:Info)(hi: ¬born i)(hb:RowKit.Below w.heap.size w w')
  (hok:aF w0 w' (st.ep i x).get (dK g i inf) i) (hlow: ∀b,Own (st.ep i x).get (dK g i inf) i b→w.heap.size≤b)
  (hx: ∀r∈x.roots,born r):Rel w0 (st.ep i x) (dK g i inf) (fun r=>born r∨r=i) acts w':=by
 have hne: ∀r,born r→r≠i:=fun r h e=>hi (e▸h)
 have hlt: ∀r b,Own st.get g r b→b<w.heap.size:=by
  intro r b h
  have hr:=R.roots r
  unfold Own at h
  unfold aF at hr
  have lt_of: ∀{t:Ty} {xs:List (den t)} {H:Path→Value},aS w true t xs H→ ∀b,aD t xs H b→b<w.heap.size:=by
   intro t xs H h1 b hb
   have: ∀(t:Ty) (d:den t) (G:Nat→Path→Value) (f:Nat) (rd:Nat→Option Value),Rep w true t d G f rd→ ∀b,Blk t d G f b→b<w.heap.size:=by
    intro t
    induction t with
    |pair a b iha ihb=>intro d G f rd h b hb;exact hb.elim (iha _ _ _ _ h.1 b) (ihb _ _ _ _ h.2 b)
    |sl e ih=>
     intro d G f rd h b hb
     rcases h.2 with⟨h0,rfl⟩|⟨a,cap,h0,_,h2,h3⟩
     ·rcases hb with⟨a,n,c,e,_⟩|⟨i,x,hx,_⟩
      ·rw[h0]at e;cases e
      ·simp at hx
     ·rcases hb with⟨a',n,c,e,hc,rfl⟩|⟨i,x,hx,hb⟩
      ·rw[h0]at e;injection e with e _ ec;injection e with e;subst e;subst ec
       obtain⟨_,arr,te,h4,_⟩:=h2 rfl hc
       exact(Array.getElem?_eq_some_iff.1 h4).1
      ·exact ih _ _ _ _ (h3 i x hx) b hb
    |unit=>intro _ _ _ _ _ _ h;exact h.elim
    |int k=>intro _ _ _ _ _ _ h;exact h.elim
    |bool=>intro _ _ _ _ _ _ h;exact h.elim
    |str=>intro _ _ _ _ _ _ h;exact h.elim
   exact this (.sl t) xs (fun _=>H) 0 (fun _=>some (H [])) ⟨rfl,h1⟩ b hb
  cases hg:st.get r with
  |dead=>rw[hg]at h;exact h.elim
  |var cs=>
   rw[hg]at h hr
   obtain⟨arr,te,h1,_⟩:=hr
   subst h
   exact(Array.getElem?_eq_some_iff.1 h1).1
  |row rw t xs=>
   rw[hg]at h hr
   cases rw with
   |true=>exact lt_of hr.1 b h
   |false=>exact h.elim
  |half t xs=>
   rw[hg]at h hr
   obtain⟨a,n,c,h1,_,_,_,h4,_⟩:=hr
   exact lt_of h4 b ((jl h1).2 h)
  |sh t xs=>
   rw[hg]at h hr
   obtain⟨arr,te,h1⟩:=hr.1 b h
   exact(Array.getElem?_eq_some_iff.1 h1).1
  |pend r' p t xs=>
   rw[hg]at h hr
   exact lt_of hr.1 b h.1
 refine jU (fun r=>r=i) R (bL.zZ hb R.below.size) rfl (fun r hr=>⟨fun t ht=> ?_,fun hv=> ?_⟩)
  (fun r hr=>⟨aT hr,aE hr,fun b hb'=>hb.block b (hlt r b hb')⟩)
  (fun r r' p t xs hr e=> ?_) (fun r hr=>by subst hr;exact hok) (fun r r' b hr hrr h h'=> ?_) (fun r b hr h=> ?_) (fun _ h=> .inl h) (fun r hr y hy=> ?_) (fun r hr _=> .inr hr)
 ·rw[aT (hne r hr)]at ht;exact⟨ht,fun _ _=>by rw[aE (hne r hr)]⟩
 ·rw[aT (hne r hr)]at hv;exact⟨hv,by rw[aE (hne r hr)]⟩
 ·intro e';subst e'
  exact hi (R.bornR r r' (by rw[e];simp[ak.roots]))
 ·subst hr
  have h1:=hlow b h
  have h2:Own st.get g r' b:=by
   have e1:(st.ep r x).get r'=st.get r':=aT (fun e=>hrr e.symm)
   have e2:dK g r inf r'=g r':=aE (fun e=>hrr e.symm)
   unfold Own at h'⊢
   rw[e1]at h'
   cases hg:st.get r' with
   |dead=>rw[hg]at h';exact h'
   |var cs=>rw[hg]at h';simp only[e2]at h';exact h'
   |row rw t xs=>rw[hg]at h';cases rw<;>simp only[e2]at h'<;>exact h'
   |half t xs=>rw[hg]at h';simp only[e2]at h';exact h'
   |sh t xs=>rw[hg]at h';simp only[e2]at h';exact h'
   |pend q p t xs=>
    rw[hg]at h'
    have hq:q≠r:=fun e=>hi (by subst e;exact R.bornR r' q (by rw[hg];simp[ak.roots]))
    simp only[e2,mh,aE hq]at h'
    exact h'
  have:=hlt r' b h2
  omega
 ·subst hr
  exact R.fresh (hlow b h)
 ·subst hr
  rw[bQ]at hy;exact .inl (hx y hy)
theorem nv{v:Value}{av:AV}(R:Rel w0 st g born (a::acts) w)(dst:Option Tmp)(hv:ae st.get g av v)(hb: ∀r∈av.roots,born r):
  Rel w0 (st.put dst av) g born (a.put dst v::acts) w:=by
 cases dst with
 |none=>exact R
 |some d=>
  obtain⟨fr,rs⟩:=st
  have hfr:=R.frames
  cases fr with
  |nil=>simp only[eu]at hfr;cases hfr
  |cons f fs=>
   obtain⟨a',asx,e,h1,h2⟩:=hfr
   injection e with e1 e2
   subst e1;subst e2
   refine⟨R.below,R.roots,R.sep,R.low,⟨_,_,rfl,⟨?_,fun i=> ?_,h1.defers⟩,h2⟩,fun f' hf' r hr=> ?_,R.bornR,R.alive,R.marks⟩
   ·simp only[List.length_set,Act.put,Array.size_setIfInBounds];exact h1.size
   ·show ae _ g ((f.set d av).getD i .undef) ((a.tmps.setIfInBounds d v).getD i Go.undef)
    have hs:=h1.slot i
    by_cases e:i=d
    ·subst e
     rcases Nat.lt_or_ge i f.length with h|h
     ·have h':i<a.tmps.size:=by have:=h1.size;omega
      have e1:(f.set i av).getD i .undef=av:=by simp[List.getD,h]
      have e2:(a.tmps.setIfInBounds i v).getD i Go.undef=v:=by simp[h']
      rw[e1,e2];exact hv
     ·have e1:(f.set i av).getD i .undef= .undef:=by
       simp[List.getD,List.getElem?_eq_none (show(f.set i av).length≤i by simpa using h)]
      rw[e1];simp[ae]
    ·have e1:(f.set d av).getD i .undef=f.getD i .undef:=by
      simp only[List.getD,List.getElem?_set];rw[if_neg (Ne.symm e)]
     have e2:(a.tmps.setIfInBounds d v).getD i Go.undef=a.tmps.getD i Go.undef:=by
      simp only[Array.getD_eq_getD_getElem?,Array.getElem?_setIfInBounds];rw[if_neg (Ne.symm e)]
     rw[e1,e2];exact hs
   ·rcases List.mem_cons.1 hf' with rfl|hf'
    ·have: ∀(l:List AV) (d:Nat),r∈AV.ah (l.set d av)→r∈AV.ah l∨r∈av.roots:=by
      intro l
      induction l with
      |nil=>intro d h;exact .inl h
      |cons u us ih=>
       intro d h
       cases d with
       |zero=>
        simp only[List.set_cons_zero,AV.ah,List.mem_append]at h⊢
        exact h.elim .inr fun h=> .inl (.inr h)
       |succ d=>
        simp only[List.set_cons_succ,AV.ah,List.mem_append]at h⊢
        rcases h with h|h
        ·exact .inl (.inl h)
        ·exact(ih d h).imp .inr id
     rcases this f d hr with h|h
     ·exact R.bornF f List.mem_cons_self r h
     ·exact hb r h
    ·exact R.bornF f' (List.mem_cons_of_mem _ hf') r hr
end
end
end Go.Am
end
section
/- Soundness, seventh part: values read as data. -/
namespace Go.Am
noncomputable section
attribute [local instance] D.real
def hdr(g:aB):AV→Value→Path→Value
 | .sl r p sub,v=>nj sub v fun q=>(g r).H (p++q)
 |_,v=>fun _=>v
def Gof(g:aB)(avs:List AV)(vals:List Value)(k:Nat):Path→Value:=hdr g (avs.getD k .undef) (vals.getD k Go.undef)
section
variable {w0 : bu} {w : World} {get : Get} {g : aB}
theorem xn(hR: ∀r,aF w0 w get g r)(hB:Seen w0 w){r:Nat}{p:Path}{sub:Option (Nat×Nat)}{v:Value}{ok:List Tst}{e:Ty}{ys:List (den e)}
  (hs:sliceAt get r p=(ok,⟨e,ys⟩)) (hok:aN ok) (hv:ae get g (.sl r p sub) v):
  aS w false e (dJ sub ys) (hdr g (.sl r p sub) v):=by
 have h:=hR r
 unfold aF at h
 unfold sliceAt at hs
 rw[ae]at hv
 obtain⟨_,hv⟩:=hv
 cases hg:get r with
 |dead=>rw[hg]at hs;simp only[Prod.mk.injEq]at hs;obtain⟨rfl,_⟩:=hs;exact absurd (af.1 hok).1 (by simp[Tst.val])
 |var cs=>rw[hg]at hs;simp only[Prod.mk.injEq]at hs;obtain⟨rfl,_⟩:=hs;exact absurd (af.1 hok).1 (by simp[Tst.val])
 |row rw t xs=>
  rw[hg]at h hs hv
  have hrow:aS w false t xs (g r).H:=by
   cases rw with
   |true=>exact rR h.1
   |false=>exact lC hB h
  obtain⟨h1,h2,_,_⟩:=gH p t xs (g r).H ok e ys hs hok hrow
  exact il h1 (by have:=hv t e rfl h2;simpa using this)
 |half t xs=>rw[hg]at hs;simp only[Prod.mk.injEq]at hs;obtain⟨rfl,_⟩:=hs;exact absurd (af.1 hok).1 (by simp[Tst.val])
 |sh t xs=>
  rw[hg]at h hs hv
  obtain⟨h1,h2,_,_⟩:=gH p t xs (g r).H ok e ys hs hok h.row
  exact il h1 (by have:=hv t e rfl h2;simpa using this)
 |pend r' p' t xs=>
  rw[hg]at h hs hv
  cases p with
  |nil=>
   simp only[Prod.mk.injEq,Sigma.mk.injEq]at hs
   obtain⟨-,rfl,hs⟩:=hs
   obtain rfl:=eq_of_heq hs
   exact il (rR h.1) (hv t t rfl rfl)
  |cons x p=>simp only[Prod.mk.injEq]at hs;obtain⟨rfl,_⟩:=hs;exact absurd (af.1 hok).1 (by simp[Tst.val])
theorem eC{a:Ty}(x:List (den a)):ly rfl x=x:=rfl
theorem ay{l:List Tst}(h:aN (.s false::l)):False:=by
 have:=(af.1 h).1
 simp[Tst.val]at this
theorem drop_cons{α:Type}{l:List α}{f:Nat}{x:α}{xs:List α}(h:l.drop f=x::xs):l[f]?=some x∧xs=l.drop (f+1)∧f+1≤l.length:=by
 have hlt:f<l.length:=by
  rcases Nat.lt_or_ge f l.length with h'|h'
  ·exact h'
  ·rw[List.drop_eq_nil_of_le h']at h;cases h
 rw[List.drop_eq_getElem_cons hlt]at h
 injection h with h1 h2
 exact⟨by rw[List.getElem?_eq_getElem hlt,h1],h2.symm,hlt⟩
theorem kQ(hR: ∀r,aF w0 w get g r)(hB:Seen w0 w){avs:List AV}{vals:List Value}(hA:ai get g avs vals):
  ∀(t:Ty) (f:Nat) (ok:List Tst) (d:den t) (rest:List AV),bp get t (avs.drop f)=(ok,d,rest)→aN ok→
   Rep w false t d (Gof g avs vals) f (fun k=>vals[k]?)∧rest=avs.drop (f+t.size)∧f+t.size≤avs.length∨(t.size=0∧rest=avs.drop f∧Rep w false t d (Gof g avs vals) f (fun k=>vals[k]?)):=by
 intro t
 induction t with
 |int k=>
  intro f ok d rest h hok
  left
  unfold bp at h
  split at h
  ·next k' n vs e=>
   simp only[Prod.mk.injEq]at h
   obtain⟨rfl,rfl,rfl⟩:=h
   obtain⟨e1,e2,e3⟩:=drop_cons e
   obtain⟨x,hx,hr⟩:=bK hA e1
   rw[ae]at hr
   have:k'=k:=by have:=(af.1 hok).1;simpa[Tst.val]using this
   subst this;subst hr
   exact⟨hx,e2,e3⟩
  ·simp only[Prod.mk.injEq]at h;obtain⟨rfl,_⟩:=h;exact(ay hok).elim
 |bool=>
  intro f ok d rest h hok
  left
  unfold bp at h
  split at h
  ·next b vs e=>
   simp only[Prod.mk.injEq]at h
   obtain⟨rfl,rfl,rfl⟩:=h
   obtain⟨e1,e2,e3⟩:=drop_cons e
   obtain⟨x,hx,hr⟩:=bK hA e1
   rw[ae]at hr
   subst hr
   exact⟨hx,e2,e3⟩
  ·next b vs e=>
   simp only[Prod.mk.injEq]at h
   obtain⟨rfl,rfl,rfl⟩:=h
   obtain⟨e1,e2,e3⟩:=drop_cons e
   obtain⟨x,hx,hr⟩:=bK hA e1
   rw[ae]at hr
   subst hr
   exact⟨hx,e2,e3⟩
  ·simp only[Prod.mk.injEq]at h;obtain⟨rfl,_⟩:=h;exact(ay hok).elim
 |str=>
  intro f ok d rest h hok
  left
  unfold bp at h
  split at h
  ·next b vs e=>
   simp only[Prod.mk.injEq]at h
   obtain⟨rfl,rfl,rfl⟩:=h
   obtain⟨e1,e2,e3⟩:=drop_cons e
   obtain⟨x,hx,hr⟩:=bK hA e1
   rw[ae]at hr
   subst hr
   exact⟨hx,e2,e3⟩
  ·simp only[Prod.mk.injEq]at h;obtain⟨rfl,_⟩:=h;exact(ay hok).elim
 |unit=>
  intro f ok d rest h hok
  right
  simp only[bp,Prod.mk.injEq]at h
  exact⟨rfl,h.2.2.symm,trivial⟩
 |pair a b iha ihb=>
  intro f ok d rest h hok
  unfold bp at h
  generalize ha:bp get a (avs.drop f)=ra at h
  obtain⟨ok1,x,rest1⟩:=ra
  simp only at h
  generalize hb:bp get b rest1=rb at h
  obtain⟨ok2,y,rest2⟩:=rb
  simp only[Prod.mk.injEq]at h
  obtain⟨rfl,rfl,rfl⟩:=h
  obtain⟨k1,k2⟩:=aq.1 hok
  have hr1:Rep w false a x (Gof g avs vals) f (fun k=>vals[k]?)∧rest1=avs.drop (f+a.size):=by
   rcases iha f ok1 x rest1 ha k1 with⟨h1,h2,_⟩|⟨h0,h1,h2⟩
   ·exact⟨h1,h2⟩
   ·exact⟨h2,by rw[h0];exact h1⟩
  obtain⟨r1,rfl⟩:=hr1
  have hlen1:a.size=0∨f+a.size≤avs.length:=by
   rcases iha f ok1 x _ ha k1 with⟨_,_,h⟩|⟨h0,_⟩
   ·exact .inr h
   ·exact .inl h0
  rcases ihb (f+a.size) ok2 y _ hb k2 with⟨h1,h2,h3⟩|⟨h0,h1,h2⟩
  ·left
   refine⟨⟨r1,h1⟩,?_,?_⟩
   ·rw[h2];simp only[Ty.size];congr 1;omega
   ·simp only[Ty.size];omega
  ·rcases hlen1 with h|h
   ·right
    refine⟨by simp only[Ty.size];omega,?_,⟨r1,h2⟩⟩
    rw[h1,h];rfl
   ·left
    refine⟨⟨r1,h2⟩,?_,?_⟩
    ·rw[h1];simp only[Ty.size];congr 1;omega
    ·simp only[Ty.size];omega
 |sl e ih=>
  intro f ok d rest h hok
  left
  unfold bp at h
  split at h
  ·next vs ee=>
   simp only[Prod.mk.injEq]at h
   obtain⟨rfl,rfl,rfl⟩:=h
   obtain⟨e1,e2,e3⟩:=drop_cons ee
   obtain⟨x,hx,hr⟩:=bK hA e1
   rw[ae]at hr
   subst hr
   have hG:Gof g avs vals f=fun _=> .slice none 0 0:=by
    unfold Gof
    simp only[List.getD_eq_getElem?_getD,e1,hx,Option.getD_some,hdr]
   refine⟨⟨?_,?_⟩,e2,e3⟩
   ·rw[hG];exact hx
   ·rw[hG];exact .inl ⟨rfl,rfl⟩
  ·next r p sub vs ee=>
   generalize hs:sliceAt get r p=s at h
   obtain⟨ok',e',ys⟩:=s
   simp only at h
   split at h
   ·next he _=>
    subst he
    simp only[eC,Prod.mk.injEq]at h
    obtain⟨rfl,rfl,rfl⟩:=h
    obtain⟨e1,e2,e3⟩:=drop_cons ee
    obtain⟨x,hx,hr⟩:=bK hA e1
    have hG:Gof g avs vals f=hdr g (.sl r p sub) x:=by
     unfold Gof
     simp only[List.getD_eq_getElem?_getD,e1,hx,Option.getD_some]
    refine⟨⟨?_,?_⟩,e2,e3⟩
    ·rw[hG];exact hx
    ·rw[hG];exact xn hR hB hs hok hr
   ·simp only[Prod.mk.injEq]at h;obtain⟨rfl,_⟩:=h;exact(ay hok).elim
  ·simp only[Prod.mk.injEq]at h;obtain⟨rfl,_⟩:=h;exact(ay hok).elim
end
end
end Go.Am
end
section
/- Soundness, eighth part: rows given up. -/
namespace Go.Am
attribute [local instance] D.real
section
variable {w0 : bu} {w : World} {get : Get} {g : aB}
theorem xN{a b:Ty}{vs:List AV}{r:Nat}{rest:List AV}(h:Hn a b vs=some (r,rest)):
  ∃e1 e2 i f s i' f' s',a= .sl e1∧b= .sl e2∧vs= .sl r [(i,f)] s:: .sl r [(i',f')] s'::rest∧f'≠f:=by
 unfold Hn at h
 split at h
 ·split at h
  ·split at h
   ·next r1 i f s r2 i' f' s' rest'=>
    cases hb:(Nat.beq r2 r1&& !(Nat.beq f' f))with
    |true=>
     rw[hb]at h
     simp only[cond_true,Option.some.injEq,Prod.mk.injEq]at h
     obtain⟨rfl,rfl⟩:=h
     simp only[Bool.and_eq_true,Bool.not_eq_true']at hb
     have e1:=Nat.eq_of_beq_eq_true hb.1
     subst e1
     exact⟨_,_,i,f,s,i',f',s',rfl,rfl,rfl,Nat.ne_of_beq_eq_false hb.2⟩
    |false=>rw[hb]at h;cases h
   ·cases h
  ·cases h
 ·cases h
theorem CY(hR: ∀r,aF w0 w get g r){avs:List AV}{vals:List Value}(hA:ai get g avs vals){e t:Ty}{f r:Nat}{p:Path}{sub:Option (Nat×Nat)}{vs rest:List AV}{ok:List Tst}{d:List (den e)}{xs:List (den t)}
  (hv:avs.drop f= .sl r p sub::vs) (hgr:get r= .row true t xs) (h:bp get (.sl e) (avs.drop f)=(ok,d,rest)) (hok:aN ok):
  ∃ok1 ys,rowAt t xs p=(ok1,⟨e,ys⟩)∧aN ok1∧bD t xs (g r).H∧ ∀b,Blk (.sl e) d (Gof g avs vals) f b→aD e ys (fun q=>(g r).H (p++q)) b:=by
 unfold bp at h
 rw[hv]at h
 simp only at h
 generalize hs:sliceAt get r p=s at h
 obtain⟨ok1,e',ys⟩:=s
 simp only at h
 split at h
 ·next he _=>
  subst he
  simp only[eC,Prod.mk.injEq]at h
  obtain⟨rfl,rfl,rfl⟩:=h
  obtain⟨e1,e2,e3⟩:=drop_cons hv
  obtain⟨x,hx,hr⟩:=bK hA e1
  have hG:Gof g avs vals f=hdr g (.sl r p sub) x:=by
   unfold Gof
   simp only[List.getD_eq_getElem?_getD,e1,hx,Option.getD_some]
  simp only[sliceAt,hgr]at hs
  have hroot:=hR r
  unfold aF at hroot
  rw[hgr]at hroot
  obtain⟨r1,r2,r3,r4⟩:=gH p t xs (g r).H ok1 e' ys hs hok hroot.1
  rw[ae]at hr
  have hsub:mI e'.size sub ((fun q=>(g r).H (p++q)) []) x:=by
   simp only[List.append_nil]
   exact hr.2 t e' (by rw[hgr];rfl) r2
  refine⟨ok1,ys,hs,hok,hroot.2,fun b hb=> ?_⟩
  change aD e' _ (Gof g avs vals f) b at hb
  rw[hG]at hb
  exact eR hsub hb
 ·simp only[Prod.mk.injEq]at h;obtain⟨rfl,_⟩:=h;exact(ay hok).elim
theorem kM(hR: ∀r,aF w0 w get g r)(hS: ∀r r' b,r≠r'→Own get g r b→Own get g r' b→False)
  {avs:List AV} {vals:List Value} (hA:ai get g avs vals):
  ∀(t:Ty) (f:Nat) (ok ok':List Tst) (d:den t) (l:List Nat) (rest rest':List AV),bp get t (avs.drop f)=(ok,d,rest)→gives get t (avs.drop f)=(ok',l,rest')→aN ok→aN ok'→
   Rep w true t d (Gof g avs vals) f (fun k=>vals[k]?)∧rest'=rest∧(∀b,Blk t d (Gof g avs vals) f b→ ∃r∈l,Own get g r b)∧(l.Nodup→Sep t d (Gof g avs vals) f)∧rest=avs.drop (f+t.size):=by
 intro t
 induction t with
 |int k=>
  intro f ok ok' d l rest rest' h hg hok hok'
  unfold bp at h
  split at h
  ·next k' n vs e=>
   simp only[Prod.mk.injEq]at h
   obtain⟨rfl,rfl,rfl⟩:=h
   obtain⟨e1,e2,e3⟩:=drop_cons e
   obtain⟨x,hx,hr⟩:=bK hA e1
   rw[ae]at hr
   have:k'=k:=by have:=(af.1 hok).1;simpa[Tst.val]using this
   subst this;subst hr
   simp only[gives,Prod.mk.injEq]at hg
   obtain⟨rfl,rfl,rfl⟩:=hg
   exact⟨hx,by rw[e];rfl,fun b h=>h.elim,fun _=>trivial,e2⟩
  ·simp only[Prod.mk.injEq]at h;obtain⟨rfl,_⟩:=h;exact(ay hok).elim
 |bool=>
  intro f ok ok' d l rest rest' h hg hok hok'
  unfold bp at h
  split at h
  ·next b vs e=>
   simp only[Prod.mk.injEq]at h
   obtain⟨rfl,rfl,rfl⟩:=h
   obtain⟨e1,e2,e3⟩:=drop_cons e
   obtain⟨x,hx,hr⟩:=bK hA e1
   rw[ae]at hr
   subst hr
   simp only[gives,Prod.mk.injEq]at hg
   obtain⟨rfl,rfl,rfl⟩:=hg
   exact⟨hx,by rw[e];rfl,fun b h=>h.elim,fun _=>trivial,e2⟩
  ·next b vs e=>
   simp only[Prod.mk.injEq]at h
   obtain⟨rfl,rfl,rfl⟩:=h
   obtain⟨e1,e2,e3⟩:=drop_cons e
   obtain⟨x,hx,hr⟩:=bK hA e1
   rw[ae]at hr
   subst hr
   simp only[gives,Prod.mk.injEq]at hg
   obtain⟨rfl,rfl,rfl⟩:=hg
   exact⟨hx,by rw[e];rfl,fun b h=>h.elim,fun _=>trivial,e2⟩
  ·simp only[Prod.mk.injEq]at h;obtain⟨rfl,_⟩:=h;exact(ay hok).elim
 |str=>
  intro f ok ok' d l rest rest' h hg hok hok'
  unfold bp at h
  split at h
  ·next b vs e=>
   simp only[Prod.mk.injEq]at h
   obtain⟨rfl,rfl,rfl⟩:=h
   obtain⟨e1,e2,e3⟩:=drop_cons e
   obtain⟨x,hx,hr⟩:=bK hA e1
   rw[ae]at hr
   subst hr
   simp only[gives,Prod.mk.injEq]at hg
   obtain⟨rfl,rfl,rfl⟩:=hg
   exact⟨hx,by rw[e];rfl,fun b h=>h.elim,fun _=>trivial,e2⟩
  ·simp only[Prod.mk.injEq]at h;obtain⟨rfl,_⟩:=h;exact(ay hok).elim
 |unit=>
  intro f ok ok' d l rest rest' h hg hok hok'
  simp only[bp,Prod.mk.injEq]at h
  simp only[gives,Prod.mk.injEq]at hg
  obtain⟨rfl,rfl,rfl⟩:=hg
  exact⟨trivial,h.2.2,fun b h=>h.elim,fun _=>trivial,h.2.2.symm⟩
 |pair a b iha ihb=>
  intro f ok ok' d l rest rest' h hg hok hok'
  unfold bp at h
  unfold gives at hg
  generalize ha:bp get a (avs.drop f)=ra at h
  obtain⟨ok1,x,rest1⟩:=ra
  simp only at h
  generalize hb:bp get b rest1=rb at h
  obtain⟨ok2,y,rest2⟩:=rb
  simp only[Prod.mk.injEq]at h
  obtain⟨rfl,rfl,rfl⟩:=h
  split at hg
  ·next r rst htw=>
   obtain⟨e1,e2,i1,f1,s1,i2,f2,s2,rfl,rfl,hvs,hne⟩:=xN htw
   unfold qQ at hg
   split at hg
   ·next t xs hgr=>
    simp only[Prod.mk.injEq]at hg
    obtain⟨rfl,rfl,rfl⟩:=hg
    obtain⟨k1,k2⟩:=aq.1 hok
    have hgvA:gives get (.sl e1) (avs.drop f)=([],[r],avs.drop (f+1)):=by
     have:=(drop_cons hvs).2.1
     unfold gives
     rw[hvs];simp only[hgr];rw[←this]
    have hrest1:rest1=avs.drop (f+1):=(iha f ok1 [] x [r] rest1 _ ha hgvA k1 mF).2.1.symm
    obtain⟨r1,_,b1,s1',_⟩:=iha f ok1 [] x [r] rest1 _ ha hgvA k1 mF
    subst hrest1
    have hvs2:=(drop_cons hvs).2.1
    have hgvB:gives get (.sl e2) (avs.drop (f+1))=([],[r],rst):=by
     unfold gives
     rw[←hvs2];simp only[hgr]
    obtain⟨r2,h4,b2,s2',h5⟩:=ihb (f+1) ok2 [] y [r] _ _ hb hgvB k2 mF
    refine⟨⟨r1,r2⟩,h4,fun bl h=> ?_,fun _=>⟨s1' (by simp),s2' (by simp),fun bl h1 h2=> ?_⟩,by rw[h5];simp only[Ty.size]⟩
    ·rcases h with h|h
     ·exact b1 bl h
     ·exact b2 bl h
    ·obtain⟨o1,y1,p1,p2,p3,p4⟩:=CY hR hA hvs hgr ha k1
     obtain⟨o2,y2,q1,q2,_,q4⟩:=CY hR hA (show avs.drop (f+1)=_ from hvs2.symm) hgr hb k2
     exact Bf p1 p2 q1 q2 hne p3 (p4 bl h1) (q4 bl h2)
   ·simp only[Prod.mk.injEq]at hg;obtain⟨rfl,_⟩:=hg;exact(ay hok').elim
  generalize hga:gives get a (avs.drop f)=ga at hg
  obtain⟨ok3,l1,rest3⟩:=ga
  simp only at hg
  generalize hgb:gives get b rest3=gb at hg
  obtain⟨ok4,l2,rest4⟩:=gb
  simp only[Prod.mk.injEq]at hg
  obtain⟨rfl,rfl,rfl⟩:=hg
  obtain⟨k1,k2⟩:=aq.1 hok
  obtain⟨k3,k4⟩:=aq.1 hok'
  obtain⟨r1,rfl,b1,s1,rfl⟩:=iha f ok1 ok3 x l1 rest1 rest3 ha hga k1 k3
  obtain⟨r2,rfl,b2,s2,e2⟩:=ihb (f+a.size) ok2 ok4 y l2 _ _ hb hgb k2 k4
  refine⟨⟨r1,r2⟩,rfl,fun bl h=> ?_,fun hn=> ?_,?_⟩
  ·rcases h with h|h
   ·obtain⟨r,hr,ho⟩:=b1 bl h;exact⟨r,List.mem_append.2 (.inl hr),ho⟩
   ·obtain⟨r,hr,ho⟩:=b2 bl h;exact⟨r,List.mem_append.2 (.inr hr),ho⟩
  ·obtain⟨n1,n2,n3⟩:=List.nodup_append.1 hn
   refine⟨s1 n1,s2 n2,fun bl h1 h2=> ?_⟩
   obtain⟨r,hr,ho⟩:=b1 bl h1
   obtain⟨r',hr',ho'⟩:=b2 bl h2
   exact hS r r' bl (n3 r hr r' hr') ho ho'
  ·rw[e2];simp only[Ty.size];congr 1;omega
 |sl e ih=>
  intro f ok ok' d l rest rest' h hg hok hok'
  unfold bp at h
  unfold gives at hg
  split at h
  ·next vs ee=>
   simp only[Prod.mk.injEq]at h
   obtain⟨rfl,rfl,rfl⟩:=h
   rw[ee]at hg
   simp only[Prod.mk.injEq]at hg
   obtain⟨rfl,rfl,rfl⟩:=hg
   obtain⟨e1,e2,e3⟩:=drop_cons ee
   obtain⟨x,hx,hr⟩:=bK hA e1
   rw[ae]at hr
   subst hr
   have hG:Gof g avs vals f=fun _=> .slice none 0 0:=by
    unfold Gof
    simp only[List.getD_eq_getElem?_getD,e1,hx,Option.getD_some,hdr]
   refine⟨⟨?_,?_⟩,rfl,fun b hb=> ?_,fun _=> ?_,e2⟩
   ·rw[hG];exact hx
   ·rw[hG];exact .inl ⟨rfl,rfl⟩
   ·change aD e [] (Gof g avs vals f) b at hb
    rw[hG]at hb
    rcases hb with⟨a,n,c,h,_⟩|⟨i,x,h,_⟩
    ·cases h
    ·simp at h
   ·show bD e [] (Gof g avs vals f)
    rw[hG]
    exact⟨fun a n c i x h _ _=>by(cases h),fun i j x y b _ h _=>by simp at h,fun i x h=>by simp at h⟩
  ·next r p sub vs ee=>
   generalize hs:sliceAt get r p=s at h
   obtain⟨ok1,e',ys⟩:=s
   simp only at h
   split at h
   ·next he _=>
    subst he
    simp only[eC,Prod.mk.injEq]at h
    obtain⟨rfl,rfl,rfl⟩:=h
    obtain⟨e1,e2,e3⟩:=drop_cons ee
    obtain⟨x,hx,hr⟩:=bK hA e1
    have hG:Gof g avs vals f=hdr g (.sl r p sub) x:=by
     unfold Gof
     simp only[List.getD_eq_getElem?_getD,e1,hx,Option.getD_some]
    rw[ee]at hg
    simp only at hg
    split at hg
    ·next t xs hgr=>
     simp only[Prod.mk.injEq]at hg
     obtain⟨rfl,rfl,rfl⟩:=hg
     simp only[sliceAt,hgr]at hs
     have hroot:=hR r
     unfold aF at hroot
     rw[hgr]at hroot
     obtain⟨r1,r2,r3,r4⟩:=gH p t xs (g r).H ok1 e' ys hs hok hroot.1
     rw[ae]at hr
     have hsub:mI e'.size sub ((fun q=>(g r).H (p++q)) []) x:=by
      simp only[List.append_nil]
      exact hr.2 t e' (by rw[hgr];rfl) r2
     refine⟨⟨?_,?_⟩,rfl,fun b hb=>⟨r,List.mem_singleton.2 rfl,?_⟩,fun _=> ?_,e2⟩
     ·rw[hG];exact hx
     ·rw[hG];exact il r1 hsub
     ·change aD e' _ (Gof g avs vals f) b at hb
      rw[hG]at hb
      unfold Own
      rw[hgr]
      exact r3 b (eR hsub hb)
     ·show bD e' _ (Gof g avs vals f)
      rw[hG]
      exact fx hsub (r4 hroot.2)
    ·simp only[Prod.mk.injEq]at hg;obtain⟨rfl,_⟩:=hg;exact(ay hok').elim
   ·simp only[Prod.mk.injEq]at h;obtain⟨rfl,_⟩:=h;exact(ay hok).elim
  ·simp only[Prod.mk.injEq]at h;obtain⟨rfl,_⟩:=h;exact(ay hok).elim
end
end Go.Am
end
section
/- Soundness, ninth part: data laid as new roots. -/
namespace Go.Am
attribute [local instance] D.real
section
variable {w0 : bu} {w w' : World} {st st' : St} {g g' : aB} {born born' : Nat → Prop} {acts : List Act} {a : Act}
theorem mN{st st':St}{g g':aB}{r b:Nat}(e1:st'.get r=st.get r)(e2:g' r=g r)(e3: ∀q p t xs,st.get r= .pend q p t xs→g' q=g q):Own st'.get g' r b↔Own st.get g r b:=by
 unfold Own
 rw[e1]
 cases hg:st.get r with
 |dead=>exact Iff.rfl
 |var cs=>simp only[e2]
 |row rw t xs=>cases rw<;>simp only[e2]
 |half t xs=>simp only[e2]
 |sh t xs=>simp only[e2]
 |pend q p t xs=>simp only[e2,mh,e3 q p t xs hg]
theorem CM(R:Rel w0 st g born acts w)(i:Nat)(x:ak)(inf:Info)(hi: ¬born i)
  (hok:aF w0 w (st.ep i x).get (dK g i inf) i) (hlow: ∀b,Own (st.ep i x).get (dK g i inf) i b→ ¬w0.dh b)
  (hsep: ∀r b,Own (st.ep i x).get (dK g i inf) i b→Own st.get g r b→False)
  (hx: ∀r∈x.roots,born r):Rel w0 (st.ep i x) (dK g i inf) (fun r=>born r∨r=i) acts w:=by
 have hne: ∀r,born r→r≠i:=fun r h e=>hi (e▸h)
 refine jU (fun r=>r=i) R (vU _ _) rfl (fun r hr=>⟨fun t ht=> ?_,fun hv=> ?_⟩)
  (fun r hr=>⟨aT hr,aE hr,fun b _=>rfl⟩)
  (fun r r' p t xs hr e=> ?_) (fun r hr=>by subst hr;exact hok) (fun r r' b hr hrr h h'=> ?_) (fun r b hr h=>by subst hr;exact hlow b h) (fun _ h=> .inl h) (fun r hr y hy=> ?_) (fun r hr _=> .inr hr)
 ·rw[aT (hne r hr)]at ht;exact⟨ht,fun _ _=>by rw[aE (hne r hr)]⟩
 ·rw[aT (hne r hr)]at hv;exact⟨hv,by rw[aE (hne r hr)]⟩
 ·intro e';subst e'
  exact hi (R.bornR r r' (by rw[e];simp[ak.roots]))
 ·subst hr
  refine hsep r' b h ((mN (aT fun e=>hrr e.symm) (aE fun e=>hrr e.symm) fun q p t xs e=>aE ?_).1 h')
  exact hne q (R.bornR r' q (by rw[e];simp[ak.roots]))
 ·subst hr
  rw[bQ]at hy;exact .inl (hx y hy)
theorem ig(base:Nat)(l m:List ak):aj base (l++m)=aj base l++aj (base+l.length) m:=by
 induction l generalizing base with
 |nil=>simp[aj]
 |cons x l ih=>simp only[List.cons_append,aj,ih,List.length_cons];congr 2;congr 1;omega
structure Laid (st st' : St) (g g' : aB) (born born' : Nat → Prop) (lo hi : Nat) : Prop where
  old : ∀ r, born r → st'.get r = st.get r ∧ g' r = g r
  born_iff : ∀ r, born' r ↔ born r ∨ (lo ≤ r ∧ r < hi)
theorem Laid.holds{lo hi r:Nat}(L:Laid st st' g g' born born' lo hi)(h:born r):Holds st.get st'.get g g' r fun _=>True:=by
 obtain⟨e1,e2⟩:=L.old r h
 exact⟨fun t ht=>⟨by rw[←e1];exact ht,fun _ _=>by rw[e2]⟩,fun hv=>⟨by rw[←e1];exact hv,by rw[e2]⟩⟩
theorem AB(rw:Bool): ∀(t:Ty) (d:den t) (st:St) (g:aB) (born:Nat→Prop) (base f:Nat) (vals:List Value) (G:Nat→Path→Value) (vs:List AV) (rs:List ak),
  Rel w0 st g born acts w→Rep (bif rw then w else w0.w) rw t d G f (fun k=>vals[k]?)→(rw=true→Sep t d G f)→
  (rw=true→ ∀b,Blk t d G f b→ ¬w0.dh b∧ ∀r,¬Own st.get g r b)→nh rw t d base=(vs,rs)→
  (∀i,base≤i→i<base+rs.length→ ¬born i)→
  ∃g' born',Rel w0 (st.aH (aj base rs)) g' born' acts w∧Laid st (st.aH (aj base rs)) g g' born born' base (base+rs.length)∧
   vs.length=t.size∧(∀k,k<t.size→ ∃x,vals[f+k]?=some x∧ae (st.aH (aj base rs)).get g' (vs.getD k .undef) x∧x.oneCell'=true)∧
   (∀r∈AV.ah vs,base≤r∧r<base+rs.length)∧
   (∀r b,Own (st.aH (aj base rs)).get g' r b→Own st.get g r b∨(rw=true∧Blk t d G f b)):=by
 intro t
 have one: ∀(v:AV) (f:Nat) (vals:List Value) (x:Value) (st:St) (g:aB) (born:Nat→Prop) (base:Nat) (B:Nat→Prop),Rel w0 st g born acts w→vals[f]?=some x→ae st.get g v x→x.oneCell'=true→v.roots= []→
   ∃g' born',Rel w0 (st.aH (aj base [])) g' born' acts w∧Laid st (st.aH (aj base [])) g g' born born' base (base+0)∧
   [v].length=1∧(∀k,k<1→ ∃x,vals[f+k]?=some x∧ae (st.aH (aj base [])).get g' ([v].getD k .undef) x∧x.oneCell'=true)∧
   (∀r∈AV.ah [v],base≤r∧r<base+0)∧(∀r b,Own (st.aH (aj base [])).get g' r b→Own st.get g r b∨B b):=by
  intro v f vals x st g born base B R hx hv h1 hr
  refine⟨g,born,R,⟨fun _ _=>⟨rfl,rfl⟩,fun r=>⟨.inl,fun h=>h.elim id fun h=>by omega⟩⟩,rfl,fun k hk=> ?_,fun r h=> ?_,fun _ _ h=> .inl h⟩
  ·obtain rfl:k=0:=by omega
   exact⟨x,hx,hv,h1⟩
  ·simp[AV.ah,hr]at h
 induction t with
 |int k=>
  intro d st g born base f vals G vs rs R hrep _ _ hl hfr
  simp only[nh,Prod.mk.injEq]at hl
  obtain⟨rfl,rfl⟩:=hl
  exact one (.int k d) f vals _ st g born base _ R hrep (by rw[ae]) rfl rfl
 |bool=>
  intro d st g born base f vals G vs rs R hrep _ _ hl hfr
  simp only[nh,Prod.mk.injEq]at hl
  obtain⟨rfl,rfl⟩:=hl
  exact one (.bool d) f vals _ st g born base _ R hrep (by rw[ae]) rfl rfl
 |str=>
  intro d st g born base f vals G vs rs R hrep _ _ hl hfr
  simp only[nh,Prod.mk.injEq]at hl
  obtain⟨rfl,rfl⟩:=hl
  exact one (.str d) f vals _ st g born base _ R hrep (by rw[ae]) rfl rfl
 |unit=>
  intro d st g born base f vals G vs rs R hrep _ _ hl hfr
  simp only[nh,Prod.mk.injEq]at hl
  obtain⟨rfl,rfl⟩:=hl
  exact⟨g,born,R,⟨fun _ _=>⟨rfl,rfl⟩,fun r=>⟨.inl,fun h=>h.elim id fun h=>by simp at h;omega⟩⟩,rfl,fun k hk=>by simp[Ty.size]at hk,fun r h=>by simp[AV.ah]at h,fun _ _ h=> .inl h⟩
 |sl e ih=>
  intro d st g born base f vals G vs rs R hrep hsep hblk hl hfr
  simp only[nh,Prod.mk.injEq]at hl
  obtain⟨rfl,rfl⟩:=hl
  have hi: ¬born base:=hfr base (Nat.le_refl _) (by simp)
  have e1:(st.ep base (.row rw e d)).get base= .row rw e d:=bQ _ _ _
  have e2:dK g base ⟨0,G f,fun _=>False⟩ base=⟨0,G f,fun _=>False⟩:=bU _ _ _
  have hown: ∀b,Own (st.ep base (.row rw e d)).get (dK g base ⟨0,G f,fun _=>False⟩) base b→rw=true∧aD e d (G f) b:=by
   intro b h
   unfold Own at h
   rw[e1]at h
   cases rw with
   |true=>simp only[e2]at h;exact⟨rfl,h⟩
   |false=>exact h.elim
  have R':=CM R base (.row rw e d) ⟨0,G f,fun _=>False⟩ hi (by
    unfold aF
    rw[e1]
    cases rw with
    |true=>simp only[e2];exact⟨hrep.2,hsep rfl⟩
    |false=>simp only[e2];exact hrep.2)
   (fun b h=>(hblk (hown b h).1 b (hown b h).2).1) (fun r b h h'=>(hblk (hown b h).1 b (hown b h).2).2 r h') (fun r h=>by simp[ak.roots]at h)
  obtain⟨hrd,hrow⟩:=hrep
  have hsl: ∃a n c,G f []= .slice a n c:=by
   rcases hrow with⟨h0,_⟩|⟨a,cap,h0,_⟩
   ·exact⟨_,_,_,h0⟩
   ·exact⟨_,_,_,h0⟩
  refine⟨dK g base ⟨0,G f,fun _=>False⟩,_,R',⟨fun r hr=>⟨aT fun e=>hi (e▸hr),aE fun e=>hi (e▸hr)⟩,fun r=> ?_⟩,rfl,fun k hk=> ?_,fun r h=> ?_,fun r b h=> ?_⟩
  ·exact⟨fun h=>h.imp id fun h=>by subst h;simp,fun h=>h.imp id fun h=>by simp at h;omega⟩
  ·simp only[Ty.size]at hk
   obtain rfl:k=0:=by omega
   refine⟨_,hrd,?_,?_⟩
   ·show ae _ _ (.sl base [] none) _
    rw[ae]
    refine⟨hsl,fun t e' ht he=> ?_⟩
    show G f []=(dK g base ⟨0,G f,fun _=>False⟩ base).H []
    rw[e2]
   ·obtain⟨a,n,c,h⟩:=hsl;rw[h];rfl
  ·simp[AV.ah,AV.roots]at h
   subst h;simp
  ·by_cases hr:r=base
   ·subst hr;exact .inr (hown b h)
   ·refine .inl ((mN (aT hr) (aE hr) fun q p t xs e=>aE ?_).1 h)
    intro e';subst e'
    exact hi (R.bornR r q (by rw[e];simp[ak.roots]))
 |pair a b iha ihb=>
  intro d st g born base f vals G vs rs R hrep hsep hblk hl hfr
  unfold nh at hl
  generalize ha:nh rw a d.1 base=ra at hl
  obtain⟨vs1,rs1⟩:=ra
  simp only at hl
  generalize hb:nh rw b d.2 (base+rs1.length)=rb at hl
  obtain⟨vs2,rs2⟩:=rb
  simp only[Prod.mk.injEq]at hl
  obtain⟨rfl,rfl⟩:=hl
  obtain⟨g1,born1,R1,L1,n1,v1,r1,o1⟩:=iha d.1 st g born base f vals G vs1 rs1 R hrep.1 (fun h=>(hsep h).1) (fun h bl hb=>hblk h bl (.inl hb)) ha (fun i h1 h2=>hfr i h1 (by simp;omega))
  obtain⟨g2,born2,R2,L2,n2,v2,r2,o2⟩:=ihb d.2 _ g1 born1 (base+rs1.length) (f+a.size) vals G vs2 rs2 R1 hrep.2 (fun h=>(hsep h).2.1)
   (fun h bl hb=>⟨(hblk h bl (.inr hb)).1,fun r ho=>(o1 r bl ho).elim ((hblk h bl (.inr hb)).2 r) fun ho=>(hsep h).2.2 bl ho.2 hb⟩) hb
   (fun i h1 h2 hbi=>((L1.born_iff i).1 hbi).elim (hfr i (by omega) (by simp;omega)) fun h=>by omega)
  have hset:st.aH (aj base (rs1++rs2))=(st.aH (aj base rs1)).aH (aj (base+rs1.length) rs2):=by
   rw[ig,iH]
  rw[hset]
  refine⟨g2,born2,R2,⟨fun r hr=> ?_,fun r=> ?_⟩,?_,fun k hk=> ?_,fun r h=> ?_,fun r bl h=> ?_⟩
  ·obtain⟨e1,e2⟩:=L1.old r hr
   obtain⟨e3,e4⟩:=L2.old r ((L1.born_iff r).2 (.inl hr))
   exact⟨e3.trans e1,e4.trans e2⟩
  ·rw[L2.born_iff,L1.born_iff,List.length_append]
   constructor
   ·rintro((h|h)|h)
    ·exact .inl h
    ·exact .inr ⟨h.1,by omega⟩
    ·exact .inr ⟨by omega,by omega⟩
   ·rintro(h|h)
    ·exact .inl (.inl h)
    ·by_cases h':r<base+rs1.length
     ·exact .inl (.inr ⟨h.1,h'⟩)
     ·exact .inr ⟨by omega,by omega⟩
  ·simp only[List.length_append,Ty.size,n1,n2]
  ·simp only[Ty.size]at hk
   by_cases h:k<a.size
   ·obtain⟨x,hx,hv,h1⟩:=v1 k h
    refine⟨x,hx,?_,h1⟩
    have e:(vs1++vs2).getD k .undef=vs1.getD k .undef:=by
     simp only[List.getD_eq_getElem?_getD];rw[List.getElem?_append_left (by omega)]
    rw[e]
    refine gO _ _ (fun r hr=>L2.holds ((L1.born_iff r).2 (.inr (r1 r (gQ hr))))) hv
   ·obtain⟨x,hx,hv,h1⟩:=v2 (k-a.size) (by omega)
    refine⟨x,?_,?_,h1⟩
    ·have:f+a.size+(k-a.size)=f+k:=by omega
     rw[←this];exact hx
    ·have e:(vs1++vs2).getD k .undef=vs2.getD (k-a.size) .undef:=by
      simp only[List.getD_eq_getElem?_getD];rw[List.getElem?_append_right (by omega),n1]
     rw[e];exact hv
  ·have: ∀(l m:List AV),r∈AV.ah (l++m)→r∈AV.ah l∨r∈AV.ah m:=by
    intro l
    induction l with
    |nil=>intro m h;exact .inr h
    |cons u us ih=>
     intro m h
     simp only[List.cons_append,AV.ah,List.mem_append]at h⊢
     rcases h with h|h
     ·exact .inl (.inl h)
     ·exact(ih m h).imp .inr id
   rw[List.length_append]
   rcases this _ _ h with h|h
   ·have:=r1 r h;omega
   ·have:=r2 r h;omega
  ·rcases o2 r bl h with h|⟨h,h'⟩
   ·rcases o1 r bl h with h|⟨h,h'⟩
    ·exact .inl h
    ·exact .inr ⟨h,.inl h'⟩
   ·exact .inr ⟨h,.inr h'⟩
end
end Go.Am
end
section
/- Soundness, tenth part: operands. -/
namespace Go.Am
attribute [local instance] D.real
section
variable {w0 : bu} {w : World} {st : St} {g : aB} {born : Nat → Prop} {acts : List Act} {a : Act}
theorem Bt(get:Get)(g:aB)(v:Value):ae get g (match v with
  | .int k n=> .int k n
  | .bool b=> .kb b
  | .string s=> .str s
  | .slice none 0 0=> .nilS
  |_=> .undef) v:=by
 split<;>simp[ae]
theorem tB(get:Get)(g:aB): ∀(l:List Value),ai get g (l.map fun
  | .int k n=> .int k n
  | .bool b=> .kb b
  | .string s=> .str s
  | .slice none 0 0=> .nilS
  |_=> .undef) l
 | []=>by simp[ai]
 |v::l=>by
  rw[List.map_cons,ai]
  exact⟨v,l,rfl,Bt get g v,tB get g l⟩
theorem Dr(get:Get)(g:aB)(v:Value):ae get g (pj v) v:=by
 unfold pj
 split<;>try simp only[ae]
 next cs=>
  cases h:cs.toList.all Value.oneCell' with
  |false=>simp only[cond_false,ae]
  |true=>
   simp only[cond_true]
   rw[ae]
   exact⟨cs,rfl,fun x hx=>List.all_eq_true.1 h x hx,tB get g _⟩
theorem lI: ∀{l:List AV},(∀v∈l,v.roots= [])→AV.ah l= []
 | [],_=>by rw[AV.ah]
 |v::l,h=>by rw[AV.ah,h v List.mem_cons_self,lI fun v hv=>h v (List.mem_cons_of_mem _ hv)];rfl
theorem Ao(v:Value):(pj v).roots= []:=by
 unfold pj
 split<;>try rfl
 next cs=>
  cases h:cs.toList.all Value.oneCell' with
  |false=>rfl
  |true=>
   simp only[cond_true,AV.roots]
   refine lI fun v hv=> ?_
   obtain⟨x,_,rfl⟩:=List.mem_map.1 hv
   split<;>rfl
theorem C3(v:AV):v.toI.roots=v.roots:=by cases v<;>rfl
theorem GC{get:Get}{v:AV}{x:Value}(h:ae get g v x):ae get g v.toI x:=by
 cases v<;>first|exact h|(rw[ae]at h;subst h;show ae get g (.int _ _) _;rw[ae])
theorem pb(R:Rel w0 st g born (a::acts) w)(i:Nat):ae st.get g (st.top.getD i .undef) (a.tmps.getD i Go.undef)∧ ∀r∈(st.top.getD i .undef).roots,born r:=by
 have hfr:=R.frames
 unfold St.top
 generalize hf:st.fr=fr at hfr
 cases fr with
 |nil=>simp only[eu]at hfr;cases hfr
 |cons f fs=>
  obtain⟨a',asx,e,h1,h2⟩:=hfr
  injection e with e1 e2
  subst e1
  exact⟨h1.slot i,fun r hr=>R.bornF f (by rw[hf];exact List.mem_cons_self) r (gQ hr)⟩
theorem bC(R:Rel w0 st g born (a::acts) w)(x:Operand):ae st.get g (an st x) (a.eval x)∧ ∀r∈(an st x).roots,born r:=by
 cases x with
 |tmp i=>
  obtain⟨h1,h2⟩:=pb R i
  exact⟨GC h1,fun r hr=>h2 r (by rw[show an st (.tmp i)=(st.top.getD i .undef).toI from rfl,C3]at hr;exact hr)⟩
 |const v=>exact⟨Dr _ _ v,fun r hr=>by rw[show an st (.const v)=pj v from rfl,Ao]at hr;cases hr⟩
 |global n=>exact⟨by show ae _ _ .undef _;simp[ae],fun r hr=>by simp[an,AV.roots]at hr⟩
 |func f=>
  refine⟨?_,fun r hr=>by simp[an,AV.roots,AV.ah]at hr⟩
  show ae _ _ (.fn f [] []) (.func (.func f) #[] #[])
  rw[ae]
  exact⟨#[],#[],rfl,by simp[ai],by simp[ai]⟩
theorem nc(R:Rel w0 st g born (a::acts) w)(x:Operand):ae st.get g (evK st x) (a.eval x)∧ ∀r∈(evK st x).roots,born r:=by
 have old:=bC R x
 cases x with
 |tmp i=>exact pb R i
 |const v=>
  cases v with
  |int k n=>exact⟨by show ae _ _ (.ki k n) (.int k n);rw[ae],fun r hr=>by simp[evK,AV.roots]at hr⟩
  |_=>exact old
 |_=>exact old
theorem nT(R:Rel w0 st g born (a::acts) w): ∀(l:List Operand),ai st.get g (l.map (an st)) (l.map a.eval)∧ ∀r∈AV.ah (l.map (an st)),born r
 | []=>⟨by simp[ai],fun r hr=>by simp[AV.ah]at hr⟩
 |x::l=>by
  obtain⟨h1,h2⟩:=bC R x
  obtain⟨h3,h4⟩:=nT R l
  refine⟨?_,fun r hr=> ?_⟩
  ·rw[List.map_cons,List.map_cons,ai];exact⟨_,_,rfl,h1,h3⟩
  ·simp only[List.map_cons,AV.ah,List.mem_append]at hr
   exact hr.elim (h2 r) (h4 r)
end
end Go.Am
end
section
/- Soundness, eleventh part: operations without memory. -/
namespace Go.Am
noncomputable section
attribute [local instance] D.real
def cu(P:Program)(o:Oper)(ρ:Operand→Value)(w:World)(Post:Value→World→Prop):Prop:=
 ∃v w',Post v w'∧((execOp ρ o).run P w= .ok (.value v) w'∨((execOp ρ o).run P w= .ok .skip w'∧v=Go.undef))
theorem vJ{P:Program}{o:Oper}{a:Act}{w:World}{Post:Value→World→Prop}{K:Act→World→Prop}{Q:Exit→Act→World→Prop}
  (h:cu P o a.eval w Post) (hk: ∀v w',Post v w'→K (a.put o.dst v) w'):o.wp P a w K Q:=by
 obtain⟨v,w',hp,h|⟨h,rfl⟩⟩:=h
 ·unfold Oper.wp;rw[h];exact hk v w' hp
 ·unfold Oper.wp;rw[h];exact hk _ w' hp
def dU(w0:bu)(st:St)(born:Nat→Prop)(acts:List Act)(out:Out)(v:Value)(w':World):Prop:=
 ∃g' born',Rel w0 ((st.aH out.upd).cut out.cut) g' born' acts w'∧ae ((st.aH out.upd).cut out.cut).get g' out.v v∧(∀r∈out.v.roots,born' r)∧
  (∀r,born' r→born r∨r∈out.upd.map (·.1))∧ ∀r,born r→born' r
section
variable {P : Program} {w0 : bu} {w : World} {st : St} {g : aB} {born : Nat → Prop} {acts : List Act}
theorem dU.val{ok:List Tst}{av:AV}{v:Value}(R:Rel w0 st g born acts w)(hv:ae st.get g av v)(hr: ∀r∈av.roots,born r):
  dU w0 st born acts {ok:=ok,v:=av} v w:=
 ⟨g,born,R,hv,hr,fun _ h=> .inl h,fun _ h=>h⟩
theorem Bh {op : BinOp} {k : IntKind} {a b : Int} {t : TypeId} {x y : Operand} (hok : aN (wu op k a b).ok) (get : Get) (g : aB) :
    ∃ v, (do eqGuard op t x y (.int k a) (.int k b); binOp op t (.int k a) (.int k b) : Sem Value).run P w = .ok v w ∧ ae get g (wu op k a b).v v ∧ (wu op k a b).v.roots = [] := by
  cases op <;> simp only [wu, Out.bad] at hok ⊢ <;> first
    | exact (ay hok).elim
    | refine ⟨_, by simp [eqGuard, binOp, Op.intArith, Op.intCmp]; rfl, ?_, rfl⟩; rw [ae]; try rfl
    | refine ⟨_, by simp [eqGuard, binOp, Op.intBits]; rfl, ?_, rfl⟩; rw [ae]; try rfl
    | skip
  all_goals first
    | (have hb : b ≠ 0 := by
         have := (af.1 hok).1
         intro e; subst e
         exact absurd this (by decide)
       refine ⟨_, by simp [eqGuard, binOp, Op.intDiv, hb]; rfl, ?_, rfl⟩; rw [ae]; try rfl)
    | skip
theorem xX {op : BinOp} {k k' : IntKind} {a b : Int} {t : TypeId} {x y : Operand} (hok : aN (nL op k a b).ok) (get : Get) (g : aB) :
    ∃ v, (do eqGuard op t x y (.int k a) (.int k' b); binOp op t (.int k a) (.int k' b) : Sem Value).run P w = .ok v w ∧ ae get g (nL op k a b).v v ∧ (nL op k a b).v.roots = [] := by
  cases op <;> simp only [nL, Out.bad] at hok ⊢ <;> first
    | exact (ay hok).elim
    | (have hb : 0 ≤ b := of_decide_eq_true (af.1 hok).1
       have hb' : ¬ b < 0 := by omega
       refine ⟨_, by simp [eqGuard, binOp, Op.shift, hb']; rfl, ?_, rfl⟩; rw [ae]; try rfl)
theorem BQ{op:BinOp}{a b:ByteArray}{t:TypeId}{x y:Operand}(hok:aN (rU op a b).ok)(get:Get)(g:aB):
  ∃v,(do eqGuard op t x y (.string a) (.string b);binOp op t (.string a) (.string b):Sem Value).run P w= .ok v w∧ae get g (rU op a b).v v∧(rU op a b).v.roots= []:=by
 cases op
 case add=>
  have hb:a.size+b.size≤lim:=of_decide_eq_true (af.1 hok).1
  simp only[lim]at hb
  refine⟨.string (a++b),?_,by simp only[rU];rw[ae];rfl,rfl⟩
  have hm:IntKind.i64.max=9223372036854775807:=by decide
  have: ¬((a.size+b.size:Nat):Int)>IntKind.i64.max:=by rw[hm];omega
  simp only[eqGuard,binOp,Op.stringOp,this,if_false]
  rfl
 all_goals first
  |exact(ay hok).elim
  |(refine⟨_,rfl,?_,rfl⟩;simp only[rU];rw[ae];rfl)
theorem CV{get:Get}{g:aB}{x:AV}{v:Value}(h:ae get g x v):ae get g x.toB v:=by
 cases x<;>first|exact h|(simp only[AV.toB];rw[ae]at h⊢;exact h)
theorem Gi{op:BinOp}{x y:AV}{u v:Value}{t:TypeId}{p q:Operand}{get:Get}{g:aB}(hx:ae get g x u)(hy:ae get g y v)(hok:aN (qV P t op x y).ok):
  ∃z,(do eqGuard op t p q u v;binOp op t u v:Sem Value).run P w= .ok z w∧ae get g (qV P t op x y).v z∧(qV P t op x y).v.roots= []:=by
 have hx':=CV hx
 have hy':=CV hy
 unfold qV at hok⊢
 split at hok
 ·next k a k' b e1 e2=>
  rw[e1,ae]at hx'
  rw[e2,ae]at hy'
  subst hx';subst hy'
  cases hs:Ce op with
  |true=>
   rw[hs]at hok
   simp only[cond_true]at hok⊢
   exact xX hok get g
  |false=>
   rw[hs]at hok
   cases hk:decide (k=k')with
   |false=>rw[hk]at hok;exact(ay hok).elim
   |true=>
    have hk:=of_decide_eq_true hk
    subst hk
    simp only[decide_true,cond_true,cond_false]at hok⊢
    exact Bh hok get g
 ·next a b e1 e2=>
  rw[e1,ae]at hx'
  rw[e2,ae]at hy'
  subst hx';subst hy'
  exact BQ hok get g
 ·next a b e1 e2=>
  rw[e1,ae]at hx'
  rw[e2,ae]at hy'
  subst hx';subst hy'
  have key: ∀b,aN [Tst.s b]→b=true:=fun b h=>(af.1 h).1
  split at hok
  ·have ht:=key _ hok
   have ht:P.underlying t=some .bool:=by
    unfold tR at ht
    split at ht
    ·assumption
    ·cases ht
   refine⟨.bool (a==b),?_,by rw[ae];rfl,rfl⟩
   simp[eqGuard,binOp,Op.equal,Op.maxDepth,run_equalIn_bool w _ t a b ht]
  ·have ht:=key _ hok
   have ht:P.underlying t=some .bool:=by
    unfold tR at ht
    split at ht
    ·assumption
    ·cases ht
   refine⟨.bool (!(a==b)),?_,by rw[ae];rfl,rfl⟩
   simp[eqGuard,binOp,Op.equal,Op.maxDepth,run_equalIn_bool w _ t a b ht]
  ·exact(ay hok).elim
 ·exact(ay hok).elim
end
end
end Go.Am
end
section
/- Soundness, twelfth part: more operations without memory. -/
namespace Go.Am
attribute [local instance] D.real
section
variable {P : Program} {w0 : bu} {w : World} {st : St} {g : aB} {born : Nat → Prop} {a : Act} {asx : List Act}
theorem cu.value{o:Oper}{ρ:Operand→Value}{Post:Value→World→Prop}{v:Value}{w':World}(h:(execOp ρ o).run P w= .ok (.value v) w')(hp:Post v w'):cu P o ρ w Post:=⟨v,w',hp,.inl h⟩
theorem ar{t:TypeId}{d:TypeDesc}(h:P.underlying t=some d)(w:World):(underlying t).run P w= .ok d w:=by
 simp[underlying,h]
theorem Gg{get:Get}{x y:AV}{l:List Value}(h:ai get g [x,y] l): ∃u v,l= [u,v]∧ae get g x u∧ae get g y v:=by
 rw[ai]at h
 obtain⟨u,us,rfl,h1,h⟩:=h
 rw[ai]at h
 obtain⟨v,vs,rfl,h2,h⟩:=h
 rw[ai]at h
 subst h
 exact⟨u,v,rfl,h1,h2⟩
theorem BI{o:Oper}{op:BinOp}{t yt:TypeId}{x y:Operand}{base:Nat}(ho:o.op= .binOp op t x y yt)(R:Rel w0 st g born (a::asx) w)
  (e:aP P o (o.op.operands.toList.map (an st)) st.get base=qV P t op (an st x) (an st y))
  (hok:aN (aP P o (o.op.operands.toList.map (an st)) st.get base).ok):
  cu P o a.eval w fun v w'=>dU w0 st born (a::asx) (aP P o (o.op.operands.toList.map (an st)) st.get base) v w':=by
 rw[e]at hok⊢
 obtain⟨z,hz,hr,hroots⟩:=Gi (P:=P) (w:=w) (t:=t) (p:=x) (q:=y) (bC R x).1 (bC R y).1 hok
 refine cu.value (v:=z) (w':=w) ?_ ?_
 ·unfold execOp;rw[ho]
  simp only[Sem.run_bind]at hz⊢
  rw[hz];rfl
 ·have hnu:(qV P t op (an st x) (an st y)).upd= []∧(qV P t op (an st x) (an st y)).cut=none:=by
   unfold qV
   split
   ·next k n k' n' _ _=>cases decide (k=k')<;>cases op<;>exact⟨rfl,rfl⟩
   ·cases op<;>exact⟨rfl,rfl⟩
   ·cases op<;>exact⟨rfl,rfl⟩
   ·exact⟨rfl,rfl⟩
  refine⟨g,born,?_,?_,?_,fun r h=> .inl h,fun r h=>h⟩
  ·rw[hnu.1,hnu.2];exact R
  ·rw[hnu.1,hnu.2];exact hr
  ·rw[hroots];intro r h;cases h
end
end Go.Am
end
section
/- Soundness: steps of operations that answer a value alone. -/
namespace Go.Am
attribute [local instance] D.real
section
variable {P : Program} {w0 : bu} {w : World} {st : St} {g : aB} {born : Nat → Prop} {a : Act} {asx : List Act} {o : Oper} {base : Nat}
theorem bo{out:Out}{v:Value}(R:Rel w0 st g born (a::asx) w)(hu:out.upd= [])(hc:out.cut=none)(hrun:(execOp a.eval o).run P w= .ok (.value v) w)
  (hv:ae st.get g out.v v) (hr: ∀r∈out.v.roots,born r):cu P o a.eval w (dU w0 st born (a::asx) out):=by
 refine cu.value hrun ⟨g,born,?_,?_,hr,fun r h=> .inl h,fun r h=>h⟩
 ·rw[hu,hc];exact R
 ·rw[hu,hc];exact hv
theorem DX{c x y:Operand}(ho:o.op= .pick c x y)(R:Rel w0 st g born (a::asx) w)
  (hok:aN (aP P o (o.op.operands.toList.map (an st)) st.get base).ok):
  cu P o a.eval w (dU w0 st born (a::asx) (aP P o (o.op.operands.toList.map (an st)) st.get base)):=by
 have e:aP P o (o.op.operands.toList.map (an st)) st.get base=Bd (an st c) (an st x) (an st y):=by cases o;simp only at ho;subst ho;rfl
 rw[e]at hok⊢
 have hcc:=(bC R c).1
 unfold Bd at hok⊢
 split at hok
 ·next h=>
  rw[h,ae]at hcc
  exact bo R rfl rfl (v:=a.eval x) (by unfold execOp;rw[ho];simp[asBool,hcc]) (bC R x).1 (bC R x).2
 ·next h=>
  rw[h,ae]at hcc
  exact bo R rfl rfl (v:=a.eval y) (by unfold execOp;rw[ho];simp[asBool,hcc]) (bC R y).1 (bC R y).2
 ·exact(ay hok).elim
theorem DI{op:UnOp}{t:TypeId}{x:Operand}(ho:o.op= .unOp op t x)(R:Rel w0 st g born (a::asx) w)
  (hok:aN (aP P o (o.op.operands.toList.map (an st)) st.get base).ok):
  cu P o a.eval w (dU w0 st born (a::asx) (aP P o (o.op.operands.toList.map (an st)) st.get base)):=by
 have e:aP P o (o.op.operands.toList.map (an st)) st.get base=Fe op [an st x]:=by cases o;simp only at ho;subst ho;rfl
 rw[e]at hok⊢
 have hx:=(bC R x).1
 unfold Fe at hok⊢
 split at hok
 ·next h=>
  injection h with h _
  rw[h,ae]at hx
  exact bo R rfl rfl (v:= .bool (!_)) (by unfold execOp;rw[ho];simp only[Op.unary,hx];rfl) (by rw[ae];rfl) (fun r h=>by simp[AV.roots]at h)
 ·next h=>
  injection h with h _
  rw[h,ae]at hx
  exact bo R rfl rfl (v:= .bool (!_)) (by unfold execOp;rw[ho];simp only[Op.unary,hx];rfl) (by rw[ae]) (fun r h=>by simp[AV.roots]at h)
 ·next h=>
  injection h with h _
  rw[h,ae]at hx
  exact bo R rfl rfl (v:= .int _ _) (by unfold execOp;rw[ho];simp only[Op.unary,hx];rfl) (by rw[ae];rfl) (fun r h=>by simp[AV.roots]at h)
 ·exact(ay hok).elim
theorem wF{x:Operand}(ho:o.op= .nilCheck x)(R:Rel w0 st g born (a::asx) w)
  (hok:aN (aP P o (o.op.operands.toList.map (an st)) st.get base).ok):
  cu P o a.eval w (dU w0 st born (a::asx) (aP P o (o.op.operands.toList.map (an st)) st.get base)):=by
 have e:aP P o (o.op.operands.toList.map (an st)) st.get base=A4 [an st x]:=by cases o;simp only at ho;subst ho;rfl
 rw[e]at hok⊢
 have hx:=bC R x
 unfold A4 at hok⊢
 split at hok
 ·next h=>
  injection h with h _
  rw[h]at hx
  have hx1:=hx.1
  rw[ae]at hx1
  obtain⟨⟨ad,hv⟩,_⟩:=hx1
  exact bo R rfl rfl (v:=a.eval x) (by unfold execOp;rw[ho];simp only[hv];rfl) hx.1 hx.2
 ·next h=>
  injection h with h _
  rw[h]at hx
  have hx1:=hx.1
  rw[ae]at hx1
  obtain⟨⟨ad,hv⟩,_⟩:=hx1
  exact bo R rfl rfl (v:=a.eval x) (by unfold execOp;rw[ho];simp only[hv];rfl) hx.1 hx.2
 ·exact(ay hok).elim
theorem yo{x:Operand}{i:Nat}(ho:o.op= .extract x i)(R:Rel w0 st g born (a::asx) w)
  (hok:aN (aP P o (o.op.operands.toList.map (an st)) st.get base).ok):
  cu P o a.eval w (dU w0 st born (a::asx) (aP P o (o.op.operands.toList.map (an st)) st.get base)):=by
 have e:aP P o (o.op.operands.toList.map (an st)) st.get base=qk i [an st x]:=by cases o;simp only at ho;subst ho;rfl
 rw[e]at hok⊢
 have hx:=bC R x
 unfold qk at hok⊢
 split at hok
 ·next vs h=>
  injection h with h _
  rw[h]at hx
  have hx1:=hx.1
  rw[ae]at hx1
  obtain⟨us,hv,hl⟩:=hx1
  have hi:i<vs.length:=by have:=(af.1 hok).1;rw[←Nat.blt_eq];exact this
  obtain⟨y,hy,hyr⟩:=bK hl (dP (d:=AV.undef) hi)
  have hy':us[i]?=some y:=by simpa using hy
  exact bo R rfl rfl (v:=y) (by unfold execOp;rw[ho];simp[hv,Instr.extract,hy']) hyr
   (fun r hr=>hx.2 r (by simp only[AV.roots];exact gQ hr))
 ·exact(ay hok).elim
end
end Go.Am
end
section
/- Soundness: parts of aggregates. -/
namespace Go.Am
attribute [local instance] D.real
section
variable {P : Program} {w0 : bu} {w : World} {st : St} {g : aB} {born : Nat → Prop} {a : Act} {asx : List Act} {o : Oper} {base : Nat}
theorem uq{t:TypeId}(h:fL P t=true): ∃d i,P.underlying t=some d∧P.info? t=some i:=by
 unfold fL at h
 rw[Bool.and_eq_true]at h
 obtain⟨d,hd⟩:=Option.isSome_iff_exists.1 h.1
 obtain⟨i,hi⟩:=Option.isSome_iff_exists.1 h.2
 exact⟨d,i,hd,hi⟩
theorem mr{t:TypeId}(h:fL P t=true)(w:World):(isAgg t).run P w= .ok (kB P t) w:=by
 obtain⟨d,i,hd,hi⟩:=uq h
 unfold isAgg kB
 rw[Sem.run_bind,ar hd]
 rw[hd]
 cases d<;>rfl
theorem lp{t:TypeId}(h:fL P t=true)(w:World):(sizeOf t).run P w= .ok (P.cellsOf t) w:=by
 obtain⟨d,i,hd,hi⟩:=uq h
 simp[sizeOf,typeInfo,hi,Program.cellsOf]
theorem gK{l:List AV}{r:Nat}: ∀(n:Nat),r∈AV.ah (l.drop n)→r∈AV.ah l:=by
 intro n
 induction n generalizing l with
 |zero=>exact id
 |succ n ih=>
  intro h
  cases l with
  |nil=>exact h
  |cons v l=>simp only[AV.ah,List.mem_append];exact .inr (ih h)
theorem jh{l:List AV}{r:Nat}: ∀(n:Nat),r∈AV.ah (l.take n)→r∈AV.ah l:=by
 intro n
 induction n generalizing l with
 |zero=>intro h;simp[AV.ah]at h
 |succ n ih=>
  intro h
  cases l with
  |nil=>exact h
  |cons v l=>
   simp only[List.take_succ_cons,AV.ah,List.mem_append]at h⊢
   exact h.imp id ih
theorem Ff{get:Get}{t:TypeId}{cs:List AV}{vs:Array Value}{f:Nat}(hA:ai get g cs vs.toList)(h1: ∀x∈vs.toList,x.oneCell'=true)(hok:aN (fh P t cs f).ok):
  ∃v,(part t vs f).run P w= .ok v w∧ae get g (fh P t cs f).v v∧(∀r∈(fh P t cs f).v.roots,r∈AV.ah cs)∧(fh P t cs f).upd= []∧(fh P t cs f).cut=none∧fL P t=true:=by
 unfold fh at hok⊢
 have hlen:=cW hA
 cases hagg:kB P t with
 |true=>
  rw[hagg]at hok
  simp only[cond_true,true_and]at hok⊢
  obtain⟨k1,k2⟩:=af.1 hok
  have k1:fL P t=true:=k1
  refine⟨.agg (vs.extract f (f+P.cellsOf t)),?_,?_,fun r hr=> ?_,k1⟩
  ·simp[part,mr k1,hagg,lp k1]
  ·rw[ae]
   have e:(vs.extract f (f+P.cellsOf t)).toList=(vs.toList.drop f).take (P.cellsOf t):=by
    rw[Array.toList_extract,List.extract_eq_take_drop];congr 1;omega
   refine⟨_,rfl,fun x hx=> ?_,?_⟩
   ·rw[e]at hx;exact h1 x (List.drop_subset _ _ (List.take_subset _ _ hx))
   ·rw[e];exact fZ _ (gd _ hA)
  ·simp only[AV.roots]at hr
   exact gK _ (jh _ hr)
 |false=>
  rw[hagg]at hok
  simp only[cond_false,true_and]at hok⊢
  obtain⟨k1,k2⟩:=af.1 hok
  have k1:fL P t=true:=k1
  have hf:f<cs.length:=by have:=(af.1 k2).1;rw[←Nat.blt_eq];exact this
  obtain⟨v,hv,hr⟩:=bK hA (dP (d:=AV.undef) hf)
  have hv':vs[f]?=some v:=by simpa using hv
  refine⟨v,?_,hr,fun r hr=>gQ hr,k1⟩
  simp[part,mr k1,hagg,hv']
theorem kJ{s ft:TypeId}{i f:Nat}(h:qK P s i=some (f,ft)): ∃fs fld,P.underlying s=some (.struct fs)∧fs[i]?=some fld∧fld.offset=f∧fld.type=ft:=by
 unfold qK at h
 split at h
 ·next fs hfs=>
  split at h
  ·next fld hfld=>injection h with h;injection h with h1 h2;exact⟨fs,fld,hfs,hfld,h1,h2⟩
  ·cases h
 ·cases h
theorem BW{s:TypeId}{x:Operand}{i:Nat}(ho:o.op= .field s x i)(R:Rel w0 st g born (a::asx) w)
  (hok:aN (aP P o (o.op.operands.toList.map (an st)) st.get base).ok):
  cu P o a.eval w (dU w0 st born (a::asx) (aP P o (o.op.operands.toList.map (an st)) st.get base)):=by
 have e:aP P o (o.op.operands.toList.map (an st)) st.get base=uK P s i [an st x]:=by cases o;simp only at ho;subst ho;rfl
 rw[e]at hok⊢
 have hx:=bC R x
 unfold uK at hok⊢
 split at hok
 ·next f ft cs hf h=>
  injection h with h _
  rw[h]at hx
  have hx1:=hx.1
  rw[ae]at hx1
  obtain⟨vs,hv,h1,hA⟩:=hx1
  obtain⟨fs,fld,hu,hfld,rfl,rfl⟩:=kJ hf
  obtain⟨v,hrun,hr,hroots,e1,e2,_⟩:=Ff (P:=P) (w:=w) hA h1 hok
  refine bo R e1 e2 (v:=v) ?_ hr (fun r hr=>hx.2 r (by simp only[AV.roots];exact hroots r hr))
  unfold execOp
  rw[ho]
  simp[Instr.field,ar hu,hfld,hv,asAgg,hrun]
 ·exact(ay hok).elim
end
end Go.Am
end
section
/- Soundness: len, fieldAddr. -/
namespace Go.Am
attribute [local instance] D.real
section
variable {P : Program} {w0 : bu} {w : World} {st : St} {g : aB} {born : Nat → Prop} {a : Act} {asx : List Act} {o : Oper} {base : Nat}
theorem mZ{w:World}{rw:Bool}{t:Ty}{xs:List (den t)}{H:Path→Value}(h:aS w rw t xs H): ∃a c,H []= .slice a xs.length c:=by
 rcases h with⟨h0,rfl⟩|⟨a,c,h0,_⟩
 ·exact⟨none,0,h0⟩
 ·exact⟨some a,c,h0⟩
theorem Ga{α:Type}{sz:Nat}{sub:Option (Nat×Nat)}{v0 v:Value}{xs:List α}{a0:Option Addr}{c0:Nat}(h0:v0= .slice a0 xs.length c0)(h:mI sz sub v0 v): ∃a c,v= .slice a (bR sub xs) c:=by
 cases sub with
 |none=>exact⟨a0,c0,(show v=v0 from h).trans h0⟩
 |some s=>
  obtain⟨o,l⟩:=s
  rcases h with⟨_,hv,_,rfl⟩|⟨a,n,c,j,_,hv,_⟩
  ·exact⟨_,_,hv⟩
  ·exact⟨_,_,hv⟩
theorem E4(R:Rel w0 st g born (a::asx) w){r:Nat}{p:Path}{sub:Option (Nat×Nat)}{v:Value}{rw:Bool}{t e:Ty}{xs:List (den t)}{ys:List (den e)}{ok:List Tst}
  (hg:st.get r= .row rw t xs) (hrow:rowAt t xs p=(ok,⟨e,ys⟩)) (hok:aN ok) (hv:ae st.get g (.sl r p sub) v):
  aS w false e ys (fun q=>(g r).H (p++q))∧mI e.size sub ((g r).H p) v:=by
 have h:=R.roots r
 unfold aF at h
 rw[hg]at h
 have hR:aS w false t xs (g r).H:=by
  cases rw with
  |true=>exact rR h.1
  |false=>exact lC (cJ R.below) h
 obtain⟨h1,h2,_,_⟩:=gH p t xs (g r).H ok e ys hrow hok hR
 rw[ae]at hv
 exact⟨h1,hv.2 t e (by rw[hg];rfl) h2⟩
end
end Go.Am
end
