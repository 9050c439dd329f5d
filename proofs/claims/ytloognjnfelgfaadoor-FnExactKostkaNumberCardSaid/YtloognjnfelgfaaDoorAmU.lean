/- Heads, loops and regions of the machine are sound and determined, whatever the program. -/
import Derived.Test.YtloognjnfelgfaaDoorAmT
import Derived.Laws.Tables
import Derived.Laws.CopyRow
import Derived.Laws.IdiomCopy
set_option linter.unusedSimpArgs false
set_option linter.unusedVariables false
set_option linter.unnecessarySimpa false
set_option linter.unusedSectionVars false
section
/- Soundness: append's run. -/
namespace Go.Am
noncomputable section
attribute [local instance] D.real
section
variable {P : Program} {w0 : bu} {w w' : World} {st st' : St} {g g' : aB} {born : Nat → Prop} {a : Act} {asx acts : List Act} {o : Oper} {base : Nat}
def kV(P:Program)(u:TypeId):Prop:=P.underlying u=some .string∨ ∃e,P.underlying u=some (.slice e)
theorem Cf{t u ty e:TypeId}{i:TypeInfo}{z x:Value}{b:Option Addr}{n c m:Nat}{news olds:List Value}(hu:P.underlying t=some (.slice e))(hu2:kV P u)(hi:P.info? e=some i)(hz:i.zero=some z)
  (hlen:(Builtin.lenOf x).run P w= .ok m w) (hnew: ∀w2:World,(∀ad,w2.cell? ad=w.cell? ad)→(Builtin.firstCells i.size m x).run P w2= .ok news.toArray w2)
  (hold: ∀w2:World,(∀ad,w2.cell? ad=w.cell? ad)→(Builtin.firstCells i.size n (.slice b n c)).run P w2= .ok olds.toArray w2)
  (h1:n+m≤lim) (h2:i.bytes≤128):
  (n+m≤c∧(Builtin.append_ #[t,u] ty #[.slice b n c,x]).run P w=(match b with
   |some ad=>((storeCells (ad.add (n*i.size)) news).run P w).andThen fun _ w'=> .ok (.slice b (n+m) c) w'
   |none=> .ok (.slice none (n+m) c) w))∨
  (c<n+m∧ ∃cap,n+m≤cap∧(Builtin.append_ #[t,u] ty #[.slice b n c,x]).run P w=
   .ok (.slice (some ⟨w.heap.size,0,none⟩) (n+m) cap) (w.drew.alloc (.cells (olds.toArray++news.toArray++Builtin.zeroCells z.cells (cap-(n+m))) e))):=by
 simp only[lim]at h1
 have hn:=hnew w (fun _=>rfl)
 have hnd:=hnew w.drew (fun _=>rfl)
 have hod:=hold w.drew (fun _=>rfl)
 by_cases hle:n+m≤c
 ·left
  refine⟨hle,?_⟩
  rcases hu2 with hd|⟨e2,hd⟩
  all_goals
   cases b with
   |some ad=>simp[Builtin.append_,ar hu,ar hd,sizeOf,typeInfo,hi,hlen,hle,hn]
   |none=>simp[Builtin.append_,ar hu,ar hd,sizeOf,typeInfo,hi,hlen,hle,hn]
 ·right
  have hcap:(n+m)≤grownCap w (n+m) c e:=grownCap_ge w _ _ _
  refine⟨by omega,grownCap w (n+m) c e,hcap,?_⟩
  have h63: ¬(9223372036854775807<((n:Int)+(m:Int))):=by omega
  have h48: ¬(281474976710656<Builtin.nextslicecap (n+m) c*i.bytes):=by
   have:Builtin.nextslicecap (n+m) c*i.bytes≤281474976710656:=growslice_fits (by omega) (by
    have:=Nat.mul_le_mul h1 h2;omega)
   omega
  rcases hu2 with hd|⟨e2,hd⟩
  all_goals
   simp[Builtin.append_,ar hu,ar hd,sizeOf,typeInfo,zeroValue,hi,hz,hlen,hle,h63,h48,Question.forced,hnd,hod,newRow,grownCap]
   congr 2
   apply Array.ext'
   simp
theorem wL(z:Array Value)(n m:Nat):Builtin.zeroCells z n++Builtin.zeroCells z m=Builtin.zeroCells z (n+m):=by
 unfold Builtin.zeroCells
 apply Array.ext
 ·simp[Nat.add_mul]
 ·intro i h1 h2
  simp only[Array.getElem_map,Array.getElem_range,Array.getElem_append,Array.size_map,Array.size_range]
  split
  ·rfl
  ·next h=>
   have:(i-n*z.size) % z.size=i % z.size:=by
    have e:n*z.size=z.size*n:=Nat.mul_comm _ _
    conv=>rhs;rw[show i=(i-n*z.size)+z.size*n by omega]
    rw[Nat.add_mul_mod_self_left]
   rw[this]
theorem El{t u ty e:TypeId}{i:TypeInfo}{z:Value}{k k':IntKind}{n:Int}(hu:P.underlying t=some (.slice e))(hd:P.underlying u=some (.int k))(hi:P.info? e=some i)(hz:i.zero=some z)
  (h1:1≤n) (h2:n.toNat≤lim) (h3:i.bytes≤128) (h4:0<i.size):
  ∃cap,n.toNat≤cap∧(Builtin.append_ #[t,u] ty #[.slice none 0 0,.int k' n]).run P w= .ok (.slice (some ⟨w.heap.size,0,none⟩) n.toNat cap) (w.drew.alloc (.cells (Builtin.zeroCells z.cells cap) e)):=by
 simp only[lim]at h2
 have hcap:n.toNat≤grownCap w n.toNat 0 e:=grownCap_ge w _ _ _
 refine⟨grownCap w n.toNat 0 e,hcap,?_⟩
 have hw:IntKind.i64.wrap n=n:=by rw[IntKind.wrap_i64];omega
 have hb:n*(i.bytes:Int)≤140737488355328:=by
  have:n.toNat*i.bytes≤1099511627776*128:=Nat.mul_le_mul h2 h3
  have h5:((n.toNat*i.bytes:Nat):Int)≤140737488355328:=by omega
  rw[Int.natCast_mul,Int.toNat_of_nonneg (by omega)]at h5
  exact h5
 have h48: ¬(281474976710656<n*(i.bytes:Int)):=by omega
 have h48': ¬(281474976710656<Builtin.nextslicecap n.toNat 0*i.bytes):=by
  have:Builtin.nextslicecap n.toNat 0*i.bytes≤281474976710656:=growslice_fits (by omega) (by
   have:=Nat.mul_le_mul h2 h3;omega)
  omega
 have hn0: ¬n<0:=by omega
 have hns: ¬(n.toNat*i.size=0):=by
  have:=Nat.mul_pos (show 0<n.toNat by omega) h4
  omega
 have hnz: ¬(n≤0):=by omega
 have h63: ¬(9223372036854775807<max n 0):=by omega
 have hf: ∀w2:World,(Builtin.firstCells i.size 0 (.slice none 0 0)).run P w2= .ok #[] w2:=fun w2=>run_firstCells_none w2 _ _ _ _
 unfold grownCap at hcap⊢
 simp[Builtin.append_,ar hu,ar hd,sizeOf,typeInfo,zeroValue,hi,hz,hw,hn0,h48,h48',hns,hnz,h63,asInt,asIntOf,hf,Question.forced,newRow,wL,Nat.add_sub_cancel' hcap]
end
end
end Go.Am
end
section
/- Soundness: rows appended to. -/
namespace Go.Am
noncomputable section
attribute [local instance] D.real
section
variable {P : Program} {w0 : bu} {w w' : World} {st st' : St} {g g' : aB} {born : Nat → Prop} {a : Act} {asx acts : List Act} {o : Oper} {base : Nat}
def tO(v:Value)(G:Nat→Nat→Path→Value):Path→Value
 | []=>v
 |(i,f)::q=>G i f q
theorem eB{α:Type}{xs zs:List α}{i:Nat}{y:α}(h:(xs++zs)[i]?=some y):(i<xs.length∧xs[i]?=some y)∨(xs.length≤i∧zs[i-xs.length]?=some y):=by
 rcases Nat.lt_or_ge i xs.length with h1|h1
 ·rw[List.getElem?_append_left h1]at h;exact .inl ⟨h1,h⟩
 ·rw[List.getElem?_append_right h1]at h;exact .inr ⟨h1,h⟩
def lS(n:Nat)(G1 G2:Nat→Nat→Path→Value):Nat→Nat→Path→Value:=fun i=>if i<n then G1 i else G2 (i-n)
theorem kY{n i:Nat}{G1 G2:Nat→Nat→Path→Value}(h:i<n):lS n G1 G2 i=G1 i:=by simp[lS,h]
theorem lh{n i:Nat}{G1 G2:Nat→Nat→Path→Value}(h:n≤i):lS n G1 G2 i=G2 (i-n):=by simp[lS,Nat.not_lt.2 h]
theorem j8.join{rw:Bool}{e:Ty}{xs zs:List (den e)}{G1 G2:Nat→Nat→Path→Value}{c1 c2:List Value}(h1:j8 w rw e xs G1 c1)(h2:j8 w rw e zs G2 c2):
  j8 w rw e (xs++zs) (lS xs.length G1 G2) (c1++c2):=by
 refine⟨by rw[List.length_append,h1.len,h2.len,List.length_append,Nat.add_mul],fun v hv=>(List.mem_append.1 hv).elim (h1.one v) (h2.one v),fun i x hi=> ?_⟩
 rcases eB hi with⟨hlt,hi⟩|⟨hge,hi⟩
 ·rw[kY hlt]
  refine dR e x _ 0 _ _ (fun b _=>rfl) (fun f _ hf=> ?_) (h1.rep i x hi)
  have:(i+1)*e.size≤xs.length*e.size:=Nat.mul_le_mul_right _ hlt
  rw[Nat.add_mul]at this
  show(c1++c2)[i*e.size+f]?=c1[i*e.size+f]?
  rw[List.getElem?_append_left (by rw[h1.len];omega)]
 ·rw[lh hge]
  refine dR e x _ 0 _ _ (fun b _=>rfl) (fun f _ hf=> ?_) (h2.rep (i-xs.length) x hi)
  have:xs.length*e.size≤i*e.size:=Nat.mul_le_mul_right _ hge
  show(c1++c2)[i*e.size+f]?=c2[(i-xs.length)*e.size+f]?
  rw[List.getElem?_append_right (by rw[h1.len];omega),h1.len,Nat.sub_mul]
  congr 1;omega
theorem qY{e:Ty}{ys:List (den e)}{G:Nat→Nat→Path→Value}{cells:List Value}(h:j8 w true e ys G cells){ad:Addr}{cap n:Nat}(hn:n=ys.length)(hle:ys.length≤cap)
  (hblk:cap≠0→ad.spot=none∧ ∃arr te,w'.heap[ad.block]?=some (.cells arr te (0,0))∧ad.off+cap*e.size≤arr.size)
  (hc: ∀k u,cells[k]?=some u→w'.cell? (ad.add k)=some u) (hch: ∀i x b,ys[i]?=some x→Blk e x (G i) 0 b→w'.heap[b]?=w.heap[b]?):
  aS w' true e ys (tO (.slice (some ad) n cap) G):=by
 subst hn
 refine .inr ⟨ad,cap,rfl,hle,fun _ hc=>hblk hc,fun i x hi=> ?_⟩
 refine dR e x _ 0 _ _ (fun b hb=>hch i x b hi hb) (fun f _ hf=> ?_) (h.rep i x hi)
 have hil:i<ys.length:=by
  rcases Nat.lt_or_ge i ys.length with h|h
  ·exact h
  ·rw[List.getElem?_eq_none h]at hi;cases hi
 have:(i+1)*e.size≤ys.length*e.size:=Nat.mul_le_mul_right _ hil
 rw[Nat.add_mul]at this
 have hk:i*e.size+f<cells.length:=by rw[h.len];omega
 have:=hc (i*e.size+f) cells[i*e.size+f] (List.getElem?_eq_getElem hk)
 rw[this,List.getElem?_eq_getElem hk]
structure Old (w : World) (e : Ty) (xs : List (den e)) (v : Value) (G : Nat → Nat → Path → Value) (olds : List Value) (B : Nat → Prop) : Prop where
  val : ∃ b c, v = .slice b xs.length c ∧ xs.length ≤ c ∧ (b = none → xs = [] ∧ c = 0)
  el : j8 w true e xs G olds
  cell : ∀ ad n c, v = .slice (some ad) n c → ∀ k u, olds[k]? = some u → w.cell? (ad.add k) = some u
  room : ∀ ad n c, v = .slice (some ad) n c → c ≠ 0 → ad.spot = none ∧ ∃ arr te, w.heap[ad.block]? = some (.cells arr te (0, 0)) ∧ ad.off + c * e.size ≤ arr.size
  blk : ∀ i x b, xs[i]? = some x → Blk e x (G i) 0 b → B b
  own : ∀ ad n c i x, v = .slice (some ad) n c → c ≠ 0 → xs[i]? = some x → ¬ Blk e x (G i) 0 ad.block
  cross : ∀ i j x y b, i ≠ j → xs[i]? = some x → xs[j]? = some y → Blk e x (G i) 0 b → Blk e y (G j) 0 b → False
  sep : ∀ i x, xs[i]? = some x → Sep e x (G i) 0
  lt : ∀ b, B b → b < w.heap.size
theorem qv{e:Ty}{xs zs:List (den e)}{v x:Value}{G1 G2:Nat→Nat→Path→Value}{olds news:List Value}{B B2:Nat→Prop}{t u ty te:TypeId}{i:TypeInfo}{z:Value}
  (O:Old w e xs v G1 olds B) (S:Src P w e x zs B2 G2 news) (hu:P.underlying t=some (.slice te)) (hu2:kV P u) (hi:P.info? te=some i) (hz:i.zero=some z) (hsz:i.size=e.size) (hby:i.bytes≤128) (hzs:z.cells.size=e.size)
  (hl: ∀b,B2 b→b<w.heap.size∧ ¬B b∧ ¬jT v b) (hlen:xs.length+zs.length≤lim):
  ∃v' w' G',(Builtin.append_ #[t,u] ty #[v,x]).run P w= .ok v' w'∧(∃b c,v'= .slice b (xs++zs).length c)∧aS w' true e (xs++zs) (tO v' G')∧bD e (xs++zs) (tO v' G')∧
   (∀b,aD e (xs++zs) (tO v' G') b→w.heap.size≤b∨jT v b∨B b∨B2 b)∧
   (w'.os=w.os∧w'.tape=w.tape∧w'.output=w.output∧w.heap.size≤w'.heap.size∧ ∀b,b<w.heap.size→w'.heap[b]?=w.heap[b]?∨jT v b)∧
   (∀ad n c,v= .slice (some ad) n c→c≠0→ ∃arr arr' te,w.heap[ad.block]?=some (.cells arr te (0,0))∧w'.heap[ad.block]?=some (.cells arr' te (0,0))∧arr'.size=arr.size∧ ∀k,k<xs.length*e.size→w'.cell? (ad.add k)=w.cell? (ad.add k)):=by
 obtain⟨b,c,hv,hxc,hbn⟩:=O.val
 have hold: ∀w2:World,(∀ad,w2.cell? ad=w.cell? ad)→(Builtin.firstCells i.size xs.length v).run P w2= .ok olds.toArray w2:=by
  intro w2 h2
  rw[hsz]
  refine oW O.el.len ?_ (fun ad n c e k u hk=>by rw[h2];exact O.cell ad n c e k u hk)
  cases b with
  |none=>obtain⟨h3,h4⟩:=hbn rfl;subst h3;subst h4;exact .inl ⟨hv,rfl⟩
  |some ad=>exact .inr ⟨ad,c,by rw[hv]⟩
 rw[hv]at hold
 have hrun:=Cf (P:=P) (w:=w) (t:=t) (u:=u) (ty:=ty) (b:=b) (n:=xs.length) (c:=c) (m:=zs.length) hu hu2 hi hz S.len (by rw[hsz];exact S.cells) hold hlen hby
 rw[←hv]at hrun
 have hjoin:=O.el.join S.el
 have hch: ∀i y bl,(xs++zs)[i]?=some y→Blk e y (lS xs.length G1 G2 i) 0 bl→(B bl∨B2 bl)∧bl<w.heap.size∧ ¬jT v bl:=by
  intro i y bl hi hb
  rcases eB hi with⟨hlt,hi⟩|⟨hge,hi⟩
  ·rw[kY hlt]at hb
   have h1:=O.blk i y bl hi hb
   refine⟨.inl h1,O.lt bl h1,?_⟩
   rintro⟨ad,n,c',h2,h3,rfl⟩
   exact O.own ad n c' i y h2 h3 hi hb
  ·rw[lh hge]at hb
   have ho:=S.blk _ y bl hi hb
   exact⟨.inr ho,(hl bl ho).1,(hl bl ho).2.2⟩
 have hcross: ∀i j x y bl,i≠j→(xs++zs)[i]?=some x→(xs++zs)[j]?=some y→Blk e x (lS xs.length G1 G2 i) 0 bl→Blk e y (lS xs.length G1 G2 j) 0 bl→False:=by
  intro i j x y bl hij hi hj hb hb'
  rcases eB hi with⟨hlt,hi⟩|⟨hge,hi⟩
  ·rcases eB hj with⟨hlt',hj⟩|⟨hge',hj⟩
   ·rw[kY hlt]at hb;rw[kY hlt']at hb'
    exact O.cross i j x y bl hij hi hj hb hb'
   ·rw[kY hlt]at hb;rw[lh hge']at hb'
    have ho:=S.blk _ y bl hj hb'
    exact(hl bl ho).2.1 (O.blk i x bl hi hb)
  ·rcases eB hj with⟨hlt',hj⟩|⟨hge',hj⟩
   ·rw[lh hge]at hb;rw[kY hlt']at hb'
    have ho:=S.blk _ x bl hi hb
    exact(hl bl ho).2.1 (O.blk j y bl hj hb')
   ·rw[lh hge]at hb;rw[lh hge']at hb'
    exact S.cross _ _ x y bl (by omega) hi hj hb hb'
 have hsepE: ∀i x,(xs++zs)[i]?=some x→Sep e x (lS xs.length G1 G2 i) 0:=by
  intro i x hi
  rcases eB hi with⟨hlt,hi⟩|⟨hge,hi⟩
  ·rw[kY hlt];exact O.sep i x hi
  ·rw[lh hge];exact S.sep _ x hi
 have hsep: ∀v',(∀ad n c i x,v'= .slice (some ad) n c→c≠0→(xs++zs)[i]?=some x→ ¬Blk e x (lS xs.length G1 G2 i) 0 ad.block)→bD e (xs++zs) (tO v' (lS xs.length G1 G2)):=
  fun v' h=>⟨fun ad n c i x h1 h2 h3=>h ad n c i x h1 h2 h3,fun i j x y b hij hi hj hb hb'=>hcross i j x y b hij hi hj hb hb',fun i x hi=>hsepE i x hi⟩
 have hllen:(xs++zs).length=xs.length+zs.length:=List.length_append
 rcases hrun with⟨hle,hrun⟩|⟨hgt,cap,hcap,hrun⟩
 ·
  cases b with
  |none=>
   obtain⟨h3,h4⟩:=hbn rfl
   subst h3;subst h4
   have h5:zs= []:=by
    have:zs.length=0:=by simpa using hle
    exact List.length_eq_zero_iff.1 this
   subst h5
   refine⟨_,w,fun _ _ _=>Go.undef,hrun,⟨_,_,rfl⟩,.inl ⟨rfl,rfl⟩,⟨fun aa n c i x h _ hx=>by simp at hx,fun i j x y b _ h _=>by simp at h,fun i x h=>by simp at h⟩,?_,⟨rfl,rfl,rfl,Nat.le_refl _,fun _ _=> .inl rfl⟩,fun ad n c h=>by rw[hv]at h;cases h⟩
   rintro b (⟨aa,n,c,h,_,_⟩|⟨i,x,h,_⟩)
   ·cases h
   ·simp at h
  |some ad=>
   simp only at hrun
   by_cases hc0:c=0
   ·
    subst hc0
    have h3:xs= []:=List.length_eq_zero_iff.1 (by omega)
    have h5:zs= []:=List.length_eq_zero_iff.1 (by omega)
    subst h3;subst h5
    have hn:news= []:=List.length_eq_zero_iff.1 (by have:=S.el.len;simpa using this)
    subst hn
    have hrun':(Builtin.append_ #[t,u] ty #[v,x]).run P w= .ok (.slice (some ad) 0 0) w:=by
     rw[hrun];simp[storeCells]
    refine⟨_,w,fun _ _ _=>Go.undef,hrun',⟨_,_,rfl⟩,.inr ⟨ad,0,rfl,Nat.le_refl _,fun _ h=>absurd rfl h,fun i x h=>by simp at h⟩,⟨fun aa n c i x h _ hx=>by simp at hx,fun i j x y b _ h _=>by simp at h,fun i x h=>by simp at h⟩,?_,⟨rfl,rfl,rfl,Nat.le_refl _,fun _ _=> .inl rfl⟩,fun ad' n c h hc=> ?_⟩
    ·rintro b (⟨aa,n,c,h,hc,_⟩|⟨i,x,h,_⟩)
     ·injection h with _ _ h;omega
     ·simp at h
    ·rw[hv]at h;injection h with _ _ h;omega
   ·obtain⟨hsp,arr,te',hheap,harr⟩:=O.room ad _ c hv hc0
    have had:ad=⟨ad.block,ad.off,none⟩:=by cases ad;simp only at hsp;subst hsp;rfl
    have hadd: ∀k,ad.add k=⟨ad.block,ad.off+k,none⟩:=by
     intro k
     rw[had,Addr.add_lit]
    have hnl:news.length=zs.length*e.size:=S.el.len
    have hfit:ad.off+xs.length*e.size+0+news.length≤arr.size:=by
     have:(xs.length+zs.length)*e.size≤c*e.size:=Nat.mul_le_mul_right _ hle
     rw[Nat.add_mul]at this
     omega
    have hst:=run_storeCells_at P ad.block (ad.off+xs.length*e.size) te' news 0 arr w hheap hfit S.el.one
    rw[←hadd (xs.length*e.size),←hsz]at hst
    rw[hst]at hrun
    simp only[Result.andThen_ok,Nat.add_zero]at hrun
    rw[hsz]at hrun
    have hdl:(arr.toList.drop (ad.off+xs.length*e.size+news.length)).length=arr.size-(ad.off+xs.length*e.size+news.length):=by simp
    have hnew:(w.setRow ad.block (arr.toList.take (ad.off+xs.length*e.size)++news++arr.toList.drop (ad.off+xs.length*e.size+news.length)).toArray).heap[ad.block]?=some (.cells (arr.toList.take (ad.off+xs.length*e.size)++news++arr.toList.drop (ad.off+xs.length*e.size+news.length)).toArray te' (0,0)):=
     setRow_heap w ad.block arr _ te' (0,0) hheap
    have hsize:(arr.toList.take (ad.off+xs.length*e.size)++news++arr.toList.drop (ad.off+xs.length*e.size+news.length)).toArray.size=arr.size:=by
     simp only[List.size_toArray,List.length_append,List.length_take,List.length_drop,Array.length_toList];omega
    have htl:(arr.toList.take (ad.off+xs.length*e.size)).length=ad.off+xs.length*e.size:=by simp only[List.length_take,Array.length_toList];omega
    have hcells: ∀k,(w.setRow ad.block (arr.toList.take (ad.off+xs.length*e.size)++news++arr.toList.drop (ad.off+xs.length*e.size+news.length)).toArray).cell? (ad.add k)=
      (arr.toList.take (ad.off+xs.length*e.size)++news++arr.toList.drop (ad.off+xs.length*e.size+news.length))[ad.off+k]?:=by
     intro k
     rw[hadd,cell_of_row _ _ _ _ _ _ hnew];simp
    have hcold: ∀k,w.cell? (ad.add k)=arr.toList[ad.off+k]?:=by
     intro k
     rw[hadd,cell_of_row _ _ _ _ _ _ hheap];simp
    have hlow: ∀k,k<xs.length*e.size→(w.setRow ad.block (arr.toList.take (ad.off+xs.length*e.size)++news++arr.toList.drop (ad.off+xs.length*e.size+news.length)).toArray).cell? (ad.add k)=w.cell? (ad.add k):=by
     intro k hk
     rw[hcells,hcold,List.append_assoc,List.getElem?_append_left (by omega),List.getElem?_take,if_pos (by omega)]
    refine⟨_,_,lS xs.length G1 G2,hrun,⟨_,_,by rw[hllen]⟩,?_,hsep _ ?_,?_,⟨rfl,rfl,rfl,by simp,fun b _=> ?_⟩,fun ad' n' c' h hc=> ?_⟩
    ·refine qY hjoin hllen.symm (by rw[hllen];exact hle) (fun _=>⟨hsp,_,_,hnew,by rw[hsize];exact harr⟩) (fun k u hk=> ?_) (fun i y bl hi hb=> ?_)
     ·rcases Nat.lt_or_ge k (xs.length*e.size)with h|h
      ·rw[hlow k h]
       rw[List.getElem?_append_left (by rw[O.el.len];exact h)]at hk
       exact O.cell ad _ c hv k u hk
      ·rw[hcells,List.append_assoc,List.getElem?_append_right (by omega),htl]
       rw[List.getElem?_append_right (by rw[O.el.len];exact h),O.el.len]at hk
       have hk2:k-xs.length*e.size<news.length:=by
        rcases Nat.lt_or_ge (k-xs.length*e.size) news.length with h|h
        ·exact h
        ·rw[List.getElem?_eq_none h]at hk;cases hk
       rw[List.getElem?_append_left (by omega)]
       rw[←hk];congr 1;omega
     ·refine setRow_other w ad.block bl _ fun e'=>(hch i y bl hi hb).2.2 ⟨ad,_,c,hv,hc0,e'.symm⟩
    ·intro ad' n' c' i y h _ hi hb
     injection h with h _ _
     injection h with h
     subst h
     exact(hch i y _ hi hb).2.2 ⟨ad,_,c,hv,hc0,rfl⟩
    ·rintro bl (⟨aa,n,c',h,hc,rfl⟩|⟨i,y,hi,hb⟩)
     ·injection h with h _ h'
      injection h with h
      subst h
      exact .inr (.inl ⟨ad,_,c,hv,hc0,rfl⟩)
     ·exact .inr (.inr (hch i y bl hi hb).1)
    ·by_cases e':b=ad.block
     ·exact .inr ⟨ad,_,c,hv,hc0,e'.symm⟩
     ·exact .inl (setRow_other w ad.block b _ e')
    ·rw[hv]at h
     injection h with h _ h'
     injection h with h
     subst h
     exact⟨arr,_,te',hheap,hnew,hsize,hlow⟩
 ·
  have hnl:news.length=zs.length*e.size:=S.el.len
  have hol:olds.length=xs.length*e.size:=O.el.len
  have hzc:(Builtin.zeroCells z.cells (cap-(xs.length+zs.length))).size=(cap-(xs.length+zs.length))*e.size:=by rw[size_zeroCells,hzs]
  have hsize:(olds.toArray++news.toArray++Builtin.zeroCells z.cells (cap-(xs.length+zs.length))).size=cap*e.size:=by
   simp only[Array.size_append,List.size_toArray,hzc,hnl,hol]
   rw[←Nat.add_mul,←Nat.add_mul]
   congr 1;omega
  have hheap:(w.drew.alloc (.cells (olds.toArray++news.toArray++Builtin.zeroCells z.cells (cap-(xs.length+zs.length))) te)).heap[w.heap.size]?=some (.cells (olds.toArray++news.toArray++Builtin.zeroCells z.cells (cap-(xs.length+zs.length))) te (0,0)):=heap_alloc_new w.drew _
  have hframe: ∀b,b<w.heap.size→(w.drew.alloc (.cells (olds.toArray++news.toArray++Builtin.zeroCells z.cells (cap-(xs.length+zs.length))) te)).heap[b]?=w.heap[b]?:=fun b hb=>RowKit.Below.heap_alloc w.drew _ b hb
  have hhead: ∀ad n c',v= .slice (some ad) n c'→c'≠0→ad.block<w.heap.size:=by
   intro ad n c' h1 h2
   obtain⟨_,arr,te',h3,_⟩:=O.room ad n c' h1 h2
   exact(Array.getElem?_eq_some_iff.1 h3).1
  refine⟨_,_,lS xs.length G1 G2,hrun,⟨_,_,by rw[hllen]⟩,?_,hsep _ ?_,?_,⟨rfl,rfl,rfl,by simp,fun b hb=> .inl (hframe b hb)⟩,fun ad' n' c' h hc=> ?_⟩
  ·refine qY hjoin hllen.symm (by rw[hllen];exact hcap) (fun _=>⟨rfl,_,_,hheap,by rw[hsize];simp⟩) (fun k u hk=> ?_) (fun i y bl hi hb=>hframe bl (hch i y bl hi hb).2.1)
   rw[Addr.add_lit,Nat.zero_add,cell_of_row _ _ _ _ _ _ hheap]
   have hk2:k<(olds++news).length:=by
    rcases Nat.lt_or_ge k (olds++news).length with h|h
    ·exact h
    ·rw[List.getElem?_eq_none h]at hk;cases hk
   rw[Array.getElem?_append_left (by simpa using hk2)]
   simpa using hk
  ·intro ad' n' c' i y h _ hi hb
   injection h with h _ _
   injection h with h
   subst h
   have:=(hch i y _ hi hb).2.1
   simp at this
  ·rintro bl (⟨aa,n,c',h,hc,rfl⟩|⟨i,y,hi,hb⟩)
   ·injection h with h _ h'
    injection h with h
    subst h
    exact .inl (Nat.le_refl _)
   ·exact .inr (.inr (hch i y bl hi hb).1)
  ·obtain⟨_,arr,te',h3,_⟩:=O.room ad' n' c' h hc
   have hlt:=hhead ad' n' c' h hc
   exact⟨arr,arr,te',h3,(hframe _ hlt).trans h3,rfl,fun k _=>gp (by rw[dS];exact hframe _ hlt)⟩
end
end
end Go.Am
end
section
/- Soundness: append's step. -/
namespace Go.Am
attribute [local instance] D.real
section
variable {P : Program} {w0 : bu} {w w' : World} {st st' : St} {g g' : aB} {born : Nat → Prop} {a : Act} {asx acts : List Act} {o : Oper} {base : Nat}
theorem qa{e:Ty}{xs:List (den e)}{H:Path→Value}(h:aS w true e xs H)(hs:bD e xs H):
  ∃olds,Old w e xs (H []) (fun i f q=>H ((i,f)::q)) olds (aD e xs H):=by
 obtain⟨cells,hel,hcl⟩:=js h
 refine⟨cells,?_,hel,hcl,fun ad n c h0 hc=> ?_,fun i x b hi hb=> .inr ⟨i,x,hi,hb⟩,fun ad n c i x h0 hc hi hb=>hs.1 ad n c i x h0 hc hi hb,fun i j x y b hij hi hj hb hb'=>hs.2.1 i j x y b hij hi hj hb hb',fun i x hi=>hs.2.2 i x hi,fun b hb=>uy h hb⟩
 ·rcases h with⟨h0,rfl⟩|⟨ad,cap,h0,hle,_⟩
  ·exact⟨none,0,h0,Nat.le_refl _,fun _=>⟨rfl,rfl⟩⟩
  ·exact⟨some ad,cap,h0,hle,fun h=>by cases h⟩
 ·rcases h with⟨h1,_⟩|⟨ad',cap,h1,_,h2,_⟩
  ·rw[h1]at h0;cases h0
  ·rw[h1]at h0
   injection h0 with h0 _ h0'
   injection h0 with h0
   subst h0;subst h0'
   exact h2 rfl hc
theorem lg{e:Ty}{xs:List (den e)}{H:Path→Value}{b:Nat}(h:jT (H []) b):aD e xs H b:=by
 obtain⟨ad,n,c,h1,h2,h3⟩:=h
 exact .inl ⟨ad,n,c,h1,h2,h3⟩
theorem BB: ∀(t:Ty) (d:den t) (f:Nat) (g:(c:Ty)→den c→den c),(∀c d,g c d=d)→bz t d f g=d:=by
 intro t
 induction t with
 |pair a b iha ihb=>
  intro d f g hg
  by_cases h:f<a.size
  ·rw[kG h,iha _ _ _ hg]
  ·rw[j1 h,ihb _ _ _ hg]
 |unit=>intros;rfl
 |int k=>intro d f g hg;unfold bz;cases Nat.beq f 0<;>simp[hg]
 |bool=>intro d f g hg;unfold bz;cases Nat.beq f 0<;>simp[hg]
 |str=>intro d f g hg;unfold bz;cases Nat.beq f 0<;>simp[hg]
 |sl e=>intro d f g hg;unfold bz;cases Nat.beq f 0<;>simp[hg]
theorem xj: ∀(p:Path) (t:Ty) (xs:List (den t)),ir t xs p (fun _ ys=>ys)=xs
 | [],_,_=>rfl
 |(i,f)::p,t,xs=>by
  show xs.set i (bz t (xs.getD i (bm t)) f _)=xs
  rw[BB]
  ·apply List.ext_getElem?
   intro j
   rw[List.getElem?_set]
   split
   ·next e=>
    subst e
    split
    ·next h=>rw[List.getD_eq_getElem?_getD,List.getElem?_eq_getElem h];rfl
    ·next h=>rw[List.getElem?_eq_none (by omega)]
   ·rfl
  ·intro c d
   cases c<;>first|rfl|exact xj p _ d
theorem Ek(R:Rel w0 st g born acts w){r:Nat}{p:Path}{t e:Ty}{xs:List (den t)}{ys zs:List (den e)}{ok:List Tst}{H':Path→Value}(hbase: ¬born base)
  (hg:st.get r= .row true t xs) (hp:p≠ []) (hrow:rowAt t xs p=(ok,⟨e,ys⟩)) (hok:aN ok) (hflat:e.flat=true) (hq: ∀j r' p t xs,st.get j= .pend r' p t xs→r'≠r)
  (hb:bL w0 w w') (hblk: ∀b,b<w.heap.size→w'.heap[b]?=w.heap[b]?∨jT ((g r).H p) b)
  (hrep:aS w' true e zs H') (hown: ∀b,aD e zs H' b→w.heap.size≤b∨jT ((g r).H p) b)
  (hkeep: ∀ad n c,(g r).H p= .slice (some ad) n c→c≠0→ ∃arr arr' te,w.heap[ad.block]?=some (.cells arr te (0,0))∧w'.heap[ad.block]?=some (.cells arr' te (0,0))∧arr'.size=arr.size∧ ∀k,k<ys.length*e.size→w'.cell? (ad.add k)=w.cell? (ad.add k)):
  Rel w0 (st.ep base (.pend r p e zs)) (dK g base ⟨0,H',fun _=>False⟩) (fun x=>born x∨x=base) acts w':=by
 have hr:=R.roots r
 unfold aF at hr
 rw[hg]at hr
 obtain⟨hr1,hr2⟩:=hr
 obtain⟨c1,c2,c3,c4⟩:=gH p t xs (g r).H ok e ys hrow hok hr1
 have hrb:born r:=R.alive r (by rw[hg];simp)
 have hne: ∀x,born x→x≠base:=fun x h e=>hbase (e▸h)
 have hvr: ∀b,jT ((g r).H p) b→aD t xs (g r).H b:=fun b h=>c3 b (lg (H:=fun q=>(g r).H (p++q)) (by simpa using h))
 have hgb:(st.ep base (.pend r p e zs)).get base= .pend r p e zs:=bQ _ _ _
 have hgr:(st.ep base (.pend r p e zs)).get r= .row true t xs:=by rw[aT (hne r hrb)];exact hg
 have hgg:dK g base ⟨0,H',fun _=>False⟩ r=g r:=aE (hne r hrb)
 have hownR: ∀b,Own st.get g r b↔aD t xs (g r).H b:=fun b=>by unfold Own;rw[hg]
 have hchild:aS w' true e ys (fun q=>(g r).H (p++q)):=by
  rcases c1 with⟨h0,h1⟩|⟨ad,cap,h0,hle,hbk,hx⟩
  ·exact .inl ⟨h0,h1⟩
  ·have h0':(g r).H p= .slice (some ad) ys.length cap:=by simpa using h0
   refine .inr ⟨ad,cap,h0,hle,fun _ hc=> ?_,fun i x hi=> ?_⟩
   ·obtain⟨h2,arr,te,h3,h4⟩:=hbk rfl hc
    obtain⟨arr1,arr',te',h5,h6,h7,_⟩:=hkeep ad _ cap h0' hc
    rw[h3]at h5
    injection h5 with h5
    injection h5 with h5 h5'
    exact⟨h2,arr',te',h6,by rw[h7,←h5];exact h4⟩
   ·have hil:i<ys.length:=by
     rcases Nat.lt_or_ge i ys.length with h|h
     ·exact h
     ·rw[List.getElem?_eq_none h]at hi;cases hi
    obtain⟨_,_,_,_,_,_,h8⟩:=hkeep ad _ cap h0' (by omega)
    refine zF e x _ _ 0 _ _ hflat (hx i x hi) fun k _ hk=>h8 _ ?_
    have:(i+1)*e.size≤ys.length*e.size:=Nat.mul_le_mul_right _ hil
    rw[Nat.add_mul]at this
    omega
 have hroot:aS w' true t xs (g r).H:=by
  have:=(As (w:=w) (w':=w') (rw:=true) (fun _ ys=>ys) p t xs (g r).H ok e ys (fun q=>(g r).H (p++q)) hrow hok hr1 hr2 (by simp) hchild (c4 hr2)
   (fun b hb1 hb2=> ?_) (fun b hb1=> .inl hb1)).1
  ·rw[xj,kR]at this;exact this
  ·rcases hblk b (uy hr1 hb1)with h|h
   ·exact h
   ·exact(hb2 (lg (H:=fun q=>(g r).H (p++q)) (by simpa using h))).elim
 have hownB: ∀b,Own (st.ep base (.pend r p e zs)).get (dK g base ⟨0,H',fun _=>False⟩) base b→w.heap.size≤b:=by
  intro b h
  unfold Own at h
  rw[hgb]at h
  simp only[bU]at h
  rcases hown b h.1 with h1|h1
  ·exact h1
  ·refine(h.2 ?_).elim
   unfold mh
   rw[hgg];exact h1
 have hsameO: ∀x b,x≠base→(Own (st.ep base (.pend r p e zs)).get (dK g base ⟨0,H',fun _=>False⟩) x b↔Own st.get g x b):=fun x b hx=>
  mN (aT hx) (aE hx) fun q p t xs e=>aE (hne q (R.bornR x q (by rw[e];simp[ak.roots])))
 refine jU (fun x=>x=base∨x=r) R hb rfl (fun x hx=>⟨fun t ht=> ?_,fun hv=> ?_⟩) (fun x hx=>⟨aT fun e=>hx (.inl e),aE fun e=>hx (.inl e),fun b hbo=> ?_⟩)
  (fun x r' p' t' xs' hx e'=> ?_) (fun x hx=> ?_) (fun x y b hx hxy h h'=> ?_) (fun x b hx h=> ?_) (fun _ h=> .inl h) (fun x hx y hy=> ?_) (fun x hx h=> ?_)
 ·rw[aT (hne x hx)]at ht;exact⟨ht,fun _ _=>by rw[aE (hne x hx)]⟩
 ·rw[aT (hne x hx)]at hv;exact⟨hv,by rw[aE (hne x hx)]⟩
 ·rcases hblk b (eO R hbo)with h|h
  ·exact h
  ·exact(R.sep x r b (fun e=>hx (.inr e)) hbo ((hownR b).2 (hvr b h))).elim
 ·rintro(e1|e1)
  ·subst e1;exact hbase (R.bornR x r' (by rw[e'];simp[ak.roots]))
  ·exact hq x r' p' t' xs' e' e1
 ·rcases hx with rfl|rfl
  ·unfold aF
   rw[hgb]
   simp only[bU]
   refine⟨hrep,hflat,t,xs,hgr,hp,fun b h=> ?_⟩
   unfold mh at h
   rw[hgg]at h⊢
   exact hvr b h
  ·unfold aF
   rw[hgr]
   simp only[hgg]
   exact⟨hroot,hr2⟩
 ·rcases hx with rfl|rfl
  ·have h1:=hownB b h
   have:=eO R ((hsameO y b fun e=>hxy e.symm).1 h')
   omega
  ·have h1:=(hsameO x b (hne x hrb)).1 h
   by_cases e:y=base
   ·subst e
    have:=hownB b h'
    have:=eO R h1
    omega
   ·exact R.sep x y b hxy h1 ((hsameO y b e).1 h')
 ·rcases hx with rfl|rfl
  ·exact R.fresh (hownB b h)
  ·exact R.low x b ((hsameO x b (hne x hrb)).1 h)
 ·rcases hx with rfl|rfl
  ·rw[hgb]at hy
   simp only[ak.roots,List.mem_singleton]at hy
   subst hy;exact .inl hrb
  ·rw[hgr]at hy;simp[ak.roots]at hy
 ·rcases hx with rfl|rfl
  ·exact .inr rfl
  ·exact .inl hrb
theorem re(h:w'.os=w.os∧w'.tape=w.tape∧w'.output=w.output∧w.heap.size≤w'.heap.size∧ ∀b,b<w.heap.size→w'.heap[b]?=w.heap[b]?∨ ∃c,c=b∧ ¬w0.dh c∧ ∀(o:Obj),w.heap[b]?=some o→o.isCells=true)(hB:w0.v.heap.size≤w.heap.size):bL w0 w w':=
 ⟨h.1,h.2.1,h.2.2.1,h.2.2.2.1,fun k hk=>(h.2.2.2.2 k (Nat.lt_of_lt_of_le hk.1 hB)).resolve_right fun⟨c,h1,h2,_⟩=>h2 (h1▸hk),fun k o h1 h2=>by
  rcases h.2.2.2.2 k (Array.getElem?_eq_some_iff.1 h1).1 with h'|⟨_,_,_,h'⟩
  ·exact h'.trans h1
  ·rw[h' o h1]at h2;cases h2⟩
theorem step_append{t u ty:TypeId}{sv xv:AV}{s x:Operand}(hrun: ∀r w',(Builtin.append_ #[t,u] ty #[a.eval s,a.eval x]).run P w= .ok r w'→(execOp a.eval o).run P w= .ok (.value r) w')
  (R:Rel w0 st g born (a::asx) w) (hs:ae st.get g sv (a.eval s)) (hx:ae st.get g xv (a.eval x)) (hu2:kV P u)
  (hok:aN (cz P t sv xv st.get base).ok) (hfr: ∀i,base≤i→i∈(cz P t sv xv st.get base).upd.map (·.1)→ ¬born i) (hq:a8 st.rs (cz P t sv xv st.get base).quiet=true):
  cu P o a.eval w (dU w0 st born (a::asx) (cz P t sv xv st.get base)):=by
 revert hfr hq
 unfold cz at hok⊢
 split at hok
 ·exact(ay hok).elim
 next et het=>
 split at hok
 ·exact(ay hok).elim
 next agg e hty=>
 generalize hsrc:vj e xv st.get=src at hok
 obtain⟨ok,zs,l⟩:=src
 simp only at hok⊢
 unfold og at hok⊢
 split at hok
 ·
  intro hfr hq
  obtain⟨h1,h2⟩:=aq.1 hok
  obtain⟨h0,h1⟩:=af.1 h1
  have h2:zs.length≤lim:=of_decide_eq_true (show decide (zs.length≤lim)=true from(af.1 h2).1)
  obtain⟨e',i,z,hu,_,hinf,hsz,hby,hz,hzi,hpos,hce,hzs⟩:=cd h0
  obtain⟨⟨hl1,_⟩,G2,news,S⟩:=sK (P:=P) R hx hsrc h1
  rw[ae]at hs
  have O:Old w e [] (a.eval s) (fun _ _ _=>Go.undef) [] (fun _=>False):=by
   rw[hs]
   exact⟨⟨none,0,rfl,Nat.le_refl _,fun _=>⟨rfl,rfl⟩⟩,j8.nil _ _ _ _,fun ad n c h=>by(cases h),fun ad n c h=>by(cases h),fun i x b h=>by simp at h,fun ad n c i x h=>by(cases h),fun i j x y b _ h=>by simp at h,fun i x h=>by simp at h,fun b h=>h.elim⟩
  obtain⟨v',w',G',k1,k2,k3,k4,k5,k6,_⟩:=qv (ty:=ty) O S hu hu2 hinf hz hsz hby hzs (fun b ⟨r,hr,hb⟩=>⟨eO R hb,fun h=>h,fun⟨ad,n,c,h,_⟩=>by rw[hs]at h;cases h⟩) (by simpa using h2)
  have hnv: ∀b,¬jT (a.eval s) b:=fun b ⟨ad,n,c,h,_⟩=>by rw[hs]at h;cases h
  have hD:=ko (base:=base) (ok:= .s (cV P t e)::ok++ [.d (D.leN (D.len zs) lim)]) (q:=dL l) (l:=l) (e:=e) (xs:=zs) (inf:=⟨0,tO v' G',fun _=>False⟩) R (hfr base (Nat.le_refl _) (by simp))
   (dI hq fun r hr=>List.mem_map.2 ⟨r,hr,rfl⟩) ⟨k6.1,k6.2.1,k6.2.2.1,k6.2.2.2.1,fun k hk=>(k6.2.2.2.2 k (Nat.lt_of_lt_of_le hk.1 R.below.size)).resolve_right (hnv k),fun k o h1 _=>((k6.2.2.2.2 k (Array.getElem?_eq_some_iff.1 h1).1).resolve_right (hnv k)).trans h1⟩
   (fun b hb=> .inl ((k6.2.2.2.2 b hb).resolve_right (hnv b))) k3 k4 (fun b hb=>by
    rcases k5 b hb with h|h|h|h
    ·exact .inl h
    ·exact(hnv b h).elim
    ·exact h.elim
    ·exact .inr h)
  exact cu.value (hrun _ _ k1) hD
 ·next r p sub=>
  split at hok
  ·next e' ys hg=>
   split at hok
   ·next he _=>
    subst he
    intro hfr hq
    simp only[eC]at hok⊢hfr
    obtain⟨h1,h2⟩:=aq.1 hok
    obtain⟨h0,h1⟩:=af.1 h1
    obtain⟨h3,h4⟩:=af.1 h2
    have hrl:r∉l:=by
     have:(!l.contains r)=true:=h3
     simpa using this
    have h4:(dJ sub ys++zs).length≤lim:=of_decide_eq_true (show decide ((dJ sub ys++zs).length≤lim)=true from(af.1 h4).1)
    obtain⟨et',i,z,hu,_,hinf,hsz,hby,hz,hzi,hpos,hce,hzs⟩:=cd h0
    obtain⟨⟨hl1,_⟩,G2,news,S⟩:=sK (P:=P) R hx hsrc h1
    have hro:=R.roots r
    unfold aF at hro
    rw[hg]at hro
    rw[ae]at hs
    have hsub:mI e'.size sub ((g r).H []) (a.eval s):=hs.2 e' e' (by rw[hg];rfl) rfl
    have hrow:=il hro.1 hsub
    have hrs:=fx hsub hro.2
    obtain⟨olds,O⟩:=qa hrow hrs
    have hhd:nj sub (a.eval s) (g r).H []=a.eval s:=rfl
    rw[hhd]at O
    have hownR: ∀b,aD e' (dJ sub ys) (nj sub (a.eval s) (g r).H) b→Own st.get g r b:=fun b hb=>by
     unfold Own;rw[hg];exact eR hsub hb
    have hvr: ∀b,jT (a.eval s) b→Own st.get g r b:=fun b hb=>hownR b (lg (by rw[hhd];exact hb))
    obtain⟨v',w',G',k1,k2,k3,k4,k5,k6,_⟩:=qv (ty:=ty) O S hu hu2 hinf hz hsz hby hzs (fun b ⟨r',hr',hb⟩=>⟨eO R hb,fun h=>R.sep r' r b (fun e=>hrl (e▸hr')) hb (hownR b h),fun h=>R.sep r' r b (fun e=>hrl (e▸hr')) hb (hvr b h)⟩) (by simpa using h4)
    have hupd:cH l++ [(r,ak.dead),(base,ak.row true e' (dJ sub ys++zs))]=cH (l++ [r])++ [(base,ak.row true e' (dJ sub ys++zs))]:=by simp[cH]
    have hD:=ko (base:=base) (ok:= []) (q:= []) (l:=l++ [r]) (e:=e') (xs:=dJ sub ys++zs) (inf:=⟨0,tO v' G',fun _=>False⟩) R (hfr base (Nat.le_refl _) (by simp))
     (dI hq fun x hx=>by
      rcases List.mem_append.1 hx with h|h
      ·exact List.mem_cons_of_mem _ (List.mem_map.2 ⟨x,h,rfl⟩)
      ·rw[List.mem_singleton.1 h];exact List.mem_cons_self)
     (re ⟨k6.1,k6.2.1,k6.2.2.1,k6.2.2.2.1,fun b hb=>(k6.2.2.2.2 b hb).imp id fun h=>⟨b,rfl,R.low r b (hvr b h),ib R (hvr b h)⟩⟩ R.below.size)
     (fun b hb=>(k6.2.2.2.2 b hb).imp id fun h=>⟨r,List.mem_append.2 (.inr (List.mem_singleton.2 rfl)),hvr b h⟩) k3 k4 (fun b hb=>by
      rcases k5 b hb with h|h|h|⟨x,h,h'⟩
      ·exact .inl h
      ·exact .inr ⟨r,List.mem_append.2 (.inr (List.mem_singleton.2 rfl)),hvr b h⟩
      ·exact .inr ⟨r,List.mem_append.2 (.inr (List.mem_singleton.2 rfl)),hownR b h⟩
      ·exact .inr ⟨x,List.mem_append.2 (.inl h),h'⟩)
    refine cu.value (hrun _ _ k1) ?_
    obtain⟨g',b',d1,d2,d3,d4,d5⟩:=hD
    refine⟨g',b',?_,?_,d3,?_,d5⟩
    ·show Rel w0 (st.aH (cH l++ [(r,ak.dead),(base,ak.row true e' (dJ sub ys++zs))])) _ _ _ _
     rw[hupd];exact d1
    ·show ae (st.aH (cH l++ [(r,ak.dead),(base,ak.row true e' (dJ sub ys++zs))])).get _ _ _
     rw[hupd];exact d2
    ·show∀r',b' r'→born r'∨r'∈(cH l++ [(r,ak.dead),(base,ak.row true e' (dJ sub ys++zs))]).map (·.1)
     rw[hupd];exact d4
   ·exact(ay hok).elim
  ·next q p t' xs hg=>
   split at hok
   ·next ok' e' ys hrow=>
    split at hok
    ·next he _=>
     subst he
     intro hfr hq
     simp only[eC]at hok⊢hfr
     obtain⟨h1,h2⟩:=aq.1 hok
     obtain⟨h1,h3⟩:=aq.1 h1
     obtain⟨h0,h1⟩:=af.1 h1
     obtain⟨h4,h5⟩:=af.1 h2
     have h4:e'.flat=true:=h4
     have h5:(ys++zs).length≤lim:=of_decide_eq_true (show decide ((ys++zs).length≤lim)=true from(af.1 h5).1)
     obtain⟨et',i,z,hu,_,hinf,hsz,hby,hz,hzi,hpos,hce,hzs⟩:=cd h0
     obtain⟨⟨_,hl0⟩,G2,news,S⟩:=sK (P:=P) R hx hsrc h1
     obtain rfl:=hl0 h4
     have hro:=R.roots r
     unfold aF at hro
     rw[hg]at hro
     obtain⟨c1,c2,c3,c4⟩:=gH (q::p) t' xs (g r).H ok' e' ys hrow h3 hro.1
     rw[ae]at hs
     have hsub:a.eval s=(g r).H (q::p):=hs.2 t' e' (by rw[hg];rfl) c2
     obtain⟨olds,O⟩:=qa c1 (c4 hro.2)
     have hhd:(g r).H (q::p++ [])=a.eval s:=by simp[hsub]
     rw[hhd]at O
     obtain⟨v',w',G',k1,k2,k3,k4,k5,k6,k7⟩:=qv (ty:=ty) O S hu hu2 hinf hz hsz hby hzs (fun b ⟨r',hr',_⟩=>by cases hr') (by simpa using h5)
     have hBv: ∀b,aD e' ys (fun q'=>(g r).H (q::p++q')) b→jT ((g r).H (q::p)) b:=by
      rintro b (⟨ad,n,c,h,h',h''⟩|⟨i,x,_,hb⟩)
      ·exact⟨ad,n,c,by simpa using h,h',h''⟩
      ·exact(mG e' x _ 0 b h4 hb).elim
     have hvo: ∀b,jT ((g r).H (q::p)) b→Own st.get g r b:=fun b h=>(by
      unfold Own;rw[hg];exact c3 b (lg (H:=fun q'=>(g r).H (q::p++q')) (by simpa using h)))
     have hvr: ∀b,jT ((g r).H (q::p)) b→ ¬w0.dh b:=fun b h=>R.low r b (hvo b h)
     rw[hsub]at k5 k6 k7
     have R':=Ek (base:=base) (w':=w') (zs:=ys++zs) (H':=tO v' G') R (hfr base (Nat.le_refl _) (by simp)) hg (by simp) hrow h3 h4
      (fun j r' p t xs e er=>by
       have:=List.all_eq_true.1 hq (r,none) (by simp)
       have:=mV (st:=st) this e er
       cases this)
      (re ⟨k6.1,k6.2.1,k6.2.2.1,k6.2.2.2.1,fun b hb=>(k6.2.2.2.2 b hb).imp id fun h=>⟨b,rfl,hvr b h,ib R (hvo b h)⟩⟩ R.below.size) k6.2.2.2.2 k3
      (fun b hb=>by
       rcases k5 b hb with h|h|h|⟨x,h,_⟩
       ·exact .inl h
       ·exact .inr h
       ·exact .inr (hBv b h)
       ·cases h) k7
     refine cu.value (hrun _ _ k1) ⟨_,_,R',?_,fun x hx=> ?_,fun x hx=>hx.imp id fun e=> ?_,fun x hx=> .inl hx⟩
     ·show ae _ _ (.sl base [] none) _
      rw[ae]
      refine⟨by obtain⟨b,c,e⟩:=k2;exact⟨_,_,_,e⟩,fun t2 e2 _ _=> ?_⟩
      show v'=(dK g base ⟨0,tO v' G',fun _=>False⟩ base).H []
      rw[bU];rfl
     ·simp only[AV.roots,List.mem_singleton]at hx;exact .inr hx
     ·subst e;simp
    ·exact(ay hok).elim
   ·exact(ay hok).elim
  ·exact(ay hok).elim
 ·exact(ay hok).elim
theorem C6{e:Ty}{ys:List (den e)}{H:Path→Value}{o:Nat}(h:aS w true e ys H)(hs:bD e ys H):
  (∃a n c,H []= .slice a n c∧(ys.take o).length≤n∧n≤c∧(a=none→c=0)∧aS w true e (ys.take o) (tJ a (ys.take o).length c H)∧bD e (ys.take o) H)∧
  (∀b,aD e (ys.take o) H b→aD e ys H b):=by
 have hget: ∀i (x:den e),(ys.take o)[i]?=some x→ys[i]?=some x∧i<o:=fun i x h=>by
  rw[List.getElem?_take]at h
  split at h
  ·next hlt=>exact⟨h,hlt⟩
  ·cases h
 refine⟨?_,fun b hb=> ?_⟩
 ·have s1:bD e (ys.take o) H:=⟨fun a n c i x h hc hx=>hs.1 a n c i x h hc (hget i x hx).1,fun i j x y b hij hx hy=>hs.2.1 i j x y b hij (hget i x hx).1 (hget j y hy).1,fun i x hx=>hs.2.2 i x (hget i x hx).1⟩
  rcases h with⟨h0,rfl⟩|⟨a,cap,h0,h1,h2,h3⟩
  ·exact⟨none,0,0,h0,by simp,Nat.le_refl _,fun _=>rfl,.inl ⟨by simp[tJ],by simp⟩,s1⟩
  ·refine⟨some a,ys.length,cap,h0,by rw[List.length_take];omega,h1,(fun h=>by cases h),.inr ⟨a,cap,rfl,by rw[List.length_take];omega,h2,fun i x hx=>h3 i x (hget i x hx).1⟩,s1⟩
 ·rcases hb with hb|⟨i,x,hx,hb⟩
  ·exact .inl hb
  ·exact .inr ⟨i,x,(hget i x hx).1,hb⟩
theorem Bq{t u ty:TypeId}{e:Ty}{r1 r o' l:Nat}{sub1:Option (Nat×Nat)}{ys1 ys:List (den e)}{s x:Operand}(hrun: ∀r w',(Builtin.append_ #[t,u] ty #[a.eval s,a.eval x]).run P w= .ok r w'→(execOp a.eval o).run P w= .ok (.value r) w')
  (R:Rel w0 st g born (a::asx) w) (hs:ae st.get g (.sl r1 [] sub1) (a.eval s)) (hx:ae st.get g (.sl r [] (some (o',l))) (a.eval x)) (hg1:st.get r1= .row true e ys1) (hg:st.get r= .row true e ys) (hu2:kV P u)
  (hok:aN (gT P t e r1 sub1 ys1 r o' l ys base).ok) (hfr: ∀i,base≤i→i∈(gT P t e r1 sub1 ys1 r o' l ys base).upd.map (·.1)→ ¬born i) (hq:a8 st.rs (gT P t e r1 sub1 ys1 r o' l ys base).quiet=true):
  cu P o a.eval w (dU w0 st born (a::asx) (gT P t e r1 sub1 ys1 r o' l ys base)):=by
 obtain⟨k1,k2⟩:=af.1 hok
 obtain⟨k2,k3⟩:=af.1 k2
 have hne:r1≠r:=by
  intro er
  subst er
  have k2:(!Nat.beq r1 r1)=true:=k2
  simp at k2
 have k3:(dJ sub1 ys1++dJ (some (o',l)) ys).length≤lim:=of_decide_eq_true (show decide ((dJ sub1 ys1++dJ (some (o',l)) ys).length≤lim)=true from(af.1 k3).1)
 obtain⟨et',i,z,hu,_,hinf,hsz,hby,hz,hzi,hpos,hce,hzs⟩:=cd k1
 have hro1:=R.roots r1
 unfold aF at hro1
 rw[hg1]at hro1
 have hro:=R.roots r
 unfold aF at hro
 rw[hg]at hro
 rw[ae]at hs hx
 have hsub:mI e.size sub1 ((g r1).H []) (a.eval s):=hs.2 e e (by rw[hg1];rfl) rfl
 have hsubx:mI e.size (some (o',l)) ((g r).H []) (a.eval x):=hx.2 e e (by rw[hg];rfl) rfl
 have hrow:=il hro1.1 hsub
 have hrs:=fx hsub hro1.2
 obtain⟨olds,O⟩:=qa hrow hrs
 have hhd:nj sub1 (a.eval s) (g r1).H []=a.eval s:=rfl
 rw[hhd]at O
 have q1:=il hro.1 hsubx
 have q2:=fx hsubx hro.2
 generalize hzsd:dJ (some (o',l)) ys=zs at*
 have hxd:nj (some (o',l)) (a.eval x) (g r).H []=a.eval x:=rfl
 obtain⟨cells,hel,hcl⟩:=js q1
 obtain⟨⟨ha,hhalf⟩,hsubB⟩:(∃a n c,(g r).H []= .slice a n c∧(ys.take o').length≤n∧n≤c∧(a=none→c=0)∧aS w true e (ys.take o') (tJ a (ys.take o').length c (g r).H)∧bD e (ys.take o') (g r).H)∧(∀b,aD e (ys.take o') (g r).H b→aD e ys (g r).H b):=C6 hro.1 hro.2
 have hsubO: ∀b,aD e (ys.take o') (g r).H b→Own st.get g r b:=fun b hb=>by unfold Own;rw[hg];exact hsubB b hb
 have runs:(Builtin.lenOf (a.eval x)).run P w= .ok zs.length w∧ ∀w2:World,(∀ad,w2.cell? ad=w.cell? ad)→(Builtin.firstCells e.size zs.length (a.eval x)).run P w2= .ok cells.toArray w2:=by
  refine⟨?_,fun w2 h2=> ?_⟩
  ·obtain⟨aa,c,h3⟩:=mZ (t:=e) q1
   rw[hxd]at h3
   rw[h3];simp[Builtin.lenOf]
  ·refine oW hel.len ?_ (fun ad n c e' k u hk=>by rw[h2];exact hcl ad n c (by rw[hxd];exact e') k u hk)
   rcases q1 with⟨h0,h1⟩|⟨ad,cap,h0,_⟩
   ·rw[hxd]at h0;exact .inl ⟨h0,by rw[h1];rfl⟩
   ·rw[hxd]at h0;exact .inr ⟨ad,cap,h0⟩
 have S:Src P w e (a.eval x) zs (fun b=>Own st.get g r b∧ ¬aD e (ys.take o') (g r).H b) (fun i f q=>nj (some (o',l)) (a.eval x) (g r).H ((i,f)::q)) cells:=by
  refine⟨runs.1,runs.2,hel,fun i x' b hi hb=>⟨?_,fun hh=> ?_⟩,fun i j x' y b hij hi hj hb hb'=>q2.2.1 i j x' y b hij hi hj hb hb',fun i x' hi=>q2.2.2 i x' hi⟩
  ·unfold Own;rw[hg]
   exact eR hsubx (by rw[hzsd];exact .inr ⟨i,x',hi,hb⟩)
  ·have hi':ys[o'+i]?=some x':=by
    have:=lF (sub:=some (o',l)) (xs:=ys) (i:=i) (x:=x') (by rw[hzsd];exact hi)
    exact this
   have hb:Blk e x' (fun f q=>(g r).H ((o'+i,f)::q)) 0 b:=hb
   rcases hh with⟨ad,n,c,h1,h2,rfl⟩|⟨j,y,hj,hbj⟩
   ·exact hro.2.1 ad n c (o'+i) x' h1 h2 hi' hb
   ·rw[List.getElem?_take]at hj
    split at hj
    ·next hlt=>exact hro.2.2.1 (o'+i) j x' y b (by omega) hi' hj hb hbj
    ·cases hj
 have hownR: ∀b,aD e (dJ sub1 ys1) (nj sub1 (a.eval s) (g r1).H) b→Own st.get g r1 b:=fun b hb=>by
  unfold Own;rw[hg1];exact eR hsub hb
 have hvr: ∀b,jT (a.eval s) b→Own st.get g r1 b:=fun b hb=>hownR b (lg (by rw[hhd];exact hb))
 obtain⟨v',w',G',m1,m2,m3,m4,m5,m6,_⟩:=qv (ty:=ty) O S hu hu2 hinf hz hsz hby hzs (fun b hb=>⟨eO R hb.1,fun h=>R.sep r r1 b (fun e=>hne e.symm) hb.1 (hownR b h),fun h=>R.sep r r1 b (fun e=>hne e.symm) hb.1 (hvr b h)⟩) (by simpa using k3)
 have hbase: ¬born base:=hfr base (Nat.le_refl _) (by simp[gT])
 have hget: ∀q,(st.aH [(r1,.dead),(r,.half e (ys.take o')),(base,.row true e (dJ sub1 ys1++zs))]).get q=if q=base then .row true e (dJ sub1 ys1++zs)else if q=r then .half e (ys.take o')else if q=r1 then .dead else st.get q:=fun q=>by
  rw[eX]
  show(if q=base then _ else if q=r then _ else if q=r1 then _ else st.get q)=_
  rfl
 have hgi:(st.aH [(r1,.dead),(r,.half e (ys.take o')),(base,.row true e (dJ sub1 ys1++zs))]).get base= .row true e (dJ sub1 ys1++zs):=by rw[hget];simp
 have R':=Dc (st':=st.aH [(r1,.dead),(r,.half e (ys.take o')),(base,.row true e (dJ sub1 ys1++zs))]) (i:=base) (inf:=⟨0,tO v' G',fun _=>False⟩) (r1:=r1) R hg hne
  (fun q hq' j r' p t xs e er=>by
   have:=List.all_eq_true.1 hq (q,none) (by rcases hq' with h|h<;>simp[h,gT])
   have:=mV (st:=st) this e er
   cases this) hbase rfl hget
  (re ⟨m6.1,m6.2.1,m6.2.2.1,m6.2.2.2.1,fun b hb=>(m6.2.2.2.2 b hb).imp id fun h=>⟨b,rfl,R.low r1 b (hvr b h),ib R (hvr b h)⟩⟩ R.below.size)
  (fun b hb=>(m6.2.2.2.2 b hb).imp id fun h=>hvr b h) ⟨ha,hhalf⟩ hsubO
  (by unfold aF;rw[hgi];simp only[bU];exact⟨m3,m4⟩)
  (fun b h=>by
   unfold Own at h;rw[hgi]at h;simp only[bU]at h
   rcases m5 b h with h|h|h|h
   ·exact .inl h
   ·exact .inr (.inl (hvr b h))
   ·exact .inr (.inl (hownR b h))
   ·exact .inr (.inr h)) (fun q hq=>by simp[ak.roots]at hq)
 have hD:dU w0 st born (a::asx) (gT P t e r1 sub1 ys1 r o' l ys base) v' w':=by
  have eS:gT P t e r1 sub1 ys1 r o' l ys base={ok:= [.s (cV P t e),.s (!Nat.beq r1 r),.d (D.leN (D.len (dJ sub1 ys1++zs)) lim)],v:= .sl base [] none,upd:= [(r1,.dead),(r,.half e (ys.take o')),(base,.row true e (dJ sub1 ys1++zs))],quiet:= [(r1,none),(r,none)]}:=by
   unfold gT;rw[hzsd];rfl
  rw[eS]
  refine⟨_,_,R',?_,fun q hq=> ?_,fun q hq=>hq.imp id fun e=> ?_,fun q hq=> .inl hq⟩
  ·show ae _ _ (.sl base [] none) _
   rw[ae]
   obtain⟨bb,cc,hv'⟩:=m2
   refine⟨⟨_,_,_,hv'⟩,fun t e' _ _=> ?_⟩
   show v'=(dK g base ⟨0,tO v' G',fun _=>False⟩ base).H []
   rw[bU];rfl
  ·simp only[AV.roots,List.mem_singleton]at hq;exact .inr hq
  ·subst e;simp
 exact cu.value (hrun _ _ m1) hD
theorem sW{e:Ty}{get:Get}{r:Nat}{ys:List (den e)}(h:ownRow e get r=some ys):get r= .row true e ys:=by
 unfold ownRow at h
 split at h
 ·next t xs hg=>
  split at h
  ·next he _=>subst he;simp only[eC,Option.some.injEq]at h;subst h;exact hg
  ·cases h
 ·cases h
theorem tI(P:Program)(t:TypeId)(sv xv:AV)(get:Get)(base:Nat):fP P t sv xv get base=cz P t sv xv get base∨
  ∃r1 sub1 r o l e ys1 ys,sv= .sl r1 [] sub1∧xv= .sl r [] (some (o,l))∧ownRow e get r1=some ys1∧ownRow e get r=some ys∧fP P t sv xv get base=gT P t e r1 sub1 ys1 r o l ys base:=by
 unfold fP
 split
 ·next r1 sub1=>
  split
  ·next r o' l=>
   split
   ·split
    ·next agg e hty=>
     cases hfl:e.flat with
     |true=>exact .inl rfl
     |false=>
      cases h1:ownRow e get r1 with
      |none=>exact .inl rfl
      |some ys1=>
       cases h2:ownRow e get r with
       |none=>exact .inl rfl
       |some ys=>exact .inr ⟨r1,sub1,r,o',l,e,ys1,ys,rfl,rfl,h1,h2,rfl⟩
    ·exact .inl rfl
   ·exact .inl rfl
  ·exact .inl rfl
 ·exact .inl rfl
theorem u4{t u ty:TypeId}{sv xv:AV}{s x:Operand}(hrun: ∀r w',(Builtin.append_ #[t,u] ty #[a.eval s,a.eval x]).run P w= .ok r w'→(execOp a.eval o).run P w= .ok (.value r) w')
  (R:Rel w0 st g born (a::asx) w) (hs:ae st.get g sv (a.eval s)) (hx:ae st.get g xv (a.eval x)) (hu2:kV P u)
  (hok:aN (fP P t sv xv st.get base).ok) (hfr: ∀i,base≤i→i∈(fP P t sv xv st.get base).upd.map (·.1)→ ¬born i) (hq:a8 st.rs (fP P t sv xv st.get base).quiet=true):
  cu P o a.eval w (dU w0 st born (a::asx) (fP P t sv xv st.get base)):=by
 rcases tI P t sv xv st.get base with e|⟨r1,sub1,r,o',l,e,ys1,ys,rfl,rfl,h1,h2,e'⟩
 ·rw[e]at hok hfr hq⊢
  exact step_append hrun R hs hx hu2 hok hfr hq
 ·rw[e']at hok hfr hq⊢
  exact Bq hrun R hs hx (sW h1) (sW h2) hu2 hok hfr hq
theorem wI{t:TypeId}{x:Operand}{lo hi:Option Operand}{avlo avhi:Option AV}(ho:o.op= .slice t x lo hi none)(R:Rel w0 st g born (a::asx) w)
  (hlo: ∀v,avlo=some v→ ∃u,lo.map a.eval=some u∧ae st.get g v u) (hlo':avlo=none→lo.map a.eval=none)
  (hhi: ∀v,avhi=some v→ ∃u,hi.map a.eval=some u∧ae st.get g v u) (hhi':avhi=none→hi.map a.eval=none)
  (hok:aN (fM P t (an st x) avlo avhi st.get base).ok) (hfr: ∀i,base≤i→i∈(fM P t (an st x) avlo avhi st.get base).upd.map (·.1)→ ¬born i) (hq:a8 st.rs (fM P t (an st x) avlo avhi st.get base).quiet=true):
  cu P o a.eval w (dU w0 st born (a::asx) (fM P t (an st x) avlo avhi st.get base)):=by
 cases hh:sA avlo avhi (an st x) st.get with
 |none=>
  have e:fM P t (an st x) avlo avhi st.get base=kr P t (an st x) avlo avhi st.get:=by unfold fM;rw[hh]
  rw[e]at hok⊢
  exact By ho R hlo hlo' hhi hhi' hok
 |some q=>
  obtain⟨r,h,e,xs⟩:=q
  have e1:fM P t (an st x) avlo avhi st.get base=mY P t e xs r h base:=by unfold fM;rw[hh]
  rw[e1]at hok hfr hq⊢
  have hx:=(bC R x).1
  unfold sA at hh
  split at hh
  ·split at hh
   ·next k h'=>
    split at hh
    ·next r' hxe=>
     split at hh
     ·next e' xs' hg=>
      simp only[Option.some.injEq,Prod.mk.injEq,Sigma.mk.injEq]at hh
      obtain⟨rfl,rfl,rfl,hh⟩:=hh
      obtain rfl:=eq_of_heq hh
      rw[hxe]at hx
      obtain⟨u,hu1,hu2⟩:=hhi _ rfl
      rw[ae]at hu2
      have hl:=hlo' rfl
      cases lo with
      |some l=>cases hl
      |none=>
       cases hi with
       |none=>cases hu1
       |some hi=>
        injection hu1 with hu1
        rw[hu2]at hu1
        exact D5 ho R hx hg hu1 hok hfr hq
     ·cases hh
    ·cases hh
   ·cases hh
  ·cases hh
theorem DD(z:Array Value)(n:Nat):Builtin.zeroCells z n=madeCells z (n*z.size):=rfl
theorem Df{t u ty:TypeId}{k:IntKind}{s x:Operand}(hrun: ∀r w',(Builtin.append_ #[t,u] ty #[a.eval s,a.eval x]).run P w= .ok r w'→(execOp a.eval o).run P w= .ok (.value r) w')
  (hd:P.underlying u=some (.int k)) (R:Rel w0 st g born (a::asx) w) (hok:aN (nB P t (an st s) (an st x) base).ok)
  (hfr: ∀i,base≤i→i∈(nB P t (an st s) (an st x) base).upd.map (·.1)→ ¬born i):
  cu P o a.eval w (dU w0 st born (a::asx) (nB P t (an st s) (an st x) base)):=by
 obtain⟨hs,_⟩:=bC R s
 obtain⟨hx,_⟩:=bC R x
 revert hfr
 unfold nB at hok⊢
 split at hok
 ·next e kk n he h1 h2=>
  rw[h1,ae]at hs
  rw[h2,ae]at hx
  split at hok
  ·next agg te hty=>
   intro hfr
   obtain⟨k1,k2⟩:=af.1 hok
   obtain⟨k2,k3⟩:=af.1 k2
   have k2:1≤n:=of_decide_eq_true (show decide (1≤n)=true from k2)
   have k3:n.toNat≤lim:=of_decide_eq_true (show decide (n.toNat≤lim)=true from(af.1 k3).1)
   obtain⟨e',i,z,hu,_,hinf,hsz,hby,hz,hzi,hpos,hce,hzs⟩:=cd k1
   obtain⟨cap,hcap,hr⟩:=El (P:=P) (w:=w) (ty:=ty) (k':=kk) hu hd hinf hz k2 k3 hby (by omega)
   rw[DD,hzs]at hr
   obtain⟨r1,r2,r3⟩:=w8 (w:=w.drew) (e:=e') (l:=n.toNat) (c:=cap) hzi hzs hpos hcap
   have hB:bL w0 w w.drew:=⟨rfl,rfl,rfl,Nat.le_refl _,fun _ _=>rfl,fun _ _ h _=>h⟩
   have hD:=ko (base:=base) (ok:= [.s (cV P t te),.d (D.le 1 n),.d (D.leN (D.nat n) lim)]) (q:= []) (l:= []) (inf:=⟨0,_,fun _=>False⟩) R (hfr base (Nat.le_refl _) (by simp))
    (fun r hr=>by cases hr) (hB.alloc R.below.size _) (fun b hb=> .inl (RowKit.Below.heap_alloc _ _ _ hb)) r1 r2 (fun b hb=> .inl (by rw[r3 b hb];exact Nat.le_refl _))
   refine cu.value ?_ hD
   refine hrun _ _ ?_
   rw[hs,hx]
   exact hr
  ·exact(ay hok).elim
 ·exact(ay hok).elim
theorem Fk{t ty:TypeId}{x:Operand}(hrun: ∀v,a.eval x=v→ ∀r,(Builtin.cap_ #[t] ty #[v]).run P w= .ok r w→(execOp a.eval o).run P w= .ok (.value r) w)
  (R:Rel w0 st g born (a::asx) w) (hok:aN (sJ P t (an st x)).ok):cu P o a.eval w (dU w0 st born (a::asx) (sJ P t (an st x))):=by
 obtain⟨hx,_⟩:=bC R x
 unfold sJ at hok⊢
 split at hok
 ·next hn=>
  rw[hn,ae]at hx
  obtain⟨e,he⟩:=Option.isSome_iff_exists.1 (show(fQ P t).isSome=true from(af.1 hok).1)
  refine bo R rfl rfl (v:= .int .i64 0) (hrun _ rfl _ ?_) (by rw[ae]) (fun r h=>by simp[AV.roots]at h)
  rw[hx]
  simp[Builtin.cap_,ar (gr he),goInt]
 ·exact(ay hok).elim
end
end Go.Am
end
section
/- Soundness: rows whose elements are only read, appended to. -/
namespace Go.Am
attribute [local instance] D.real
section
variable {P : Program} {w0 : bu} {w w' : World} {st st' : St} {g g' : aB} {born : Nat → Prop} {a : Act} {asx acts : List Act} {o : Oper} {base : Nat}
theorem Gh{sz n m c:Nat}{b:Option Addr}{x:Value}{news olds:List Value}{t u ty te:TypeId}{i:TypeInfo}{z:Value}
  (hu:P.underlying t=some (.slice te)) (hu2:kV P u) (hi:P.info? te=some i) (hz:i.zero=some z) (hsz:i.size=sz) (hby:i.bytes≤128) (hzs:z.cells.size=sz)
  (hol:olds.length=n*sz) (hnl:news.length=m*sz) (hone: ∀v∈news,v.oneCell'=true) (hnc:n≤c) (hbn:b=none→n=0∧c=0)
  (hcell: ∀ad,b=some ad→ ∀k u,olds[k]?=some u→w.cell? (ad.add k)=some u)
  (hroom: ∀ad,b=some ad→c≠0→ad.spot=none∧ ∃arr te,w.heap[ad.block]?=some (.cells arr te (0,0))∧ad.off+c*sz≤arr.size)
  (hlen:(Builtin.lenOf x).run P w= .ok m w) (hnew: ∀w2:World,(∀ad,w2.cell? ad=w.cell? ad)→(Builtin.firstCells sz m x).run P w2= .ok news.toArray w2) (hlim:n+m≤lim):
  ∃b' c' w',(Builtin.append_ #[t,u] ty #[.slice b n c,x]).run P w= .ok (.slice b' (n+m) c') w'∧n+m≤c'∧(b'=none→n+m=0∧c'=0)∧
   (∀ad,b'=some ad→(∀k u,(olds++news)[k]?=some u→w'.cell? (ad.add k)=some u)∧
    (c'≠0→ad.spot=none∧(∃arr te,w'.heap[ad.block]?=some (.cells arr te (0,0))∧ad.off+c'*sz≤arr.size)∧(w.heap.size≤ad.block∨jT (.slice b n c) ad.block)))∧
   (w'.os=w.os∧w'.tape=w.tape∧w'.output=w.output∧w.heap.size≤w'.heap.size∧ ∀bl,bl<w.heap.size→w'.heap[bl]?=w.heap[bl]?∨(jT (.slice b n c) bl∧ ∃arr te,w'.heap[bl]?=some (.cells arr te (0,0)))):=by
 have hold: ∀w2:World,(∀ad,w2.cell? ad=w.cell? ad)→(Builtin.firstCells i.size n (.slice b n c)).run P w2= .ok olds.toArray w2:=by
  intro w2 h2
  rw[hsz]
  cases b with
  |none=>
   obtain⟨h3,h4⟩:=hbn rfl;subst h3;subst h4
   have:olds= []:=List.length_eq_zero_iff.1 (by simpa using hol)
   subst this
   exact run_firstCells_none w2 _ _ _ _
  |some ad=>exact run_firstCells_some w2 sz n ad n c olds hol (fun k u hk=>by rw[h2];exact hcell ad rfl k u hk)
 rcases Cf (P:=P) (w:=w) (t:=t) (u:=u) (ty:=ty) (b:=b) (n:=n) (c:=c) (m:=m) hu hu2 hi hz hlen (by rw[hsz];exact hnew) hold hlim hby with⟨hle,hrun⟩|⟨hgt,cap,hcap,hrun⟩
 ·cases b with
  |none=>
   obtain⟨h3,h4⟩:=hbn rfl
   subst h3;subst h4
   exact⟨none,0,w,hrun,hle,fun _=>⟨by omega,rfl⟩,(fun ad h=>by cases h),rfl,rfl,rfl,Nat.le_refl _,fun _ _=> .inl rfl⟩
  |some ad=>
   simp only at hrun
   by_cases hc0:c=0
   ·subst hc0
    obtain rfl:n=0:=by omega
    obtain rfl:m=0:=by omega
    have h1:olds= []:=List.length_eq_zero_iff.1 (by simpa using hol)
    have hn:news= []:=List.length_eq_zero_iff.1 (by simpa using hnl)
    subst h1;subst hn
    have hrun':(Builtin.append_ #[t,u] ty #[.slice (some ad) 0 0,x]).run P w= .ok (.slice (some ad) (0+0) 0) w:=by
     rw[hrun];simp[storeCells]
    exact⟨some ad,0,w,hrun',hle,(fun h=>by cases h),fun ad' _=>⟨fun k u hk=>by simp at hk,fun h=>absurd rfl h⟩,rfl,rfl,rfl,Nat.le_refl _,fun _ _=> .inl rfl⟩
   ·obtain⟨hsp,arr,te',hheap,harr⟩:=hroom ad rfl hc0
    have had:ad=⟨ad.block,ad.off,none⟩:=by cases ad;simp only at hsp;subst hsp;rfl
    have hadd: ∀k,ad.add k=⟨ad.block,ad.off+k,none⟩:=by
     intro k
     rw[had,Addr.add_lit]
    have hfit:ad.off+n*sz+0+news.length≤arr.size:=by
     have:(n+m)*sz≤c*sz:=Nat.mul_le_mul_right _ hle
     rw[Nat.add_mul]at this
     omega
    have hst:=run_storeCells_at P ad.block (ad.off+n*sz) te' news 0 arr w hheap hfit hone
    rw[←hadd (n*sz),←hsz]at hst
    rw[hst]at hrun
    simp only[Result.andThen_ok,Nat.add_zero]at hrun
    rw[hsz]at hrun
    have hnew:(w.setRow ad.block (arr.toList.take (ad.off+n*sz)++news++arr.toList.drop (ad.off+n*sz+news.length)).toArray).heap[ad.block]?=some (.cells (arr.toList.take (ad.off+n*sz)++news++arr.toList.drop (ad.off+n*sz+news.length)).toArray te' (0,0)):=
     setRow_heap w ad.block arr _ te' (0,0) hheap
    have hsize:(arr.toList.take (ad.off+n*sz)++news++arr.toList.drop (ad.off+n*sz+news.length)).toArray.size=arr.size:=by
     simp only[List.size_toArray,List.length_append,List.length_take,List.length_drop,Array.length_toList];omega
    have htl:(arr.toList.take (ad.off+n*sz)).length=ad.off+n*sz:=by simp only[List.length_take,Array.length_toList];omega
    have hcells: ∀k,(w.setRow ad.block (arr.toList.take (ad.off+n*sz)++news++arr.toList.drop (ad.off+n*sz+news.length)).toArray).cell? (ad.add k)=
      (arr.toList.take (ad.off+n*sz)++news++arr.toList.drop (ad.off+n*sz+news.length))[ad.off+k]?:=by
     intro k
     rw[hadd,cell_of_row _ _ _ _ _ _ hnew];simp
    have hcold: ∀k,w.cell? (ad.add k)=arr.toList[ad.off+k]?:=by
     intro k
     rw[hadd,cell_of_row _ _ _ _ _ _ hheap];simp
    refine⟨some ad,c,_,hrun,hle,(fun h=>by cases h),fun ad' e=> ?_,rfl,rfl,rfl,by simp,fun bl _=> ?_⟩
    ·injection e with e
     subst e
     refine⟨fun k u hk=> ?_,fun _=>⟨hsp,⟨_,_,hnew,by rw[hsize];exact harr⟩,.inr ⟨ad,n,c,rfl,hc0,rfl⟩⟩⟩
     rcases Nat.lt_or_ge k (n*sz)with h|h
     ·rw[hcells,List.append_assoc,List.getElem?_append_left (by omega),List.getElem?_take,if_pos (by omega),←hcold]
      rw[List.getElem?_append_left (by rw[hol];exact h)]at hk
      exact hcell ad rfl k u hk
     ·rw[hcells,List.append_assoc,List.getElem?_append_right (by omega),htl]
      rw[List.getElem?_append_right (by rw[hol];exact h),hol]at hk
      have hk2:k-n*sz<news.length:=by
       rcases Nat.lt_or_ge (k-n*sz) news.length with h|h
       ·exact h
       ·rw[List.getElem?_eq_none h]at hk;cases hk
      rw[List.getElem?_append_left (by omega)]
      rw[←hk];congr 1;omega
    ·by_cases e':bl=ad.block
     ·exact .inr ⟨⟨ad,n,c,rfl,hc0,e'.symm⟩,by rw[e'];exact⟨_,_,hnew⟩⟩
     ·exact .inl (setRow_other w ad.block bl _ e')
 ·have hzc:(Builtin.zeroCells z.cells (cap-(n+m))).size=(cap-(n+m))*sz:=by rw[size_zeroCells,hzs]
  have hsize:(olds.toArray++news.toArray++Builtin.zeroCells z.cells (cap-(n+m))).size=cap*sz:=by
   simp only[Array.size_append,List.size_toArray,hzc,hnl,hol]
   rw[←Nat.add_mul,←Nat.add_mul]
   congr 1;omega
  have hheap:(w.drew.alloc (.cells (olds.toArray++news.toArray++Builtin.zeroCells z.cells (cap-(n+m))) te)).heap[w.heap.size]?=some (.cells (olds.toArray++news.toArray++Builtin.zeroCells z.cells (cap-(n+m))) te (0,0)):=heap_alloc_new w.drew _
  have hframe: ∀b,b<w.heap.size→(w.drew.alloc (.cells (olds.toArray++news.toArray++Builtin.zeroCells z.cells (cap-(n+m))) te)).heap[b]?=w.heap[b]?:=fun b hb=>RowKit.Below.heap_alloc w.drew _ b hb
  refine⟨_,cap,_,hrun,hcap,(fun h=>by cases h),fun ad' e=> ?_,rfl,rfl,rfl,by simp,fun b hb=> .inl (hframe b hb)⟩
  injection e with e
  subst e
  refine⟨fun k u hk=> ?_,fun _=>⟨rfl,⟨_,_,hheap,by rw[hsize];simp⟩,.inl (Nat.le_refl _)⟩⟩
  rw[Addr.add_lit,Nat.zero_add,cell_of_row _ _ _ _ _ _ hheap]
  have hk2:k<(olds++news).length:=by
   rcases Nat.lt_or_ge k (olds++news).length with h|h
   ·exact h
   ·rw[List.getElem?_eq_none h]at hk;cases hk
  rw[Array.getElem?_append_left (by simpa using hk2)]
  simpa using hk
theorem pJ{V:World}{rw rw':Bool}{e:Ty}{xs:List (den e)}{H:Path→Value}(h:nM w rw e.size (fun x G rd=>Rep V rw' e x G 0 rd) xs H):
  ∃cells,j8 V rw' e xs (fun i f q=>H ((i,f)::q)) cells∧ ∀ad n c,H []= .slice (some ad) n c→ ∀k v,cells[k]?=some v→w.cell? (ad.add k)=some v:=by
 rcases h with⟨h0,rfl⟩|⟨ad,cap,h0,hle,hg,hx⟩
 ·exact⟨[],j8.nil _ _ _ _,fun ad n c e=>by rw[h0]at e;cases e⟩
 ·have hcell: ∀k,k<xs.length*e.size→ ∃v,w.cell? (ad.add k)=some v∧v.oneCell'=true:=by
   intro k hk
   have hpos:0<e.size:=by
    rcases Nat.eq_zero_or_pos e.size with h|h
    ·rw[h]at hk;simp at hk
    ·exact h
   have hi:k/e.size<xs.length:=(Nat.div_lt_iff_lt_mul hpos).2 hk
   obtain⟨v,h1,h2⟩:=oP e _ _ 0 _ (hx (k/e.size) _ (dP (d:=bm e) hi)) (k % e.size) (Nat.zero_le _) (by simpa using Nat.mod_lt k hpos)
   rw[Nat.mul_comm,Nat.div_add_mod]at h1
   exact⟨v,h1,h2⟩
  have hget: ∀k,k<xs.length*e.size→((List.range (xs.length*e.size)).map fun k=>(w.cell? (ad.add k)).getD Go.undef)[k]?=w.cell? (ad.add k):=by
   intro k hk
   obtain⟨v,h1,_⟩:=hcell k hk
   simp[hk,h1]
  refine⟨(List.range (xs.length*e.size)).map fun k=>(w.cell? (ad.add k)).getD Go.undef,⟨by simp,fun v hv=> ?_,fun i x hi=> ?_⟩,fun ad' n c e' k v hk=> ?_⟩
  ·obtain⟨k,hk,rfl⟩:=List.mem_map.1 hv
   obtain⟨v,h1,h2⟩:=hcell k (List.mem_range.1 hk)
   rw[h1];exact h2
  ·have hil:i<xs.length:=by
    rcases Nat.lt_or_ge i xs.length with h|h
    ·exact h
    ·rw[List.getElem?_eq_none h]at hi;cases hi
   refine dR e x _ 0 _ _ (fun b _=>rfl) (fun f _ hf=> ?_) (hx i x hi)
   have:(i+1)*e.size≤xs.length*e.size:=Nat.mul_le_mul_right _ hil
   rw[Nat.add_mul]at this
   exact hget _ (by omega)
  ·rw[h0]at e';injection e' with e';injection e' with e';subst e'
   have hlt:k<xs.length*e.size:=by
    rcases Nat.lt_or_ge k ((List.range (xs.length*e.size)).map fun k=>(w.cell? (ad.add k)).getD Go.undef).length with h|h
    ·simpa using h
    ·rw[List.getElem?_eq_none h]at hk;cases hk
   rw[hget k hlt]at hk;exact hk
theorem j8.ext{V V':World}(h: ∀(a:Addr) (v:Value),V.cell? a=some v→V'.cell? a=some v){e:Ty}{xs:List (den e)}{G:Nat→Nat→Path→Value}{cells:List Value}(k:j8 V false e xs G cells):j8 V' false e xs G cells:=
 ⟨k.len,k.one,fun i x hi=>ny h _ _ _ _ _ _ (fun _ _ h=>h) (k.rep i x hi)⟩
theorem Hj{r:World}{e:Ty}{xs zs:List (den e)}{H Hx:Path→Value}{S S2:Nat→Prop}{t u ty te:TypeId}{i:TypeInfo}{z:Value}
  (hu:P.underlying t=some (.slice te)) (hu2:kV P u) (hi:P.info? te=some i) (hz:i.zero=some z) (hsz:i.size=e.size) (hby:i.bytes≤128) (hzs:z.cells.size=e.size)
  (h:qb r w e xs H S) (hS2: ∀b,S2 b→ ∃arr te,w.heap[b]?=some (.cells arr te (0,0))) (hd: ∀b,S2 b→ ¬S b) (hr: ∀b,Rds r b→ ¬S b)
  (hsrc:aS (pq r w S2) false e zs Hx) (hlim:xs.length+zs.length≤lim):
  ∃w' H' S',(Builtin.append_ #[t,u] ty #[H [],Hx []]).run P w= .ok (H' []) w'∧(∃b n c,H' []= .slice b n c)∧qb r w' e (xs++zs) H' S'∧(∀b,S' b→w.heap.size≤b∨S b∨S2 b)∧
   (w'.os=w.os∧w'.tape=w.tape∧w'.output=w.output∧w.heap.size≤w'.heap.size∧ ∀bl,bl<w.heap.size→w'.heap[bl]?=w.heap[bl]?∨S bl):=by
 obtain⟨h1,h2,h3⟩:=h
 obtain⟨olds,el,hoc⟩:=pJ h3
 obtain⟨news,nl,hnc'⟩:=pJ (V:=pq r w S2) hsrc
 have hval: ∃b c,H []= .slice b xs.length c∧xs.length≤c∧(b=none→xs.length=0∧c=0)∧ ∀ad,b=some ad→c≠0→ad.spot=none∧ ∃arr te,w.heap[ad.block]?=some (.cells arr te (0,0))∧ad.off+c*e.size≤arr.size:=by
  rcases h3 with⟨k0,k1⟩|⟨ad,cap,k0,k1,k2,_⟩
  ·subst k1;exact⟨none,0,k0,Nat.le_refl _,fun _=>⟨rfl,rfl⟩,fun ad h=>by cases h⟩
  ·exact⟨some ad,cap,k0,k1,(fun h=>by cases h),fun ad' e' hc=>by injection e' with e';subst e';exact k2 rfl hc⟩
 obtain⟨b,c,hH,hxc,hbn,hroom⟩:=hval
 have hx2:(Hx []= .slice none 0 0∧zs.length=0)∨ ∃ad c,Hx []= .slice (some ad) zs.length c:=by
  rcases hsrc with⟨k0,k1⟩|⟨ad,cap,k0,_⟩
  ·exact .inl ⟨k0,by rw[k1];rfl⟩
  ·exact .inr ⟨ad,cap,k0⟩
 have hlenx:(Builtin.lenOf (Hx [])).run P w= .ok zs.length w:=by
  rcases hx2 with⟨k0,k1⟩|⟨ad,c,k0⟩
  ·rw[k0,k1];simp[Builtin.lenOf]
  ·rw[k0];simp[Builtin.lenOf]
 obtain⟨b',c',w',m1,m2,m3,m4,m5⟩:=Gh (ty:=ty) (x:=Hx []) hu hu2 hi hz hsz hby hzs el.len nl.len nl.one hxc hbn (fun ad e' k u hk=>hoc ad _ c (by rw[hH,e']) k u hk) hroom hlenx
  (fun w2 hw2=>oW nl.len hx2 fun ad n c e' k u hk=>by rw[hw2];exact(iZ (hnc' ad n c e' k u hk)).1) hlim
 rw[←hH]at m1 m4 m5
 have hvS: ∀bl,jT (H []) bl→S bl:=h2
 have hb': ∀bl,jT (.slice b' (xs.length+zs.length) c') bl→w.heap.size≤bl∨jT (H []) bl:=by
  rintro bl ⟨ad,n,c2,e',hc,rfl⟩
  injection e' with e1 e2 e3
  subst e3
  exact((m4 ad e1).2 hc).2.2
 have hlt: ∀bl,(∃arr te,w.heap[bl]?=some (.cells arr te (0,0)))→bl<w.heap.size:=fun bl ⟨arr,te,h⟩=>(Array.getElem?_eq_some_iff.1 h).1
 have hstay: ∀bl,bl<w.heap.size→ ¬jT (H []) bl→w'.heap[bl]?=w.heap[bl]?:=fun bl h k=>(m5.2.2.2.2 bl h).resolve_right fun h=>k h.1
 have see: ∀{T:Nat→Prop},(∀bl,T bl→(∃arr te,w.heap[bl]?=some (.cells arr te (0,0)))∧ ¬jT (H []) bl∧(S bl∨S2 bl))→ ∀(a:Addr) (v:Value),(pq r w T).cell? a=some v→
   (pq r w' fun bl=>(S bl∨S2 bl∨jT (.slice b' (xs.length+zs.length) c') bl)∧ ¬jT (.slice b' (xs.length+zs.length) c') bl).cell? a=some v:=by
  intro T hT a v hv
  obtain⟨k1,k2⟩:=iZ hv
  have hl:a.block<w.heap.size:=World.block_lt_of_cell? w a k1
  have hnv: ¬jT (H []) a.block:=by
   rcases k2 with k2|k2
   ·exact fun h=>hr _ k2 (hvS _ h)
   ·exact(hT _ k2).2.1
  refine jx ((gp (hstay _ hl hnv)).trans k1) (k2.imp id fun k2=>⟨(hT _ k2).2.2.imp id fun h=> .inl h,fun h=> ?_⟩)
  rcases hb' _ h with h|h
  ·omega
  ·exact hnv h
 have el':=el.ext (see fun bl h=>⟨h1 bl h.1,h.2,.inl h.1⟩)
 have nl':=nl.ext (see fun bl h=>⟨hS2 bl h,fun hv=>hd bl h (hvS bl hv),.inr h⟩)
 have hj:=el'.join nl'
 have hll:(xs++zs).length=xs.length+zs.length:=List.length_append
 refine⟨w',tO (.slice b' (xs.length+zs.length) c') (lS xs.length (fun i f q=>H ((i,f)::q)) fun i f q=>Hx ((i,f)::q)),fun bl=>S bl∨S2 bl∨jT (.slice b' (xs.length+zs.length) c') bl,m1,⟨_,_,_,rfl⟩,⟨fun bl hb=> ?_,fun bl hb=> .inr (.inr hb),?_⟩,fun bl hb=> ?_,m5.1,m5.2.1,m5.2.2.1,m5.2.2.2.1,fun bl h=>(m5.2.2.2.2 bl h).imp id fun h=>hvS bl h.1⟩
 ·have old:(∃arr te,w.heap[bl]?=some (.cells arr te (0,0)))→ ∃arr te,w'.heap[bl]?=some (.cells arr te (0,0)):=fun h=>by
   rcases m5.2.2.2.2 bl (hlt bl h)with k|k
   ·rw[k];exact h
   ·exact k.2
  rcases hb with hb|hb|hb
  ·exact old (h1 bl hb)
  ·exact old (hS2 bl hb)
  ·obtain⟨ad,n,c2,e',hc,rfl⟩:=hb
   injection e' with e1 e2 e3
   subst e3
   obtain⟨_,⟨arr,te,k,_⟩,_⟩:=(m4 ad e1).2 hc
   exact⟨arr,te,k⟩
 ·cases b' with
  |none=>
   obtain⟨k1,k2⟩:=m3 rfl
   subst k2
   have:xs++zs= []:=List.length_eq_zero_iff.1 (by rw[hll];exact k1)
   rw[this]
   exact .inl ⟨by show Value.slice none _ 0=_;rw[k1],rfl⟩
  |some ad=>
   obtain⟨k1,k2⟩:=m4 ad rfl
   refine .inr ⟨ad,c',by rw[hll];rfl,by rw[hll];exact m2,fun _ hc=>⟨(k2 hc).1,(k2 hc).2.1⟩,fun i x hi=> ?_⟩
   exact ny (fun _ _ h=>h) _ _ _ _ _ _ (fun k v hk=>k1 _ v hk) (hj.rep i x hi)
 ·rcases hb with hb|hb|hb
  ·exact .inr (.inl hb)
  ·exact .inr (.inr hb)
  ·exact(hb' bl hb).imp id fun h=> .inl (hvS bl h)
theorem Cr{r:World}{S:Nat→Prop}: ∀(t:Ty) (d:den t) (G:Nat→Path→Value) (f:Nat) (rd:Nat→Option Value),(∀b,Blk t d G f b→S b)→Rep w true t d G f rd→Rep (pq r w S) false t d G f rd:=by
 intro t
 induction t with
 |int k=>intro d G f rd _ h;exact h
 |bool=>intro d G f rd _ h;exact h
 |str=>intro d G f rd _ h;exact h
 |unit=>intro d G f rd _ _;trivial
 |pair a b iha ihb=>intro d G f rd hb h;exact⟨iha _ _ _ _ (fun b h=>hb b (.inl h)) h.1,ihb _ _ _ _ (fun b h=>hb b (.inr h)) h.2⟩
 |sl e ih=>
  intro d G f rd hb h
  refine⟨h.1,?_⟩
  rcases h.2 with h1|⟨a,cap,h0,hle,_,hx⟩
  ·exact .inl h1
  ·refine .inr ⟨a,cap,h0,hle,(fun h=>by cases h),fun i x hi=> ?_⟩
   refine ny (fun _ _ h=>h) _ _ _ _ _ _ (fun k v hk=> ?_) (ih _ _ _ _ (fun b h=>hb b (.inr ⟨i,x,hi,h⟩)) (hx i x hi))
   exact jx hk (.inr (by rw[dS];exact hb _ (.inl ⟨a,_,cap,h0,Es hi hle,rfl⟩)))
theorem Gl{r:World}{S:Nat→Prop}{t:Ty}{xs:List (den t)}{H:Path→Value}(hb: ∀b,aD t xs H b→S b)(h:aS w true t xs H):aS (pq r w S) false t xs H:=
 (Cr (.sl t) xs (fun _=>H) 0 (fun _=>some (H [])) hb ⟨rfl,h⟩).2
theorem DV{r:World}{t:Ty}{xs:List (den t)}{H:Path→Value}(h:aS w true t xs H)(hs:bD t xs H):qb r w t xs H (aD t xs H):=by
 refine⟨fun b hb=> ?_,fun b hb=>lg hb,?_⟩
 ·exact CL (.sl t) xs (fun _=>H) 0 (fun _=>some (H [])) ⟨rfl,h⟩ b hb
 ·rcases h with h1|⟨a,cap,h0,hle,hg,hx⟩
  ·exact .inl h1
  ·refine .inr ⟨a,cap,h0,hle,hg,fun i x hi=>Cr _ _ _ _ _ (fun b hb=>⟨.inr ⟨i,x,hi,hb⟩,fun⟨ad,n,c,e,hc,k⟩=> ?_⟩) (hx i x hi)⟩
   subst k
   exact hs.1 ad n c i x e hc hi hb
theorem qb.see{r:World}{t:Ty}{xs:List (den t)}{H:Path→Value}{S:Nat→Prop}(h:qb r w t xs H S):aS (pq r w S) false t xs H:=by
 rcases h.2.2 with h1|⟨a,cap,h0,hle,_,hx⟩
 ·exact .inl h1
 ·refine .inr ⟨a,cap,h0,hle,(fun h=>by cases h),fun i x hi=> ?_⟩
  refine ny (fun b v hb=> ?_) _ _ _ _ _ _ (fun k v hk=> ?_) (hx i x hi)
  ·obtain⟨k1,k2⟩:=iZ hb
   exact jx k1 (k2.imp id fun h=>h.1)
  ·exact jx hk (.inr (by rw[dS];exact h.2.1 _ ⟨a,_,cap,h0,Es hi hle,rfl⟩))
theorem DP(R:Rel w0 st g born acts w){e:Ty}{x:AV}{v:Value}{ok:List Tst}{zs:List (den e)}{l:List Nat}(hx:ae st.get g x v)(h:uV e x st.get=(ok,zs,l))(hok:aN ok):
  ∃Hx:Path→Value,Hx []=v∧aS (pq w0.w w fun b=> ∃r∈l,Own st.get g r b) false e zs Hx:=by
 unfold uV at h
 split at h
 rotate_left
 ·simp only[Prod.mk.injEq]at h;obtain⟨rfl,_⟩:=h;exact(ay hok).elim
 next r p sub=>
 have hr:=R.roots r
 unfold aF at hr
 rw[ae]at hx
 obtain⟨_,hx⟩:=hx
 generalize hrd:bp st.get (.sl e) [.sl r p sub]=rd at h
 obtain⟨ok1,zs1,rest1⟩:=rd
 simp only at h
 unfold bp at hrd
 simp only at hrd
 have key: ∀(t:Ty) (xs:List (den t)) (l:List Nat),bI (st.get r)=some t→aS (pq w0.w w fun b=> ∃r∈l,Own st.get g r b) false t xs (g r).H→
   (match rowAt t xs p with
    |(ok,⟨e',ys⟩)=>match decEq e' e with
     | .isTrue h=>(ok,dJ sub (ly h ys),([]:List AV))
     | .isFalse _=>([.s false],([]:List (den e)),[]))=(ok1,zs1,rest1)→aN ok1→ ∃Hx:Path→Value,Hx []=v∧aS (pq w0.w w fun b=> ∃r∈l,Own st.get g r b) false e zs1 Hx:=by
  intro t xs l ht hrow h hok
  generalize hra:rowAt t xs p=ra at h
  obtain⟨ok2,e',ys⟩:=ra
  simp only at h
  split at h
  ·next he _=>
   subst he
   simp only[eC,Prod.mk.injEq]at h
   obtain⟨rfl,rfl,_⟩:=h
   obtain⟨k1,k2,_,_⟩:=gH p t xs (g r).H ok2 e' ys hra hok hrow
   exact⟨nj sub v fun q=>(g r).H (p++q),rfl,il k1 (by simpa using hx t e' ht k2)⟩
  ·simp only[Prod.mk.injEq]at h;obtain⟨rfl,_⟩:=h;exact(ay hok).elim
 cases hg:st.get r with
 |row rw_ t xs=>
  rw[hg]at h hr
  rw[show sliceAt st.get r p=rowAt t xs p by unfold sliceAt;rw[hg]]at hrd
  cases rw_ with
  |true=>
   simp only[Prod.mk.injEq]at h
   obtain⟨rfl,rfl,rfl⟩:=h
   exact key t xs [r] (by rw[hg];rfl) (Gl (fun b hb=>⟨r,List.mem_singleton.2 rfl,by unfold Own;rw[hg];exact hb⟩) hr.1) hrd hok
  |false=>
   simp only[Prod.mk.injEq]at h
   obtain⟨rfl,rfl,rfl⟩:=h
   exact key t xs [] (by rw[hg];rfl) (lC (fun a v hv=>jx (cJ R.below a v hv) (.inl ⟨a,v,rfl,hv⟩)) hr) hrd hok
 |sh t xs=>
  rw[hg]at h hr
  rw[show sliceAt st.get r p=rowAt t xs p by unfold sliceAt;rw[hg]]at hrd
  simp only[Prod.mk.injEq]at h
  obtain⟨rfl,rfl,rfl⟩:=h
  refine key t xs [r] (by rw[hg];rfl) (lC (fun a v hv=> ?_) hr.see) hrd hok
  obtain⟨k1,k2⟩:=iZ hv
  exact jx k1 (k2.imp id fun h=>⟨r,List.mem_singleton.2 rfl,by unfold Own;rw[hg];exact h⟩)
 |dead=>rw[hg]at h;simp only[Prod.mk.injEq]at h;obtain⟨rfl,_⟩:=h;exact(ay hok).elim
 |var cs=>rw[hg]at h;simp only[Prod.mk.injEq]at h;obtain⟨rfl,_⟩:=h;exact(ay hok).elim
 |half t xs=>rw[hg]at h;simp only[Prod.mk.injEq]at h;obtain⟨rfl,_⟩:=h;exact(ay hok).elim
 |pend r' q t xs=>rw[hg]at h;simp only[Prod.mk.injEq]at h;obtain⟨rfl,_⟩:=h;exact(ay hok).elim
theorem Dk(R:Rel w0 st g born acts w){e:Ty}{s x:AV}{v:Value}{r:Nat}{ys:List (den e)}(hs:ae st.get g s v)(h:uw e s x st.get=some (r,ys)):
  (g r).H []=v∧qb w0.w w e ys (g r).H (Own st.get g r):=by
 unfold uw at h
 split at h
 rotate_left
 ·cases h
 next r1=>
 have hr:=R.roots r1
 unfold aF at hr
 rw[ae]at hs
 obtain⟨_,hs⟩:=hs
 split at h
 ·next t xs hg=>
  rw[hg]at hr
  split at h
  ·next he _=>
   subst he
   simp only[eC,Option.some.injEq,Prod.mk.injEq]at h
   obtain⟨rfl,rfl⟩:=h
   refine⟨(hs t t (by rw[hg];rfl) rfl).symm,?_⟩
   have:Own st.get g r1=(g r1).S:=by funext b;unfold Own;rw[hg]
   rw[this];exact hr
  ·cases h
 ·next t xs hg=>
  rw[hg]at hr
  cases hsh:shared st.get x with
  |false=>rw[hsh]at h;cases h
  |true=>
   rw[hsh]at h
   simp only[cond_true]at h
   split at h
   ·next he _=>
    subst he
    simp only[eC,Option.some.injEq,Prod.mk.injEq]at h
    obtain⟨rfl,rfl⟩:=h
    refine⟨(hs t t (by rw[hg];rfl) rfl).symm,?_⟩
    have:Own st.get g r1=aD t xs (g r1).H:=by funext b;unfold Own;rw[hg]
    rw[this];exact DV hr.1 hr.2
   ·cases h
 ·cases h
theorem GN{t u ty:TypeId}{e:Ty}{r:Nat}{ys:List (den e)}{sv xv:AV}{s x:Operand}(hrun: ∀r w',(Builtin.append_ #[t,u] ty #[a.eval s,a.eval x]).run P w= .ok r w'→(execOp a.eval o).run P w= .ok (.value r) w')
  (R:Rel w0 st g born (a::asx) w) (hs:ae st.get g sv (a.eval s)) (hx:ae st.get g xv (a.eval x)) (hu2:kV P u) (hd:uw e sv xv st.get=some (r,ys))
  (hok:aN (u3 P t e r ys xv st.get base).ok) (hfr: ∀i,base≤i→i∈(u3 P t e r ys xv st.get base).upd.map (·.1)→ ¬born i) (hq:a8 st.rs (u3 P t e r ys xv st.get base).quiet=true):
  cu P o a.eval w (dU w0 st born (a::asx) (u3 P t e r ys xv st.get base)):=by
 revert hfr hq
 unfold u3 at hok⊢
 generalize hsrc:uV e xv st.get=src at hok
 obtain⟨ok,zs,l⟩:=src
 simp only at hok⊢
 intro hfr hq
 obtain⟨h0,h1⟩:=af.1 hok
 obtain⟨h2,h1⟩:=af.1 h1
 obtain⟨h1,h3⟩:=aq.1 h1
 have h3:(ys++zs).length≤lim:=of_decide_eq_true (show decide ((ys++zs).length≤lim)=true from(af.1 h3).1)
 have hrl:r∉l:=by
  have:(!l.contains r)=true:=h2
  simpa using this
 obtain⟨et',i,z,hu,_,hinf,hsz,hby,hz,hzi,hpos,hce,hzs⟩:=cd h0
 obtain⟨Hx,hHx,hsr⟩:=DP R hx hsrc h1
 obtain⟨hH,hsh⟩:=Dk R hs hd
 obtain⟨w',H',S',k1,k2,k3,k4,k5⟩:=Hj (ty:=ty) hu hu2 hinf hz hsz hby hzs hsh (fun b ⟨r',_,h⟩=>CD R h) (fun b ⟨r',hr',h⟩ h'=>R.sep r' r b (fun e=>hrl (e▸hr')) h h') (fun b hb h=>R.low r b h (bu.rds hb)) hsr (by simpa using h3)
 rw[hH,hHx]at k1
 have hget:=we (r::l) base (.sh e (ys++zs)) st
 have hgi:(st.aH (cH (r::l)++ [(base,.sh e (ys++zs))])).get base= .sh e (ys++zs):=by rw[hget];simp
 have R':=AU (st':=st.aH (cH (r::l)++ [(base,.sh e (ys++zs))])) (i:=base) (inf:=⟨0,H',S'⟩) (w':=w') R (r::l) (dI hq fun r hr=>List.mem_map.2 ⟨r,hr,rfl⟩) (hfr base (Nat.le_refl _) (by simp)) rfl hget
  (re ⟨k5.1,k5.2.1,k5.2.2.1,k5.2.2.2.1,fun b hb=>(k5.2.2.2.2 b hb).imp id fun h=>⟨b,rfl,R.low r b h,ib R h⟩⟩ R.below.size)
  (fun b hb=>(k5.2.2.2.2 b hb).imp id fun h=>⟨r,List.mem_cons_self,h⟩)
  (by unfold aF;rw[hgi];simp only[bU];exact k3)
  (fun b h=>by
   unfold Own at h;rw[hgi]at h;simp only[bU]at h
   rcases k4 b h with h|h|⟨r',hr',h⟩
   ·exact .inl h
   ·exact .inr ⟨r,List.mem_cons_self,h⟩
   ·exact .inr ⟨r',List.mem_cons_of_mem _ hr',h⟩) (fun r hr=>by simp[ak.roots]at hr)
 refine cu.value (hrun _ _ k1) ⟨_,_,R',?_,fun r hr=> ?_,fun r hr=>hr.imp id fun e=> ?_,fun r hr=> .inl hr⟩
 ·show ae _ _ (.sl base [] none) _
  rw[ae]
  refine⟨k2,fun t e' _ _=> ?_⟩
  show H' []=(dK g base ⟨0,H',S'⟩ base).H []
  rw[bU]
 ·simp only[AV.roots,List.mem_singleton]at hr;exact .inr hr
 ·subst e;simp
theorem wo{t u ty:TypeId}{sv xv:AV}{s x:Operand}(hrun: ∀r w',(Builtin.append_ #[t,u] ty #[a.eval s,a.eval x]).run P w= .ok r w'→(execOp a.eval o).run P w= .ok (.value r) w')
  (R:Rel w0 st g born (a::asx) w) (hs:ae st.get g sv (a.eval s)) (hx:ae st.get g xv (a.eval x)) (hu2:kV P u)
  (hok:aN (fS P t sv xv st.get base).ok) (hfr: ∀i,base≤i→i∈(fS P t sv xv st.get base).upd.map (·.1)→ ¬born i) (hq:a8 st.rs (fS P t sv xv st.get base).quiet=true):
  cu P o a.eval w (dU w0 st born (a::asx) (fS P t sv xv st.get base)):=by
 revert hfr hq
 unfold fS at hok⊢
 split at hok
 ·next e r ys hc=>
  intro hfr hq
  refine GN hrun R hs hx hu2 ?_ hok hfr hq
  unfold wj at hc
  split at hc
  ·split at hc
   ·next agg e' hty=>
    cases hfl:e'.flat with
    |true=>rw[hfl]at hc;cases hc
    |false=>
     rw[hfl]at hc
     simp only[cond_false]at hc
     split at hc
     ·next r' ys' hd=>
      simp only[Option.some.injEq,Sigma.mk.injEq]at hc
      obtain⟨rfl,hc⟩:=hc
      obtain⟨rfl,rfl⟩:=Prod.mk.inj (eq_of_heq hc)
      exact hd
     ·cases hc
   ·cases hc
  ·cases hc
 ·intro hfr hq
  exact u4 hrun R hs hx hu2 hok hfr hq
end
end Go.Am
end
section
/- Soundness: stores into rows. -/
namespace Go.Am
noncomputable section
attribute [local instance] D.real
section
variable {P : Program} {w0 : bu} {w w' : World} {st st' : St} {g g' : aB} {born : Nat → Prop} {a : Act} {asx acts : List Act} {o : Oper} {base : Nat}
theorem ri: ∀(p:Path) (i f:Nat) (N H:Path→Value),cR (p++ [(i,f)]) N H=cR p (cR [(i,f)] N (fun q=>H (p++q))) H
 | [],i,f,N,H=>rfl
 |(j,k)::p,i,f,N,H=>by
  funext q
  cases q with
  |nil=>rfl
  |cons x q=>
   obtain⟨j',k'⟩:=x
   show(if j'=j∧k'=k then cR (p++ [(i,f)]) N (fun q=>H ((j,k)::q)) q else H ((j',k')::q))=_
   rw[ri p i f N]
   rfl
theorem D0{s j k i f:Nat}(hk:k<s)(hf:f<s)(h:j*s+k=i*s+f):j=i∧k=f:=by
 rcases Nat.lt_trichotomy j i with h1|h1|h1
 ·have:(j+1)*s≤i*s:=Nat.mul_le_mul_right _ h1
  rw[Nat.add_mul]at this;omega
 ·subst h1;exact⟨rfl,by omega⟩
 ·have:(i+1)*s≤j*s:=Nat.mul_le_mul_right _ h1
  rw[Nat.add_mul]at this;omega
theorem rC{t e:Ty}{xs:List (den t)}{ys:List (den e)}{H N:Path→Value}{p:Path}{ok:List Tst}{i f n cap:Nat}{ad:Addr}{v:Value}{G:(c:Ty)→den c→den c}
  (hr:aS w true t xs H) (hs:bD t xs H) (hrow:rowAt t xs p=(ok,⟨e,ys⟩)) (hok:aN ok) (hi:i<ys.length) (hf:f<e.size) (had:H p= .slice (some ad) n cap)
  (hcell:Rep (w.setCell (ad.add (i*e.size+f)) v) true (cellAt e (ys.getD i (bm e)) f).1 (G (cellAt e (ys.getD i (bm e)) f).1 (cellAt e (ys.getD i (bm e)) f).2) (atI (cR [(i,f)] N (fun q=>H (p++q))) i) (0+f)
   (fun k=>(w.setCell (ad.add (i*e.size+f)) v).cell? (ad.add (i*e.size+k))))
  (hsepc:Sep (cellAt e (ys.getD i (bm e)) f).1 (G (cellAt e (ys.getD i (bm e)) f).1 (cellAt e (ys.getD i (bm e)) f).2) (atI (cR [(i,f)] N (fun q=>H (p++q))) i) (0+f))
  (hblkc: ∀b,lA e (ys.getD i (bm e)) f G (atI (cR [(i,f)] N (fun q=>H (p++q))) i) 0 b→lB e (ys.getD i (bm e)) f (atI (fun q=>H (p++q)) i) 0 b∨ ¬aD t xs H b):
  aS (w.setCell (ad.add (i*e.size+f)) v) true t (ir t xs p (fun e zs=>zs.set i (bz e (zs.getD i (bm e)) f G))) (cR (p++ [(i,f)]) N H)∧
  bD t (ir t xs p (fun e zs=>zs.set i (bz e (zs.getD i (bm e)) f G))) (cR (p++ [(i,f)]) N H)∧
  ∀b,aD t (ir t xs p (fun e zs=>zs.set i (bz e (zs.getD i (bm e)) f G))) (cR (p++ [(i,f)]) N H) b→aD t xs H b∨lA e (ys.getD i (bm e)) f G (atI (cR [(i,f)] N (fun q=>H (p++q))) i) 0 b:=by
 obtain⟨c1,c2,c3,c4⟩:=gH p t xs H ok e ys hrow hok hr
 have c4:=c4 hs
 have hget:ys[i]?=some (ys.getD i (bm e)):=dP hi
 rw[ri]
 have had0:(fun q=>H (p++q)) []= .slice (some ad) n cap:=by simpa using had
 obtain⟨hcap,hsp,arr,te,hheap,harr⟩:cap≠0∧ad.spot=none∧ ∃arr te,w.heap[ad.block]?=some (.cells arr te (0,0))∧ad.off+cap*e.size≤arr.size:=by
  rcases c1 with⟨h0,h1⟩|⟨ad',cap',h0,hle,hbk,_⟩
  ·rw[h1]at hi;simp at hi
  ·rw[had0]at h0
   injection h0 with h0 h0' h0''
   injection h0 with h0
   subst h0;subst h0''
   have hc:cap≠0:=by omega
   exact⟨hc,(hbk rfl hc).1,(hbk rfl hc).2⟩
 have hadd: ∀k,ad.add k=⟨ad.block,ad.off+k,none⟩:=by
  intro k
  have:ad=⟨ad.block,ad.off,none⟩:=by cases ad;simp only at hsp;subst hsp;rfl
  rw[this,Addr.add_lit]
 have hnew:(w.setCell (ad.add (i*e.size+f)) v).heap[ad.block]?=some (.cells (arr.setIfInBounds (ad.off+(i*e.size+f)) v) te (0,0)):=by
  rw[hadd];exact heap_setCell_same w ad.block _ arr te v hheap
 have hoth: ∀b,b≠ad.block→(w.setCell (ad.add (i*e.size+f)) v).heap[b]?=w.heap[b]?:=fun b hb=>by
  rw[hadd];exact heap_setCell_other w _ b v hb
 have hH: ∀j k q,(j,k)≠(i,f)→cR [(i,f)] N (fun q=>H (p++q)) ((j,k)::q)=(fun q=>H (p++q)) ((j,k)::q):=by
  intro j k q hne
  show(if j=i∧k=f then N q else H (p++(j,k)::q))=_
  rw[if_neg (fun e=>hne (by rw[e.1,e.2]))]
 have hcells: ∀j k,j<ys.length→k<e.size→(j,k)≠(i,f)→(w.setCell (ad.add (i*e.size+f)) v).cell? (ad.add (j*e.size+k))=w.cell? (ad.add (j*e.size+k)):=by
  intro j k _ hk hne
  refine World.cell?_setCell_other w _ _ v fun e'=>hne ?_
  rw[hadd,hadd]at e'
  injection e' with _ e' _
  obtain⟨h1,h2⟩:=D0 hf hk (show i*e.size+f=j*e.size+k by omega)
  rw[h1,h2]
 have hchild: ∀b j x,ys[j]?=some x→Blk e x (atI (fun q=>H (p++q)) j) 0 b→(w.setCell (ad.add (i*e.size+f)) v).heap[b]?=w.heap[b]?:=by
  intro b j x hj hb
  exact hoth b fun e'=>by subst e';exact c4.1 ad n cap j x had0 hcap hj hb
 have M:=zn (w:=w) (w':=w.setCell (ad.add (i*e.size+f)) v) (rw:=true) (H:=fun q=>H (p++q)) (H':=cR [(i,f)] N (fun q=>H (p++q))) (g:=G) hi hf c1 c4 rfl hH
  (fun a n' c' h0=>by
   have h0:H (p++ [])= .slice (some a) n' c':=h0
   rw[List.append_nil,had]at h0
   injection h0 with h0 _ _
   injection h0 with h0
   subst h0
   exact⟨hcells,fun _ arr2 te2 h2=>by
    rw[hheap]at h2
    injection h2 with h2
    injection h2 with h2 h2' _
    subst h2;subst h2'
    exact⟨_,hnew,by simp⟩⟩)
  (fun b j x hj hb _=>hchild b j x hj hb)
  (fun a n' c' h0=>by
   have h0:H (p++ [])= .slice (some a) n' c':=h0
   rw[List.append_nil,had]at h0
   injection h0 with h0 _ _
   injection h0 with h0
   subst h0
   exact hcell)
 have hin: ∀b,aD e ys (fun q=>H (p++q)) b→aD t xs H b:=c3
 have S:=Aj (H:=fun q=>H (p++q)) (H':=cR [(i,f)] N (fun q=>H (p++q))) (g:=G) hi hf c4 rfl hH hsepc (fun b hb=>(hblkc b hb).imp id fun h h'=>h (hin b h'))
 have hB0: ∀b,aD e (ys.set i (bz e (ys.getD i (bm e)) f G)) (cR [(i,f)] N (fun q=>H (p++q))) b→lA e (ys.getD i (bm e)) f G (atI (cR [(i,f)] N (fun q=>H (p++q))) i) 0 b∨(aD e ys (fun q=>H (p++q)) b∧ ¬lB e (ys.getD i (bm e)) f (atI (fun q=>H (p++q)) i) 0 b):=
  fun b hb=>AI (H:=fun q=>H (p++q)) (g:=G) hi hf c4 rfl hH hb
 obtain⟨m1,m2,m3⟩:=As (w:=w) (w':=w.setCell (ad.add (i*e.size+f)) v) (rw:=true) (fun e zs=>zs.set i (bz e (zs.getD i (bm e)) f G)) p t xs H ok e ys (cR [(i,f)] N (fun q=>H (p++q))) hrow hok hr hs (by show H (p++ [])=H p;simp) M S
  (fun b hb hnb=>hoth b fun e'=>hnb (by subst e';exact .inl ⟨ad,n,cap,had0,hcap,rfl⟩))
  (fun b hb=>by
   rcases hB0 b hb with h|h
   ·rcases hblkc b h with h'|h'
    ·exact .inl (.inr ⟨i,_,hget,bG e _ _ 0 f b hf h'⟩)
    ·exact .inr h'
   ·exact .inl h.1)
 refine⟨m1,m2,fun b hb=> ?_⟩
 rcases m3 b hb with h|h
 ·rcases hB0 b h with h|h
  ·exact .inr h
  ·exact .inl (hin b h.1)
 ·exact .inl h.1
def GL(x:ak):Option (Nat×Nat)→ak
 |none=>x
 |some (r0,n)=>x.cut r0 n
def HO(fr:List (List AV)):Option (Nat×Nat)→List (List AV)
 |none=>fr
 |some (r0,n)=>fr.map (AV.gl r0 n)
theorem si(R:Rel w0 st g born acts w){r:Nat}{t:Ty}{xs xs':List (den t)}{p:Path}{i f:Nat}{N:Path→Value}{l:List Nat}{cut:Option (Nat×Nat)}{ad:Addr}{v:Value}
  (hg:st.get r= .row true t xs) (hrl:r∉l) (hq: ∀j r' p t xs,st.get j= .pend r' p t xs→(r'=r→j∈l)∧ ∀x∈l,r'≠x)
  (hfr:st'.fr=HO st.fr cut)
  (hget: ∀x,st'.get x=if x=r then .row true t xs' else if x∈l then .dead else GL (st.get x) cut)
  (hcut:(cut=none∧cR (p++ [(i,f)]) N (g r).H=(g r).H)∨cut=some (r,p.length+1))
  (hadb:aD t xs (g r).H ad.block) (hadd:ad.spot=none)
  (h1:aS (w.setCell ad v) true t xs' (cR (p++ [(i,f)]) N (g r).H)) (h2:bD t xs' (cR (p++ [(i,f)]) N (g r).H))
  (h3: ∀b,aD t xs' (cR (p++ [(i,f)]) N (g r).H) b→aD t xs (g r).H b∨ ∃x∈l,Own st.get g x b):
  Rel w0 st' (dK g r ⟨(g r).b,cR (p++ [(i,f)]) N (g r).H,(g r).S⟩) born acts (w.setCell ad v):=by
 have hownR: ∀b,Own st.get g r b↔aD t xs (g r).H b:=fun b=>by unfold Own;rw[hg]
 have hrb:born r:=R.alive r (by rw[hg];simp)
 have hlow: ¬w0.dh ad.block:=R.low r _ ((hownR _).2 hadb)
 have hoth: ∀b,b≠ad.block→(w.setCell ad v).heap[b]?=w.heap[b]?:=fun b hb=>heap_setCell_other w ad b v hb
 have hbel:bL w0 w (w.setCell ad v):=(bL.refl _ _).setCell hlow v
 have hgr:st'.get r= .row true t xs':=by rw[hget];simp
 have hdead: ∀x,x∈l→st'.get x= .dead:=fun x hx=>by rw[hget,if_neg (fun e:x=r=>hrl (e▸hx)),if_pos hx]
 have hsg:dK g r ⟨(g r).b,cR (p++ [(i,f)]) N (g r).H,(g r).S⟩ r=⟨(g r).b,cR (p++ [(i,f)]) N (g r).H,(g r).S⟩:=bU _ _ _
 have hOwn': ∀b,Own st'.get (dK g r ⟨(g r).b,cR (p++ [(i,f)]) N (g r).H,(g r).S⟩) r b→aD t xs' (cR (p++ [(i,f)]) N (g r).H) b:=by
  intro b h
  unfold Own at h
  rw[hgr]at h
  simp only[hsg]at h
  exact h
 have hRoot:aF w0 (w.setCell ad v) st'.get (dK g r ⟨(g r).b,cR (p++ [(i,f)]) N (g r).H,(g r).S⟩) r:=by
  unfold aF;rw[hgr];simp only[hsg];exact⟨h1,h2⟩
 have hC: ∀x,(x=r∨x∈l)→aF w0 (w.setCell ad v) st'.get (dK g r ⟨(g r).b,cR (p++ [(i,f)]) N (g r).H,(g r).S⟩) x:=by
  rintro x (rfl|hx)
  ·exact hRoot
  ·unfold aF;rw[hdead x hx];trivial
 have hpend: ∀x r' p' t' xs',¬(x=r∨x∈l)→st.get x= .pend r' p' t' xs'→ ¬(r'=r∨r'∈l):=by
  rintro x r' p' t' xs' hx e (e1|e1)
  ·exact hx (.inr ((hq x r' p' t' xs' e).1 e1))
  ·exact(hq x r' p' t' xs' e).2 r' e1 rfl
 have hheap: ∀x,¬(x=r∨x∈l)→ ∀b,Own st.get g x b→(w.setCell ad v).heap[b]?=w.heap[b]?:=by
  intro x hx b hb
  exact hoth b fun e=>by subst e;exact R.sep x r _ (fun e=>hx (.inl e)) hb ((hownR _).2 hadb)
 have ownO: ∀x b,¬(x=r∨x∈l)→Own st'.get (dK g r ⟨(g r).b,cR (p++ [(i,f)]) N (g r).H,(g r).S⟩) x b→Own st.get g x b:=by
  intro x b hx h
  have e2:dK g r ⟨(g r).b,cR (p++ [(i,f)]) N (g r).H,(g r).S⟩ x=g x:=aE fun e=>hx (.inl e)
  have e1:=hget x
  rw[if_neg (fun e=>hx (.inl e)),if_neg (fun e=>hx (.inr e))]at e1
  unfold Own at h⊢
  cases hgx:st.get x with
  |dead=>
   have:st'.get x= .dead:=by rw[e1,hgx];cases cut<;>rfl
   rw[this]at h;exact h
  |var cs=>
   have: ∃cs',st'.get x= .var cs':=by
    rw[e1,hgx]
    cases cut with
    |none=>exact⟨_,rfl⟩
    |some c=>exact⟨_,rfl⟩
   obtain⟨cs',hcs⟩:=this
   rw[hcs]at h;simp only[e2]at h;exact h
  |row rw t2 xs2=>
   have:st'.get x= .row rw t2 xs2:=by rw[e1,hgx];cases cut<;>rfl
   rw[this]at h;cases rw<;>simp only[e2]at h<;>exact h
  |half t2 xs2=>
   have:st'.get x= .half t2 xs2:=by rw[e1,hgx];cases cut<;>rfl
   rw[this]at h;simp only[e2]at h;exact h
  |sh t2 xs2=>
   have:st'.get x= .sh t2 xs2:=by rw[e1,hgx];cases cut<;>rfl
   rw[this]at h;simp only[e2]at h;exact h
  |pend q p2 t2 xs2=>
   have:st'.get x= .pend q p2 t2 xs2:=by rw[e1,hgx];cases cut<;>rfl
   rw[this]at h
   have hqr:q≠r:=fun e=>(hpend x q p2 t2 xs2 hx hgx) (.inl e)
   simp only[e2,mh,aE hqr]at h
   exact h
 have hsepC: ∀x y b,(x=r∨x∈l)→x≠y→Own st'.get (dK g r ⟨(g r).b,cR (p++ [(i,f)]) N (g r).H,(g r).S⟩) x b→Own st'.get (dK g r ⟨(g r).b,cR (p++ [(i,f)]) N (g r).H,(g r).S⟩) y b→False:=by
  rintro x y b (rfl|hx) hxy h h'
  ·by_cases hy:y∈l
   ·unfold Own at h';rw[hdead y hy]at h';exact h'
   ·have h':=ownO y b (by rintro(e|e);exact hxy e.symm;exact hy e) h'
    rcases h3 b (hOwn' b h)with h4|⟨z,hz,h4⟩
    ·exact R.sep x y b hxy ((hownR b).2 h4) h'
    ·exact R.sep z y b (fun e=>hy (e▸hz)) h4 h'
  ·unfold Own at h;rw[hdead x hx]at h;exact h
 have hlowC: ∀x b,(x=r∨x∈l)→Own st'.get (dK g r ⟨(g r).b,cR (p++ [(i,f)]) N (g r).H,(g r).S⟩) x b→ ¬w0.dh b:=by
  rintro x b (rfl|hx) h
  ·rcases h3 b (hOwn' b h)with h4|⟨z,hz,h4⟩
   ·exact R.low x b ((hownR b).2 h4)
   ·exact R.low z b h4
  ·unfold Own at h;rw[hdead x hx]at h;exact h.elim
 have hbornC: ∀x,(x=r∨x∈l)→ ∀y∈(st'.get x).roots,born y:=by
  rintro x (rfl|hx) y hy
  ·rw[hgr]at hy;simp[ak.roots]at hy
  ·rw[hdead x hx]at hy;simp[ak.roots]at hy
 have haliveC: ∀x,(x=r∨x∈l)→st'.get x≠ .dead→born x:=by
  rintro x (rfl|hx) h
  ·exact hrb
  ·exact absurd (hdead x hx) h
 have hbr:(dK g r ⟨(g r).b,cR (p++ [(i,f)]) N (g r).H,(g r).S⟩ r).b=(g r).b:=by rw[hsg]
 rcases hcut with⟨rfl,hsame⟩|rfl
 ·
  have hgg: ∀x,dK g r ⟨(g r).b,cR (p++ [(i,f)]) N (g r).H,(g r).S⟩ x=g x:=by
   intro x
   by_cases e:x=r
   ·subst e;rw[hsg,hsame]
   ·exact aE e
  refine jU (fun x=>x=r∨x∈l) R hbel hfr (fun x _=>⟨fun t2 ht=> ?_,fun hv=> ?_⟩) (fun x hx=>⟨?_,hgg x,hheap x hx⟩) hpend hC hsepC hlowC (fun _ h=>h) hbornC haliveC
  ·refine⟨?_,fun _ _=>by rw[hgg]⟩
   by_cases e:x=r
   ·subst e;rw[hgr]at ht;rw[hg];exact ht
   ·by_cases hx:x∈l
    ·rw[hdead x hx]at ht;simp[bI]at ht
    ·rw[hget,if_neg e,if_neg hx]at ht;exact ht
  ·refine⟨?_,by rw[hgg]⟩
   by_cases e:x=r
   ·subst e;rw[hgr]at hv;simp[isVar]at hv
   ·by_cases hx:x∈l
    ·rw[hdead x hx]at hv;simp[isVar]at hv
    ·rw[hget,if_neg e,if_neg hx]at hv;exact hv
  ·rw[hget,if_neg (fun e=>hx (.inl e)),if_neg (fun e=>hx (.inr e))];rfl
 ·refine wk (r0:=r) (n:=p.length+1) (fun x=>x=r∨x∈l) R hbel hfr (fun x _=>⟨fun t2 ht=> ?_,fun hv=> ?_⟩) (fun x hx=>⟨?_,aE fun e=>hx (.inl e),hheap x hx⟩) hpend hC hsepC hlowC (fun _ h=>h) hbornC haliveC
  ·by_cases e:x=r
   ·subst e
    rw[hgr]at ht
    refine⟨by rw[hg];exact ht,fun q hq=> ?_⟩
    rw[hsg]
    exact vp _ _ _ q (by have:=hq rfl;simpa using this)
   ·by_cases hx:x∈l
    ·rw[hdead x hx]at ht;simp[bI]at ht
    ·rw[hget,if_neg e,if_neg hx]at ht
     refine⟨?_,fun _ _=>by rw[aE e]⟩
     have ht:bI ((st.get x).cut r (p.length+1))=some t2:=ht
     generalize st.get x=y at ht⊢
     cases y<;>exact ht
  ·by_cases e:x=r
   ·subst e;rw[hgr]at hv;simp[isVar]at hv
   ·by_cases hx:x∈l
    ·rw[hdead x hx]at hv;simp[isVar]at hv
    ·rw[hget,if_neg e,if_neg hx]at hv
     refine⟨?_,by rw[aE e]⟩
     have hv:isVar ((st.get x).cut r (p.length+1))=true:=hv
     generalize st.get x=y at hv⊢
     cases y<;>exact hv
  ·rw[hget,if_neg (fun e=>hx (.inl e)),if_neg (fun e=>hx (.inr e))];rfl
end
end
end Go.Am
end
section
/- Soundness: the stores' steps. -/
namespace Go.Am
attribute [local instance] D.real
section
variable {P : Program} {w0 : bu} {w w' : World} {st st' : St} {g g' : aB} {born : Nat → Prop} {a : Act} {asx acts : List Act} {o : Oper} {base : Nat}
theorem uR(st:St)(c:Option (Nat×Nat))(x:Nat):(st.cut c).get x=GL (st.get x) c:=by
 cases c with
 |none=>rfl
 |some c=>
  obtain⟨r0,n⟩:=c
  show(st.rs.map (ak.cut r0 n)).getD x .dead=(st.rs.getD x .dead).cut r0 n
  simp only[List.getD_eq_getElem?_getD,List.getElem?_map]
  cases st.rs[x]?<;>rfl
theorem yj(st:St)(c:Option (Nat×Nat)):(st.cut c).fr=HO st.fr c:=by
 cases c with
 |none=>rfl
 |some c=>rfl
theorem hU{v:Value}(h:v.oneCell'=true):v.cells= #[v]:=by
 cases v<;>first|rfl|simp[Value.oneCell']at h
theorem w5{t:TypeId}{ad:Addr}{v:Value}{arr:Array Value}{te:TypeId}(h1:P.cellsOf t=1)(h2:v.oneCell'=true)(h3:w.heap[ad.block]?=some (.cells arr te (0,0)))(h4:ad.spot=none)(h5:ad.off<arr.size):
  (Instr.storeAt t (.pointer (some ad)) v).run P w= .ok () (w.setCell ad v):=by
 obtain⟨i,hi⟩:=rW (P:=P) (t:=t) (by omega)
 have had:ad=⟨ad.block,ad.off,none⟩:=by cases ad;simp only at h4;subst h4;rfl
 have hc:w.cell? ad=some arr[ad.off]:=by
  have e:w.cell? ad=w.cell? ⟨ad.block,ad.off,none⟩:=congrArg w.cell? had
  rw[e,cell_of_row _ _ _ _ _ _ h3];simp[h5]
 have hf:w.frozen? ad=false:=by rw[had];exact frozen_of_row _ _ _ _ _ h3
 have hst:(store (ad.add 0) v).run P w= .ok () (w.setCell ad v):=by
  rw[show ad.add 0=ad from rfl,run_store P w ad v _ h2,hc]
  simp[hf]
 simp[Instr.storeAt,Instr.sureAddr,storeVar,hU h2,cb hi,h1,storeCells,hst]
theorem oL{Post:Value→World→Prop}{t:TypeId}{x y:Operand}(ho:o.op= .store t x y)(h:(Instr.storeAt t (a.eval x) (a.eval y)).run P w= .ok () w')(hp:Post Go.undef w'):cu P o a.eval w Post:=by
 refine⟨Go.undef,w',hp,.inr ⟨?_,rfl⟩⟩
 unfold execOp;rw[ho]
 simp[h]
theorem kS(get:Get)(g:aB):ae get g (.tup []) Go.undef:=by
 rw[ae];exact⟨#[],rfl,by rw[ai]⟩
theorem oG: ∀(t:Ty) (f:Nat) (v:AV),cI v (fE t f)=true→f<t.size:=by
 intro t
 have leaf: ∀(t:Ty) (f:Nat) (v:AV),t.size=1→(fE t f=bif Nat.beq f 0 then t else .unit)→cI v (fE t f)=true→f<t.size:=by
  intro t f v h1 h2 h3
  rw[h2]at h3
  cases hb:Nat.beq f 0 with
  |true=>have:=cX hb;omega
  |false=>rw[hb]at h3;simp[cI]at h3
 induction t with
 |pair a b iha ihb=>
  intro f v h
  unfold fE at h
  simp only[Ty.size]
  cases hb:Nat.blt f a.size with
  |true=>have:=cE hb;omega
  |false=>
   rw[hb]at h
   have:=ihb _ v h
   have h2: ¬f<a.size:=fun h=>by rw[←Nat.blt_eq,hb]at h;cases h
   omega
 |unit=>intro f v h;simp[fE,cI]at h
 |int k=>intro f v h;exact leaf _ f v rfl rfl h
 |bool=>intro f v h;exact leaf _ f v rfl rfl h
 |str=>intro f v h;exact leaf _ f v rfl rfl h
 |sl e=>intro f v h;exact leaf _ f v rfl rfl h
theorem mA(R:Rel w0 st g born acts w){r:Nat}{p:Path}{i f:Nat}{t e:Ty}{xs:List (den t)}{ys:List (den e)}{ok:List Tst}{v:Value}
  (hg:st.get r= .row true t xs) (hrow:rowAt t xs p=(ok,⟨e,ys⟩)) (hok:aN ok) (hi:i<ys.length) (hf:f<e.size) (hv:ae st.get g (.pe r p i f) v):
  ∃ad n cap,(g r).H p= .slice (some ad) n cap∧v= .pointer (some (ad.add (i*e.size+f)))∧ad.spot=none∧aD t xs (g r).H ad.block∧cap≠0∧
   (∃arr te,w.heap[ad.block]?=some (.cells arr te (0,0))∧ad.off+(i*e.size+f)<arr.size)∧aS w true t xs (g r).H∧bD t xs (g r).H∧
   aS w true e ys (fun q=>(g r).H (p++q))∧bD e ys (fun q=>(g r).H (p++q)):=by
 have hr:=R.roots r
 unfold aF at hr
 rw[hg]at hr
 obtain⟨hr1,hr2⟩:=hr
 obtain⟨c1,c2,c3,c4⟩:=gH p t xs (g r).H ok e ys hrow hok hr1
 rw[ae]at hv
 obtain⟨ad,n,cap,h1,h2⟩:=hv.2 t e (by rw[hg];rfl) c2
 rcases c1 with⟨h3,h4⟩|⟨ad',cap',h3,hle,hbk,hx⟩
 ·rw[h4]at hi;simp at hi
 ·have h3':(g r).H p= .slice (some ad') ys.length cap':=by simpa using h3
  rw[h1]at h3'
  injection h3' with e1 _ e3
  injection e1 with e1
  subst e1;subst e3
  have hc:cap≠0:=by omega
  obtain⟨k1,arr,te,k2,k3⟩:=hbk rfl hc
  refine⟨ad,n,cap,h1,h2,k1,c3 _ (lg (H:=fun q=>(g r).H (p++q)) ⟨ad,_,_,by simpa using h1,hc,rfl⟩),hc,⟨arr,te,k2,?_⟩,hr1,hr2,.inr ⟨ad,cap,h3,hle,hbk,hx⟩,c4 hr2⟩
  have:(i+1)*e.size≤cap*e.size:=Nat.mul_le_mul_right _ (by omega)
  rw[Nat.add_mul]at this
  omega
theorem kN{ad:Addr}(h:ad.spot=none)(n:Nat):ad.add n=⟨ad.block,ad.off+n,none⟩:=by
 have:ad=⟨ad.block,ad.off,none⟩:=by cases ad;simp only at h;subst h;rfl
 rw[this,Addr.add_lit]
theorem uX{t:TypeId}{x y:Operand}{vv:AV}(ho:o.op= .store t x y)(hct:P.cellsOf t=1)(R:Rel w0 st g born (a::asx) w){r:Nat}{p:Path}{i f:Nat}{t' e:Ty}{xs:List (den t')}{ys:List (den e)}{ok:List Tst}{q:List (Nat×Option Nat)}{ok':List Tst}
  (hx:ae st.get g (.pe r p i f) (a.eval x)) (hy:ae st.get g vv (a.eval y)) (hg:st.get r= .row true t' xs) (hrow:rowAt t' xs p=(ok,⟨e,ys⟩)) (hok:aN ok) (hi:i<ys.length)
  (hfit:cI vv (cellAt e (ys.getD i (bm e)) f).1=true) (hq: ∀j r' p t xs,st.get j= .pend r' p t xs→r'≠r):
  cu P o a.eval w (dU w0 st born (a::asx) {ok:=ok',v:= .tup [],upd:= [(r,kK t' xs p i f (fq vv))],quiet:=q}):=by
 have hf:f<e.size:=oG e f vv (by rw[←ja e (ys.getD i (bm e)) f];exact hfit)
 obtain⟨ad,n,cap,h1,h2,h3,h4,hc,⟨arr,te,h5,h6⟩,h7,h8,h9,h10⟩:=mA R hg hrow hok hi hf hx
 have hone:(a.eval y).oneCell'=true:=by
  cases vv<;>first
   |(rw[ae]at hy;rw[hy];rfl)
   |(exfalso;generalize(cellAt e (ys.getD i (bm e)) f).1=c at hfit;cases c<;>simp[cI]at hfit)
 have hrun:=w5 (P:=P) (w:=w) (t:=t) (ad:=ad.add (i*e.size+f)) (v:=a.eval y) (arr:=arr) (te:=te) hct hone (by rw[dS];exact h5) (mC h3 _) (by rw[yr];exact h6)
 rw[←h2]at hrun
 have hsame:cR [(i,f)] (fun q=>(g r).H (p++(i,f)::q)) (fun q=>(g r).H (p++q))=fun q=>(g r).H (p++q):=kR [(i,f)] (fun q=>(g r).H (p++q))
 have hcell:w.cell? (ad.add (i*e.size+f))=some arr[ad.off+(i*e.size+f)]:=by
  rw[kN h3,cell_of_row _ _ _ _ _ _ h5];simp[h6]
 have hS:=rC (w:=w) (N:=fun q=>(g r).H (p++(i,f)::q)) (v:=a.eval y) (G:=fq vv) h7 h8 hrow hok hi hf h1
  (by
   rw[hsame]
   have hnew:(fun k=>(w.setCell (ad.add (i*e.size+f)) (a.eval y)).cell? (ad.add (i*e.size+k))) (0+f)=some (a.eval y):=by
    simp only[Nat.zero_add]
    exact World.cell?_setCell_same w _ _ hcell
   generalize(cellAt e (ys.getD i (bm e)) f)=c at hfit⊢
   obtain⟨c,d⟩:=c
   cases c<;>simp only[cI]at hfit<;>cases vv<;>simp only[Bool.false_eq_true]at hfit
   all_goals (rw[ae]at hy)
   ·have hk:=of_decide_eq_true hfit
    subst hk
    rw[hy]at hnew
    rw[hy];exact hnew
   ·rw[hy]at hnew;rw[hy];exact hnew
   ·rw[hy]at hnew;rw[hy];exact hnew
   ·rw[hy]at hnew;rw[hy];exact hnew)
  (by
   generalize(cellAt e (ys.getD i (bm e)) f)=c at hfit⊢
   obtain⟨c,d⟩:=c
   cases c<;>first|(simp[cI]at hfit;done)|trivial)
  (fun b hb=>by
   unfold lA at hb
   generalize(cellAt e (ys.getD i (bm e)) f)=c at hfit hb
   obtain⟨c,d⟩:=c
   cases c<;>first|(simp[cI]at hfit;done)|exact hb.elim)
 have hpp:cR (p++ [(i,f)]) (fun q=>(g r).H (p++(i,f)::q)) (g r).H=(g r).H:=by
  rw[ri,hsame,kR]
 obtain⟨s1,s2,s3⟩:=hS
 have R':=si (st':=st.aH [(r,kK t' xs p i f (fq vv))]) (l:= []) (cut:=none) (v:=a.eval y) R hg (by simp) (fun j r' p t xs e=>⟨fun e'=>absurd e' (hq j r' p t xs e),fun x hx=>by cases hx⟩) rfl
  (fun x=>by
   show(st.ep r _).get x=_
   rw[dN]
   by_cases e:x=r
   ·simp only[e,if_true];rfl
   ·simp[e,GL]) (.inl ⟨rfl,hpp⟩) (by rw[dS];exact h4) (mC h3 _) s1 s2 (fun b hb=>by
   rcases s3 b hb with h|h
   ·exact .inl h
   ·unfold lA at h
    generalize(cellAt e (ys.getD i (bm e)) f)=c at hfit h
    obtain⟨c,d⟩:=c
    cases c<;>first|(simp[cI]at hfit;done)|exact h.elim)
 exact oL ho hrun ⟨_,born,R',kS _ _,fun r h=>by simp[AV.roots,AV.ah]at h,fun r h=> .inl h,fun r h=>h⟩
theorem jX{t:TypeId}{x y:Operand}(ho:o.op= .store t x y)(hct:P.cellsOf t=1)(R:Rel w0 st g born (a::asx) w){r:Nat}{p:Path}{i f:Nat}{t' e ec:Ty}{xs:List (den t')}{ys:List (den e)}{ok:List Tst}{q:List (Nat×Option Nat)}{ok':List Tst}
  {l:List Nat} {zs:List (den ec)} {N:Path→Value} {upd:List (Nat×ak)}
  (hx:ae st.get g (.pe r p i f) (a.eval x)) (hg:st.get r= .row true t' xs) (hrow:rowAt t' xs p=(ok,⟨e,ys⟩)) (hok:aN ok) (hi:i<ys.length)
  {d:List (den ec)} (hc0:cellAt e (ys.getD i (bm e)) f=⟨.sl ec,d⟩) (hrl:r∉l) (hq: ∀j r' p t xs,st.get j= .pend r' p t xs→(r'=r→j∈l)∧ ∀x∈l,r'≠x)
  (hN:N []=a.eval y) (hN1:aS w true ec zs N) (hN2:bD ec zs N) (hN3: ∀b,aD ec zs N b→aD ec d (fun q=>(g r).H (p++(i,f)::q)) b∨ ∃x∈l,Own st.get g x b)
  (hupd: ∀x,(st.aH upd).get x=if x=r then kK t' xs p i f (putRow ec zs)else if x∈l then .dead else st.get x):
  cu P o a.eval w (dU w0 st born (a::asx) {ok:=ok',v:= .tup [],upd:=upd,cut:=some (r,p.length+1),quiet:=q}):=by
 have hf:f<e.size:=oO e f ec (by rw[←ja e (ys.getD i (bm e)) f,hc0])
 obtain⟨ad,n,cap,h1,h2,h3,h4,hc,⟨arr,te,h5,h6⟩,h7,h8,h9,h10⟩:=mA R hg hrow hok hi hf hx
 have hone:(a.eval y).oneCell'=true:=by
  rw[←hN]
  rcases hN1 with⟨h,_⟩|⟨_,_,h,_⟩<;>rw[h]<;>rfl
 have hrun:=w5 (P:=P) (w:=w) (t:=t) (ad:=ad.add (i*e.size+f)) (v:=a.eval y) (arr:=arr) (te:=te) hct hone (by rw[dS];exact h5) (mC h3 _) (by rw[yr];exact h6)
 rw[←h2]at hrun
 have hcell:w.cell? (ad.add (i*e.size+f))=some arr[ad.off+(i*e.size+f)]:=by
  rw[kN h3,cell_of_row _ _ _ _ _ _ h5];simp[h6]
 have hget:ys[i]?=some (ys.getD i (bm e)):=dP hi
 have hownR: ∀b,Own st.get g r b↔aD t' xs (g r).H b:=fun b=>by unfold Own;rw[hg]
 have hold: ∀b,aD ec d (fun q=>(g r).H (p++(i,f)::q)) b↔lB e (ys.getD i (bm e)) f (atI (fun q=>(g r).H (p++q)) i) 0 b:=by
  intro b
  unfold lB
  rw[hc0]
  simp only[Nat.zero_add]
  exact Iff.rfl
 have hoad: ∀b,aD ec d (fun q=>(g r).H (p++(i,f)::q)) b→b≠ad.block:=by
  intro b hb e'
  subst e'
  exact h10.1 ad n cap i _ (by simpa using h1) hc hget (bG e _ _ 0 f _ hf ((hold _).1 hb))
 have hNad: ∀b,aD ec zs N b→b≠ad.block:=by
  intro b hb
  rcases hN3 b hb with h|⟨z,hz,h⟩
  ·exact hoad b h
  ·intro e';subst e'
   exact R.sep z r _ (fun e=>hrl (e▸hz)) h ((hownR _).2 h4)
 have hoth: ∀b,b≠ad.block→(w.setCell (ad.add (i*e.size+f)) (a.eval y)).heap[b]?=w.heap[b]?:=fun b hb=>heap_setCell_other w _ b _ (by rw[dS];exact hb)
 have hN1':aS (w.setCell (ad.add (i*e.size+f)) (a.eval y)) true ec zs N:=dQ (fun b hb=>hoth b (hNad b hb)) hN1
 have hput:putRow ec zs (.sl ec) d=zs:=by
  have hd:decEq ec ec= .isTrue rfl:=by
   cases decEq ec ec with
   |isTrue h=>rfl
   |isFalse h=>exact absurd rfl h
  simp only[putRow,hd,eC]
 have hat:atI (cR [(i,f)] N (fun q=>(g r).H (p++q))) i f=N:=by
  funext q
  show(if i=i∧f=f then N q else _)=N q
  simp
 have hS:=rC (w:=w) (N:=N) (v:=a.eval y) (G:=putRow ec zs) h7 h8 hrow hok hi hf h1
  (by
   rw[hc0]
   simp only[Nat.zero_add,hput]
   refine⟨?_,?_⟩
   ·rw[hat,hN]
    exact World.cell?_setCell_same w _ _ hcell
   ·rw[hat];exact hN1')
  (by
   rw[hc0]
   simp only[Nat.zero_add,hput]
   show bD ec zs (atI _ i f)
   rw[hat];exact hN2)
  (fun b hb=>by
   unfold lA at hb
   rw[hc0]at hb
   simp only[Nat.zero_add,hput]at hb
   have hb:aD ec zs (atI (cR [(i,f)] N (fun q=>(g r).H (p++q))) i f) b:=hb
   rw[hat]at hb
   rcases hN3 b hb with h|⟨z,hz,h⟩
   ·exact .inl ((hold b).1 h)
   ·exact .inr fun h'=>R.sep z r b (fun e=>hrl (e▸hz)) h ((hownR b).2 h'))
 obtain⟨s1,s2,s3⟩:=hS
 have R':=si (st':=(st.aH upd).cut (some (r,p.length+1))) (l:=l) (cut:=some (r,p.length+1)) (N:=N) (v:=a.eval y) R hg hrl hq (yj _ _)
  (fun x=>by
   rw[uR,hupd]
   by_cases e:x=r
   ·simp only[e,if_true];rfl
   ·by_cases hx:x∈l
    ·simp only[e,hx,if_false,if_true];rfl
    ·simp only[e,hx,if_false]) (.inr rfl) (by rw[dS];exact h4) (mC h3 _) s1 s2 (fun b hb=>by
   rcases s3 b hb with h|h
   ·exact .inl h
   ·unfold lA at h
    rw[hc0]at h
    simp only[Nat.zero_add,hput]at h
    have h:aD ec zs (atI (cR [(i,f)] N (fun q=>(g r).H (p++q))) i f) b:=h
    rw[hat]at h
    rcases hN3 b h with h|h
    ·refine .inl ?_
     exact(gH p t' xs (g r).H ok e ys hrow hok h7).2.2.1 b (.inr ⟨i,_,hget,bG e _ _ 0 f b hf ((hold b).1 h)⟩)
    ·exact .inr h)
 exact oL ho hrun ⟨_,born,R',kS _ _,fun r h=>by simp[AV.roots,AV.ah]at h,fun r h=> .inl h,fun r h=>h⟩
end
end Go.Am
end
section
/- Soundness: the store's step, put together. -/
namespace Go.Am
attribute [local instance] D.real
section
variable {P : Program} {w0 : bu} {w w' : World} {st st' : St} {g g' : aB} {born : Nat → Prop} {a : Act} {asx acts : List Act} {o : Oper} {base : Nat}
theorem GU(R:Rel w0 st g born acts w){r:Nat}{cs cs':List AV}{arr arr':Array Value}{te:TypeId}(hg:st.get r= .var cs)(hh:w.heap[(g r).b]?=some (.cells arr te (0,0)))
  (hA:ai st.get g cs' arr'.toList) (h1: ∀x∈arr'.toList,x.oneCell'=true) (hb: ∀x∈AV.ah cs',born x):
  Rel w0 (st.ep r (.var cs')) g born acts (w.setRow (g r).b arr'):=by
 have hown:Own st.get g r (g r).b:=by unfold Own;rw[hg]
 have hlow:=R.low r _ hown
 have hgr:(st.ep r (.var cs')).get r= .var cs':=bQ _ _ _
 have hold: ∀x,Holds st.get (st.ep r (.var cs')).get g g x fun _=>True:=by
  intro x
  by_cases e:x=r
  ·subst e
   exact⟨fun t ht=>by rw[hgr]at ht;simp[bI]at ht,fun _=>⟨by rw[hg];rfl,rfl⟩⟩
  ·exact⟨fun t ht=>by rw[aT e]at ht;exact⟨ht,fun _ _=>rfl⟩,fun hv=>by rw[aT e]at hv;exact⟨hv,rfl⟩⟩
 have hoth: ∀b,b≠(g r).b→(w.setRow (g r).b arr').heap[b]?=w.heap[b]?:=fun b hb=>setRow_other w _ b _ hb
 have hownO: ∀x b,x≠r→(Own (st.ep r (.var cs')).get g x b↔Own st.get g x b):=fun x b hx=>mN (aT hx) rfl fun _ _ _ _ _=>rfl
 have hownR: ∀b,Own (st.ep r (.var cs')).get g r b→b=(g r).b:=fun b h=>by unfold Own at h;rw[hgr]at h;exact h
 refine jU (fun x=>x=r) R ⟨rfl,rfl,rfl,by simp,fun k hk=>hoth k (fun e=>hlow (e▸hk)),fun k o h1 h2=>(hoth k fun e=>by rw[ib R (e▸hown) o h1]at h2;cases h2).trans h1⟩ rfl (fun x _=>hold x) (fun x hx=>⟨aT hx,rfl,fun b hbo=>hoth b fun e=>by subst e;exact R.sep x r _ hx hbo hown⟩)
  (fun x r' p t xs hx e e'=> ?_) (fun x hx=> ?_) (fun x y b hx hxy h h'=> ?_) (fun x b hx h=> ?_) (fun _ h=>h) (fun x hx y hy=> ?_) (fun x hx _=> ?_)
 ·have h:=R.roots x
  unfold aF at h
  rw[e]at h
  obtain⟨_,_,t',xs',h3,_⟩:=h
  rw[e',hg]at h3;cases h3
 ·subst hx
  unfold aF
  rw[hgr]
  exact⟨arr',te,setRow_heap w _ arr arr' te (0,0) hh,h1,bZ _ _ (fun x _=>hold x) hA⟩
 ·subst hx
  have:=hownR b h
  subst this
  exact R.sep x y _ hxy hown ((hownO y _ fun e=>hxy e.symm).1 h')
 ·subst hx;rw[hownR b h];exact hlow
 ·subst hx;rw[hgr]at hy;exact hb y hy
 ·subst hx;exact R.alive x (by rw[hg];simp)
theorem uH: ∀(p:Path) (t:Ty) (xs:List (den t)) (ok:List Tst) (e ec:Ty) (ys:List (den e)) (d:List (den ec)) (i f:Nat),rowAt t xs p=(ok,⟨e,ys⟩)→cellAt e (ys.getD i (bm e)) f=⟨.sl ec,d⟩→aN ok→
  (rowAt t xs (p++ [(i,f)])).2=⟨ec,d⟩
 | [],t,xs,ok,e,ec,ys,d,i,f,h,hc,_=>by
  simp only[rowAt,Prod.mk.injEq,Sigma.mk.injEq]at h
  obtain⟨-,rfl,h⟩:=h
  obtain rfl:=eq_of_heq h
  have hc':cellAt t (D.rd xs i (bm t)) f=⟨.sl ec,d⟩:=hc
  simp only[List.nil_append,rowAt,hc']
 |(j,k)::p,t,xs,ok,e,ec,ys,d,i,f,h,hc,hok=>by
  simp only[rowAt]at h
  simp only[List.cons_append,rowAt]
  generalize cellAt t (D.rd xs j (bm t)) k=c at h⊢
  obtain⟨c,dd⟩:=c
  cases c with
  |sl e2=>
   simp only at h⊢
   generalize hra:rowAt e2 dd p=ra at h
   obtain⟨ok',r⟩:=ra
   simp only[Prod.mk.injEq]at h
   obtain⟨rfl,rfl⟩:=h
   have:=uH p e2 dd ok' e ec ys d i f hra hc (af.1 hok).2
   generalize rowAt e2 dd (p++ [(i,f)])=z at this⊢
   obtain⟨z1,z2⟩:=z
   exact this
  |_=>simp only[Prod.mk.injEq]at h;obtain⟨rfl,_⟩:=h;exact(ay hok).elim
theorem jL{st:St}{q:List (Nat×Option Nat)}{r:Nat}(h:a8 st.rs q=true)(hm:(r,none)∈q): ∀j r' p t xs,st.get j= .pend r' p t xs→r'≠r:=by
 intro j r' p t xs e er
 have:=List.all_eq_true.1 h (r,none) hm
 have:=mV (st:=st) this e er
 cases this
theorem zw(st:St)(r:Nat)(x:ak)(y:Nat):(st.aH [(r,x)]).get y=if y=r then x else if y∈([]:List Nat)then .dead else st.get y:=by
 show(st.ep r x).get y=_
 rw[dN];simp
theorem AE(st:St)(r r2:Nat)(x:ak)(y:Nat):(st.aH [(r2,.dead),(r,x)]).get y=if y=r then x else if y∈ [r2]then .dead else st.get y:=by
 show((st.ep r2 .dead).ep r x).get y=_
 rw[dN,dN];simp
theorem vh{t:TypeId}{x y:Operand}(ho:o.op= .store t x y)(hct:P.cellsOf t=1)(R:Rel w0 st g born (a::asx) w){r:Nat}{p:Path}{i f:Nat}{t':Ty}{xs:List (den t')}{vv:AV}
  (hx:ae st.get g (.pe r p i f) (a.eval x)) (hy:ae st.get g vv (a.eval y)) (hg:st.get r= .row true t' xs)
  (hok:aN (iY vv r p i f t' xs st.get).ok) (hq:a8 st.rs (iY vv r p i f t' xs st.get).quiet=true):cu P o a.eval w (dU w0 st born (a::asx) (iY vv r p i f t' xs st.get)):=by
 revert hq
 unfold iY at hok⊢
 generalize hrow:Go.Am.rowAt t' xs p=rr at hok
 obtain⟨ok,e,ys⟩:=rr
 simp only at hok⊢
 have hce:cellAt e (D.rd ys i (bm e)) f=cellAt e (ys.getD i (bm e)) f:=rfl
 rw[hce]at hok⊢
 generalize hcc:cellAt e (ys.getD i (bm e)) f=c at hok
 obtain⟨c,d⟩:=c
 have key: ∀(c:Ty) (d:den c),cellAt e (ys.getD i (bm e)) f=⟨c,d⟩→aN (ok++ [.d (D.ltN i (D.len ys)),.s (cI vv c)])→a8 st.rs [(r,none)]=true→
   cu P o a.eval w (dU w0 st born (a::asx) {ok:=ok++ [.d (D.ltN i (D.len ys)),.s (cI vv c)],v:= .tup [],upd:= [(r,kK t' xs p i f (fq vv))],quiet:= [(r,none)]}):=by
  intro c d hcc hok hq
  obtain⟨h1,h2⟩:=aq.1 hok
  obtain⟨h2,h3⟩:=af.1 h2
  have h2:i<ys.length:=of_decide_eq_true (show decide (i<ys.length)=true from h2)
  have h3:cI vv c=true:=(af.1 h3).1
  exact uX ho hct R hx hy hg hrow h1 h2 (by rw[hcc];exact h3) (jL hq (by simp))
 cases c with
 |int k=>simp only at hok⊢;exact key _ d hcc hok
 |bool=>simp only at hok⊢;exact key _ d hcc hok
 |str=>simp only at hok⊢;exact key _ d hcc hok
 |pair c1 c2=>simp only at hok⊢;exact key _ d hcc hok
 |unit=>simp only at hok⊢;exact key _ d hcc hok
 |sl ec=>
  simp only at hok⊢
  unfold oq at hok⊢
  split at hok
  ·
   intro hq
   obtain⟨h1,h2⟩:=aq.1 hok
   have h2:i<ys.length:=of_decide_eq_true (show decide (i<ys.length)=true from(af.1 h2).1)
   rw[ae]at hy
   exact jX (l:= []) (zs:=([]:List (den ec))) (N:=fun _=> .slice none 0 0) ho hct R hx hg hrow h1 h2 hcc (by simp) (fun j r' p t xs e=>⟨fun e'=>absurd e' (jL hq (by simp) j r' p t xs e),fun x hx=>by cases hx⟩)
    hy.symm (pY w ec).1 (pY w ec).2 (fun b hb=>(tz ec b hb).elim) (zw st r _)
  ·next r2 q sub=>
   cases hrr:Nat.beq r2 r with
   |true=>
    have hrr:=cX hrr
    subst hrr
    rw[hrr]at hok
    simp only[cond_true]at hok⊢
    generalize hrow2:Go.Am.rowAt t' xs q=rr2 at hok
    obtain⟨ok2,e2,ys2⟩:=rr2
    simp only at hok⊢
    split at hok
    ·next he _=>
     intro hq
     subst he
     simp only[eC]at hok hq⊢
     obtain⟨h1,h3⟩:=aq.1 hok
     obtain⟨h1,h2⟩:=aq.1 h1
     obtain⟨h1,h4⟩:=aq.1 h1
     have h4:i<ys.length:=of_decide_eq_true (show decide (i<ys.length)=true from(af.1 h4).1)
     have h3:q=p++ [(i,f)]:=of_decide_eq_true (show decide (q=p++ [(i,f)])=true from(af.1 h3).1)
     subst h3
     have hsn:=uH p t' xs ok e e2 ys d i f hrow hcc h1
     rw[hrow2]at hsn
     simp only[Sigma.mk.injEq,heq_eq_eq,true_and]at hsn
     subst hsn
     have hro:=R.roots r2
     unfold aF at hro
     rw[hg]at hro
     obtain⟨k1,k2,_,k4⟩:=gH (p++ [(i,f)]) t' xs (g r2).H ok2 e2 ys2 hrow2 h2 hro.1
     rw[ae]at hy
     have hsub:mI e2.size sub ((g r2).H (p++ [(i,f)]++ [])) (a.eval y):=by
      rw[List.append_nil];exact hy.2 t' e2 (by rw[hg];rfl) k2
     exact jX (l:= []) (zs:=dJ sub ys2) (N:=nj sub (a.eval y) fun q=>(g r2).H (p++ [(i,f)]++q)) ho hct R hx hg hrow h1 h4 hcc (by simp) (fun j r' p t xs e=>⟨fun e'=>absurd e' (jL hq (by simp) j r' p t xs e),fun x hx=>by cases hx⟩)
      rfl (il k1 hsub) (fx hsub (k4 hro.2)) (fun b hb=> .inl (by
       have:=eR hsub hb
       have e:(fun q=>(g r2).H (p++(i,f)::q))=fun q=>(g r2).H (p++ [(i,f)]++q):=by funext q;simp
       rw[e];exact this)) (zw st r2 _)
    ·exact(ay hok).elim
   |false=>
    have hne:r2≠r:=by
     intro e;subst e;simp at hrr
    rw[hrr]at hok
    simp only[cond_false]at hok⊢
    split at hok
    ·next e2 ys2 hg2=>
     split at hok
     ·next he _=>
      intro hq
      subst he
      simp only[eC]at hok hq⊢
      obtain⟨h1,h4⟩:=aq.1 hok
      have h4:i<ys.length:=of_decide_eq_true (show decide (i<ys.length)=true from(af.1 h4).1)
      have hro:=R.roots r2
      unfold aF at hro
      rw[hg2]at hro
      rw[ae]at hy
      have hsub:mI e2.size sub ((g r2).H []) (a.eval y):=hy.2 e2 e2 (by rw[hg2];rfl) rfl
      refine jX (l:= [r2]) (zs:=dJ sub ys2) (N:=nj sub (a.eval y) (g r2).H) ho hct R hx hg hrow h1 h4 hcc (by simp;exact fun e=>hne e.symm) (fun j r' p t xs e=>⟨fun e'=>absurd e' (jL hq (by simp) j r' p t xs e),fun x hx=> ?_⟩)
       rfl (il hro.1 hsub) (fx hsub hro.2) (fun b hb=> .inr ⟨r2,List.mem_singleton.2 rfl,by unfold Own;rw[hg2];exact eR hsub hb⟩) (AE st r r2 _)
      rw[List.mem_singleton.1 hx]
      exact jL hq (by simp) j r' p t xs e
     ·exact(ay hok).elim
    ·next r' p' e2 ys2 hg2=>
     split at hok
     ·next he _=>
      intro hq
      subst he
      simp only[eC]at hok hq⊢
      obtain⟨h1,h3⟩:=aq.1 hok
      obtain⟨h1,h4⟩:=aq.1 h1
      have h4:i<ys.length:=of_decide_eq_true (show decide (i<ys.length)=true from(af.1 h4).1)
      obtain⟨h5,h6⟩:=af.1 h3
      have h5:r'=r:=cX h5
      have h6:p'=p++ [(i,f)]:=of_decide_eq_true (show decide (p'=p++ [(i,f)])=true from(af.1 h6).1)
      subst h5;subst h6
      have hro:=R.roots r2
      unfold aF at hro
      rw[hg2]at hro
      obtain⟨k1,k2,t2,xs2,k3,k4,k5⟩:=hro
      rw[ae]at hy
      have hsub:a.eval y=(g r2).H []:=hy.2 e2 e2 (by rw[hg2];rfl) rfl
      have hflatsep:bD e2 ys2 (g r2).H:=⟨fun aa n c i x _ _ _ hb=>mG e2 x _ 0 _ k2 hb,fun i j x y b _ _ _ hb=>(mG e2 x _ 0 _ k2 hb).elim,fun i x _=>Au e2 x _ 0 k2⟩
      refine jX (l:= [r2]) (zs:=ys2) (N:=(g r2).H) ho hct R hx hg hrow h1 h4 hcc (by simp;exact fun e=>hne e.symm) (fun j r'' p t xs e=>⟨fun e'=> ?_,fun x hx=> ?_⟩)
       hsub.symm k1 hflatsep (fun b hb=> ?_) (AE st r' r2 _)
      ·have:=List.all_eq_true.1 hq (r',some r2) (by simp)
       have:=mV (st:=st) this e e'
       injection this with this
       rw[this];exact List.mem_singleton.2 rfl
      ·rw[List.mem_singleton.1 hx]
       intro e'
       have h:=R.roots j
       unfold aF at h
       rw[e]at h
       obtain⟨_,_,t',xs',h3,_⟩:=h
       rw[e',hg2]at h3;cases h3
      ·by_cases hh:mh g r' (p++ [(i,f)]) b
       ·obtain⟨ad,n,c,q1,q2,q3⟩:=hh
        exact .inl (.inl ⟨ad,n,c,q1,q2,q3⟩)
       ·exact .inr ⟨r2,List.mem_singleton.2 rfl,by unfold Own;rw[hg2];exact⟨hb,hh⟩⟩
     ·exact(ay hok).elim
    ·exact(ay hok).elim
  ·exact(ay hok).elim
theorem D4(R:Rel w0 st g born acts w){r i f n cap:Nat}{t':Ty}{xs:List (den t')}{vv:AV}{v:Value}{ad:Addr}(hg:st.get r= .row true t' xs)(had:(g r).H []= .slice (some ad) n cap)(hi:i<xs.length)(hy:ae st.get g vv v)
  (hfit:cI vv (cellAt t' (xs.getD i (bm t')) f).1=true) (hq: ∀j r' p t xs,st.get j= .pend r' p t xs→r'≠r)
  (hfr:st'.fr=st.fr) (hget: ∀x,st'.get x=if x=r then .row true t' (xs.set i (bz t' (xs.getD i (bm t')) f (fq vv)))else st.get x):
  Rel w0 st' g born acts (w.setCell (ad.add (i*t'.size+f)) v)∧ad.spot=none∧ ∃arr te,w.heap[ad.block]?=some (.cells arr te (0,0))∧ad.off+(i*t'.size+f)<arr.size:=by
 have hx:ae st.get g (.pe r [] i f) (.pointer (some (ad.add (i*t'.size+f)))):=by
  rw[ae]
  refine⟨⟨_,rfl⟩,fun t e ht he=> ?_⟩
  rw[hg]at ht
  injection ht with ht
  subst ht
  injection he with he
  subst he
  exact⟨ad,n,cap,had,rfl⟩
 have hf:f<t'.size:=oG t' f vv (by rw[←ja t' (xs.getD i (bm t')) f];exact hfit)
 have hrow:rowAt t' xs []=([],⟨t',xs⟩):=rfl
 have hok:aN ([]:List Tst):=fun _ h=>by cases h
 obtain⟨ad',n',cap',h1,h2,h3,h4,hc,⟨arr,te,h5,h6⟩,h7,h8,h9,h10⟩:=mA R hg hrow hok hi hf hx
 have e1:ad'=ad:=by
  rw[had]at h1
  injection h1 with h1
  injection h1 with h1
  exact h1.symm
 subst e1
 have hsame:cR [(i,f)] (fun q=>(g r).H ([]++(i,f)::q)) (fun q=>(g r).H ([]++q))=fun q=>(g r).H ([]++q):=kR [(i,f)] (fun q=>(g r).H ([]++q))
 have hcell:w.cell? (ad'.add (i*t'.size+f))=some arr[ad'.off+(i*t'.size+f)]:=by
  rw[kN h3,cell_of_row _ _ _ _ _ _ h5];simp[h6]
 have hS:=rC (w:=w) (N:=fun q=>(g r).H ([]++(i,f)::q)) (v:=v) (G:=fq vv) h7 h8 hrow hok hi hf h1
  (by
   rw[hsame]
   have hnew:(fun k=>(w.setCell (ad'.add (i*t'.size+f)) v).cell? (ad'.add (i*t'.size+k))) (0+f)=some v:=by
    simp only[Nat.zero_add]
    exact World.cell?_setCell_same w _ _ hcell
   generalize(cellAt t' (xs.getD i (bm t')) f)=c at hfit⊢
   obtain⟨c,d⟩:=c
   cases c<;>simp only[cI]at hfit<;>cases vv<;>simp only[Bool.false_eq_true]at hfit
   all_goals (rw[ae]at hy)
   ·have hk:=of_decide_eq_true hfit
    subst hk
    rw[hy]at hnew
    rw[hy];exact hnew
   ·rw[hy]at hnew;rw[hy];exact hnew
   ·rw[hy]at hnew;rw[hy];exact hnew
   ·rw[hy]at hnew;rw[hy];exact hnew)
  (by
   generalize(cellAt t' (xs.getD i (bm t')) f)=c at hfit⊢
   obtain⟨c,d⟩:=c
   cases c<;>first|(simp[cI]at hfit;done)|trivial)
  (fun b hb=>by
   unfold lA at hb
   generalize(cellAt t' (xs.getD i (bm t')) f)=c at hfit hb
   obtain⟨c,d⟩:=c
   cases c<;>first|(simp[cI]at hfit;done)|exact hb.elim)
 have hpp:cR ([]++ [(i,f)]) (fun q=>(g r).H ([]++(i,f)::q)) (g r).H=(g r).H:=by
  rw[ri,hsame,kR]
 obtain⟨s1,s2,s3⟩:=hS
 have R':=si (st':=st') (l:= []) (cut:=none) (v:=v) R hg (by simp) (fun j r' p t xs e=>⟨fun e'=>absurd e' (hq j r' p t xs e),fun x hx=>by cases hx⟩) hfr
  (fun x=>by
   rw[hget]
   by_cases e:x=r
   ·simp only[e,if_true];rfl
   ·simp[e,GL]) (.inl ⟨rfl,hpp⟩) (by rw[dS];exact h4) (mC h3 _) s1 s2 (fun b hb=>by
   rcases s3 b hb with h|h
   ·exact .inl h
   ·unfold lA at h
    generalize(cellAt t' (xs.getD i (bm t')) f)=c at hfit h
    obtain⟨c,d⟩:=c
    cases c<;>first|(simp[cI]at hfit;done)|exact h.elim)
 have hgg:dK g r ⟨(g r).b,cR ([]++ [(i,f)]) (fun q=>(g r).H ([]++(i,f)::q)) (g r).H,(g r).S⟩=g:=by
  rw[hpp]
  funext x
  unfold dK
  split
  ·next e=>rw[e]
  ·rfl
 rw[hgg]at R'
 exact⟨R',h3,arr,te,h5,h6⟩
theorem su{r i n cap:Nat}{t':Ty}{ad:Addr}(hgH:(g r).H []= .slice (some ad) n cap)(te:TypeId): ∀(vs:List AV) (us:List Value) (f:Nat) (xs:List (den t')) (st st':St) (w:World) (arr:Array Value),
  Rel w0 st g born acts w→st.get r= .row true t' xs→i<xs.length→ai st.get g vs us→jq t' f vs=true→(∀j r' p t xs,st.get j= .pend r' p t xs→r'≠r)→w.heap[ad.block]?=some (.cells arr te (0,0))→
  ad.off+(i*t'.size+f)+us.length≤arr.size→ad.spot=none→st'.fr=st.fr→(∀x,st'.get x=if x=r then .row true t' (xs.set i (ml t' (xs.getD i (bm t')) f vs))else st.get x)→
  Rel w0 st' g born acts (w.setRow ad.block (arr.toList.take (ad.off+(i*t'.size+f))++us++arr.toList.drop (ad.off+(i*t'.size+f)+us.length)).toArray)
 | [],us,f,xs,st,st',w,arr,R,hg,hi,hA,_,_,hh,_,_,hfr,hget=>by
  have hu:us= []:=by rw[ai]at hA;exact hA
  subst hu
  have e0:(arr.toList.take (ad.off+(i*t'.size+f))++([]:List Value)++arr.toList.drop (ad.off+(i*t'.size+f)+([]:List Value).length)).toArray=arr:=by
   simp only[List.append_nil,List.length_nil,Nat.add_zero,List.take_append_drop,Array.toArray_toList]
  rw[e0,setRow_self w ad.block arr te (0,0) hh]
  refine jc R hfr fun x=> ?_
  rw[hget]
  split
  ·next e=>
   rw[e,hg]
   congr 1
   show xs.set i (xs.getD i (bm t'))=xs
   refine List.ext_getElem? fun k=> ?_
   rw[List.getElem?_set]
   split
   ·next e2=>
    subst e2
    first
     |(rw[if_pos hi];exact(dP hi).symm)
     |exact(dP hi).symm
   ·rfl
  ·rfl
 |v::vs,us,f,xs,st,st',w,arr,R,hg,hi,hA,hfit,hq,hh,hsz,hsp,hfr,hget=>by
  rw[ai]at hA
  obtain⟨u,us',rfl,hA1,hA2⟩:=hA
  generalize us'=us at hA2 hsz⊢
  unfold jq at hfit
  simp only[Bool.and_eq_true]at hfit
  obtain⟨f1,f2⟩:=hfit
  have f1:cI v (cellAt t' (xs.getD i (bm t')) f).1=true:=by rw[ja]at f1⊢;exact f1
  simp only[List.length_cons]at hsz
  have hxl:i<(xs.set i (bz t' (xs.getD i (bm t')) f (fq v))).length:=by rw[List.length_set];exact hi
  have hgetI: ∀x,(st.ep r (.row true t' (xs.set i (bz t' (xs.getD i (bm t')) f (fq v))))).get x=if x=r then .row true t' (xs.set i (bz t' (xs.getD i (bm t')) f (fq v)))else st.get x:=fun x=>dN _ _ _ _
  obtain⟨R1,_,arr0,te0,k1,k2⟩:=D4 (st':=st.ep r (.row true t' (xs.set i (bz t' (xs.getD i (bm t')) f (fq v))))) R hg hgH hi hA1 f1 hq rfl hgetI
  have hflat: ∀(vs:List AV) (us:List Value) (f':Nat),ai st.get g vs us→jq t' f' vs=true→ai (st.ep r (.row true t' (xs.set i (bz t' (xs.getD i (bm t')) f (fq v))))).get g vs us:=by
   intro vs
   induction vs with
   |nil=>intro us f' h _;rw[ai]at h⊢;exact h
   |cons a vs ih=>
    intro us f' h hf
    rw[ai]at h⊢
    obtain⟨b,us',e,h1,h3⟩:=h
    unfold jq at hf
    simp only[Bool.and_eq_true]at hf
    refine⟨b,us',e,?_,ih us' (f'+1) h3 hf.2⟩
    have h2:=hf.1
    generalize(cellAt t' (bm t') f').1=c at h2
    cases c<;>simp only[cI]at h2<;>cases a<;>simp only[Bool.false_eq_true]at h2
    all_goals (rw[ae]at h1⊢;exact h1)
  have hwc:w.setCell (ad.add (i*t'.size+f)) u=w.setRow ad.block (arr.setIfInBounds (ad.off+(i*t'.size+f)) u):=by
   rw[kN hsp]
   exact setCell_eq_setRow w _ _ arr te (0,0) u hh
  rw[hwc]at R1
  have hx1:(xs.set i (bz t' (xs.getD i (bm t')) f (fq v))).getD i (bm t')=bz t' (xs.getD i (bm t')) f (fq v):=by
   rw[List.getD_eq_getElem?_getD,List.getElem?_set,if_pos rfl,if_pos hi];rfl
  have ih:=su hgH te vs us (f+1) (xs.set i (bz t' (xs.getD i (bm t')) f (fq v))) (st.ep r (.row true t' (xs.set i (bz t' (xs.getD i (bm t')) f (fq v))))) st' (w.setRow ad.block (arr.setIfInBounds (ad.off+(i*t'.size+f)) u)) (arr.setIfInBounds (ad.off+(i*t'.size+f)) u)
   R1 (bQ _ _ _) hxl (hflat vs us (f+1) hA2 f2) f2 (fun j r' p t xs' e=>by
    rw[hgetI]at e
    split at e
    ·cases e
    ·exact hq j r' p t xs' e) (setRow_heap w _ arr _ te (0,0) hh) (by rw[Array.size_setIfInBounds];omega) hsp hfr (fun x=>by
    rw[hget,hgetI]
    split
    ·rw[hx1,List.set_set];rfl
    ·rfl)
  rw[setRow_setRow]at ih
  have hl:(arr.setIfInBounds (ad.off+(i*t'.size+f)) u).toList.take (ad.off+(i*t'.size+(f+1)))++us++(arr.setIfInBounds (ad.off+(i*t'.size+f)) u).toList.drop (ad.off+(i*t'.size+(f+1))+us.length)=
    arr.toList.take (ad.off+(i*t'.size+f))++u::us++arr.toList.drop (ad.off+(i*t'.size+f)+(us.length+1)):=by
   have hlt:ad.off+(i*t'.size+f)<arr.toList.length:=by simp;omega
   have hts:(arr.toList.set (ad.off+(i*t'.size+f)) u).take (ad.off+(i*t'.size+f)+1)=arr.toList.take (ad.off+(i*t'.size+f))++ [u]:=by
    rw[List.take_succ_eq_append_getElem (by rw[List.length_set];exact hlt),List.take_set_of_le (Nat.le_refl _),List.getElem_set_self]
   rw[Array.toList_setIfInBounds,show ad.off+(i*t'.size+(f+1))=ad.off+(i*t'.size+f)+1 by omega,hts,List.drop_set_of_lt (by omega),show ad.off+(i*t'.size+f)+1+us.length=ad.off+(i*t'.size+f)+(us.length+1) by omega]
   simp
  rw[hl]at ih
  exact ih
theorem uD{t:TypeId}{x y:Operand}(ho:o.op= .store t x y)(R:Rel w0 st g born (a::asx) w){r i f:Nat}{t':Ty}{xs:List (den t')}{vs:List AV}{ok':List Tst}{q:List (Nat×Option Nat)}
  (hx:ae st.get g (.pe r [] i f) (a.eval x)) (hg:st.get r= .row true t' xs) (hk:fL P t=true) (hlen:vs.length=P.cellsOf t) (hne:vs≠ []) (hfit:jq t' f vs=true) (hi:i<xs.length)
  (hA:ai st.get g vs (a.eval y).cells.toList) (hone: ∀z∈(a.eval y).cells.toList,z.oneCell'=true) (hq: ∀j r' p t xs,st.get j= .pend r' p t xs→r'≠r):
  cu P o a.eval w (dU w0 st born (a::asx) {ok:=ok',v:= .tup [],upd:= [(r,.row true t' (xs.set i (ml t' (xs.getD i (bm t')) f vs)))],quiet:=q}):=by
 have hrow:rowAt t' xs []=([],⟨t',xs⟩):=rfl
 have hok:aN ([]:List Tst):=fun _ h=>by cases h
 have hlen1:=cW hA
 have hsz: ∀(vs:List AV) (f:Nat),jq t' f vs=true→f+vs.length≤t'.size∨vs= []:=by
  intro vs
  induction vs with
  |nil=>intro _ _;exact .inr rfl
  |cons v vs ih=>
   intro f h
   unfold jq at h
   simp only[Bool.and_eq_true]at h
   have h1:=oG t' f v (by rw[←ja t' (bm t') f];exact h.1)
   rcases ih (f+1) h.2 with h2|h2
   ·left;simp only[List.length_cons];omega
   ·left;rw[h2];simp only[List.length_cons,List.length_nil];omega
 have hb:f+vs.length≤t'.size:=(hsz vs f hfit).resolve_right hne
 have hpos:0<vs.length:=List.length_pos_iff.2 hne
 obtain⟨ad,n,cap,h1,h2,h3,h4,hc,⟨arr,te,h5,h6⟩,h7,h8,h9,h10⟩:=mA R hg hrow hok hi (show f<t'.size by omega) hx
 have hx':ae st.get g (.pe r [] i (f+vs.length-1)) (.pointer (some (ad.add (i*t'.size+(f+vs.length-1))))):=by
  rw[ae]
  refine⟨⟨_,rfl⟩,fun t e ht he=> ?_⟩
  rw[hg]at ht
  injection ht with ht
  subst ht
  injection he with he
  subst he
  exact⟨ad,n,cap,h1,rfl⟩
 obtain⟨ad',n',cap',q1,q2,q3,q4,qc,⟨arr',te',q5,q6⟩,_⟩:=mA R hg hrow hok hi (show f+vs.length-1<t'.size by omega) hx'
 have e1:ad'=ad:=by
  rw[h1]at q1
  injection q1 with q1
  injection q1 with q1
  exact q1.symm
 subst e1
 rw[h5]at q5
 injection q5 with q5
 injection q5 with q5
 subst q5
 have hus:(a.eval y).cells.toList.length=vs.length:=by omega
 have hbound:ad'.off+(i*t'.size+f)+(a.eval y).cells.toList.length≤arr.size:=by omega
 have hst:=run_storeCells_at P ad'.block (ad'.off+(i*t'.size+f)) te (a.eval y).cells.toList 0 arr w h5 (by omega) hone
 have hrun:(Instr.storeAt t (a.eval x) (a.eval y)).run P w= .ok () (w.setRow ad'.block (arr.toList.take (ad'.off+(i*t'.size+f))++(a.eval y).cells.toList++arr.toList.drop (ad'.off+(i*t'.size+f)+(a.eval y).cells.toList.length)).toArray):=by
  rw[h2,kN h3]
  have hcs:(a.eval y).cells.size=P.cellsOf t:=by simp at hus;omega
  simp only[Instr.storeAt,Instr.sureAddr,storeVar,Sem.run_bind,Sem.run_pure,Result.andThen_ok,lp hk,hcs]
  simp only[ne_eq,not_true_eq_false,if_false]
  simpa using hst
 have R':=su h1 te vs (a.eval y).cells.toList f xs st (st.aH [(r,.row true t' (xs.set i (ml t' (xs.getD i (bm t')) f vs)))]) w arr R hg hi hA hfit hq h5 hbound h3 rfl (fun x=>by
  show(st.ep r _).get x=_
  rw[dN])
 exact oL ho hrun ⟨_,born,R',kS _ _,fun r h=>by simp[AV.roots,AV.ah]at h,fun r h=> .inl h,fun r h=>h⟩
theorem BE{t:TypeId}{x y:Operand}(ho:o.op= .store t x y)(R:Rel w0 st g born (a::asx) w)(hok:aN (gW P t (an st x) (an st y) st.get base).ok)
  (hfr: ∀i,base≤i→i∈(gW P t (an st x) (an st y) st.get base).upd.map (·.1)→ ¬born i) (hq:a8 st.rs (gW P t (an st x) (an st y) st.get base).quiet=true):
  cu P o a.eval w (dU w0 st born (a::asx) (gW P t (an st x) (an st y) st.get base)):=by
 obtain⟨hx,hbx⟩:=bC R x
 obtain⟨hy,hby⟩:=bC R y
 revert hfr hq
 unfold gW at hok⊢
 split at hok
 ·next r c hpv=>
  rw[hpv]at hx hbx
  split at hok
  ·next cs hg=>
   generalize hf:nq P t (an st y) base=ff at hok
   obtain⟨v',rs⟩:=ff
   simp only at hok⊢
   intro hfr hq
   obtain⟨h0,h1⟩:=af.1 hok
   obtain⟨h1,h2⟩:=af.1 h1
   obtain⟨h2,h3⟩:=af.1 h2
   have h2:c+P.cellsOf t≤cs.length:=jM h2
   have h3:v'.cells.length=P.cellsOf t:=cX (af.1 h3).1
   obtain⟨g',b',R',L,A,B⟩:=oH R hy hby hf (fun i h1 h2=>hfr i h1 (by
    rw[List.map_append,List.mem_append];exact .inl ((br _ _ _).2 ⟨h1,h2⟩)))
   obtain⟨c1,c2,c3⟩:=jd A (show v'.kC=true from h1)
   have hrb:born r:=hbx r (by simp[AV.roots])
   obtain⟨e1,e2⟩:=L.old r hrb
   have hro:=R'.roots r
   unfold aF at hro
   rw[e1,hg]at hro
   obtain⟨arr,te,k1,k2,k3⟩:=hro
   rw[ae]at hx
   have hv:=hx.2 (by rw[hg];rfl)
   have hlen:=cW k3
   have hlen1:=cW c1
   have hst:=run_storeCells_at P (g' r).b c te (a.eval y).cells.toList 0 arr w k1 (by simp at hlen hlen1⊢;omega) c2
   rw[e2]at hst
   have hrun:(Instr.storeAt t (a.eval x) (a.eval y)).run P w= .ok () (w.setRow (g r).b (arr.toList.take c++(a.eval y).cells.toList++arr.toList.drop (c+(a.eval y).cells.toList.length)).toArray):=by
    rw[hv]
    have hcs:(a.eval y).cells.size=P.cellsOf t:=by simp at hlen1;omega
    simp only[Instr.storeAt,Instr.sureAddr,storeVar,Sem.run_bind,Sem.run_pure,Result.andThen_ok,lp h0,hcs]
    simp only[ne_eq,not_true_eq_false,if_false]
    simpa using hst
   have hR2:=GU (cs':=setCells cs c v'.cells) (arr':=(arr.toList.take c++(a.eval y).cells.toList++arr.toList.drop (c+(a.eval y).cells.toList.length)).toArray) R' (by rw[e1];exact hg) k1 (by
     unfold setCells
     simp only[List.toList_toArray]
     rw[←hlen1]
     exact cK (cK (fZ _ k3) c1) (gd _ k3))
    (fun z hz=>by
     simp only[List.toList_toArray,List.mem_append]at hz
     rcases hz with(hz|hz)|hz
     ·exact k2 z (List.take_subset _ _ hz)
     ·exact c2 z hz
     ·exact k2 z (List.drop_subset _ _ hz))
    (fun z hz=>by
     unfold setCells at hz
     rcases eW hz with hz|hz
     ·rcases eW hz with hz|hz
      ·exact(L.born_iff z).2 (.inl (R.bornR r z (by rw[hg];exact jh _ hz)))
      ·exact B z (c3 z hz)
     ·exact(L.born_iff z).2 (.inl (R.bornR r z (by rw[hg];exact gK _ hz))))
   rw[e2]at hR2
   refine oL ho hrun ⟨g',b',?_,kS _ _,fun r h=>by simp[AV.roots,AV.ah]at h,fun z hz=> ?_,fun z hz=>(L.born_iff z).2 (.inl hz)⟩
   ·show Rel w0 (st.aH (aj base rs++ [(r,ak.var (setCells cs c v'.cells))])) g' b' (a::asx) _
    rw[iH];exact hR2
   ·rcases(L.born_iff z).1 hz with h|h
    ·exact .inl h
    ·refine .inr ?_
     show z∈(aj base rs++ [(r,ak.var (setCells cs c v'.cells))]).map (·.1)
     rw[List.map_append,List.mem_append]
     exact .inl ((br _ _ _).2 h)
  ·exact(ay hok).elim
 ·next r p i f hpe=>
  rw[hpe]at hx
  cases hct:Nat.beq (P.cellsOf t) 1 with
  |true=>
   rw[hct]at hok
   simp only[cond_true]at hok⊢
   split at hok
   ·next t' xs hg=>
    intro _ hq
    exact vh ho (cX hct) R hx hy hg hok hq
   ·exact(ay hok).elim
  |false=>
   rw[hct]at hok
   simp only[cond_false]at hok⊢
   split at hok
   ·next t' xs hg=>
    intro _ hq
    unfold wY at hok hq⊢
    obtain⟨h0,h1⟩:=af.1 hok
    obtain⟨h1,h2⟩:=af.1 h1
    obtain⟨h2,h3⟩:=af.1 h2
    obtain⟨h5,h3⟩:=af.1 h3
    obtain⟨h3,h4⟩:=af.1 h3
    have h5:(an st y).cells≠ []:=fun e=>by
     have h5:(!(an st y).cells.isEmpty)=true:=h5
     rw[e]at h5;cases h5
    have h2:(an st y).cells.length=P.cellsOf t:=cX h2
    have h3:jq t' f (an st y).cells=true:=h3
    have h4:i<xs.length:=of_decide_eq_true (show decide (i<xs.length)=true from(af.1 h4).1)
    obtain⟨c1,c2,c3⟩:=jd hy (show(an st y).kC=true from h1)
    exact uD ho R hx hg h0 h2 h5 h3 h4 c1 c2 (jL hq (by simp))
   ·exact(ay hok).elim
 ·exact(ay hok).elim
end
end Go.Am
end
section
/- Soundness: literals of structs and arrays. -/
namespace Go.Am
attribute [local instance] D.real
section
variable {P : Program} {w0 : bu} {w w' : World} {st st' : St} {g g' : aB} {born : Nat → Prop} {a : Act} {asx acts : List Act} {o : Oper} {base : Nat}
theorem zy{vs:List Value}{off:Nat}{cells:Array Value}(h:off+vs.length≤cells.size):
  ((vs.zipIdx).foldl (fun cs x=>cs.setIfInBounds (off+x.2) x.1) cells).toList=cells.toList.take off++vs++cells.toList.drop (off+vs.length):=by
 obtain⟨h1,h2⟩:=uk vs 0 off cells
 apply List.ext_getElem?
 intro q
 have:=h2 q
 rw[Array.getElem?_toList,this,List.append_assoc]
 have ht:(cells.toList.take off).length=off:=by simp;omega
 rcases Nat.lt_or_ge q off with hq|hq
 ·rw[if_neg (by omega),List.getElem?_append_left (by omega),List.getElem?_take,if_pos hq];simp
 ·rw[List.getElem?_append_right (by omega),ht]
  rcases Nat.lt_or_ge q (off+vs.length)with hq2|hq2
  ·rw[if_pos (by omega),List.getElem?_append_left (by omega)]
   rfl
  ·rw[if_neg (by omega),List.getElem?_append_right (by omega),List.getElem?_drop]
   have:off+vs.length+(q-off-vs.length)=q:=by omega
   rw[this];simp
theorem pQ{place:Nat→Option (Nat×TypeId)}{place':Nat→Option (Nat×Nat)}(hpl: ∀i off t,place i=some (off,t)→place' i=some (off,P.cellsOf t)):
  ∀(pa:List (Nat×AV)) (pv:List (Nat×Value)) (st:St) (g:aB) (born:Nat→Prop) (base:Nat) (cs cs':List AV) (cells:Array Value) (ok:List Tst) (rs:List ak),
   Rel w0 st g born acts w→ai st.get g cs cells.toList→(∀x∈cells.toList,x.oneCell'=true)→(∀r∈AV.ah cs,born r)→pa.map (·.1)=pv.map (·.1)→ai st.get g (pa.map (·.2)) (pv.map (·.2))→(∀r∈AV.ah (pa.map (·.2)),born r)→
   jF P place pa cs base=(ok,cs',rs)→aN ok→(∀i,base≤i→i<base+rs.length→ ¬born i)→
   ∃cells',Instr.fill place' cells pv=some cells'∧ ∃g' born',Rel w0 (st.aH (aj base rs)) g' born' acts w∧Laid st (st.aH (aj base rs)) g g' born born' base (base+rs.length)∧
    ai (st.aH (aj base rs)).get g' cs' cells'.toList∧(∀x∈cells'.toList,x.oneCell'=true)∧ ∀r∈AV.ah cs',born' r
 | [],pv,st,g,born,base,cs,cs',cells,ok,rs,R,hA,h1,hb,he,_,_,h,_,_=>by
  have:pv= []:=by cases pv with
   |nil=>rfl
   |cons=>simp at he
  subst this
  simp only[jF,Prod.mk.injEq]at h
  obtain⟨_,rfl,rfl⟩:=h
  exact⟨cells,rfl,g,born,R,Laid.refl _ _ _ _,hA,h1,hb⟩
 |(i,v)::pa,pv,st,g,born,base,cs,cs',cells,ok,rs,R,hA,h1,hb,he,hP,hPb,h,hok,hfr=>by
  cases pv with
  |nil=>simp at he
  |cons q pv=>
   obtain⟨i',u⟩:=q
   simp only[List.map_cons,List.cons.injEq]at he
   obtain⟨rfl,he⟩:=he
   unfold jF at h
   split at h
   ·simp only[Prod.mk.injEq]at h;obtain⟨rfl,_⟩:=h;exact(ay hok).elim
   ·next off t hpi=>
    generalize hf:nq P t v base=ff at h
    obtain⟨v',rs1⟩:=ff
    simp only at h
    generalize hf2:jF P place pa (setCells cs off v'.cells) (base+rs1.length)=f2 at h
    obtain⟨ok2,cs2,rs2⟩:=f2
    simp only[Prod.mk.injEq]at h
    obtain⟨rfl,rfl,rfl⟩:=h
    obtain⟨k1,k2⟩:=aq.1 hok
    obtain⟨k1,k3⟩:=af.1 k1
    obtain⟨k3,k4⟩:=af.1 k3
    have k3:v'.cells.length=P.cellsOf t:=cX k3
    have k4:off+P.cellsOf t≤cs.length:=jM (af.1 k4).1
    simp only[List.map_cons]at hP hPb
    rw[ai]at hP
    obtain⟨x,xs,e,hv,hP⟩:=hP
    injection e with e1 e2
    subst e1;subst e2
    obtain⟨g1,b1,R1,L1,A1,B1⟩:=oH R hv (fun r hr=>hPb r (by simp only[AV.ah,List.mem_append];exact .inl hr)) hf (fun i h1 h2=>hfr i h1 (by simp;omega))
    obtain⟨c1,c2,c3⟩:=jd A1 (show v'.kC=true from k1)
    have hl1:=cW c1
    have hl2:=cW hA
    have hus:u.cells.size=P.cellsOf t:=by simp at hl1;omega
    have hfit:off+P.cellsOf t≤cells.size:=by simp at hl2;omega
    have hfill:=fill_eq (place:=place') (cells:=cells) (i:=i) (v:=u) (rest:=pv) (hpl i off t hpi) hus hfit
    have hto:=zy (vs:=u.cells.toList) (off:=off) (cells:=cells) (by simp;omega)
    have hA1:ai (st.aH (aj base rs1)).get g1 (setCells cs off v'.cells) ((u.cells.toList.zipIdx).foldl (fun cs x=>cs.setIfInBounds (off+x.2) x.1) cells).toList:=by
     rw[hto]
     unfold setCells
     have hA':=bZ (get':=(st.aH (aj base rs1)).get) (g':=g1) cs _ (fun r hr=>L1.holds (hb r hr)) hA
     rw[hl1]
     exact cK (cK (fZ _ hA') c1) (gd _ hA')
    obtain⟨cells',o1,g2,b2,R2,L2,A2,O2,B2⟩:=pQ hpl pa pv _ g1 b1 (base+rs1.length) _ _ _ ok2 rs2 R1 hA1 (fun y hy=>by
      rw[hto]at hy
      simp only[List.mem_append]at hy
      rcases hy with(hy|hy)|hy
      ·exact h1 y (List.take_subset _ _ hy)
      ·exact c2 y hy
      ·exact h1 y (List.drop_subset _ _ hy))
     (fun r hr=>by
      unfold setCells at hr
      rcases eW hr with hr|hr
      ·rcases eW hr with hr|hr
       ·exact(L1.born_iff r).2 (.inl (hb r (jh _ hr)))
       ·exact B1 r (c3 r hr)
      ·exact(L1.born_iff r).2 (.inl (hb r (gK _ hr))))
     he (bZ _ _ (fun r hr=>L1.holds (hPb r (by simp only[AV.ah,List.mem_append];exact .inr hr))) hP)
     (fun r hr=>(L1.born_iff r).2 (.inl (hPb r (by simp only[AV.ah,List.mem_append];exact .inr hr)))) hf2 k2
     (fun i h1 h2 hbi=>((L1.born_iff i).1 hbi).elim (hfr i (by omega) (by simp;omega)) fun h=>by omega)
    have hset:st.aH (aj base (rs1++rs2))=(st.aH (aj base rs1)).aH (aj (base+rs1.length) rs2):=by
     rw[ig,iH]
    rw[hset]
    refine⟨cells',by rw[hfill];exact o1,g2,b2,R2,?_,A2,O2,B2⟩
    have:=Laid.trans (by omega) (by omega) L1 L2
    rw[List.length_append,←Nat.add_assoc];exact this
theorem wT: ∀(fs:List Field),(fs.all fun f=>(P.info? f.type).isSome)=true→ ∃places,fs.mapM (fun f=>(P.info? f.type).map fun i=>(f.offset,i.size))=some places∧ ∀(i:Nat) (f:Field),fs[i]?=some f→places[i]?=some (f.offset,P.cellsOf f.type)
 | [],_=>⟨[],rfl,fun i f h=>by simp at h⟩
 |f::fs,h=>by
  simp only[List.all_cons,Bool.and_eq_true]at h
  obtain⟨i,hi⟩:=Option.isSome_iff_exists.1 h.1
  obtain⟨places,h1,h2⟩:=wT fs h.2
  refine⟨(f.offset,i.size)::places,by simp[List.mapM_cons,hi,h1],fun j f' hj=> ?_⟩
  cases j with
  |zero=>
   simp only[List.getElem?_cons_zero,Option.some.injEq]at hj
   subst hj
   simp[Program.cellsOf,hi]
  |succ j=>simpa using h2 j f' (by simpa using hj)
theorem A6{t:TypeId}{ps:Array (Nat×Operand)}(ho:o.op= .build t ps)(R:Rel w0 st g born (a::asx) w)
  (hok:aN (mH P t ((ps.toList.map (·.1)).zip ((ps.toList.map (·.2)).map (an st))) base).ok)
  (hfr: ∀i,base≤i→i∈(mH P t ((ps.toList.map (·.1)).zip ((ps.toList.map (·.2)).map (an st))) base).upd.map (·.1)→ ¬born i):
  cu P o a.eval w (dU w0 st born (a::asx) (mH P t ((ps.toList.map (·.1)).zip ((ps.toList.map (·.2)).map (an st))) base)):=by
 rw[nJ]at hok hfr⊢
 obtain⟨hA,hAb⟩:=nT R (ps.toList.map (·.2))
 revert hfr
 unfold mH at hok⊢
 split at hok
 ·exact(ay hok).elim
 next cs rs hz=>
 generalize hf:jF P (placeOf P t) (ps.toList.map fun p=>(p.1,an st p.2)) cs (base+rs.length)=ff at hok
 obtain⟨ok,cs',rs'⟩:=ff
 simp only at hok⊢
 intro hfr
 obtain⟨k1,k2⟩:=aq.1 hok
 have k2:vi P t=true:=(af.1 k2).1
 obtain⟨z,i,z1,z2,_,z3,g1,b1,R1,L1,A1,B1⟩:=zO R hz (fun i h1 h2=>hfr i h1 ((br _ _ _).2 ⟨h1,by simp;omega⟩))
 obtain⟨place',hpl,hbuilt⟩: ∃place':Nat→Option (Nat×Nat),(∀i off t',placeOf P t i=some (off,t')→place' i=some (off,P.cellsOf t'))∧ ∀pv cells',Instr.fill place' z.cells pv=some cells'→P.built t pv=some cells':=by
  unfold vi at k2
  split at k2
  ·next fs hu=>
   obtain⟨places,p1,p2⟩:=wT fs.toList k2
   refine⟨(places.toArray[·]?),fun i off t' h=> ?_,fun pv cells' h=> ?_⟩
   ·unfold placeOf at h
    rw[hu]at h
    simp only at h
    obtain⟨fs',fld,q1,q2,rfl,rfl⟩:=kJ h
    rw[hu]at q1
    injection q1 with q1
    injection q1 with q1
    subst q1
    have:=p2 i fld (by simpa using q2)
    simpa using this
   ·unfold Program.built
    rw[z1,hu]
    simp only[z2,p1]
    exact h
  ·next m e hu=>
   obtain⟨ie,hie⟩:=Option.isSome_iff_exists.1 k2
   refine⟨fun i=>some (i*ie.size,ie.size),fun i off t' h=> ?_,fun pv cells' h=> ?_⟩
   ·unfold placeOf at h
    rw[hu]at h
    simp only at h
    cases hb:Nat.blt i m with
    |true=>
     rw[hb]at h
     simp only[cond_true,Option.some.injEq,Prod.mk.injEq]at h
     obtain⟨rfl,rfl⟩:=h
     simp[Program.cellsOf,hie]
    |false=>rw[hb]at h;cases h
   ·unfold Program.built
    rw[z1,hu]
    simp only[z2,hie]
    exact h
  ·cases k2
 obtain⟨cells',o1,g2,b2,R2,L2,A2,O2,B2⟩:=pQ (P:=P) hpl (ps.toList.map fun p=>(p.1,an st p.2)) (ps.toList.map fun p=>(p.1,a.eval p.2)) _ g1 b1 (base+rs.length) cs cs' z.cells ok rs' R1 A1 z3 B1 (by simp)
  (by
   have e1:(ps.toList.map fun p=>(p.1,an st p.2)).map (·.2)=(ps.toList.map (·.2)).map (an st):=by simp
   have e2:(ps.toList.map fun p=>(p.1,a.eval p.2)).map (·.2)=(ps.toList.map (·.2)).map a.eval:=by simp
   rw[e1,e2]
   exact bZ _ _ (fun r hr=>L1.holds (hAb r hr)) hA)
  (fun r hr=>by
   have e1:(ps.toList.map fun p=>(p.1,an st p.2)).map (·.2)=(ps.toList.map (·.2)).map (an st):=by simp
   rw[e1]at hr
   exact(L1.born_iff r).2 (.inl (hAb r hr))) hf k1
  (fun i h1 h2 hbi=>((L1.born_iff i).1 hbi).elim (hfr i (by omega) ((br _ _ _).2 ⟨by omega,by simp;omega⟩)) fun h=>by omega)
 have hset:st.aH (aj base (rs++rs'))=(st.aH (aj base rs)).aH (aj (base+rs.length) rs'):=by
  rw[ig,iH]
 have L:=Laid.trans (by omega) (by omega) L1 L2
 have hrun:(execOp a.eval o).run P w= .ok (.value (.agg cells')) w:=by
  have:=run_build (P:=P) w t (ps.map fun(x:Nat×Operand)=>(x.1,a.eval x.2)) cells' (hbuilt _ _ (by simpa using o1))
  unfold execOp;rw[ho]
  simp[this]
 refine cu.value hrun ⟨g2,b2,?_,?_,fun r hr=>B2 r (by simpa[AV.roots]using hr),fun r hr=> ?_,fun r hr=>(L.born_iff r).2 (.inl hr)⟩
 ·show Rel w0 (st.aH (aj base (rs++rs'))) g2 b2 (a::asx) w
  rw[hset];exact R2
 ·show ae (st.aH (aj base (rs++rs'))).get g2 (.agg cs') _
  rw[hset,ae]
  exact⟨cells',rfl,O2,A2⟩
 ·refine((L.born_iff r).1 hr).imp id fun h=> ?_
  show r∈(aj base (rs++rs')).map (·.1)
  rw[br,List.length_append];omega
def D7:(e:Ty)→den e→List AV
 | .int k,n=> [.int k n]
 | .pair (.int k) (.int l),d=> [.int k d.1,.int l d.2]
 |_,_=> []
def n9:(e:Ty)→den e→List Value
 | .int k,n=> [.int k n]
 | .pair (.int k) (.int l),d=> [.int k d.1,.int l d.2]
 |_,_=> []
theorem jR{e:Ty}(h:Aa e=true):(∃k,e= .int k)∨ ∃k l,e= .pair (.int k) (.int l):=by
 cases e with
 |int k=>exact .inl ⟨k,rfl⟩
 |pair a b=>cases a<;>cases b<;>first|exact .inr ⟨_,_,rfl⟩|cases h
 |_=>cases h
section
variable {e : Ty} (he : Aa e = true) (y : den e)
include he
theorem xS:(n9 e y).length=e.size:=by
 rcases jR he with⟨k,rfl⟩|⟨k,l,rfl⟩<;>rfl
theorem F7{get:Get}{g:aB}:ai get g (D7 e y) (n9 e y):=by
 rcases jR he with⟨k,rfl⟩|⟨k,l,rfl⟩
 ·unfold D7 n9
  rw[ai]
  exact⟨_,_,rfl,by rw[ae],by rw[ai]⟩
 ·unfold D7 n9
  rw[ai]
  refine⟨_,_,rfl,by rw[ae],?_⟩
  rw[ai]
  exact⟨_,_,rfl,by rw[ae],by rw[ai]⟩
theorem GD:jq e 0 (D7 e y)=true:=by
 rcases jR he with⟨k,rfl⟩|⟨k,l,rfl⟩
 ·show(decide (k=k)&&true)=true
  simp
 ·show(decide (k=k)&&(decide (l=l)&&true))=true
  simp
theorem GR(o:den e):ml e o 0 (D7 e y)=y:=by
 rcases jR he with⟨k,rfl⟩|⟨k,l,rfl⟩<;>rfl
theorem GV: ∀v∈n9 e y,v.oneCell'=true:=by
 rcases jR he with⟨k,rfl⟩|⟨k,l,rfl⟩
 ·intro v hv
  rw[List.mem_singleton.1 hv];rfl
 ·intro v hv
  rcases List.mem_cons.1 hv with h|h
  ·rw[h];rfl
  ·rw[List.mem_singleton.1 h];rfl
theorem GO{w:World}{b:Bool}{G:Nat→Path→Value}{rd:Nat→Option Value}(h:Rep w b e y G 0 rd): ∀f v,(n9 e y)[f]?=some v→rd f=some v:=by
 rcases jR he with⟨k,rfl⟩|⟨k,l,rfl⟩
 ·intro f v hv
  cases f with
  |zero=>injection hv with hv;subst hv;exact h
  |succ f=>cases hv
 ·intro f v hv
  obtain⟨h1,h2⟩:=h
  match f with
  |0=>injection hv with hv;subst hv;exact h1
  |1=>injection hv with hv;subst hv;exact h2
  |f+2=>cases hv
end
theorem He(L u v:List Value)(p:Nat)(h:p+u.length≤L.length):
  (L.take p++u++L.drop (p+u.length)).take (p+u.length)++v++(L.take p++u++L.drop (p+u.length)).drop (p+u.length+v.length)=L.take p++(u++v)++L.drop (p+(u++v).length):=by
 have hl:(L.take p++u).length=p+u.length:=by rw[List.length_append,List.length_take,Nat.min_eq_left (by omega)]
 rw[List.take_left' hl,←List.drop_drop,List.drop_left' hl,List.drop_drop,List.length_append,←Nat.add_assoc]
 simp only[List.append_assoc]
theorem Cx{r n cap:Nat}{e:Ty}(he:Aa e=true){ad:Addr}(hgH:(g r).H []= .slice (some ad) n cap)(te:TypeId): ∀(ys:List (den e)) (i:Nat) (xs:List (den e)) (st st':St) (w:World) (arr:Array Value),
  Rel w0 st g born acts w→st.get r= .row true e xs→i+ys.length≤xs.length→(∀j r' p t xs,st.get j= .pend r' p t xs→r'≠r)→w.heap[ad.block]?=some (.cells arr te (0,0))→
  ad.off+i*e.size+ys.length*e.size≤arr.size→ad.spot=none→st'.fr=st.fr→(∀x,st'.get x=if x=r then .row true e (xs.take i++(ys++xs.drop (i+ys.length)):List (den e))else st.get x)→
  Rel w0 st' g born acts (w.setRow ad.block (arr.toList.take (ad.off+i*e.size)++ys.flatMap (n9 e)++arr.toList.drop (ad.off+i*e.size+(ys.flatMap (n9 e)).length)).toArray)
 | [],i,xs,st,st',w,arr,R,hg,hi,_,hh,_,_,hfr,hget=>by
  have e0:(arr.toList.take (ad.off+i*e.size)++([]:List (den e)).flatMap (n9 e)++arr.toList.drop (ad.off+i*e.size+(([]:List (den e)).flatMap (n9 e)).length)).toArray=arr:=by
   simp only[List.flatMap_nil,List.append_nil,List.length_nil,Nat.add_zero,List.take_append_drop,Array.toArray_toList]
  rw[e0,setRow_self w ad.block arr te (0,0) hh]
  refine jc R hfr fun x=> ?_
  rw[hget]
  split
  ·next e=>
   rw[e,hg]
   congr 1
   simp
  ·rfl
 |y::ys,i,xs,st,st',w,arr,R,hg,hi,hq,hh,hsz,hsp,hfr,hget=>by
  simp only[List.length_cons,Nat.succ_mul]at hi hsz
  have hn:=xS he y
  have hgetI: ∀x,(st.ep r (.row true e (xs.set i y:List (den e)))).get x=if x=r then .row true e (xs.set i y:List (den e))else st.get x:=fun x=>dN _ _ _ _
  have R1:=su (i:=i) hgH te (D7 e y) (n9 e y) 0 xs st (st.ep r (.row true e (xs.set i y:List (den e)))) w arr R hg (by omega) (F7 he y) (GD he y) hq hh (by rw[hn];omega) hsp rfl (fun x=>by rw[hgetI,GR he])
  have ih:=Cx he hgH te ys (i+1) (xs.set i y) (st.ep r (.row true e (xs.set i y:List (den e)))) st' _ _
   R1 (bQ _ _ _) (by rw[List.length_set];omega) (fun j r' p t xs' e=>by
    rw[hgetI]at e
    split at e
    ·cases e
    ·exact hq j r' p t xs' e) (setRow_heap w _ arr _ te (0,0) hh) (by
     simp only[List.size_toArray,List.length_append,List.length_take,List.length_drop,hn,Array.length_toList,Nat.succ_mul]
     omega) hsp hfr (fun x=>by
    rw[hget,hgetI]
    split
    ·congr 1
     have hts:(xs.set i y).take (i+1)=xs.take i++ [y]:=by
      rw[List.take_succ_eq_append_getElem (by rw[List.length_set];omega),List.take_set_of_le (Nat.le_refl _),List.getElem_set_self]
     rw[hts,List.drop_set_of_lt (by omega),show i+1+ys.length=i+(ys.length+1) by omega]
     simp
    ·rfl)
  rw[setRow_setRow]at ih
  have hl:=He arr.toList (n9 e y) (ys.flatMap (n9 e)) (ad.off+i*e.size) (by rw[hn,Array.length_toList];omega)
  rw[List.flatMap_cons]
  rw[←hl]
  simp only[hn,Nat.add_zero,Nat.succ_mul,←Nat.add_assoc]at ih⊢
  exact ih
theorem C5{α:Type}{sz:Nat}{sub:Option (Nat×Nat)}{xs:List α}{da:Option Addr}{dc:Nat}{v:Value}(h:mI sz sub (.slice da xs.length dc) v)(hda:0<xs.length→ ∃ad,da=some ad):
  ∃dp dcap,v= .slice dp (bR sub xs) dcap∧cF sub 0+bR sub xs≤xs.length∧(0<bR sub xs→ ∃ad,da=some ad∧dp=some (ad.add (cF sub 0*sz))):=by
 cases sub with
 |none=>
  have h:v= .slice da xs.length dc:=h
  refine⟨da,dc,h,by show 0+xs.length≤xs.length;omega,fun hp=> ?_⟩
  obtain⟨ad,rfl⟩:=hda hp
  refine⟨ad,rfl,?_⟩
  show some ad=some (ad.add (0*sz))
  rw[Nat.zero_mul];rfl
 |some ol=>
  obtain⟨o,l⟩:=ol
  rcases h with⟨h1,h2,rfl,rfl⟩|⟨ad,n,c,j,h1,h2,h3,h4,h5,h6⟩
  ·exact⟨none,0,h2,by show(0+0)+0≤_;omega,fun hp=>absurd hp (Nat.lt_irrefl 0)⟩
  ·injection h1 with h1 h7 h8
   subst h1;subst h7;subst h8
   refine⟨_,_,h2,by show(o+0)+l≤_;omega,fun hp=>⟨ad,rfl,?_⟩⟩
   have hp:0<l:=hp
   have:j=o:=by rcases h6 with h|h<;>omega
   subst this
   rfl
theorem wM(w:World)(dT sT ty elem:TypeId)(g o dLen dCap sz:Nat)(a:Addr)(sLen sCap:Nat)(cur:Array Value)(t:TypeId)(cs:List Value)
  (hu:P.underlying dT=some (.slice elem)) (hs:(P.info? elem).map (·.size)=some sz)
  (hg:w.heap[g]?=some (.cells cur t (0,0))) (hn:cs.length=Nat.min sLen dLen*sz)
  (hsrc: ∀j v,cs[j]?=some v→w.cell? (a.add j)=some v) (hfit:o+cs.length≤cur.size) (h1: ∀v∈cs,v.oneCell'=true):
  (Builtin.copy_ #[dT,sT] ty #[.slice (some ⟨g,o,none⟩) dLen dCap,.slice (some a) sLen sCap]).run P w=
   .ok (goInt (Nat.min sLen dLen)) (w.setRow g (cur.toList.take o++cs++cur.toList.drop (o+cs.length)).toArray):=by
 have hl:=run_loadCells_list (P:=P) w a cs hsrc
 have hst:=run_storeCells_at P g o t cs 0 cur w hg (by simpa using hfit) h1
 cases hq:P.info? elem with
 |none=>simp[hq]at hs
 |some i=>
  have hi:i.size=sz:=by simpa[hq]using hs
  simp[Builtin.copy_,run_underlying hu,Builtin.lenOf,Builtin.firstCells,sizeOf,typeInfo,hq,hi,←hn,hl,hst]
theorem wz(w:World)(dT sT ty elem:TypeId)(d a:Option Addr)(dLen dCap sLen sCap sz:Nat)(hu:P.underlying dT=some (.slice elem))(hs:(P.info? elem).map (·.size)=some sz)(hn:Nat.min sLen dLen=0):
  (Builtin.copy_ #[dT,sT] ty #[.slice d dLen dCap,.slice a sLen sCap]).run P w= .ok (goInt 0) w:=by
 cases hq:P.info? elem with
 |none=>simp[hq]at hs
 |some i=>
  have hl: ∀(x:Addr),(loadCells x 0).run P w= .ok #[] w:=fun x=>by simpa using run_loadCells_list (P:=P) w x [] (by simp)
  cases d<;>cases a<;>simp[Builtin.copy_,run_underlying hu,Builtin.lenOf,Builtin.firstCells,sizeOf,typeInfo,hq,hn,storeCells,hl]
theorem mK{e:Ty}(he:Aa e=true): ∀ys:List (den e),(ys.flatMap (n9 e)).length=ys.length*e.size
 | []=>by simp
 |y::ys=>by rw[List.flatMap_cons,List.length_append,mK he ys,xS he,List.length_cons,Nat.succ_mul];omega
theorem CG{e:Ty}(he:Aa e=true): ∀(ys:List (den e)) (j:Nat) (v:Value),(ys.flatMap (n9 e))[j]?=some v→ ∃i y f,ys[i]?=some y∧(n9 e y)[f]?=some v∧j=i*e.size+f
 | [],j,v,h=>by simp at h
 |y::ys,j,v,h=>by
  have hn:=xS he y
  rw[List.flatMap_cons,List.getElem?_append]at h
  split at h
  ·exact⟨0,y,j,rfl,h,by omega⟩
  ·obtain⟨i,y',f,a,b,c⟩:=CG he ys _ v h
   exact⟨i+1,y',f,a,b,by rw[Nat.succ_mul];omega⟩
theorem D9{t u ty:TypeId}{xv:AV}{s x:Operand}{r:Nat}{sub:Option (Nat×Nat)}{k:Ty}(hnum:Aa k=true){xs ys:List (den k)}{ok:List Tst}{rest:List AV}
  (hrun: ∀r w',(Builtin.copy_ #[t,u] ty #[a.eval s,a.eval x]).run P w= .ok r w'→(execOp a.eval o).run P w= .ok (.value r) w')
  (R:Rel w0 st g born (a::asx) w) (hd:ae st.get g (.sl r [] sub) (a.eval s)) (hs:ae st.get g xv (a.eval x)) (hg:st.get r= .row true k xs) (hrd:bp st.get (.sl k) [xv]=(ok,ys,rest))
  (hok:aN (.s (cV P t k)::ok)) (hq:a8 st.rs [(r,none)]=true):
  cu P o a.eval w (dU w0 st born (a::asx) {ok:= .s (cV P t k)::ok,v:= .int .i64 (D.ofN (D.len (D.take (bR sub xs) ys))),upd:= [(r,.row true k (D.app (D.take (cF sub 0) xs) (D.app (D.take (bR sub xs) ys) (D.drop (cF sub (D.len (D.take (bR sub xs) ys))) xs))))],quiet:= [(r,none)]}):=by
 obtain⟨k0,kok⟩:=af.1 hok
 have hA:ai st.get g [xv] [a.eval x]:=by rw[ai];exact⟨_,_,rfl,hs,by rw[ai]⟩
 have hrep:=kQ R.roots (cJ R.below) hA (.sl k) 0 ok ys rest hrd kok
 have hrep:Rep w false (.sl k) ys (Gof g [xv] [a.eval x]) 0 (fun k=> [a.eval x][k]?):=by
  rcases hrep with⟨h,_⟩|⟨h,_⟩
  ·exact h
  ·simp[Ty.size]at h
 obtain⟨h4,h5⟩:=hrep
 have h4:a.eval x=Gof g [xv] [a.eval x] 0 []:=by simpa using h4
 obtain⟨cells,hel,hcl⟩:=js h5
 obtain⟨sa,sc,hsl⟩:=mZ h5
 have hro:=R.roots r
 unfold aF at hro
 rw[hg]at hro
 obtain⟨hr1,hr2⟩:=hro
 obtain⟨da,dc,hdl⟩:=mZ hr1
 rw[ae]at hd
 have hsub:mI k.size sub ((g r).H []) (a.eval s):=hd.2 k k (by rw[hg];rfl) rfl
 rw[hdl]at hsub
 obtain⟨dp,dcap,e1,e2,e3⟩:=C5 (xs:=xs) hsub (fun hp=>by
  rcases hr1 with⟨_,h⟩|⟨ad,cap,h,_⟩
  ·rw[h]at hp;cases hp
  ·rw[hdl]at h;injection h with h;exact⟨ad,h⟩)
 obtain⟨e,i,z,hu,_,hinf,hsz,_,_,_,hposz,_⟩:=cd k0
 have hszz:(P.info? e).map (·.size)=some k.size:=by rw[hinf];simp[hsz]
 have hqq: ∀j r' p t xs,st.get j= .pend r' p t xs→r'≠r:=dI (st:=st) (l:= [r]) hq (fun q hq=>by rw[List.mem_singleton.1 hq];exact List.mem_singleton.2 rfl) r (List.mem_singleton.2 rfl)
 generalize hcs:List.take (bR sub xs) ys=cs
 have hlen:cs.length=Nat.min (List.length ys) (bR sub xs):=by rw[←hcs,List.length_take];exact Nat.min_comm _ _
 have hput:(D.app (D.take (cF sub 0) xs) (D.app (D.take (bR sub xs) ys) (D.drop (cF sub (D.len (D.take (bR sub xs) ys))) xs)))=xs.take (cF sub 0)++(cs++xs.drop (cF sub 0+cs.length)):=by
  have e: ∀n,cF sub n=cF sub 0+n:=by
   intro n
   cases sub with
   |none=>exact(Nat.zero_add n).symm
   |some ol=>rfl
  rw[←hcs]
  show xs.take (cF sub 0)++(List.take (bR sub xs) ys++xs.drop (cF sub (List.take (bR sub xs) ys).length))=_
  rw[e (List.take (bR sub xs) ys).length]
 have hcnt:D.ofN (D.len (D.take (bR sub xs) ys))=(cs.length:Int):=by rw[←hcs];rfl
 rw[hput,hcnt]
 rw[e1]at hrun
 rw[h4,hsl]at hrun
 have hdone: ∀w',Rel w0 (st.ep r (.row true k (xs.take (cF sub 0)++(cs++xs.drop (cF sub 0+cs.length)):List (den k)))) g born (a::asx) w'→
   dU w0 st born (a::asx) {ok:= .s (cV P t k)::ok,v:= .int .i64 (cs.length:Int),upd:= [(r,.row true k (xs.take (cF sub 0)++(cs++xs.drop (cF sub 0+cs.length)):List (den k)))],quiet:= [(r,none)]} (goInt cs.length) w':=fun w' R'=>
  ⟨g,born,R',by rw[ae];rfl,fun r h=>by simp[AV.roots]at h,fun r h=> .inl h,fun r h=>h⟩
 by_cases h0:cs.length=0
 ·refine⟨goInt cs.length,w,hdone w ?_,.inl (hrun _ _ ?_)⟩
  ·refine jc R rfl fun x=> ?_
   rw[dN]
   split
   ·next ex=>
    rw[ex,hg,List.eq_nil_of_length_eq_zero h0]
    simp
   ·rfl
  ·rw[h0]
   exact wz w t u ty e dp sa _ dcap _ sc k.size hu hszz (by rw[←hlen];exact h0)
 ·have hpos:0<bR sub xs:=by
   have:cs.length≤bR sub xs:=by rw[hlen];exact Nat.min_le_right _ _
   omega
  have hle:cs.length≤bR sub xs:=by rw[hlen];exact Nat.min_le_right _ _
  obtain⟨ad,rfl,rfl⟩:=e3 hpos
  have hrow:rowAt k xs []=([],⟨k,xs⟩):=rfl
  have hokN:aN ([]:List Tst):=fun _ h=>by cases h
  have hpe: ∀i f,ae st.get g (.pe r [] i f) (.pointer (some (ad.add (i*k.size+f)))):=fun i f=>by
   rw[ae]
   refine⟨⟨_,rfl⟩,fun t e ht he=> ?_⟩
   rw[hg]at ht
   injection ht with ht
   subst ht
   injection he with he
   subst he
   exact⟨ad,_,dc,hdl,rfl⟩
  obtain⟨ad',n',cap',q1,q2,q3,q4,qc,⟨arr,te,q5,q6⟩,_⟩:=mA R hg hrow hokN (show cF sub 0+cs.length-1<List.length xs by omega) (show k.size-1<k.size by omega) (hpe _ _)
  have ea:ad'=ad:=by
   rw[hdl]at q1
   injection q1 with q1
   injection q1 with q1
   exact q1.symm
  subst ea
  have hmul:(cF sub 0+cs.length-1)*k.size+k.size=cF sub 0*k.size+cs.length*k.size:=by
   rw[←Nat.succ_mul,←Nat.add_mul];congr 1;omega
  have hssa: ∃ss,sa=some ss:=by
   rcases h5 with⟨_,h⟩|⟨ss,cap,h,_⟩
   ·have:ys= []:=h
    rw[this]at hcs
    have:cs= []:=by rw[←hcs];simp
    rw[this]at h0;exact absurd rfl h0
   ·rw[hsl]at h;injection h with h;exact⟨ss,h⟩
  obtain⟨ss,rfl⟩:=hssa
  have hadd:(ad'.add (cF sub 0*k.size))=⟨ad'.block,ad'.off+cF sub 0*k.size,none⟩:=by rw[kN q3]
  have hfl:=mK hnum cs
  have hcp:=wM (P:=P) w t u ty e ad'.block (ad'.off+cF sub 0*k.size) (bR sub xs) dcap k.size ss _ sc arr te (cs.flatMap (n9 k)) hu hszz q5 (by rw[hfl,hlen]) (fun j v hj=>hcl ss _ sc hsl j v (by
    obtain⟨i,y,f,a1,a2,a3⟩:=CG hnum cs j v hj
    rw[←hcs,List.getElem?_take]at a1
    split at a1
    ·rw[a3];exact GO hnum y (hel.rep i y a1) f v a2
    ·cases a1)) (by rw[hfl];omega) (fun v hv=>by obtain⟨y,_,hy⟩:=List.mem_flatMap.1 hv;exact GV hnum y v hy)
  rw[←hlen]at hcp
  rw[hadd]at hrun
  refine⟨goInt cs.length,_,hdone _ ?_,.inl (hrun _ _ hcp)⟩
  exact Cx hnum hdl te cs (cF sub 0) xs st _ w arr R hg (by omega) hqq q5 (by omega) q3 rfl (fun x=>dN _ _ _ _)
theorem Dm{t u ty:TypeId}{sv xv:AV}{s x:Operand}(hrun: ∀r w',(Builtin.copy_ #[t,u] ty #[a.eval s,a.eval x]).run P w= .ok r w'→(execOp a.eval o).run P w= .ok (.value r) w')
  (R:Rel w0 st g born (a::asx) w) (hd:ae st.get g sv (a.eval s)) (hs:ae st.get g xv (a.eval x)) (hok:aN (gz P t sv xv st.get).ok) (hq:a8 st.rs (gz P t sv xv st.get).quiet=true):
  cu P o a.eval w (dU w0 st born (a::asx) (gz P t sv xv st.get)):=by
 have hbad: ∀{A:Prop},gz P t sv xv st.get= .bad→A:=fun e=>by rw[e]at hok;exact(ay hok).elim
 cases sv with
 |sl r p sub=>cases p with
  |cons q p=>exact hbad rfl
  |nil=>
   cases hg:st.get r with
   |row rw_ e xs=>cases rw_ with
    |false=>exact hbad (by simp only[gz,hg])
    |true=>cases hn:Aa e with
     |true=>
      have hval:gz P t (.sl r [] sub) xv st.get=match bp st.get (.sl e) [xv]with
       |(ok,ys,_)=>{ok:= .s (cV P t e)::ok,v:= .int .i64 (D.ofN (D.len (D.take (bR sub xs) ys))),upd:= [(r,.row true e (D.app (D.take (cF sub 0) xs) (D.app (D.take (bR sub xs) ys) (D.drop (cF sub (D.len (D.take (bR sub xs) ys))) xs))))],quiet:= [(r,none)]}:=by
       simp only[gz,hg,hn,cond_true]
      rw[hval]at hok hq⊢
      generalize hrd:bp st.get (.sl e) [xv]=rd at hok hq⊢
      obtain⟨ok,ys,rest⟩:=rd
      simp only at hok hq⊢
      exact D9 hn hrun R hd hs hg hrd hok hq
     |false=>exact hbad (by simp only[gz,hg,hn,cond_false])
   |_=>exact hbad (by simp only[gz,hg])
 |_=>exact hbad rfl
end
end Go.Am
end
section
/- Soundness: each operation's step. -/
namespace Go.Am
attribute [local instance] D.real
section
variable {P : Program} {w0 : bu} {w w' : World} {st st' : St} {g g' : aB} {born : Nat → Prop} {a : Act} {asx acts : List Act} {o : Oper} {base : Nat}
theorem qH{c:Call}{b:Builtin}(ho:o.op= .call c)(hc:c.callee= .builtin b):execOp a.eval o=builtin b c.argTypes o.type (c.args.map fun| .const _=>true|_=>false) (c.args.map a.eval):=by
 unfold execOp;rw[ho]
 simp only[resolve,hc]
 rfl
theorem zb{c:Call}{b:Builtin}(hc:c.callee= .builtin b):c.operands.toList=c.args.toList:=by
 unfold Call.operands;rw[hc];simp
theorem F3(hcall: ∀c,o.op= .call c→ ∃b,c.callee= .builtin b)(R:Rel w0 st g born (a::asx) w)
  (hok:aN (aP P o (o.op.operands.toList.map (an st)) st.get base).ok)
  (hfr: ∀i,base≤i→i∈(aP P o (o.op.operands.toList.map (an st)) st.get base).upd.map (·.1)→ ¬born i)
  (hq:a8 st.rs (aP P o (o.op.operands.toList.map (an st)) st.get base).quiet=true):
  cu P o a.eval w (dU w0 st born (a::asx) (aP P o (o.op.operands.toList.map (an st)) st.get base)):=by
 generalize hop:o.op=op
 cases op with
 |move x=>
  have e:aP P o (o.op.operands.toList.map (an st)) st.get base={ok:= [],v:=an st x}:=by unfold aP;rw[hop];rfl
  rw[←hop,e]
  exact bo R rfl rfl (by unfold execOp;rw[hop];rfl) (bC R x).1 (bC R x).2
 |assign x=>
  have e:aP P o (o.op.operands.toList.map (an st)) st.get base={ok:= [],v:=(nq P o.type (an st x) base).1,upd:=aj base (nq P o.type (an st x) base).2}:=by unfold aP;rw[hop];rfl
  rw[←hop,e];rw[e]at hfr
  exact Du (x:=x) (by unfold execOp;rw[hop];rfl) R hfr
 |pick c x y=>rw[←hop];exact DX hop R hok
 |alloc t=>
  have e:aP P o (o.op.operands.toList.map (an st)) st.get base=match gN P t (base+1)with
   |some (cs,rs)=>{ok:= [],v:= .pv base 0,upd:=(base,.var cs)::aj (base+1) rs}
   |none=> .bad:=by unfold aP;rw[hop];rfl
  rw[←hop,e];rw[e]at hfr hok
  revert hfr
  generalize hz:gN P t (base+1)=z at hok
  cases z with
  |none=>exact(ay hok).elim
  |some z=>obtain⟨cs,rs⟩:=z;exact fun hfr=>Bn hop R hz hfr
 |box t x=>
  have e:aP P o (o.op.operands.toList.map (an st)) st.get base=match nq P t (an st x) (base+1)with
   |(v,rs)=>{ok:= [.s v.kC],v:= .pv base 0,upd:=(base,.var v.cells)::aj (base+1) rs}:=by unfold aP;rw[hop];rfl
  rw[←hop,e];rw[e]at hfr hok
  revert hfr
  generalize hz:nq P t (an st x) (base+1)=z at hok
  obtain⟨v,rs⟩:=z
  exact fun hfr=>zJ hop R hz hok hfr
 |build t ps=>
  have e:aP P o (o.op.operands.toList.map (an st)) st.get base=mH P t ((ps.toList.map (·.1)).zip ((ps.toList.map (·.2)).map (an st))) base:=by
   unfold aP;rw[hop];simp only[Op.operands,List.toList_toArray]
  rw[←hop,e];rw[e]at hfr hok
  exact A6 hop R hok hfr
 |buildSlice t n ps=>
  have e:aP P o (o.op.operands.toList.map (an st)) st.get base=dn P t n ((ps.toList.map (·.1)).zip ((ps.toList.map (·.2)).map (an st))) st.get base:=by
   unfold aP;rw[hop];simp only[Op.operands,List.toList_toArray]
  rw[←hop,e];rw[e]at hfr hok hq
  exact tH hop R hok hfr hq
 |load t x=>
  have e:aP P o (o.op.operands.toList.map (an st)) st.get base=fg P t (an st x) st.get:=by unfold aP;rw[hop];rfl
  rw[←hop,e];rw[e]at hok
  exact DO hop R hok
 |store t x y=>
  have e:aP P o (o.op.operands.toList.map (an st)) st.get base=gW P t (an st x) (an st y) st.get base:=by unfold aP;rw[hop];rfl
  rw[←hop,e];rw[e]at hok hfr hq
  exact BE hop R hok hfr hq
 |nilCheck x=>rw[←hop];exact wF hop R hok
 |binOp op t x y yt=>rw[←hop];exact zq hop R hok
 |unOp op t x=>rw[←hop];exact DI hop R hok
 |convert s d x=>
  have e:aP P o (o.op.operands.toList.map (an st)) st.get base=ov P s d (an st x) st.get:=by unfold aP;rw[hop];rfl
  rw[←hop,e];rw[e]at hok
  exact yG hop R hok
 |makeFunc fn first cap=>
  have e:aP P o (o.op.operands.toList.map (an st)) st.get base=qw fn first.size ((first++cap).toList.map (an st)):=by unfold aP;rw[hop];rfl
  rw[←hop,e];rw[e]at hok
  exact wH hop R hok
 |makeSlice t l c=>
  have e:aP P o (o.op.operands.toList.map (an st)) st.get base=oM P t [an st l,an st c] base:=by unfold aP;rw[hop];rfl
  rw[←hop,e];rw[e]at hok hfr
  exact u6 hop R hok hfr
 |slice t x lo hi mx=>
  cases mx with
  |none=>
   have e0:(o.op.operands.toList.map (an st))=an st x::(lo.toList++(hi.toList++ [])).map (an st):=by
    rw[hop];cases lo<;>cases hi<;>simp[Op.operands]
   obtain⟨l1,l2,l3⟩:=vw R lo (hi.toList++ [])
   obtain⟨h1,h2,_⟩:=vw R hi []
   have e:aP P o (o.op.operands.toList.map (an st)) st.get base=fM P t (an st x) (od ((lo.toList++(hi.toList++ [])).map (an st)) lo).1 (od ((hi.toList++ []).map (an st)) hi).1 st.get base:=by
    rw[e0];unfold aP;rw[hop];simp only[List.headD_cons,List.tail_cons];rw[l3]
   rw[←hop,e];rw[e]at hok hfr hq
   exact wI hop R l1 l2 h1 h2 hok hfr hq
  |some m=>
   have e:aP P o (o.op.operands.toList.map (an st)) st.get base=bif isZero m&&hi.any isZero&&lo.all isZero then hZ P t (an st x) st.get base else lx P t lo (o.op.operands.toList.map (an st)) st.get base:=by
    unfold aP;rw[hop];cases lo<;>cases hi<;>rfl
   rw[←hop,e];rw[e]at hok hfr
   cases hc:(isZero m&&hi.any isZero&&lo.all isZero)with
   |false=>
    rw[e]at hq
    rw[hc]at hok hfr hq
    simp only[cond_false]at hok hfr hq⊢
    rw[hop]at hok hfr hq
    rw[show o.op.operands.toList.map (an st)=(Op.slice t x lo hi (some m)).operands.toList.map (an st) by rw[hop]]
    cases lo with
    |some l=>exact(ay hok).elim
    |none=>
     cases hi with
     |none=>
      have eo:(Op.slice t x none none (some m)).operands.toList.map (an st)= [an st x,an st m]:=rfl
      rw[eo]at hok
      unfold lx at hok
      split at hok
      ·next heq=>simp at heq
      ·exact(ay hok).elim
     |some h=>
      have eo:(Op.slice t x none (some h) (some m)).operands.toList.map (an st)= [an st x,an st h,an st m]:=rfl
      rw[eo]at hok hfr hq⊢
      unfold lx at hok hfr hq⊢
      have eh:=(bC R h).1
      have em:=(bC R m).1
      generalize hxe:an st x=xv at hok hfr hq⊢
      generalize an st h=hv at eh hok hfr hq⊢
      generalize an st m=mv at em hok hfr hq⊢
      split at hok
      ·next x' kh hh kc cc _ heq=>
       injection heq with q1 q2
       injection q2 with q2 q3
       injection q3 with q3 _
       subst q1;subst q2;subst q3
       rw[ae]at eh em
       exact vH hop hxe eh em R hok hfr hq
      ·exact(ay hok).elim
   |true=>
    rw[hc]at hok hfr
    simp only[cond_true]at hok hfr⊢
    simp only[Bool.and_eq_true]at hc
    obtain⟨⟨c1,c2⟩,c3⟩:=hc
    cases hi with
    |none=>simp at c2
    |some h=>exact u5 (lo:=m) hop (by simpa using c2) c1 c3 R hok hfr
 |fieldAddr s x i=>
  have e:aP P o (o.op.operands.toList.map (an st)) st.get base=jB P s i [an st x]:=by unfold aP;rw[hop];rfl
  rw[←hop,e];rw[e]at hok
  exact uC hop R hok
 |field s x i=>rw[←hop];exact BW hop R hok
 |indexAddr t x i=>
  have e:aP P o (o.op.operands.toList.map (an st)) st.get base=fw P t (an st x) (an st i) st.get:=by unfold aP;rw[hop];rfl
  rw[←hop,e];rw[e]at hok
  exact vy hop R hok
 |index t x i=>
  have e:aP P o (o.op.operands.toList.map (an st)) st.get base=nQ P t (an st x) (an st i):=by unfold aP;rw[hop];rfl
  rw[←hop,e];rw[e]at hok
  exact BG hop R hok
 |extract x i=>rw[←hop];exact yo hop R hok
 |call c=>
  obtain⟨b,hb⟩:=hcall c hop
  have hex:=qH (a:=a) hop hb
  have e0:o.op.operands.toList.map (an st)=c.args.toList.map (an st):=by
   rw[hop];show c.operands.toList.map _=_;rw[zb hb]
  obtain⟨hA,hAb⟩:=nT R c.args.toList
  rw[←hop]
  rw[e0]at hok hfr hq⊢
  have bad:aP P o (c.args.toList.map (an st)) st.get base= .bad→cu P o a.eval w (dU w0 st born (a::asx) (aP P o (c.args.toList.map (an st)) st.get base)):=fun e=>by
   rw[e]at hok;exact(ay hok).elim
  have hopc:aP P o (c.args.toList.map (an st)) st.get base=match b with
   | .len=>(match c.argTypes[0]? with
    |some t=>nt P t ((c.args.toList.map (an st)).headD .undef) st.get
    |none=> .bad)
   | .cap=>(match c.argTypes[0]? with
    |some t=>sJ P t ((c.args.toList.map (an st)).headD .undef)
    |none=> .bad)
   | .append=>(match (c.args.toList.map (an st)),c.argTypes[0]?,c.argTypes[1]? with
    | [s,x],some t,some u=>(match P.underlying u with
     |some .string=>cz P t s x st.get base
     |some (.slice _)=>fS P t s x st.get base
     |some (.int _)=>nB P t s x base
     |_=> .bad)
    |_,_,_=> .bad)
   | .copy=>(match (c.args.toList.map (an st)),c.argTypes[0]?,c.argTypes[1]? with
    | [d,s],some t,some _=>gz P t d s st.get
    |_,_,_=> .bad)
   | .min=>l9 false (c.args.toList.map (an st))
   | .max=>l9 true (c.args.toList.map (an st))
   |_=> .bad:=by
   unfold aP;rw[hop]
   obtain⟨callee,args,ats⟩:=c
   simp only at hb
   subst hb
   cases b<;>rfl
  cases b with
  |len=>
   simp only at hopc
   cases ht:c.argTypes[0]? with
   |none=>rw[ht]at hopc;exact bad hopc
   |some t=>
    rw[ht]at hopc
    simp only at hopc
    cases hargs:c.args.toList with
    |nil=>
     rw[hargs]at hopc hok
     rw[hopc]at hok
     exact(ay hok).elim
    |cons x xs=>
     have hopc':aP P o (c.args.toList.map (an st)) st.get base=nt P t (an st x) st.get:=by rw[hopc,hargs];rfl
     rw[hopc']at hok
     rw[←hargs,hopc']
     refine ED (x:=x) (ty:=o.type) (fun v hv r hr=> ?_) R (bC R x).1 hok
     rw[hex]
     have h0:(c.args.map a.eval)[0]?=some v:=by
      have:c.args[0]?=some x:=by rw[←Array.getElem?_toList,hargs];rfl
      simp[this,hv]
     have:(Builtin.len_ c.argTypes o.type (c.args.map a.eval)).run P w= .ok r w:=by
      rw[←hr];simp[Builtin.len_,ht,h0]
     simp only[builtin,Sem.run_bind,this,Result.andThen_ok,Sem.run_pure]
  |cap=>
   simp only at hopc
   cases ht:c.argTypes[0]? with
   |none=>rw[ht]at hopc;exact bad hopc
   |some t=>
    rw[ht]at hopc
    simp only at hopc
    cases hargs:c.args.toList with
    |nil=>
     rw[hargs]at hopc hok
     rw[hopc]at hok
     exact(ay hok).elim
    |cons x xs=>
     have hopc':aP P o (c.args.toList.map (an st)) st.get base=sJ P t (an st x):=by rw[hopc,hargs];rfl
     rw[hopc']at hok
     rw[←hargs,hopc']
     refine Fk (x:=x) (ty:=o.type) (fun v hv r hr=> ?_) R hok
     rw[hex]
     have h0:(c.args.map a.eval)[0]?=some v:=by
      have:c.args[0]?=some x:=by rw[←Array.getElem?_toList,hargs];rfl
      simp[this,hv]
     have:(Builtin.cap_ c.argTypes o.type (c.args.map a.eval)).run P w= .ok r w:=by
      rw[←hr];simp[Builtin.cap_,ht,h0]
     simp only[builtin,Sem.run_bind,this,Result.andThen_ok,Sem.run_pure]
  |append=>
   simp only at hopc
   cases ht:c.argTypes[0]? with
   |none=>
    refine bad (hopc.trans ?_)
    rw[ht]
    split<;>first|rfl|(next h _=>cases h)
   |some t=>
    cases hu:c.argTypes[1]? with
    |none=>
     refine bad (hopc.trans ?_)
     rw[hu]
     split<;>first|rfl|(next h=>cases h)
    |some u=>
     have hargs: ∀l,c.args.toList=l→(∃s x,l= [s,x])∨(∀s x,l.map (an st)≠ [s,x]):=by
      intro l _
      match l with
      | [s,x]=>exact .inl ⟨s,x,rfl⟩
      | []=>exact .inr fun s x h=>by simp at h
      | [s]=>exact .inr fun s' x h=>by simp at h
      |s::x::y::r=>exact .inr fun s' x' h=>by simp at h
     rcases hargs _ rfl with⟨s,x,hsx⟩|hno
     ·have hca:c.args= #[s,x]:=by
       have:=congrArg List.toArray hsx
       simpa using this
      have key:kV P u→aP P o (c.args.toList.map (an st)) st.get base=cz P t (an st s) (an st x) st.get base→cu P o a.eval w (dU w0 st born (a::asx) (aP P o (c.args.toList.map (an st)) st.get base)):=by
       intro hn e
       rw[e]at hok hfr hq⊢
       refine step_append (s:=s) (x:=x) (ty:=o.type) (u:=u) (fun r w' hr=> ?_) R (bC R s).1 (bC R x).1 hn hok hfr hq
       rw[hex]
       have:(Builtin.append_ c.argTypes o.type (c.args.map a.eval)).run P w= .ok r w':=by
        rw[←hr,hca]
        unfold Builtin.append_
        simp[ht,hu]
       simp only[builtin,Sem.run_bind,this,Result.andThen_ok,Sem.run_pure]
      have key2:kV P u→aP P o (c.args.toList.map (an st)) st.get base=fS P t (an st s) (an st x) st.get base→cu P o a.eval w (dU w0 st born (a::asx) (aP P o (c.args.toList.map (an st)) st.get base)):=by
       intro hn e
       rw[e]at hok hfr hq⊢
       refine wo (s:=s) (x:=x) (ty:=o.type) (u:=u) (fun r w' hr=> ?_) R (bC R s).1 (bC R x).1 hn hok hfr hq
       rw[hex]
       have:(Builtin.append_ c.argTypes o.type (c.args.map a.eval)).run P w= .ok r w':=by
        rw[←hr,hca]
        unfold Builtin.append_
        simp[ht,hu]
       simp only[builtin,Sem.run_bind,this,Result.andThen_ok,Sem.run_pure]
      rw[hsx,ht,hu]at hopc
      simp only[List.map_cons,List.map_nil]at hopc
      rw[hsx]at key key2 bad⊢
      split at hopc
      ·next h=>exact key (.inl h) hopc
      ·next e h=>exact key2 (.inr ⟨e,h⟩) hopc
      ·next k h=>
       have hopc':aP P o (c.args.toList.map (an st)) st.get base=nB P t (an st s) (an st x) base:=by rw[hsx];exact hopc
       rw[←hsx]
       rw[hopc']at hok hfr⊢
       refine Df (s:=s) (x:=x) (ty:=o.type) (u:=u) (fun r w' hr=> ?_) h R hok hfr
       rw[hex]
       have:(Builtin.append_ c.argTypes o.type (c.args.map a.eval)).run P w= .ok r w':=by
        rw[←hr,hca]
        unfold Builtin.append_
        simp[ht,hu]
       simp only[builtin,Sem.run_bind,this,Result.andThen_ok,Sem.run_pure]
      ·exact bad hopc
     ·refine bad (hopc.trans ?_)
      split
      ·next s x _ _ h _ _=>exact absurd h (hno s x)
      ·rfl
  |copy=>
   simp only at hopc
   cases ht:c.argTypes[0]? with
   |none=>
    refine bad (hopc.trans ?_)
    rw[ht]
    split<;>first|rfl|(next h _=>cases h)
   |some t=>
    cases hu:c.argTypes[1]? with
    |none=>
     refine bad (hopc.trans ?_)
     rw[hu]
     split<;>first|rfl|(next h=>cases h)
    |some u=>
     have hargs: ∀l,c.args.toList=l→(∃s x,l= [s,x])∨(∀s x,l.map (an st)≠ [s,x]):=by
      intro l _
      match l with
      | [s,x]=>exact .inl ⟨s,x,rfl⟩
      | []=>exact .inr fun s x h=>by simp at h
      | [s]=>exact .inr fun s' x h=>by simp at h
      |s::x::y::r=>exact .inr fun s' x' h=>by simp at h
     rcases hargs _ rfl with⟨s,x,hsx⟩|hno
     ·have hca:c.args= #[s,x]:=by
       have:=congrArg List.toArray hsx
       simpa using this
      have e:aP P o (c.args.toList.map (an st)) st.get base=gz P t (an st s) (an st x) st.get:=by
       rw[hopc,hsx,ht,hu];rfl
      rw[e]at hok hfr hq⊢
      refine Dm (s:=s) (x:=x) (ty:=o.type) (u:=u) (fun r w' hr=> ?_) R (bC R s).1 (bC R x).1 hok hq
      rw[hex]
      have:(Builtin.copy_ c.argTypes o.type (c.args.map a.eval)).run P w= .ok r w':=by
       rw[←hr,hca]
       unfold Builtin.copy_
       simp[ht,hu]
      simp only[builtin,Sem.run_bind,this,Result.andThen_ok,Sem.run_pure]
     ·refine bad (hopc.trans ?_)
      split
      ·next s x _ _ h _ _=>exact absurd h (hno s x)
      ·rfl
  |min=>
   simp only at hopc
   rw[hopc]at hok⊢
   obtain⟨v,h1,h2,h3,h4,h5⟩:=uZ (P:=P) (w:=w) (ts:=c.argTypes) (ty:=o.type) hA hok
   refine bo R h4 h5 (v:=v) ?_ h2 (fun r hr=>by rw[h3]at hr;cases hr)
   rw[hex]
   have h1:(Builtin.min_ c.argTypes o.type (c.args.map a.eval)).run P w= .ok v w:=by
    have e:(c.args.toList.map a.eval).toArray=c.args.map a.eval:=by rw[←Array.toList_map]
    rw[←e];exact h1
   simp only[builtin,Sem.run_bind,h1,Result.andThen_ok,Sem.run_pure]
  |max=>
   simp only at hopc
   rw[hopc]at hok⊢
   obtain⟨v,h1,h2,h3,h4,h5⟩:=uZ (P:=P) (w:=w) (ts:=c.argTypes) (ty:=o.type) hA hok
   refine bo R h4 h5 (v:=v) ?_ h2 (fun r hr=>by rw[h3]at hr;cases hr)
   rw[hex]
   have h1:(Builtin.max_ c.argTypes o.type (c.args.map a.eval)).run P w= .ok v w:=by
    have e:(c.args.toList.map a.eval).toArray=c.args.map a.eval:=by rw[←Array.toList_map]
    rw[←e];exact h1
   simp only[builtin,Sem.run_bind,h1,Result.andThen_ok,Sem.run_pure]
  |_=>exact bad hopc
 |_=>
  exfalso
  have e:aP P o (o.op.operands.toList.map (an st)) st.get base= .bad:=by unfold aP;rw[hop]
  rw[e]at hok;exact ay hok
theorem F6{out:Out}(h:zg P o (o.op.operands.toList.map (evK st)) st.get=some out)(R:Rel w0 st g born (a::asx) w)(hok:aN out.ok):cu P o a.eval w (dU w0 st born (a::asx) out):=by
 have noR: ∀(k:IntKind) (n:Int),∀r∈(AV.ki k n).roots,born r:=fun k n r h=>by simp[AV.roots]at h
 unfold zg at h
 split at h
 ·next x hop=>
  split at h
  ·next k n heq=>
   injection h with h;subst h
   rw[hop]at heq
   have e:evK st x= .ki k n:=by simpa[Op.operands]using heq
   have hx:=(nc R x).1
   rw[e]at hx
   exact bo R rfl rfl (by unfold execOp;rw[hop];rfl) hx (noR k n)
  ·cases h
 ·next x hop=>
  split at h
  ·next k n heq=>
   injection h with h;subst h
   rw[hop]at heq
   have e:evK st x= .ki k n:=by simpa[Op.operands]using heq
   have hx:=(nc R x).1
   rw[e]at hx
   exact bo R rfl rfl (by unfold execOp;rw[hop];rfl) hx (noR k n)
  ·cases h
 ·next op t x y yt hop=>
  split at h
  ·next k p k' q heq=>
   rw[hop]at heq
   have e:evK st x= .ki k p∧evK st y= .ki k' q:=by simpa[Op.operands]using heq
   cases hk:decide (k=k')with
   |false=>rw[hk]at h;cases h
   |true=>
    rw[hk]at h
    simp only[cond_true]at h
    have hk:=of_decide_eq_true hk
    subst hk
    have hx:=(nc R x).1
    have hy:=(nc R y).1
    rw[e.1,ae]at hx
    rw[e.2,ae]at hy
    unfold GY at h
    split at h
    ·simp only[Option.map_some,Option.some.injEq]at h
     subst h
     refine bo R rfl rfl (v:= .int k (k.wrap (p+q))) ?_ (by show ae _ _ (.ki k _) _;rw[ae]) (noR k _)
     unfold execOp;rw[hop];simp[hx,hy,eqGuard,binOp,Op.intArith]
    ·simp only[Option.map_some,Option.some.injEq]at h
     subst h
     refine bo R rfl rfl (v:= .bool (decide (p<q))) ?_ (by show ae _ _ (.kb _) _;rw[ae]) (fun r h=>by simp[zt,AV.roots]at h)
     unfold execOp;rw[hop];simp[hx,hy,eqGuard,binOp,Op.intCmp]
    ·simp only[Option.map_some,Option.some.injEq]at h
     subst h
     refine bo R rfl rfl (v:= .bool (decide (q≤p))) ?_ (by show ae _ _ (.kb _) _;rw[ae]) (fun r h=>by simp[zt,AV.roots]at h)
     unfold execOp;rw[hop];simp[hx,hy,eqGuard,binOp,Op.intCmp]
    ·cases h
  ·cases h
 ·next t x ix hop=>
  split at h
  ·next r n k i heq=>
   rw[hop]at heq
   have e:evK st x= .lit r n∧evK st ix= .ki k i:=by simpa[Op.operands]using heq
   cases hv:rD (st.get r)with
   |false=>rw[hv]at h;cases h
   |true=>
    rw[hv]at h
    simp only[cond_true,Option.some.injEq]at h
    subst h
    obtain⟨k1,k2⟩:=af.1 hok
    obtain⟨k2,k3⟩:=af.1 k2
    have k3:=(af.1 k3).1
    have k2:0≤i:=of_decide_eq_true (show decide (0≤i)=true from k2)
    have k3:i.toNat<n:=by have:Nat.blt i.toNat n=true:=k3;rwa [Nat.blt_eq]at this
    have hx:=nc R x
    have hy:=(nc R ix).1
    rw[e.1,ae]at hx
    rw[e.2,ae]at hy
    have hvv:isVar (st.get r)=true:=by
     generalize st.get r=q at hv⊢
     cases q<;>first|rfl|(simp[rD]at hv)
    have hxv:=hx.1.2 hvv
    have k1:yc P t=true:=k1
    unfold yc at k1
    split at k1
    ·next e' he=>
     simp only[Bool.and_eq_true]at k1
     obtain⟨kn,kc⟩:=k1
     have kc:P.cellsOf e'=1:=Nat.eq_of_beq_eq_true kc
     unfold fL at kn
     simp only[Bool.and_eq_true]at kn
     obtain⟨inf,hinf⟩:=Option.isSome_iff_exists.1 kn.2
     have hlt:i<(n:Int):=by omega
     refine bo R rfl rfl (v:= .pointer (some ((⟨(g r).b,0,none⟩:Addr).add (i.toNat*1)))) ?_ ?_ (fun q hq=>hx.2 q (by simpa[AV.roots]using hq))
     ·unfold execOp;rw[hop]
      simp only[Instr.indexAt,hy,asIntOf,Sem.run_bind,Sem.run_pure,Result.andThen_ok,ar (gr he),hxv,hlt,k2,and_self,if_true,cb hinf,kc]
     ·show ae _ _ (.pv r i.toNat) _
      rw[ae]
      refine⟨⟨_,rfl⟩,fun _=> ?_⟩
      rw[Addr.add_lit];simp
    ·cases k1
  ·cases h
 ·next c hop=>
  split at h
  ·next hc=>
   split at h
   ·next r n heq=>
    split at h
    ·next t ht=>
     cases hv:rD (st.get r)with
     |false=>rw[hv]at h;cases h
     |true=>
      rw[hv]at h
      simp only[cond_true,Option.some.injEq]at h
      subst h
      have hops:o.op.operands.toList=c.args.toList:=by rw[hop];exact zb hc
      rw[hops]at heq
      obtain⟨x,hxl⟩: ∃x,c.args.toList= [x]:=by
       generalize c.args.toList=l at heq
       match l with
       | [x]=>exact⟨x,rfl⟩
       | []=>simp at heq
       |x::y::r=>simp at heq
      have hca:c.args= #[x]:=by
       have:=congrArg List.toArray hxl
       simpa using this
      have e:evK st x= .lit r n:=by rw[hxl]at heq;simpa using heq
      have hx:=nc R x
      rw[e,ae]at hx
      have hvv:isVar (st.get r)=true:=by
       generalize st.get r=q at hv⊢
       cases q<;>first|rfl|(simp[rD]at hv)
      have hxv:=hx.1.2 hvv
      obtain⟨e',he⟩:=Option.isSome_iff_exists.1 (show(fQ P t).isSome=true from(af.1 hok).1)
      refine bo R rfl rfl (v:=goInt n) ?_ (by show ae _ _ (.ki .i64 n) _;rw[ae];rfl) (noR _ _)
      rw[qH hop hc]
      have hat:(Builtin.len_ c.argTypes o.type (c.args.map a.eval)).run P w= .ok (goInt n) w:=by
       rw[hca]
       unfold Builtin.len_
       simp[ht,ar (gr he),hxv,Builtin.lenOf]
      simp only[builtin,Sem.run_bind,hat,Result.andThen_ok,Sem.run_pure]
    ·cases h
   ·cases h
  ·cases h
 ·cases h
end
end Go.Am
end
