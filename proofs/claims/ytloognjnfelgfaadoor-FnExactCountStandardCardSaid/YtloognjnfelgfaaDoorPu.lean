/- Plain laws of lists, partitions, shapes and tableaux; no program in sight. -/
import Derived.Test.YtloognjnfelgfaaDoorAmP
import Derived.Test.YtloognjnfelgfaaDoorAmM
import Derived.Lib.Strings
set_option linter.unusedSimpArgs false
set_option linter.unusedVariables false
set_option linter.unnecessarySimpa false
set_option linter.unusedSectionVars false
section
/- Rules for loops over data: a loop that looks at all, a loop that folds. -/
namespace Go.Am.Pu
open Go.Am
theorem w64{n:Int}(h1: -9223372036854775808≤n)(h2:n≤9223372036854775807):IntKind.i64.wrap n=n:=Go.Am.w64 h1 h2
theorem nZ{R:Type}(L:Nat→Nat→Option R)(n:Nat)(p:Nat→Bool)(bad Eo:Option R)
  (hs: ∀j i,i<n→L (j+1) i=if p i=true then L j (i+1)else bad) (he: ∀j,L (j+1) n=Eo):
  ∀(m j i:Nat),i+m=n→m<j→L j i=if(List.range' i m).all p=true then Eo else bad
 |m,0,i,_,h=>by omega
 |0,j+1,i,h,_=>by
  have:i=n:=by omega
  subst this
  rw[he];rfl
 |m+1,j+1,i,h,hj=>by
  rw[hs j i (by omega),nZ L n p bad Eo hs he m j (i+1) (by omega) (by omega),List.range'_succ,List.all_cons]
  cases p i
  ·rw[if_neg (by simp),Bool.false_and,if_neg (by simp)]
  ·rw[if_pos rfl,Bool.true_and]
theorem bW{p:Nat→Bool}{n:Nat}:(List.range' 0 n).all p=true↔ ∀i,i<n→p i=true:=by
 simp[List.all_eq_true,List.mem_range'_1]
theorem an{α:Type}{xs:List α}{i:Nat}(h:i<xs.length)(d:α):xs.getD i d=xs[i]:=by
 simp only[List.getD_eq_getElem?_getD,List.getElem?_eq_getElem h,Option.getD_some]
theorem aZ{α:Type}{xs:List α}{i:Nat}(h:xs.length≤i)(d:α):xs.getD i d=d:=by
 simp only[List.getD_eq_getElem?_getD,List.getElem?_eq_none h,Option.getD_none]
theorem drop_cons{α:Type}{xs:List α}{i:Nat}(h:i<xs.length)(d:α):xs.drop i=xs.getD i d::xs.drop (i+1):=by
 rw[an h,List.drop_eq_getElem_cons h]
theorem take_succ{α:Type}{xs:List α}{i:Nat}(h:i<xs.length)(d:α):xs.take (i+1)=xs.take i++ [xs.getD i d]:=by
 rw[an h,List.take_succ_eq_append_getElem h]
theorem CN{α:Type}{xs:List α}{i:Nat}(h:i<xs.length)(d z:α):(xs.take i++List.replicate (xs.length-i) z).set i (xs.getD i d)=xs.take (i+1)++List.replicate (xs.length-(i+1)) z:=by
 have e:xs.length-i=xs.length-(i+1)+1:=by omega
 rw[take_succ h d,e,List.replicate_succ,List.set_append_right _ _ (by simp;omega)]
 simp[Nat.min_eq_left (Nat.le_of_lt h)]
end Go.Am.Pu
end
section
/- Marking memory and looking whether the marks are held. -/
namespace Go.Am.Pu
def held:List Int→Int→Int
 | [],q=>q
 |x::xs,q=>if x=q then held xs (q+1)else-1
def mark:List Int→Int→List Int
 | [],_=> []
 |_::xs,q=>q::mark xs (q+1)
def zI:List (List Int)→Nat
 | []=>0
 |x::xs=>x.length+zI xs
theorem yW: ∀(xs:List (List Int)) (n:Nat),(∀x∈xs,x.length≤n)→zI xs≤xs.length*n
 | [],n,_=>by simp[zI]
 |x::xs,n,h=>by
  have h1:=h x (by simp)
  have h2:=yW xs n fun y hy=>h y (by simp[hy])
  simp only[zI,List.length_cons,Nat.succ_mul]
  omega
end Go.Am.Pu
end
section
/- Partitions, shapes and tableaux as plain words. -/
namespace Go.Am.Pu
def within(x lo hi:Int):Bool:=decide (lo≤x)&&decide (x≤hi)
def atI(p:List Int)(i:Int):Int:=if i<0 then 0 else p.getD i.toNat 0
theorem cU(p:List Int)(i:Nat):atI p (i:Int)=p.getD i 0:=by simp[atI];omega
theorem qe{p:List Int}{i:Int}(h:i<0):atI p i=0:=by simp[atI,h]
theorem Bs{p:List Int}{i:Int}(h:(p.length:Int)≤i):atI p i=0:=by
 unfold atI
 split
 ·rfl
 ·exact aZ (by omega) 0
def gn:List Int→Int→Int→Bool
 | [],_,_=>true
 |x::xs,prev,s=>decide (1≤x)&&(decide (x≤prev)&&(decide (s+x≤9)&&gn xs x (s+x)))
def aQ(p:List Int):Bool:=gn p 9 0
def aP:List Int→Int
 | []=>0
 |x::xs=>x+aP xs
theorem sN: ∀(p:List Int) (prev s:Int),gn p prev s=true→(∀x∈p,1≤x∧x≤prev)∧(p≠ []→s+aP p≤9)∧(p.length:Int)≤aP p
 | [],prev,s,_=>⟨fun x h=>(by cases h),fun h=>absurd rfl h,(by simp[aP])⟩
 |x::xs,prev,s,h=>by
  simp only[gn,Bool.and_eq_true,decide_eq_true_eq]at h
  obtain⟨h1,h2,h3,h4⟩:=h
  obtain⟨k1,k2,k3⟩:=sN xs x (s+x) h4
  refine⟨fun y hy=> ?_,fun _=> ?_,?_⟩
  ·rcases List.mem_cons.1 hy with rfl|hy
   ·exact⟨h1,h2⟩
   ·have:=k1 y hy;omega
  ·simp only[aP]
   by_cases e:xs= []
   ·subst e;simp[aP];omega
   ·have:=k2 e;omega
  ·simp only[aP,List.length_cons];omega
theorem aK{p:List Int}(h:aQ p=true):(∀x∈p,1≤x∧x≤9)∧aP p≤9∧p.length≤9∧(p.length:Int)≤aP p:=by
 obtain⟨h1,h2,h3⟩:=sN p 9 0 h
 have:aP p≤9:=by
  by_cases e:p= []
  ·subst e;simp[aP]
  ·have:=h2 e;omega
 exact⟨h1,this,by omega,h3⟩
theorem dm{p:List Int}(h:aQ p=true)(i:Int):0≤atI p i∧atI p i≤9:=by
 unfold atI
 split
 ·omega
 ·by_cases hl:i.toNat<p.length
  ·rw[an hl]
   have:=(aK h).1 _ (List.getElem_mem hl)
   omega
  ·rw[aZ (by omega)];omega
def aM(q p:List Int):Bool:=aQ q&&(aQ p&&(decide (q.length≤p.length)&&(List.range' 0 q.length).all fun i=>decide (q.getD i 0≤p.getD i 0)))
theorem Bx{q p:List Int}(hq:aQ q=true)(h:(List.range' 0 q.length).all (fun i=>decide (q.getD i 0≤p.getD i 0))=true):q.length≤p.length:=by
 rw[bW]at h
 refine Nat.le_of_not_lt fun hlt=> ?_
 have h1:=h p.length hlt
 rw[decide_eq_true_eq,aZ (Nat.le_refl _),an hlt]at h1
 have:=(aK hq).1 _ (List.getElem_mem hlt)
 omega
theorem lH{q p:List Int}:aM q p=(aQ q&&(aQ p&&(List.range' 0 q.length).all fun i=>decide (q.getD i 0≤p.getD i 0))):=by
 unfold aM
 cases hq:aQ q with
 |false=>rfl
 |true=>
  cases hp:aQ p with
  |false=>rfl
  |true=>
   simp only[Bool.true_and]
   cases ha:(List.range' 0 q.length).all fun i=>decide (q.getD i 0≤p.getD i 0)with
   |false=>simp
   |true=>simp[Bx hq ha]
def e9(inner:List Int):Nat→List (List Int)→List Int
 |_,[]=> []
 |i,r::rs=>(inner.getD i 0+r.length)::e9 inner (i+1) rs
theorem lJ(inner:List Int): ∀(rs:List (List Int)) (i:Nat),(e9 inner i rs).length=rs.length
 | [],_=>rfl
 |_::rs,i=>by simp[e9,lJ inner rs]
theorem eC(inner:List Int): ∀(rs:List (List Int)) (i q:Nat),q<rs.length→(e9 inner i rs).getD q 0=inner.getD (i+q) 0+(rs.getD q []).length
 | [],i,q,h=>by simp at h
 |r::rs,i,0,_=>by simp[e9]
 |r::rs,i,q+1,h=>by
  have:=eC inner rs (i+1) q (by simpa using h)
  simp only[e9,List.getD_cons_succ]
  rw[this]
  have e:i+1+q=i+(q+1):=by omega
  rw[e]
abbrev Tab:=List Int×List (List Int)
def outer(t:Tab):List Int:=e9 t.1 0 t.2
def eP(t:Tab):Bool:=aQ t.1&&(decide (t.1.length≤t.2.length)&&aM t.1 (outer t))
def shapeOf(t:Tab):(List Int×List Int)×Bool:=if eP t=true then((outer t,t.1),true)else(([],[]),false)
def entry(t:Tab)(r c:Int):Int:=if r<0 then 0 else if(t.2.length:Int)≤r then 0 else atI (t.2.getD r.toNat []) (c-atI t.1 r)
theorem iU{t:Tab}{r:Nat}(h:r<t.2.length)(c:Int):entry t r c=atI (t.2.getD r []) (c-t.1.getD r 0):=by
 unfold entry
 rw[if_neg (by omega),if_neg (by omega),cU]
 rfl
theorem Fc{t:Tab}{r q:Nat}(h:r<t.2.length):entry t r (t.1.getD r 0+q)=(t.2.getD r []).getD q 0:=by
 rw[iU h]
 have e:t.1.getD r 0+(q:Int)-t.1.getD r 0=q:=by omega
 rw[e,cU]
def gA(t:Tab)(i k:Nat):Bool:=within ((t.2.getD i []).getD k 0) 1 9&&((decide (k=0)||decide ((t.2.getD i []).getD (k-1) 0≤(t.2.getD i []).getD k 0))&&
 (decide (i=0)||decide (entry t ((i:Int)-1) (t.1.getD i 0+k)<(t.2.getD i []).getD k 0)))
def eU(t:Tab):Bool:=eP t&&(List.range' 0 t.2.length).all fun i=>(List.range' 0 (t.2.getD i []).length).all fun k=>gA t i k
def bR(t:Tab):Bool:=eU t&&decide (t.1.length=0)
theorem wy{t:Tab}(h:eU t=true):eP t=true:=by
 simp only[eU,Bool.and_eq_true]at h;exact h.1
theorem oN(inner:List Int): ∀(rs:List (List Int)) (i:Nat),(∀q,i≤q→inner.getD q 0=0)→aP (e9 inner i rs)=rs.flatten.length
 | [],i,_=>rfl
 |r::rs,i,h=>by
  simp only[e9,aP,List.flatten_cons,List.length_append]
  rw[oN inner rs (i+1) (fun q hq=>h q (by omega)),h i (Nat.le_refl _)]
  omega
theorem Bo{t:Tab}(h:bR t=true):t.2.flatten.length≤9:=by
 simp only[bR,Bool.and_eq_true,decide_eq_true_eq]at h
 have hs:=wy h.1
 simp only[eP,aM,Bool.and_eq_true]at hs
 have h9:=(aK hs.2.2.2.1).2.1
 have:t.1= []:=List.eq_nil_of_length_eq_zero h.2
 rw[outer,oN t.1 t.2 0 (fun q _=>by rw[this];rfl)]at h9
 omega
def bG:List (List Int)→Int→List (List Int)×Nat
 | [],x=>([[x]],0)
 |r::rs,x=>if r.findIdx (fun n=>decide (x<n))<r.length
   then(r.set (r.findIdx fun n=>decide (x<n)) x::(bG rs (r.getD (r.findIdx fun n=>decide (x<n)) 0)).1,(bG rs (r.getD (r.findIdx fun n=>decide (x<n)) 0)).2+1)
   else((r++ [x])::rs,0)
def xh(t:Tab):Prop:=t.1.length≤1048576∧t.2.length≤1048576∧ ∀x∈t.2,x.length≤1048576
theorem xh.nil:xh ([],[]):=⟨by simp,by simp,fun x h=>by cases h⟩
theorem tR: ∀{rs:List (List Int)} {r:List Int},r∈rs→r.length≤rs.flatten.length
 |q::rs,r,h=>by
  simp only[List.flatten_cons,List.length_append]
  rcases List.mem_cons.1 h with rfl|h
  ·omega
  ·have:=tR h;omega
theorem AD{p:Int→Bool}{r:List Int}(h:r.findIdx p<r.length):p (r.getD (r.findIdx p) 0)=true:=by
 rw[an h];exact List.findIdx_getElem
end Go.Am.Pu
end
section
/- Standard tableaux, weights, descents: plain words. -/
namespace Go.Am.Pu
def Hh{α:Type}(p:α→Bool)(r:List α):Int:=if r.findIdx p<r.length then(r.findIdx p:Int)else-1
def has(l:List Int)(x:Int):Bool:=l.any fun y=>decide (x=y)
theorem tP{l:List Int}{x:Int}:has l x=true↔x∈l:=by
 simp[has,List.any_eq_true]
def lz(l:List Int):Bool:=(List.range' 0 l.length).all fun i=>has l ((i:Int)+1)
theorem tL: ∀(R l:List Int),R.Nodup→(∀x∈R,x∈l)→R.length≤l.length
 | [],l,_,_=>by simp
 |x::R,l,hn,h=>by
  rw[List.nodup_cons]at hn
  have hx:=h x (by simp)
  have:=tL R (l.erase x) hn.2 fun y hy=>(List.mem_erase_of_ne fun(e:y=x)=>hn.1 (e▸hy)).2 (h y (by simp[hy]))
  rw[List.length_erase_of_mem hx]at this
  have:0<l.length:=List.length_pos_of_mem hx
  simp only[List.length_cons]
  omega
def wg(n:Nat):List Int:=(List.range n).map fun(i:Nat)=>(i:Int)+1
theorem iu{n:Nat}{x:Int}:x∈wg n↔1≤x∧x≤n:=by
 simp only[wg,List.mem_map,List.mem_range]
 constructor
 ·rintro⟨i,h,rfl⟩;omega
 ·rintro⟨h1,h2⟩;exact⟨(x-1).toNat,by omega,by omega⟩
theorem tS(n:Nat):(wg n).Nodup:=by
 unfold wg
 refine List.Pairwise.map _ (fun(a b:Nat) (h:a≠b)=> ?_) List.nodup_range
 intro e
 exact h (by omega)
theorem vl(n:Nat):(wg n).length=n:=by simp[wg]
theorem kO{l:List Int}:lz l=true↔ ∀x∈wg l.length,x∈l:=by
 unfold lz
 rw[bW]
 constructor
 ·intro h x hx
  rw[iu]at hx
  have:=h (x-1).toNat (by omega)
  rw[tP]at this
  have e:(((x-1).toNat:Nat):Int)+1=x:=by omega
  rw[e]at this;exact this
 ·intro h i hi
  rw[tP]
  exact h _ (iu.2 (by omega))
theorem Bm{l:List Int}(h1: ∀x∈l,1≤x):lz l=true↔l.Nodup∧ ∀x∈l,x≤l.length:=by
 rw[kO]
 constructor
 ·intro h
  refine⟨?_,fun x hx=> ?_⟩
  ·
   refine Classical.byContradiction fun hn=> ?_
   have: ∃x,x∈l∧x∈l.erase x:=by
    have key: ∀l:List Int,¬l.Nodup→ ∃x,x∈l∧x∈l.erase x:=by
     intro l
     induction l with
     |nil=>intro h;exact absurd List.nodup_nil h
     |cons a l ih=>
      intro h
      by_cases ha:a∈l
      ·exact⟨a,by simp,by simpa using ha⟩
      ·have: ¬l.Nodup:=fun hl=>h (List.nodup_cons.2 ⟨ha,hl⟩)
       obtain⟨x,h1,h2⟩:=ih this
       refine⟨x,by simp[h1],?_⟩
       have hne:a≠x:=fun e=>ha (e▸h1)
       rw[List.erase_cons_tail (by simpa using hne)]
       exact List.mem_cons_of_mem _ h2
    exact key l hn
   obtain⟨x,hx,hx2⟩:=this
   have:=tL (wg l.length) (l.erase x) (tS _) fun y hy=>by
    by_cases e:y=x
    ·rw[e];exact hx2
    ·exact(List.mem_erase_of_ne e).2 (h y hy)
   rw[vl,List.length_erase_of_mem hx]at this
   have:0<l.length:=List.length_pos_of_mem hx
   omega
  ·refine Int.not_lt.1 fun hlt=> ?_
   have:=tL (wg l.length) (l.erase x) (tS _) fun y hy=>by
    have hy':=iu.1 hy
    exact(List.mem_erase_of_ne (by omega)).2 (h y hy)
   rw[vl,List.length_erase_of_mem hx]at this
   have:0<l.length:=List.length_pos_of_mem hx
   omega
 ·rintro⟨hn,hb⟩ x hx
  refine Classical.byContradiction fun hxl=> ?_
  have:=tL (x::l) (wg l.length) (List.nodup_cons.2 ⟨hxl,hn⟩) fun y hy=>by
   rcases List.mem_cons.1 hy with rfl|hy
   ·exact hx
   ·exact iu.2 ⟨h1 y hy,hb y hy⟩
  rw[vl,List.length_cons]at this
  omega
theorem zG{t:Tab}(h:eU t=true): ∀x∈t.2.flatten,1≤x∧x≤9:=by
 intro x hx
 simp only[eU,Bool.and_eq_true]at h
 obtain⟨r,hr,hxr⟩:=List.mem_flatten.1 hx
 obtain⟨i,hi,e⟩:=List.mem_iff_getElem.1 hr
 obtain⟨q,hq,e2⟩:=List.mem_iff_getElem.1 hxr
 have h1:=bW.1 h.2 i hi
 rw[an hi,e]at h1
 have h2:=bW.1 h1 q hq
 simp only[gA,within,Bool.and_eq_true,decide_eq_true_eq]at h2
 rw[an hi,e,an hq,e2]at h2
 exact h2.1
def iw(t:Tab):Bool:=eU t&&lz t.2.flatten
def rowOf(t:Tab)(n:Int):Int:=Hh (fun r=>has r n) t.2
theorem gG: ∀(w:List Int),(∀x∈w,0≤x)→0≤aP w
 | [],_=>by simp[aP]
 |x::xs,h=>by
  have:=gG xs fun y hy=>h y (by simp[hy])
  have:=h x (by simp)
  simp only[aP];omega
theorem En(a b:List Int):aP (a++b)=aP a+aP b:=by
 induction a with
 |nil=>simp[aP]
 |cons x a ih=>simp only[List.cons_append,aP,ih];omega
end Go.Am.Pu
end
section
/- Plain laws of draws, and of boxes. -/
namespace Go.Am.Pu
open Go Go.Am
attribute [local instance] D.real
theorem tH{α:Type}(a b:Int)(x y:Option α):D.test (D.lt a b) x y=if a<b then x else y:=by
 show(if decide (a<b)=true then x else y)=_
 simp only[decide_eq_true_eq]
def Gw(n:Nat)(x:List Int):Prop:=x.length≤n∧ ∀y∈x,1≤y∧y≤9
def b8 (p : List Int) (r : Int) : List Int × Bool :=
  if aQ p = true ∧ 0 ≤ r ∧ r ≤ p.length then
    (let q := if r = p.length then p ++ [0] else p
     let o := q.set r.toNat (q.getD r.toNat 0 + 1)
     if aQ o = true then (o, true) else ([], false))
  else ([], false)
end Go.Am.Pu
end
section
/- Steps over equations: what a word comes to, told by what must hold of it. -/
namespace Go.Am.Pu
open Go Go.Am
attribute [local instance] D.real
section
variable {α β : Type}
def Ok(x:Option α)(Q:α→Prop):Prop:= ∃y,x=some y∧Q y
theorem Ok.ret{y:α}{Q:α→Prop}(h:Q y):Ok (some y) Q:=⟨y,rfl,h⟩
theorem Ok.mono{x:Option α}{P Q:α→Prop}(h:Ok x P)(g: ∀y,P y→Q y):Ok x Q:=
 let⟨y,e,hp⟩:=h
 ⟨y,e,g y hp⟩
theorem Ok.bnd{x:Option α}{f:α→Option β}{P:α→Prop}{Q:β→Prop}(h:Ok x P)(g: ∀y,P y→Ok (f y) Q):Ok (D.bnd x f) Q:=by
 obtain⟨y,e,hp⟩:=h
 rw[e]
 exact g y hp
theorem Ok.fe{x:Option α}{y:α}{f:α→Option β}{Q:β→Prop}(h:x=some y)(g:Ok (f y) Q):Ok (D.bnd x f) Q:=by
 rw[h]
 exact g
theorem Ok.t{p:Prop} [Decidable p]{x y:Option α}{Q:α→Prop}(h1:p→Ok x Q)(h2: ¬p→Ok y Q):Ok (D.test (decide p) x y) Q:=by
 show Ok (if decide p=true then x else y) Q
 by_cases h:p
 ·rw[if_pos (decide_eq_true h)];exact h1 h
 ·rw[if_neg (by rw[decide_eq_false h];simp)];exact h2 h
theorem Ok.tb{b:Bool}{x y:Option α}{Q:α→Prop}(h1:b=true→Ok x Q)(h2:b=false→Ok y Q):Ok (D.test b x y) Q:=by
 cases b
 ·exact h2 rfl
 ·exact h1 rfl
theorem Ok.tn{b:Bool}{x y:Option α}{Q:α→Prop}(h1:b=false→Ok x Q)(h2:b=true→Ok y Q):Ok (D.test (!b) x y) Q:=by
 cases b
 ·exact h1 rfl
 ·exact h2 rfl
theorem Ok.tnd{p:Prop} [Decidable p]{x y:Option α}{Q:α→Prop}(h1: ¬p→Ok x Q)(h2:p→Ok y Q):Ok (D.test (!decide p) x y) Q:=
 Ok.tn (fun h=>h1 (of_decide_eq_false h)) (fun h=>h2 (of_decide_eq_true h))
theorem Ok.g{p:Prop} [Decidable p]{x y:Option α}{Q:α→Prop}(h:p)(g:Ok x Q):Ok (D.test (decide p) x y) Q:=Ok.t (fun _=>g) (fun h'=>absurd h h')
theorem Ok.no{p:Prop} [Decidable p]{x y:Option α}{Q:α→Prop}(h: ¬p)(g:Ok y Q):Ok (D.test (decide p) x y) Q:=Ok.t (fun h'=>absurd h' h) (fun _=>g)
theorem Ok.some{x:Option α}{Q:α→Prop}(h:Ok x Q): ∃y,x=Option.some y:=let⟨y,e,_⟩:=h;⟨y,e⟩
end
def dX(n m:Nat)(rs:List (List Int)):Prop:=rs.length≤n∧ ∀r∈rs,r.length≤m
theorem dX.at{n m:Nat}{rs:List (List Int)}(h:dX n m rs)(i:Nat):(rs.getD i []).length≤m:=by
 by_cases hi:i<rs.length
 ·rw[an hi];exact h.2 _ (List.getElem_mem hi)
 ·rw[aZ (by omega)];simp
theorem dX.set{n m:Nat}{rs:List (List Int)}(h:dX n m rs)(i:Nat){r:List Int}(hr:r.length≤m):dX n m (rs.set i r):=by
 refine⟨by rw[List.length_set];exact h.1,fun x hx=> ?_⟩
 rcases List.mem_or_eq_of_mem_set hx with h'|rfl
 ·exact h.2 x h'
 ·exact hr
theorem dX.mono{n m n' m':Nat}{rs:List (List Int)}(h:dX n m rs)(hn:n≤n')(hm:m≤m'):dX n' m' rs:=
 ⟨Nat.le_trans h.1 hn,fun x hx=>Nat.le_trans (h.2 x hx) hm⟩
theorem dX.app{n m:Nat}{rs:List (List Int)}(h:dX n m rs){r:List Int}(hr:r.length≤m):dX (n+1) m (rs++ [r]):=by
 refine⟨by rw[List.length_append];simp;exact h.1,fun x hx=> ?_⟩
 rcases List.mem_append.1 hx with h'|h'
 ·exact h.2 x h'
 ·simp only[List.mem_singleton]at h';subst h';exact hr
theorem AJ(p:List Int)(r:Int):(b8 p r).1.length≤p.length+1:=by
 unfold b8
 split
 ·simp only
  generalize hq:(if r=(p.length:Int)then p++ [0]else p)=q
  have hl:q.length≤p.length+1:=by
   rw[←hq]
   split
   ·simp
   ·omega
  split
  ·rw[List.length_set];exact hl
  ·simp
 ·simp
end Go.Am.Pu
end
section
/- Corners; a number taken out of rows. Plain words. -/
namespace Go.Am.Pu
theorem su: ∀{p:List Int} {prev s:Int},gn p prev s=true→ ∀i,i+1<p.length→p.getD (i+1) 0≤p.getD i 0
 | [],_,_,_,i,h=>by simp at h
 | [x],_,_,_,i,h=>by simp at h
 |x::y::xs,prev,s,hp,i,h=>by
  simp only[gn,Bool.and_eq_true,decide_eq_true_eq]at hp
  cases i with
  |zero=>simpa using hp.2.2.2.2.1
  |succ i=>
   have h2:gn (y::xs) x (s+x)=true:=by
    simp only[gn,Bool.and_eq_true,decide_eq_true_eq]
    exact hp.2.2.2
   have:=su h2 i (by simpa using h)
   simpa using this
def l6(r:List Int)(y:Int):Nat→Option Nat
 |0=>none
 |i+1=>if r.getD i 0<y then some i else l6 r y i
theorem sH{r:List Int}{y:Int}: ∀{m q:Nat},l6 r y m=some q→q<m∧r.getD q 0<y
 |0,q,h=>by simp[l6]at h
 |m+1,q,h=>by
  unfold l6 at h
  split at h
  ·next hc=>injection h with h;subst h;exact⟨by omega,hc⟩
  ·have:=sH h;exact⟨by omega,this.2⟩
theorem wY{r:List Int}{y:Int}: ∀{m i:Nat},i<m→r.getD i 0<y→ ∃q,l6 r y m=some q
 |0,i,h,_=>by omega
 |m+1,i,h,hi=>by
  unfold l6
  split
  ·exact⟨_,rfl⟩
  ·next hc=>
   have:i≠m:=fun e=>hc (e▸hi)
   exact wY (by omega) hi
def mh:Nat→List (List Int)→Int→List (List Int)×Int
 |0,rs,y=>(rs,y)
 |r+1,rs,y=>match l6 (rs.getD r []) y (rs.getD r []).length with
  |some q=>mh r (rs.set r ((rs.getD r []).set q y)) ((rs.getD r []).getD q 0)
  |none=>mh r rs y
theorem getD_set_ne{α:Type}{xs:List α}{i j:Nat}(h:j≠i)(x d:α):(xs.set j x).getD i d=xs.getD i d:=by
 simp only[List.getD_eq_getElem?_getD,List.getElem?_set]
 rw[if_neg h]
theorem pY{n m:Nat}: ∀(r:Nat) (rs:List (List Int)) (y:Int),dX n m rs→dX n m (mh r rs y).1
 |0,_,_,h=>h
 |r+1,rs,y,h=>by
  unfold mh
  split
  ·exact pY r _ _ (h.set r (by rw[List.length_set];exact h.at r))
  ·exact pY r rs y h
def lE (rs : List (List Int)) (row : Nat) : List (List Int) × Int :=
  ((if (rs.getD row []).length = 1 then (mh row (rs.set row ((rs.getD row []).take ((rs.getD row []).length - 1))) ((rs.getD row []).getD ((rs.getD row []).length - 1) 0)).1.take row
    else (mh row (rs.set row ((rs.getD row []).take ((rs.getD row []).length - 1))) ((rs.getD row []).getD ((rs.getD row []).length - 1) 0)).1),
   (mh row (rs.set row ((rs.getD row []).take ((rs.getD row []).length - 1))) ((rs.getD row []).getD ((rs.getD row []).length - 1) 0)).2)
theorem ya{n m:Nat}{rs:List (List Int)}(h:dX n m rs)(row:Nat):dX n m (lE rs row).1:=by
 have h1:=pY row (rs.set row ((rs.getD row []).take ((rs.getD row []).length-1))) ((rs.getD row []).getD ((rs.getD row []).length-1) 0) (h.set row (by rw[List.length_take];have:=h.at row;omega))
 unfold lE
 simp only
 split
 ·exact⟨by rw[List.length_take];have:=h1.1;omega,fun x hx=>h1.2 x (List.mem_of_mem_take hx)⟩
 ·exact h1
theorem j7{t:Tab}(h:bR t=true):t.1= []:=by
 simp only[bR,Bool.and_eq_true,decide_eq_true_eq]at h
 exact List.eq_nil_of_length_eq_zero h.2
theorem fR{t:Tab}(h:bR t=true){i:Nat}(hi:i<t.2.length):(outer t).getD i 0=(t.2.getD i []).length:=by
 have e:=eC t.1 t.2 0 i hi
 rw[j7 h]at e
 unfold outer
 rw[j7 h,e]
 simp
theorem jF{t:Tab}(h:bR t=true):aQ (outer t)=true:=by
 simp only[bR,Bool.and_eq_true]at h
 have hs:=wy h.1
 simp only[eP,aM,Bool.and_eq_true]at hs
 exact hs.2.2.2.1
theorem cd(t:Tab):(outer t).length=t.2.length:=by unfold outer;rw[lJ]
theorem AN{t:Tab}(h:bR t=true):dX 9 9 t.2:=by
 have h9:=Bo h
 have hl:=(aK (jF h)).2.2.1
 rw[cd]at hl
 exact⟨hl,fun r hr=>by have:=tR hr;omega⟩
theorem qd{t:Tab}(h:bR t=true): ∀i,i+1<t.2.length→(t.2.getD (i+1) []).length≤(t.2.getD i []).length∧ ∀q,q<(t.2.getD (i+1) []).length→(t.2.getD i []).getD q 0<(t.2.getD (i+1) []).getD q 0:=by
 intro i hi
 have hm:=su (show gn (outer t) 9 0=true from jF h) i (by rw[cd];exact hi)
 rw[fR h hi,fR h (by omega)]at hm
 have hl:(t.2.getD (i+1) []).length≤(t.2.getD i []).length:=by omega
 refine⟨hl,fun q hq=> ?_⟩
 have ht:=h
 simp only[bR,Bool.and_eq_true]at ht
 have ht:=ht.1
 simp only[eU,Bool.and_eq_true]at ht
 have h1:=bW.1 (bW.1 ht.2 (i+1) hi) q hq
 simp only[gA,Bool.and_eq_true,Bool.or_eq_true,decide_eq_true_eq]at h1
 have h2:=h1.2.2.resolve_left (by omega)
 rw[j7 h]at h2
 have e:((i+1:Nat):Int)-1=(i:Int):=by omega
 have e2:([]:List Int).getD (i+1) 0+(q:Int)=([]:List Int).getD i 0+(q:Int):=by simp
 rw[e,e2]at h2
 have ee:entry t (i:Int) (([]:List Int).getD i 0+(q:Int))=(t.2.getD i []).getD q 0:=by
  have:=Fc (t:=t) (r:=i) (q:=q) (by omega)
  rw[j7 h]at this
  exact this
 rw[ee]at h2
 exact h2
end Go.Am.Pu
end
section
/- Rows with noughts in front; a box taken from a partition. Plain words. -/
namespace Go.Am.Pu
def eF(t:Tab):List (List Int):=(List.range' 0 t.2.length).map fun i=>List.replicate (t.1.getD i 0).toNat 0++t.2.getD i []
theorem zo(t:Tab):(eF t).length=t.2.length:=by simp[eF]
theorem E6{t:Tab}{i:Nat}(h:i<t.2.length):(eF t).getD i []=List.replicate (t.1.getD i 0).toNat 0++t.2.getD i []:=by
 rw[an (by rw[zo];exact h)]
 simp[eF]
def aF(p:List Int)(n:Nat):List Int:=if p.getD n 0-1=0 then p.take n else p.set n (p.getD n 0-1)
theorem zZ(p:List Int)(n:Nat):(aF p n).length≤p.length:=by
 unfold aF
 split
 ·rw[List.length_take];omega
 ·rw[List.length_set];exact Nat.le_refl _
end Go.Am.Pu
end
section
/- A slide: the hole goes right or down until nothing is there. Plain words. -/
namespace Go.Am.Pu
def cel(g:List (List Int))(r c:Nat):Int:=(g.getD r []).getD c 0
def ku(g:List (List Int))(r c:Nat)(v:Int):List (List Int):=g.set r ((g.getD r []).set c v)
theorem xz{g:List (List Int)}{r c:Nat}(h:cel g r c≠0):r<g.length∧c<(g.getD r []).length:=by
 unfold cel at h
 by_cases h1:r<g.length
 ·refine⟨h1,?_⟩
  by_cases h2:c<(g.getD r []).length
  ·exact h2
  ·exact absurd (aZ (by omega) 0) h
 ·rw[aZ (xs:=g) (by omega)]at h
  simp at h
theorem il(g:List (List Int))(r c:Nat)(v:Int):(ku g r c v).length=g.length:=by unfold ku;rw[List.length_set]
theorem bw(g:List (List Int))(r c:Nat)(v:Int)(q:Nat):((ku g r c v).getD q []).length=(g.getD q []).length:=by
 unfold ku
 by_cases e:q=r
 ·subst e
  by_cases h:q<g.length
  ·rw[an (by rw[List.length_set];exact h),List.getElem_set_self,List.length_set]
  ·rw[aZ (by rw[List.length_set];omega),aZ (by omega)]
 ·rw[getD_set_ne (Ne.symm e)]
theorem jQ{g:List (List Int)}{r c:Nat}(v:Int)(h1:r<g.length)(h2:c<(g.getD r []).length):cel (ku g r c v) r c=v:=by
 unfold cel ku
 rw[an (xs:=g.set r _) (by rw[List.length_set];exact h1),List.getElem_set_self,an (by rw[List.length_set];exact h2),List.getElem_set_self]
theorem iz{g:List (List Int)}{r c q x:Nat}(v:Int)(h: ¬(q=r∧x=c)):cel (ku g r c v) q x=cel g q x:=by
 unfold cel ku
 by_cases e:q=r
 ·subst e
  have hx:x≠c:=fun e=>h ⟨rfl,e⟩
  by_cases hl:q<g.length
  ·rw[an (xs:=g.set q _) (by rw[List.length_set];exact hl),List.getElem_set_self,getD_set_ne (Ne.symm hx)]
  ·rw[aZ (xs:=g.set q _) (by rw[List.length_set];omega),aZ (xs:=g) (by omega)]
 ·rw[getD_set_ne (Ne.symm e)]
structure Sl (q : List Int) (g : List (List Int)) (i c : Nat) : Prop where
  q0 : ∀ r, 0 ≤ q.getD r 0
  qm : ∀ r, q.getD (r + 1) 0 ≤ q.getD r 0
  lm : ∀ r, (g.getD (r + 1) []).length ≤ (g.getD r []).length
  hi : i < g.length
  hc : c < (g.getD i []).length
  hq : q.getD i 0 ≤ c
  pos : ∀ r x, 0 ≤ cel g r x
  num : ∀ r x : Nat, q.getD r 0 ≤ x → x < (g.getD r []).length → ¬ (r = i ∧ x = c) → 1 ≤ cel g r x ∧ cel g r x ≤ 9
  row : ∀ r x : Nat, q.getD r 0 ≤ x → x + 1 < (g.getD r []).length → ¬ (r = i ∧ x = c) → ¬ (r = i ∧ x + 1 = c) → cel g r x ≤ cel g r (x + 1)
  col : ∀ r x : Nat, q.getD r 0 ≤ x → x < (g.getD (r + 1) []).length → ¬ (r = i ∧ x = c) → ¬ (r + 1 = i ∧ x = c) → cel g r x < cel g (r + 1) x
  GN : ∀ x : Nat, x + 1 = c → q.getD i 0 ≤ x → c + 1 < (g.getD i []).length → cel g i x ≤ cel g i (c + 1)
  colH : ∀ r : Nat, r + 1 = i → q.getD r 0 ≤ c → c < (g.getD (i + 1) []).length → cel g r c < cel g (i + 1) c
theorem Sl.right{q:List Int}{g:List (List Int)}{i c:Nat}(h:Sl q g i c)(hr:cel g i (c+1)≠0)(hb: ¬(0<cel g (i+1) c∧cel g (i+1) c≤cel g i (c+1))):
  Sl q (ku g i c (cel g i (c+1))) i (c+1):=by
 obtain⟨b1,b2⟩:=xz hr
 have hq:=h.hq
 have hrn:=h.num i (c+1) (by omega) b2 (by omega)
 have e0:=jQ (cel g i (c+1)) h.hi h.hc
 have en: ∀r x,¬(r=i∧x=c)→cel (ku g i c (cel g i (c+1))) r x=cel g r x:=fun r x hh=>iz _ hh
 refine⟨h.q0,h.qm,fun r=> ?_,?_,?_,by omega,fun r x=> ?_,fun r x h1 h2 h3=> ?_,fun r x h1 h2 h3 h4=> ?_,fun r x h1 h2 h3 h4=> ?_,fun x h1 h2 h3=> ?_,fun r h1 h2 h3=> ?_⟩
 ·rw[bw,bw];exact h.lm r
 ·rw[il];exact b1
 ·rw[bw];exact b2
 ·by_cases e:r=i∧x=c
  ·rw[e.1,e.2,e0];exact h.pos _ _
  ·rw[en r x e];exact h.pos _ _
 ·rw[bw]at h2
  by_cases e:r=i∧x=c
  ·rw[e.1,e.2,e0];exact hrn
  ·rw[en r x e];exact h.num r x h1 h2 e
 ·rw[bw]at h2
  by_cases e:r=i∧x=c
  ·exact(h4 ⟨e.1,by omega⟩).elim
  ·rw[en r x e]
   by_cases e':r=i∧x+1=c
   ·obtain⟨rfl,rfl⟩:=e'
    rw[e0]
    exact h.GN x rfl h1 b2
   ·rw[en r (x+1) e'];exact h.row r x h1 h2 e e'
 ·rw[bw]at h2
  by_cases e:r=i∧x=c
  ·obtain⟨rfl,rfl⟩:=e
   rw[e0,en _ _ (by omega)]
   have hqm:=h.qm r
   have h5:=(h.num (r+1) x (by omega) h2 (by omega)).1
   omega
  ·rw[en r x e]
   by_cases e':r+1=i∧x=c
   ·obtain⟨rfl,rfl⟩:=e'
    rw[e0]
    have hl:=h.lm r
    have h5:=h.row r x h1 (by omega) (by omega) (by omega)
    have h6:=h.col r (x+1) (by omega) b2 (by omega) (by omega)
    omega
   ·rw[en (r+1) x e']
    exact h.col r x h1 h2 e e'
 ·rw[bw]at h3
  have:x=c:=by omega
  subst this
  rw[e0,en _ _ (by omega)]
  exact h.row i (x+1) (by omega) h3 (by omega) (by omega)
 ·rw[bw]at h3
  rw[en _ _ (by omega),en _ _ (by omega)]
  subst h1
  have h5:=h.col r (c+1) h2 (by omega) (by omega) (by omega)
  have h6:=h.col (r+1) (c+1) (by omega) h3 (by omega) (by omega)
  omega
end Go.Am.Pu
end
section
/- A slide's end and its start. Plain words. -/
namespace Go.Am.Pu
theorem gd{p:List Int}(hp:aQ p=true)(r:Nat):p.getD (r+1) 0≤p.getD r 0:=by
 by_cases h:r+1<p.length
 ·exact su hp r h
 ·rw[aZ (by omega)]
  have:=(dm hp r).1
  rw[cU]at this
  exact this
theorem q8{p:List Int}{n:Nat}(hp:aQ p=true)(hn:n<p.length)(hc:p.getD (n+1) 0<p.getD n 0)(r:Nat):(aF p n).getD r 0=if r=n then p.getD n 0-1 else p.getD r 0:=by
 unfold aF
 by_cases h:p.getD n 0-1=0
 ·rw[if_pos h]
  have h0:=(dm hp (n+1:Nat)).1
  rw[cU]at h0
  have hl:p.length≤n+1:=by
   refine Nat.le_of_not_lt fun hlt=> ?_
   have:=(aK hp).1 _ (List.getElem_mem hlt)
   rw[←an hlt 0]at this
   omega
  by_cases e:r=n
  ·subst e
   rw[if_pos rfl,h,aZ (by rw[List.length_take];omega)]
  ·rw[if_neg e]
   by_cases e2:r<n
   ·rw[an (by rw[List.length_take];omega),List.getElem_take,an (by omega)]
   ·rw[aZ (by rw[List.length_take];omega),aZ (by omega)]
 ·rw[if_neg h]
  by_cases e:r=n
  ·subst e
   rw[if_pos rfl,an (by rw[List.length_set];exact hn),List.getElem_set_self]
  ·rw[if_neg e,getD_set_ne (Ne.symm e)]
theorem yH{t:Tab}{r:Nat}(h:r<t.2.length):((eF t).getD r []).length=(t.1.getD r 0).toNat+(t.2.getD r []).length:=by
 rw[E6 h];simp
theorem FD{t:Tab}{r:Nat}(h:t.2.length≤r):(eF t).getD r []= []:=aZ (by rw[zo];exact h) []
structure HC (t : Tab) : Prop where
  q0 : ∀ r, 0 ≤ t.1.getD r 0
  qm : ∀ r, t.1.getD (r + 1) 0 ≤ t.1.getD r 0
  lm : ∀ r, ((eF t).getD (r + 1) []).length ≤ ((eF t).getD r []).length
  num : ∀ r x : Nat, t.1.getD r 0 ≤ x → x < ((eF t).getD r []).length → 1 ≤ cel (eF t) r x ∧ cel (eF t) r x ≤ 9
  row : ∀ r x : Nat, t.1.getD r 0 ≤ x → x + 1 < ((eF t).getD r []).length → cel (eF t) r x ≤ cel (eF t) r (x + 1)
  col : ∀ r x : Nat, t.1.getD r 0 ≤ x → x < ((eF t).getD (r + 1) []).length → cel (eF t) r x < cel (eF t) (r + 1) x
end Go.Am.Pu
end
section
/- A tableau cell by cell; a slide's start. Plain words. -/
namespace Go.Am.Pu
theorem jM{t:Tab}(h:eU t=true):aQ t.1=true∧aQ (outer t)=true∧t.1.length≤t.2.length∧(∀i k,i<t.2.length→k<(t.2.getD i []).length→gA t i k=true):=by
 simp only[eU,eP,aM,Bool.and_eq_true,decide_eq_true_eq]at h
 obtain⟨⟨h1,h2,h3,h4,h5⟩,h6⟩:=h
 refine⟨h1,h4,h2,fun i k hi hk=> ?_⟩
 rw[bW]at h6
 have:=h6 i hi
 rw[bW]at this
 exact this k hk
theorem Fs{t:Tab}(h:aQ t.1=true)(r:Nat):(((eF t).getD r []).length:Int)=(outer t).getD r 0:=by
 have h0:=(dm h r).1
 rw[cU]at h0
 by_cases hr:r<t.2.length
 ·rw[yH hr]
  have:=eC t.1 t.2 0 r hr
  rw[Nat.zero_add]at this
  unfold outer
  rw[this]
  omega
 ·rw[FD (by omega),aZ (by rw[cd];omega)]
  rfl
end Go.Am.Pu
end
section
/- A partition less a box; the tableau that a slide leaves. Plain words. -/
namespace Go.Am.Pu
theorem kF: ∀(p:List Int) (prev s:Int),(∀x∈p,1≤x)→(0<p.length→p.getD 0 0≤prev)→(∀i,i+1<p.length→p.getD (i+1) 0≤p.getD i 0)→s+aP p≤9→gn p prev s=true
 | [],_,_,_,_,_,_=>rfl
 |x::xs,prev,s,h1,h2,h3,h4=>by
  have hs: ∀(l:List Int),(∀y∈l,1≤y)→0≤aP l:=by
   intro l
   induction l with
   |nil=>intro _;simp[aP]
   |cons y l ih=>
    intro h
    have a:=h y List.mem_cons_self
    have b:=ih (fun z hz=>h z (List.mem_cons_of_mem _ hz))
    simp only[aP];omega
  have hx:=h1 x List.mem_cons_self
  have hxs:=hs xs (fun z hz=>h1 z (List.mem_cons_of_mem _ hz))
  have h2':=h2 (by simp)
  simp only[List.getD_cons_zero]at h2'
  simp only[aP]at h4
  have ih:=kF xs x (s+x) (fun z hz=>h1 z (List.mem_cons_of_mem _ hz)) (fun hl=>by have:=h3 0 (by simpa using hl);simpa using this) (fun i hi=>by have:=h3 (i+1) (by simpa using hi);simpa using this) (by omega)
  simp only[gn,Bool.and_eq_true,decide_eq_true_eq]
  exact⟨hx,h2',by omega,ih⟩
theorem nW: ∀(p:List Int) (n:Nat) (v:Int),n<p.length→aP (p.set n v)=aP p-p.getD n 0+v
 | [],n,v,h=>by simp at h
 |x::xs,0,v,_=>by simp[aP];omega
 |x::xs,n+1,v,h=>by
  have:=nW xs n v (by simpa using h)
  simp only[List.set_cons_succ,aP,List.getD_cons_succ,this]
  omega
theorem xI: ∀(p:List Int) (n:Nat),p.length=n+1→aP (p.take n)=aP p-p.getD n 0
 | [],n,h=>by simp at h
 | [x],0,_=>by simp[aP]
 |x::xs,n+1,h=>by
  have:=xI xs n (by simpa using h)
  simp only[List.take_succ_cons,aP,List.getD_cons_succ,this]
  omega
 |x::y::xs,0,h=>by simp at h
theorem w7{p:List Int}{n:Nat}(hp:aQ p=true)(hc:p.getD (n+1) 0<p.getD n 0)(h:p.getD n 0-1=0):p.length≤n+1:=by
 have h0:=(dm hp (n+1:Nat)).1
 rw[cU]at h0
 refine Nat.le_of_not_lt fun hlt=> ?_
 have:=(aK hp).1 _ (List.getElem_mem hlt)
 rw[←an hlt 0]at this
 omega
theorem y8{p:List Int}{n:Nat}(hp:aQ p=true)(hn:n<p.length)(hc:p.getD (n+1) 0<p.getD n 0){i:Nat}(hi:i<(aF p n).length):1≤(aF p n).getD i 0:=by
 rw[q8 hp hn hc]
 have hl:=zZ p n
 have h1: ∀i,i<p.length→1≤p.getD i 0:=fun i hi=>by
  rw[an hi]
  exact((aK hp).1 _ (List.getElem_mem hi)).1
 by_cases h:p.getD n 0-1=0
 ·unfold aF at hi
  rw[if_pos h,List.length_take]at hi
  rw[if_neg (by omega)]
  exact h1 i (by omega)
 ·have a:=h1 n hn
  have b:=h1 i (by omega)
  split<;>omega
theorem oC{p:List Int}{n:Nat}(hp:aQ p=true)(hn:n<p.length)(hc:p.getD (n+1) 0<p.getD n 0):aQ (aF p n)=true:=by
 have hs:=aK hp
 have hg:=q8 hp hn hc
 have hpn:1≤p.getD n 0:=by
  rw[an hn]
  exact(hs.1 _ (List.getElem_mem hn)).1
 refine kF _ _ _ (fun x hx=> ?_) (fun _=> ?_) (fun i _=> ?_) ?_
 ·obtain⟨i,hi,rfl⟩:=List.getElem_of_mem hx
  rw[←an hi 0]
  exact y8 hp hn hc hi
 ·rw[hg]
  have: ∀i,p.getD i 0≤9:=fun i=>by
   have:=(dm hp i).2
   rw[cU]at this
   exact this
  have a:=this 0
  have b:=this n
  split<;>omega
 ·rw[hg,hg]
  have:=gd hp i
  by_cases e:i=n
  ·subst e
   rw[if_neg (by omega),if_pos rfl];omega
  ·rw[if_neg e]
   by_cases e2:i+1=n
   ·subst e2;rw[if_pos rfl];omega
   ·rw[if_neg e2];exact this
 ·have h9:=hs.2.1
  unfold aF
  split
  ·next h=>
   have hl:=w7 hp hc h
   rw[xI p n (by omega)]
   omega
  ·rw[nW p n _ hn]
   omega
def cb(q:List Int)(g:List (List Int))(n:Nat):List (List Int):=(List.range' 0 n).map fun r=>(g.getD r []).drop (q.getD r 0).toNat
theorem iq(q:List Int)(g:List (List Int))(n:Nat):(cb q g n).length=n:=by simp[cb]
theorem jT{q:List Int}{g:List (List Int)}{n r:Nat}(h:r<n):(cb q g n).getD r []=(g.getD r []).drop (q.getD r 0).toNat:=by
 rw[an (by rw[iq];exact h)]
 simp[cb]
def ou(g:List (List Int))(i c:Nat):List (List Int):=g.set i ((g.getD i []).take c)
end Go.Am.Pu
namespace Go.Am.Pu
end Go.Am.Pu
end
section
/- What a slide leaves. Plain words. -/
namespace Go.Am.Pu
theorem Cl{g:List (List Int)}{i c r:Nat}(hi:i<g.length):(ou g i c).getD r []=if r=i then(g.getD i []).take c else g.getD r []:=by
 unfold ou
 by_cases e:r=i
 ·subst e
  rw[if_pos rfl,an (by rw[List.length_set];exact hi),List.getElem_set_self]
 ·rw[if_neg e,getD_set_ne (Ne.symm e)]
theorem mR(g:List (List Int))(i c:Nat):(ou g i c).length=g.length:=by unfold ou;rw[List.length_set]
theorem Fx{g:List (List Int)}{i c r x:Nat}(hi:i<g.length)(hx:x<((ou g i c).getD r []).length):cel (ou g i c) r x=cel g r x:=by
 unfold cel
 rw[Cl hi]at hx⊢
 by_cases e:r=i
 ·subst e
  rw[if_pos rfl]at hx⊢
  rw[List.length_take]at hx
  rw[an (by rw[List.length_take];exact hx),List.getElem_take]
  exact(an (by omega) 0).symm
 ·rw[if_neg e]
structure Ab (t : Tab) (n : Nat) (g : List (List Int)) (i c : Nat) : Prop where
  sl : Sl (aF t.1 n) g i c
  len : g.length = t.2.length
  row : ∀ r, (g.getD r []).length = ((eF t).getD r []).length
  hi : i < (outer t).length
  end_ : (outer t).getD i 0 = c + 1
  cor : (outer t).getD (i + 1) 0 < (outer t).getD i 0
  cutl : ∀ r, (((ou g i c).getD r []).length : Int) = (aF (outer t) i).getD r 0
  ins : ∀ r, (aF t.1 n).getD r 0 ≤ (aF (outer t) i).getD r 0
  rows : dX 9 9 (ou g i c)
end Go.Am.Pu
end
section
/- The square that the reference slides in. Plain words. -/
namespace Go.Am.Pu
structure Sq (s g : List (List Int)) (i c : Nat) : Prop where
  len : s.length = 11
  row : ∀ r, r < 11 → (s.getD r []).length = 11
  at_ : ∀ r x, r < 11 → x < 11 → ¬ (r = i ∧ x = c) → cel s r x = cel g r x
  hole : cel s i c = 0
theorem Sq.step{s g:List (List Int)}{i c i' c':Nat}(h:Sq s g i c)(hi:i<g.length)(hc:c<(g.getD i []).length)(h1:i<11)(h2:c<11)(h3:i'<11)(h4:c'<11)(hne: ¬(i'=i∧c'=c))(v:Int):
  Sq (ku (ku s i c v) i' c' 0) (ku g i c v) i' c':=by
 refine⟨by rw[il,il];exact h.len,fun r hr=>by rw[bw,bw];exact h.row r hr,fun r x hr hx hn=> ?_,?_⟩
 ·rw[iz _ hn]
  by_cases e:r=i∧x=c
  ·obtain⟨rfl,rfl⟩:=e
   rw[jQ _ (by rw[h.len];exact h1) (by rw[h.row _ h1];exact h2),jQ _ hi hc]
  ·rw[iz _ e,iz _ e];exact h.at_ r x hr hx e
 ·rw[jQ _ (by rw[il,h.len];exact h3) (by rw[bw,h.row _ h3];exact h4)]
end Go.Am.Pu
end
section
/- What a slide leaves is a tableau. Plain words. -/
namespace Go.Am.Pu
theorem xd{α:Type}(l:List α)(a x:Nat)(d:α):(l.drop a).getD x d=l.getD (a+x) d:=by
 simp[List.getD_eq_getElem?_getD,List.getElem?_drop]
section
variable {t : Tab} {n : Nat} {g : List (List Int)} {i c : Nat}
theorem Ab.cell(E:Ab t n g i c){r k:Nat}(hr:r<(aF (outer t) i).length)
  (hk:k<((cb (aF t.1 n) (ou g i c) (aF (outer t) i).length).getD r []).length):
  ((aF t.1 n).getD r 0).toNat+k<(g.getD r []).length∧((((aF t.1 n).getD r 0).toNat+k:Nat):Int)<(aF (outer t) i).getD r 0∧ ¬(r=i∧((aF t.1 n).getD r 0).toNat+k=c)∧
   ((cb (aF t.1 n) (ou g i c) (aF (outer t) i).length).getD r []).getD k 0=cel g r (((aF t.1 n).getD r 0).toNat+k):=by
 have hq:=E.sl.q0 r
 rw[jT hr]at hk⊢
 rw[List.length_drop]at hk
 have hx:((aF t.1 n).getD r 0).toNat+k<((ou g i c).getD r []).length:=by omega
 have hl:=E.cutl r
 have hcut:=Cl (c:=c) (r:=r) E.sl.hi
 refine⟨?_,by omega,fun e=> ?_,?_⟩
 ·rw[hcut]at hx
  by_cases e:r=i
  ·subst e;rw[if_pos rfl,List.length_take]at hx;omega
  ·rw[if_neg e]at hx;exact hx
 ·rw[hcut,if_pos e.1,List.length_take]at hx
  omega
 ·rw[xd]
  exact Fx E.sl.hi hx
theorem Ab.Ao(E:Ab t n g i c){r:Nat}(hr:r<(aF (outer t) i).length):
  (aF (outer t) i).getD r 0=(aF t.1 n).getD r 0+(((cb (aF t.1 n) (ou g i c) (aF (outer t) i).length).getD r []).length:Int):=by
 have hq:=E.sl.q0 r
 have hi:=E.ins r
 have hl:=E.cutl r
 rw[jT hr,List.length_drop]
 omega
theorem Ab.tab(E:Ab t n g i c)(h:eU t=true)(hn:n<t.1.length)(hc:t.1.getD (n+1) 0<t.1.getD n 0):
  eU (aF t.1 n,cb (aF t.1 n) (ou g i c) (aF (outer t) i).length)=true:=by
 obtain⟨hp,ho,hl,_⟩:=jM h
 have hqp:=oC hp hn hc
 have hop:=oC ho E.hi E.cor
 generalize hR:cb (aF t.1 n) (ou g i c) (aF (outer t) i).length=R
 have hRl:R.length=(aF (outer t) i).length:=by rw[←hR,iq]
 have cell: ∀{r k:Nat},r<R.length→k<(R.getD r []).length→((aF t.1 n).getD r 0).toNat+k<(g.getD r []).length∧((((aF t.1 n).getD r 0).toNat+k:Nat):Int)<(aF (outer t) i).getD r 0∧ ¬(r=i∧((aF t.1 n).getD r 0).toNat+k=c)∧(R.getD r []).getD k 0=cel g r (((aF t.1 n).getD r 0).toNat+k):=by
  intro r k hr hk
  subst hR
  exact E.cell (by omega) hk
 have Ao: ∀{r:Nat},r<R.length→(aF (outer t) i).getD r 0=(aF t.1 n).getD r 0+((R.getD r []).length:Int):=by
  intro r hr
  subst hR
  exact E.Ao (by omega)
 have q0:=E.sl.q0
 have hout:outer (aF t.1 n,R)=aF (outer t) i:=by
  refine List.ext_getElem (by rw[cd];exact hRl) fun r h1 h2=> ?_
  rw[←an h1 0,←an h2 0]
  have h3:r<R.length:=by omega
  have:=eC (aF t.1 n) R 0 r h3
  rw[Nat.zero_add]at this
  unfold outer
  rw[this]
  exact(Ao h3).symm
 have hlen:(aF t.1 n).length≤R.length:=by
  refine Nat.le_of_not_lt fun hlt=> ?_
  have a:=y8 hp hn hc hlt
  have b:=E.ins R.length
  rw[aZ (xs:=aF (outer t) i) (by omega)]at b
  omega
 have om:=gd hop
 simp only[eU,eP,aM,Bool.and_eq_true,decide_eq_true_eq]
 rw[hout]
 refine⟨⟨hqp,hlen,hqp,hop,by omega,?_⟩,?_⟩
 ·rw[bW]
  intro r _
  exact decide_eq_true (E.ins r)
 ·rw[bW]
  intro r hr
  rw[bW]
  intro k hk
  have hq:=q0 r
  obtain⟨c1,c2,c3,c4⟩:=cell hr hk
  have hx:(aF t.1 n).getD r 0≤((((aF t.1 n).getD r 0).toNat+k:Nat):Int):=by omega
  have hnum:=E.sl.num r _ hx c1 c3
  simp only[gA,within,Bool.and_eq_true,Bool.or_eq_true,decide_eq_true_eq]
  rw[c4]
  refine⟨hnum,?_,?_⟩
  ·cases k with
   |zero=>exact .inl rfl
   |succ k=>
    obtain⟨d1,d2,d3,d4⟩:=cell hr (show k<(R.getD r []).length by omega)
    right
    rw[show k+1-1=k from rfl,d4]
    exact E.sl.row r (((aF t.1 n).getD r 0).toNat+k) (by omega) (by omega) d3 (by omega)
  ·cases r with
   |zero=>exact .inl rfl
   |succ r=>
    right
    have hr':r<R.length:=by omega
    have em:((r+1:Nat):Int)-1=(r:Int):=by omega
    rw[em,iU hr']
    have hqr:=q0 r
    have hrl:=Ao hr'
    have hom:=om r
    simp only
    by_cases e:(aF t.1 n).getD (r+1) 0+(k:Int)<(aF t.1 n).getD r 0
    ·rw[qe (by omega)];omega
    ·obtain⟨y,hy⟩: ∃y:Nat,(aF t.1 n).getD (r+1) 0+(k:Int)-(aF t.1 n).getD r 0=y:=⟨((aF t.1 n).getD (r+1) 0+(k:Int)-(aF t.1 n).getD r 0).toNat,by omega⟩
     rw[hy,cU]
     obtain⟨d1,d2,d3,d4⟩:=cell hr' (show y<(R.getD r []).length by omega)
     have ey:((aF t.1 n).getD r 0).toNat+y=((aF t.1 n).getD (r+1) 0).toNat+k:=by omega
     rw[d4,ey]
     rw[ey]at d3
     exact E.sl.col r _ (by omega) c1 d3 c3
end
theorem CG{t:Tab}(h:eU t=true):t.1.length≤9∧dX 9 9 t.2:=by
 obtain⟨hp,ho,hl,_⟩:=jM h
 have h9:=(aK ho).2.2.1
 rw[cd]at h9
 refine⟨by omega,h9,fun r hr=> ?_⟩
 obtain⟨k,hk,rfl⟩:=List.getElem_of_mem hr
 have a:=Fs hp k
 have b:=(dm ho k).2
 rw[cU]at b
 rw[yH hk]at a
 rw[←an hk []]
 omega
theorem zD{p:List Int}{n:Nat}(hp:aQ p=true)(hn:n<p.length)(hc:p.getD (n+1) 0<p.getD n 0):aP (aF p n)=aP p-1:=by
 unfold aF
 split
 ·next h=>
  have hl:=w7 hp hc h
  rw[xI p n (by omega)]
  omega
 ·rw[nW p n _ hn]
  omega
end Go.Am.Pu
namespace Go.Am.Pu
end Go.Am.Pu
end
section
/- Taking the least number out of a plain tableau; evacuation. Plain words. -/
namespace Go.Am.Pu
theorem Ab.out{t:Tab}{n:Nat}{g:List (List Int)}{i c:Nat}(E:Ab t n g i c):
  outer (aF t.1 n,cb (aF t.1 n) (ou g i c) (aF (outer t) i).length)=aF (outer t) i:=by
 refine List.ext_getElem (by rw[cd];exact iq _ _ _) fun r h1 h2=> ?_
 rw[←an h1 0,←an h2 0]
 have h3:r<(cb (aF t.1 n) (ou g i c) (aF (outer t) i).length).length:=by rw[iq];exact h2
 have:=eC (aF t.1 n) (cb (aF t.1 n) (ou g i c) (aF (outer t) i).length) 0 r h3
 rw[Nat.zero_add]at this
 exact this.trans (E.Ao h2).symm
theorem Ci{t:Tab}(h:bR t=true){r:Nat}(hr:r<t.2.length):1≤(t.2.getD r []).length:=by
 have hl:=fR h hr
 have hp:=(aK (jF h)).1 ((outer t)[r]'(by rw[cd];exact hr)) (List.getElem_mem _)
 rw[an (by rw[cd];exact hr)]at hl
 omega
theorem wG{t:Tab}(h:bR t=true):aP (outer t)=t.2.flatten.length:=by
 unfold outer
 exact oN t.1 t.2 0 fun q _=>by rw[j7 h];rfl
end Go.Am.Pu
end
section
/- Promotion. Plain words. -/
namespace Go.Am.Pu
def Small(rs:List (List Int)):Prop:= ∀i q,-100≤(rs.getD i []).getD q 0∧(rs.getD i []).getD q 0≤100
end Go.Am.Pu
end
section
/- Slides undone. Plain words. -/
namespace Go.Am.Pu
def leftOf(g:List (List Int))(i c:Nat):Int:=if c=0 then 0 else cel g i (c-1)
def zK(g:List (List Int))(i c:Nat):Int:=if i=0 then 0 else cel g (i-1) c
def sf:Nat→List (List Int)→Nat→Nat→List (List Int)×(Nat×Nat)
 |0,g,i,c=>(g,(i,c))
 |m+1,g,i,c=>if leftOf g i c=0∧zK g i c=0 then(g,(i,c))
  else if leftOf g i c≤zK g i c then sf m (ku g i c (zK g i c)) (i-1) c
  else sf m (ku g i c (leftOf g i c)) i (c-1)
structure Ag (f : Int → Int) (g h : List (List Int)) (i c : Nat) : Prop where
  len : h.length = g.length
  row : ∀ r, (h.getD r []).length = (g.getD r []).length
  at_ : ∀ r x, ¬ (r = i ∧ x = c) → cel h r x = f (cel g r x)
def Inn(q:List Int)(g:List (List Int)):Prop:= ∀r x:Nat,(x:Int)<q.getD r 0→cel g r x=0
theorem Inn.step{q:List Int}{g:List (List Int)}{i c:Nat}(h:Inn q g)(hq:q.getD i 0≤c)(v:Int):Inn q (ku g i c v):=by
 intro r x hx
 by_cases e:r=i∧x=c
 ·obtain⟨rfl,rfl⟩:=e;omega
 ·rw[iz _ e];exact h r x hx
theorem Ag.right{f:Int→Int}{q:List Int}{g h:List (List Int)}{i c:Nat}(hs:Sl q g i c)(hi:Inn q g)(hf: ∀a b x y,cel g a b<cel g x y→f (cel g a b)<f (cel g x y))(f0:f 0=0)
  (hr:cel g i (c+1)≠0) (ha:Ag f (ku g i c (cel g i (c+1))) h i (c+1)):
  ∃h',Ag f g h' i c∧ ∀m,sf (m+1) h i (c+1)=sf m h' i c:=by
 obtain⟨b1,b2⟩:=xz hr
 have f0': ∀a b,cel g a b=0→f (cel g a b)=0:=fun a b e=>by rw[e];exact f0
 have hl:leftOf h i (c+1)=f (cel g i (c+1)):=by
  unfold leftOf
  rw[if_neg (by omega),show c+1-1=c by omega,ha.at_ i c (by omega),jQ _ hs.hi hs.hc]
 have hpos:0<f (cel g i (c+1)):=by
  have hp:=hs.pos i (c+1)
  have e:cel g g.length 0=0:=by unfold cel;rw[aZ (Nat.le_refl _)];rfl
  have:=hf g.length 0 i (c+1) (by omega)
  rw[e,f0]at this
  exact this
 have hu:zK h i (c+1)<f (cel g i (c+1)):=by
  unfold zK
  by_cases e:i=0
  ·rw[if_pos e];exact hpos
  ·rw[if_neg e,ha.at_ _ _ (by omega),iz _ (by omega)]
   by_cases hq:q.getD (i-1) 0≤((c+1:Nat):Int)
   ·have hc:=hs.col (i-1) (c+1) hq (by rw[show i-1+1=i by omega];exact b2) (by omega) (by omega)
    rw[show i-1+1=i by omega]at hc
    exact hf _ _ _ _ hc
   ·rw[f0' _ _ (hi (i-1) (c+1) (by omega))];exact hpos
 have hhi:i<h.length:=by rw[ha.len,il];exact b1
 have hhc:c+1<(h.getD i []).length:=by rw[ha.row,bw];exact b2
 refine⟨ku h i (c+1) (leftOf h i (c+1)),⟨by rw[il,ha.len,il],fun r=>by rw[bw,ha.row,bw],fun r x hn=> ?_⟩,fun m=> ?_⟩
 ·by_cases e:r=i∧x=c+1
  ·obtain⟨rfl,rfl⟩:=e
   rw[jQ _ hhi hhc,hl]
  ·rw[iz _ e,ha.at_ r x e,iz _ hn]
 ·conv=>lhs;unfold sf
  rw[if_neg (by omega),if_neg (by omega)]
  rfl
def Occ(q:List Int)(v:Int)(g:List (List Int))(i c:Nat):Prop:= ∃r x:Nat,¬(r=i∧x=c)∧x<(g.getD r []).length∧q.getD r 0≤x∧cel g r x=v
theorem Occ.step{q:List Int}{v:Int}{g:List (List Int)}{i c a b:Nat}(h:Occ q v g i c)(hi:i<g.length)(hc:c<(g.getD i []).length)(hq:q.getD i 0≤c)(hne: ¬(a=i∧b=c)):Occ q v (ku g i c (cel g a b)) a b:=by
 obtain⟨r,x,h1,h2,h3,h4⟩:=h
 by_cases e:r=a∧x=b
 ·obtain⟨rfl,rfl⟩:=e
  exact⟨i,c,fun e=>hne ⟨e.1.symm,e.2.symm⟩,by rw[bw];exact hc,hq,by rw[jQ _ hi hc];exact h4⟩
 ·exact⟨r,x,e,by rw[bw];exact h2,h3,by rw[iz _ h1];exact h4⟩
end Go.Am.Pu
end
section
/- Promotion of a standard tableau is standard, of the same shape, and can be undone. Plain words. -/
namespace Go.Am.Pu
theorem sQ{t:Tab}(h0:t.1= [])(hp:aQ (outer t)=true)(hn: ∀r x,r<t.2.length→x<(t.2.getD r []).length→1≤cel t.2 r x∧cel t.2 r x≤9)
  (hr: ∀r x,r<t.2.length→x+1<(t.2.getD r []).length→cel t.2 r x≤cel t.2 r (x+1)) (hc: ∀r x,r+1<t.2.length→x<(t.2.getD (r+1) []).length→cel t.2 r x<cel t.2 (r+1) x):bR t=true:=by
 simp only[bR,eU,eP,aM,Bool.and_eq_true,decide_eq_true_eq,h0]
 refine⟨⟨⟨rfl,by simp,rfl,hp,by simp,?_⟩,?_⟩,rfl⟩
 ·rw[bW]
  intro i hi
  simp at hi
 ·rw[bW]
  intro r hr'
  rw[bW]
  intro k hk
  simp only[gA,within,Bool.and_eq_true,Bool.or_eq_true,decide_eq_true_eq]
  refine⟨hn r k hr' hk,?_,?_⟩
  ·by_cases e:k=0
   ·exact .inl e
   ·right
    have:=hr r (k-1) hr' (by omega)
    rw[show k-1+1=k by omega]at this
    exact this
  ·by_cases e:r=0
   ·exact .inl e
   ·right
    have:=hc (r-1) k (by omega) (by rw[show r-1+1=r by omega];exact hk)
    rw[show r-1+1=r by omega]at this
    rw[show(r:Int)-1=((r-1:Nat):Int) by omega,iU (by omega),h0]
    simp only[List.getD_nil]
    rw[show(0:Int)+(k:Int)-0=(k:Int) by omega,cU]
    exact this
theorem ot{t:Tab}(h:bR t=true):(∀r x,r<t.2.length→x<(t.2.getD r []).length→1≤cel t.2 r x∧cel t.2 r x≤9)∧(∀r x,r<t.2.length→x+1<(t.2.getD r []).length→cel t.2 r x≤cel t.2 r (x+1)):=by
 have h':=h
 simp only[bR,Bool.and_eq_true]at h'
 obtain⟨_,_,_,hc⟩:=jM h'.1
 refine⟨fun r x hr hx=> ?_,fun r x hr hx=> ?_⟩
 ·have:=hc r x hr hx
  simp only[gA,within,Bool.and_eq_true,decide_eq_true_eq]at this
  exact this.1
 ·have:=hc r (x+1) hr hx
  simp only[gA,within,Bool.and_eq_true,Bool.or_eq_true,decide_eq_true_eq]at this
  exact this.2.1.resolve_left (by omega)
theorem lB{rs:List (List Int)}{r x:Nat}(hr:r<rs.length)(hx:x<(rs.getD r []).length):cel rs r x∈rs.flatten:=by
 refine List.mem_flatten.2 ⟨rs.getD r [],by rw[an hr];exact List.getElem_mem hr,?_⟩
 unfold cel
 rw[an hx]
 exact List.getElem_mem hx
theorem qD{rs:List (List Int)}{v:Int}(h:v∈rs.flatten): ∃r x,r<rs.length∧x<(rs.getD r []).length∧cel rs r x=v:=by
 obtain⟨l,hl,hv⟩:=List.mem_flatten.1 h
 obtain⟨r,hr,rfl⟩:=List.getElem_of_mem hl
 obtain⟨x,hx,rfl⟩:=List.getElem_of_mem hv
 have e:=an hr ([]:List Int)
 refine⟨r,x,hr,by rw[e];exact hx,?_⟩
 unfold cel
 rw[e,an hx]
theorem mU{t:Tab}(h:bR t=true)(hs:iw t=true):t.2.flatten.Nodup∧(∀x∈t.2.flatten,1≤x∧x≤t.2.flatten.length):=by
 simp only[iw,Bool.and_eq_true]at hs
 have h1:=zG hs.1
 obtain⟨a,b⟩:=(Bm fun x hx=>(h1 x hx).1).1 hs.2
 exact⟨a,fun x hx=>⟨(h1 x hx).1,b x hx⟩⟩
end Go.Am.Pu
end
section
/- Promotion keeps shapes and standardness. Plain words. -/
namespace Go.Am.Pu
section
variable {t : Tab}
theorem rF{xs ys:List Int}{x:Nat}(h:x<xs.length):(xs++ys).getD x 0=xs.getD x 0:=by
 simp only[List.getD_eq_getElem?_getD,List.getElem?_append_left h]
theorem rI{xs ys:List Int}{x:Nat}(h:xs.length≤x):(xs++ys).getD x 0=ys.getD (x-xs.length) 0:=by
 simp only[List.getD_eq_getElem?_getD,List.getElem?_append_right h]
end
end Go.Am.Pu
end
section
/- Promotion undone: it is one to one. Plain words. -/
namespace Go.Am.Pu
def Fu(t:Tab)(n:Nat):List (List Int):=
 (if n=t.2.length then eF t++ [[]]else eF t).set n ((if n=t.2.length then eF t++ [[]]else eF t).getD n []++ [0])
section
variable {t : Tab}
end
end Go.Am.Pu
end
section
/- Orbits of promotion come back. Plain words. -/
namespace Go.Am.Pu
structure Good (t : Tab) : Prop where
  pl : bR t = true
  st : iw t = true
  ne : t.2.flatten.length ≠ 0
end Go.Am.Pu
end
section
/- A slide outwards, as the program has it; demotion. Plain words. -/
namespace Go.Am.Pu
theorem jP{p q:List Int}{n:Nat}(h:b8 p n=(q,true)):n≤p.length∧n<q.length∧q.length≤p.length+1∧(∀r,q.getD r 0=if r=n then p.getD n 0+1 else p.getD r 0)∧aQ q=true:=by
 have hl:=AJ p n
 rw[h]at hl
 unfold b8 at h
 by_cases hc:aQ p=true∧(0:Int)≤n∧(n:Int)≤p.length
 ·rw[if_pos hc]at h
  have hn:n≤p.length:=by omega
  generalize hw:(if(n:Int)=p.length then p++ [0]else p)=w at h
  have hb: ∀r,w.getD r 0=p.getD r 0:=fun r=>by
   rw[←hw]
   split
   ·by_cases hr:r<p.length
    ·rw[rF hr]
    ·rw[rI (by omega),aZ (xs:=p) (by omega)]
     cases r-p.length<;>rfl
   ·rfl
  have hwl:n<w.length:=by
   rw[←hw]
   split
   ·rw[List.length_append,List.length_singleton];omega
   ·omega
  simp only[Int.toNat_natCast]at h
  by_cases hp:aQ (w.set n (w.getD n 0+1))=true
  ·rw[if_pos hp]at h
   have h1:=congrArg Prod.fst h
   simp only at h1
   subst h1
   refine⟨hn,by rw[List.length_set];exact hwl,hl,fun r=> ?_,hp⟩
   by_cases e:r=n
   ·subst e
    rw[if_pos rfl,an (by rw[List.length_set];exact hwl),List.getElem_set_self,hb]
   ·rw[if_neg e,getD_set_ne (Ne.symm e),hb]
  ·rw[if_neg hp]at h
   have h2:=congrArg Prod.snd h
   simp at h2
 ·rw[if_neg hc]at h
  have h2:=congrArg Prod.snd h
  simp at h2
theorem Fh{l m:List Int}(hl:l.length=m.length)(h: ∀x,x<m.length→l.getD x 0=m.getD x 0):l=m:=
 List.ext_getElem hl fun x h1 h2=>by rw[←an h1 0,←an h2 0];exact h x h2
section
variable {u : Tab}
end
end Go.Am.Pu
end
section
/- The last promotion of an orbit; orbits' sizes. Plain words. -/
namespace Go.Am.Pu
def BO(t:Tab):Prop:=t.1= []∧dX 10 10 t.2
theorem BO.ok{t:Tab}(h:BO t):xh t:=⟨by rw[h.1];simp,by have:=h.2.1;omega,fun r hr=>by have:=h.2.2 r hr;omega⟩
theorem BO.size{t:Tab}(h:BO t):zI t.2≤100:=by
 have a:=yW t.2 10 h.2.2
 have b:=h.2.1
 omega
section
attribute [local instance] D.real
variable {α β : Type} {x y v : Option α}
theorem tG{p:Prop} [Decidable p](h:p)(g:x=v):D.test (decide p) x y=v:=by
 show(if decide p=true then x else y)=v
 rw[if_pos (decide_eq_true h)];exact g
end
end Go.Am.Pu
end
section
/- The rewriting rules of the plain laws, in one. -/
namespace Go.Am.Pu
open Go Go.Am
attribute [local instance] D.real
theorem sss:type_of% @iM∧type_of% @iX∧type_of% @eT∧type_of% @fA∧type_of% @fB∧type_of% @dO∧type_of% @dP∧type_of% @eM∧type_of% @iZ∧type_of% @eX∧type_of% @fu∧type_of% @dh∧type_of% @cY∧type_of% @fx∧type_of% @ch∧type_of% @eB∧type_of% @fj∧type_of% @ja∧type_of% @iY∧type_of% @fz∧type_of% @fy∧type_of% @bS∧type_of% @w64∧type_of% @Int.toNat_natCast∧type_of% @decide_eq_true_eq∧type_of% @Int.ofNat_lt∧type_of% @Int.ofNat_le∧type_of% @Int.natCast_nonneg∧type_of% @decide_true∧type_of% @decide_false∧type_of% @Bool.not_true∧type_of% @Bool.not_false∧type_of% @Bool.false_eq_true∧type_of% @Bool.not_eq_true∧type_of% @Bool.true_and∧type_of% @Bool.and_true∧type_of% @Bool.false_and∧type_of% @Bool.and_false:=
 ⟨@iM,@iX,@eT,@fA,@fB,@dO,@dP,@eM,@iZ,@eX,@fu,@dh,@cY,@fx,@ch,@eB,@fj,@ja,@iY,@fz,@fy,@bS,@w64,@Int.toNat_natCast,@decide_eq_true_eq,@Int.ofNat_lt,@Int.ofNat_le,@Int.natCast_nonneg,@decide_true,@decide_false,@Bool.not_true,@Bool.not_false,@Bool.false_eq_true,@Bool.not_eq_true,@Bool.true_and,@Bool.and_true,@Bool.false_and,@Bool.and_false⟩
end Go.Am.Pu
end
section
/- Cells taken out of plain tableaux, one behind another. Plain words. -/
namespace Go.Am.Pu
def qv(rs:List (List Int)):Prop:= ∀i,i+1<rs.length→(rs.getD (i+1) []).length≤(rs.getD i []).length∧ ∀q,q<(rs.getD (i+1) []).length→(rs.getD i []).getD q 0<(rs.getD (i+1) []).getD q 0
theorem uy{r:List Int}{y:Int}: ∀{m q:Nat},l6 r y m=some q→ ∀c,q<c→c<m→y≤r.getD c 0
 |0,q,h,_,_,_=>by simp[l6]at h
 |m+1,q,h,c,h1,h2=>by
  unfold l6 at h
  split at h
  ·next hc=>injection h with h;omega
  ·next hc=>
   by_cases e:c=m
   ·subst e;omega
   ·exact uy h c h1 (by omega)
theorem rE: ∀(r:Nat) (rs:List (List Int)) (y:Int),(mh r rs y).1.length=rs.length∧ ∀i,((mh r rs y).1.getD i []).length=(rs.getD i []).length
 |0,_,_=>⟨rfl,fun _=>rfl⟩
 |r+1,rs,y=>by
  unfold mh
  split
  ·next q hq=>
   obtain⟨a,b⟩:=rE r (rs.set r ((rs.getD r []).set q y)) ((rs.getD r []).getD q 0)
   refine⟨by rw[a,List.length_set],fun i=> ?_⟩
   rw[b]
   by_cases e:i=r
   ·subst e
    by_cases h:i<rs.length
    ·rw[an (by rw[List.length_set];exact h),List.getElem_set_self,List.length_set]
    ·rw[aZ (by rw[List.length_set];omega),aZ (xs:=rs) (by omega)]
   ·rw[getD_set_ne (Ne.symm e)]
  ·exact rE r rs y
theorem wH: ∀(r:Nat) (rs:List (List Int)) (y:Int) (q:Nat),r<rs.length→(∀i,i+1<r→(rs.getD (i+1) []).length≤(rs.getD i []).length∧ ∀q,q<(rs.getD (i+1) []).length→(rs.getD i []).getD q 0<(rs.getD (i+1) []).getD q 0)→
  (∀i,r≤i→i+1<rs.length→(rs.getD (i+1) []).length≤(rs.getD i []).length∧ ∀q,q<(rs.getD (i+1) []).length→(rs.getD i []).getD q 0<(rs.getD (i+1) []).getD q 0)→
  (∀i,i+1=r→(rs.getD r []).length≤(rs.getD i []).length∧q<(rs.getD i []).length∧(rs.getD i []).getD q 0<y∧(∀c,c<(rs.getD r []).length→c≠q→(rs.getD i []).getD c 0<(rs.getD r []).getD c 0)∧(∀c,q≤c→c<(rs.getD r []).length→y<(rs.getD r []).getD c 0))→
  qv (mh r rs y).1
 |0,rs,y,q,hr,_,hB,_=>fun i hi=>hB i (Nat.zero_le _) hi
 |r+1,rs,y,q,hr,hA,hB,hI=>by
  obtain⟨i1,i2,i3,i4,i5⟩:=hI r rfl
  obtain⟨q0,hq0⟩:=wY i2 i3
  have hmax:=uy hq0
  obtain⟨k1,k2⟩:=sH hq0
  have hqq:q≤q0:=Nat.le_of_not_lt fun hlt=>by
   have:=hmax q hlt i2
   omega
  unfold mh
  rw[hq0]
  have hrow:(rs.set r ((rs.getD r []).set q0 y)).getD r []=(rs.getD r []).set q0 y:=by
   rw[an (by rw[List.length_set];omega),List.getElem_set_self]
  have hne: ∀i,i≠r→(rs.set r ((rs.getD r []).set q0 y)).getD i []=rs.getD i []:=fun i h=>getD_set_ne (Ne.symm h) _ _
  have hset: ∀c,c≠q0→((rs.getD r []).set q0 y).getD c 0=(rs.getD r []).getD c 0:=fun c h=>getD_set_ne (Ne.symm h) _ _
  have hself:((rs.getD r []).set q0 y).getD q0 0=y:=by rw[an (by rw[List.length_set];exact k1),List.getElem_set_self]
  refine wH r _ _ q0 (by rw[List.length_set];omega) (fun i hi=> ?_) (fun i hi hl=> ?_) (fun i hi=> ?_)
  ·rw[hne _ (by omega),hne _ (by omega)]
   exact hA i (by omega)
  ·rw[List.length_set]at hl
   by_cases e:i=r
   ·subst e
    rw[hne (i+1) (by omega),hrow,List.length_set]
    refine⟨i1,fun c hc=> ?_⟩
    by_cases e2:c=q0
    ·subst e2;rw[hself];exact i5 c hqq hc
    ·rw[hset c e2]
     by_cases e3:c=q
     ·subst e3
      have:=i5 c (Nat.le_refl _) hc
      omega
     ·exact i4 c hc e3
   ·rw[hne (i+1) (by omega),hne i e]
    exact hB i (by omega) hl
  ·subst hi
   obtain⟨a1,a2⟩:=hA i (by omega)
   rw[hrow,hne i (by omega),List.length_set]
   refine⟨a1,by omega,a2 q0 k1,fun c hc e=> ?_,fun c h1 h2=> ?_⟩
   ·rw[hset c e];exact a2 c hc
   ·by_cases e:c=q0
    ·subst e;rw[hself];exact k2
    ·rw[hset c e]
     have:=hmax c (by omega) h2
     omega
def bT(rs:List (List Int))(r:Nat):List (List Int):=
 if(rs.getD r []).length=1 then(rs.set r ((rs.getD r []).take ((rs.getD r []).length-1))).take r else rs.set r ((rs.getD r []).take ((rs.getD r []).length-1))
def dY(a b:List (List Int)):Prop:=a.length=b.length∧ ∀i,(a.getD i []).length=(b.getD i []).length
theorem getD_take{α:Type}{l:List α}{n i:Nat}(h:i<n)(d:α):(l.take n).getD i d=l.getD i d:=by
 simp only[List.getD_eq_getElem?_getD,List.getElem?_take,if_pos h]
theorem wA{a b:List (List Int)}(h:dY a b)(n:Nat):dY (a.take n) (b.take n):=by
 refine⟨by rw[List.length_take,List.length_take,h.1],fun i=> ?_⟩
 by_cases hi:i<n
 ·rw[getD_take hi,getD_take hi];exact h.2 i
 ·rw[aZ (xs:=a.take n) (by rw[List.length_take];omega),aZ (xs:=b.take n) (by rw[List.length_take];omega)]
theorem yl(rs:List (List Int))(r:Nat):dY (lE rs r).1 (bT rs r):=by
 have a:=rE r (rs.set r ((rs.getD r []).take ((rs.getD r []).length-1))) ((rs.getD r []).getD ((rs.getD r []).length-1) 0)
 unfold lE bT
 simp only
 split
 ·exact wA a r
 ·exact a
theorem yS{a b:List (List Int)}(h:dY a b)(r:Nat):dY (bT a r) (bT b r):=by
 have hs:dY (a.set r ((a.getD r []).take ((a.getD r []).length-1))) (b.set r ((b.getD r []).take ((b.getD r []).length-1))):=by
  refine⟨by rw[List.length_set,List.length_set,h.1],fun i=> ?_⟩
  by_cases e:i=r
  ·subst e
   by_cases hi:i<a.length
   ·rw[an (xs:=a.set _ _) (by rw[List.length_set];exact hi),List.getElem_set_self,an (xs:=b.set _ _) (by rw[List.length_set,←h.1];exact hi),List.getElem_set_self,List.length_take,List.length_take,h.2 i]
   ·rw[aZ (xs:=a.set _ _) (by rw[List.length_set];omega),aZ (xs:=b.set _ _) (by rw[List.length_set,←h.1];omega)]
  ·rw[getD_set_ne (Ne.symm e),getD_set_ne (Ne.symm e)];exact h.2 i
 unfold bT
 rw[h.2 r]
 split
 ·rw[←h.2 r];rw[h.2 r]at*;exact wA hs r
 ·rw[h.2 r]at hs;exact hs
theorem dY.trans{a b c:List (List Int)}(h:dY a b)(h':dY b c):dY a c:=⟨h.1.trans h'.1,fun i=>(h.2 i).trans (h'.2 i)⟩
theorem El{rs:List (List Int)}(h:qv rs)(n:Nat):qv (rs.take n):=by
 intro i hi
 rw[List.length_take]at hi
 rw[getD_take (by omega),getD_take (by omega)]
 exact h i (by omega)
theorem y0{rs:List (List Int)}{r:Nat}(h:qv rs)(hr:r<rs.length)(hl:1≤(rs.getD r []).length)(hc:(rs.getD (r+1) []).length<(rs.getD r []).length):qv (lE rs r).1:=by
 have hrow:(rs.set r ((rs.getD r []).take ((rs.getD r []).length-1))).getD r []=(rs.getD r []).take ((rs.getD r []).length-1):=by
  rw[an (by rw[List.length_set];exact hr),List.getElem_set_self]
 have hne: ∀i,i≠r→(rs.set r ((rs.getD r []).take ((rs.getD r []).length-1))).getD i []=rs.getD i []:=fun i h=>getD_set_ne (Ne.symm h) _ _
 have key:qv (mh r (rs.set r ((rs.getD r []).take ((rs.getD r []).length-1))) ((rs.getD r []).getD ((rs.getD r []).length-1) 0)).1:=by
  refine wH r _ _ ((rs.getD r []).length-1) (by rw[List.length_set];exact hr) (fun i hi=> ?_) (fun i hi hil=> ?_) (fun i hi=> ?_)
  ·rw[hne _ (by omega),hne _ (by omega)];exact h i (by omega)
  ·rw[List.length_set]at hil
   by_cases e:i=r
   ·subst e
    rw[hne (i+1) (by omega),hrow,List.length_take]
    refine⟨by omega,fun c hc'=> ?_⟩
    rw[getD_take (by omega)]
    exact(h i hil).2 c hc'
   ·rw[hne (i+1) (by omega),hne i e];exact h i hil
  ·subst hi
   obtain⟨a1,a2⟩:=h i hr
   rw[hrow,hne i (by omega),List.length_take]
   refine⟨by omega,by omega,a2 _ (by omega),fun c h1 h2=> ?_,fun c h1 h2=>by omega⟩
   rw[getD_take (by omega)]
   exact a2 c (by omega)
 unfold lE
 simp only
 split
 ·exact El key r
 ·exact key
end Go.Am.Pu
end
section
/- The greatest number of a standard tableau, and the tableau without it; a pair of tableaux unrolled. Plain words. -/
namespace Go.Am.Pu
section
variable {t : Tab}
theorem u9(h:bR t=true)(hs:iw t=true){a b x y:Nat}(ha:a<t.2.length)(hx:x<(t.2.getD a []).length)(hb:b<t.2.length)(hy:y<(t.2.getD b []).length)(e:cel t.2 a x=cel t.2 b y):a=b∧x=y:=by
 have nd:=(mU h hs).1
 rw[List.Nodup,List.pairwise_flatten]at nd
 have mem: ∀{r z:Nat},r<t.2.length→(hz:z<(t.2.getD r []).length)→cel t.2 r z∈t.2.getD r []:=fun{r z} _ hz=>by
  unfold cel
  rw[an hz]
  exact List.getElem_mem hz
 have ab: ∀{a b x y:Nat},a<b→a<t.2.length→x<(t.2.getD a []).length→b<t.2.length→y<(t.2.getD b []).length→cel t.2 a x≠cel t.2 b y:=fun{a b x y} hab ha hx hb hy=>by
  have:=List.pairwise_iff_getElem.1 nd.2 a b ha hb hab
  exact this _ (by rw[←an ha []];exact mem ha hx) _ (by rw[←an hb []];exact mem hb hy)
 have e1:a=b:=by
  rcases Nat.lt_trichotomy a b with hl|hl|hl
  ·exact absurd e (ab hl ha hx hb hy)
  ·exact hl
  ·exact absurd e.symm (ab hl hb hy ha hx)
 subst e1
 refine⟨rfl,?_⟩
 have n2:=nd.1 _ (by rw[an ha];exact List.getElem_mem ha:t.2.getD a []∈t.2)
 unfold cel at e
 rw[an hx,an hy]at e
 rcases Nat.lt_trichotomy x y with hl|hl|hl
 ·exact absurd e (List.pairwise_iff_getElem.1 n2 x y hx hy hl)
 ·exact hl
 ·exact absurd e.symm (List.pairwise_iff_getElem.1 n2 y x hy hx hl)
theorem jO(h:bR t=true)(hs:iw t=true){a x:Nat}{v:Int}(ha:a<t.2.length)(hx:x<(t.2.getD a []).length)(e:cel t.2 a x=v):rowOf t v=a:=by
 have hf:t.2.findIdx (fun r=>has r v)=a:=by
  rw[List.findIdx_eq ha]
  refine⟨?_,fun j hj=> ?_⟩
  ·rw[←an ha [],tP,←e]
   unfold cel
   rw[an hx]
   exact List.getElem_mem hx
  ·rw[Bool.eq_false_iff]
   intro hc
   rw[tP]at hc
   obtain⟨y,hy,e2⟩:=List.getElem_of_mem hc
   have hjl:j<t.2.length:=by omega
   have hy':y<(t.2.getD j []).length:=by rw[an hjl];exact hy
   have e3:cel t.2 j y=v:=by
    unfold cel
    rw[an hy']
    simp only[an hjl]
    exact e2
   have:=u9 h hs hjl hy' ha hx (by rw[e,e3])
   omega
 unfold rowOf Hh
 rw[hf,if_pos ha]
theorem Fp(h:bR t=true)(hs:iw t=true)(hn:t.2.flatten.length≠0): ∃a:Nat,a<t.2.length∧1≤(t.2.getD a []).length∧cel t.2 a ((t.2.getD a []).length-1)=t.2.flatten.length∧(t.2.getD (a+1) []).length<(t.2.getD a []).length∧rowOf t t.2.flatten.length=a:=by
 have ho:lz t.2.flatten=true:=by
  have:=hs
  simp only[iw,Bool.and_eq_true]at this
  exact this.2
 obtain⟨a,x,ha,hx,e⟩:=qD (kO.1 ho t.2.flatten.length (iu.2 (by omega)))
 have hb:=(mU h hs).2
 obtain⟨c1,c2⟩:=ot h
 have hx1:x+1=(t.2.getD a []).length:=by
  refine Nat.le_antisymm hx (Nat.le_of_not_lt fun hlt=> ?_)
  have k1:=c2 a x ha hlt
  have k2:=(hb _ (lB ha hlt)).2
  have:=u9 h hs ha hx ha hlt (by omega)
  omega
 have hbel:(t.2.getD (a+1) []).length≤x:=by
  refine Nat.le_of_not_lt fun hlt=> ?_
  have ha1:a+1<t.2.length:=Nat.lt_of_not_le fun hle=>by rw[aZ hle]at hlt;simp at hlt
  have k1:=(qd h a ha1).2 x hlt
  have k2:=(hb _ (lB ha1 hlt)).2
  unfold cel at e k2
  omega
 refine⟨a,ha,by omega,by rw[show(t.2.getD a []).length-1=x by omega];exact e,by omega,jO h hs ha hx e⟩
theorem pV{rs:List (List Int)}{a:Nat}(ha:a<rs.length)(hc:(rs.getD (a+1) []).length<(rs.getD a []).length)(hp: ∀r,r<rs.length→1≤(rs.getD r []).length)(r:Nat):(bT rs a).getD r []=if r=a then(rs.getD a []).take ((rs.getD a []).length-1)else rs.getD r []:=by
 have hset:(rs.set a ((rs.getD a []).take ((rs.getD a []).length-1))).getD r []=if r=a then(rs.getD a []).take ((rs.getD a []).length-1)else rs.getD r []:=by
  by_cases e:r=a
  ·subst e;rw[if_pos rfl,an (by rw[List.length_set];exact ha),List.getElem_set_self]
  ·rw[if_neg e,getD_set_ne (Ne.symm e)]
 unfold bT
 split
 ·next h1=>
  by_cases hr:r<a
  ·rw[getD_take hr,hset]
  ·rw[aZ (by rw[List.length_take];omega)]
   by_cases e:r=a
   ·subst e;rw[if_pos rfl,h1];rfl
   ·rw[if_neg e]
    have hlast:rs.length≤a+1:=Nat.le_of_not_lt fun hlt=>by
     have:=hp (a+1) hlt
     omega
    rw[aZ (by omega)]
 ·exact hset
theorem uh{rs:List (List Int)}{a:Nat}(ha:a<rs.length):(bT rs a).length=if(rs.getD a []).length=1 then a else rs.length:=by
 unfold bT
 split
 ·rw[List.length_take,List.length_set];omega
 ·rw[List.length_set]
theorem FN(h:bR t=true)(hs:iw t=true){a:Nat}(hn:t.2.flatten.length≠0)(ha:a<t.2.length)(h1:1≤(t.2.getD a []).length)(htop:cel t.2 a ((t.2.getD a []).length-1)=t.2.flatten.length)(hc:(t.2.getD (a+1) []).length<(t.2.getD a []).length):
  bR (([],bT t.2 a):Tab)=true∧iw (([],bT t.2 a):Tab)=true∧(bT t.2 a).flatten.length+1=t.2.flatten.length∧ ∀v,1≤v→v<(t.2.flatten.length:Int)→rowOf ([],bT t.2 a) v=rowOf t v:=by
 have hpos:=fun r (hr:r<t.2.length)=>Ci h hr
 have hrow:=pV ha hc hpos
 have hlen:=uh ha
 obtain⟨c1,c2⟩:=ot h
 have c3:=qd h
 have hcorner:(outer t).getD (a+1) 0<(outer t).getD a 0:=by
  rw[fR h ha]
  by_cases e:a+1<t.2.length
  ·rw[fR h e];omega
  ·rw[aZ (by rw[cd];omega)];omega
 have hal:a<(outer t).length:=by rw[cd];exact ha
 have hout:outer (([],bT t.2 a):Tab)=aF (outer t) a:=by
  have hdl:(aF (outer t) a).length=(bT t.2 a).length:=by
   rw[hlen]
   unfold aF
   rw[fR h ha]
   by_cases e:(t.2.getD a []).length=1
   ·rw[if_pos (by omega),if_pos e,List.length_take,cd];omega
   ·rw[if_neg (by omega),if_neg e,List.length_set,cd]
  refine List.ext_getElem (by rw[cd,hdl]) fun r k1 k2=> ?_
  rw[←an k1 0,←an k2 0,q8 (jF h) hal hcorner]
  have k3:r<(bT t.2 a).length:=by rw[cd]at k1;exact k1
  have:=eC [] (bT t.2 a) 0 r k3
  unfold outer at this⊢
  rw[this,hrow]
  have hrl:r<t.2.length:=by
   rw[hlen]at k3
   split at k3<;>omega
  have po:=fR h hrl
  have pa:=fR h ha
  unfold outer at po pa
  by_cases e:r=a
  ·subst e
   rw[if_pos rfl,if_pos rfl,List.length_take,pa]
   simp only[List.getD_nil]
   omega
  ·rw[if_neg e,if_neg e,po]
   simp only[List.getD_nil]
   omega
 have hcel: ∀{r x:Nat},x<((bT t.2 a).getD r []).length→x<(t.2.getD r []).length∧cel (bT t.2 a) r x=cel t.2 r x:=fun{r x} hx=>by
  unfold cel
  rw[hrow]at hx⊢
  by_cases e:r=a
  ·subst e
   rw[if_pos rfl,List.length_take]at hx
   rw[if_pos rfl,getD_take (by omega)]
   exact⟨by omega,rfl⟩
  ·rw[if_neg e]at hx⊢
   exact⟨hx,rfl⟩
 have hrl: ∀{r:Nat},r<(bT t.2 a).length→r<t.2.length:=fun{r} hr=>by
  rw[hlen]at hr
  split at hr<;>omega
 have hin: ∀{r x:Nat},x<(t.2.getD r []).length→ ¬(r=a∧x+1=(t.2.getD a []).length)→x<((bT t.2 a).getD r []).length:=fun{r x} hx hne=>by
  rw[hrow]
  by_cases e:r=a
  ·subst e
   rw[if_pos rfl,List.length_take]
   have: ¬x+1=(t.2.getD r []).length:=fun e=>hne ⟨rfl,e⟩
   omega
  ·rw[if_neg e];exact hx
 have hpl:bR (([],bT t.2 a):Tab)=true:=by
  refine sQ rfl (by rw[hout];exact oC (jF h) hal hcorner) (fun r x hr hx=> ?_) (fun r x hr hx=> ?_) (fun r x hr hx=> ?_)
  ·obtain⟨k1,k2⟩:=hcel hx
   rw[k2];exact c1 r x (hrl hr) k1
  ·obtain⟨k1,k2⟩:=hcel hx
   obtain⟨_,k4⟩:=hcel (show x<((bT t.2 a).getD r []).length from Nat.lt_of_succ_lt hx)
   rw[k2,k4];exact c2 r x (hrl hr) k1
  ·obtain⟨k1,k2⟩:=hcel hx
   have hr1:=hrl hr
   obtain⟨d1,d2⟩:=c3 r hr1
   have hxr:x<((bT t.2 a).getD r []).length:=by
    refine hin (by omega) fun e=> ?_
    rw[e.1]at k1
    omega
   obtain⟨_,k4⟩:=hcel hxr
   rw[k2,k4]
   exact d2 x k1
 have hfl:(bT t.2 a).flatten.length+1=t.2.flatten.length:=by
  have e1:=wG hpl
  rw[hout,zD (jF h) hal hcorner,wG h]at e1
  simp only at e1
  omega
 have ho:lz t.2.flatten=true:=by
  have:=hs
  simp only[iw,Bool.and_eq_true]at this
  exact this.2
 have hcells: ∀v,1≤v→v<(t.2.flatten.length:Int)→ ∃r x,r<(bT t.2 a).length∧x<((bT t.2 a).getD r []).length∧cel (bT t.2 a) r x=v∧r<t.2.length∧x<(t.2.getD r []).length∧cel t.2 r x=v:=by
  intro v v1 v2
  obtain⟨r,x,hr,hx,e⟩:=qD (kO.1 ho v (iu.2 (by omega)))
  have hx':x<((bT t.2 a).getD r []).length:=by
   refine hin hx fun e2=> ?_
   rw[e2.1,show x=(t.2.getD a []).length-1 by omega,htop]at e
   omega
  exact⟨r,x,Nat.lt_of_not_le fun hle=>by rw[aZ hle]at hx';simp at hx',hx',by rw[(hcel hx').2];exact e,hr,hx,e⟩
 have hst:iw (([],bT t.2 a):Tab)=true:=by
  have hp':=hpl
  simp only[bR,Bool.and_eq_true]at hp'
  simp only[iw,Bool.and_eq_true]
  refine⟨hp'.1,kO.2 fun v hv=> ?_⟩
  rw[iu]at hv
  obtain⟨r,x,q1,q2,q3,_⟩:=hcells v hv.1 (by omega)
  rw[←q3]
  exact lB q1 q2
 refine⟨hpl,hst,hfl,fun v v1 v2=> ?_⟩
 obtain⟨r,x,q1,q2,q3,q4,q5,q6⟩:=hcells v v1 v2
 rw[jO h hs q4 q5 q6,jO hpl hst q1 q2 q3]
end
structure Unr (q : Tab) (k : Nat) (P Q : List (List Int)) : Prop where
  pl : bR (([], Q) : Tab) = true
  st : iw (([], Q) : Tab) = true
  fl : Q.flatten.length = k
  col : qv P
  same : dY P Q
  p9 : dX 9 9 P
  row : ∀ v, 1 ≤ v → v ≤ (k : Int) → rowOf ([], Q) v = rowOf q v
theorem Unr.step{q:Tab}{k:Nat}{P Q:List (List Int)}(h:Unr q (k+1) P Q): ∃a:Nat,rowOf q ((k+1:Nat):Int)=a∧a<Q.length∧1≤(Q.getD a []).length∧cel Q a ((Q.getD a []).length-1)=(k+1:Nat)∧(Q.getD (a+1) []).length<(Q.getD a []).length∧Unr q k (lE P a).1 (bT Q a):=by
 have hfl:(([],Q):Tab).2.flatten.length=k+1:=h.fl
 obtain⟨a,a1,a2,a3,a4,a5⟩:=Fp h.pl h.st (by omega)
 obtain⟨b1,b2,b3,b4⟩:=FN h.pl h.st (by omega) a1 a2 a3 a4
 simp only at a1 a2 a3 a4 b3
 have hP1:a<P.length:=by rw[h.same.1];exact a1
 refine⟨a,?_,a1,a2,by rw[a3,h.fl],a4,⟨b1,b2,by have:=h.fl;omega,y0 h.col hP1 (by rw[h.same.2];exact a2) (by rw[h.same.2,h.same.2];exact a4),(yl P a).trans (yS h.same a),ya h.p9 a,fun v v1 v2=> ?_⟩⟩
 ·rw[←h.row _ (by omega) (Int.le_refl _),←a5,hfl]
 ·rw[b4 v v1 (by rw[hfl];omega)]
  exact h.row v v1 (by omega)
end Go.Am.Pu
namespace Go.Am.Pu
end Go.Am.Pu
end
section
/- Insertion keeps tableaux; where the new cells lie; a tableau from its word. Plain words. -/
namespace Go.Am.Pu
def l9(r:List Int):Prop:= ∀i,i+1<r.length→r.getD i 0≤r.getD (i+1) 0
theorem l9.le{r:List Int}(h:l9 r): ∀(d i:Nat),i+d<r.length→r.getD i 0≤r.getD (i+d) 0
 |0,i,_=>Int.le_refl _
 |d+1,i,hi=>by
  have a:=l9.le h d i (by omega)
  have b:=h (i+d) (by omega)
  rw[show i+(d+1)=i+d+1 by omega]
  omega
theorem l9.mono{r:List Int}(h:l9 r){i j:Nat}(hij:i≤j)(hj:j<r.length):r.getD i 0≤r.getD j 0:=by
 have:=h.le (j-i) i (by omega)
 rw[show i+(j-i)=j by omega]at this
 exact this
def fst(r:List Int)(x:Int):Nat:=r.findIdx fun n=>decide (x<n)
theorem yb{r:List Int}{x:Int}:fst r x≤r.length:=List.findIdx_le_length
theorem EA{r:List Int}{x:Int}(h:fst r x<r.length):x<r.getD (fst r x) 0:=by
 have:=AD (p:=fun n=>decide (x<n)) h
 exact of_decide_eq_true this
theorem ym{r:List Int}{x:Int}{i:Nat}(h:i<fst r x):r.getD i 0≤x:=by
 have h1:i<r.length:=Nat.lt_of_lt_of_le h yb
 have h2:=List.not_of_lt_findIdx h
 rw[an h1]
 exact Int.not_lt.1 (of_decide_eq_false h2)
theorem gU(r:List Int)(rs:List (List Int))(x:Int):bG (r::rs) x=if fst r x<r.length then(r.set (fst r x) x::(bG rs (r.getD (fst r x) 0)).1,(bG rs (r.getD (fst r x) 0)).2+1)else((r++ [x])::rs,0):=rfl
def Over(r:List Int):List (List Int)→Prop
 | []=>True
 |s::_=>s.length≤r.length∧ ∀q,q<s.length→r.getD q 0<s.getD q 0
def SSR:List (List Int)→Prop
 | []=>True
 |r::rs=>0<r.length∧l9 r∧Over r rs∧SSR rs
theorem fD{r:List Int}{i:Nat}(x:Int)(h:i<r.length)(q:Nat):(r.set i x).getD q 0=if q=i then x else r.getD q 0:=by
 by_cases e:q=i
 ·subst e;rw[if_pos rfl,an (by rw[List.length_set];exact h),List.getElem_set_self]
 ·rw[if_neg e,getD_set_ne (Ne.symm e)]
theorem dM{r:List Int}(x:Int)(q:Nat):(r++ [x]).getD q 0=if q=r.length then x else r.getD q 0:=by
 by_cases h:q<r.length
 ·rw[rF h,if_neg (by omega)]
 ·rw[rI (by omega)]
  by_cases e:q=r.length
  ·rw[if_pos e,e,Nat.sub_self];rfl
  ·rw[if_neg e,aZ (by simp;omega),aZ (by omega)]
theorem Gl{r:List Int}{x:Int}(h:l9 r)(hf:fst r x<r.length):l9 (r.set (fst r x) x):=by
 intro i hi
 rw[List.length_set]at hi
 rw[fD x hf,fD x hf]
 have h0:=h i hi
 by_cases e1:i=fst r x
 ·rw[if_pos e1,if_neg (by omega)]
  have:=EA hf
  rw[←e1]at this
  omega
 ·rw[if_neg e1]
  by_cases e2:i+1=fst r x
  ·rw[if_pos e2];exact ym (by omega)
  ·rw[if_neg e2];exact h0
theorem Gc{r:List Int}{x:Int}(h:l9 r)(hf: ¬fst r x<r.length):l9 (r++ [x]):=by
 intro i hi
 rw[List.length_append,List.length_singleton]at hi
 rw[dM,dM,if_neg (by omega)]
 by_cases e:i+1=r.length
 ·rw[if_pos e]
  have:= @yb r x
  exact ym (by omega)
 ·rw[if_neg e];exact h i (by omega)
theorem DP{r:List Int}{x:Int}{rs:List (List Int)}(h:l9 r)(hf:fst r x<r.length)(ho:Over r rs):Over (r.set (fst r x) x) (bG rs (r.getD (fst r x) 0)).1:=by
 have hy:=EA hf
 have hle: ∀q,q<r.length→(r.set (fst r x) x).getD q 0≤r.getD q 0:=fun q hq=>by
  rw[fD x hf]
  split
  ·next e=>rw[e];omega
  ·exact Int.le_refl _
 have hlow: ∀p,p≤fst r x→(r.set (fst r x) x).getD p 0<r.getD (fst r x) 0:=fun p hp=>by
  rw[fD x hf]
  split
  ·exact hy
  ·have:=ym (r:=r) (x:=x) (i:=p) (by omega)
   omega
 cases rs with
 |nil=>
  show([r.getD (fst r x) 0]:List Int).length≤_∧_
  refine⟨by rw[List.length_set];simp;omega,fun q hq=> ?_⟩
  have e:q=0:=by simp at hq;exact hq
  subst e
  exact hlow 0 (by omega)
 |cons s rs=>
  obtain⟨o1,o2⟩:=ho
  have hp:fst s (r.getD (fst r x) 0)≤fst r x:=by
   refine Nat.le_of_not_lt fun hlt=> ?_
   have hs:fst r x<s.length:=Nat.lt_of_lt_of_le hlt yb
   have a:=ym hlt
   have b:=o2 _ hs
   omega
  rw[gU]
  by_cases c:fst s (r.getD (fst r x) 0)<s.length
  ·rw[if_pos c]
   refine⟨by rw[List.length_set,List.length_set];exact o1,fun q hq=> ?_⟩
   rw[List.length_set]at hq
   rw[fD (r:=s) _ c]
   split
   ·next e=>rw[e];exact hlow _ hp
   ·have a:=hle q (by omega)
    have b:=o2 q hq
    omega
  ·rw[if_neg c]
   have hsl:fst s (r.getD (fst r x) 0)=s.length:=Nat.le_antisymm yb (Nat.le_of_not_lt c)
   refine⟨by rw[List.length_set,List.length_append,List.length_singleton];omega,fun q hq=> ?_⟩
   rw[List.length_append,List.length_singleton]at hq
   rw[dM]
   split
   ·next e=>rw[e];exact hlow _ (by omega)
   ·have a:=hle q (by omega)
    have b:=o2 q (by omega)
    omega
theorem Cs: ∀(rs:List (List Int)) (x:Int),SSR rs→SSR (bG rs x).1
 | [],x,_=>⟨by simp,fun i hi=>by simp at hi,trivial,trivial⟩
 |r::rs,x,h=>by
  obtain⟨h1,h2,h3,h4⟩:=h
  rw[gU]
  split
  ·next c=>exact⟨by rw[List.length_set];exact h1,Gl h2 c,DP h2 c h3,Cs rs _ h4⟩
  ·next c=>
   refine⟨by simp,Gc h2 c,?_,h4⟩
   cases rs with
   |nil=>trivial
   |cons s rs=>
    obtain⟨o1,o2⟩:=h3
    refine⟨by rw[List.length_append];omega,fun q hq=> ?_⟩
    rw[dM,if_neg (by omega)]
    exact o2 q hq
end Go.Am.Pu
end
section
/- Plain tableaux, row by row; a tableau from its word; words inserted. Plain words. -/
namespace Go.Am.Pu
theorem yk: ∀{rs:List (List Int)},SSR rs→ ∀r,r<rs.length→0<(rs.getD r []).length∧l9 (rs.getD r [])
 |r::rs,h,0,_=>⟨h.1,h.2.1⟩
 |r::rs,h,q+1,hq=>yk h.2.2.2 q (by simpa using hq)
theorem yq: ∀{rs:List (List Int)},SSR rs→qv rs
 | [],_,i,hi=>by simp at hi
 | [r],_,i,hi=>by simp at hi
 |r::s::rs,h,0,_=>h.2.2.1
 |r::s::rs,h,i+1,hi=>yq h.2.2.2 i (by simpa using hi)
theorem wF: ∀{rs:List (List Int)},(∀r,r<rs.length→0<(rs.getD r []).length∧l9 (rs.getD r []))→qv rs→SSR rs
 | [],_,_=>trivial
 |r::rs,h1,h2=>by
  refine⟨(h1 0 (by simp)).1,(h1 0 (by simp)).2,?_,wF (fun q hq=>h1 (q+1) (by simpa using hq)) (fun i hi=>h2 (i+1) (by simpa using hi))⟩
  cases rs with
  |nil=>trivial
  |cons s rs=>exact h2 0 (by simp)
theorem oX(rs:List (List Int)){i:Nat}(h:i<rs.length):(outer (([],rs):Tab)).getD i 0=(rs.getD i []).length:=by
 have:=eC [] rs 0 i h
 unfold outer
 rw[this]
 simp
theorem xY{rs:List (List Int)}(h:SSR rs)(hn: ∀x∈rs.flatten,1≤x∧x≤9)(h9:rs.flatten.length≤9):bR (([],rs):Tab)=true:=by
 have hr:=fun r hr=>yk h r hr
 have hc:=yq h
 have hrl: ∀r,r<rs.length→(rs.getD r []).length≤9:=fun r h1=>by
  have:=tR (rs:=rs) (r:=rs.getD r []) (by rw[an h1];exact List.getElem_mem h1)
  omega
 refine sQ rfl ?_ (fun r x h1 h2=>hn _ (lB h1 h2)) (fun r x h1 h2=>(hr r h1).2 x h2) (fun r x h1 h2=>(hc r h1).2 x h2)
 have hs:aP (outer (([],rs):Tab))=rs.flatten.length:=oN [] rs 0 fun q _=>by simp
 refine kF _ 9 0 (fun x hx=> ?_) (fun h0=> ?_) (fun i hi=> ?_) (by omega)
 ·obtain⟨i,hi,rfl⟩:=List.getElem_of_mem hx
  have hi':i<rs.length:=by rw[cd]at hi;exact hi
  rw[←an hi 0,oX rs hi']
  have:=(hr i hi').1
  omega
 ·have h0':0<rs.length:=by rw[cd]at h0;exact h0
  rw[oX rs h0']
  have:=hrl 0 h0'
  omega
 ·have hi':i+1<rs.length:=by rw[cd]at hi;exact hi
  rw[oX rs hi',oX rs (by omega)]
  have:=(hc i hi').1
  omega
theorem BM: ∀(rs:List (List Int)) (x z:Int),z∈(bG rs x).1.flatten→z=x∨z∈rs.flatten
 | [],x,z,h=>by simp[bG]at h;exact .inl h
 |r::rs,x,z,h=>by
  rw[gU]at h
  split at h
  ·next c=>
   simp only[List.flatten_cons,List.mem_append]at h⊢
   rcases h with h|h
   ·rcases List.mem_or_eq_of_mem_set h with h|h
    ·exact .inr (.inl h)
    ·exact .inl h
   ·rcases BM rs _ z h with h|h
    ·right;left
     rw[h,an c]
     exact List.getElem_mem c
    ·exact .inr (.inr h)
  ·simp only[List.flatten_cons,List.mem_append,List.mem_singleton]at h⊢
   rcases h with(h|h)|h
   ·exact .inr (.inl h)
   ·exact .inl h
   ·exact .inr (.inr h)
theorem zM: ∀(rs:List (List Int)) (x:Int),(bG rs x).1.flatten.length=rs.flatten.length+1
 | [],x=>by simp[bG]
 |r::rs,x=>by
  rw[gU]
  split
  ·have:=zM rs (r.getD (fst r x) 0)
   simp only[List.flatten_cons,List.length_append,List.length_set]
   omega
  ·simp only[List.flatten_cons,List.length_append,List.length_singleton]
   omega
theorem Cn: ∀(rs:List (List Int)) (x:Int),(bG rs x).2≤rs.length∧((bG rs x).1.length=if(bG rs x).2=rs.length then rs.length+1 else rs.length)∧ ∀i,((bG rs x).1.getD i []).length=if i=(bG rs x).2 then(rs.getD i []).length+1 else(rs.getD i []).length
 | [],x=>by
  refine⟨Nat.le_refl _,rfl,fun i=> ?_⟩
  cases i with
  |zero=>rfl
  |succ i=>simp[bG]
 |r::rs,x=>by
  rw[gU]
  split
  ·next c=>
   obtain⟨a,b,d⟩:=Cn rs (r.getD (fst r x) 0)
   refine⟨by simp only[List.length_cons];omega,?_,fun i=> ?_⟩
   ·simp only[List.length_cons,b,Nat.add_right_cancel_iff]
    split<;>rfl
   ·cases i with
    |zero=>simp
    |succ i=>
     have:=d i
     simp only[Nat.add_right_cancel_iff]
     exact this
  ·refine⟨Nat.zero_le _,by simp,fun i=> ?_⟩
   cases i with
   |zero=>simp
   |succ i=>simp
def mc:List Int→List (List Int)→List (List Int)
 | [],P=>P
 |x::w,P=>mc w (bG P x).1
theorem mI: ∀(v w:List Int) (P:List (List Int)),mc (v++w) P=mc w (mc v P)
 | [],_,_=>rfl
 |x::v,w,P=>mI v w _
end Go.Am.Pu
end
section
/- The recording tableau is standard, and its descents are the word's. Plain words. -/
namespace Go.Am.Pu
def j2(Q:List (List Int))(a:Nat)(v:Int):List (List Int):=if a=Q.length then Q++ [[v]]else Q.set a (Q.getD a []++ [v])
theorem xq{Q:List (List Int)}{a:Nat}(v:Int)(ha:a≤Q.length)(i:Nat):(j2 Q a v).getD i []=if i=a then Q.getD a []++ [v]else Q.getD i []:=by
 unfold j2
 by_cases e:a=Q.length
 ·rw[if_pos e]
  by_cases h:i<Q.length
  ·rw[if_neg (by omega)]
   simp only[List.getD_eq_getElem?_getD,List.getElem?_append_left h]
  ·by_cases e2:i=a
   ·rw[if_pos e2,e2,e,aZ (xs:=Q) (Nat.le_refl _)]
    simp
   ·rw[if_neg e2,aZ (xs:=Q) (by omega),aZ (by rw[List.length_append,List.length_singleton];omega)]
 ·rw[if_neg e]
  by_cases e2:i=a
  ·subst e2;rw[if_pos rfl,an (by rw[List.length_set];omega),List.getElem_set_self]
  ·rw[if_neg e2,getD_set_ne (Ne.symm e2)]
theorem oH{Q:List (List Int)}{a:Nat}(v:Int):(j2 Q a v).length=if a=Q.length then Q.length+1 else Q.length:=by
 unfold j2
 split
 ·rw[List.length_append,List.length_singleton]
 ·rw[List.length_set]
theorem AT{Q:List (List Int)}{a:Nat}(v:Int)(ha:a≤Q.length):(j2 Q a v).flatten.length=Q.flatten.length+1:=by
 unfold j2
 split
 ·simp
 ·next e=>
  have: ∀(Q:List (List Int)) (a:Nat),a<Q.length→(Q.set a (Q.getD a []++ [v])).flatten.length=Q.flatten.length+1:=by
   intro Q
   induction Q with
   |nil=>intro a h;simp at h
   |cons r rs ih=>
    intro a h
    cases a with
    |zero=>simp;omega
    |succ a=>
     have:=ih a (by simpa using h)
     simp only[List.set_cons_succ,List.getD_cons_succ,List.flatten_cons,List.length_append,this]
     omega
  exact this Q a (by omega)
theorem Fw{Q P:List (List Int)}{a k:Nat}(hp:bR (([],Q):Tab)=true)(hs:iw (([],Q):Tab)=true)(hk:Q.flatten.length=k)(h9:k+1≤9)(hP:SSR P)(ha:a≤Q.length)(hPl:P.length=if a=Q.length then Q.length+1 else Q.length)
  (hl: ∀i,(P.getD i []).length=if i=a then(Q.getD i []).length+1 else(Q.getD i []).length):
  bR (([],j2 Q a ((k+1:Nat):Int)):Tab)=true∧iw (([],j2 Q a ((k+1:Nat):Int)):Tab)=true∧(j2 Q a ((k+1:Nat):Int)).flatten.length=k+1∧dY P (j2 Q a ((k+1:Nat):Int))∧
   rowOf ([],j2 Q a ((k+1:Nat):Int)) ((k+1:Nat):Int)=a∧ ∀v,1≤v→v≤(k:Int)→rowOf ([],j2 Q a ((k+1:Nat):Int)) v=rowOf ([],Q) v:=by
 have hget:=xq ((k+1:Nat):Int) ha
 have hlen:= @oH Q a ((k+1:Nat):Int)
 have hfl:=AT ((k+1:Nat):Int) ha
 generalize hN:j2 Q a ((k+1:Nat):Int)=N at*
 have hNl: ∀i,(N.getD i []).length=if i=a then(Q.getD i []).length+1 else(Q.getD i []).length:=fun i=>by
  rw[hget]
  split
  ·next e=>rw[e,List.length_append,List.length_singleton]
  ·rfl
 have hsame:dY P N:=⟨by rw[hPl,hlen],fun i=>by rw[hl,hNl]⟩
 have hcel: ∀r x,cel N r x=if r=a∧x=(Q.getD a []).length then((k+1:Nat):Int)else cel Q r x:=fun r x=>by
  unfold cel
  rw[hget]
  by_cases e:r=a
  ·subst e
   rw[if_pos rfl,dM]
   by_cases e2:x=(Q.getD r []).length
   ·rw[if_pos e2,if_pos ⟨rfl,e2⟩]
   ·rw[if_neg e2,if_neg (fun h=>e2 h.2)]
  ·rw[if_neg e,if_neg (fun h=>e h.1)]
 have hb:=(mU hp hs).2
 simp only at hb
 rw[hk]at hb
 have hQ: ∀{r x:Nat},x<(Q.getD r []).length→1≤cel Q r x∧cel Q r x≤(k:Int):=fun{r x} hx=>by
  have hr:r<Q.length:=Nat.lt_of_not_le fun hle=>by rw[aZ hle]at hx;simp at hx
  exact hb _ (lB hr hx)
 obtain⟨q1,q2⟩:=ot hp
 have q3:=qd hp
 simp only at q2 q3
 have pc:=yq hP
 have pr:=fun r hr=>yk hP r hr
 have hqlen: ∀i,(Q.getD (i+1) []).length≤(Q.getD i []).length:=fun i=>by
  by_cases h:i+1<Q.length
  ·exact(q3 i h).1
  ·rw[aZ (by omega)];exact Nat.zero_le _
 have hssr:SSR N:=by
  refine wF (fun r hr=>⟨?_,fun x hx=> ?_⟩) (fun i hi=> ?_)
  ·rw[←hsame.2];exact(pr r (by rw[hsame.1];exact hr)).1
  ·have e1:=hcel r x
   have e2:=hcel r (x+1)
   unfold cel at e1 e2
   rw[e1,e2]
   rw[hNl]at hx
   have hxQ:x<(Q.getD r []).length:=by
    split at hx<;>omega
   rw[if_neg (fun h=>by rw[h.1]at hxQ;omega)]
   have hv:=hQ hxQ
   unfold cel at hv
   by_cases e:r=a∧x+1=(Q.getD a []).length
   ·rw[if_pos e];omega
   ·rw[if_neg e]
    have hx1:x+1<(Q.getD r []).length:=by
     split at hx
     ·next e3=>
      have: ¬x+1=(Q.getD a []).length:=fun h=>e ⟨e3,h⟩
      rw[←e3]at this
      omega
     ·exact hx
    have hr:r<Q.length:=Nat.lt_of_not_le fun hle=>by rw[aZ hle]at hx1;simp at hx1
    exact q2 r x hr hx1
  ·obtain⟨c1,c2⟩:=pc i (by rw[hsame.1];exact hi)
   rw[hsame.2,hsame.2]at c1
   refine⟨c1,fun x hx=> ?_⟩
   have e1:=hcel i x
   have e2:=hcel (i+1) x
   unfold cel at e1 e2
   rw[e1,e2]
   rw[hNl]at hx
   have hxi:x<(N.getD i []).length:=by
    have:=hNl (i+1)
    omega
   rw[hNl]at hxi
   by_cases e:i+1=a∧x=(Q.getD a []).length
   ·rw[if_pos e,if_neg (fun h=>by omega)]
    have hxQ:x<(Q.getD i []).length:=by rw[if_neg (by omega)]at hxi;exact hxi
    have hv:=hQ hxQ
    unfold cel at hv
    omega
   ·rw[if_neg e]
    have hx1:x<(Q.getD (i+1) []).length:=by
     split at hx
     ·next e3=>
      have: ¬x=(Q.getD a []).length:=fun h=>e ⟨e3,h⟩
      rw[←e3]at this
      omega
     ·exact hx
    have hxQ:x<(Q.getD i []).length:=Nat.lt_of_lt_of_le hx1 (hqlen i)
    rw[if_neg (fun h=>by rw[h.1]at hxQ;omega)]
    have hr:i+1<Q.length:=Nat.lt_of_not_le fun hle=>by rw[aZ hle]at hx1;simp at hx1
    exact(q3 i hr).2 x hx1
 have hflk:N.flatten.length=k+1:=by omega
 have hmem: ∀z∈N.flatten,1≤z∧z≤9:=fun z hz=>by
  obtain⟨r,x,hr,hx,e⟩:=qD hz
  rw[←e,hcel]
  split
  ·omega
  ·next hc=>
   rw[hNl]at hx
   have hxQ:x<(Q.getD r []).length:=by
    split at hx
    ·next e3=>
     have: ¬x=(Q.getD a []).length:=fun h=>hc ⟨e3,h⟩
     rw[←e3]at this
     omega
    ·exact hx
   have:=hQ hxQ
   omega
 have hpl:=xY hssr hmem (by omega)
 have haN:a<N.length:=by
  rw[hlen]
  split<;>omega
 have hxN:(Q.getD a []).length<(N.getD a []).length:=by rw[hNl,if_pos rfl];omega
 have hnew:cel N a (Q.getD a []).length=((k+1:Nat):Int):=by rw[hcel,if_pos ⟨rfl,rfl⟩]
 have hold: ∀{r x:Nat},x<(Q.getD r []).length→r<N.length∧x<(N.getD r []).length∧cel N r x=cel Q r x:=fun{r x} hx=>by
  have hx':x<(N.getD r []).length:=by
   rw[hNl]
   split<;>omega
  refine⟨Nat.lt_of_not_le fun hle=>by rw[aZ hle]at hx';simp at hx',hx',?_⟩
  rw[hcel,if_neg (fun h=>by rw[h.1]at hx;omega)]
 have ho:lz Q.flatten=true:=by
  have:=hs
  simp only[iw,Bool.and_eq_true]at this
  exact this.2
 have hst:iw (([],N):Tab)=true:=by
  have hp':=hpl
  simp only[bR,Bool.and_eq_true]at hp'
  simp only[iw,Bool.and_eq_true]
  refine⟨hp'.1,kO.2 fun v hv=> ?_⟩
  rw[hflk,iu]at hv
  by_cases e:v=((k+1:Nat):Int)
  ·rw[e,←hnew];exact lB haN hxN
  ·obtain⟨r,x,hr,hx,e2⟩:=qD (kO.1 ho v (iu.2 (by omega)))
   obtain⟨d1,d2,d3⟩:=hold hx
   rw[←e2,←d3]
   exact lB d1 d2
 refine⟨hpl,hst,hflk,hsame,jO hpl hst haN hxN hnew,fun v v1 v2=> ?_⟩
 obtain⟨r,x,hr,hx,e2⟩:=qD (kO.1 ho v (iu.2 (by omega)))
 obtain⟨d1,d2,d3⟩:=hold hx
 rw[jO hpl hst d1 d2 (by rw[d3];exact e2),jO hp hs hr hx e2]
def pU:List Int→List (List Int)→List (List Int)→Nat→List (List Int)
 | [],_,Q,_=>Q
 |x::w,P,Q,k=>pU w (bG P x).1 (j2 Q (bG P x).2 ((k+1:Nat):Int)) (k+1)
def B4:List Int→List (List Int)→List Nat
 | [],_=> []
 |x::w,P=>(bG P x).2::B4 w (bG P x).1
structure Ins (P Q : List (List Int)) (k : Nat) : Prop where
  ssr : SSR P
  num : ∀ x ∈ P.flatten, 1 ≤ x ∧ x ≤ 9
  fl : P.flatten.length = k
  pl : bR (([], Q) : Tab) = true
  st : iw (([], Q) : Tab) = true
  qf : Q.flatten.length = k
  same : dY P Q
theorem Ins.step{P Q:List (List Int)}{k:Nat}{x:Int}(h:Ins P Q k)(hx:1≤x∧x≤9)(h9:k+1≤9):
  Ins (bG P x).1 (j2 Q (bG P x).2 ((k+1:Nat):Int)) (k+1)∧rowOf ([],j2 Q (bG P x).2 ((k+1:Nat):Int)) ((k+1:Nat):Int)=((bG P x).2:Nat)∧ ∀v,1≤v→v≤(k:Int)→rowOf ([],j2 Q (bG P x).2 ((k+1:Nat):Int)) v=rowOf ([],Q) v:=by
 obtain⟨a,b,c⟩:=Cn P x
 have hs:=Cs P x h.ssr
 obtain⟨d1,d2,d3,d4,d5,d6⟩:=Fw (a:=(bG P x).2) h.pl h.st h.qf h9 hs (by rw[←h.same.1];exact a) (by rw[←h.same.1];exact b) (fun i=>by rw[←h.same.2];exact c i)
 refine⟨⟨hs,fun z hz=> ?_,by rw[zM,h.fl],d1,d2,d3,d4⟩,d5,d6⟩
 rcases BM P x z hz with e|e
 ·rw[e];exact hx
 ·exact h.num z e
theorem Ins.nil:Ins [] [] 0:=⟨trivial,fun x hx=>by simp at hx,rfl,rfl,rfl,rfl,⟨rfl,fun _=>rfl⟩⟩
theorem Ins.word: ∀(w:List Int) {P Q:List (List Int)} {k:Nat},Ins P Q k→(∀x∈w,1≤x∧x≤9)→k+w.length≤9→
  Ins (mc w P) (pU w P Q k) (k+w.length)∧(∀v,1≤v→v≤(k:Int)→rowOf ([],pU w P Q k) v=rowOf ([],Q) v)∧ ∀i,i<w.length→rowOf ([],pU w P Q k) ((k+i+1:Nat):Int)=((B4 w P).getD i 0:Nat)
 | [],P,Q,k,h,_,_=>⟨h,fun _ _ _=>rfl,fun i hi=>by simp at hi⟩
 |x::w,P,Q,k,h,hx,hl=>by
  simp only[List.length_cons]at hl
  obtain⟨a,b,c⟩:=h.step (hx x (List.mem_cons_self ..)) (by omega)
  obtain⟨d,e,f⟩:=Ins.word w a (fun z hz=>hx z (List.mem_cons_of_mem _ hz)) (by omega)
  refine⟨by rw[List.length_cons,show k+(w.length+1)=k+1+w.length by omega];exact d,fun v v1 v2=> ?_,fun i hi=> ?_⟩
  ·show rowOf ([],pU w _ _ (k+1)) v=_
   rw[e v v1 (by omega)]
   exact c v v1 v2
  ·show rowOf ([],pU w _ _ (k+1)) _=_
   cases i with
   |zero=>
    have:=e ((k+1:Nat):Int) (by omega) (Int.le_refl _)
    rw[Nat.add_zero,this,b]
    rfl
   |succ i=>
    have:=f i (by simpa using hi)
    rw[show k+1+i+1=k+(i+1)+1 by omega]at this
    exact this
end Go.Am.Pu
end
section
/- Words, and what inserting makes of them. Plain words. -/
namespace Go.Am.Pu
def isWord(w:List Int):Bool:=decide (w.length≤9)&&w.all fun n=>within n 1 9
theorem zP{w:List Int}(h:isWord w=true):w.length≤9∧ ∀x∈w,1≤x∧x≤9:=by
 simp only[isWord,Bool.and_eq_true,decide_eq_true_eq,List.all_eq_true,within]at h
 exact⟨h.1,fun x hx=>h.2 x hx⟩
def lf(w:List Int):Tab×Bool:=if isWord w=true then(([],pU w [] [] 0),true)else(([],[]),false)
theorem Ai{w:List Int}(h:isWord w=true):Ins (mc w []) (pU w [] [] 0) w.length∧ ∀i,i<w.length→rowOf ([],pU w [] [] 0) ((i+1:Nat):Int)=((B4 w []).getD i 0:Nat):=by
 obtain⟨h1,h2⟩:=zP h
 obtain⟨a,_,c⟩:=Ins.word w Ins.nil h2 (by omega)
 rw[Nat.zero_add]at a
 refine⟨a,fun i hi=> ?_⟩
 have:=c i hi
 rw[Nat.zero_add]at this
 exact this
theorem u3{w:List Int}(h:isWord w=true):bR (lf w).1=true∧iw (lf w).1=true∧(lf w).1.2.flatten.length=w.length:=by
 unfold lf
 rw[if_pos h]
 have a:=(Ai h).1
 exact⟨a.pl,a.st,a.qf⟩
end Go.Am.Pu
end
section
/- Standardizing a tableau: the cells numbered by number and column. Plain words. -/
namespace Go.Am.Pu
def ik(Q:List (List Int))(v:Int)(c r:Nat)(s:Nat×List (List Int)):Nat×List (List Int):=
 if c<(Q.getD r []).length∧cel Q r c=v then(s.1+1,ku s.2 r c ((s.1+1:Nat):Int))else s
structure Num (Q : List (List Int)) (D : Nat → Nat → Prop) (s : Nat × List (List Int)) (F : List Int) : Prop where
  same : dY s.2 Q
  len : F.length = s.1
  val : ∀ r x, r < Q.length → x < (Q.getD r []).length → D r x → ∃ k, k < s.1 ∧ cel s.2 r x = ((k + 1 : Nat) : Int) ∧ F.getD k 0 = cel Q r x
  inj : ∀ r x r' x', r < Q.length → x < (Q.getD r []).length → D r x → r' < Q.length → x' < (Q.getD r' []).length → D r' x' → cel s.2 r x = cel s.2 r' x' → r = r' ∧ x = x'
  all : ∀ k, k < s.1 → ∃ r x, r < Q.length ∧ x < (Q.getD r []).length ∧ D r x ∧ cel s.2 r x = ((k + 1 : Nat) : Int)
  lex : ∀ r x r' x', r < Q.length → x < (Q.getD r []).length → D r x → r' < Q.length → x' < (Q.getD r' []).length → D r' x' → cel s.2 r x < cel s.2 r' x' → cel Q r x < cel Q r' x' ∨ (cel Q r x = cel Q r' x' ∧ x ≤ x')
theorem Num.congr{Q:List (List Int)}{D D':Nat→Nat→Prop}{s:Nat×List (List Int)}{F:List Int}(h:Num Q D s F)(e: ∀r x,r<Q.length→x<(Q.getD r []).length→(D r x↔D' r x)):Num Q D' s F:=
 ⟨h.same,h.len,fun r x a b d=>h.val r x a b ((e r x a b).2 d),fun r x r' x' a b d a' b' d'=>h.inj r x r' x' a b ((e r x a b).2 d) a' b' ((e r' x' a' b').2 d'),
  fun k hk=>by obtain⟨r,x,a,b,d,q⟩:=h.all k hk;exact⟨r,x,a,b,(e r x a b).1 d,q⟩,fun r x r' x' a b d a' b' d'=>h.lex r x r' x' a b ((e r x a b).2 d) a' b' ((e r' x' a' b').2 d')⟩
def Dn(Q:List (List Int))(v:Int)(c r:Nat)(a i:Nat):Prop:=cel Q a i<v∨(cel Q a i=v∧(i<c∨(i=c∧a<r)))
theorem Num.step{Q:List (List Int)}{v:Int}{c r:Nat}{s:Nat×List (List Int)}{F:List Int}(h:Num Q (Dn Q v c r) s F)(hr:r<Q.length): ∃F',Num Q (Dn Q v c (r+1)) (ik Q v c r s) F':=by
 unfold ik
 split
 ·next hc=>
  obtain⟨hc,hv⟩:=hc
  have hnd: ¬Dn Q v c r r c:=by unfold Dn;omega
  have hsr:r<s.2.length:=by rw[h.same.1];exact hr
  have hsc:c<(s.2.getD r []).length:=by rw[h.same.2];exact hc
  have new: ∀a i,Dn Q v c (r+1) a i→(a=r∧i=c)∨(¬(a=r∧i=c)∧Dn Q v c r a i):=fun a i d=>by
   by_cases e:a=r∧i=c
   ·exact .inl e
   ·refine .inr ⟨e,?_⟩
    unfold Dn at d⊢
    omega
  have at1:=jQ (g:=s.2) (r:=r) (c:=c) ((s.1+1:Nat):Int) hsr hsc
  have ne1: ∀a i,¬(a=r∧i=c)→cel (ku s.2 r c ((s.1+1:Nat):Int)) a i=cel s.2 a i:=fun a i e=>iz _ e
  refine⟨F++ [v],⟨⟨by rw[il];exact h.same.1,fun i=>by rw[bw];exact h.same.2 i⟩,by rw[List.length_append,List.length_singleton,h.len],?_,?_,?_,?_⟩⟩
  ·intro a i ha hi d
   rcases new a i d with⟨rfl,rfl⟩|⟨e,d'⟩
   ·refine⟨s.1,by simp only;omega,at1,?_⟩
    rw[hv,←h.len,List.getD_eq_getElem?_getD]
    simp
   ·obtain⟨k,k1,k2,k3⟩:=h.val a i ha hi d'
    refine⟨k,by simp only;omega,by rw[ne1 a i e];exact k2,?_⟩
    rw[←k3,List.getD_eq_getElem?_getD,List.getD_eq_getElem?_getD,List.getElem?_append_left (by rw[h.len];exact k1)]
  ·intro a i b j ha hi d hb hj d' e
   rcases new a i d with⟨rfl,rfl⟩|⟨ea,da⟩
   ·rcases new b j d' with⟨rfl,rfl⟩|⟨eb,db⟩
    ·exact⟨rfl,rfl⟩
    ·obtain⟨k,k1,k2,_⟩:=h.val b j hb hj db
     simp only at e
     rw[at1,ne1 b j eb,k2]at e
     omega
   ·rcases new b j d' with⟨rfl,rfl⟩|⟨eb,db⟩
    ·obtain⟨k,k1,k2,_⟩:=h.val a i ha hi da
     simp only at e
     rw[at1,ne1 a i ea,k2]at e
     omega
    ·simp only at e
     rw[ne1 a i ea,ne1 b j eb]at e
     exact h.inj a i b j ha hi da hb hj db e
  ·intro k hk
   simp only at hk
   by_cases ek:k=s.1
   ·subst ek
    exact⟨r,c,hr,hc,by unfold Dn;omega,at1⟩
   ·obtain⟨a,i,ha,hi,d,e⟩:=h.all k (by omega)
    have hne: ¬(a=r∧i=c):=fun q=>by rw[q.1,q.2]at d;exact hnd d
    exact⟨a,i,ha,hi,by unfold Dn at d⊢;omega,by simp only;rw[ne1 a i hne];exact e⟩
  ·intro a i b j ha hi d hb hj d' e
   simp only at e
   rcases new a i d with⟨rfl,rfl⟩|⟨ea,da⟩
   ·rcases new b j d' with⟨rfl,rfl⟩|⟨eb,db⟩
    ·omega
    ·obtain⟨k,k1,k2,_⟩:=h.val b j hb hj db
     rw[at1,ne1 b j eb,k2]at e
     omega
   ·rcases new b j d' with⟨rfl,rfl⟩|⟨eb,db⟩
    ·unfold Dn at da
     omega
    ·rw[ne1 a i ea,ne1 b j eb]at e
     exact h.lex a i b j ha hi da hb hj db e
 ·next hc=>
  refine⟨F,h.congr fun a i ha hi=> ?_⟩
  unfold Dn
  constructor
  ·intro d;omega
  ·intro d
   by_cases e:a=r∧i=c
   ·obtain⟨rfl,rfl⟩:=e
    have:cel Q a i≠v:=fun q=>hc ⟨hi,q⟩
    omega
   ·omega
structure w5 (Q X : List (List Int)) (f : Int → Int) : Prop where
  same : dY X Q
  val : ∀ r x, r < X.length → x < (X.getD r []).length → cel Q r x = f (cel X r x)
  lex : ∀ r x r' x', r < X.length → x < (X.getD r []).length → r' < X.length → x' < (X.getD r' []).length → cel X r x < cel X r' x' → cel Q r x < cel Q r' x' ∨ (cel Q r x = cel Q r' x' ∧ x < x')
end Go.Am.Pu
end
section
/- A pair of tableaux unrolled, the second one semistandard; sorting; the matrix of a pair. Plain words. -/
namespace Go.Am.Pu
def Aw(R:Int→Prop)(rs:List (List Int)):Prop:= ∀r∈rs,∀v∈r,R v
theorem Aw.at{R:Int→Prop}{rs:List (List Int)}(h:Aw R rs){r x:Nat}(hr:r<rs.length)(hx:x<(rs.getD r []).length):R ((rs.getD r []).getD x 0):=by
 rw[an hx]
 exact h (rs.getD r []) (by rw[an hr];exact List.getElem_mem hr) _ (List.getElem_mem hx)
theorem Aw.set{R:Int→Prop}{rs:List (List Int)}(h:Aw R rs)(i:Nat){r:List Int}(hr: ∀v∈r,R v):Aw R (rs.set i r):=fun y hy=>by
 rcases List.mem_or_eq_of_mem_set hy with h'|rfl
 ·exact h y h'
 ·exact hr
theorem Aw.row{R:Int→Prop}{rs:List (List Int)}(h:Aw R rs)(i:Nat): ∀v∈rs.getD i [],R v:=by
 by_cases hi:i<rs.length
 ·exact h _ (by rw[an hi];exact List.getElem_mem hi)
 ·rw[aZ (by omega)];simp
theorem Unr.top{q:Tab}{m:Nat}{P X:List (List Int)}(h:Unr q (m+1) P X){a:Nat}(ha:a<X.length)(htop:cel X a ((X.getD a []).length-1)=((m+1:Nat):Int)):
  (∀r,r<X.length→1≤(X.getD r []).length)∧(∀r,r<X.length→r≠a→cel X r ((X.getD r []).length-1)<((m+1:Nat):Int)):=by
 have hp:=fun r hr=>Ci h.pl (r:=r) hr
 refine⟨hp,fun r hr hne=> ?_⟩
 have h1:=hp r hr
 have h2:=hp a ha
 simp only at h1 h2
 have hb:=((mU h.pl h.st).2 _ (lB (rs:=X) hr (show(X.getD r []).length-1<(X.getD r []).length by omega))).2
 have hf:=h.fl
 simp only at hb
 rw[hf]at hb
 have hx:cel X r ((X.getD r []).length-1)≠((m+1:Nat):Int):=fun e=>hne (u9 h.pl h.st (a:=r) (b:=a) (x:=(X.getD r []).length-1) (y:=(X.getD a []).length-1) hr (show _<(X.getD r []).length by omega) ha (show _<(X.getD a []).length by omega) (by rw[htop];exact e)).1
 omega
theorem DO{n m:Nat}{A B:List (List Int)}(h:dX n m A)(s:dY A B):dX n m B:=by
 refine⟨by rw[←s.1];exact h.1,fun x hx=> ?_⟩
 obtain⟨i,hi,rfl⟩:=List.getElem_of_mem hx
 have:=h.at i
 rw[s.2 i,an hi]at this
 exact this
theorem w5.cut{Q X:List (List Int)}{f:Int→Int}(s:w5 Q X f){a:Nat}(ha:a<X.length)(hc:(X.getD (a+1) []).length<(X.getD a []).length)(hp: ∀r,r<X.length→1≤(X.getD r []).length):w5 (bT Q a) (bT X a) f:=by
 have hq: ∀r,r<Q.length→1≤(Q.getD r []).length:=fun r hr=>by rw[←s.same.2];exact hp r (by rw[s.same.1];exact hr)
 have rX:=pV ha hc hp
 have rQ:=pV (rs:=Q) (a:=a) (by rw[←s.same.1];exact ha) (by rw[←s.same.2,←s.same.2];exact hc) hq
 have old: ∀{r x},r<(bT X a).length→x<((bT X a).getD r []).length→r<X.length∧x<(X.getD r []).length∧cel (bT X a) r x=cel X r x∧cel (bT Q a) r x=cel Q r x:=fun{r x} hr hx=>by
  have hl:=uh (rs:=X) ha
  have hr':r<X.length:=by rw[hl]at hr;split at hr<;>omega
  have e1:=rX r
  have e2:=rQ r
  unfold cel
  by_cases e:r=a
  ·rw[if_pos e]at e1 e2
   rw[e1]at hx
   rw[List.length_take]at hx
   subst e
   refine⟨hr',by omega,by rw[e1,getD_take (by omega)],?_⟩
   rw[e2,getD_take (by have:=s.same.2 r;omega)]
  ·rw[if_neg e]at e1 e2
   rw[e1]at hx
   exact⟨hr',hx,by rw[e1],by rw[e2]⟩
 refine⟨yS s.same a,fun r x hr hx=> ?_,fun r x r' x' hr hx hr' hx' hlt=> ?_⟩
 ·obtain⟨o1,o2,o3,o4⟩:=old hr hx
  rw[o3,o4]
  exact s.val r x o1 o2
 ·obtain⟨o1,o2,o3,o4⟩:=old hr hx
  obtain⟨p1,p2,p3,p4⟩:=old hr' hx'
  rw[o3,p3]at hlt
  rw[o4,p4]
  exact s.lex r x r' x' o1 o2 p1 p2 hlt
theorem w5.step{q:Tab}{m:Nat}{P X Q:List (List Int)}{f:Int→Int}(s:w5 Q X f)(h:Unr q (m+1) P X):
  ∃a:Nat,rowOf q ((m+1:Nat):Int)=a∧a<Q.length∧1≤(Q.getD a []).length∧(Q.getD a []).getD ((Q.getD a []).length-1) 0=f ((m+1:Nat):Int)∧(∀r,r<Q.length→1≤(Q.getD r []).length)∧
   (∀r,r<Q.length→r≠a→(Q.getD r []).getD ((Q.getD r []).length-1) 0<f ((m+1:Nat):Int)∨((Q.getD r []).getD ((Q.getD r []).length-1) 0=f ((m+1:Nat):Int)∧(Q.getD r []).length<(Q.getD a []).length))∧
   dX 9 9 Q∧a<P.length∧1≤(P.getD a []).length∧Unr q m (lE P a).1 (bT X a)∧w5 (bT Q a) (bT X a) f:=by
 obtain⟨a,a1,a2,a3,a4,a5,a6⟩:=h.step
 obtain⟨t1,t2⟩:=h.top a2 a4
 have v0:=s.val a ((X.getD a []).length-1) a2 (by omega)
 rw[a4]at v0
 unfold cel at v0
 rw[s.same.2]at v0
 refine⟨a,a1,by rw[←s.same.1];exact a2,by rw[←s.same.2];exact a3,v0,fun r hr=>by rw[←s.same.2];exact t1 r (by rw[s.same.1];exact hr),fun r hr hne=> ?_,DO (AN h.pl) s.same,
  by rw[h.same.1];exact a2,by rw[h.same.2];exact a3,a6,s.cut a2 a5 t1⟩
 have hr':r<X.length:=by rw[s.same.1];exact hr
 have u1:=t1 r hr'
 have hl:=s.lex r ((X.getD r []).length-1) a ((X.getD a []).length-1) hr' (by omega) a2 (by omega) (by rw[a4];exact t2 r hr' hne)
 have v:=s.val a ((X.getD a []).length-1) a2 (by omega)
 rw[v,a4]at hl
 unfold cel at hl
 rw[s.same.2 r,s.same.2 a]at hl
 have e1:=s.same.2 r
 rcases hl with hl|hl
 ·exact .inl hl
 ·exact .inr ⟨hl.1,by omega⟩
structure HA (r c : Nat) (b : Int) (M : List (List Int)) : Prop where
  len : M.length = r
  row : ∀ i, i < r → (M.getD i []).length = c
  sm : ∀ x ∈ M, ∀ v ∈ x, 0 ≤ v ∧ v ≤ b
end Go.Am.Pu
end
section
/- Standardizing any tableau: its cells in the order of number and column. Plain words. -/
namespace Go.Am.Pu
def D6(t:Tab)(r:Nat):List (Int×Int×Int):=(List.range (t.2.getD r []).length).map fun x=>(cel t.2 r x,t.1.getD r 0+x,(r:Int))
def cellsOf(t:Tab):List (Int×Int×Int):=((List.range t.2.length).map (D6 t)).flatten
def KLt(a b:Int×Int×Int):Prop:=a.1<b.1∨(a.1=b.1∧a.2.1<b.2.1)
end Go.Am.Pu
end
section
/- Sorting cells by insertion, as the library does. Plain words. -/
namespace Go.Am.Pu
instance(a b:Int×Int×Int):Decidable (KLt a b):=by unfold KLt;infer_instance
end Go.Am.Pu
end
section
/- All standard tableaux of given rows, found by taking out the greatest number. Plain words. -/
namespace Go.Am.Pu
def gk(ls:List Nat)(a:Nat):List Nat:=if ls.getD a 0=1 then ls.take a else ls.set a (ls.getD a 0-1)
theorem DW{α:Type}{d:α}{A B:List α}(hl:A.length=B.length)(h: ∀i,i<A.length→A.getD i d=B.getD i d):A=B:=by
 refine List.ext_getElem hl fun i h1 h2=> ?_
 have:=h i h1
 rw[an h1,an h2]at this
 exact this
end Go.Am.Pu
end
section
/- Promotion of a rectangle comes back after as many steps as there are cells (reckoned over all of them). Plain words. -/
namespace Go.Am.Pu
end Go.Am.Pu
end
section
/- The length of an orbit divides every number of steps that come back. Plain words. -/
namespace Go.Am.Pu
end Go.Am.Pu
end
section
/- Knuth's relations: insertion does not tell related words apart, and a row and a number are related to what an insertion makes of them. Plain words. -/
namespace Go.Am.Pu
abbrev Up(r:List Int):Prop:=r.Pairwise (· ≤ ·)
def dA:List Int→Int→List Int×List Int
 | [],x=>([x],[])
 |a::r,x=>if x<a then(x::r,[a])else(a::(dA r x).1,(dA r x).2)
theorem dR{a x:Int}{r:List Int}(h:x<a):dA (a::r) x=(x::r,[a]):=by unfold dA;rw[if_pos h]
theorem dj{a x:Int}{r:List Int}(h:a≤x):dA (a::r) x=(a::(dA r x).1,(dA r x).2):=by
 conv=>lhs;unfold dA
 rw[if_neg (by omega)]
theorem uv: ∀(r:List Int) (x z:Int),z∈(dA r x).1→z=x∨z∈r
 | [],x,z,h=>by simp only[dA,List.mem_singleton]at h;exact .inl h
 |a::r,x,z,h=>by
  by_cases c:x<a
  ·rw[dR c]at h
   rcases List.mem_cons.1 h with h|h
   ·exact .inl h
   ·exact .inr (List.mem_cons_of_mem _ h)
  ·rw[dj (by omega)]at h
   rcases List.mem_cons.1 h with h|h
   ·exact .inr (by rw[h];exact List.mem_cons_self ..)
   ·rcases uv r x z h with h|h
    ·exact .inl h
    ·exact .inr (List.mem_cons_of_mem _ h)
theorem yy: ∀{r:List Int} (x:Int),Up r→Up (dA r x).1
 | [],x,_=>List.pairwise_singleton ..
 |a::r,x,h=>by
  have h':=List.pairwise_cons.1 h
  by_cases c:x<a
  ·rw[dR c]
   exact List.pairwise_cons.2 ⟨fun z hz=>by have:=h'.1 z hz;omega,h'.2⟩
  ·rw[dj (by omega)]
   refine List.pairwise_cons.2 ⟨fun z hz=> ?_,yy x h'.2⟩
   rcases uv r x z hz with e|e
   ·omega
   ·exact h'.1 z e
theorem kq: ∀(r:List Int) (x:Int),(dA r x).2= []∨ ∃b,(dA r x).2= [b]∧x<b∧b∈r
 | [],x=> .inl rfl
 |a::r,x=>by
  by_cases c:x<a
  ·rw[dR c];exact .inr ⟨a,rfl,c,List.mem_cons_self ..⟩
  ·rw[dj (by omega)]
   rcases kq r x with h|⟨b,h1,h2,h3⟩
   ·exact .inl h
   ·exact .inr ⟨b,h1,h2,List.mem_cons_of_mem _ h3⟩
theorem Ct: ∀{r:List Int} {y z:Int},Up r→y≤z→((dA r y).2= []→(dA (dA r y).1 z).2= [])∧ ∀p q,(dA r y).2= [p]→(dA (dA r y).1 z).2= [q]→p≤q
 | [],y,z,_,hz=>by
  refine⟨fun _=> ?_,fun p q h=>by simp[dA]at h⟩
  show(dA [y] z).2= []
  rw[dj hz];rfl
 |a::r,y,z,h,hz=>by
  have h':=List.pairwise_cons.1 h
  by_cases c:y<a
  ·rw[dR c]
   refine⟨fun e=>by simp at e,fun p q e1 e2=> ?_⟩
   rw[dj hz]at e2
   rcases kq r z with o|⟨b,o1,_,o3⟩
   ·simp only at e2;rw[o]at e2;simp at e2
   ·simp only at e2
    rw[o1]at e2
    simp only[List.cons.injEq,and_true]at e1 e2
    have:=h'.1 b o3
    omega
  ·rw[dj (show a≤y by omega)]
   show((dA r y).2= []→(dA (a::(dA r y).1) z).2= [])∧ ∀p q,(dA r y).2= [p]→(dA (a::(dA r y).1) z).2= [q]→p≤q
   rw[dj (show a≤z by omega)]
   exact Ct h'.2 hz
theorem BN: ∀{r:List Int} {y z:Int},Up r→y<z→z∈r→ ∃c,(dA r y).2= [c]∧y<c∧c≤z
 | [],_,_,_,_,hm=>by simp at hm
 |a::r,y,z,h,hz,hm=>by
  have h':=List.pairwise_cons.1 h
  by_cases c:y<a
  ·rw[dR c]
   refine⟨a,rfl,c,?_⟩
   rcases List.mem_cons.1 hm with e|e
   ·omega
   ·exact h'.1 z e
  ·rw[dj (by omega)]
   rcases List.mem_cons.1 hm with e|e
   ·omega
   ·exact BN h'.2 hz e
theorem xj: ∀(r:List Int) (x:Int),x∈(dA r x).1
 | [],x=>List.mem_singleton.2 rfl
 |a::r,x=>by
  by_cases c:x<a
  ·rw[dR c];exact List.mem_cons_self ..
  ·rw[dj (by omega)];exact List.mem_cons_of_mem _ (xj r x)
def Tri(u v:List Int):Prop:= ∃x y z:Int,(x<y∧y≤z∧u= [y,z,x]∧v= [y,x,z])∨(x≤y∧y<z∧u= [x,z,y]∧v= [z,x,y])
theorem Tri.a{x y z:Int}(h1:x<y)(h2:y≤z):Tri [y,z,x] [y,x,z]:=⟨x,y,z,.inl ⟨h1,h2,rfl,rfl⟩⟩
theorem Tri.b{x y z:Int}(h1:x≤y)(h2:y<z):Tri [x,z,y] [z,x,y]:=⟨x,y,z,.inr ⟨h1,h2,rfl,rfl⟩⟩
def ib:List Int→List Int→List Int×List Int
 |r,[]=>(r,[])
 |r,x::w=>((ib (dA r x).1 w).1,(dA r x).2++(ib (dA r x).1 w).2)
def Cv(p q:List Int×List Int):Prop:=p.1=q.1∧(p.2=q.2∨Tri p.2 q.2)
theorem nY{a:Int}: ∀{w r:List Int},(∀x∈w,a≤x)→ib (a::r) w=(a::(ib r w).1,(ib r w).2)
 | [],_,_=>rfl
 |x::w,r,h=>by
  show((ib (dA (a::r) x).1 w).1,(dA (a::r) x).2++(ib (dA (a::r) x).1 w).2)=_
  rw[dj (h x (List.mem_cons_self ..))]
  simp only
  rw[nY fun y hy=>h y (List.mem_cons_of_mem _ hy)]
  rfl
theorem lN(r:List Int)(x y z:Int):ib r [x,y,z]=((dA (dA (dA r x).1 y).1 z).1,(dA r x).2++((dA (dA r x).1 y).2++(dA (dA (dA r x).1 y).1 z).2)):=by
 simp[ib]
theorem Gz: ∀{r:List Int} {x y z:Int},Up r→x<y→y≤z→Cv (ib r [y,z,x]) (ib r [y,x,z])
 | [],x,y,z,_,h1,h2=>by
  refine⟨?_,.inl ?_⟩
  ·simp[ib,dA,h1,show¬z<y by omega,show¬z<x by omega]
  ·simp[ib,dA,h1,show¬z<y by omega,show¬z<x by omega]
 |a::r,x,y,z,h,h1,h2=>by
  have h':=List.pairwise_cons.1 h
  by_cases c:y<a
  ·rw[lN,lN,dR c]
   simp only
   rw[dj (r:=r) h2,dR (r:=r) h1]
   simp only
   rw[dR h1,dj (show x≤z by omega)]
   refine⟨rfl,?_⟩
   rcases kq r z with o|⟨b,o1,o2,o3⟩
   ·simp only;rw[o];exact .inl rfl
   ·simp only;rw[o1]
    exact .inr (Tri.a c (h'.1 b o3))
  ·by_cases c2:x<a
   ·rw[lN,lN,dj (show a≤y by omega)]
    simp only
    rw[dj (show a≤z by omega),dR c2]
    simp only
    rw[dR c2,dj (show x≤z by omega)]
    refine⟨rfl,?_⟩
    simp only
    obtain⟨e1,e2⟩:=Ct h'.2 h2
    rcases kq r y with o|⟨b,o1,o2,o3⟩
    ·rw[o,e1 o];exact .inl rfl
    ·rcases kq (dA r y).1 z with p|⟨d,p1,p2,p3⟩
     ·rw[p,o1];exact .inl rfl
     ·rw[o1,p1]
      exact .inr (Tri.a (by omega) (e2 _ _ o1 p1))
   ·have ih:=Gz h'.2 h1 h2
    rw[nY (by simp;omega),nY (by simp;omega)]
    exact⟨congrArg (a:: ·) ih.1,ih.2⟩
theorem GC: ∀{r:List Int} {x y z:Int},Up r→x≤y→y<z→Cv (ib r [x,z,y]) (ib r [z,x,y])
 | [],x,y,z,_,h1,h2=>by
  refine⟨?_,.inl ?_⟩
  ·simp[ib,dA,h2,show x<z by omega,show¬z<x by omega,show¬y<x by omega]
  ·simp[ib,dA,h2,show x<z by omega,show¬z<x by omega,show¬y<x by omega]
 |a::r,x,y,z,h,h1,h2=>by
  have h':=List.pairwise_cons.1 h
  by_cases c:z<a
  ·rw[lN,lN,dR (show x<a by omega),dR c]
   simp only
   rw[dj (r:=r) (show x≤z by omega),dR (r:=r) (show x<z by omega)]
   simp only
   rw[dj h1,dj h1]
   cases r with
   |nil=>simp[dA,h2,Cv]
   |cons b r=>
    have hb:=h'.1 b (List.mem_cons_self ..)
    rw[dR (show z<b by omega),dR (show y<b by omega)]
    simp only
    rw[dR h2]
    exact⟨rfl,.inr (Tri.a c hb)⟩
  ·by_cases c2:x<a
   ·rw[lN,lN,dR c2,dj (show a≤z by omega)]
    simp only
    rw[dR c2,dj (show x≤z by omega)]
    simp only
    rw[dj h1]
    refine⟨rfl,?_⟩
    simp only
    rcases kq r z with o|⟨b,o1,o2,o3⟩
    ·rw[o];exact .inl rfl
    ·rw[o1]
     obtain⟨d,d1,d2,d3⟩:=BN (yy z h'.2) h2 (xj r z)
     rw[d1]
     refine .inr (Tri.b ?_ (by omega))
     rcases kq (dA r z).1 y with p|⟨q,p1,p2,p3⟩
     ·rw[p]at d1;simp at d1
     ·rw[p1]at d1
      have:q=d:=by simpa using d1
      subst this
      rcases uv r z q p3 with e|e
      ·omega
      ·exact h'.1 q e
   ·have ih:=GC h'.2 h1 h2
    rw[nY (by simp;omega),nY (by simp;omega)]
    exact⟨congrArg (a:: ·) ih.1,ih.2⟩
theorem F0{r u v:List Int}(h:Up r)(t:Tri u v):Cv (ib r u) (ib r v):=by
 obtain⟨x,y,z,⟨h1,h2,rfl,rfl⟩|⟨h1,h2,rfl,rfl⟩⟩:=t
 ·exact Gz h h1 h2
 ·exact GC h h1 h2
theorem Fk(a x:Int)(r:List Int):fst (a::r) x=if x<a then 0 else fst r x+1:=by
 unfold fst
 rw[List.findIdx_cons]
 by_cases c:x<a
 ·rw[if_pos c,decide_eq_true c];rfl
 ·rw[if_neg c,decide_eq_false c];rfl
theorem zF: ∀(r:List Int) (x:Int),dA r x=if fst r x<r.length then(r.set (fst r x) x,[r.getD (fst r x) 0])else(r++ [x],[])
 | [],x=>rfl
 |a::r,x=>by
  rw[Fk]
  by_cases c:x<a
  ·rw[dR c,if_pos c,if_pos (by simp)];rfl
  ·rw[dj (by omega),if_neg c,zF r x]
   by_cases d:fst r x<r.length
   ·rw[if_pos d,if_pos (by simpa using d)];rfl
   ·rw[if_neg d,if_neg (by simpa using d)];rfl
theorem zY(r:List Int)(rs:List (List Int))(x:Int):(bG (r::rs) x).1=(dA r x).1::mc (dA r x).2 rs:=by
 rw[gU,zF]
 by_cases c:fst r x<r.length
 ·rw[if_pos c,if_pos c];rfl
 ·rw[if_neg c,if_neg c];rfl
theorem rY: ∀(w r:List Int) (rs:List (List Int)),mc w (r::rs)=(ib r w).1::mc (ib r w).2 rs
 | [],_,_=>rfl
 |x::w,r,rs=>by
  show mc w (bG (r::rs) x).1=_
  rw[zY,rY w]
  simp only[ib]
  rw[mI]
theorem Fv{u v:List Int}(t:Tri u v):mc u []=mc v []:=by
 obtain⟨x,y,z,⟨h1,h2,rfl,rfl⟩|⟨h1,h2,rfl,rfl⟩⟩:=t
 ·simp[mc,bG,List.findIdx_cons,h1,show¬z<y by omega,show¬z<x by omega]
 ·simp[mc,bG,List.findIdx_cons,h2,show x<z by omega,show¬z<x by omega,show¬y<x by omega]
theorem Cf: ∀{P:List (List Int)} {u v:List Int},(∀r∈P,Up r)→Tri u v→mc u P=mc v P
 | [],_,_,_,t=>Fv t
 |r::rs,u,v,h,t=>by
  rw[rY,rY]
  obtain⟨a,b|b⟩:=F0 (h r (List.mem_cons_self ..)) t
  ·rw[a,b]
  ·rw[a,Cf (fun q hq=>h q (List.mem_cons_of_mem _ hq)) b]
inductive Kn : List Int → List Int → Prop
  | refl (w) : Kn w w
  | symm {v w} : Kn v w → Kn w v
  | trans {u v w} : Kn u v → Kn v w → Kn u w
  | tri {u v} (a b) : Tri u v → Kn (a ++ u ++ b) (a ++ v ++ b)
theorem Kn.ctx{u v:List Int}(c d:List Int)(h:Kn u v):Kn (c++u++d) (c++v++d):=by
 induction h with
 |refl w=>exact .refl _
 |symm _ ih=>exact .symm ih
 |trans _ _ h1 h2=>exact .trans h1 h2
 |tri a b t=>
  have:=Kn.tri (c++a) (b++d) t
  simp only[List.append_assoc]at this⊢
  exact this
theorem Kn.left{u v:List Int}(c:List Int)(h:Kn u v):Kn (c++u) (c++v):=by
 have:=h.ctx c []
 simpa using this
theorem Kn.right{u v:List Int}(d:List Int)(h:Kn u v):Kn (u++d) (v++d):=by
 have:=h.ctx [] d
 simpa using this
theorem Kn.cons{u v:List Int}(c:Int)(h:Kn u v):Kn (c::u) (c::v):=h.left [c]
theorem Kn.of{u v:List Int}(t:Tri u v):Kn u v:=by
 have:=Kn.tri [] [] t
 simpa using this
theorem Kn.app{u v u' v':List Int}(h:Kn u u')(g:Kn v v'):Kn (u++v) (u'++v'):=(h.right v).trans (g.left u')
theorem Cd: ∀{P:List (List Int)} (x:Int),(∀r∈P,Up r)→ ∀r∈(bG P x).1,Up r
 | [],x,_=>fun r hr=>by
  have:r= [x]:=by simpa[bG]using hr
  rw[this];exact List.pairwise_singleton ..
 |q::P,x,h=>by
  rw[zY]
  intro r hr
  have hP: ∀r∈P,Up r:=fun r hr=>h r (List.mem_cons_of_mem _ hr)
  rcases List.mem_cons.1 hr with e|e
  ·rw[e];exact yy x (h q (List.mem_cons_self ..))
  ·rcases kq q x with o|⟨b,o,_,_⟩
   ·rw[o]at e;exact hP r e
   ·rw[o]at e;exact Cd b hP r e
theorem BW: ∀{w:List Int} {P:List (List Int)},(∀r∈P,Up r)→ ∀r∈mc w P,Up r
 | [],_,h=>h
 |x::w,P,h=>show∀r∈mc w (bG P x).1,Up r from BW (Cd x h)
theorem Kn.ins{u v:List Int}(h:Kn u v): ∀{P:List (List Int)},(∀r∈P,Up r)→mc u P=mc v P:=by
 induction h with
 |refl w=>intro P _;rfl
 |symm _ ih=>intro P hP;exact(ih hP).symm
 |trans _ _ h1 h2=>intro P hP;rw[h1 hP,h2 hP]
 |tri a b t=>
  intro P hP
  rw[mI,mI,mI,mI,Cf (BW hP) t]
end Go.Am.Pu
end
section
/- Rows and slides keep words related. Plain words. -/
namespace Go.Am.Pu
def GN(q:List Int)(g:List (List Int))(i c r:Nat):List Int:=
 if r=i then((g.getD r []).take c).drop (q.getD r 0).toNat++(g.getD r []).drop (c+1)else(g.getD r []).drop (q.getD r 0).toNat
end Go.Am.Pu
end
section
/- The rectification is the tableau of the word. Plain words. -/
namespace Go.Am.Pu
end Go.Am.Pu
end
section
/- Slides outwards: what holds on the way, what they leave; slides in and out undo each other. Plain words. -/
namespace Go.Am.Pu
theorem oK{p:List Int}(hp:aQ p=true)(r:Nat):0≤p.getD r 0∧p.getD r 0≤9:=by
 have:=dm hp r
 rwa [cU]at this
theorem qE{p:List Int}(hp:aQ p=true){r:Nat}(hr:r<p.length):1≤p.getD r 0:=by
 rw[an hr];exact((aK hp).1 _ (List.getElem_mem hr)).1
theorem Ed{p q:List Int}(hp:aQ p=true)(hq:aQ q=true)(h: ∀r,p.getD r 0=q.getD r 0):p=q:=by
 have hl:p.length=q.length:=by
  rcases Nat.lt_trichotomy p.length q.length with c|c|c
  ·have:=qE hq c
   rw[←h,aZ (Nat.le_refl _)]at this;omega
  ·exact c
  ·have:=qE hp c
   rw[h,aZ (Nat.le_refl _)]at this;omega
 exact Fh hl fun x _=>h x
theorem uO: ∀{a b:List Int},(∀i,a.getD i 0≤b.getD i 0)→aP a≤aP b∧ ∀j,a.getD j 0<b.getD j 0→aP a<aP b
 | [],[],_=>⟨Int.le_refl _,fun j h=>by simp at h⟩
 | [],y::b,h=>by
  have h0:=h 0
  obtain⟨i1,i2⟩:=uO (a:= []) (b:=b) fun i=>by have:=h (i+1);simpa using this
  simp only[List.getD_nil,List.getD_cons_zero]at h0
  simp only[aP]at*
  refine⟨by omega,fun j hj=> ?_⟩
  cases j with
  |zero=>simp at hj;omega
  |succ j=>have:=i2 j (by simpa using hj);omega
 |x::a,[],h=>by
  have h0:=h 0
  obtain⟨i1,i2⟩:=uO (a:=a) (b:= []) fun i=>by have:=h (i+1);simpa using this
  simp only[List.getD_nil,List.getD_cons_zero]at h0
  simp only[aP]at*
  refine⟨by omega,fun j hj=> ?_⟩
  cases j with
  |zero=>simp at hj;omega
  |succ j=>have:=i2 j (by simpa using hj);omega
 |x::a,y::b,h=>by
  have h0:=h 0
  obtain⟨i1,i2⟩:=uO (a:=a) (b:=b) fun i=>by have:=h (i+1);simpa using this
  simp only[List.getD_cons_zero]at h0
  simp only[aP]at*
  refine⟨by omega,fun j hj=> ?_⟩
  cases j with
  |zero=>simp at hj;omega
  |succ j=>have:=i2 j (by simpa using hj);omega
theorem E5{q:List Int}{i:Nat}: ∀r,(if(i:Int)=q.length then q++ [0]else q).getD r 0=q.getD r 0:=fun r=>by
 split
 ·by_cases hr:r<q.length
  ·rw[rF hr]
  ·rw[rI (by omega),aZ (xs:=q) (by omega)]
   cases r-q.length<;>rfl
 ·rfl
theorem C1{q:List Int}{i:Nat}(hq:aQ q=true)(hi:i≤q.length)(hm:i=0∨q.getD i 0+1≤q.getD (i-1) 0)(hs:aP q+1≤9): ∃o,b8 q i=(o,true):=by
 have hlen:i<(if(i:Int)=q.length then q++ [0]else q).length:=by
  split
  ·rw[List.length_append,List.length_singleton];omega
  ·omega
 have hsum:aP (if(i:Int)=q.length then q++ [0]else q)=aP q:=by
  split
  ·rw[En];simp[aP]
  ·rfl
 have hg:=E5 (q:=q) (i:=i)
 unfold b8
 rw[if_pos ⟨hq,by omega,by omega⟩]
 simp only[Int.toNat_natCast]
 generalize hw:(if(i:Int)=q.length then q++ [0]else q)=w at*
 have hset: ∀r,(w.set i (w.getD i 0+1)).getD r 0=if r=i then q.getD i 0+1 else q.getD r 0:=fun r=>by
  rw[fD _ hlen,hg]
  by_cases e:r=i
  ·rw[if_pos e,if_pos e]
  ·rw[if_neg e,if_neg e,hg]
 have hpart:aQ (w.set i (w.getD i 0+1))=true:=by
  have hle:aP q≤8:=by omega
  have h1: ∀r,q.getD r 0≤8:=fun r=>by
   have h0:=(oK hq r).1
   by_cases hr:r<q.length
   ·have:=uO (a:=List.replicate (r+1) 0|>.set r (q.getD r 0)) (b:=q) fun i=>by
     rw[fD _ (by simp)]
     by_cases e:i=r
     ·rw[if_pos e,e];exact Int.le_refl _
     ·rw[if_neg e]
      have:(List.replicate (r+1) (0:Int)).getD i 0=0:=by
       by_cases hi:i<r+1
       ·rw[an (by simpa using hi)];simp
       ·rw[aZ (by simp;omega)]
      rw[this];exact(oK hq i).1
    have h2:=this.1
    rw[nW _ _ _ (by simp)]at h2
    have h3: ∀n,aP (List.replicate n 0)=0:=fun n=>by
     induction n with
     |zero=>rfl
     |succ n ih=>rw[List.replicate_succ];simp[aP,ih]
    have h4:(List.replicate (r+1) (0:Int)).getD r 0=0:=by rw[an (by simp)];simp
    rw[h3,h4]at h2
    omega
   ·rw[aZ (by omega)];omega
  refine kF _ _ _ (fun x hx=> ?_) (fun _=> ?_) (fun r _=> ?_) ?_
  ·obtain⟨r,hr,rfl⟩:=List.getElem_of_mem hx
   rw[←an hr 0,hset]
   by_cases e:r=i
   ·rw[if_pos e]
    have:=(oK hq i).1
    omega
   ·rw[if_neg e]
    rw[List.length_set]at hr
    refine qE hq ?_
    rw[←hw]at hr
    split at hr
    ·rw[List.length_append,List.length_singleton]at hr;omega
    ·exact hr
  ·rw[hset]
   have:=h1 0
   have:=h1 i
   split<;>omega
  ·rw[hset,hset]
   have:=gd hq r
   by_cases e:r=i
   ·subst e
    rw[if_neg (by omega),if_pos rfl];omega
   ·rw[if_neg e]
    by_cases e2:r+1=i
    ·subst e2
     rw[if_pos rfl]
     rcases hm with hm|hm
     ·omega
     ·simpa using hm
    ·rw[if_neg e2];exact this
  ·rw[nW _ _ _ hlen,hg,hsum];omega
 rw[if_pos hpart]
 exact⟨_,rfl⟩
theorem Ea{p q:List Int}{n:Nat}(hp:aQ p=true)(h:b8 p n=(q,true)):aF q n=p∧q.getD (n+1) 0<q.getD n 0:=by
 obtain⟨b1,b2,b3,b4,b5⟩:=jP h
 have hc:q.getD (n+1) 0<q.getD n 0:=by
  rw[b4,b4,if_neg (by omega),if_pos rfl]
  have:=gd hp n
  omega
 refine⟨Ed (oC b5 b2 hc) hp fun r=> ?_,hc⟩
 rw[q8 b5 b2 hc,b4,b4,if_pos rfl]
 by_cases e:r=n
 ·rw[if_pos e,e];omega
 ·rw[if_neg e,if_neg e]
theorem Sl.up{q:List Int}{g:List (List Int)}{i c:Nat}(h:Sl q g (i+1) c)(hi:Inn q g)(hu:cel g i c≠0)(hl:leftOf g (i+1) c≤cel g i c):Sl q (ku g (i+1) c (cel g i c)) i c:=by
 obtain⟨b1,b2⟩:=xz hu
 have hq:q.getD i 0≤c:=Int.not_lt.1 fun hlt=>hu (hi i c hlt)
 have hqm:=h.qm i
 have hun:=h.num i c hq b2 (by omega)
 have e0:=jQ (cel g i c) h.hi h.hc
 have en: ∀r x,¬(r=i+1∧x=c)→cel (ku g (i+1) c (cel g i c)) r x=cel g r x:=fun r x hh=>iz _ hh
 have hll:=h.lm i
 refine⟨h.q0,h.qm,fun r=> ?_,?_,?_,hq,fun r x=> ?_,fun r x h1 h2 h3=> ?_,fun r x h1 h2 h3 h4=> ?_,fun r x h1 h2 h3 h4=> ?_,fun x h1 h2 h3=> ?_,fun r h1 h2 h3=> ?_⟩
 ·rw[bw,bw];exact h.lm r
 ·rw[il];exact b1
 ·rw[bw];exact b2
 ·by_cases e:r=i+1∧x=c
  ·rw[e.1,e.2,e0];exact h.pos _ _
  ·rw[en r x e];exact h.pos _ _
 ·rw[bw]at h2
  by_cases e:r=i+1∧x=c
  ·rw[e.1,e.2,e0];exact hun
  ·rw[en r x e];exact h.num r x h1 h2 e
 ·rw[bw]at h2
  by_cases e:r=i+1∧x=c
  ·obtain⟨rfl,rfl⟩:=e
   rw[e0,en _ _ (by omega)]
   have h5:=h.row i x hq (by omega) (by omega) (by omega)
   have h6:=h.col i (x+1) (by omega) h2 (by omega) (by omega)
   omega
  ·rw[en r x e]
   by_cases e':r=i+1∧x+1=c
   ·obtain⟨rfl,rfl⟩:=e'
    rw[e0]
    unfold leftOf at hl
    rw[if_neg (by omega),show x+1-1=x by omega]at hl
    exact hl
   ·rw[en r (x+1) e'];exact h.row r x h1 h2 e e'
 ·rw[bw]at h2
  by_cases e:r=i+1∧x=c
  ·obtain⟨rfl,rfl⟩:=e
   rw[e0,en _ _ (by omega)]
   exact h.colH i rfl hq h2
  ·rw[en r x e]
   by_cases e':r+1=i+1∧x=c
   ·exact(h3 ⟨by omega,e'.2⟩).elim
   ·rw[en (r+1) x e']
    exact h.col r x h1 h2 e e'
 ·rw[bw]at h3
  rw[en _ _ (by omega),en _ _ (by omega)]
  subst h1
  have h5:=h.row i x h2 (by omega) (by omega) (by omega)
  have h6:=h.row i (x+1) (by omega) h3 (by omega) (by omega)
  omega
 ·rw[bw]at h3
  subst h1
  rw[en _ _ (by omega),e0]
  exact h.col r c h2 b2 (by omega) (by omega)
theorem Sl.left{q:List Int}{g:List (List Int)}{i c:Nat}(h:Sl q g i (c+1))(hi:Inn q g)(hv:cel g i c≠0)(hu:zK g i (c+1)<cel g i c):Sl q (ku g i (c+1) (cel g i c)) i c:=by
 obtain⟨b1,b2⟩:=xz hv
 have hq:q.getD i 0≤c:=Int.not_lt.1 fun hlt=>hv (hi i c hlt)
 have hqm:=h.qm i
 have hvn:=h.num i c hq b2 (by omega)
 have e0:=jQ (cel g i c) h.hi h.hc
 have en: ∀r x,¬(r=i∧x=c+1)→cel (ku g i (c+1) (cel g i c)) r x=cel g r x:=fun r x hh=>iz _ hh
 have hll:=h.lm i
 refine⟨h.q0,h.qm,fun r=> ?_,?_,?_,hq,fun r x=> ?_,fun r x h1 h2 h3=> ?_,fun r x h1 h2 h3 h4=> ?_,fun r x h1 h2 h3 h4=> ?_,fun x h1 h2 h3=> ?_,fun r h1 h2 h3=> ?_⟩
 ·rw[bw,bw];exact h.lm r
 ·rw[il];exact b1
 ·rw[bw];exact b2
 ·by_cases e:r=i∧x=c+1
  ·rw[e.1,e.2,e0];exact h.pos _ _
  ·rw[en r x e];exact h.pos _ _
 ·rw[bw]at h2
  by_cases e:r=i∧x=c+1
  ·rw[e.1,e.2,e0];exact hvn
  ·rw[en r x e];exact h.num r x h1 h2 e
 ·rw[bw]at h2
  by_cases e:r=i∧x=c+1
  ·obtain⟨rfl,rfl⟩:=e
   rw[e0,en _ _ (by omega)]
   exact h.GN c rfl hq h2
  ·rw[en r x e]
   by_cases e':r=i∧x+1=c+1
   ·exact(h3 ⟨e'.1,by omega⟩).elim
   ·rw[en r (x+1) e'];exact h.row r x h1 h2 e e'
 ·rw[bw]at h2
  by_cases e:r=i∧x=c+1
  ·obtain⟨rfl,rfl⟩:=e
   rw[e0,en _ _ (by omega)]
   have h5:=h.col r c hq (by omega) (by omega) (by omega)
   have h6:=h.row (r+1) c (by omega) h2 (by omega) (by omega)
   omega
  ·rw[en r x e]
   by_cases e':r+1=i∧x=c+1
   ·obtain⟨rfl,rfl⟩:=e'
    rw[e0]
    unfold zK at hu
    rw[if_neg (by omega),show r+1-1=r by omega]at hu
    exact hu
   ·rw[en (r+1) x e']
    exact h.col r x h1 h2 e e'
 ·rw[bw]at h3
  subst h1
  rw[en _ _ (by omega),e0]
  exact h.row i x h2 b2 (by omega) (by omega)
 ·rw[bw]at h3
  rw[en _ _ (by omega),en _ _ (by omega)]
  subst h1
  have h5:=h.col r c h2 b2 (by omega) (by omega)
  have h6:=h.col (r+1) c hq h3 (by omega) (by omega)
  omega
end Go.Am.Pu
end
section
/- What a slide outwards leaves is a tableau; slides in and out undo each other. Plain words. -/
namespace Go.Am.Pu
theorem Dg{q o:List Int}{g:List (List Int)}(hq:aQ q=true)(ho:aQ o=true)(hin: ∀r,q.getD r 0≤o.getD r 0)(hl: ∀r,r<o.length→((g.getD r []).length:Int)=o.getD r 0)
  (num: ∀r x:Nat,r<o.length→q.getD r 0≤x→(x:Int)<o.getD r 0→1≤cel g r x∧cel g r x≤9)
  (row: ∀r x:Nat,r<o.length→q.getD r 0≤x→(x:Int)+1<o.getD r 0→cel g r x≤cel g r (x+1))
  (col: ∀r x:Nat,r+1<o.length→q.getD r 0≤x→(x:Int)<o.getD (r+1) 0→cel g r x<cel g (r+1) x):
  eU (q,cb q g o.length)=true∧outer (q,cb q g o.length)=o:=by
 have q0:=fun r=>(oK hq r).1
 generalize hR:cb q g o.length=R
 have hRl:R.length=o.length:=by rw[←hR,iq]
 have cell: ∀{r k:Nat},r<R.length→k<(R.getD r []).length→((q.getD r 0).toNat+k:Int)<o.getD r 0∧(R.getD r []).getD k 0=cel g r ((q.getD r 0).toNat+k):=by
  intro r k hr hk
  subst hR
  rw[jT (by omega)]at hk⊢
  rw[List.length_drop]at hk
  have:=hl r (by omega)
  refine⟨by omega,?_⟩
  rw[xd];rfl
 have Ao: ∀{r:Nat},r<R.length→o.getD r 0=q.getD r 0+((R.getD r []).length:Int):=by
  intro r hr
  subst hR
  rw[jT (by omega),List.length_drop]
  have:=hl r (by omega)
  have:=hin r
  have:=q0 r
  omega
 have hout:outer (q,R)=o:=by
  refine List.ext_getElem (by rw[cd];exact hRl) fun r h1 h2=> ?_
  rw[←an h1 0,←an h2 0]
  have h3:r<R.length:=by omega
  have:=eC q R 0 r h3
  rw[Nat.zero_add]at this
  unfold outer
  rw[this]
  exact(Ao h3).symm
 refine⟨?_,hout⟩
 have hlen:q.length≤R.length:=by
  refine Nat.le_of_not_lt fun hlt=> ?_
  have a:=qE hq hlt
  have b:=hin R.length
  rw[aZ (xs:=o) (by omega)]at b
  omega
 have om:=gd ho
 have qm:=gd hq
 simp only[eU,eP,aM,Bool.and_eq_true,decide_eq_true_eq]
 rw[hout]
 refine⟨⟨hq,hlen,hq,ho,by omega,?_⟩,?_⟩
 ·rw[bW]
  intro r _
  exact decide_eq_true (hin r)
 ·rw[bW]
  intro r hr
  rw[bW]
  intro k hk
  have hqr:=q0 r
  obtain⟨c1,c4⟩:=cell hr hk
  have hnum:=num r ((q.getD r 0).toNat+k) (by omega) (by omega) (by omega)
  simp only[gA,within,Bool.and_eq_true,Bool.or_eq_true,decide_eq_true_eq]
  rw[c4]
  refine⟨hnum,?_,?_⟩
  ·cases k with
   |zero=>exact .inl rfl
   |succ k=>
    obtain⟨d1,d4⟩:=cell hr (show k<(R.getD r []).length by omega)
    right
    rw[show k+1-1=k from rfl,d4]
    exact row r ((q.getD r 0).toNat+k) (by omega) (by omega) (by omega)
  ·cases r with
   |zero=>exact .inl rfl
   |succ r=>
    right
    have hr':r<R.length:=by omega
    have em:((r+1:Nat):Int)-1=(r:Int):=by omega
    rw[em,iU hr']
    have hqr:=q0 r
    have hqm:=qm r
    have hrl:=Ao hr'
    have hom:=om r
    simp only
    by_cases e:q.getD (r+1) 0+(k:Int)<q.getD r 0
    ·rw[qe (by omega)];omega
    ·obtain⟨y,hy⟩: ∃y:Nat,q.getD (r+1) 0+(k:Int)-q.getD r 0=y:=⟨(q.getD (r+1) 0+(k:Int)-q.getD r 0).toNat,by omega⟩
     rw[hy,cU]
     obtain⟨d1,d4⟩:=cell hr' (show y<(R.getD r []).length by omega)
     have ey:(q.getD r 0).toNat+y=(q.getD (r+1) 0).toNat+k:=by omega
     rw[d4,ey]
     exact col r _ (by omega) (by omega) (by omega)
section
variable {t : Tab} {n : Nat} {p : List Int}
def rG(t:Tab)(n:Nat)(p:List Int):List (List Int)×(Nat×Nat):=sf 18 (Fu t n) n (p.getD n 0-1).toNat
structure FI (t : Tab) (n : Nat) (p : List Int) (g : List (List Int)) (i c : Nat) (q : List Int) : Prop where
  sl : Sl t.1 g i c
  inn : Inn t.1 g
  len : g.length = p.length
  row : ∀ r, ((g.getD r []).length : Int) = p.getD r 0
  l0 : leftOf g i c = 0
  u0 : zK g i c = 0
  add : b8 t.1 i = (q, true)
  qi : q.getD i 0 = c + 1
  qr : ∀ r, q.getD r 0 = if r = i then (c : Int) + 1 else t.1.getD r 0
  qp : aQ q = true
  ins : ∀ r, q.getD r 0 ≤ p.getD r 0
def sO(t:Tab)(n:Nat):Tab×Nat:=
 let p:=(b8 (outer t) n).1
 let s:=rG t n p
 let q:=(b8 t.1 s.2.1).1
 ((q,cb q s.1 p.length),s.2.1)
theorem FI.tab{g:List (List Int)}{i c:Nat}{q:List Int}(E:FI t n p g i c q)(hp:b8 (outer t) n=(p,true)):eU (q,cb q g p.length)=true∧outer (q,cb q g p.length)=p:=by
 obtain⟨b1,b2,b3,b4,b5⟩:=jP hp
 have hq:=E.sl.hq
 have old: ∀r x:Nat,q.getD r 0≤x→t.1.getD r 0≤x∧ ¬(r=i∧x=c):=fun r x hx=>by
  rw[E.qr]at hx
  by_cases e:r=i
  ·rw[if_pos e]at hx
   rw[e]
   exact⟨by omega,by omega⟩
  ·rw[if_neg e]at hx;exact⟨hx,fun e'=>e e'.1⟩
 refine Dg E.qp b5 E.ins (fun r _=>E.row r) (fun r x _ h1 h2=> ?_) (fun r x _ h1 h2=> ?_) (fun r x _ h1 h2=> ?_)
 ·have:=E.row r
  exact E.sl.num r x (old r x h1).1 (by omega) (old r x h1).2
 ·have:=E.row r
  exact E.sl.row r x (old r x h1).1 (by omega) (old r x h1).2 (by have:=(old r (x+1) (by omega)).2;exact this)
 ·have:=E.row (r+1)
  have hm:=gd E.qp r
  exact E.sl.col r x (old r x h1).1 (by omega) (old r x h1).2 (by have:=(old (r+1) x (by omega)).2;exact this)
theorem FI.eq{q:List Int}(E:FI t n p (rG t n p).1 (rG t n p).2.1 (rG t n p).2.2 q)(hp:b8 (outer t) n=(p,true)):sO t n=((q,cb q (rG t n p).1 p.length),(rG t n p).2.1):=by
 unfold sO
 rw[hp]
 simp only[E.add]
end
section
variable {t : Tab} {n : Nat}
end
end Go.Am.Pu
end
section
/- Words of tableaux; the rows of a slide outwards. Plain words. -/
namespace Go.Am.Pu
def Gx(a n m:Nat)(t:Tab):Prop:=t.1.length≤a∧dX n m t.2
theorem Gx.tab{a n m:Nat}{t:Tab}(h:Gx a n m t)(ha:a≤1048576)(hn:n≤1048576)(hm:m≤1048576):t.1.length≤1048576∧t.2.length≤1048576∧ ∀x∈t.2,x.length≤1048576:=
 ⟨Nat.le_trans h.1 ha,Nat.le_trans h.2.1 hn,fun x hx=>Nat.le_trans (h.2.2 x hx) hm⟩
end Go.Am.Pu
end
section
/- Partitions that are drawn; chains of partitions. Plain words. -/
namespace Go.Am.Pu
end Go.Am.Pu
end
section
/- Plain laws: tableaux side by side; a number's copies. -/
namespace Go.Am.Pu
open Go Go.Am
attribute [local instance] D.real
theorem Fj{n:Int}(h0:0≤n)(h1:n<18446744073709551616):IntKind.u64.wrap n=n:=by
 show n % 18446744073709551616=n
 exact Int.emod_eq_of_lt h0 h1
theorem EN{n:Nat}(h:n<4294967296):D.shrI .u64 (n:Int) 32=0:=by
 show(n:Int).fdiv (2^32)=0
 rw[Int.fdiv_eq_ediv_of_nonneg _ (by decide)]
 exact Int.ediv_eq_zero_of_lt (by omega) (by omega)
theorem E4{n:Nat}(h:n<4294967296):D.andI .u64 (n:Int) 4294967295=n:=by
 show IntKind.u64.wrap (((BitVec.ofInt 64 (n:Int)&&&BitVec.ofInt 64 4294967295).toNat:Nat):Int)=_
 have e:(BitVec.ofInt 64 (n:Int)&&&BitVec.ofInt 64 4294967295).toNat=n:=by
  rw[BitVec.toNat_and]
  have e1:(BitVec.ofInt 64 (n:Int)).toNat=n:=by
   rw[BitVec.toNat_ofInt]
   omega
  have e2:(BitVec.ofInt 64 4294967295).toNat=2^32-1:=by decide
  rw[e1,e2,Nat.and_two_pow_sub_one_eq_mod]
  exact Nat.mod_eq_of_lt h
 rw[e]
 exact Fj (by omega) (by omega)
end Go.Am.Pu
end
section
/- Plain laws: boxes that lead on to an outer partition; chains. -/
namespace Go.Am.Pu
open Go Go.Am
attribute [local instance] D.real
theorem oY{p q:List Int}(h:aM p q=true)(i:Nat):p.getD i 0≤q.getD i 0:=by
 rw[lH]at h
 simp only[Bool.and_eq_true]at h
 rcases Nat.lt_or_ge i p.length with hi|hi
 ·have:=bW.1 h.2.2 i hi
  simpa using this
 ·rw[aZ hi];exact(oK h.2.1 i).1
theorem fW{p q:List Int}(h:aM p q=true):aQ p=true∧aQ q=true:=by
 rw[lH]at h
 simp only[Bool.and_eq_true]at h
 exact⟨h.1,h.2.1⟩
theorem xQ{p q:List Int}(hp:aQ p=true)(hq:aQ q=true)(h: ∀i,p.getD i 0≤q.getD i 0):aM p q=true:=by
 rw[lH,hp,hq]
 simp only[Bool.true_and]
 exact bW.2 fun i _=>decide_eq_true (h i)
theorem sum_add{p o:List Int}{r:Nat}(hp:aQ p=true)(h:b8 p r=(o,true)):aP o=aP p+1:=by
 obtain⟨_,b2,_,_,b5⟩:=jP h
 obtain⟨e,hc⟩:=Ea hp h
 have:=zD b5 b2 hc
 rw[e]at this
 omega
def Ch(c:List (List Int)):Prop:=1≤c.length∧c.length≤10∧ ∀x∈c,Gw 9 x
theorem eG{p:List Int}(h:aQ p=true):Gw 9 p:=⟨(aK h).2.2.1,(aK h).1⟩
def bP(c:List (List Int)):List Int:=c.getD (c.length-1) []
theorem kL(c:List (List Int))(o:List Int):bP (c++ [o])=o:=by
 unfold bP
 rw[List.length_append,List.length_singleton,Nat.add_sub_cancel,List.getD_eq_getElem?_getD,List.getElem?_append_right (Nat.le_refl _),Nat.sub_self]
 rfl
end Go.Am.Pu
end
section
/- Plain laws: the local rule of insertion; exchanging places and numbers exchanges the two tableaux. -/
namespace Go.Am.Pu
end Go.Am.Pu
end
section
/- Plain laws: places and numbers exchanged: the tableau of the one is the recording of the other. -/
namespace Go.Am.Pu
def wd(L:List (Int×Int)):List Int:=L.map Prod.snd
def at1(s r:Nat):Nat:=if s=r then 1 else 0
structure Tr (L M : List (Int × Int)) : Prop where
  sl : L.Pairwise fun p q => p.1 < q.1
  sm : M.Pairwise fun p q => p.1 < q.1
  perm : M.Perm (L.map Prod.swap)
theorem Tr.symm{L M:List (Int×Int)}(h:Tr L M):Tr M L:=by
 refine⟨h.sm,h.sl,?_⟩
 have:=(h.perm.map Prod.swap).symm
 rwa [List.map_map,Prod.swap_swap_eq,List.map_id]at this
theorem Tr.len{L M:List (Int×Int)}(h:Tr L M):M.length=L.length:=by simpa using h.perm.length_eq
theorem Tr.mem{L M:List (Int×Int)}(h:Tr L M){p:Int×Int}(hp:p∈L):p.swap∈M:=h.perm.mem_iff.2 (List.mem_map_of_mem hp)
theorem FM{A B:List (Int×Int)}{x:Int×Int}:(A++B).Sublist (A++x::B):=(List.Sublist.refl A).append (List.sublist_cons_self x B)
theorem Tr.cut{L0 A B:List (Int×Int)}{p:Int×Int}(h:Tr (L0++ [p]) (A++p.swap::B)):Tr L0 (A++B):=by
 refine⟨(List.pairwise_append.1 h.sl).1,h.sm.sublist FM,?_⟩
 have h1:(A++p.swap::B).Perm (p.swap::(A++B)):=List.perm_middle
 have h2:((L0++ [p]).map Prod.swap).Perm (p.swap::L0.map Prod.swap):=by
  rw[List.map_append]
  exact List.perm_append_comm
 exact(List.perm_cons _).1 (h1.symm.trans (h.perm.trans h2))
theorem Fa{L0:List (Int×Int)}{p:Int×Int}(h:(L0++ [p]).Pairwise fun p q=>p.1<q.1): ∀x∈L0,x.1<p.1:=fun x hx=>(List.pairwise_append.1 h).2.2 x hx p (by simp)
theorem Tr.top{L M0:List (Int×Int)}{q:Int×Int}(h:Tr L (M0++ [q])): ∀x∈L,x≠q.swap→x.2<q.1:=fun x hx hne=>by
 have hm:=h.mem hx
 rcases List.mem_append.1 hm with h1|h1
 ·exact Fa h.sm _ h1
 ·simp only[List.mem_singleton]at h1
  exact absurd (by rw[←h1,Prod.swap_swap]) hne
end Go.Am.Pu
end
section
/- Plain laws: taking a cell out undoes an insertion. -/
namespace Go.Am.Pu
structure Tk (rs : List (List Int)) (a : Nat) (R : List (List Int)) (y : Int) : Prop where
  ins : bG R y = (rs, a)
  ssr : SSR R
  pos : ∃ p, p < (rs.getD 0 []).length ∧ y = (rs.getD 0 []).getD p 0 ∧ (R.getD 0 []).length ≤ (rs.getD 0 []).length ∧ (∀ i, i < (R.getD 0 []).length → (rs.getD 0 []).getD i 0 ≤ (R.getD 0 []).getD i 0) ∧
    ∀ i, p ≤ i → i < (R.getD 0 []).length → y < (R.getD 0 []).getD i 0
end Go.Am.Pu
end
section
/- Plain laws: a removed number inserted again; a pair is what its word makes; the inverse of a permutation. -/
namespace Go.Am.Pu
end Go.Am.Pu
end
section
/- Plain laws: the inverse of a permutation; words that are their own standardization. -/
namespace Go.Am.Pu
section
variable {w : List Int} (h : isWord w = true) (ho : lz w = true)
include h ho
end
end Go.Am.Pu
end
section
/- Standardization step by step; what the law of the pairs wants, with no program in sight. -/
namespace Go.Am.Pu
set_option linter.unusedSimpArgs false
set_option linter.unusedVariables false
def pc(w:List Int)(i q:Nat):Nat:=((List.range q).filter fun k=>decide (w.getD k 0<w.getD i 0)||(decide (w.getD k 0=w.getD i 0)&&decide (k<i))).length
end Go.Am.Pu
end
section
/- Plain laws: insertion of letters told anew; insertion and recording of pairs in order, with repeats. -/
namespace Go.Am.Pu
set_option linter.unusedVariables false
section
variable {f : Int → Int} (hf : ∀ a b, a ≤ b → f a ≤ f b)
include hf
omit hf in
end
def Lex(p q:Int×Int):Prop:=p.1<q.1∨(p.1=q.1∧p.2≤q.2)
def dec(v:Int):Int:=v/100
end Go.Am.Pu
end
section
/- Plain laws: the word of a recorded pair is the word; a recording with repeats, told by standard numbers. -/
namespace Go.Am.Pu
set_option linter.unusedVariables false
theorem CR{X Y:List (List Int)}(h:dY X Y)(he: ∀r x,r<X.length→x<(X.getD r []).length→cel X r x=cel Y r x):X=Y:=by
 refine DW (d:= []) h.1 fun r hr=>DW (d:=0) (h.2 r) fun x hx=>he r x hr hx
end Go.Am.Pu
end
section
/- Plain laws: pairs in order and their two tableaux. -/
namespace Go.Am.Pu
set_option linter.unusedVariables false
def POK(L:List (Int×Int)):Prop:=L.length≤9∧ ∀p∈L,(1≤p.1∧p.1≤9)∧1≤p.2∧p.2≤9
theorem POK.word{L:List (Int×Int)}(h:POK L):isWord (wd L)=true:=by
 unfold isWord within
 simp only[Bool.and_eq_true,decide_eq_true_eq,List.all_eq_true,wd,List.length_map]
 refine⟨h.1,fun x hx=> ?_⟩
 obtain⟨p,hp,rfl⟩:=List.mem_map.1 hx
 exact(h.2 p hp).2
section
variable {L : List (Int × Int)} (h : POK L) (hl : L.Pairwise Lex)
include h
theorem G4:bR (([],pU (wd L) [] [] 0):Tab)=true∧iw (([],pU (wd L) [] [] 0):Tab)=true∧(pU (wd L) [] [] 0).flatten.length=L.length:=by
 have hw:=h.word
 have:=u3 hw
 unfold lf at this
 rw[if_pos hw]at this
 simpa[wd]using this
theorem gz{r x i:Nat}(hi:i<L.length)(hr:r<(pU (wd L) [] [] 0).length)(hx:x<((pU (wd L) [] [] 0).getD r []).length)(e:cel (pU (wd L) [] [] 0) r x=((i+1:Nat):Int)):(B4 (wd L) []).getD i 0=r:=by
 obtain⟨p1,p2,p3⟩:=G4 h
 have a:=(Ai h.word).2 i (by simpa[wd]using hi)
 have b:=jO p1 p2 hr hx e
 omega
include hl
end
end Go.Am.Pu
end
section
/- Plain laws: matrices and their pairs. -/
namespace Go.Am.Pu
set_option linter.unusedVariables false
set_option linter.unusedSimpArgs false
def Hd(c:Nat)(r:List Int):Bool:=decide (r.length=c)&&(decide (r.length≤9)&&r.all fun n=>within n 0 9)
def vK(m:List (List Int)):Bool:=decide (m.length≤9)&&(m.all (Hd (m.getD 0 []).length)&&decide (aP m.flatten≤9))
structure GH (r c : Nat) (m : List (List Int)) : Prop where
  len : m.length = r
  r9 : r ≤ 9
  row : ∀ x ∈ m, x.length = c
  c9 : ∀ x ∈ m, x.length ≤ 9
  num : ∀ x ∈ m, ∀ n ∈ x, 0 ≤ n ∧ n ≤ 9
  sum : aP m.flatten ≤ 9
theorem ye{m:List (List Int)}:vK m=true↔GH m.length (m.getD 0 []).length m:=by
 unfold vK Hd within
 simp only[Bool.and_eq_true,decide_eq_true_eq,List.all_eq_true]
 constructor
 ·rintro⟨a,b,c⟩
  exact⟨rfl,a,fun x hx=>(b x hx).1,fun x hx=>(b x hx).2.1,fun x hx=>(b x hx).2.2,c⟩
 ·rintro⟨_,a,b,c,d,e⟩
  exact⟨a,fun x hx=>⟨b x hx,c x hx,d x hx⟩,e⟩
theorem GH.is{r c:Nat}{m:List (List Int)}(h:GH r c m):vK m=true:=by
 rw[ye]
 cases m with
 |nil=>exact⟨rfl,Nat.zero_le _,fun x hx=>(by cases hx),fun x hx=>(by cases hx),fun x hx=>(by cases hx),h.sum⟩
 |cons a m=>
  have:=h.row a (List.mem_cons_self ..)
  exact⟨rfl,by rw[h.len];exact h.r9,fun x hx=>by rw[List.getD_cons_zero,this];exact h.row x hx,h.c9,h.num,h.sum⟩
end Go.Am.Pu
end
section
/- Plain laws: a matrix is told by its two tableaux, and turning it exchanges them. -/
namespace Go.Am.Pu
set_option linter.unusedVariables false
end Go.Am.Pu
end
section
/- Plain laws: what the functions on matrices make step by step. -/
namespace Go.Am.Pu
set_option linter.unusedVariables false
end Go.Am.Pu
end
section
/- Plain laws: insertion by columns keeps the word's class. -/
namespace Go.Am.Pu
set_option linter.unusedVariables false
def fQ(c:List Int)(x:Int):Nat:=c.findIdx fun n=>decide (x≤n)
def Bl:List (List Int)→Int→List (List Int)
 | [],x=> [[x]]
 |c::cs,x=>if fQ c x<c.length then c.set (fQ c x) x::Bl cs (c.getD (fQ c x) 0)else(c++ [x])::cs
end Go.Am.Pu
end
section
/- Plain laws: columns and rows of a tableau; insertion by columns keeps it a tableau. -/
namespace Go.Am.Pu
set_option linter.unusedVariables false
def Cg(c:List Int):List (List Int)→Prop
 | []=>True
 |d::_=>d.length≤c.length∧ ∀q,q<d.length→c.getD q 0≤d.getD q 0
def CC:List (List Int)→Prop
 | []=>True
 |c::cs=>0<c.length∧c.Pairwise (· < ·)∧Cg c cs∧CC cs
theorem B6{c:List Int}(h:c.Pairwise (· < ·)){i j:Nat}(hij:i<j)(hj:j<c.length):c.getD i 0<c.getD j 0:=by
 rw[List.pairwise_iff_getElem]at h
 rw[an (by omega),an hj]
 exact h i j (by omega) hj hij
theorem G9{c:List Int}(h:c.Pairwise (· < ·)){i j:Nat}(hij:i≤j)(hj:j<c.length):c.getD i 0≤c.getD j 0:=by
 rcases Nat.lt_or_ge i j with q|q
 ·have:=B6 h q hj;omega
 ·rw[show i=j by omega];exact Int.le_refl _
theorem zi{c:List Int}(h: ∀i j,i<j→j<c.length→c.getD i 0<c.getD j 0):c.Pairwise (· < ·):=by
 rw[List.pairwise_iff_getElem]
 intro i j hi hj hij
 have:=h i j hij hj
 rwa [an hi,an hj]at this
theorem BZ{c:List Int}{x:Int}(h:fQ c x<c.length):x≤c.getD (fQ c x) 0:=by
 have:=List.findIdx_getElem (w:=h) (p:=fun n=>decide (x≤n))
 rw[an h];exact of_decide_eq_true this
theorem yf{c:List Int}{x:Int}{i:Nat}(h:i<fQ c x):c.getD i 0<x:=by
 have hl:i<c.length:=Nat.lt_of_lt_of_le h List.findIdx_le_length
 have:=List.not_of_lt_findIdx (p:=fun n=>decide (x≤n)) (xs:=c) h
 have:=of_decide_eq_false this
 rw[an hl];omega
theorem yz{c:List Int}{x:Int}:fQ c x≤c.length:=List.findIdx_le_length
theorem Gk{c:List Int}{x:Int}(h:c.Pairwise (· < ·))(hk:fQ c x<c.length):(c.set (fQ c x) x).Pairwise (· < ·):=zi fun i j hij hj=>by
 rw[List.length_set]at hj
 rw[fD x hk,fD x hk]
 have ha:=BZ hk
 by_cases ci:i=fQ c x
 ·rw[if_pos ci,if_neg (by omega)]
  have:=B6 h (i:=fQ c x) (j:=j) (by omega) hj
  omega
 ·rw[if_neg ci]
  by_cases cj:j=fQ c x
  ·rw[if_pos cj];exact yf (by omega)
  ·rw[if_neg cj];exact B6 h hij hj
theorem F3{c:List Int}{x:Int}(h:c.Pairwise (· < ·))(hk: ¬fQ c x<c.length):(c++ [x]).Pairwise (· < ·):=zi fun i j hij hj=>by
 rw[List.length_append,List.length_singleton]at hj
 rw[dM,dM]
 by_cases cj:j=c.length
 ·rw[if_neg (by omega),if_pos cj];exact yf (by have:= @yz c x;omega)
 ·rw[if_neg (by omega),if_neg cj];exact B6 h hij (by omega)
theorem Cx{c:List Int}{x:Int}{cs:List (List Int)}(h:c.Pairwise (· < ·))(hk:fQ c x<c.length)(ho:Cg c cs)(hc:CC cs):Cg (c.set (fQ c x) x) (Bl cs (c.getD (fQ c x) 0)):=by
 have hy:=BZ hk
 have hle: ∀q,q<c.length→(c.set (fQ c x) x).getD q 0≤c.getD q 0:=fun q hq=>by
  rw[fD x hk]
  split
  ·next e=>rw[e];exact hy
  ·exact Int.le_refl _
 have hset: ∀q,q≤fQ c x→(c.set (fQ c x) x).getD q 0≤c.getD (fQ c x) 0:=fun q hq=>by
  have:=hle q (by omega)
  have:=G9 h hq hk
  omega
 cases cs with
 |nil=>
  refine⟨by show 1≤_;rw[List.length_set];omega,fun q hq=> ?_⟩
  have hq:q<1:=hq
  rw[show q=0 by omega]
  exact hset 0 (Nat.zero_le _)
 |cons d ds=>
  obtain⟨o1,o2⟩:=ho
  have hk':fQ d (c.getD (fQ c x) 0)≤fQ c x:=Nat.le_of_not_lt fun hlt=>by
   have hd:fQ c x<d.length:=by have:= @yz d (c.getD (fQ c x) 0);omega
   have a:=yf hlt
   have b:=o2 _ hd
   omega
  show Cg _ (if fQ d (c.getD (fQ c x) 0)<d.length then _ else _)
  by_cases g:fQ d (c.getD (fQ c x) 0)<d.length
  ·rw[if_pos g]
   refine⟨by rw[List.length_set,List.length_set];exact o1,fun q hq=> ?_⟩
   rw[List.length_set]at hq
   rw[fD _ g]
   split
   ·next e=>exact hset q (by omega)
   ·have:=hle q (by omega)
    have:=o2 q hq
    omega
  ·rw[if_neg g]
   have e:fQ d (c.getD (fQ c x) 0)=d.length:=by have:= @yz d (c.getD (fQ c x) 0);omega
   refine⟨by rw[List.length_set,List.length_append,List.length_singleton];omega,fun q hq=> ?_⟩
   rw[List.length_append,List.length_singleton]at hq
   rw[dM]
   split
   ·next e2=>exact hset q (by omega)
   ·have:=hle q (by omega)
    have:=o2 q (by omega)
    omega
theorem D8: ∀(C:List (List Int)) (x:Int),CC C→CC (Bl C x)
 | [],x,_=>⟨by simp,by simp,trivial,trivial⟩
 |c::cs,x,⟨h1,h2,h3,h4⟩=>by
  show CC (if fQ c x<c.length then _ else _)
  by_cases g:fQ c x<c.length
  ·rw[if_pos g]
   exact⟨by rw[List.length_set];exact h1,Gk h2 g,Cx h2 g h3 h4,D8 cs _ h4⟩
  ·rw[if_neg g]
   refine⟨by rw[List.length_append,List.length_singleton];omega,F3 h2 g,?_,h4⟩
   cases cs with
   |nil=>trivial
   |cons d ds=>
    obtain⟨o1,o2⟩:=h3
    exact⟨by rw[List.length_append,List.length_singleton];omega,fun q hq=>by rw[dM,if_neg (by omega)];exact o2 q hq⟩
theorem xD: ∀{C:List (List Int)},CC C→(∀c∈C,0<c.length∧c.Pairwise (· < ·))∧ ∀i,i+1<C.length→(C.getD (i+1) []).length≤(C.getD i []).length∧ ∀q,q<(C.getD (i+1) []).length→(C.getD i []).getD q 0≤(C.getD (i+1) []).getD q 0
 | [],_=>⟨fun c hc=>(by cases hc),fun i hi=>(by simp at hi)⟩
 |c::cs,⟨h1,h2,h3,h4⟩=>by
  obtain⟨a,b⟩:=xD h4
  refine⟨fun d hd=> ?_,fun i hi=> ?_⟩
  ·rcases List.mem_cons.1 hd with rfl|hd
   ·exact⟨h1,h2⟩
   ·exact a d hd
  ·cases i with
   |zero=>
    cases cs with
    |nil=>simp at hi
    |cons d ds=>exact h3
   |succ i=>exact b i (by simpa using hi)
def lM:List Int→List (List Int)→List (List Int)
 | [],C=>C
 |n::r,[]=> [n]::lM r []
 |n::r,c::C=>(n::c)::lM r C
def cn:List (List Int)→List (List Int)
 | []=> []
 |r::rs=>lM r (cn rs)
def Reg(t:List (List Int)):Prop:=(∀r∈t,0<r.length)∧ ∀i,i+1<t.length→(t.getD (i+1) []).length≤(t.getD i []).length
theorem Reg.tail{r:List Int}{rs:List (List Int)}(h:Reg (r::rs)):Reg rs∧(rs.getD 0 []).length≤r.length:=by
 refine⟨⟨fun s hs=>h.1 s (List.mem_cons_of_mem _ hs),fun i hi=>h.2 (i+1) (by simpa using hi)⟩,?_⟩
 cases rs with
 |nil=>exact Nat.zero_le _
 |cons s rs=>exact h.2 0 (by simp)
theorem rN: ∀(r:List Int) (C:List (List Int)),C.length≤r.length→(lM r C).length=r.length
 | [],C,h=>by simp at h;subst h;rfl
 |n::r,[],_=>by simp[lM,rN r [] (Nat.zero_le _)]
 |n::r,c::C,h=>by simp[lM,rN r C (by simpa using h)]
theorem sq: ∀(r:List Int) (C:List (List Int)) (q:Nat),C.length≤r.length→(lM r C).getD q []=if q<r.length then r.getD q 0::C.getD q []else []
 | [],C,q,h=>by simp at h;subst h;simp[lM]
 |n::r,[],0,_=>by simp[lM]
 |n::r,[],q+1,_=>by
  have:=sq r [] q (Nat.zero_le _)
  simp only[lM,List.getD_cons_succ,this,List.length_cons]
  by_cases h:q<r.length
  ·rw[if_pos h,if_pos (by omega)];simp
  ·rw[if_neg h,if_neg (by omega)]
 |n::r,c::C,0,_=>by simp[lM]
 |n::r,c::C,q+1,h=>by
  have:=sq r C q (by simpa using h)
  simp only[lM,List.getD_cons_succ,this,List.length_cons]
  by_cases g:q<r.length
  ·rw[if_pos g,if_pos (by omega)]
  ·rw[if_neg g,if_neg (by omega)]
theorem nT: ∀{t:List (List Int)},Reg t→(cn t).length=(t.getD 0 []).length
 | [],_=>rfl
 |r::rs,h=>by
  have:=nT h.tail.1
  exact rN r _ (by rw[this];exact h.tail.2)
theorem kE: ∀{t:List (List Int)},Reg t→ ∀q i,(i<((cn t).getD q []).length↔q<(t.getD i []).length)∧((cn t).getD q []).getD i 0=(t.getD i []).getD q 0
 | [],_,q,i=>by simp[cn]
 |r::rs,h,q,i=>by
  have hl:=nT h.tail.1
  have ht:=h.tail.2
  have e:=sq r (cn rs) q (by rw[hl];exact ht)
  show(i<((lM r (cn rs)).getD q []).length↔_)∧((lM r (cn rs)).getD q []).getD i 0=_
  rw[e]
  by_cases g:q<r.length
  ·rw[if_pos g]
   cases i with
   |zero=>simp[g]
   |succ i=>
    have:=kE h.tail.1 q i
    simp only[List.length_cons,List.getD_cons_succ]
    exact⟨by rw[←this.1];omega,this.2⟩
  ·rw[if_neg g]
   have hle: ∀i,((r::rs).getD i []).length≤r.length:=by
    intro i
    induction i with
    |zero=>simp
    |succ i ih=>
     by_cases hi:i+1<(r::rs).length
     ·exact Nat.le_trans (h.2 i hi) ih
     ·rw[List.getD_eq_getElem?_getD,List.getElem?_eq_none (by omega)];exact Nat.zero_le _
   have:=hle i
   refine⟨⟨fun h=>by simp at h,fun h=>by omega⟩,?_⟩
   rw[List.getD_eq_getElem?_getD (l:=(r::rs).getD i []),List.getElem?_eq_none (by omega)]
   simp
theorem Fb{C:List (List Int)}(h:CC C):Reg C:=⟨fun c hc=>((xD h).1 c hc).1,fun i hi=>((xD h).2 i hi).1⟩
end Go.Am.Pu
end
section
/- Plain laws: one step of insertion by columns, seen in the rows. -/
namespace Go.Am.Pu
set_option linter.unusedVariables false
theorem vR{α:Type}{l:List α}{i:Nat}(h:l.length≤i)(d:α):l.getD i d=d:=by
 rw[List.getD_eq_getElem?_getD,List.getElem?_eq_none h];rfl
theorem gss{l:List (List Int)}{i:Nat}(h:i<l.length)(v:List Int):(l.set i v).getD i []=v:=by
 rw[an (by rw[List.length_set];exact h),List.getElem_set_self]
def lq(D:List (List Int))(c:Nat)(x:Int):List (List Int):=if c=D.length then D++ [[x]]else D.set c (D.getD c []++ [x])
theorem Ar{D:List (List Int)}{c:Nat}(x:Int)(hc:c≤D.length)(i:Nat):(lq D c x).getD i []=if i=c then D.getD c []++ [x]else D.getD i []:=xq (Q:=D) (a:=c) x hc i
theorem D4{D:List (List Int)}(h:Reg D){c:Nat}(hc:c≤D.length)(x:Int)(h':Reg (lq D c x)):cn (lq D c x)=lq (cn D) (D.getD c []).length x∧(D.getD c []).length≤(cn D).length∧((cn D).getD (D.getD c []).length []).length=c:=by
 have hg:=Ar x hc
 have hlen: ∀i,((lq D c x).getD i []).length=if i=c then(D.getD c []).length+1 else(D.getD i []).length:=fun i=>by
  rw[hg];split
  ·rw[List.length_append,List.length_singleton]
  ·rfl
 have ant: ∀d,(D.getD d []).length≤(D.getD 0 []).length:=by
  intro d
  induction d with
  |zero=>exact Nat.le_refl _
  |succ d ih=>
   by_cases hd:d+1<D.length
   ·exact Nat.le_trans (h.2 d hd) ih
   ·rw[vR (by omega)];exact Nat.zero_le _
 have hrl:(D.getD c []).length≤(cn D).length:=by rw[nT h];exact ant c
 have hrc:((cn D).getD (D.getD c []).length []).length=c:=by
  refine Nat.le_antisymm (Nat.le_of_not_lt fun hlt=> ?_) (Nat.le_of_not_lt fun hlt=> ?_)
  ·have:=(kE h _ c).1.1 hlt
   omega
  ·
   have a:=(kE h (D.getD c []).length ((cn D).getD (D.getD c []).length []).length).1
   have hc':((cn D).getD (D.getD c []).length []).length<D.length:=by omega
   generalize hm:((cn D).getD (D.getD c []).length []).length=m at*
   have b: ¬(D.getD c []).length<(D.getD m []).length:=fun hh=>by have:=a.2 hh;omega
   have mono: ∀e,m+e≤c→((lq D c x).getD (m+e) []).length≤((lq D c x).getD m []).length:=by
    intro e
    induction e with
    |zero=>intro _;exact Nat.le_refl _
    |succ e ih=>
     intro he
     have hl2:(lq D c x).length=if c=D.length then D.length+1 else D.length:=oH x
     exact Nat.le_trans (h'.2 (m+e) (by rw[hl2];split<;>omega)) (ih (by omega))
   have:=mono (c-m) (by omega)
   rw[show m+(c-m)=c by omega,hlen,hlen,if_pos rfl,if_neg (by omega)]at this
   omega
 refine⟨?_,hrl,hrc⟩
 have hg2:=Ar (D:=cn D) (c:=(D.getD c []).length) x hrl
 have hl2:(lq (cn D) (D.getD c []).length x).length=if(D.getD c []).length=(cn D).length then(cn D).length+1 else(cn D).length:=oH x
 have hrow2: ∀i,((lq (cn D) (D.getD c []).length x).getD i []).length=if i=(D.getD c []).length then c+1 else((cn D).getD i []).length:=fun i=>by
  rw[hg2];split
  ·rw[List.length_append,List.length_singleton,hrc]
  ·rfl
 have key: ∀i q,q<((cn (lq D c x)).getD i []).length↔q<((lq (cn D) (D.getD c []).length x).getD i []).length:=fun i q=>by
  rw[(kE h' i q).1,hlen,hrow2]
  have a:=(kE h i q).1
  by_cases e:q=c
  ·subst e
   rw[if_pos rfl]
   by_cases e2:i=(D.getD q []).length
   ·rw[if_pos e2];omega
   ·rw[if_neg e2,a];omega
  ·rw[if_neg e]
   by_cases e2:i=(D.getD c []).length
   ·rw[if_pos e2,←a,e2,hrc];omega
   ·rw[if_neg e2,a]
 have hl:(cn (lq D c x)).length=(lq (cn D) (D.getD c []).length x).length:=by
  rw[nT h',hlen,hl2,nT h]
  by_cases e:0=c
  ·subst e
   rw[if_pos rfl,if_pos rfl]
  ·rw[if_neg e]
   split
   ·next e2=>
    exfalso
    have mono: ∀e,e≤c→((lq D c x).getD e []).length≤((lq D c x).getD 0 []).length:=by
     intro e
     induction e with
     |zero=>intro _;exact Nat.le_refl _
     |succ e ih=>
      intro he
      have hl3:(lq D c x).length=if c=D.length then D.length+1 else D.length:=oH x
      exact Nat.le_trans (h'.2 e (by rw[hl3];split<;>omega)) (ih (by omega))
    have:=mono c (Nat.le_refl _)
    rw[hlen,hlen,if_pos rfl,if_neg e]at this
    omega
   ·rfl
 refine CR ⟨hl,fun i=> ?_⟩ fun i q hi hq=> ?_
 ·refine Nat.le_antisymm (Nat.le_of_not_lt fun hlt=> ?_) (Nat.le_of_not_lt fun hlt=> ?_)
  ·have:=(key i _).1 hlt;omega
  ·have:=(key i _).2 hlt;omega
 ·show((cn (lq D c x)).getD i []).getD q 0=((lq (cn D) (D.getD c []).length x).getD i []).getD q 0
  rw[(kE h' i q).2,hg,hg2]
  by_cases e:q=c
  ·rw[if_pos e]
   by_cases e2:i=(D.getD c []).length
   ·rw[if_pos e2,e2,dM,if_pos rfl,dM,if_pos (by rw[hrc];exact e)]
   ·rw[if_neg e2,dM,if_neg e2,(kE h i q).2,e]
  ·rw[if_neg e]
   by_cases e2:i=(D.getD c []).length
   ·rw[if_pos e2,dM,if_neg (by rw[hrc];exact e),(kE h _ q).2,e2]
   ·rw[if_neg e2,(kE h i q).2]
structure vB (C : List (List Int)) (z : Int) (D : List (List Int)) (c : Nat) (x : Int) : Prop where
  same : dY D C
  rest : D.drop c = C.drop c
  inv : D.take c ++ Bl (D.drop c) x = Bl C z
  le : c ≤ D.length
section
variable {C D : List (List Int)} {z x : Int} {c : Nat} (h : CC C) (s : vB C z D c x)
include s
theorem vB.col:D.getD c []=C.getD c []:=by
 have:=congrArg (fun l:List (List Int)=>l.getD 0 []) s.rest
 simp only[List.getD_eq_getElem?_getD,List.getElem?_drop,Nat.add_zero]at this⊢
 exact this
include h
theorem vB.reg:Reg D:=by
 have hr:=Fb h
 refine⟨fun d hd=> ?_,fun i hi=> ?_⟩
 ·obtain⟨i,hi,rfl⟩:=List.getElem_of_mem hd
  rw[←an hi [],s.same.2 i]
  have:i<C.length:=by rw[←s.same.1];exact hi
  exact hr.1 _ (by rw[an this];exact List.getElem_mem this)
 ·rw[s.same.2,s.same.2];exact hr.2 i (by rw[←s.same.1];exact hi)
theorem vB.up:(D.getD c []).Pairwise (· < ·):=by
 rw[s.col]
 by_cases hc:c<C.length
 ·rw[an hc];exact((xD h).1 _ (List.getElem_mem hc)).2
 ·rw[vR (by omega)];exact List.Pairwise.nil
theorem vB.step(hr:fQ (D.getD c []) x<(D.getD c []).length):c<D.length∧vB C z (D.set c ((D.getD c []).set (fQ (D.getD c []) x) x)) (c+1) ((D.getD c []).getD (fQ (D.getD c []) x) 0):=by
 have hc:c<D.length:=Nat.lt_of_not_le fun hle=>by rw[vR hle]at hr;simp at hr
 refine⟨hc,⟨⟨by rw[List.length_set];exact s.same.1,fun i=> ?_⟩,?_,?_,by rw[List.length_set];exact hc⟩⟩
 ·rw[←s.same.2 i]
  by_cases e:i=c
  ·subst e;rw[gss hc,List.length_set]
  ·rw[getD_set_ne (fun h=>e h.symm)]
 ·have:=congrArg List.tail s.rest
  rw[List.tail_drop,List.tail_drop]at this
  rw[List.drop_set_of_lt (Nat.lt_succ_self _)]
  exact this
 ·rw[←s.inv,drop_cons hc [],List.drop_set_of_lt (Nat.lt_succ_self _),List.take_succ_eq_append_getElem (by rw[List.length_set];exact hc),List.take_set_of_le (Nat.le_refl _),List.getElem_set_self]
  show _=D.take c++(if fQ (D.getD c []) x<(D.getD c []).length then _ else _)
  rw[if_pos hr]
  simp only[List.append_assoc,List.singleton_append]
theorem vB.fin(hr: ¬fQ (D.getD c []) x<(D.getD c []).length):cn (Bl C z)=lq (cn D) (D.getD c []).length x∧(D.getD c []).length≤(cn D).length∧((cn D).getD (D.getD c []).length []).length=c:=by
 have e:lq D c x=Bl C z:=by
  rw[←s.inv]
  unfold lq
  by_cases hc:c=D.length
  ·rw[if_pos hc,hc,List.take_length,List.drop_length];rfl
  ·have hlt:c<D.length:=by have:=s.le;omega
   rw[if_neg hc,drop_cons hlt []]
   show _=D.take c++(if fQ (D.getD c []) x<(D.getD c []).length then _ else _)
   rw[if_neg hr,List.set_eq_take_append_cons_drop,if_pos hlt]
 have:=D4 (s.reg h) s.le x (by rw[e];exact Fb (D8 C z h))
 rw[e]at this
 exact this
end
end Go.Am.Pu
end
section
/- Plain laws: columns gathered row by row. -/
namespace Go.Am.Pu
set_option linter.unusedVariables false
section
variable {C : List (List Int)} {x : Int} {c : Nat}
end
end Go.Am.Pu
end
section
/- Plain laws: a word turned about and complemented. -/
namespace Go.Am.Pu
set_option linter.unusedVariables false
end Go.Am.Pu
end
section
/- Plain laws: evacuation is insertion of the word turned about. -/
namespace Go.Am.Pu
set_option linter.unusedVariables false
theorem Kn.perm{u v:List Int}(h:Kn u v):u.Perm v:=by
 induction h with
 |refl w=>exact .refl _
 |symm _ ih=>exact ih.symm
 |trans _ _ h1 h2=>exact h1.trans h2
 |tri a b t=>
  refine(List.Perm.append_left a ?_).append_right b
  obtain⟨x,y,z,⟨_,_,rfl,rfl⟩|⟨_,_,rfl,rfl⟩⟩:=t
  ·exact(List.Perm.swap x z []).cons y
  ·exact List.Perm.swap z x [y]
end Go.Am.Pu
end
section
/- Plain laws: evacuating a standard tableau twice. -/
namespace Go.Am.Pu
set_option linter.unusedVariables false
end Go.Am.Pu
end
section
/- Texts as lists of bytes. Plain words. -/
namespace Go.Am.Pu
open Go Go.Am
def tx(l:List UInt8):ByteArray:=⟨l.toArray⟩
theorem Ck(l:List UInt8):(tx l).size=l.length:=rfl
theorem GI(a b:List UInt8):tx a++tx b=tx (a++b):=by
 apply ByteArray.ext
 rw[ByteArray.data_append]
 show a.toArray++b.toArray=(a++b).toArray
 simp
theorem ok_eq{α:Type}{x:Option α}{v:α}(h:Ok x (· =v)):x=some v:=by
 obtain⟨y,e,hy⟩:=h
 rw[e,hy]
def dcm(n:Int):List UInt8:=Lib.decDigits n.toNat
theorem xl{n:Int}(h:n<10):dcm n= [UInt8.ofNat (48+n.toNat)]:=by
 unfold dcm
 rw[Lib.decDigits,dif_pos (by omega)]
theorem FF{n:Int}(h0:10≤n)(h:n<100):dcm n= [UInt8.ofNat (48+n.toNat/10),UInt8.ofNat (48+n.toNat % 10)]:=by
 unfold dcm
 rw[Lib.decDigits,dif_neg (by omega),Lib.decDigits,dif_pos (by omega)]
 rfl
theorem Co{n:Int}(h:n<100):(dcm n).length≤2:=by
 by_cases c:n<10
 ·rw[xl c];simp
 ·rw[FF (by omega) h];simp
theorem C8{n:Int}(h0:0≤n)(h:n<100):rB n=some (tx (dcm n)):=by
 unfold rB
 rw[if_pos ⟨h0,h⟩];rfl
theorem B9: ∀(ws:List (List UInt8)) (m:Nat),(∀w∈ws,w.length≤m)→Lib.lens ws≤ws.length*m
 | [],m,_=>by simp[Lib.lens]
 |w::r,m,h=>by
  have h1:=h w (by simp)
  have h2:=B9 r m (fun x hx=>h x (by simp[hx]))
  have e:Lib.lens (w::r)=w.length+Lib.lens r:=by simp[Lib.lens]
  rw[e,List.length_cons,Nat.succ_mul]
  omega
theorem DV(ws:List (List UInt8))(sep:List UInt8)(m:Nat)(h: ∀w∈ws,w.length≤m):(Lib.join ws sep).length≤ws.length*(m+sep.length):=by
 cases ws with
 |nil=>simp[Lib.join_nil]
 |cons w r=>
  rw[Lib.join_cons,List.length_append,Lib.joinTail_length,List.length_cons,Nat.succ_mul,Nat.mul_add]
  have h1:=h w (by simp)
  have h2:=B9 r m (fun x hx=>h x (by simp[hx]))
  have:=Nat.mul_comm sep.length r.length
  omega
theorem Db{ws:List (List UInt8)}{sep:List UInt8}(h1:ws.length≤1000)(h2: ∀w∈ws,w.length≤10000)(hs:sep.length≤10):r7 (ws.map tx) (tx sep)=some (tx (Lib.join ws sep)):=by
 unfold r7
 have e:(ws.map tx).map (fun s:ByteArray=>s.data.toList)=ws:=by
  rw[List.map_map]
  conv=>rhs;rw[←List.map_id ws]
  rfl
 have e2:(tx sep).data.toList=sep:=rfl
 simp only[e,e2]
 have hl:=DV ws sep 10000 h2
 have:ws.length*(10000+sep.length)≤1000*10010:=Nat.mul_le_mul h1 (by omega)
 rw[if_pos ⟨by rw[List.length_map];omega,by omega⟩]
 rfl
theorem sL: ∀n:Nat,Lib.repeatL [46] n=List.replicate n 46
 |0=>rfl
 |n+1=>by rw[Lib.repeatL,sL n];rfl
theorem D3{n:Int}(h0:0≤n)(h:n≤1000):wW (tx [46]) n=some (tx (List.replicate n.toNat 46)):=by
 unfold wW
 have e:(tx [46]).size=1:=rfl
 have e2:(tx [46]).data.toList= [46]:=rfl
 rw[e,e2,if_pos ⟨h0,by omega,by omega⟩,sL]
 rfl
theorem BB(ws:List (List UInt8)):Lib.join ws []=ws.flatten:=by
 cases ws with
 |nil=>rfl
 |cons w r=>
  rw[Lib.join_cons]
  unfold Lib.joinTail
  simp
def gQ(w:List Int):List UInt8:=w.flatMap dcm
theorem yQ(w:List Int):Lib.join (w.map dcm) []=gQ w:=by
 rw[BB];rfl
theorem Bv{w:List Int}(h: ∀x∈w,x<100):(gQ w).length≤w.length*2:=by
 induction w with
 |nil=>simp[gQ]
 |cons x r ih=>
  have:=Co (h x (by simp))
  have:=ih (fun y hy=>h y (by simp[hy]))
  simp only[gQ,List.flatMap_cons,List.length_append,List.length_cons]at*
  omega
def pF(t:Tab)(i:Nat):List UInt8:=List.replicate (atI t.1 i).toNat 46++gQ (t.2.getD i [])
def bg(t:Tab):List UInt8:=if eU t=true then(if t.2= []then [45]else Lib.join ((List.range t.2.length).map (pF t)) [47])else []
end Go.Am.Pu
namespace Go.Am.Pu
end Go.Am.Pu
namespace Go.Am.Pu
end Go.Am.Pu
namespace Go.Am.Pu
theorem qA{t:Tab}(h:eU t=true):dX 9 9 t.2:=by
 obtain⟨h1,h2,h3,h4⟩:=jM h
 obtain⟨b1,_,b3,_⟩:=aK h2
 have hl:(outer t).length=t.2.length:=cd t
 refine⟨by omega,fun r hr=> ?_⟩
 obtain⟨i,hi,rfl⟩:=List.getElem_of_mem hr
 have e:=eC t.1 t.2 0 i hi
 have hm:(outer t).getD i 0∈outer t:=by rw[an (show i<(outer t).length by omega) _];exact List.getElem_mem _
 have h9:=(b1 _ hm).2
 have h0:=(oK h1 (0+i)).1
 have e':(outer t).getD i 0=t.1.getD (0+i) 0+(t.2.getD i []).length:=e
 rw[an hi]at e'
 omega
theorem mf{t:Tab}(h:eU t=true){i:Nat}{x:Int}(hx:x∈t.2.getD i []):1≤x∧x≤9:=by
 obtain⟨q,hq,rfl⟩:=List.getElem_of_mem hx
 have hi:i<t.2.length:=by
  by_cases c:i<t.2.length
  ·exact c
  ·rw[List.getD_eq_getElem?_getD,List.getElem?_eq_none (by omega)]at hq;simp at hq
 have:=(jM h).2.2.2 i q hi hq
 simp only[gA,within,Bool.and_eq_true,decide_eq_true_eq]at this
 rw[an hq]at this
 exact this.1
theorem xp{t:Tab}(h:eU t=true)(i:Nat):(pF t i).length≤100:=by
 unfold pF
 rw[List.length_append,List.length_replicate]
 have h1:=dm (jM h).1 i
 have h2:=Bv (w:=t.2.getD i []) (fun x hx=>by have:=(mf h hx).2;omega)
 have h3:=(qA h).at i
 omega
end Go.Am.Pu
end
section
/- Inversions, major index, lattice words, raising: plain words. -/
namespace Go.Am.Pu
open Go Go.Am
def GB(w:List Int)(k:Nat):Nat→Nat→Int
 |0,_=>0
 |m+1,i=>(if w.getD k 0<w.getD i 0 then 1 else 0)+GB w k m (i+1)
def Gu(w:List Int):Nat→Nat→Int
 |0,_=>0
 |m+1,k=>GB w k k 0+Gu w m (k+1)
def inv(w:List Int):Int:=if isWord w=true then Gu w w.length 0 else-1
end Go.Am.Pu
namespace Go.Am.Pu
end Go.Am.Pu
end
section
/- Examples are words, and are described. Plain words. -/
namespace Go.Am.Pu
open Go Go.Am
end Go.Am.Pu
end
section
/- All fillings of a shape by numbers, in the order in which the program lists them. Plain words. -/
namespace Go.Am.Pu
def eI(m:List Int)(R:List (List Int))(i:Nat):Int:=m.getD i 0+((R.getD i []).length:Int)
def shut(m o:List Int)(k:Int)(R:List (List Int))(i:Nat):Bool:=
 decide (eI m R i=o.getD i 0)||(decide (0<i)&&(decide (m.getD (i-1) 0≤eI m R i)&&(decide (entry (m,R) ((i:Int)-1) (eI m R i)=0)||decide (entry (m,R) ((i:Int)-1) (eI m R i)=k))))
def cw(k:Int)(R:List (List Int))(i:Nat):List (List Int):=R.set i (R.getD i []++ [k])
def mJ(m o:List Int)(k:Int)(rest:List (List Int)→List Tab):Nat→Nat→Nat→List (List Int)→List Tab
 |0,_,_,R=>rest R
 |_+1,0,_,_=> []
 |l+1,q+1,i,R=>(if shut m o k R i=true then []else mJ m o k rest l (q+1) i (cw k R i))++mJ m o k rest (l+1) q (i+1) R
termination_by l q => (l, q)
def ky(m o:List Int):List Int→Int→List (List Int)→List Tab
 | [],_,R=> [(m,R)]
 |w::ws,k,R=>mJ m o k (ky m o ws (k+1)) w.toNat o.length 0 R
def mY(m o:List Int)(R:List (List Int)):Prop:=R.length=o.length∧ ∀i,i<o.length→eI m R i≤o.getD i 0
theorem je(k:Int)(R:List (List Int))(i:Nat):(cw k R i).length=R.length:=by unfold cw;rw[List.length_set]
theorem jt(k:Int)(R:List (List Int))(i j:Nat):(cw k R i).getD j []=if i=j∧j<R.length then R.getD i []++ [k]else R.getD j []:=by
 unfold cw
 simp only[List.getD_eq_getElem?_getD,List.getElem?_set]
 by_cases h:i=j
 ·subst h
  by_cases h2:i<R.length
  ·simp[h2]
  ·rw[if_pos rfl,if_neg h2,if_neg (fun h=>h2 h.2),List.getElem?_eq_none (by omega)]
 ·rw[if_neg h,if_neg (fun hh=>h hh.1)]
theorem Cc{m o:List Int}{k:Int}{R:List (List Int)}{i:Nat}(h:mY m o R)(hi:i<o.length)(hs:shut m o k R i=false):mY m o (cw k R i):=by
 refine⟨by rw[je];exact h.1,fun j hj=> ?_⟩
 have h1:=h.2 j hj
 unfold eI at*
 rw[jt]
 by_cases c:i=j∧j<R.length
 ·rw[if_pos c]
  obtain⟨rfl,c2⟩:=c
  unfold shut eI at hs
  simp only[Bool.or_eq_false_iff,decide_eq_false_iff_not]at hs
  have:=hs.1
  rw[List.length_append,List.length_singleton]
  omega
 ·rw[if_neg c];exact h1
theorem DE(k:Int){R:List (List Int)}{i:Nat}(hi:i<R.length):(cw k R i).set i (((cw k R i).getD i []).take (R.getD i []).length)=R:=by
 rw[jt,if_pos ⟨rfl,hi⟩,List.take_append_of_le_length (Nat.le_refl _),List.take_length]
 unfold cw
 rw[List.set_set,an hi,List.set_getElem_self]
theorem oD(m o:List Int)(k:Int)(rest:List (List Int)→List Tab)(q i:Nat)(R:List (List Int)):mJ m o k rest 0 q i R=rest R:=by rw[mJ]
theorem oW(m o:List Int)(k:Int)(rest:List (List Int)→List Tab)(l i:Nat)(R:List (List Int)):mJ m o k rest (l+1) 0 i R= []:=by rw[mJ]
theorem oB(m o:List Int)(k:Int)(rest:List (List Int)→List Tab)(l q i:Nat)(R:List (List Int)):
  mJ m o k rest (l+1) (q+1) i R=(if shut m o k R i=true then []else mJ m o k rest l (q+1) i (cw k R i))++mJ m o k rest (l+1) q (i+1) R:=by rw[mJ]
theorem rp{m o:List Int}{k:Int}{rest:List (List Int)→List Tab}{B:Nat}(hB: ∀R,(rest R).length≤B): ∀(l q i:Nat) (R:List (List Int)),(mJ m o k rest l q i R).length≤q^l*B
 |0,q,i,R=>by rw[oD,Nat.pow_zero,Nat.one_mul];exact hB R
 |l+1,0,i,R=>by rw[oW];simp
 |l+1,q+1,i,R=>by
  rw[oB,List.length_append]
  have h1:=rp (k:=k) hB (m:=m) (o:=o) l (q+1) i (cw k R i)
  have h2:=rp (k:=k) hB (m:=m) (o:=o) (l+1) q (i+1) R
  have h3:(if shut m o k R i=true then []else mJ m o k rest l (q+1) i (cw k R i)).length≤(q+1)^l*B:=by
   split
   ·simp
   ·exact h1
  have h4:q^(l+1)*B≤(q+1)^l*B*q:=by
   have:q^l≤(q+1)^l:=Nat.pow_le_pow_left (by omega) l
   calc q^(l+1)*B=q^l*(B*q):=by rw[Nat.pow_succ,Nat.mul_assoc,Nat.mul_comm q B]
    _≤(q+1)^l*(B*q):=Nat.mul_le_mul_right _ this
    _=(q+1)^l*B*q:=by rw[Nat.mul_assoc]
  have h5:(q+1)^(l+1)*B=(q+1)^l*B*q+(q+1)^l*B:=by
   rw[Nat.pow_succ,Nat.mul_assoc,Nat.mul_comm (q+1) B,←Nat.mul_assoc,Nat.mul_succ]
  rw[h5]
  omega
termination_by l q => (l, q)
def eY(w:List Int):Nat:=(w.map fun x=>x.toNat).sum
theorem oz(m o:List Int): ∀(ws:List Int) (k:Int) (R:List (List Int)),(ky m o ws k R).length≤o.length^eY ws
 | [],k,R=>by simp[ky,eY]
 |w::ws,k,R=>by
  have:=rp (m:=m) (o:=o) (k:=k) (fun R=>oz m o ws (k+1) R) w.toNat o.length 0 R
  have e:eY (w::ws)=w.toNat+eY ws:=by simp[eY]
  rw[ky,e,Nat.pow_add]
  exact this
end Go.Am.Pu
end
section
/- Tableaux in the order of their texts. Plain words. -/
namespace Go.Am.Pu
open Go
attribute [local instance] D.real
abbrev bl(a b:List UInt8):Bool:=Op.bytesLess a b
theorem rV: ∀a,bl a a=false
 | []=>rfl
 |x::a=>by
  show(decide (x<x)||(x==x&&bl a a))=false
  rw[rV a,Bool.and_false,Bool.or_false]
  exact decide_eq_false (UInt8.lt_irrefl x)
theorem tO{x y:UInt8}{a b:List UInt8}:bl (x::a) (y::b)=true↔x<y∨(x=y∧bl a b=true):=by
 show(decide (x<y)||(x==y&&bl a b))=true↔_
 rw[Bool.or_eq_true,Bool.and_eq_true,decide_eq_true_eq,beq_iff_eq]
theorem ru: ∀a b c,bl a b=true→bl b c=true→bl a c=true
 |_,[],_,h,_=>by simp[bl,Op.bytesLess]at h
 |_,_::_,[],_,h=>by simp[bl,Op.bytesLess]at h
 | [],_::_,_::_,_,_=>rfl
 |x::a,y::b,z::c,h1,h2=>by
  rw[tO]at*
  rcases h1 with h1|⟨rfl,h1⟩
  ·rcases h2 with h2|⟨rfl,h2⟩
   ·exact .inl (UInt8.lt_trans h1 h2)
   ·exact .inl h1
  ·rcases h2 with h2|⟨rfl,h2⟩
   ·exact .inl h2
   ·exact .inr ⟨rfl,ru a b c h1 h2⟩
theorem vg: ∀a b,bl a b=false→bl b a=false→a=b
 | [],[],_,_=>rfl
 | [],_::_,h,_=>by cases h
 |_::_,[],_,h=>by cases h
 |x::a,y::b,h1,h2=>by
  have h1': ¬(x<y∨(x=y∧bl a b=true)):=fun h=>by rw[←tO]at h;rw[h1]at h;cases h
  have h2': ¬(y<x∨(y=x∧bl b a=true)):=fun h=>by rw[←tO]at h;rw[h2]at h;cases h
  have e:x=y:=by
   refine Classical.byContradiction fun hne=> ?_
   have:y<x:=UInt8.lt_of_le_of_ne (UInt8.not_lt.1 fun h=>h1' (.inl h)) (Ne.symm hne)
   exact h2' (.inl this)
  subst e
  rw[vg a b (by cases h:bl a b with|false=>rfl|true=>exact absurd (.inr ⟨rfl,h⟩) h1') (by cases h:bl b a with|false=>rfl|true=>exact absurd (.inr ⟨rfl,h⟩) h2')]
theorem xo{a b c:List UInt8}(h1:bl a b=false)(h2:bl b c=false):bl a c=false:=by
 cases h:bl a c with
 |false=>rfl
 |true=>
  cases h3:bl b a with
  |true=>rw[ru b a c h3 h]at h2;cases h2
  |false=>
   have:=vg a b h1 h3
   subst this
   rw[h]at h2;cases h2
theorem Ft: ∀a b,Lib.compareBytes a b<0↔bl a b=true
 | [],[]=>by simp[Lib.compareBytes,bl,Op.bytesLess]
 | [],_::_=>by simp[Lib.compareBytes,bl,Op.bytesLess]
 |_::_,[]=>by simp[Lib.compareBytes,bl,Op.bytesLess]
 |x::a,y::b=>by
  rw[tO]
  unfold Lib.compareBytes
  by_cases h:x<y
  ·rw[if_pos h];simp[h]
  ·rw[if_neg h]
   by_cases h2:y<x
   ·rw[if_pos h2]
    have:x≠y:=fun e=>by subst e;exact UInt8.lt_irrefl x h2
    simp[h,this]
   ·rw[if_neg h2,Ft a b]
    have:x=y:=by
     refine Classical.byContradiction fun hne=> ?_
     exact h2 (UInt8.lt_of_le_of_ne (UInt8.not_lt.1 h) (Ne.symm hne))
    simp[h,this]
def putAt(l:List Tab)(t:Tab):Nat→Nat
 |0=>0
 |a+1=>if bl (bg t) (bg (l.getD a ([],[])))=true then putAt l t a else a+1
def yZ(l:List Tab)(t:Tab):List Tab:=l.take (putAt l t l.length)++t::l.drop (putAt l t l.length)
def pD(l:List Tab):List Tab:=l.foldl yZ []
def jV(l:List Tab):Prop:=l.Pairwise fun a b=>bl (bg b) (bg a)=false
theorem Ah(l:List Tab)(t:Tab): ∀a,putAt l t a≤a
 |0=>Nat.le_refl _
 |a+1=>by
  unfold putAt
  split
  ·have:=Ah l t a;omega
  ·omega
theorem zv(l:List Tab)(t:Tab): ∀a i,putAt l t a≤i→i<a→bl (bg t) (bg (l.getD i ([],[])))=true
 |0,i,_,h=>by omega
 |a+1,i,h1,h2=>by
  unfold putAt at h1
  split at h1
  ·next h=>
   by_cases e:i=a
   ·subst e;exact h
   ·exact zv l t a i h1 (by omega)
  ·omega
theorem zL(l:List Tab)(t:Tab): ∀a,0<putAt l t a→bl (bg t) (bg (l.getD (putAt l t a-1) ([],[])))=false
 |0,h=>by simp[putAt]at h
 |a+1,h=>by
  unfold putAt at h⊢
  split
  ·next e=>rw[if_pos e]at h;exact zL l t a h
  ·next e=>simpa using e
theorem CA(l:List Tab)(t:Tab):(yZ l t).Perm (t::l):=by
 unfold yZ
 refine List.perm_middle.trans ?_
 rw[List.take_append_drop]
theorem yU{l:List Tab}{t:Tab}(h:jV l):jV (yZ l t):=by
 unfold jV yZ
 have hlen:=Ah l t l.length
 have hg: ∀i j,i<j→j<l.length→bl (bg (l.getD j ([],[]))) (bg (l.getD i ([],[])))=false:=fun i j hij hj=>by
  have:=List.pairwise_iff_getElem.1 h i j (by omega) hj hij
  rw[an hj,an (show i<l.length by omega)]
  exact this
 rw[List.pairwise_append]
 refine⟨h.sublist (List.take_sublist _ _),?_,?_⟩
 ·rw[List.pairwise_cons]
  refine⟨fun b hb=> ?_,h.sublist (List.drop_sublist _ _)⟩
  obtain⟨i,hi,rfl⟩:=List.getElem_of_mem hb
  rw[List.length_drop]at hi
  rw[List.getElem_drop]
  have:=zv l t l.length (putAt l t l.length+i) (by omega) (by omega)
  rw[an (show putAt l t l.length+i<l.length by omega)]at this
  cases hb2:bl (bg l[putAt l t l.length+i]) (bg t)with
  |false=>rfl
  |true=>
   have:=ru _ _ _ this hb2
   rw[rV]at this;cases this
 ·intro a ha b hb
  obtain⟨i,hi,rfl⟩:=List.getElem_of_mem ha
  rw[List.length_take]at hi
  rw[List.getElem_take]
  have hat:bl (bg t) (bg (l.getD i ([],[])))=false:=by
   have h1:=zL l t l.length (by omega)
   by_cases e:i=putAt l t l.length-1
   ·rw[e];exact h1
   ·exact xo h1 (hg i _ (by omega) (by omega))
  rw[an (show i<l.length by omega)]at hat
  rcases List.mem_cons.1 hb with rfl|hb
  ·exact hat
  ·obtain⟨j,hj,rfl⟩:=List.getElem_of_mem hb
   rw[List.length_drop]at hj
   rw[List.getElem_drop]
   have:=hg i (putAt l t l.length+j) (by omega) (by omega)
   rwa [an (show putAt l t l.length+j<l.length by omega),an (show i<l.length by omega)]at this
theorem rH: ∀(xs l:List Tab),jV l→jV (xs.foldl yZ l)∧(xs.foldl yZ l).Perm (xs++l)
 | [],l,h=>⟨h,List.Perm.refl _⟩
 |t::xs,l,h=>by
  obtain⟨h1,h2⟩:=rH xs (yZ l t) (yU h)
  refine⟨h1,h2.trans ?_⟩
  have:=(CA l t).append_left xs
  exact this.trans List.perm_middle
theorem qP(l:List Tab):jV (pD l):=(rH l [] List.Pairwise.nil).1
theorem kS(l:List Tab):(pD l).Perm l:=by
 have:=(rH l [] List.Pairwise.nil).2
 rwa [List.append_nil]at this
theorem CZ(l:List Tab):(pD l).length=l.length:=(kS l).length_eq
theorem vz: ∀{l l':List Tab},l.Perm l'→jV l→jV l'→(∀a∈l,∀b∈l,bg a=bg b→a=b)→l=l'
 | [],l',hp,_,_,_=>(List.nil_perm.1 hp).symm
 |x::l,[],hp,_,_,_=>by have:=hp.length_eq;simp at this
 |x::l,y::l',hp,h1,h2,hi=>by
  have hx:x∈y::l':=hp.mem_iff.1 (by simp)
  have hy:y∈x::l:=hp.mem_iff.2 (by simp)
  have e:x=y:=by
   rcases List.mem_cons.1 hx with e|hx
   ·exact e
   rcases List.mem_cons.1 hy with e|hy
   ·exact e.symm
   refine hi x (by simp) y (by simp[hy]) (vg _ _ ?_ ?_)
   ·exact(List.pairwise_cons.1 h2).1 x hx
   ·exact(List.pairwise_cons.1 h1).1 y hy
  subst e
  rw[vz (List.Perm.cons_inv hp) (List.pairwise_cons.1 h1).2 (List.pairwise_cons.1 h2).2 fun a ha b hb=>hi a (by simp[ha]) b (by simp[hb])]
theorem GP{F:Tab→Tab→Option Int}{xs:List Tab}(hF: ∀a∈xs,∀b∈xs,F a b=some (Lib.compareBytes (bg a) (bg b)))(hi: ∀a∈xs,∀b∈xs,bg a=bg b→a=b)(hl:xs.length<4611686018427387904):D.srt F xs=some (pD xs):=by
 have hl': ∀a∈xs,∀b∈xs,lF F a b↔bl (bg a) (bg b)=true:=fun a ha b hb=>by
  unfold lF
  rw[hF a ha b hb]
  exact Ft _ _
 have hn: ∀a∈xs,∀b∈xs,¬lF F a b↔bl (bg a) (bg b)=false:=fun a ha b hb=>by
  rw[hl' a ha b hb];cases bl (bg a) (bg b)<;>simp
 have hs: ∀ys,mZ F xs ys→jV ys:=fun ys ⟨h1,h2⟩=>by
  unfold jV
  rw[List.pairwise_iff_getElem]
  intro i j hi hj hij
  exact(hn _ (h1.mem_iff.1 (List.getElem_mem hj)) _ (h1.mem_iff.1 (List.getElem_mem hi))).1 (h2 i j _ _ hij (List.getElem?_eq_getElem hi) (List.getElem?_eq_getElem hj))
 have hu: ∀zs,mZ F xs zs→zs=pD xs:=fun zs hz=>
  vz (hz.1.trans (kS xs).symm) (hs zs hz) (qP xs) fun a ha b hb=>hi a (hz.1.mem_iff.1 ha) b (hz.1.mem_iff.1 hb)
 have h0:mZ F xs (pD xs):=⟨kS xs,fun i j a b hij ha hb=>by
  obtain⟨hi',ea⟩:=List.getElem?_eq_some_iff.1 ha
  obtain⟨hj',eb⟩:=List.getElem?_eq_some_iff.1 hb
  have ha':a∈xs:=(kS xs).mem_iff.1 (ea▸List.getElem_mem hi')
  have hb':b∈xs:=(kS xs).mem_iff.1 (eb▸List.getElem_mem hj')
  refine(hn b hb' a ha').2 ?_
  have:=List.pairwise_iff_getElem.1 (qP xs) i j hi' hj' hij
  rw[ea,eb]at this
  exact this⟩
 have hok:A6 F xs:=⟨hl,fun a ha b hb=>by rw[hF a ha b hb];rfl,fun a ha=>(hn a ha a ha).2 (rV _),fun a ha b hb c hc h1 h2=>(hl' a ha c hc).2 (ru _ _ _ ((hl' a ha b hb).1 h1) ((hl' b hb c hc).1 h2)),
  fun a ha b hb c hc h1 h2=>(hn a ha c hc).2 (xo ((hn a ha b hb).1 h1) ((hn b hb c hc).1 h2)),pD xs,h0,hu⟩
 show CY F xs=_
 unfold CY
 rw[dif_pos hok]
 congr 1
 exact hu _ (Classical.choose_spec hok.2.2.2.2.2).1
end Go.Am.Pu
end
section
/- Texts tell tableaux apart; all fillings are tableaux. Plain words. -/
namespace Go.Am.Pu
open Go
theorem Fe: ∀(w w' s s':List UInt8),(47:UInt8)∉w→(47:UInt8)∉w'→(s= []∨ ∃r,s=47::r)→(s'= []∨ ∃r,s'=47::r)→w++s=w'++s'→w=w'∧s=s'
 | [],[],s,s',_,_,_,_,h=>⟨rfl,h⟩
 | [],x::w',s,s',_,h2,h3,_,h=>by
  rcases h3 with rfl|⟨r,rfl⟩
  ·cases h
  ·injection h with h _
   exact absurd (h▸List.mem_cons_self) h2
 |x::w,[],s,s',h1,_,_,h4,h=>by
  rcases h4 with rfl|⟨r,rfl⟩
  ·cases h
  ·injection h with h _
   exact absurd (h▸List.mem_cons_self) h1
 |x::w,y::w',s,s',h1,h2,h3,h4,h=>by
  injection h with ha hb
  obtain⟨e1,e2⟩:=Fe w w' s s' (fun hh=>h1 (List.mem_cons_of_mem _ hh)) (fun hh=>h2 (List.mem_cons_of_mem _ hh)) h3 h4 hb
  exact⟨by rw[ha,e1],e2⟩
theorem yh(r:List (List UInt8)):Lib.joinTail [47] r= []∨ ∃q,Lib.joinTail [47] r=47::q:=by
 cases r with
 |nil=>exact .inl rfl
 |cons w r=>exact .inr ⟨_,rfl⟩
theorem qw: ∀(l l':List (List UInt8)),l.length=l'.length→(∀w∈l,(47:UInt8)∉w)→(∀w∈l',(47:UInt8)∉w)→Lib.joinTail [47] l=Lib.joinTail [47] l'→l=l'
 | [],[],_,_,_,_=>rfl
 | [],_::_,h,_,_,_=>by simp at h
 |_::_,[],h,_,_,_=>by simp at h
 |w::l,w'::l',h,h1,h2,he=>by
  have e: ∀(w:List UInt8) l,Lib.joinTail [47] (w::l)=47::(w++Lib.joinTail [47] l):=fun w l=>rfl
  rw[e,e]at he
  injection he with _ he
  obtain⟨e1,e2⟩:=Fe w w' _ _ (h1 w (by simp)) (h2 w' (by simp)) (yh l) (yh l') he
  rw[e1,qw l l' (by simpa using h) (fun x hx=>h1 x (by simp[hx])) (fun x hx=>h2 x (by simp[hx])) e2]
theorem Fl{l l':List (List UInt8)}(h:l.length=l'.length)(h1: ∀w∈l,(47:UInt8)∉w)(h2: ∀w∈l',(47:UInt8)∉w)(he:Lib.join l [47]=Lib.join l' [47]):l=l':=by
 cases l with
 |nil=>
  cases l' with
  |nil=>rfl
  |cons _ _=>simp at h
 |cons w l=>
  cases l' with
  |nil=>simp at h
  |cons w' l'=>
   rw[Lib.join_cons,Lib.join_cons]at he
   obtain⟨e1,e2⟩:=Fe w w' _ _ (h1 w (by simp)) (h2 w' (by simp)) (yh l) (yh l') he
   rw[e1,qw l l' (by simpa using h) (fun x hx=>h1 x (by simp[hx])) (fun x hx=>h2 x (by simp[hx])) e2]
theorem nB{x:Int}(h1:1≤x)(h9:x≤9):dcm x= [UInt8.ofNat (48+x.toNat)]∧(UInt8.ofNat (48+x.toNat)).toNat=48+x.toNat:=by
 refine⟨xl (by omega),?_⟩
 rw[UInt8.toNat_ofNat']
 omega
theorem uz: ∀(w w':List Int),(∀x∈w,1≤x∧x≤9)→(∀x∈w',1≤x∧x≤9)→gQ w=gQ w'→w=w'
 | [],[],_,_,_=>rfl
 | [],y::w',_,h2,h=>by
  have e:gQ (y::w')=dcm y++gQ w':=rfl
  rw[e,(nB (h2 y (by simp)).1 (h2 y (by simp)).2).1]at h
  cases h
 |x::w,[],h1,_,h=>by
  have e:gQ (x::w)=dcm x++gQ w:=rfl
  rw[e,(nB (h1 x (by simp)).1 (h1 x (by simp)).2).1]at h
  cases h
 |x::w,y::w',h1,h2,h=>by
  have e: ∀(x:Int) w,gQ (x::w)=dcm x++gQ w:=fun _ _=>rfl
  obtain⟨a1,a2⟩:=h1 x (by simp)
  obtain⟨b1,b2⟩:=h2 y (by simp)
  obtain⟨c1,c2⟩:=nB a1 a2
  obtain⟨d1,d2⟩:=nB b1 b2
  rw[e,e,c1,d1]at h
  injection h with h3 h4
  have h5:=congrArg UInt8.toNat h3
  rw[c2,d2]at h5
  rw[uz w w' (fun z hz=>h1 z (by simp[hz])) (fun z hz=>h2 z (by simp[hz])) h4,show x=y by omega]
theorem w8: ∀(w:List Int),(∀x∈w,1≤x∧x≤9)→ ∀b∈gQ w,48≤b.toNat
 | [],_,b,hb=>by cases hb
 |x::w,h,b,hb=>by
  have e:gQ (x::w)=dcm x++gQ w:=rfl
  obtain⟨c1,c2⟩:=nB (h x (by simp)).1 (h x (by simp)).2
  rw[e,c1]at hb
  rcases List.mem_append.1 hb with hb|hb
  ·simp only[List.mem_singleton]at hb
   subst hb
   omega
  ·exact w8 w (fun z hz=>h z (by simp[hz])) b hb
theorem z6{t:Tab}(h:eU t=true)(i:Nat):(47:UInt8)∉pF t i:=by
 intro hb
 unfold pF at hb
 rcases List.mem_append.1 hb with hb|hb
 ·have:=(List.mem_replicate.1 hb).2
  revert this;decide
 ·have:=w8 _ (fun x hx=>mf h hx) _ hb
  revert this;decide
theorem Ek{a b:Tab}(ha:eU a=true)(hb:eU b=true)(h1:a.1=b.1)(h2:a.2.length=b.2.length)(h:bg a=bg b):a=b:=by
 unfold bg at h
 rw[if_pos ha,if_pos hb]at h
 by_cases e:a.2= []
 ·have e':b.2= []:=List.eq_nil_of_length_eq_zero (by rw[←h2,e];rfl)
  exact Prod.ext h1 (by rw[e,e'])
 ·have e':b.2≠ []:=fun e'=>e (List.eq_nil_of_length_eq_zero (by rw[h2,e'];rfl))
  rw[if_neg e,if_neg e']at h
  have hj:=Fl (by simp[h2]) (fun w hw=>by obtain⟨i,_,rfl⟩:=List.mem_map.1 hw;exact z6 ha i) (fun w hw=>by obtain⟨i,_,rfl⟩:=List.mem_map.1 hw;exact z6 hb i) h
  refine Prod.ext h1 (List.ext_getElem h2 fun i hi hi'=> ?_)
  have hr:pF a i=pF b i:=by
   have:=congrArg (fun l=>l[i]?) hj
   simpa[hi,hi',h2]using this
  unfold pF at hr
  rw[h1]at hr
  have hw:=List.append_cancel_left hr
  rw[an hi,an hi']at hw
  exact uz _ _ (fun x hx=>mf (i:=i) ha (by rw[an hi];exact hx)) (fun x hx=>mf (i:=i) hb (by rw[an hi'];exact hx)) hw
end Go.Am.Pu
end
section
/- All fillings are tableaux. Plain words. -/
namespace Go.Am.Pu
open Go
theorem pK{t:Tab}{i q:Nat}:gA t i q=true↔(1≤cel t.2 i q∧cel t.2 i q≤9)∧(q=0∨cel t.2 i (q-1)≤cel t.2 i q)∧(i=0∨entry t ((i:Int)-1) (t.1.getD i 0+q)<cel t.2 i q):=by
 unfold gA within cel
 simp only[Bool.and_eq_true,Bool.or_eq_true,decide_eq_true_eq]
structure kx (m o : List Int) (k : Int) (R : List (List Int)) : Prop where
  ok : mY m o R
  dec : ∀ i, i + 1 < o.length → eI m R (i + 1) ≤ eI m R i
  cell : ∀ i q, i < R.length → q < (R.getD i []).length → gA (m, R) i q = true
  le : ∀ i, ∀ x ∈ R.getD i [], x ≤ k
theorem kx.mono{m o:List Int}{k k':Int}{R:List (List Int)}(h:kx m o k R)(hk:k≤k'):kx m o k' R:=⟨h.ok,h.dec,h.cell,fun i x hx=>Int.le_trans (h.le i x hx) hk⟩
theorem uN(m:List Int)(k:Int){R:List (List Int)}{i:Nat}(hi:i<R.length)(j:Nat):eI m (cw k R i) j=eI m R j+(if i=j then 1 else 0):=by
 unfold eI
 rw[jt]
 by_cases c:i=j
 ·subst c
  rw[if_pos ⟨rfl,hi⟩,if_pos rfl,List.length_append,List.length_singleton]
  omega
 ·rw[if_neg (fun h=>c h.1),if_neg c,Int.add_zero]
theorem qY(k:Int){R:List (List Int)}{i:Nat}(hi:i<R.length)(a q:Nat):cel (cw k R i) a q=if i=a∧q=(R.getD i []).length then k else cel R a q:=by
 unfold cel
 rw[jt]
 by_cases c:i=a
 ·subst c
  rw[if_pos ⟨rfl,hi⟩]
  by_cases c2:q=(R.getD i []).length
  ·rw[if_pos ⟨rfl,c2⟩,c2,List.getD_eq_getElem?_getD,List.getElem?_append_right (Nat.le_refl _),Nat.sub_self]
   rfl
  ·rw[if_neg (fun h=>c2 h.2)]
   simp only[List.getD_eq_getElem?_getD]
   rcases Nat.lt_or_ge q (R.getD i []).length with h|h
   ·rw[List.getD_eq_getElem?_getD]at h
    rw[List.getElem?_append_left h]
   ·rw[List.getD_eq_getElem?_getD]at h c2
    rw[List.getElem?_append_right h,List.getElem?_eq_none h,List.getElem?_eq_none (by simp;omega)]
 ·rw[if_neg (fun h=>c h.1),if_neg (fun h=>c h.1)]
theorem vh(m:List Int)(k:Int){R:List (List Int)}{i:Nat}(hi:i<R.length)(a:Nat){c:Int}(hc:i=a→c<eI m R i):entry (m,cw k R i) a c=entry (m,R) a c:=by
 by_cases ha:a<R.length
 ·rw[iU (t:=(m,cw k R i)) (by rw[je];exact ha),iU (t:=(m,R)) ha]
  show atI ((cw k R i).getD a []) (c-m.getD a 0)=atI (R.getD a []) (c-m.getD a 0)
  rw[jt]
  by_cases e:i=a
  ·subst e
   have:=hc rfl
   unfold eI at this
   rw[if_pos ⟨rfl,hi⟩]
   unfold atI
   by_cases h0:c-m.getD i 0<0
   ·rw[if_pos h0,if_pos h0]
   ·rw[if_neg h0,if_neg h0,List.getD_eq_getElem?_getD,List.getElem?_append_left (by omega),←List.getD_eq_getElem?_getD]
  ·rw[if_neg (fun h=>e h.1)]
 ·unfold entry
  have h1:((cw k R i).length:Int)≤a:=by rw[je];omega
  have h2:(R.length:Int)≤a:=by omega
  rw[if_neg (show¬((a:Int)<0) by omega),if_pos h1,if_neg (show¬((a:Int)<0) by omega),if_pos h2]
theorem uB{m o:List Int}{k:Int}{R:List (List Int)}{i:Nat}(h:shut m o k R i=false):eI m R i≠o.getD i 0∧(i=0∨eI m R i<m.getD (i-1) 0∨(entry (m,R) ((i:Int)-1) (eI m R i)≠0∧entry (m,R) ((i:Int)-1) (eI m R i)≠k)):=by
 unfold shut at h
 simp only[Bool.or_eq_false_iff,decide_eq_false_iff_not,Bool.and_eq_false_iff]at h
 refine⟨h.1,?_⟩
 rcases h.2 with h|h|h
 ·exact .inl (by omega)
 ·exact .inr (.inl (by omega))
 ·exact .inr (.inr h)
theorem kx.push{m o:List Int}{k:Int}{R:List (List Int)}{i:Nat}(h:kx m o k R)(k1:1≤k)(k9:k≤9)(hi:i<o.length)(hs:shut m o k R i=false):kx m o k (cw k R i):=by
 have hlen:=h.ok.1
 have hiR:i<R.length:=by omega
 obtain⟨s1,s2⟩:=uB hs
 have hab: ∀a:Nat,i=a+1→eI m R i+1≤eI m R a∧entry (m,R) (a:Int) (eI m R i)<k:=fun a ha=>by
  subst ha
  have e:(((a+1:Nat):Int)-1)=(a:Int):=by omega
  have e2:a+1-1=a:=rfl
  rw[e,e2]at s2
  have hent:=iU (t:=(m,R)) (r:=a) (by show a<R.length;omega) (eI m R (a+1))
  have hent':entry (m,R) (a:Int) (eI m R (a+1))=atI (R.getD a []) (eI m R (a+1)-m.getD a 0):=hent
  have hext:eI m R a=m.getD a 0+((R.getD a []).length:Int):=rfl
  rcases s2 with s2|s2|s2
  ·omega
  ·refine⟨by omega,?_⟩
   rw[hent',qe (by omega)]
   omega
  ·obtain⟨s2,s3⟩:=s2
   rw[hent']at s2 s3⊢
   have hin:0≤eI m R (a+1)-m.getD a 0∧eI m R (a+1)-m.getD a 0<(R.getD a []).length:=by
    refine⟨?_,?_⟩
    ·refine Int.not_lt.1 fun hh=>s2 (qe hh)
    ·refine Int.not_le.1 fun hh=>s2 (Bs hh)
   refine⟨by omega,?_⟩
   have hm:atI (R.getD a []) (eI m R (a+1)-m.getD a 0)∈R.getD a []:=by
    unfold atI
    rw[if_neg (by omega),an (show(eI m R (a+1)-m.getD a 0).toNat<(R.getD a []).length by omega)]
    exact List.getElem_mem _
   have:=h.le a _ hm
   omega
 refine⟨Cc h.ok hi hs,fun j hj=> ?_,fun a q ha hq=> ?_,fun a x hx=> ?_⟩
 ·rw[uN m k hiR,uN m k hiR]
  have h1:=h.dec j hj
  by_cases c1:i=j+1
  ·have:=(hab j c1).1
   rw[if_pos c1,if_neg (by omega),←c1]
   omega
  ·rw[if_neg c1]
   split<;>omega
 ·rw[je]at ha
  rw[pK]
  show(1≤cel (cw k R i) a q∧cel (cw k R i) a q≤9)∧(q=0∨cel (cw k R i) a (q-1)≤cel (cw k R i) a q)∧(a=0∨entry (m,cw k R i) ((a:Int)-1) (m.getD a 0+q)<cel (cw k R i) a q)
  rw[jt]at hq
  by_cases c:i=a∧q=(R.getD i []).length
  ·obtain⟨rfl,c2⟩:=c
   have e1:cel (cw k R i) i q=k:=by rw[qY k hiR,if_pos ⟨rfl,c2⟩]
   rw[e1]
   refine⟨⟨k1,k9⟩,?_,?_⟩
   ·by_cases q0:q=0
    ·exact .inl q0
    ·right
     rw[qY k hiR,if_neg (by omega)]
     refine h.le i _ ?_
     unfold cel
     rw[an (show q-1<(R.getD i []).length by omega)]
     exact List.getElem_mem _
   ·cases i with
    |zero=>exact .inl rfl
    |succ a=>
     right
     have e:(((a+1:Nat):Int)-1)=(a:Int):=by omega
     have ec:m.getD (a+1) 0+(q:Int)=eI m R (a+1):=by rw[c2];rfl
     rw[e,ec,vh m k hiR a (fun hh=>by omega)]
     exact(hab a rfl).2
  ·have hq':q<(R.getD a []).length:=by
    by_cases c1:i=a
    ·subst c1
     rw[if_pos ⟨rfl,hiR⟩,List.length_append,List.length_singleton]at hq
     have:q≠(R.getD i []).length:=fun e=>c ⟨rfl,e⟩
     omega
    ·rwa [if_neg (fun hh=>c1 hh.1)]at hq
   have hc:=pK.1 (h.cell a q ha hq')
   have hc:(1≤cel R a q∧cel R a q≤9)∧(q=0∨cel R a (q-1)≤cel R a q)∧(a=0∨entry (m,R) ((a:Int)-1) (m.getD a 0+q)<cel R a q):=hc
   have e1:cel (cw k R i) a q=cel R a q:=by rw[qY k hiR,if_neg c]
   have e2:cel (cw k R i) a (q-1)=cel R a (q-1):=by
    rw[qY k hiR,if_neg]
    rintro⟨rfl,hh⟩
    omega
   rw[e1,e2]
   refine⟨hc.1,hc.2.1,?_⟩
   cases a with
   |zero=>exact .inl rfl
   |succ a=>
    right
    have e:(((a+1:Nat):Int)-1)=(a:Int):=by omega
    have h3:=hc.2.2
    rw[e]at h3⊢
    rw[vh m k hiR a (fun hh=> ?_)]
    ·rcases h3 with h3|h3
     ·omega
     ·exact h3
    ·subst hh
     have h4:=h.dec i (by omega)
     have h5:eI m R (i+1)=m.getD (i+1) 0+((R.getD (i+1) []).length:Int):=rfl
     omega
 ·rw[jt]at hx
  split at hx
  ·rcases List.mem_append.1 hx with hx|hx
   ·exact h.le i x hx
   ·simp only[List.mem_singleton]at hx;omega
  ·exact h.le a x hx
theorem zS(k:Int): ∀{R:List (List Int)} {i:Nat},i<R.length→(cw k R i).flatten.length=R.flatten.length+1
 | [],i,h=>by simp at h
 |r::R,0,_=>by simp[cw];omega
 |r::R,i+1,h=>by
  have:=zS k (R:=R) (i:=i) (by simpa using h)
  have e:cw k (r::R) (i+1)=r::cw k R i:=by simp[cw]
  rw[e,List.flatten_cons,List.length_append,this,List.flatten_cons,List.length_append]
  omega
theorem vE{m o:List Int}{k:Int}{rest:List (List Int)→List Tab}(k1:1≤k)(k9:k≤9){Q:List (List Int)→Tab→Prop}{t:Tab}: ∀(l q i:Nat) (R:List (List Int)),i+q=o.length→kx m o k R→t∈mJ m o k rest l q i R→ ∃R',kx m o k R'∧R'.flatten.length=R.flatten.length+l∧t∈rest R'
 |0,q,i,R,_,hR,ht=>by rw[oD]at ht;exact⟨R,hR,rfl,ht⟩
 |l+1,0,i,R,_,_,ht=>by rw[oW]at ht;cases ht
 |l+1,q+1,i,R,hi,hR,ht=>by
  rw[oB]at ht
  rcases List.mem_append.1 ht with ht|ht
  ·split at ht
   ·cases ht
   ·next hs=>
    obtain⟨R',h1,h2,h3⟩:=vE k1 k9 (Q:=Q) l (q+1) i (cw k R i) hi (hR.push k1 k9 (by omega) (by simpa using hs)) ht
    exact⟨R',h1,by rw[h2,zS k (by have:=hR.ok.1;omega)];omega,h3⟩
  ·exact vE k1 k9 (Q:=Q) (l+1) q (i+1) R (by omega) hR ht
termination_by l q => (l, q)
theorem wI{m o:List Int}{t:Tab}: ∀(ws:List Int) (k:Int) (R:List (List Int)),1≤k→k+ws.length≤10→kx m o k R→t∈ky m o ws k R→ ∃R',t=(m,R')∧kx m o (k+ws.length) R'∧R'.flatten.length=R.flatten.length+eY ws
 | [],k,R,_,_,hR,ht=>by
  rw[ky,List.mem_singleton]at ht
  exact⟨R,ht,by simpa using hR,by simp[eY]⟩
 |w::ws,k,R,k1,k9,hR,ht=>by
  rw[List.length_cons]at k9
  rw[ky]at ht
  obtain⟨R1,h1,h2,h3⟩:=vE (Q:=fun _ _=>True) k1 (by omega) w.toNat o.length 0 R (by omega) hR ht
  obtain⟨R2,e,g1,g2⟩:=wI ws (k+1) R1 (by omega) (by omega) (h1.mono (by omega)) h3
  refine⟨R2,e,?_,?_⟩
  ·rw[List.length_cons]
   have e:k+1+(ws.length:Int)=k+((ws.length+1:Nat):Int):=by omega
   rw[←e];exact g1
  ·rw[g2,h2]
   simp[eY];omega
theorem uW(m:List Int): ∀(R:List (List Int)) (i:Nat),m.length≤i+R.length→aP (e9 m i R)=aP (m.drop i)+(R.flatten.length:Int)
 | [],i,h=>by
  rw[List.drop_of_length_le (by simpa using h)]
  simp[e9,aP]
 |r::R,i,h=>by
  rw[List.length_cons]at h
  rw[e9,aP,uW m R (i+1) (by omega),List.flatten_cons,List.length_append]
  by_cases hi:i<m.length
  ·rw[drop_cons hi 0,aP]
   omega
  ·rw[aZ (by omega),List.drop_of_length_le (show m.length≤i by omega),List.drop_of_length_le (show m.length≤i+1 by omega)]
   simp[aP]
theorem xu: ∀(a b:List Int),a.length=b.length→(∀i,i<a.length→a.getD i 0≤b.getD i 0)→aP a=aP b→a=b
 | [],[],_,_,_=>rfl
 | [],_::_,h,_,_=>by simp at h
 |_::_,[],h,_,_=>by simp at h
 |x::a,y::b,h,hl,hs=>by
  have hle: ∀(a b:List Int),a.length=b.length→(∀i,i<a.length→a.getD i 0≤b.getD i 0)→aP a≤aP b:=by
   intro a
   induction a with
   |nil=>intro b h _;cases b with
    |nil=>exact Int.le_refl _
    |cons _ _=>simp at h
   |cons x a ih=>intro b h hl;cases b with
    |nil=>simp at h
    |cons y b=>
     have h0:=hl 0 (by simp)
     have:=ih b (by simpa using h) (fun i hi=>by have:=hl (i+1) (by simpa using hi);simpa using this)
     simp only[List.getD_cons_zero]at h0
     simp only[aP];omega
  have h0:=hl 0 (by simp)
  simp only[List.getD_cons_zero]at h0
  have ht: ∀i,i<a.length→a.getD i 0≤b.getD i 0:=fun i hi=>by have:=hl (i+1) (by simpa using hi);simpa using this
  have:=hle a b (by simpa using h) ht
  simp only[aP]at hs
  rw[show x=y by omega,xu a b (by simpa using h) ht (by omega)]
theorem eu{m o:List Int}(h:aM m o=true):aQ m=true∧aQ o=true∧m.length≤o.length∧ ∀i,i<m.length→m.getD i 0≤o.getD i 0:=by
 unfold aM at h
 simp only[Bool.and_eq_true,decide_eq_true_eq]at h
 obtain⟨h1,h2,h3,h4⟩:=h
 exact⟨h1,h2,h3,fun i hi=>by rw[bW]at h4;simpa using h4 i hi⟩
theorem kx.outer{m o:List Int}{k:Int}{R:List (List Int)}(h:kx m o k R)(hi:aM m o=true)(hs:(R.flatten.length:Int)=aP o-aP m):Pu.outer (m,R)=o:=by
 obtain⟨h1,h2,h3,h4⟩:=eu hi
 have hl:=h.ok.1
 have e:Pu.outer (m,R)=e9 m 0 R:=rfl
 refine xu _ _ (by rw[e,lJ];exact hl) (fun i hi=> ?_) ?_
 ·rw[e,lJ]at hi
  rw[e,eC m R 0 i hi,Nat.zero_add]
  exact h.ok.2 i (by omega)
 ·rw[e,uW m R 0 (by omega),List.drop_zero]
  omega
theorem kx.tab{m o:List Int}{k:Int}{R:List (List Int)}(h:kx m o k R)(hi:aM m o=true)(hs:(R.flatten.length:Int)=aP o-aP m):eU (m,R)=true:=by
 obtain⟨h1,h2,h3,h4⟩:=eu hi
 have ho:=h.outer hi hs
 unfold eU eP
 rw[ho]
 have e1:aQ (m,R).1=true:=h1
 have e2:decide ((m,R).1.length≤(m,R).2.length)=true:=decide_eq_true (by show m.length≤R.length;have:=h.ok.1;omega)
 have e3:aM (m,R).1 o=true:=hi
 rw[e1,e2,e3]
 simp only[Bool.true_and]
 rw[bW]
 intro i hi
 rw[bW]
 intro q hq
 exact h.cell i q hi hq
theorem mL(n i:Nat):(List.replicate n ([]:List Int)).getD i []= []:=by
 rw[List.getD_eq_getElem?_getD,List.getElem?_replicate]
 split<;>rfl
theorem E3{m o:List Int}(hi':aM m o=true)(k:Int):kx m o k (List.replicate o.length []):=by
 obtain⟨h1,h2,h3,h4⟩:=eu hi'
 refine⟨⟨by simp,fun i hi=> ?_⟩,fun i hi=> ?_,fun i q _ hq=> ?_,fun i x hx=> ?_⟩
 ·unfold eI
  rw[mL]
  have:=oY hi' i
  simpa using this
 ·unfold eI
  rw[mL,mL]
  have:=gd h1 i
  simpa using this
 ·rw[mL]at hq;simp at hq
 ·rw[mL]at hx;cases hx
def nA(m o ws:List Int):List Tab:=ky m o ws 1 (List.replicate o.length [])
theorem rA{m o ws:List Int}(hi:aM m o=true)(hw:ws.length≤9)(hs:(eY ws:Int)=aP o-aP m){t:Tab}(ht:t∈nA m o ws):t.1=m∧t.2.length=o.length∧eU t=true∧outer t=o:=by
 obtain⟨R,rfl,h1,h2⟩:=wI ws 1 _ (by omega) (by omega) (E3 hi 1) ht
 have e:(List.replicate o.length ([]:List Int)).flatten.length=0:=by simp
 rw[e,Nat.zero_add]at h2
 exact⟨rfl,h1.ok.1,h1.tab hi (by rw[h2];exact hs),h1.outer hi (by rw[h2];exact hs)⟩
theorem Dz{m o ws:List Int}(hi:aM m o=true)(hw:ws.length≤9)(hs:(eY ws:Int)=aP o-aP m): ∀a∈nA m o ws,∀b∈nA m o ws,bg a=bg b→a=b:=fun a ha b hb h=>by
 obtain⟨a1,a2,a3,_⟩:=rA hi hw hs ha
 obtain⟨b1,b2,b3,_⟩:=rA hi hw hs hb
 exact Ek a3 b3 (a1.trans b1.symm) (a2.trans b2.symm) h
end Go.Am.Pu
namespace Go.Am.Pu
theorem so: ∀{ws:List Int},(∀x∈ws,0≤x)→(eY ws:Int)=aP ws
 | [],_=>rfl
 |w::ws,h=>by
  have e:eY (w::ws)=w.toNat+eY ws:=by simp[eY]
  rw[e,aP,Int.natCast_add,so fun x hx=>h x (by simp[hx])]
  have:=h w (by simp)
  omega
theorem j9{m o:List Int}(hi:aM m o=true):0≤aP o-aP m∧aP o-aP m≤9∧o.length≤9:=by
 obtain⟨i1,i2,i3,i4⟩:=eu hi
 have b1:=aK i1
 have b2:=aK i2
 have n2:=gG m fun x hx=>by have:=b1.1 x hx;omega
 refine⟨?_,by omega,b2.2.2.1⟩
 have hle: ∀(m o:List Int),m.length≤o.length→(∀x∈o,0≤x)→(∀i,i<m.length→m.getD i 0≤o.getD i 0)→aP m≤aP o:=by
  intro m
  induction m with
  |nil=>intro o _ h _;exact gG o h
  |cons x m ih=>intro o hl h hi;cases o with
   |nil=>simp at hl
   |cons y o=>
    have h0:=hi 0 (by simp)
    have:=ih o (by simpa using hl) (fun z hz=>h z (by simp[hz])) (fun i hi'=>by have:=hi (i+1) (by simpa using hi');simpa using this)
    simp only[List.getD_cons_zero]at h0
    simp only[aP];omega
 have:=hle m o i3 (fun x hx=>by have:=b2.1 x hx;omega) i4
 omega
theorem xn{m o ws:List Int}(hi:aM m o=true)(hw: ∀w∈ws,0≤w∧w≤9)(hs:aP ws=aP o-aP m):o.length^eY ws≤1099511627776:=by
 have hd:=j9 hi
 have hn:=so (ws:=ws) fun x hx=>(hw x hx).1
 have h1:o.length^eY ws≤9^eY ws:=Nat.pow_le_pow_left hd.2.2 _
 have h2:9^eY ws≤9^9:=Nat.pow_le_pow_right (by omega) (by omega)
 have h3:9^9≤1099511627776:=by decide
 exact Nat.le_trans h1 (Nat.le_trans h2 h3)
theorem xg{m o ws:List Int}(hi:aM m o=true)(hw: ∀w∈ws,0≤w∧w≤9)(hs:aP ws=aP o-aP m):(nA m o ws).length≤1099511627776:=
 Nat.le_trans (oz m o ws 1 _) (xn hi hw hs)
theorem zq{m o ws:List Int}(hi:aM m o=true)(hw:ws.length≤9)(hs:(eY ws:Int)=aP o-aP m){t:Tab}(ht:t∈nA m o ws):xh t:=by
 obtain⟨a1,a2,a3,_⟩:=rA hi hw hs ht
 have h:=CG a3
 exact⟨by omega,by have:=h.2.1;omega,fun x hx=>by have:=h.2.2 x hx;omega⟩
theorem wK: ∀n:Nat,aP (List.replicate n 1)=n
 |0=>rfl
 |n+1=>by rw[List.replicate_succ,aP,wK n];omega
end Go.Am.Pu
end
section
/- Chains of partitions and fillings by single numbers. Plain words. -/
namespace Go.Am.Pu
open Go
theorem GR{l:List Int}{z:Int}(h0:0≤z)(h1:z<l.length):atI l z∈l:=by
 unfold atI
 rw[if_neg (by omega),an (show z.toNat<l.length by omega)]
 exact List.getElem_mem _
theorem Ga{m o:List Int}{k:Int}{R:List (List Int)}{i:Nat}{A:List Int}{c:Nat}(hR:i≤R.length)(hrow:0<i→R.getD (i-1) []=A++List.replicate c k)(hA: ∀x∈A,1≤x∧x<k)(hk:1≤k):
  shut m o k R i=false↔eI m R i≠o.getD i 0∧(i=0∨eI m R i<m.getD (i-1) 0+A.length):=by
 have key:shut m o k R i=false↔eI m R i≠o.getD i 0∧(i=0∨eI m R i<m.getD (i-1) 0∨(entry (m,R) ((i:Int)-1) (eI m R i)≠0∧entry (m,R) ((i:Int)-1) (eI m R i)≠k)):=by
  refine⟨uB,fun h=> ?_⟩
  unfold shut
  simp only[Bool.or_eq_false_iff,decide_eq_false_iff_not,Bool.and_eq_false_iff]
  refine⟨h.1,?_⟩
  rcases h.2 with h|h|h
  ·exact .inl (by omega)
  ·exact .inr (.inl (by omega))
  ·exact .inr (.inr h)
 rw[key]
 by_cases h0:i=0
 ·simp[h0]
 ·obtain⟨a,rfl⟩: ∃a,i=a+1:=⟨i-1,by omega⟩
  have e:(((a+1:Nat):Int)-1)=(a:Int):=by omega
  have e2:a+1-1=a:=rfl
  have hent:entry (m,R) (a:Int) (eI m R (a+1))=atI (R.getD a []) (eI m R (a+1)-m.getD a 0):=iU (t:=(m,R)) (r:=a) (by show a<R.length;omega) _
  rw[e,e2,hent]
  have hr:=hrow (by omega)
  rw[e2]at hr
  rw[hr]
  generalize eI m R (a+1)=x
  refine and_congr_right fun _=>⟨fun h=> ?_,fun h=> ?_⟩
  ·rcases h with h|h|⟨h1,h2⟩
   ·exact .inl h
   ·exact .inr (by omega)
   ·right
    refine Int.not_le.1 fun hle=> ?_
    have hz:0≤x-m.getD a 0:=by omega
    rcases Int.lt_or_le (x-m.getD a 0) ((A++List.replicate c k).length:Int)with hlt|hge
    ·refine h2 ?_
     unfold atI
     rw[if_neg (by omega),List.getD_eq_getElem?_getD,List.getElem?_append_right (by omega),List.getElem?_replicate]
     rw[List.length_append,List.length_replicate]at hlt
     rw[if_pos (by omega)]
     rfl
    ·exact h1 (Bs hge)
  ·rcases h with h|h
   ·exact .inl h
   ·right
    by_cases hm:x<m.getD a 0
    ·exact .inl hm
    ·right
     have e3:atI (A++List.replicate c k) (x-m.getD a 0)=atI A (x-m.getD a 0):=by
      unfold atI
      rw[if_neg (by omega),if_neg (by omega),List.getD_eq_getElem?_getD,List.getElem?_append_left (by omega),←List.getD_eq_getElem?_getD]
     rw[e3]
     have:=hA _ (GR (l:=A) (z:=x-m.getD a 0) (by omega) (by omega))
     exact⟨by omega,by omega⟩
theorem z8(m o:List Int)(k:Int)(rest:List (List Int)→List Tab): ∀(q i:Nat) (R:List (List Int)),mJ m o k rest 1 q i R=(List.range' i q).flatMap fun j=>if shut m o k R j=true then []else rest (cw k R j)
 |0,i,R=>by rw[oW];rfl
 |q+1,i,R=>by
  rw[oB,z8 m o k rest q (i+1) R,List.range'_succ,List.flatMap_cons,oD]
def fF(o:List Int):Nat→List (List Int)→List (List (List Int))
 |0,c=> [c]
 |d+1,c=>(List.range ((bP c).length+1)).flatMap fun r=>if(b8 (bP c) (r:Nat)).2=true∧aM (b8 (bP c) (r:Nat)).1 o=true then fF o d (c++ [(b8 (bP c) (r:Nat)).1])else []
theorem mj{α β:Type}(f:α→List β)(B:Nat): ∀l:List α,(∀x∈l,(f x).length≤B)→(l.flatMap f).length≤l.length*B
 | [],_=>by simp
 |x::l,h=>by
  rw[List.flatMap_cons,List.length_append,List.length_cons,Nat.succ_mul]
  have:=mj f B l fun y hy=>h y (by simp[hy])
  have:=h x (by simp)
  omega
theorem sW(o:List Int): ∀(d:Nat) (c:List (List Int)),aQ (bP c)=true→(fF o d c).length≤10^d
 |0,c,_=>by simp[fF]
 |d+1,c,hc=>by
  have h9:=(aK hc).2.2.1
  rw[fF]
  have:=mj (fun r:Nat=>if(b8 (bP c) (r:Nat)).2=true∧aM (b8 (bP c) (r:Nat)).1 o=true then fF o d (c++ [(b8 (bP c) (r:Nat)).1])else []) (10^d) (List.range ((bP c).length+1)) (fun r _=>by
   split
   ·next h=>
    refine sW o d _ ?_
    rw[kL]
    exact(fW h.2).1
   ·simp)
  refine Nat.le_trans this ?_
  rw[List.length_range,Nat.pow_succ,Nat.mul_comm]
  exact Nat.mul_le_mul_left _ (by omega)
def CL(c:List (List Int))(r:Nat):List Int:=((List.range' 1 (c.length-1)).filter fun k=>decide ((c.getD (k-1) []).getD r 0<(c.getD k []).getD r 0)).map fun k:Nat=>(k:Int)
def CS(c:List (List Int)):Tab:=(c.getD 0 [],(List.range (bP c).length).map (CL c))
theorem Ej{c:List (List Int)}(hc:1≤c.length)(q:List Int)(r:Nat):CL (c++ [q]) r=CL c r++(if(bP c).getD r 0<q.getD r 0 then [(c.length:Int)]else []):=by
 unfold CL
 have hg: ∀k,k<c.length→(c++ [q]).getD k []=c.getD k []:=fun k hk=>by
  rw[List.getD_eq_getElem?_getD,List.getElem?_append_left hk,←List.getD_eq_getElem?_getD]
 have hq:(c++ [q]).getD c.length []=q:=by
  rw[List.getD_eq_getElem?_getD,List.getElem?_append_right (Nat.le_refl _),Nat.sub_self];rfl
 have e:(c++ [q]).length-1=(c.length-1)+1:=by rw[List.length_append,List.length_singleton];omega
 rw[e,List.range'_concat,List.filter_append,List.map_append]
 congr 1
 ·congr 1
  apply List.filter_congr
  intro k hk
  have:=List.mem_range'_1.1 hk
  rw[hg k (by omega),hg (k-1) (by omega)]
 ·have e2:1+1*(c.length-1)=c.length:=by omega
  rw[e2]
  have e3:(c++ [q]).getD (c.length-1) []=bP c:=hg _ (by omega)
  by_cases h:(bP c).getD r 0<q.getD r 0
  ·rw[if_pos h,List.filter_cons_of_pos (by rw[e3,hq];exact decide_eq_true h)]
   rfl
  ·rw[if_neg h,List.filter_cons_of_neg (by rw[e3,hq];simpa using h)]
   rfl
theorem CE{p o:List Int}(h:aM p o=true)(hs:aP o=aP p):p=o:=by
 obtain⟨i1,i2,i3,i4⟩:=eu h
 have hle:=oY h
 have hge: ∀i,o.getD i 0≤p.getD i 0:=fun i=>Int.not_lt.1 fun hlt=>by
  have:=(uO hle).2 i hlt
  omega
 have hl:p.length=o.length:=by
  refine Nat.le_antisymm i3 (Nat.le_of_not_lt fun hlt=> ?_)
  have h1:=hge p.length
  rw[aZ (Nat.le_refl _),an hlt]at h1
  have:=(aK i2).1 _ (List.getElem_mem hlt)
  omega
 refine List.ext_getElem hl fun i h1 h2=> ?_
 have a:=hle i
 have b:=hge i
 rw[an h1,an h2]at a b
 omega
structure Tog (m o : List Int) (c : List (List Int)) (R : List (List Int)) : Prop where
  pos : 1 ≤ c.length
  inn : aM (bP c) o = true
  row : R = (List.range o.length).map (CL c)
  fst : c.getD 0 [] = m
  fill : kx m o ((c.length : Int) - 1) R
  ext : ∀ i, i < o.length → eI m R i = (bP c).getD i 0
theorem Tog.shut{m o:List Int}{c:List (List Int)}{R:List (List Int)}(h:Tog m o c R){i:Nat}(hi:i<o.length):Pu.shut m o c.length R i=false↔(bP c).getD i 0≠o.getD i 0∧(i=0∨(bP c).getD i 0<(bP c).getD (i-1) 0):=by
 have hl:=h.fill.ok.1
 rw[Ga (A:=R.getD (i-1) []) (c:=0) (by omega) (fun _=>by simp) (fun x hx=> ?_) (by have:=h.pos;omega),h.ext i hi]
 ·refine and_congr_right fun _=> ?_
  by_cases h0:i=0
  ·simp[h0]
  ·rw[←h.ext (i-1) (by omega)]
   rfl
 ·have h1:=h.fill.le (i-1) x hx
  obtain⟨q,hq,rfl⟩:=List.getElem_of_mem hx
  have hr:i-1<R.length:=by omega
  have h2:=(pK.1 (h.fill.cell (i-1) q hr hq)).1.1
  unfold cel at h2
  have h3:(m,R).2=R:=rfl
  rw[h3,an hq]at h2
  exact⟨h2,by omega⟩
theorem Tog.add{m o:List Int}{c:List (List Int)}{R:List (List Int)}(h:Tog m o c R)(h9:c.length≤9){i:Nat}(hi:i<o.length)(hs:aP (bP c)<aP o)(hsh:Pu.shut m o c.length R i=false):
  ∃q,b8 (bP c) i=(q,true)∧aM q o=true∧Tog m o (c++ [q]) (cw c.length R i):=by
 obtain⟨hp,ho⟩:=fW h.inn
 have hle:=oY h.inn
 have ho9:=(aK ho).2.1
 obtain⟨s1,s2⟩:=(h.shut hi).1 hsh
 have hil:i≤(bP c).length:=by
  refine Nat.le_of_not_lt fun hlt=> ?_
  rcases s2 with s2|s2
  ·omega
  ·rw[aZ (by omega),aZ (by omega)]at s2;omega
 obtain⟨q,hq⟩:=C1 hp hil (by rcases s2 with s2|s2;exact .inl s2;exact .inr (by omega)) (by omega)
 obtain⟨b1,b2,b3,b4,b5⟩:=jP hq
 have hin:aM q o=true:=xQ b5 ho fun r=>by
  rw[b4]
  have:=hle r
  split
  ·next e=>subst e;omega
  ·exact this
 have hR:=h.fill.ok.1
 refine⟨q,hq,hin,⟨by rw[List.length_append,List.length_singleton];omega,by rw[kL];exact hin,?_,?_,?_,?_⟩⟩
 ·have hrow: ∀r,r<o.length→R.getD r []=CL c r:=fun r hr=>by
   rw[h.row,List.getD_eq_getElem?_getD,List.getElem?_map,List.getElem?_range hr]
   rfl
  refine List.ext_getElem (by rw[je,hR];simp) fun r h1 h2=> ?_
  rw[je,hR]at h1
  have e1:(cw (c.length:Int) R i)[r]'(by rw[je];omega)=(cw (c.length:Int) R i).getD r []:=(an (by rw[je];omega) []).symm
  rw[e1,jt,List.getElem_map,List.getElem_range,Ej h.pos]
  by_cases e:i=r
  ·subst e
   rw[if_pos ⟨rfl,by omega⟩,hrow i hi,if_pos (by rw[b4,if_pos rfl];omega)]
  ·rw[if_neg (fun hh=>e hh.1),hrow r h1,if_neg (by rw[b4,if_neg (Ne.symm e)];omega),List.append_nil]
 ·rw[List.getD_eq_getElem?_getD,List.getElem?_append_left (by have:=h.pos;omega),←List.getD_eq_getElem?_getD]
  exact h.fst
 ·have:=(h.fill.mono (show(c.length:Int)-1≤c.length by omega)).push (by have:=h.pos;omega) (by omega) hi hsh
  rw[List.length_append,List.length_singleton]
  have e:((c.length+1:Nat):Int)-1=c.length:=by omega
  rw[e]
  exact this
 ·intro r hr
  rw[uN m _ (by omega),kL,b4,h.ext r hr]
  by_cases e:i=r
  ·subst e;rw[if_pos rfl,if_pos rfl]
  ·rw[if_neg e,if_neg (Ne.symm e),Int.add_zero]
theorem xb{m o:List Int}: ∀(d:Nat) (c:List (List Int)) (R:List (List Int)),c.length+d≤10→Tog m o c R→aP o=aP (bP c)+d→ky m o (List.replicate d 1) c.length R=(fF o d c).map CS
 |0,c,R,_,h,hs=>by
  have e:bP c=o:=CE h.inn (by omega)
  rw[fF]
  show [(m,R)]= [CS c]
  unfold CS
  rw[e,←h.row,h.fst]
 |d+1,c,R,hd,h,hs=>by
  obtain⟨hp,ho⟩:=fW h.inn
  have hlen:=(eu h.inn).2.2.1
  rw[List.replicate_succ,ky,fF,show(1:Int).toNat=1 from rfl,z8,List.map_flatMap]
  obtain⟨g,hg⟩: ∃g:Nat→List Tab,g=fun r:Nat=>(if(b8 (bP c) (r:Nat)).2=true∧aM (b8 (bP c) (r:Nat)).1 o=true then fF o d (c++ [(b8 (bP c) (r:Nat)).1])else []).map CS:=⟨_,rfl⟩
  have hg0: ∀r,((bP c).length<r∨o.length≤r)→g r= []:=fun r hr=>by
   rw[hg]
   dsimp only
   rw[if_neg]
   ·rfl
   ·rintro⟨h1,h2⟩
    cases hq:b8 (bP c) (r:Nat)with
    |mk q b=>
    rw[hq]at h1 h2
    dsimp only at h1 h2
    subst h1
    obtain⟨b1,b2,b3,b4,b5⟩:=jP hq
    have:=(eu h2).2.2.1
    omega
  have ext: ∀a b,a≤b→(∀r,a≤r→r<b→g r= [])→(List.range a).flatMap g=(List.range b).flatMap g:=fun a b hab h0=>by
   obtain⟨e,rfl⟩: ∃e,b=a+e:=⟨b-a,by omega⟩
   clear hab
   induction e with
   |zero=>rfl
   |succ e ih=>
    rw[←Nat.add_assoc,List.range_succ,List.flatMap_append,←ih fun r h1 h2=>h0 r h1 (by omega)]
    have:=h0 (a+e) (by omega) (by omega)
    simp[this]
  have e1:(List.range ((bP c).length+1)).flatMap g=(List.range (o.length+1)).flatMap g:=ext _ _ (by omega) fun r h1 h2=>hg0 r (.inl (by omega))
  have e2:(List.range o.length).flatMap g=(List.range (o.length+1)).flatMap g:=ext _ _ (by omega) fun r h1 h2=>hg0 r (.inr (by omega))
  show _=(List.range ((bP c).length+1)).flatMap (fun r:Nat=>(if(b8 (bP c) (r:Nat)).2=true∧aM (b8 (bP c) (r:Nat)).1 o=true then fF o d (c++ [(b8 (bP c) (r:Nat)).1])else []).map CS)
  rw[←hg,e1,←e2,←List.range_eq_range']
  have cong: ∀(l:List Nat),(∀r∈l,r<o.length)→(l.flatMap fun j=>if Pu.shut m o c.length R j=true then []else ky m o (List.replicate d 1) ((c.length:Int)+1) (cw c.length R j))=l.flatMap g:=by
   intro l
   induction l with
   |nil=>intro _;rfl
   |cons r l ih=>
    intro hl
    rw[List.flatMap_cons,List.flatMap_cons,ih fun x hx=>hl x (by simp[hx])]
    congr 1
    have hr:=hl r (by simp)
    rw[hg]
    dsimp only
    cases hsh:Pu.shut m o c.length R r with
    |true=>
     rw[if_pos rfl,if_neg]
     ·rfl
     ·rintro⟨h1,h2⟩
      cases hq:b8 (bP c) (r:Nat)with
      |mk q b=>
      rw[hq]at h1 h2
      dsimp only at h1 h2
      subst h1
      obtain⟨b1,b2,b3,b4,b5⟩:=jP hq
      have hf:Pu.shut m o c.length R r=false:=(h.shut hr).2 ⟨?_,?_⟩
      ·rw[hf]at hsh;cases hsh
      ·have:=oY h2 r
       rw[b4,if_pos rfl]at this
       omega
      ·by_cases r0:r=0
       ·exact .inl r0
       ·right
        have:=gd b5 (r-1)
        rw[show r-1+1=r by omega,b4,if_pos rfl,b4,if_neg (by omega)]at this
        omega
    |false=>
     obtain⟨q,h1,h2,h3⟩:=h.add (by omega) hr (by omega) hsh
     rw[h1]
     dsimp only
     rw[if_neg (by decide),if_pos ⟨rfl,h2⟩]
     have hsq:=sum_add hp h1
     have:=xb d (c++ [q]) (cw c.length R r) (by rw[List.length_append,List.length_singleton];omega) h3 (by rw[kL];omega)
     rw[List.length_append,List.length_singleton,Int.natCast_add]at this
     exact this
  exact cong _ fun r hr=>List.mem_range.1 hr
theorem Hq{m o:List Int}(hi:aM m o=true):Tog m o [m] (List.replicate o.length []):=by
 refine⟨by simp,hi,?_,rfl,E3 hi _,fun i hi=> ?_⟩
 ·refine List.ext_getElem (by simp) fun i h1 h2=> ?_
  rw[List.getElem_replicate,List.getElem_map]
  rfl
 ·unfold eI
  rw[mL]
  show m.getD i 0+((0:Nat):Int)=m.getD i 0
  omega
theorem xZ{m o:List Int}(hi:aM m o=true){d:Nat}(hd:aP o=aP m+d):nA m o (List.replicate d 1)=(fF o d [m]).map CS:=by
 have h9:=j9 hi
 exact xb d [m] _ (by show 1+d≤10;omega) (Hq hi) hd
end Go.Am.Pu
end
section
/- A chain's tableau, row by row; lists put in order one by one. Plain words. -/
namespace Go.Am.Pu
open Go
end Go.Am.Pu
end
