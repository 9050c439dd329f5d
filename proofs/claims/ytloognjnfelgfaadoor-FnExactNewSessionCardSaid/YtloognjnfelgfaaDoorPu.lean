/- Plain laws of lists, partitions, shapes and tableaux; no program in sight. -/
import Derived.Test.YtloognjnfelgfaaDoorAmP
import Derived.Test.YtloognjnfelgfaaDoorAmM
set_option linter.unusedSimpArgs false
set_option linter.unusedVariables false
set_option linter.unnecessarySimpa false
set_option linter.unusedSectionVars false
section
/- Rules for loops over data: a loop that looks at all, a loop that folds. -/
namespace Go.Am.Pu
open Go.Am
theorem w64{n:Int}(h1: -9223372036854775808≤n)(h2:n≤9223372036854775807):IntKind.i64.wrap n=n:=Go.Am.w64 h1 h2
theorem eQ{p:Nat→Bool}{n:Nat}:(List.range' 0 n).all p=true↔ ∀i,i<n→p i=true:=by
 simp[List.all_eq_true,List.mem_range'_1]
theorem aw{α:Type}{xs:List α}{i:Nat}(h:i<xs.length)(d:α):xs.getD i d=xs[i]:=by
 simp only[List.getD_eq_getElem?_getD,List.getElem?_eq_getElem h,Option.getD_some]
theorem bo{α:Type}{xs:List α}{i:Nat}(h:xs.length≤i)(d:α):xs.getD i d=d:=by
 simp only[List.getD_eq_getElem?_getD,List.getElem?_eq_none h,Option.getD_none]
theorem drop_cons{α:Type}{xs:List α}{i:Nat}(h:i<xs.length)(d:α):xs.drop i=xs.getD i d::xs.drop (i+1):=by
 rw[aw h,List.drop_eq_getElem_cons h]
theorem take_succ{α:Type}{xs:List α}{i:Nat}(h:i<xs.length)(d:α):xs.take (i+1)=xs.take i++ [xs.getD i d]:=by
 rw[aw h,List.take_succ_eq_append_getElem h]
end Go.Am.Pu
end
section
/- Marking memory and looking whether the marks are held. -/
namespace Go.Am.Pu
def held:List Int→Int→Int
 | [],q=>q
 |x::xs,q=>if x=q then held xs (q+1)else-1
def mark:List Int→Int→List Int
 | [],_=> []
 |_::xs,q=>q::mark xs (q+1)
theorem mK: ∀(xs:List Int) (q:Int),(mark xs q).length=xs.length
 | [],_=>rfl
 |_::xs,q=>by simp[mark,mK xs]
theorem p0: ∀(xs:List Int) (q:Int),held (mark xs q) q=q+xs.length
 | [],q=>by simp[mark,held]
 |_::xs,q=>by
  simp only[mark,held,if_true,List.length_cons]
  rw[p0 xs]
  omega
def wh:List (List Int)→Nat
 | []=>0
 |x::xs=>x.length+wh xs
theorem xu: ∀(xs:List (List Int)) (n:Nat),(∀x∈xs,x.length≤n)→wh xs≤xs.length*n
 | [],n,_=>by simp[wh]
 |x::xs,n,h=>by
  have h1:=h x (by simp)
  have h2:=xu xs n fun y hy=>h y (by simp[hy])
  simp only[wh,List.length_cons,Nat.succ_mul]
  omega
end Go.Am.Pu
end
section
/- Partitions, shapes and tableaux as plain words. -/
namespace Go.Am.Pu
def within(x lo hi:Int):Bool:=decide (lo≤x)&&decide (x≤hi)
def atI(p:List Int)(i:Int):Int:=if i<0 then 0 else p.getD i.toNat 0
theorem lB(p:List Int)(i:Nat):atI p (i:Int)=p.getD i 0:=by simp[atI];omega
def jS:List Int→Int→Int→Bool
 | [],_,_=>true
 |x::xs,prev,s=>decide (1≤x)&&(decide (x≤prev)&&(decide (s+x≤9)&&jS xs x (s+x)))
def dq(p:List Int):Bool:=jS p 9 0
def fT:List Int→Int
 | []=>0
 |x::xs=>x+fT xs
theorem qI: ∀(p:List Int) (prev s:Int),jS p prev s=true→(∀x∈p,1≤x∧x≤prev)∧(p≠ []→s+fT p≤9)∧(p.length:Int)≤fT p
 | [],prev,s,_=>⟨fun x h=>(by cases h),fun h=>absurd rfl h,(by simp[fT])⟩
 |x::xs,prev,s,h=>by
  simp only[jS,Bool.and_eq_true,decide_eq_true_eq]at h
  obtain⟨h1,h2,h3,h4⟩:=h
  obtain⟨k1,k2,k3⟩:=qI xs x (s+x) h4
  refine⟨fun y hy=> ?_,fun _=> ?_,?_⟩
  ·rcases List.mem_cons.1 hy with rfl|hy
   ·exact⟨h1,h2⟩
   ·have:=k1 y hy;omega
  ·simp only[fT]
   by_cases e:xs= []
   ·subst e;simp[fT];omega
   ·have:=k2 e;omega
  ·simp only[fT,List.length_cons];omega
theorem eE{p:List Int}(h:dq p=true):(∀x∈p,1≤x∧x≤9)∧fT p≤9∧p.length≤9∧(p.length:Int)≤fT p:=by
 obtain⟨h1,h2,h3⟩:=qI p 9 0 h
 have:fT p≤9:=by
  by_cases e:p= []
  ·subst e;simp[fT]
  ·have:=h2 e;omega
 exact⟨h1,this,by omega,h3⟩
theorem ox{p:List Int}(h:dq p=true)(i:Int):0≤atI p i∧atI p i≤9:=by
 unfold atI
 split
 ·omega
 ·by_cases hl:i.toNat<p.length
  ·rw[aw hl]
   have:=(eE h).1 _ (List.getElem_mem hl)
   omega
  ·rw[bo (by omega)];omega
def mg(q p:List Int):Bool:=dq q&&(dq p&&(decide (q.length≤p.length)&&(List.range' 0 q.length).all fun i=>decide (q.getD i 0≤p.getD i 0)))
def jB(inner:List Int):Nat→List (List Int)→List Int
 |_,[]=> []
 |i,r::rs=>(inner.getD i 0+r.length)::jB inner (i+1) rs
theorem qH(inner:List Int): ∀(rs:List (List Int)) (i:Nat),(jB inner i rs).length=rs.length
 | [],_=>rfl
 |_::rs,i=>by simp[jB,qH inner rs]
theorem jj(inner:List Int): ∀(rs:List (List Int)) (i q:Nat),q<rs.length→(jB inner i rs).getD q 0=inner.getD (i+q) 0+(rs.getD q []).length
 | [],i,q,h=>by simp at h
 |r::rs,i,0,_=>by simp[jB]
 |r::rs,i,q+1,h=>by
  have:=jj inner rs (i+1) q (by simpa using h)
  simp only[jB,List.getD_cons_succ]
  rw[this]
  have e:i+1+q=i+(q+1):=by omega
  rw[e]
abbrev Tab:=List Int×List (List Int)
def outer(t:Tab):List Int:=jB t.1 0 t.2
def mU(t:Tab):Bool:=dq t.1&&(decide (t.1.length≤t.2.length)&&mg t.1 (outer t))
def entry(t:Tab)(r c:Int):Int:=if r<0 then 0 else if(t.2.length:Int)≤r then 0 else atI (t.2.getD r.toNat []) (c-atI t.1 r)
theorem uI{t:Tab}{r:Nat}(h:r<t.2.length)(c:Int):entry t r c=atI (t.2.getD r []) (c-t.1.getD r 0):=by
 unfold entry
 rw[if_neg (by omega),if_neg (by omega),lB]
 rfl
theorem A9{t:Tab}{r q:Nat}(h:r<t.2.length):entry t r (t.1.getD r 0+q)=(t.2.getD r []).getD q 0:=by
 rw[uI h]
 have e:t.1.getD r 0+(q:Int)-t.1.getD r 0=q:=by omega
 rw[e,lB]
def n7(t:Tab)(i k:Nat):Bool:=within ((t.2.getD i []).getD k 0) 1 9&&((decide (k=0)||decide ((t.2.getD i []).getD (k-1) 0≤(t.2.getD i []).getD k 0))&&
 (decide (i=0)||decide (entry t ((i:Int)-1) (t.1.getD i 0+k)<(t.2.getD i []).getD k 0)))
def nG(t:Tab):Bool:=mU t&&(List.range' 0 t.2.length).all fun i=>(List.range' 0 (t.2.getD i []).length).all fun k=>n7 t i k
def bz(t:Tab):Bool:=nG t&&decide (t.1.length=0)
theorem uo{t:Tab}(h:nG t=true):mU t=true:=by
 simp only[nG,Bool.and_eq_true]at h;exact h.1
theorem mT(inner:List Int): ∀(rs:List (List Int)) (i:Nat),(∀q,i≤q→inner.getD q 0=0)→fT (jB inner i rs)=rs.flatten.length
 | [],i,_=>rfl
 |r::rs,i,h=>by
  simp only[jB,fT,List.flatten_cons,List.length_append]
  rw[mT inner rs (i+1) (fun q hq=>h q (by omega)),h i (Nat.le_refl _)]
  omega
theorem xX{t:Tab}(h:bz t=true):t.2.flatten.length≤9:=by
 simp only[bz,Bool.and_eq_true,decide_eq_true_eq]at h
 have hs:=uo h.1
 simp only[mU,mg,Bool.and_eq_true]at hs
 have h9:=(eE hs.2.2.2.1).2.1
 have:t.1= []:=List.eq_nil_of_length_eq_zero h.2
 rw[outer,mT t.1 t.2 0 (fun q _=>by rw[this];rfl)]at h9
 omega
def bj:List (List Int)→Int→List (List Int)×Nat
 | [],x=>([[x]],0)
 |r::rs,x=>if r.findIdx (fun n=>decide (x<n))<r.length
   then(r.set (r.findIdx fun n=>decide (x<n)) x::(bj rs (r.getD (r.findIdx fun n=>decide (x<n)) 0)).1,(bj rs (r.getD (r.findIdx fun n=>decide (x<n)) 0)).2+1)
   else((r++ [x])::rs,0)
def Bf(t:Tab):Prop:=t.1.length≤1048576∧t.2.length≤1048576∧ ∀x∈t.2,x.length≤1048576
theorem Bf.nil:Bf ([],[]):=⟨by simp,by simp,fun x h=>by cases h⟩
theorem tB: ∀{rs:List (List Int)} {r:List Int},r∈rs→r.length≤rs.flatten.length
 |q::rs,r,h=>by
  simp only[List.flatten_cons,List.length_append]
  rcases List.mem_cons.1 h with rfl|h
  ·omega
  ·have:=tB h;omega
theorem yC{p:Int→Bool}{r:List Int}(h:r.findIdx p<r.length):p (r.getD (r.findIdx p) 0)=true:=by
 rw[aw h];exact List.findIdx_getElem
end Go.Am.Pu
end
section
/- Standard tableaux, weights, descents: plain words. -/
namespace Go.Am.Pu
theorem wZ{α R:Type}(r:List α)(d:α)(p:α→Bool)(L:Nat→Nat→Option R)(hit:Nat→Option R)(miss:Option R)
  (hs: ∀j i,i<r.length→L (j+1) i=if p (r.getD i d)=true then hit i else L j (i+1)) (he: ∀j,L (j+1) r.length=miss):
  ∀(m j i:Nat),i+m=r.length→m<j→i≤r.findIdx p→L j i=if r.findIdx p<r.length then hit (r.findIdx p)else miss
 |m,0,i,_,hj,_=>by omega
 |0,j+1,i,hm,_,hi=>by
  have e:i=r.length:=by omega
  rw[if_neg (by omega),e,he]
 |m+1,j+1,i,hm,hj,hi=>by
  have hlt:i<r.length:=by omega
  rw[hs j i hlt]
  by_cases c:p (r.getD i d)=true
  ·have e:r.findIdx p=i:=Nat.le_antisymm (Nat.le_of_not_lt fun h'=>by
    have:=List.not_of_lt_findIdx h'
    rw[aw hlt]at c
    rw[c]at this;cases this) hi
   rw[if_pos c,e,if_pos hlt]
  ·rw[if_neg c]
   refine wZ r d p L hit miss hs he m j (i+1) (by omega) (by omega) ?_
   refine Nat.succ_le_of_lt (Nat.lt_of_le_of_ne hi fun e=>c ?_)
   have hlt':r.findIdx p<r.length:=by omega
   have:=List.findIdx_getElem (p:=p) (xs:=r) (w:=hlt')
   rw[←aw hlt' d,←e]at this
   exact this
def Aq{α:Type}(p:α→Bool)(r:List α):Int:=if r.findIdx p<r.length then(r.findIdx p:Int)else-1
theorem A7{α:Type}(p:α→Bool)(r:List α):decide (0≤Aq p r)=r.any p:=by
 unfold Aq
 by_cases h:r.findIdx p<r.length
 ·rw[if_pos h,List.any_eq_true.2 ⟨_,List.getElem_mem h,List.findIdx_getElem⟩]
  simp
 ·rw[if_neg h]
  have:r.any p=false:=by
   rw[List.any_eq_false]
   intro x hx hp
   exact h (List.findIdx_lt_length_of_exists ⟨x,hx,hp⟩)
  rw[this];rfl
def has(l:List Int)(x:Int):Bool:=l.any fun y=>decide (x=y)
theorem re{l:List Int}{x:Int}:has l x=true↔x∈l:=by
 simp[has,List.any_eq_true]
def ke(l:List Int):Bool:=(List.range' 0 l.length).all fun i=>has l ((i:Int)+1)
theorem rh: ∀(R l:List Int),R.Nodup→(∀x∈R,x∈l)→R.length≤l.length
 | [],l,_,_=>by simp
 |x::R,l,hn,h=>by
  rw[List.nodup_cons]at hn
  have hx:=h x (by simp)
  have:=rh R (l.erase x) hn.2 fun y hy=>(List.mem_erase_of_ne fun(e:y=x)=>hn.1 (e▸hy)).2 (h y (by simp[hy]))
  rw[List.length_erase_of_mem hx]at this
  have:0<l.length:=List.length_pos_of_mem hx
  simp only[List.length_cons]
  omega
def tH(n:Nat):List Int:=(List.range n).map fun(i:Nat)=>(i:Int)+1
theorem fU{n:Nat}{x:Int}:x∈tH n↔1≤x∧x≤n:=by
 simp only[tH,List.mem_map,List.mem_range]
 constructor
 ·rintro⟨i,h,rfl⟩;omega
 ·rintro⟨h1,h2⟩;exact⟨(x-1).toNat,by omega,by omega⟩
theorem sU(n:Nat):(tH n).Nodup:=by
 unfold tH
 refine List.Pairwise.map _ (fun(a b:Nat) (h:a≠b)=> ?_) List.nodup_range
 intro e
 exact h (by omega)
theorem sJ(n:Nat):(tH n).length=n:=by simp[tH]
theorem jR{l:List Int}:ke l=true↔ ∀x∈tH l.length,x∈l:=by
 unfold ke
 rw[eQ]
 constructor
 ·intro h x hx
  rw[fU]at hx
  have:=h (x-1).toNat (by omega)
  rw[re]at this
  have e:(((x-1).toNat:Nat):Int)+1=x:=by omega
  rw[e]at this;exact this
 ·intro h i hi
  rw[re]
  exact h _ (fU.2 (by omega))
theorem xN{l:List Int}(h1: ∀x∈l,1≤x):ke l=true↔l.Nodup∧ ∀x∈l,x≤l.length:=by
 rw[jR]
 constructor
 ·intro h
  refine⟨?_,fun x hx=> ?_⟩
  ·
   refine Classical.byContradiction fun hn=> ?_
   have: ∃x,x∈l∧x∈l.erase x:=by
    have key: ∀l:List Int,¬l.Nodup→ ∃x,x∈l∧x∈l.erase x:=by
     intro l
     induction l with
     |nil=>intro h;exact absurd List.nodup_nil h
     |cons a l ih=>
      intro h
      by_cases ha:a∈l
      ·exact⟨a,by simp,by simpa using ha⟩
      ·have: ¬l.Nodup:=fun hl=>h (List.nodup_cons.2 ⟨ha,hl⟩)
       obtain⟨x,h1,h2⟩:=ih this
       refine⟨x,by simp[h1],?_⟩
       have hne:a≠x:=fun e=>ha (e▸h1)
       rw[List.erase_cons_tail (by simpa using hne)]
       exact List.mem_cons_of_mem _ h2
    exact key l hn
   obtain⟨x,hx,hx2⟩:=this
   have:=rh (tH l.length) (l.erase x) (sU _) fun y hy=>by
    by_cases e:y=x
    ·rw[e];exact hx2
    ·exact(List.mem_erase_of_ne e).2 (h y hy)
   rw[sJ,List.length_erase_of_mem hx]at this
   have:0<l.length:=List.length_pos_of_mem hx
   omega
  ·refine Int.not_lt.1 fun hlt=> ?_
   have:=rh (tH l.length) (l.erase x) (sU _) fun y hy=>by
    have hy':=fU.1 hy
    exact(List.mem_erase_of_ne (by omega)).2 (h y hy)
   rw[sJ,List.length_erase_of_mem hx]at this
   have:0<l.length:=List.length_pos_of_mem hx
   omega
 ·rintro⟨hn,hb⟩ x hx
  refine Classical.byContradiction fun hxl=> ?_
  have:=rh (x::l) (tH l.length) (List.nodup_cons.2 ⟨hxl,hn⟩) fun y hy=>by
   rcases List.mem_cons.1 hy with rfl|hy
   ·exact hx
   ·exact fU.2 ⟨h1 y hy,hb y hy⟩
  rw[sJ,List.length_cons]at this
  omega
theorem wK{t:Tab}(h:nG t=true): ∀x∈t.2.flatten,1≤x∧x≤9:=by
 intro x hx
 simp only[nG,Bool.and_eq_true]at h
 obtain⟨r,hr,hxr⟩:=List.mem_flatten.1 hx
 obtain⟨i,hi,e⟩:=List.mem_iff_getElem.1 hr
 obtain⟨q,hq,e2⟩:=List.mem_iff_getElem.1 hxr
 have h1:=eQ.1 h.2 i hi
 rw[aw hi,e]at h1
 have h2:=eQ.1 h1 q hq
 simp only[n7,within,Bool.and_eq_true,decide_eq_true_eq]at h2
 rw[aw hi,e,aw hq,e2]at h2
 exact h2.1
def fS(t:Tab):Bool:=nG t&&ke t.2.flatten
def rowOf(t:Tab)(n:Int):Int:=Aq (fun r=>has r n) t.2
end Go.Am.Pu
end
section
/- Plain laws of draws, and of boxes. -/
namespace Go.Am.Pu
open Go Go.Am
attribute [local instance] D.real
def vt (p : List Int) (r : Int) : List Int × Bool :=
  if dq p = true ∧ 0 ≤ r ∧ r ≤ p.length then
    (let q := if r = p.length then p ++ [0] else p
     let o := q.set r.toNat (q.getD r.toNat 0 + 1)
     if dq o = true then (o, true) else ([], false))
  else ([], false)
end Go.Am.Pu
end
section
/- Steps over equations: what a word comes to, told by what must hold of it. -/
namespace Go.Am.Pu
open Go Go.Am
attribute [local instance] D.real
section
variable {α β : Type}
def Ok(x:Option α)(Q:α→Prop):Prop:= ∃y,x=some y∧Q y
theorem Ok.ret{y:α}{Q:α→Prop}(h:Q y):Ok (some y) Q:=⟨y,rfl,h⟩
theorem Ok.mono{x:Option α}{P Q:α→Prop}(h:Ok x P)(g: ∀y,P y→Q y):Ok x Q:=
 let⟨y,e,hp⟩:=h
 ⟨y,e,g y hp⟩
theorem Ok.bnd{x:Option α}{f:α→Option β}{P:α→Prop}{Q:β→Prop}(h:Ok x P)(g: ∀y,P y→Ok (f y) Q):Ok (D.bnd x f) Q:=by
 obtain⟨y,e,hp⟩:=h
 rw[e]
 exact g y hp
theorem Ok.ig{x:Option α}{y:α}{f:α→Option β}{Q:β→Prop}(h:x=some y)(g:Ok (f y) Q):Ok (D.bnd x f) Q:=by
 rw[h]
 exact g
theorem Ok.t{p:Prop} [Decidable p]{x y:Option α}{Q:α→Prop}(h1:p→Ok x Q)(h2: ¬p→Ok y Q):Ok (D.test (decide p) x y) Q:=by
 show Ok (if decide p=true then x else y) Q
 by_cases h:p
 ·rw[if_pos (decide_eq_true h)];exact h1 h
 ·rw[if_neg (by rw[decide_eq_false h];simp)];exact h2 h
theorem Ok.tb{b:Bool}{x y:Option α}{Q:α→Prop}(h1:b=true→Ok x Q)(h2:b=false→Ok y Q):Ok (D.test b x y) Q:=by
 cases b
 ·exact h2 rfl
 ·exact h1 rfl
theorem Ok.tn{b:Bool}{x y:Option α}{Q:α→Prop}(h1:b=false→Ok x Q)(h2:b=true→Ok y Q):Ok (D.test (!b) x y) Q:=by
 cases b
 ·exact h1 rfl
 ·exact h2 rfl
theorem Ok.tnd{p:Prop} [Decidable p]{x y:Option α}{Q:α→Prop}(h1: ¬p→Ok x Q)(h2:p→Ok y Q):Ok (D.test (!decide p) x y) Q:=
 Ok.tn (fun h=>h1 (of_decide_eq_false h)) (fun h=>h2 (of_decide_eq_true h))
theorem Ok.g{p:Prop} [Decidable p]{x y:Option α}{Q:α→Prop}(h:p)(g:Ok x Q):Ok (D.test (decide p) x y) Q:=Ok.t (fun _=>g) (fun h'=>absurd h h')
theorem Ok.no{p:Prop} [Decidable p]{x y:Option α}{Q:α→Prop}(h: ¬p)(g:Ok y Q):Ok (D.test (decide p) x y) Q:=Ok.t (fun h'=>absurd h' h) (fun _=>g)
theorem Ok.gn{p:Prop} [Decidable p]{x y:Option α}{Q:α→Prop}(h: ¬p)(g:Ok x Q):Ok (D.test (!decide p) x y) Q:=Ok.tnd (fun _=>g) (fun h'=>absurd h' h)
theorem Ok.some{x:Option α}{Q:α→Prop}(h:Ok x Q): ∃y,x=Option.some y:=let⟨y,e,_⟩:=h;⟨y,e⟩
end
def dz(n m:Nat)(rs:List (List Int)):Prop:=rs.length≤n∧ ∀r∈rs,r.length≤m
theorem dz.at{n m:Nat}{rs:List (List Int)}(h:dz n m rs)(i:Nat):(rs.getD i []).length≤m:=by
 by_cases hi:i<rs.length
 ·rw[aw hi];exact h.2 _ (List.getElem_mem hi)
 ·rw[bo (by omega)];simp
theorem dz.set{n m:Nat}{rs:List (List Int)}(h:dz n m rs)(i:Nat){r:List Int}(hr:r.length≤m):dz n m (rs.set i r):=by
 refine⟨by rw[List.length_set];exact h.1,fun x hx=> ?_⟩
 rcases List.mem_or_eq_of_mem_set hx with h'|rfl
 ·exact h.2 x h'
 ·exact hr
theorem dz.mono{n m n' m':Nat}{rs:List (List Int)}(h:dz n m rs)(hn:n≤n')(hm:m≤m'):dz n' m' rs:=
 ⟨Nat.le_trans h.1 hn,fun x hx=>Nat.le_trans (h.2 x hx) hm⟩
theorem dz.app{n m:Nat}{rs:List (List Int)}(h:dz n m rs){r:List Int}(hr:r.length≤m):dz (n+1) m (rs++ [r]):=by
 refine⟨by rw[List.length_append];simp;exact h.1,fun x hx=> ?_⟩
 rcases List.mem_append.1 hx with h'|h'
 ·exact h.2 x h'
 ·simp only[List.mem_singleton]at h';subst h';exact hr
end Go.Am.Pu
end
section
/- Corners; a number taken out of rows. Plain words. -/
namespace Go.Am.Pu
theorem pI: ∀{p:List Int} {prev s:Int},jS p prev s=true→ ∀i,i+1<p.length→p.getD (i+1) 0≤p.getD i 0
 | [],_,_,_,i,h=>by simp at h
 | [x],_,_,_,i,h=>by simp at h
 |x::y::xs,prev,s,hp,i,h=>by
  simp only[jS,Bool.and_eq_true,decide_eq_true_eq]at hp
  cases i with
  |zero=>simpa using hp.2.2.2.2.1
  |succ i=>
   have h2:jS (y::xs) x (s+x)=true:=by
    simp only[jS,Bool.and_eq_true,decide_eq_true_eq]
    exact hp.2.2.2
   have:=pI h2 i (by simpa using h)
   simpa using this
def kH(r:List Int)(y:Int):Nat→Option Nat
 |0=>none
 |i+1=>if r.getD i 0<y then some i else kH r y i
theorem qy{r:List Int}{y:Int}: ∀{m q:Nat},kH r y m=some q→q<m∧r.getD q 0<y
 |0,q,h=>by simp[kH]at h
 |m+1,q,h=>by
  unfold kH at h
  split at h
  ·next hc=>injection h with h;subst h;exact⟨by omega,hc⟩
  ·have:=qy h;exact⟨by omega,this.2⟩
theorem uv{r:List Int}{y:Int}: ∀{m i:Nat},i<m→r.getD i 0<y→ ∃q,kH r y m=some q
 |0,i,h,_=>by omega
 |m+1,i,h,hi=>by
  unfold kH
  split
  ·exact⟨_,rfl⟩
  ·next hc=>
   have:i≠m:=fun e=>hc (e▸hi)
   exact uv (by omega) hi
def lq:Nat→List (List Int)→Int→List (List Int)×Int
 |0,rs,y=>(rs,y)
 |r+1,rs,y=>match kH (rs.getD r []) y (rs.getD r []).length with
  |some q=>lq r (rs.set r ((rs.getD r []).set q y)) ((rs.getD r []).getD q 0)
  |none=>lq r rs y
theorem getD_set_ne{α:Type}{xs:List α}{i j:Nat}(h:j≠i)(x d:α):(xs.set j x).getD i d=xs.getD i d:=by
 simp only[List.getD_eq_getElem?_getD,List.getElem?_set]
 rw[if_neg h]
theorem nM{n m:Nat}: ∀(r:Nat) (rs:List (List Int)) (y:Int),dz n m rs→dz n m (lq r rs y).1
 |0,_,_,h=>h
 |r+1,rs,y,h=>by
  unfold lq
  split
  ·exact nM r _ _ (h.set r (by rw[List.length_set];exact h.at r))
  ·exact nM r rs y h
def ku (rs : List (List Int)) (row : Nat) : List (List Int) × Int :=
  ((if (rs.getD row []).length = 1 then (lq row (rs.set row ((rs.getD row []).take ((rs.getD row []).length - 1))) ((rs.getD row []).getD ((rs.getD row []).length - 1) 0)).1.take row
    else (lq row (rs.set row ((rs.getD row []).take ((rs.getD row []).length - 1))) ((rs.getD row []).getD ((rs.getD row []).length - 1) 0)).1),
   (lq row (rs.set row ((rs.getD row []).take ((rs.getD row []).length - 1))) ((rs.getD row []).getD ((rs.getD row []).length - 1) 0)).2)
theorem uU{n m:Nat}{rs:List (List Int)}(h:dz n m rs)(row:Nat):dz n m (ku rs row).1:=by
 have h1:=nM row (rs.set row ((rs.getD row []).take ((rs.getD row []).length-1))) ((rs.getD row []).getD ((rs.getD row []).length-1) 0) (h.set row (by rw[List.length_take];have:=h.at row;omega))
 unfold ku
 simp only
 split
 ·exact⟨by rw[List.length_take];have:=h1.1;omega,fun x hx=>h1.2 x (List.mem_of_mem_take hx)⟩
 ·exact h1
theorem iU{t:Tab}(h:bz t=true):t.1= []:=by
 simp only[bz,Bool.and_eq_true,decide_eq_true_eq]at h
 exact List.eq_nil_of_length_eq_zero h.2
theorem eA{t:Tab}(h:bz t=true){i:Nat}(hi:i<t.2.length):(outer t).getD i 0=(t.2.getD i []).length:=by
 have e:=jj t.1 t.2 0 i hi
 rw[iU h]at e
 unfold outer
 rw[iU h,e]
 simp
theorem iH{t:Tab}(h:bz t=true):dq (outer t)=true:=by
 simp only[bz,Bool.and_eq_true]at h
 have hs:=uo h.1
 simp only[mU,mg,Bool.and_eq_true]at hs
 exact hs.2.2.2.1
theorem cN(t:Tab):(outer t).length=t.2.length:=by unfold outer;rw[qH]
theorem xL{t:Tab}(h:bz t=true):dz 9 9 t.2:=by
 have h9:=xX h
 have hl:=(eE (iH h)).2.2.1
 rw[cN]at hl
 exact⟨hl,fun r hr=>by have:=tB hr;omega⟩
theorem n0{t:Tab}(h:bz t=true): ∀i,i+1<t.2.length→(t.2.getD (i+1) []).length≤(t.2.getD i []).length∧ ∀q,q<(t.2.getD (i+1) []).length→(t.2.getD i []).getD q 0<(t.2.getD (i+1) []).getD q 0:=by
 intro i hi
 have hm:=pI (show jS (outer t) 9 0=true from iH h) i (by rw[cN];exact hi)
 rw[eA h hi,eA h (by omega)]at hm
 have hl:(t.2.getD (i+1) []).length≤(t.2.getD i []).length:=by omega
 refine⟨hl,fun q hq=> ?_⟩
 have ht:=h
 simp only[bz,Bool.and_eq_true]at ht
 have ht:=ht.1
 simp only[nG,Bool.and_eq_true]at ht
 have h1:=eQ.1 (eQ.1 ht.2 (i+1) hi) q hq
 simp only[n7,Bool.and_eq_true,Bool.or_eq_true,decide_eq_true_eq]at h1
 have h2:=h1.2.2.resolve_left (by omega)
 rw[iU h]at h2
 have e:((i+1:Nat):Int)-1=(i:Int):=by omega
 have e2:([]:List Int).getD (i+1) 0+(q:Int)=([]:List Int).getD i 0+(q:Int):=by simp
 rw[e,e2]at h2
 have ee:entry t (i:Int) (([]:List Int).getD i 0+(q:Int))=(t.2.getD i []).getD q 0:=by
  have:=A9 (t:=t) (r:=i) (q:=q) (by omega)
  rw[iU h]at this
  exact this
 rw[ee]at h2
 exact h2
end Go.Am.Pu
end
section
/- Rows with noughts in front; a box taken from a partition. Plain words. -/
namespace Go.Am.Pu
def fN(t:Tab):List (List Int):=(List.range' 0 t.2.length).map fun i=>List.replicate (t.1.getD i 0).toNat 0++t.2.getD i []
def aW(p:List Int)(n:Nat):List Int:=if p.getD n 0-1=0 then p.take n else p.set n (p.getD n 0-1)
theorem vY(p:List Int)(n:Nat):(aW p n).length≤p.length:=by
 unfold aW
 split
 ·rw[List.length_take];omega
 ·rw[List.length_set];exact Nat.le_refl _
end Go.Am.Pu
end
section
/- A slide: the hole goes right or down until nothing is there. Plain words. -/
namespace Go.Am.Pu
def cel(g:List (List Int))(r c:Nat):Int:=(g.getD r []).getD c 0
def jo(g:List (List Int))(r c:Nat)(v:Int):List (List Int):=g.set r ((g.getD r []).set c v)
theorem u4{g:List (List Int)}{r c:Nat}(h:cel g r c≠0):r<g.length∧c<(g.getD r []).length:=by
 unfold cel at h
 by_cases h1:r<g.length
 ·refine⟨h1,?_⟩
  by_cases h2:c<(g.getD r []).length
  ·exact h2
  ·exact absurd (bo (by omega) 0) h
 ·rw[bo (xs:=g) (by omega)]at h
  simp at h
theorem fX(g:List (List Int))(r c:Nat)(v:Int):(jo g r c v).length=g.length:=by unfold jo;rw[List.length_set]
theorem a8(g:List (List Int))(r c:Nat)(v:Int)(q:Nat):((jo g r c v).getD q []).length=(g.getD q []).length:=by
 unfold jo
 by_cases e:q=r
 ·subst e
  by_cases h:q<g.length
  ·rw[aw (by rw[List.length_set];exact h),List.getElem_set_self,List.length_set]
  ·rw[bo (by rw[List.length_set];omega),bo (by omega)]
 ·rw[getD_set_ne (Ne.symm e)]
theorem iS{g:List (List Int)}{r c:Nat}(v:Int)(h1:r<g.length)(h2:c<(g.getD r []).length):cel (jo g r c v) r c=v:=by
 unfold cel jo
 rw[aw (xs:=g.set r _) (by rw[List.length_set];exact h1),List.getElem_set_self,aw (by rw[List.length_set];exact h2),List.getElem_set_self]
theorem gh{g:List (List Int)}{r c q x:Nat}(v:Int)(h: ¬(q=r∧x=c)):cel (jo g r c v) q x=cel g q x:=by
 unfold cel jo
 by_cases e:q=r
 ·subst e
  have hx:x≠c:=fun e=>h ⟨rfl,e⟩
  by_cases hl:q<g.length
  ·rw[aw (xs:=g.set q _) (by rw[List.length_set];exact hl),List.getElem_set_self,getD_set_ne (Ne.symm hx)]
  ·rw[bo (xs:=g.set q _) (by rw[List.length_set];omega),bo (xs:=g) (by omega)]
 ·rw[getD_set_ne (Ne.symm e)]
structure Sl (q : List Int) (g : List (List Int)) (i c : Nat) : Prop where
  q0 : ∀ r, 0 ≤ q.getD r 0
  qm : ∀ r, q.getD (r + 1) 0 ≤ q.getD r 0
  lm : ∀ r, (g.getD (r + 1) []).length ≤ (g.getD r []).length
  hi : i < g.length
  hc : c < (g.getD i []).length
  hq : q.getD i 0 ≤ c
  pos : ∀ r x, 0 ≤ cel g r x
  num : ∀ r x : Nat, q.getD r 0 ≤ x → x < (g.getD r []).length → ¬ (r = i ∧ x = c) → 1 ≤ cel g r x ∧ cel g r x ≤ 9
  row : ∀ r x : Nat, q.getD r 0 ≤ x → x + 1 < (g.getD r []).length → ¬ (r = i ∧ x = c) → ¬ (r = i ∧ x + 1 = c) → cel g r x ≤ cel g r (x + 1)
  col : ∀ r x : Nat, q.getD r 0 ≤ x → x < (g.getD (r + 1) []).length → ¬ (r = i ∧ x = c) → ¬ (r + 1 = i ∧ x = c) → cel g r x < cel g (r + 1) x
  C1 : ∀ x : Nat, x + 1 = c → q.getD i 0 ≤ x → c + 1 < (g.getD i []).length → cel g i x ≤ cel g i (c + 1)
  colH : ∀ r : Nat, r + 1 = i → q.getD r 0 ≤ c → c < (g.getD (i + 1) []).length → cel g r c < cel g (i + 1) c
theorem Sl.right{q:List Int}{g:List (List Int)}{i c:Nat}(h:Sl q g i c)(hr:cel g i (c+1)≠0)(hb: ¬(0<cel g (i+1) c∧cel g (i+1) c≤cel g i (c+1))):
  Sl q (jo g i c (cel g i (c+1))) i (c+1):=by
 obtain⟨b1,b2⟩:=u4 hr
 have hq:=h.hq
 have hrn:=h.num i (c+1) (by omega) b2 (by omega)
 have e0:=iS (cel g i (c+1)) h.hi h.hc
 have en: ∀r x,¬(r=i∧x=c)→cel (jo g i c (cel g i (c+1))) r x=cel g r x:=fun r x hh=>gh _ hh
 refine⟨h.q0,h.qm,fun r=> ?_,?_,?_,by omega,fun r x=> ?_,fun r x h1 h2 h3=> ?_,fun r x h1 h2 h3 h4=> ?_,fun r x h1 h2 h3 h4=> ?_,fun x h1 h2 h3=> ?_,fun r h1 h2 h3=> ?_⟩
 ·rw[a8,a8];exact h.lm r
 ·rw[fX];exact b1
 ·rw[a8];exact b2
 ·by_cases e:r=i∧x=c
  ·rw[e.1,e.2,e0];exact h.pos _ _
  ·rw[en r x e];exact h.pos _ _
 ·rw[a8]at h2
  by_cases e:r=i∧x=c
  ·rw[e.1,e.2,e0];exact hrn
  ·rw[en r x e];exact h.num r x h1 h2 e
 ·rw[a8]at h2
  by_cases e:r=i∧x=c
  ·exact(h4 ⟨e.1,by omega⟩).elim
  ·rw[en r x e]
   by_cases e':r=i∧x+1=c
   ·obtain⟨rfl,rfl⟩:=e'
    rw[e0]
    exact h.C1 x rfl h1 b2
   ·rw[en r (x+1) e'];exact h.row r x h1 h2 e e'
 ·rw[a8]at h2
  by_cases e:r=i∧x=c
  ·obtain⟨rfl,rfl⟩:=e
   rw[e0,en _ _ (by omega)]
   have hqm:=h.qm r
   have h5:=(h.num (r+1) x (by omega) h2 (by omega)).1
   omega
  ·rw[en r x e]
   by_cases e':r+1=i∧x=c
   ·obtain⟨rfl,rfl⟩:=e'
    rw[e0]
    have hl:=h.lm r
    have h5:=h.row r x h1 (by omega) (by omega) (by omega)
    have h6:=h.col r (x+1) (by omega) b2 (by omega) (by omega)
    omega
   ·rw[en (r+1) x e']
    exact h.col r x h1 h2 e e'
 ·rw[a8]at h3
  have:x=c:=by omega
  subst this
  rw[e0,en _ _ (by omega)]
  exact h.row i (x+1) (by omega) h3 (by omega) (by omega)
 ·rw[a8]at h3
  rw[en _ _ (by omega),en _ _ (by omega)]
  subst h1
  have h5:=h.col r (c+1) h2 (by omega) (by omega) (by omega)
  have h6:=h.col (r+1) (c+1) (by omega) h3 (by omega) (by omega)
  omega
end Go.Am.Pu
end
section
/- A slide's end and its start. Plain words. -/
namespace Go.Am.Pu
theorem xC{p:List Int}(hp:dq p=true)(r:Nat):p.getD (r+1) 0≤p.getD r 0:=by
 by_cases h:r+1<p.length
 ·exact pI hp r h
 ·rw[bo (by omega)]
  have:=(ox hp r).1
  rw[lB]at this
  exact this
theorem sR{p:List Int}{n:Nat}(hp:dq p=true)(hn:n<p.length)(hc:p.getD (n+1) 0<p.getD n 0)(r:Nat):(aW p n).getD r 0=if r=n then p.getD n 0-1 else p.getD r 0:=by
 unfold aW
 by_cases h:p.getD n 0-1=0
 ·rw[if_pos h]
  have h0:=(ox hp (n+1:Nat)).1
  rw[lB]at h0
  have hl:p.length≤n+1:=by
   refine Nat.le_of_not_lt fun hlt=> ?_
   have:=(eE hp).1 _ (List.getElem_mem hlt)
   rw[←aw hlt 0]at this
   omega
  by_cases e:r=n
  ·subst e
   rw[if_pos rfl,h,bo (by rw[List.length_take];omega)]
  ·rw[if_neg e]
   by_cases e2:r<n
   ·rw[aw (by rw[List.length_take];omega),List.getElem_take,aw (by omega)]
   ·rw[bo (by rw[List.length_take];omega),bo (by omega)]
 ·rw[if_neg h]
  by_cases e:r=n
  ·subst e
   rw[if_pos rfl,aw (by rw[List.length_set];exact hn),List.getElem_set_self]
  ·rw[if_neg e,getD_set_ne (Ne.symm e)]
structure DC (t : Tab) : Prop where
  q0 : ∀ r, 0 ≤ t.1.getD r 0
  qm : ∀ r, t.1.getD (r + 1) 0 ≤ t.1.getD r 0
  lm : ∀ r, ((fN t).getD (r + 1) []).length ≤ ((fN t).getD r []).length
  num : ∀ r x : Nat, t.1.getD r 0 ≤ x → x < ((fN t).getD r []).length → 1 ≤ cel (fN t) r x ∧ cel (fN t) r x ≤ 9
  row : ∀ r x : Nat, t.1.getD r 0 ≤ x → x + 1 < ((fN t).getD r []).length → cel (fN t) r x ≤ cel (fN t) r (x + 1)
  col : ∀ r x : Nat, t.1.getD r 0 ≤ x → x < ((fN t).getD (r + 1) []).length → cel (fN t) r x < cel (fN t) (r + 1) x
end Go.Am.Pu
end
section
/- A tableau cell by cell; a slide's start. Plain words. -/
namespace Go.Am.Pu
theorem zZ{t:Tab}(h:nG t=true):dq t.1=true∧dq (outer t)=true∧t.1.length≤t.2.length∧(∀i k,i<t.2.length→k<(t.2.getD i []).length→n7 t i k=true):=by
 simp only[nG,mU,mg,Bool.and_eq_true,decide_eq_true_eq]at h
 obtain⟨⟨h1,h2,h3,h4,h5⟩,h6⟩:=h
 refine⟨h1,h4,h2,fun i k hi hk=> ?_⟩
 rw[eQ]at h6
 have:=h6 i hi
 rw[eQ]at this
 exact this k hk
end Go.Am.Pu
end
section
/- A partition less a box; the tableau that a slide leaves. Plain words. -/
namespace Go.Am.Pu
theorem lL: ∀(p:List Int) (prev s:Int),(∀x∈p,1≤x)→(0<p.length→p.getD 0 0≤prev)→(∀i,i+1<p.length→p.getD (i+1) 0≤p.getD i 0)→s+fT p≤9→jS p prev s=true
 | [],_,_,_,_,_,_=>rfl
 |x::xs,prev,s,h1,h2,h3,h4=>by
  have hs: ∀(l:List Int),(∀y∈l,1≤y)→0≤fT l:=by
   intro l
   induction l with
   |nil=>intro _;simp[fT]
   |cons y l ih=>
    intro h
    have a:=h y List.mem_cons_self
    have b:=ih (fun z hz=>h z (List.mem_cons_of_mem _ hz))
    simp only[fT];omega
  have hx:=h1 x List.mem_cons_self
  have hxs:=hs xs (fun z hz=>h1 z (List.mem_cons_of_mem _ hz))
  have h2':=h2 (by simp)
  simp only[List.getD_cons_zero]at h2'
  simp only[fT]at h4
  have ih:=lL xs x (s+x) (fun z hz=>h1 z (List.mem_cons_of_mem _ hz)) (fun hl=>by have:=h3 0 (by simpa using hl);simpa using this) (fun i hi=>by have:=h3 (i+1) (by simpa using hi);simpa using this) (by omega)
  simp only[jS,Bool.and_eq_true,decide_eq_true_eq]
  exact⟨hx,h2',by omega,ih⟩
theorem rF: ∀(p:List Int) (n:Nat) (v:Int),n<p.length→fT (p.set n v)=fT p-p.getD n 0+v
 | [],n,v,h=>by simp at h
 |x::xs,0,v,_=>by simp[fT];omega
 |x::xs,n+1,v,h=>by
  have:=rF xs n v (by simpa using h)
  simp only[List.set_cons_succ,fT,List.getD_cons_succ,this]
  omega
theorem vK: ∀(p:List Int) (n:Nat),p.length=n+1→fT (p.take n)=fT p-p.getD n 0
 | [],n,h=>by simp at h
 | [x],0,_=>by simp[fT]
 |x::xs,n+1,h=>by
  have:=vK xs n (by simpa using h)
  simp only[List.take_succ_cons,fT,List.getD_cons_succ,this]
  omega
 |x::y::xs,0,h=>by simp at h
theorem tZ{p:List Int}{n:Nat}(hp:dq p=true)(hc:p.getD (n+1) 0<p.getD n 0)(h:p.getD n 0-1=0):p.length≤n+1:=by
 have h0:=(ox hp (n+1:Nat)).1
 rw[lB]at h0
 refine Nat.le_of_not_lt fun hlt=> ?_
 have:=(eE hp).1 _ (List.getElem_mem hlt)
 rw[←aw hlt 0]at this
 omega
theorem Bw{p:List Int}{n:Nat}(hp:dq p=true)(hn:n<p.length)(hc:p.getD (n+1) 0<p.getD n 0){i:Nat}(hi:i<(aW p n).length):1≤(aW p n).getD i 0:=by
 rw[sR hp hn hc]
 have hl:=vY p n
 have h1: ∀i,i<p.length→1≤p.getD i 0:=fun i hi=>by
  rw[aw hi]
  exact((eE hp).1 _ (List.getElem_mem hi)).1
 by_cases h:p.getD n 0-1=0
 ·unfold aW at hi
  rw[if_pos h,List.length_take]at hi
  rw[if_neg (by omega)]
  exact h1 i (by omega)
 ·have a:=h1 n hn
  have b:=h1 i (by omega)
  split<;>omega
theorem zt{p:List Int}{n:Nat}(hp:dq p=true)(hn:n<p.length)(hc:p.getD (n+1) 0<p.getD n 0):dq (aW p n)=true:=by
 have hs:=eE hp
 have hg:=sR hp hn hc
 have hpn:1≤p.getD n 0:=by
  rw[aw hn]
  exact(hs.1 _ (List.getElem_mem hn)).1
 refine lL _ _ _ (fun x hx=> ?_) (fun _=> ?_) (fun i _=> ?_) ?_
 ·obtain⟨i,hi,rfl⟩:=List.getElem_of_mem hx
  rw[←aw hi 0]
  exact Bw hp hn hc hi
 ·rw[hg]
  have: ∀i,p.getD i 0≤9:=fun i=>by
   have:=(ox hp i).2
   rw[lB]at this
   exact this
  have a:=this 0
  have b:=this n
  split<;>omega
 ·rw[hg,hg]
  have:=xC hp i
  by_cases e:i=n
  ·subst e
   rw[if_neg (by omega),if_pos rfl];omega
  ·rw[if_neg e]
   by_cases e2:i+1=n
   ·subst e2;rw[if_pos rfl];omega
   ·rw[if_neg e2];exact this
 ·have h9:=hs.2.1
  unfold aW
  split
  ·next h=>
   have hl:=tZ hp hc h
   rw[vK p n (by omega)]
   omega
  ·rw[rF p n _ hn]
   omega
def dB(q:List Int)(g:List (List Int))(n:Nat):List (List Int):=(List.range' 0 n).map fun r=>(g.getD r []).drop (q.getD r 0).toNat
theorem kC(q:List Int)(g:List (List Int))(n:Nat):(dB q g n).length=n:=by simp[dB]
theorem nJ{q:List Int}{g:List (List Int)}{n r:Nat}(h:r<n):(dB q g n).getD r []=(g.getD r []).drop (q.getD r 0).toNat:=by
 rw[aw (by rw[kC];exact h)]
 simp[dB]
def nT(g:List (List Int))(i c:Nat):List (List Int):=g.set i ((g.getD i []).take c)
end Go.Am.Pu
namespace Go.Am.Pu
end Go.Am.Pu
end
section
/- What a slide leaves. Plain words. -/
namespace Go.Am.Pu
theorem zc{g:List (List Int)}{i c r:Nat}(hi:i<g.length):(nT g i c).getD r []=if r=i then(g.getD i []).take c else g.getD r []:=by
 unfold nT
 by_cases e:r=i
 ·subst e
  rw[if_pos rfl,aw (by rw[List.length_set];exact hi),List.getElem_set_self]
 ·rw[if_neg e,getD_set_ne (Ne.symm e)]
theorem lu(g:List (List Int))(i c:Nat):(nT g i c).length=g.length:=by unfold nT;rw[List.length_set]
theorem B8{g:List (List Int)}{i c r x:Nat}(hi:i<g.length)(hx:x<((nT g i c).getD r []).length):cel (nT g i c) r x=cel g r x:=by
 unfold cel
 rw[zc hi]at hx⊢
 by_cases e:r=i
 ·subst e
  rw[if_pos rfl]at hx⊢
  rw[List.length_take]at hx
  rw[aw (by rw[List.length_take];exact hx),List.getElem_take]
  exact(aw (by omega) 0).symm
 ·rw[if_neg e]
structure zN (t : Tab) (n : Nat) (g : List (List Int)) (i c : Nat) : Prop where
  sl : Sl (aW t.1 n) g i c
  len : g.length = t.2.length
  row : ∀ r, (g.getD r []).length = ((fN t).getD r []).length
  hi : i < (outer t).length
  end_ : (outer t).getD i 0 = c + 1
  cor : (outer t).getD (i + 1) 0 < (outer t).getD i 0
  cutl : ∀ r, (((nT g i c).getD r []).length : Int) = (aW (outer t) i).getD r 0
  ins : ∀ r, (aW t.1 n).getD r 0 ≤ (aW (outer t) i).getD r 0
  rows : dz 9 9 (nT g i c)
end Go.Am.Pu
end
section
/- The square that the reference slides in. Plain words. -/
namespace Go.Am.Pu
structure Sq (s g : List (List Int)) (i c : Nat) : Prop where
  len : s.length = 11
  row : ∀ r, r < 11 → (s.getD r []).length = 11
  at_ : ∀ r x, r < 11 → x < 11 → ¬ (r = i ∧ x = c) → cel s r x = cel g r x
  hole : cel s i c = 0
theorem Sq.step{s g:List (List Int)}{i c i' c':Nat}(h:Sq s g i c)(hi:i<g.length)(hc:c<(g.getD i []).length)(h1:i<11)(h2:c<11)(h3:i'<11)(h4:c'<11)(hne: ¬(i'=i∧c'=c))(v:Int):
  Sq (jo (jo s i c v) i' c' 0) (jo g i c v) i' c':=by
 refine⟨by rw[fX,fX];exact h.len,fun r hr=>by rw[a8,a8];exact h.row r hr,fun r x hr hx hn=> ?_,?_⟩
 ·rw[gh _ hn]
  by_cases e:r=i∧x=c
  ·obtain⟨rfl,rfl⟩:=e
   rw[iS _ (by rw[h.len];exact h1) (by rw[h.row _ h1];exact h2),iS _ hi hc]
  ·rw[gh _ e,gh _ e];exact h.at_ r x hr hx e
 ·rw[iS _ (by rw[fX,h.len];exact h3) (by rw[a8,h.row _ h3];exact h4)]
end Go.Am.Pu
end
section
/- What a slide leaves is a tableau. Plain words. -/
namespace Go.Am.Pu
theorem AB{α:Type}(l:List α)(a x:Nat)(d:α):(l.drop a).getD x d=l.getD (a+x) d:=by
 simp[List.getD_eq_getElem?_getD,List.getElem?_drop]
section
variable {t : Tab} {n : Nat} {g : List (List Int)} {i c : Nat}
theorem zN.cell(E:zN t n g i c){r k:Nat}(hr:r<(aW (outer t) i).length)
  (hk:k<((dB (aW t.1 n) (nT g i c) (aW (outer t) i).length).getD r []).length):
  ((aW t.1 n).getD r 0).toNat+k<(g.getD r []).length∧((((aW t.1 n).getD r 0).toNat+k:Nat):Int)<(aW (outer t) i).getD r 0∧ ¬(r=i∧((aW t.1 n).getD r 0).toNat+k=c)∧
   ((dB (aW t.1 n) (nT g i c) (aW (outer t) i).length).getD r []).getD k 0=cel g r (((aW t.1 n).getD r 0).toNat+k):=by
 have hq:=E.sl.q0 r
 rw[nJ hr]at hk⊢
 rw[List.length_drop]at hk
 have hx:((aW t.1 n).getD r 0).toNat+k<((nT g i c).getD r []).length:=by omega
 have hl:=E.cutl r
 have hcut:=zc (c:=c) (r:=r) E.sl.hi
 refine⟨?_,by omega,fun e=> ?_,?_⟩
 ·rw[hcut]at hx
  by_cases e:r=i
  ·subst e;rw[if_pos rfl,List.length_take]at hx;omega
  ·rw[if_neg e]at hx;exact hx
 ·rw[hcut,if_pos e.1,List.length_take]at hx
  omega
 ·rw[AB]
  exact B8 E.sl.hi hx
theorem zN.Du(E:zN t n g i c){r:Nat}(hr:r<(aW (outer t) i).length):
  (aW (outer t) i).getD r 0=(aW t.1 n).getD r 0+(((dB (aW t.1 n) (nT g i c) (aW (outer t) i).length).getD r []).length:Int):=by
 have hq:=E.sl.q0 r
 have hi:=E.ins r
 have hl:=E.cutl r
 rw[nJ hr,List.length_drop]
 omega
end
theorem BI{p:List Int}{n:Nat}(hp:dq p=true)(hn:n<p.length)(hc:p.getD (n+1) 0<p.getD n 0):fT (aW p n)=fT p-1:=by
 unfold aW
 split
 ·next h=>
  have hl:=tZ hp hc h
  rw[vK p n (by omega)]
  omega
 ·rw[rF p n _ hn]
  omega
end Go.Am.Pu
namespace Go.Am.Pu
end Go.Am.Pu
end
section
/- Taking the least number out of a plain tableau; evacuation. Plain words. -/
namespace Go.Am.Pu
theorem zN.out{t:Tab}{n:Nat}{g:List (List Int)}{i c:Nat}(E:zN t n g i c):
  outer (aW t.1 n,dB (aW t.1 n) (nT g i c) (aW (outer t) i).length)=aW (outer t) i:=by
 refine List.ext_getElem (by rw[cN];exact kC _ _ _) fun r h1 h2=> ?_
 rw[←aw h1 0,←aw h2 0]
 have h3:r<(dB (aW t.1 n) (nT g i c) (aW (outer t) i).length).length:=by rw[kC];exact h2
 have:=jj (aW t.1 n) (dB (aW t.1 n) (nT g i c) (aW (outer t) i).length) 0 r h3
 rw[Nat.zero_add]at this
 exact this.trans (E.Du h2).symm
theorem yN{t:Tab}(h:bz t=true){r:Nat}(hr:r<t.2.length):1≤(t.2.getD r []).length:=by
 have hl:=eA h hr
 have hp:=(eE (iH h)).1 ((outer t)[r]'(by rw[cN];exact hr)) (List.getElem_mem _)
 rw[aw (by rw[cN];exact hr)]at hl
 omega
theorem tV{t:Tab}(h:bz t=true):fT (outer t)=t.2.flatten.length:=by
 unfold outer
 exact mT t.1 t.2 0 fun q _=>by rw[iU h];rfl
end Go.Am.Pu
end
section
/- Promotion. Plain words. -/
namespace Go.Am.Pu
def Small(rs:List (List Int)):Prop:= ∀i q,-100≤(rs.getD i []).getD q 0∧(rs.getD i []).getD q 0≤100
end Go.Am.Pu
end
section
/- Slides undone. Plain words. -/
namespace Go.Am.Pu
def leftOf(g:List (List Int))(i c:Nat):Int:=if c=0 then 0 else cel g i (c-1)
def xh(g:List (List Int))(i c:Nat):Int:=if i=0 then 0 else cel g (i-1) c
def pk:Nat→List (List Int)→Nat→Nat→List (List Int)×(Nat×Nat)
 |0,g,i,c=>(g,(i,c))
 |m+1,g,i,c=>if leftOf g i c=0∧xh g i c=0 then(g,(i,c))
  else if leftOf g i c≤xh g i c then pk m (jo g i c (xh g i c)) (i-1) c
  else pk m (jo g i c (leftOf g i c)) i (c-1)
structure Ag (f : Int → Int) (g h : List (List Int)) (i c : Nat) : Prop where
  len : h.length = g.length
  row : ∀ r, (h.getD r []).length = (g.getD r []).length
  at_ : ∀ r x, ¬ (r = i ∧ x = c) → cel h r x = f (cel g r x)
def Inn(q:List Int)(g:List (List Int)):Prop:= ∀r x:Nat,(x:Int)<q.getD r 0→cel g r x=0
theorem Inn.step{q:List Int}{g:List (List Int)}{i c:Nat}(h:Inn q g)(hq:q.getD i 0≤c)(v:Int):Inn q (jo g i c v):=by
 intro r x hx
 by_cases e:r=i∧x=c
 ·obtain⟨rfl,rfl⟩:=e;omega
 ·rw[gh _ e];exact h r x hx
theorem Ag.right{f:Int→Int}{q:List Int}{g h:List (List Int)}{i c:Nat}(hs:Sl q g i c)(hi:Inn q g)(hf: ∀a b x y,cel g a b<cel g x y→f (cel g a b)<f (cel g x y))(f0:f 0=0)
  (hr:cel g i (c+1)≠0) (ha:Ag f (jo g i c (cel g i (c+1))) h i (c+1)):
  ∃h',Ag f g h' i c∧ ∀m,pk (m+1) h i (c+1)=pk m h' i c:=by
 obtain⟨b1,b2⟩:=u4 hr
 have f0': ∀a b,cel g a b=0→f (cel g a b)=0:=fun a b e=>by rw[e];exact f0
 have hl:leftOf h i (c+1)=f (cel g i (c+1)):=by
  unfold leftOf
  rw[if_neg (by omega),show c+1-1=c by omega,ha.at_ i c (by omega),iS _ hs.hi hs.hc]
 have hpos:0<f (cel g i (c+1)):=by
  have hp:=hs.pos i (c+1)
  have e:cel g g.length 0=0:=by unfold cel;rw[bo (Nat.le_refl _)];rfl
  have:=hf g.length 0 i (c+1) (by omega)
  rw[e,f0]at this
  exact this
 have hu:xh h i (c+1)<f (cel g i (c+1)):=by
  unfold xh
  by_cases e:i=0
  ·rw[if_pos e];exact hpos
  ·rw[if_neg e,ha.at_ _ _ (by omega),gh _ (by omega)]
   by_cases hq:q.getD (i-1) 0≤((c+1:Nat):Int)
   ·have hc:=hs.col (i-1) (c+1) hq (by rw[show i-1+1=i by omega];exact b2) (by omega) (by omega)
    rw[show i-1+1=i by omega]at hc
    exact hf _ _ _ _ hc
   ·rw[f0' _ _ (hi (i-1) (c+1) (by omega))];exact hpos
 have hhi:i<h.length:=by rw[ha.len,fX];exact b1
 have hhc:c+1<(h.getD i []).length:=by rw[ha.row,a8];exact b2
 refine⟨jo h i (c+1) (leftOf h i (c+1)),⟨by rw[fX,ha.len,fX],fun r=>by rw[a8,ha.row,a8],fun r x hn=> ?_⟩,fun m=> ?_⟩
 ·by_cases e:r=i∧x=c+1
  ·obtain⟨rfl,rfl⟩:=e
   rw[iS _ hhi hhc,hl]
  ·rw[gh _ e,ha.at_ r x e,gh _ hn]
 ·conv=>lhs;unfold pk
  rw[if_neg (by omega),if_neg (by omega)]
  rfl
def Occ(q:List Int)(v:Int)(g:List (List Int))(i c:Nat):Prop:= ∃r x:Nat,¬(r=i∧x=c)∧x<(g.getD r []).length∧q.getD r 0≤x∧cel g r x=v
theorem Occ.step{q:List Int}{v:Int}{g:List (List Int)}{i c a b:Nat}(h:Occ q v g i c)(hi:i<g.length)(hc:c<(g.getD i []).length)(hq:q.getD i 0≤c)(hne: ¬(a=i∧b=c)):Occ q v (jo g i c (cel g a b)) a b:=by
 obtain⟨r,x,h1,h2,h3,h4⟩:=h
 by_cases e:r=a∧x=b
 ·obtain⟨rfl,rfl⟩:=e
  exact⟨i,c,fun e=>hne ⟨e.1.symm,e.2.symm⟩,by rw[a8];exact hc,hq,by rw[iS _ hi hc];exact h4⟩
 ·exact⟨r,x,e,by rw[a8];exact h2,h3,by rw[gh _ h1];exact h4⟩
end Go.Am.Pu
end
section
/- Promotion of a standard tableau is standard, of the same shape, and can be undone. Plain words. -/
namespace Go.Am.Pu
theorem qN{t:Tab}(h0:t.1= [])(hp:dq (outer t)=true)(hn: ∀r x,r<t.2.length→x<(t.2.getD r []).length→1≤cel t.2 r x∧cel t.2 r x≤9)
  (hr: ∀r x,r<t.2.length→x+1<(t.2.getD r []).length→cel t.2 r x≤cel t.2 r (x+1)) (hc: ∀r x,r+1<t.2.length→x<(t.2.getD (r+1) []).length→cel t.2 r x<cel t.2 (r+1) x):bz t=true:=by
 simp only[bz,nG,mU,mg,Bool.and_eq_true,decide_eq_true_eq,h0]
 refine⟨⟨⟨rfl,by simp,rfl,hp,by simp,?_⟩,?_⟩,rfl⟩
 ·rw[eQ]
  intro i hi
  simp at hi
 ·rw[eQ]
  intro r hr'
  rw[eQ]
  intro k hk
  simp only[n7,within,Bool.and_eq_true,Bool.or_eq_true,decide_eq_true_eq]
  refine⟨hn r k hr' hk,?_,?_⟩
  ·by_cases e:k=0
   ·exact .inl e
   ·right
    have:=hr r (k-1) hr' (by omega)
    rw[show k-1+1=k by omega]at this
    exact this
  ·by_cases e:r=0
   ·exact .inl e
   ·right
    have:=hc (r-1) k (by omega) (by rw[show r-1+1=r by omega];exact hk)
    rw[show r-1+1=r by omega]at this
    rw[show(r:Int)-1=((r-1:Nat):Int) by omega,uI (by omega),h0]
    simp only[List.getD_nil]
    rw[show(0:Int)+(k:Int)-0=(k:Int) by omega,lB]
    exact this
theorem lX{t:Tab}(h:bz t=true):(∀r x,r<t.2.length→x<(t.2.getD r []).length→1≤cel t.2 r x∧cel t.2 r x≤9)∧(∀r x,r<t.2.length→x+1<(t.2.getD r []).length→cel t.2 r x≤cel t.2 r (x+1)):=by
 have h':=h
 simp only[bz,Bool.and_eq_true]at h'
 obtain⟨_,_,_,hc⟩:=zZ h'.1
 refine⟨fun r x hr hx=> ?_,fun r x hr hx=> ?_⟩
 ·have:=hc r x hr hx
  simp only[n7,within,Bool.and_eq_true,decide_eq_true_eq]at this
  exact this.1
 ·have:=hc r (x+1) hr hx
  simp only[n7,within,Bool.and_eq_true,Bool.or_eq_true,decide_eq_true_eq]at this
  exact this.2.1.resolve_left (by omega)
theorem kf{rs:List (List Int)}{r x:Nat}(hr:r<rs.length)(hx:x<(rs.getD r []).length):cel rs r x∈rs.flatten:=by
 refine List.mem_flatten.2 ⟨rs.getD r [],by rw[aw hr];exact List.getElem_mem hr,?_⟩
 unfold cel
 rw[aw hx]
 exact List.getElem_mem hx
theorem oU{rs:List (List Int)}{v:Int}(h:v∈rs.flatten): ∃r x,r<rs.length∧x<(rs.getD r []).length∧cel rs r x=v:=by
 obtain⟨l,hl,hv⟩:=List.mem_flatten.1 h
 obtain⟨r,hr,rfl⟩:=List.getElem_of_mem hl
 obtain⟨x,hx,rfl⟩:=List.getElem_of_mem hv
 have e:=aw hr ([]:List Int)
 refine⟨r,x,hr,by rw[e];exact hx,?_⟩
 unfold cel
 rw[e,aw hx]
theorem lM{t:Tab}(h:bz t=true)(hs:fS t=true):t.2.flatten.Nodup∧(∀x∈t.2.flatten,1≤x∧x≤t.2.flatten.length):=by
 simp only[fS,Bool.and_eq_true]at hs
 have h1:=wK hs.1
 obtain⟨a,b⟩:=(xN fun x hx=>(h1 x hx).1).1 hs.2
 exact⟨a,fun x hx=>⟨(h1 x hx).1,b x hx⟩⟩
end Go.Am.Pu
end
section
/- Promotion keeps shapes and standardness. Plain words. -/
namespace Go.Am.Pu
section
variable {t : Tab}
theorem Au{xs ys:List Int}{x:Nat}(h:x<xs.length):(xs++ys).getD x 0=xs.getD x 0:=by
 simp only[List.getD_eq_getElem?_getD,List.getElem?_append_left h]
theorem zW{xs ys:List Int}{x:Nat}(h:xs.length≤x):(xs++ys).getD x 0=ys.getD (x-xs.length) 0:=by
 simp only[List.getD_eq_getElem?_getD,List.getElem?_append_right h]
end
end Go.Am.Pu
end
section
/- Promotion undone: it is one to one. Plain words. -/
namespace Go.Am.Pu
def BU(t:Tab)(n:Nat):List (List Int):=
 (if n=t.2.length then fN t++ [[]]else fN t).set n ((if n=t.2.length then fN t++ [[]]else fN t).getD n []++ [0])
section
variable {t : Tab}
end
end Go.Am.Pu
end
section
/- Orbits of promotion come back. Plain words. -/
namespace Go.Am.Pu
structure Good (t : Tab) : Prop where
  pl : bz t = true
  st : fS t = true
  ne : t.2.flatten.length ≠ 0
end Go.Am.Pu
end
section
/- A slide outwards, as the program has it; demotion. Plain words. -/
namespace Go.Am.Pu
section
variable {u : Tab}
end
end Go.Am.Pu
end
section
/- The last promotion of an orbit; orbits' sizes. Plain words. -/
namespace Go.Am.Pu
def yZ(t:Tab):Prop:=t.1= []∧dz 10 10 t.2
theorem yZ.ok{t:Tab}(h:yZ t):Bf t:=⟨by rw[h.1];simp,by have:=h.2.1;omega,fun r hr=>by have:=h.2.2 r hr;omega⟩
theorem yZ.size{t:Tab}(h:yZ t):wh t.2≤100:=by
 have a:=xu t.2 10 h.2.2
 have b:=h.2.1
 omega
section
attribute [local instance] D.real
variable {α β : Type} {x y v : Option α}
theorem bE{x:Option β}{z:β}{f:β→Option α}(h:x=some z)(g:f z=v):D.bnd x f=v:=by rw[h];exact g
theorem tN(g:x=v):D.test (D.no true) y x=v:=g
theorem tM(g:y=v):D.test (D.no false) y x=v:=g
theorem tG{p:Prop} [Decidable p](h:p)(g:x=v):D.test (decide p) x y=v:=by
 show(if decide p=true then x else y)=v
 rw[if_pos (decide_eq_true h)];exact g
theorem tX{p:Prop} [Decidable p](h: ¬p)(g:y=v):D.test (decide p) x y=v:=by
 show(if decide p=true then x else y)=v
 rw[decide_eq_false h];exact g
end
end Go.Am.Pu
end
section
/- The rewriting rules of the plain laws, in one. -/
namespace Go.Am.Pu
open Go Go.Am
attribute [local instance] D.real
theorem sss:type_of% @jQ∧type_of% @js∧type_of% @fm∧type_of% @gB∧type_of% @gP∧type_of% @ez∧type_of% @eD∧type_of% @e9∧type_of% @jL∧type_of% @fV∧type_of% @gQ∧type_of% @ef∧type_of% @ep∧type_of% @gG∧type_of% @cX∧type_of% @eY∧type_of% @gC∧type_of% @jl∧type_of% @jx∧type_of% @gM∧type_of% @gO∧type_of% @iy∧type_of% @w64∧type_of% @Int.toNat_natCast∧type_of% @decide_eq_true_eq∧type_of% @Int.ofNat_lt∧type_of% @Int.ofNat_le∧type_of% @Int.natCast_nonneg∧type_of% @decide_true∧type_of% @decide_false∧type_of% @Bool.not_true∧type_of% @Bool.not_false∧type_of% @Bool.false_eq_true∧type_of% @Bool.not_eq_true∧type_of% @Bool.true_and∧type_of% @Bool.and_true∧type_of% @Bool.false_and∧type_of% @Bool.and_false:=
 ⟨@jQ,@js,@fm,@gB,@gP,@ez,@eD,@e9,@jL,@fV,@gQ,@ef,@ep,@gG,@cX,@eY,@gC,@jl,@jx,@gM,@gO,@iy,@w64,@Int.toNat_natCast,@decide_eq_true_eq,@Int.ofNat_lt,@Int.ofNat_le,@Int.natCast_nonneg,@decide_true,@decide_false,@Bool.not_true,@Bool.not_false,@Bool.false_eq_true,@Bool.not_eq_true,@Bool.true_and,@Bool.and_true,@Bool.false_and,@Bool.and_false⟩
end Go.Am.Pu
end
section
/- Cells taken out of plain tableaux, one behind another. Plain words. -/
namespace Go.Am.Pu
def pd(rs:List (List Int)):Prop:= ∀i,i+1<rs.length→(rs.getD (i+1) []).length≤(rs.getD i []).length∧ ∀q,q<(rs.getD (i+1) []).length→(rs.getD i []).getD q 0<(rs.getD (i+1) []).getD q 0
theorem rO{r:List Int}{y:Int}: ∀{m q:Nat},kH r y m=some q→ ∀c,q<c→c<m→y≤r.getD c 0
 |0,q,h,_,_,_=>by simp[kH]at h
 |m+1,q,h,c,h1,h2=>by
  unfold kH at h
  split at h
  ·next hc=>injection h with h;omega
  ·next hc=>
   by_cases e:c=m
   ·subst e;omega
   ·exact rO h c h1 (by omega)
theorem pN: ∀(r:Nat) (rs:List (List Int)) (y:Int),(lq r rs y).1.length=rs.length∧ ∀i,((lq r rs y).1.getD i []).length=(rs.getD i []).length
 |0,_,_=>⟨rfl,fun _=>rfl⟩
 |r+1,rs,y=>by
  unfold lq
  split
  ·next q hq=>
   obtain⟨a,b⟩:=pN r (rs.set r ((rs.getD r []).set q y)) ((rs.getD r []).getD q 0)
   refine⟨by rw[a,List.length_set],fun i=> ?_⟩
   rw[b]
   by_cases e:i=r
   ·subst e
    by_cases h:i<rs.length
    ·rw[aw (by rw[List.length_set];exact h),List.getElem_set_self,List.length_set]
    ·rw[bo (by rw[List.length_set];omega),bo (xs:=rs) (by omega)]
   ·rw[getD_set_ne (Ne.symm e)]
  ·exact pN r rs y
theorem uC: ∀(r:Nat) (rs:List (List Int)) (y:Int) (q:Nat),r<rs.length→(∀i,i+1<r→(rs.getD (i+1) []).length≤(rs.getD i []).length∧ ∀q,q<(rs.getD (i+1) []).length→(rs.getD i []).getD q 0<(rs.getD (i+1) []).getD q 0)→
  (∀i,r≤i→i+1<rs.length→(rs.getD (i+1) []).length≤(rs.getD i []).length∧ ∀q,q<(rs.getD (i+1) []).length→(rs.getD i []).getD q 0<(rs.getD (i+1) []).getD q 0)→
  (∀i,i+1=r→(rs.getD r []).length≤(rs.getD i []).length∧q<(rs.getD i []).length∧(rs.getD i []).getD q 0<y∧(∀c,c<(rs.getD r []).length→c≠q→(rs.getD i []).getD c 0<(rs.getD r []).getD c 0)∧(∀c,q≤c→c<(rs.getD r []).length→y<(rs.getD r []).getD c 0))→
  pd (lq r rs y).1
 |0,rs,y,q,hr,_,hB,_=>fun i hi=>hB i (Nat.zero_le _) hi
 |r+1,rs,y,q,hr,hA,hB,hI=>by
  obtain⟨i1,i2,i3,i4,i5⟩:=hI r rfl
  obtain⟨q0,hq0⟩:=uv i2 i3
  have hmax:=rO hq0
  obtain⟨k1,k2⟩:=qy hq0
  have hqq:q≤q0:=Nat.le_of_not_lt fun hlt=>by
   have:=hmax q hlt i2
   omega
  unfold lq
  rw[hq0]
  have hrow:(rs.set r ((rs.getD r []).set q0 y)).getD r []=(rs.getD r []).set q0 y:=by
   rw[aw (by rw[List.length_set];omega),List.getElem_set_self]
  have hne: ∀i,i≠r→(rs.set r ((rs.getD r []).set q0 y)).getD i []=rs.getD i []:=fun i h=>getD_set_ne (Ne.symm h) _ _
  have hset: ∀c,c≠q0→((rs.getD r []).set q0 y).getD c 0=(rs.getD r []).getD c 0:=fun c h=>getD_set_ne (Ne.symm h) _ _
  have hself:((rs.getD r []).set q0 y).getD q0 0=y:=by rw[aw (by rw[List.length_set];exact k1),List.getElem_set_self]
  refine uC r _ _ q0 (by rw[List.length_set];omega) (fun i hi=> ?_) (fun i hi hl=> ?_) (fun i hi=> ?_)
  ·rw[hne _ (by omega),hne _ (by omega)]
   exact hA i (by omega)
  ·rw[List.length_set]at hl
   by_cases e:i=r
   ·subst e
    rw[hne (i+1) (by omega),hrow,List.length_set]
    refine⟨i1,fun c hc=> ?_⟩
    by_cases e2:c=q0
    ·subst e2;rw[hself];exact i5 c hqq hc
    ·rw[hset c e2]
     by_cases e3:c=q
     ·subst e3
      have:=i5 c (Nat.le_refl _) hc
      omega
     ·exact i4 c hc e3
   ·rw[hne (i+1) (by omega),hne i e]
    exact hB i (by omega) hl
  ·subst hi
   obtain⟨a1,a2⟩:=hA i (by omega)
   rw[hrow,hne i (by omega),List.length_set]
   refine⟨a1,by omega,a2 q0 k1,fun c hc e=> ?_,fun c h1 h2=> ?_⟩
   ·rw[hset c e];exact a2 c hc
   ·by_cases e:c=q0
    ·subst e;rw[hself];exact k2
    ·rw[hset c e]
     have:=hmax c (by omega) h2
     omega
def bC(rs:List (List Int))(r:Nat):List (List Int):=
 if(rs.getD r []).length=1 then(rs.set r ((rs.getD r []).take ((rs.getD r []).length-1))).take r else rs.set r ((rs.getD r []).take ((rs.getD r []).length-1))
def de(a b:List (List Int)):Prop:=a.length=b.length∧ ∀i,(a.getD i []).length=(b.getD i []).length
theorem getD_take{α:Type}{l:List α}{n i:Nat}(h:i<n)(d:α):(l.take n).getD i d=l.getD i d:=by
 simp only[List.getD_eq_getElem?_getD,List.getElem?_take,if_pos h]
theorem tY{a b:List (List Int)}(h:de a b)(n:Nat):de (a.take n) (b.take n):=by
 refine⟨by rw[List.length_take,List.length_take,h.1],fun i=> ?_⟩
 by_cases hi:i<n
 ·rw[getD_take hi,getD_take hi];exact h.2 i
 ·rw[bo (xs:=a.take n) (by rw[List.length_take];omega),bo (xs:=b.take n) (by rw[List.length_take];omega)]
theorem vu(rs:List (List Int))(r:Nat):de (ku rs r).1 (bC rs r):=by
 have a:=pN r (rs.set r ((rs.getD r []).take ((rs.getD r []).length-1))) ((rs.getD r []).getD ((rs.getD r []).length-1) 0)
 unfold ku bC
 simp only
 split
 ·exact tY a r
 ·exact a
theorem xA{a b:List (List Int)}(h:de a b)(r:Nat):de (bC a r) (bC b r):=by
 have hs:de (a.set r ((a.getD r []).take ((a.getD r []).length-1))) (b.set r ((b.getD r []).take ((b.getD r []).length-1))):=by
  refine⟨by rw[List.length_set,List.length_set,h.1],fun i=> ?_⟩
  by_cases e:i=r
  ·subst e
   by_cases hi:i<a.length
   ·rw[aw (xs:=a.set _ _) (by rw[List.length_set];exact hi),List.getElem_set_self,aw (xs:=b.set _ _) (by rw[List.length_set,←h.1];exact hi),List.getElem_set_self,List.length_take,List.length_take,h.2 i]
   ·rw[bo (xs:=a.set _ _) (by rw[List.length_set];omega),bo (xs:=b.set _ _) (by rw[List.length_set,←h.1];omega)]
  ·rw[getD_set_ne (Ne.symm e),getD_set_ne (Ne.symm e)];exact h.2 i
 unfold bC
 rw[h.2 r]
 split
 ·rw[←h.2 r];rw[h.2 r]at*;exact tY hs r
 ·rw[h.2 r]at hs;exact hs
theorem de.trans{a b c:List (List Int)}(h:de a b)(h':de b c):de a c:=⟨h.1.trans h'.1,fun i=>(h.2 i).trans (h'.2 i)⟩
theorem Bg{rs:List (List Int)}(h:pd rs)(n:Nat):pd (rs.take n):=by
 intro i hi
 rw[List.length_take]at hi
 rw[getD_take (by omega),getD_take (by omega)]
 exact h i (by omega)
theorem wG{rs:List (List Int)}{r:Nat}(h:pd rs)(hr:r<rs.length)(hl:1≤(rs.getD r []).length)(hc:(rs.getD (r+1) []).length<(rs.getD r []).length):pd (ku rs r).1:=by
 have hrow:(rs.set r ((rs.getD r []).take ((rs.getD r []).length-1))).getD r []=(rs.getD r []).take ((rs.getD r []).length-1):=by
  rw[aw (by rw[List.length_set];exact hr),List.getElem_set_self]
 have hne: ∀i,i≠r→(rs.set r ((rs.getD r []).take ((rs.getD r []).length-1))).getD i []=rs.getD i []:=fun i h=>getD_set_ne (Ne.symm h) _ _
 have key:pd (lq r (rs.set r ((rs.getD r []).take ((rs.getD r []).length-1))) ((rs.getD r []).getD ((rs.getD r []).length-1) 0)).1:=by
  refine uC r _ _ ((rs.getD r []).length-1) (by rw[List.length_set];exact hr) (fun i hi=> ?_) (fun i hi hil=> ?_) (fun i hi=> ?_)
  ·rw[hne _ (by omega),hne _ (by omega)];exact h i (by omega)
  ·rw[List.length_set]at hil
   by_cases e:i=r
   ·subst e
    rw[hne (i+1) (by omega),hrow,List.length_take]
    refine⟨by omega,fun c hc'=> ?_⟩
    rw[getD_take (by omega)]
    exact(h i hil).2 c hc'
   ·rw[hne (i+1) (by omega),hne i e];exact h i hil
  ·subst hi
   obtain⟨a1,a2⟩:=h i hr
   rw[hrow,hne i (by omega),List.length_take]
   refine⟨by omega,by omega,a2 _ (by omega),fun c h1 h2=> ?_,fun c h1 h2=>by omega⟩
   rw[getD_take (by omega)]
   exact a2 c (by omega)
 unfold ku
 simp only
 split
 ·exact Bg key r
 ·exact key
end Go.Am.Pu
end
section
/- The greatest number of a standard tableau, and the tableau without it; a pair of tableaux unrolled. Plain words. -/
namespace Go.Am.Pu
section
variable {t : Tab}
theorem rm(h:bz t=true)(hs:fS t=true){a b x y:Nat}(ha:a<t.2.length)(hx:x<(t.2.getD a []).length)(hb:b<t.2.length)(hy:y<(t.2.getD b []).length)(e:cel t.2 a x=cel t.2 b y):a=b∧x=y:=by
 have nd:=(lM h hs).1
 rw[List.Nodup,List.pairwise_flatten]at nd
 have mem: ∀{r z:Nat},r<t.2.length→(hz:z<(t.2.getD r []).length)→cel t.2 r z∈t.2.getD r []:=fun{r z} _ hz=>by
  unfold cel
  rw[aw hz]
  exact List.getElem_mem hz
 have ab: ∀{a b x y:Nat},a<b→a<t.2.length→x<(t.2.getD a []).length→b<t.2.length→y<(t.2.getD b []).length→cel t.2 a x≠cel t.2 b y:=fun{a b x y} hab ha hx hb hy=>by
  have:=List.pairwise_iff_getElem.1 nd.2 a b ha hb hab
  exact this _ (by rw[←aw ha []];exact mem ha hx) _ (by rw[←aw hb []];exact mem hb hy)
 have e1:a=b:=by
  rcases Nat.lt_trichotomy a b with hl|hl|hl
  ·exact absurd e (ab hl ha hx hb hy)
  ·exact hl
  ·exact absurd e.symm (ab hl hb hy ha hx)
 subst e1
 refine⟨rfl,?_⟩
 have n2:=nd.1 _ (by rw[aw ha];exact List.getElem_mem ha:t.2.getD a []∈t.2)
 unfold cel at e
 rw[aw hx,aw hy]at e
 rcases Nat.lt_trichotomy x y with hl|hl|hl
 ·exact absurd e (List.pairwise_iff_getElem.1 n2 x y hx hy hl)
 ·exact hl
 ·exact absurd e.symm (List.pairwise_iff_getElem.1 n2 y x hy hx hl)
theorem iJ(h:bz t=true)(hs:fS t=true){a x:Nat}{v:Int}(ha:a<t.2.length)(hx:x<(t.2.getD a []).length)(e:cel t.2 a x=v):rowOf t v=a:=by
 have hf:t.2.findIdx (fun r=>has r v)=a:=by
  rw[List.findIdx_eq ha]
  refine⟨?_,fun j hj=> ?_⟩
  ·rw[←aw ha [],re,←e]
   unfold cel
   rw[aw hx]
   exact List.getElem_mem hx
  ·rw[Bool.eq_false_iff]
   intro hc
   rw[re]at hc
   obtain⟨y,hy,e2⟩:=List.getElem_of_mem hc
   have hjl:j<t.2.length:=by omega
   have hy':y<(t.2.getD j []).length:=by rw[aw hjl];exact hy
   have e3:cel t.2 j y=v:=by
    unfold cel
    rw[aw hy']
    simp only[aw hjl]
    exact e2
   have:=rm h hs hjl hy' ha hx (by rw[e,e3])
   omega
 unfold rowOf Aq
 rw[hf,if_pos ha]
theorem AY(h:bz t=true)(hs:fS t=true)(hn:t.2.flatten.length≠0): ∃a:Nat,a<t.2.length∧1≤(t.2.getD a []).length∧cel t.2 a ((t.2.getD a []).length-1)=t.2.flatten.length∧(t.2.getD (a+1) []).length<(t.2.getD a []).length∧rowOf t t.2.flatten.length=a:=by
 have ho:ke t.2.flatten=true:=by
  have:=hs
  simp only[fS,Bool.and_eq_true]at this
  exact this.2
 obtain⟨a,x,ha,hx,e⟩:=oU (jR.1 ho t.2.flatten.length (fU.2 (by omega)))
 have hb:=(lM h hs).2
 obtain⟨c1,c2⟩:=lX h
 have hx1:x+1=(t.2.getD a []).length:=by
  refine Nat.le_antisymm hx (Nat.le_of_not_lt fun hlt=> ?_)
  have k1:=c2 a x ha hlt
  have k2:=(hb _ (kf ha hlt)).2
  have:=rm h hs ha hx ha hlt (by omega)
  omega
 have hbel:(t.2.getD (a+1) []).length≤x:=by
  refine Nat.le_of_not_lt fun hlt=> ?_
  have ha1:a+1<t.2.length:=Nat.lt_of_not_le fun hle=>by rw[bo hle]at hlt;simp at hlt
  have k1:=(n0 h a ha1).2 x hlt
  have k2:=(hb _ (kf ha1 hlt)).2
  unfold cel at e k2
  omega
 refine⟨a,ha,by omega,by rw[show(t.2.getD a []).length-1=x by omega];exact e,by omega,iJ h hs ha hx e⟩
theorem nQ{rs:List (List Int)}{a:Nat}(ha:a<rs.length)(hc:(rs.getD (a+1) []).length<(rs.getD a []).length)(hp: ∀r,r<rs.length→1≤(rs.getD r []).length)(r:Nat):(bC rs a).getD r []=if r=a then(rs.getD a []).take ((rs.getD a []).length-1)else rs.getD r []:=by
 have hset:(rs.set a ((rs.getD a []).take ((rs.getD a []).length-1))).getD r []=if r=a then(rs.getD a []).take ((rs.getD a []).length-1)else rs.getD r []:=by
  by_cases e:r=a
  ·subst e;rw[if_pos rfl,aw (by rw[List.length_set];exact ha),List.getElem_set_self]
  ·rw[if_neg e,getD_set_ne (Ne.symm e)]
 unfold bC
 split
 ·next h1=>
  by_cases hr:r<a
  ·rw[getD_take hr,hset]
  ·rw[bo (by rw[List.length_take];omega)]
   by_cases e:r=a
   ·subst e;rw[if_pos rfl,h1];rfl
   ·rw[if_neg e]
    have hlast:rs.length≤a+1:=Nat.le_of_not_lt fun hlt=>by
     have:=hp (a+1) hlt
     omega
    rw[bo (by omega)]
 ·exact hset
theorem sg{rs:List (List Int)}{a:Nat}(ha:a<rs.length):(bC rs a).length=if(rs.getD a []).length=1 then a else rs.length:=by
 unfold bC
 split
 ·rw[List.length_take,List.length_set];omega
 ·rw[List.length_set]
theorem Cz(h:bz t=true)(hs:fS t=true){a:Nat}(hn:t.2.flatten.length≠0)(ha:a<t.2.length)(h1:1≤(t.2.getD a []).length)(htop:cel t.2 a ((t.2.getD a []).length-1)=t.2.flatten.length)(hc:(t.2.getD (a+1) []).length<(t.2.getD a []).length):
  bz (([],bC t.2 a):Tab)=true∧fS (([],bC t.2 a):Tab)=true∧(bC t.2 a).flatten.length+1=t.2.flatten.length∧ ∀v,1≤v→v<(t.2.flatten.length:Int)→rowOf ([],bC t.2 a) v=rowOf t v:=by
 have hpos:=fun r (hr:r<t.2.length)=>yN h hr
 have hrow:=nQ ha hc hpos
 have hlen:=sg ha
 obtain⟨c1,c2⟩:=lX h
 have c3:=n0 h
 have hcorner:(outer t).getD (a+1) 0<(outer t).getD a 0:=by
  rw[eA h ha]
  by_cases e:a+1<t.2.length
  ·rw[eA h e];omega
  ·rw[bo (by rw[cN];omega)];omega
 have hal:a<(outer t).length:=by rw[cN];exact ha
 have hout:outer (([],bC t.2 a):Tab)=aW (outer t) a:=by
  have hdl:(aW (outer t) a).length=(bC t.2 a).length:=by
   rw[hlen]
   unfold aW
   rw[eA h ha]
   by_cases e:(t.2.getD a []).length=1
   ·rw[if_pos (by omega),if_pos e,List.length_take,cN];omega
   ·rw[if_neg (by omega),if_neg e,List.length_set,cN]
  refine List.ext_getElem (by rw[cN,hdl]) fun r k1 k2=> ?_
  rw[←aw k1 0,←aw k2 0,sR (iH h) hal hcorner]
  have k3:r<(bC t.2 a).length:=by rw[cN]at k1;exact k1
  have:=jj [] (bC t.2 a) 0 r k3
  unfold outer at this⊢
  rw[this,hrow]
  have hrl:r<t.2.length:=by
   rw[hlen]at k3
   split at k3<;>omega
  have po:=eA h hrl
  have pa:=eA h ha
  unfold outer at po pa
  by_cases e:r=a
  ·subst e
   rw[if_pos rfl,if_pos rfl,List.length_take,pa]
   simp only[List.getD_nil]
   omega
  ·rw[if_neg e,if_neg e,po]
   simp only[List.getD_nil]
   omega
 have hcel: ∀{r x:Nat},x<((bC t.2 a).getD r []).length→x<(t.2.getD r []).length∧cel (bC t.2 a) r x=cel t.2 r x:=fun{r x} hx=>by
  unfold cel
  rw[hrow]at hx⊢
  by_cases e:r=a
  ·subst e
   rw[if_pos rfl,List.length_take]at hx
   rw[if_pos rfl,getD_take (by omega)]
   exact⟨by omega,rfl⟩
  ·rw[if_neg e]at hx⊢
   exact⟨hx,rfl⟩
 have hrl: ∀{r:Nat},r<(bC t.2 a).length→r<t.2.length:=fun{r} hr=>by
  rw[hlen]at hr
  split at hr<;>omega
 have hin: ∀{r x:Nat},x<(t.2.getD r []).length→ ¬(r=a∧x+1=(t.2.getD a []).length)→x<((bC t.2 a).getD r []).length:=fun{r x} hx hne=>by
  rw[hrow]
  by_cases e:r=a
  ·subst e
   rw[if_pos rfl,List.length_take]
   have: ¬x+1=(t.2.getD r []).length:=fun e=>hne ⟨rfl,e⟩
   omega
  ·rw[if_neg e];exact hx
 have hpl:bz (([],bC t.2 a):Tab)=true:=by
  refine qN rfl (by rw[hout];exact zt (iH h) hal hcorner) (fun r x hr hx=> ?_) (fun r x hr hx=> ?_) (fun r x hr hx=> ?_)
  ·obtain⟨k1,k2⟩:=hcel hx
   rw[k2];exact c1 r x (hrl hr) k1
  ·obtain⟨k1,k2⟩:=hcel hx
   obtain⟨_,k4⟩:=hcel (show x<((bC t.2 a).getD r []).length from Nat.lt_of_succ_lt hx)
   rw[k2,k4];exact c2 r x (hrl hr) k1
  ·obtain⟨k1,k2⟩:=hcel hx
   have hr1:=hrl hr
   obtain⟨d1,d2⟩:=c3 r hr1
   have hxr:x<((bC t.2 a).getD r []).length:=by
    refine hin (by omega) fun e=> ?_
    rw[e.1]at k1
    omega
   obtain⟨_,k4⟩:=hcel hxr
   rw[k2,k4]
   exact d2 x k1
 have hfl:(bC t.2 a).flatten.length+1=t.2.flatten.length:=by
  have e1:=tV hpl
  rw[hout,BI (iH h) hal hcorner,tV h]at e1
  simp only at e1
  omega
 have ho:ke t.2.flatten=true:=by
  have:=hs
  simp only[fS,Bool.and_eq_true]at this
  exact this.2
 have hcells: ∀v,1≤v→v<(t.2.flatten.length:Int)→ ∃r x,r<(bC t.2 a).length∧x<((bC t.2 a).getD r []).length∧cel (bC t.2 a) r x=v∧r<t.2.length∧x<(t.2.getD r []).length∧cel t.2 r x=v:=by
  intro v v1 v2
  obtain⟨r,x,hr,hx,e⟩:=oU (jR.1 ho v (fU.2 (by omega)))
  have hx':x<((bC t.2 a).getD r []).length:=by
   refine hin hx fun e2=> ?_
   rw[e2.1,show x=(t.2.getD a []).length-1 by omega,htop]at e
   omega
  exact⟨r,x,Nat.lt_of_not_le fun hle=>by rw[bo hle]at hx';simp at hx',hx',by rw[(hcel hx').2];exact e,hr,hx,e⟩
 have hst:fS (([],bC t.2 a):Tab)=true:=by
  have hp':=hpl
  simp only[bz,Bool.and_eq_true]at hp'
  simp only[fS,Bool.and_eq_true]
  refine⟨hp'.1,jR.2 fun v hv=> ?_⟩
  rw[fU]at hv
  obtain⟨r,x,q1,q2,q3,_⟩:=hcells v hv.1 (by omega)
  rw[←q3]
  exact kf q1 q2
 refine⟨hpl,hst,hfl,fun v v1 v2=> ?_⟩
 obtain⟨r,x,q1,q2,q3,q4,q5,q6⟩:=hcells v v1 v2
 rw[iJ h hs q4 q5 q6,iJ hpl hst q1 q2 q3]
end
structure Unr (q : Tab) (k : Nat) (P Q : List (List Int)) : Prop where
  pl : bz (([], Q) : Tab) = true
  st : fS (([], Q) : Tab) = true
  fl : Q.flatten.length = k
  col : pd P
  same : de P Q
  p9 : dz 9 9 P
  row : ∀ v, 1 ≤ v → v ≤ (k : Int) → rowOf ([], Q) v = rowOf q v
theorem Unr.step{q:Tab}{k:Nat}{P Q:List (List Int)}(h:Unr q (k+1) P Q): ∃a:Nat,rowOf q ((k+1:Nat):Int)=a∧a<Q.length∧1≤(Q.getD a []).length∧cel Q a ((Q.getD a []).length-1)=(k+1:Nat)∧(Q.getD (a+1) []).length<(Q.getD a []).length∧Unr q k (ku P a).1 (bC Q a):=by
 have hfl:(([],Q):Tab).2.flatten.length=k+1:=h.fl
 obtain⟨a,a1,a2,a3,a4,a5⟩:=AY h.pl h.st (by omega)
 obtain⟨b1,b2,b3,b4⟩:=Cz h.pl h.st (by omega) a1 a2 a3 a4
 simp only at a1 a2 a3 a4 b3
 have hP1:a<P.length:=by rw[h.same.1];exact a1
 refine⟨a,?_,a1,a2,by rw[a3,h.fl],a4,⟨b1,b2,by have:=h.fl;omega,wG h.col hP1 (by rw[h.same.2];exact a2) (by rw[h.same.2,h.same.2];exact a4),(vu P a).trans (xA h.same a),uU h.p9 a,fun v v1 v2=> ?_⟩⟩
 ·rw[←h.row _ (by omega) (Int.le_refl _),←a5,hfl]
 ·rw[b4 v v1 (by rw[hfl];omega)]
  exact h.row v v1 (by omega)
end Go.Am.Pu
namespace Go.Am.Pu
end Go.Am.Pu
end
section
/- Insertion keeps tableaux; where the new cells lie; a tableau from its word. Plain words. -/
namespace Go.Am.Pu
def kT(r:List Int):Prop:= ∀i,i+1<r.length→r.getD i 0≤r.getD (i+1) 0
theorem kT.le{r:List Int}(h:kT r): ∀(d i:Nat),i+d<r.length→r.getD i 0≤r.getD (i+d) 0
 |0,i,_=>Int.le_refl _
 |d+1,i,hi=>by
  have a:=kT.le h d i (by omega)
  have b:=h (i+d) (by omega)
  rw[show i+(d+1)=i+d+1 by omega]
  omega
theorem kT.mono{r:List Int}(h:kT r){i j:Nat}(hij:i≤j)(hj:j<r.length):r.getD i 0≤r.getD j 0:=by
 have:=h.le (j-i) i (by omega)
 rw[show i+(j-i)=j by omega]at this
 exact this
def fst(r:List Int)(x:Int):Nat:=r.findIdx fun n=>decide (x<n)
theorem uZ{r:List Int}{x:Int}:fst r x≤r.length:=List.findIdx_le_length
theorem AP{r:List Int}{x:Int}(h:fst r x<r.length):x<r.getD (fst r x) 0:=by
 have:=yC (p:=fun n=>decide (x<n)) h
 exact of_decide_eq_true this
theorem vE{r:List Int}{x:Int}{i:Nat}(h:i<fst r x):r.getD i 0≤x:=by
 have h1:i<r.length:=Nat.lt_of_lt_of_le h uZ
 have h2:=List.not_of_lt_findIdx h
 rw[aw h1]
 exact Int.not_lt.1 (of_decide_eq_false h2)
theorem fA(r:List Int)(rs:List (List Int))(x:Int):bj (r::rs) x=if fst r x<r.length then(r.set (fst r x) x::(bj rs (r.getD (fst r x) 0)).1,(bj rs (r.getD (fst r x) 0)).2+1)else((r++ [x])::rs,0):=rfl
def CW(r:List Int):List (List Int)→Prop
 | []=>True
 |s::_=>s.length≤r.length∧ ∀q,q<s.length→r.getD q 0<s.getD q 0
def SSR:List (List Int)→Prop
 | []=>True
 |r::rs=>0<r.length∧kT r∧CW r rs∧SSR rs
theorem fb{r:List Int}{i:Nat}(x:Int)(h:i<r.length)(q:Nat):(r.set i x).getD q 0=if q=i then x else r.getD q 0:=by
 by_cases e:q=i
 ·subst e;rw[if_pos rfl,aw (by rw[List.length_set];exact h),List.getElem_set_self]
 ·rw[if_neg e,getD_set_ne (Ne.symm e)]
theorem cO{r:List Int}(x:Int)(q:Nat):(r++ [x]).getD q 0=if q=r.length then x else r.getD q 0:=by
 by_cases h:q<r.length
 ·rw[Au h,if_neg (by omega)]
 ·rw[zW (by omega)]
  by_cases e:q=r.length
  ·rw[if_pos e,e,Nat.sub_self];rfl
  ·rw[if_neg e,bo (by simp;omega),bo (by omega)]
theorem Cr{r:List Int}{x:Int}(h:kT r)(hf:fst r x<r.length):kT (r.set (fst r x) x):=by
 intro i hi
 rw[List.length_set]at hi
 rw[fb x hf,fb x hf]
 have h0:=h i hi
 by_cases e1:i=fst r x
 ·rw[if_pos e1,if_neg (by omega)]
  have:=AP hf
  rw[←e1]at this
  omega
 ·rw[if_neg e1]
  by_cases e2:i+1=fst r x
  ·rw[if_pos e2];exact vE (by omega)
  ·rw[if_neg e2];exact h0
theorem Ct{r:List Int}{x:Int}(h:kT r)(hf: ¬fst r x<r.length):kT (r++ [x]):=by
 intro i hi
 rw[List.length_append,List.length_singleton]at hi
 rw[cO,cO,if_neg (by omega)]
 by_cases e:i+1=r.length
 ·rw[if_pos e]
  have:= @uZ r x
  exact vE (by omega)
 ·rw[if_neg e];exact h i (by omega)
theorem AW{r:List Int}{x:Int}{rs:List (List Int)}(h:kT r)(hf:fst r x<r.length)(ho:CW r rs):CW (r.set (fst r x) x) (bj rs (r.getD (fst r x) 0)).1:=by
 have hy:=AP hf
 have hle: ∀q,q<r.length→(r.set (fst r x) x).getD q 0≤r.getD q 0:=fun q hq=>by
  rw[fb x hf]
  split
  ·next e=>rw[e];omega
  ·exact Int.le_refl _
 have hlow: ∀p,p≤fst r x→(r.set (fst r x) x).getD p 0<r.getD (fst r x) 0:=fun p hp=>by
  rw[fb x hf]
  split
  ·exact hy
  ·have:=vE (r:=r) (x:=x) (i:=p) (by omega)
   omega
 cases rs with
 |nil=>
  show([r.getD (fst r x) 0]:List Int).length≤_∧_
  refine⟨by rw[List.length_set];simp;omega,fun q hq=> ?_⟩
  have e:q=0:=by simp at hq;exact hq
  subst e
  exact hlow 0 (by omega)
 |cons s rs=>
  obtain⟨o1,o2⟩:=ho
  have hp:fst s (r.getD (fst r x) 0)≤fst r x:=by
   refine Nat.le_of_not_lt fun hlt=> ?_
   have hs:fst r x<s.length:=Nat.lt_of_lt_of_le hlt uZ
   have a:=vE hlt
   have b:=o2 _ hs
   omega
  rw[fA]
  by_cases c:fst s (r.getD (fst r x) 0)<s.length
  ·rw[if_pos c]
   refine⟨by rw[List.length_set,List.length_set];exact o1,fun q hq=> ?_⟩
   rw[List.length_set]at hq
   rw[fb (r:=s) _ c]
   split
   ·next e=>rw[e];exact hlow _ hp
   ·have a:=hle q (by omega)
    have b:=o2 q hq
    omega
  ·rw[if_neg c]
   have hsl:fst s (r.getD (fst r x) 0)=s.length:=Nat.le_antisymm uZ (Nat.le_of_not_lt c)
   refine⟨by rw[List.length_set,List.length_append,List.length_singleton];omega,fun q hq=> ?_⟩
   rw[List.length_append,List.length_singleton]at hq
   rw[cO]
   split
   ·next e=>rw[e];exact hlow _ (by omega)
   ·have a:=hle q (by omega)
    have b:=o2 q (by omega)
    omega
theorem zf: ∀(rs:List (List Int)) (x:Int),SSR rs→SSR (bj rs x).1
 | [],x,_=>⟨by simp,fun i hi=>by simp at hi,trivial,trivial⟩
 |r::rs,x,h=>by
  obtain⟨h1,h2,h3,h4⟩:=h
  rw[fA]
  split
  ·next c=>exact⟨by rw[List.length_set];exact h1,Cr h2 c,AW h2 c h3,zf rs _ h4⟩
  ·next c=>
   refine⟨by simp,Ct h2 c,?_,h4⟩
   cases rs with
   |nil=>trivial
   |cons s rs=>
    obtain⟨o1,o2⟩:=h3
    refine⟨by rw[List.length_append];omega,fun q hq=> ?_⟩
    rw[cO,if_neg (by omega)]
    exact o2 q hq
end Go.Am.Pu
end
section
/- Plain tableaux, row by row; a tableau from its word; words inserted. Plain words. -/
namespace Go.Am.Pu
theorem vI: ∀{rs:List (List Int)},SSR rs→ ∀r,r<rs.length→0<(rs.getD r []).length∧kT (rs.getD r [])
 |r::rs,h,0,_=>⟨h.1,h.2.1⟩
 |r::rs,h,q+1,hq=>vI h.2.2.2 q (by simpa using hq)
theorem u5: ∀{rs:List (List Int)},SSR rs→pd rs
 | [],_,i,hi=>by simp at hi
 | [r],_,i,hi=>by simp at hi
 |r::s::rs,h,0,_=>h.2.2.1
 |r::s::rs,h,i+1,hi=>u5 h.2.2.2 i (by simpa using hi)
theorem uB: ∀{rs:List (List Int)},(∀r,r<rs.length→0<(rs.getD r []).length∧kT (rs.getD r []))→pd rs→SSR rs
 | [],_,_=>trivial
 |r::rs,h1,h2=>by
  refine⟨(h1 0 (by simp)).1,(h1 0 (by simp)).2,?_,uB (fun q hq=>h1 (q+1) (by simpa using hq)) (fun i hi=>h2 (i+1) (by simpa using hi))⟩
  cases rs with
  |nil=>trivial
  |cons s rs=>exact h2 0 (by simp)
theorem mY(rs:List (List Int)){i:Nat}(h:i<rs.length):(outer (([],rs):Tab)).getD i 0=(rs.getD i []).length:=by
 have:=jj [] rs 0 i h
 unfold outer
 rw[this]
 simp
theorem vJ{rs:List (List Int)}(h:SSR rs)(hn: ∀x∈rs.flatten,1≤x∧x≤9)(h9:rs.flatten.length≤9):bz (([],rs):Tab)=true:=by
 have hr:=fun r hr=>vI h r hr
 have hc:=u5 h
 have hrl: ∀r,r<rs.length→(rs.getD r []).length≤9:=fun r h1=>by
  have:=tB (rs:=rs) (r:=rs.getD r []) (by rw[aw h1];exact List.getElem_mem h1)
  omega
 refine qN rfl ?_ (fun r x h1 h2=>hn _ (kf h1 h2)) (fun r x h1 h2=>(hr r h1).2 x h2) (fun r x h1 h2=>(hc r h1).2 x h2)
 have hs:fT (outer (([],rs):Tab))=rs.flatten.length:=mT [] rs 0 fun q _=>by simp
 refine lL _ 9 0 (fun x hx=> ?_) (fun h0=> ?_) (fun i hi=> ?_) (by omega)
 ·obtain⟨i,hi,rfl⟩:=List.getElem_of_mem hx
  have hi':i<rs.length:=by rw[cN]at hi;exact hi
  rw[←aw hi 0,mY rs hi']
  have:=(hr i hi').1
  omega
 ·have h0':0<rs.length:=by rw[cN]at h0;exact h0
  rw[mY rs h0']
  have:=hrl 0 h0'
  omega
 ·have hi':i+1<rs.length:=by rw[cN]at hi;exact hi
  rw[mY rs hi',mY rs (by omega)]
  have:=(hc i hi').1
  omega
theorem zd: ∀(rs:List (List Int)) (x z:Int),z∈(bj rs x).1.flatten→z=x∨z∈rs.flatten
 | [],x,z,h=>by simp[bj]at h;exact .inl h
 |r::rs,x,z,h=>by
  rw[fA]at h
  split at h
  ·next c=>
   simp only[List.flatten_cons,List.mem_append]at h⊢
   rcases h with h|h
   ·rcases List.mem_or_eq_of_mem_set h with h|h
    ·exact .inr (.inl h)
    ·exact .inl h
   ·rcases zd rs _ z h with h|h
    ·right;left
     rw[h,aw c]
     exact List.getElem_mem c
    ·exact .inr (.inr h)
  ·simp only[List.flatten_cons,List.mem_append,List.mem_singleton]at h⊢
   rcases h with(h|h)|h
   ·exact .inr (.inl h)
   ·exact .inl h
   ·exact .inr (.inr h)
theorem wc: ∀(rs:List (List Int)) (x:Int),(bj rs x).1.flatten.length=rs.flatten.length+1
 | [],x=>by simp[bj]
 |r::rs,x=>by
  rw[fA]
  split
  ·have:=wc rs (r.getD (fst r x) 0)
   simp only[List.flatten_cons,List.length_append,List.length_set]
   omega
  ·simp only[List.flatten_cons,List.length_append,List.length_singleton]
   omega
theorem y9: ∀(rs:List (List Int)) (x:Int),(bj rs x).2≤rs.length∧((bj rs x).1.length=if(bj rs x).2=rs.length then rs.length+1 else rs.length)∧ ∀i,((bj rs x).1.getD i []).length=if i=(bj rs x).2 then(rs.getD i []).length+1 else(rs.getD i []).length
 | [],x=>by
  refine⟨Nat.le_refl _,rfl,fun i=> ?_⟩
  cases i with
  |zero=>rfl
  |succ i=>simp[bj]
 |r::rs,x=>by
  rw[fA]
  split
  ·next c=>
   obtain⟨a,b,d⟩:=y9 rs (r.getD (fst r x) 0)
   refine⟨by simp only[List.length_cons];omega,?_,fun i=> ?_⟩
   ·simp only[List.length_cons,b,Nat.add_right_cancel_iff]
    split<;>rfl
   ·cases i with
    |zero=>simp
    |succ i=>
     have:=d i
     simp only[Nat.add_right_cancel_iff]
     exact this
  ·refine⟨Nat.zero_le _,by simp,fun i=> ?_⟩
   cases i with
   |zero=>simp
   |succ i=>simp
def lk:List Int→List (List Int)→List (List Int)
 | [],P=>P
 |x::w,P=>lk w (bj P x).1
theorem kX: ∀(v w:List Int) (P:List (List Int)),lk (v++w) P=lk w (lk v P)
 | [],_,_=>rfl
 |x::v,w,P=>kX v w _
end Go.Am.Pu
end
section
/- The recording tableau is standard, and its descents are the word's. Plain words. -/
namespace Go.Am.Pu
def jd(Q:List (List Int))(a:Nat)(v:Int):List (List Int):=if a=Q.length then Q++ [[v]]else Q.set a (Q.getD a []++ [v])
theorem uw{Q:List (List Int)}{a:Nat}(v:Int)(ha:a≤Q.length)(i:Nat):(jd Q a v).getD i []=if i=a then Q.getD a []++ [v]else Q.getD i []:=by
 unfold jd
 by_cases e:a=Q.length
 ·rw[if_pos e]
  by_cases h:i<Q.length
  ·rw[if_neg (by omega)]
   simp only[List.getD_eq_getElem?_getD,List.getElem?_append_left h]
  ·by_cases e2:i=a
   ·rw[if_pos e2,e2,e,bo (xs:=Q) (Nat.le_refl _)]
    simp
   ·rw[if_neg e2,bo (xs:=Q) (by omega),bo (by rw[List.length_append,List.length_singleton];omega)]
 ·rw[if_neg e]
  by_cases e2:i=a
  ·subst e2;rw[if_pos rfl,aw (by rw[List.length_set];omega),List.getElem_set_self]
  ·rw[if_neg e2,getD_set_ne (Ne.symm e2)]
theorem mS{Q:List (List Int)}{a:Nat}(v:Int):(jd Q a v).length=if a=Q.length then Q.length+1 else Q.length:=by
 unfold jd
 split
 ·rw[List.length_append,List.length_singleton]
 ·rw[List.length_set]
theorem yw{Q:List (List Int)}{a:Nat}(v:Int)(ha:a≤Q.length):(jd Q a v).flatten.length=Q.flatten.length+1:=by
 unfold jd
 split
 ·simp
 ·next e=>
  have: ∀(Q:List (List Int)) (a:Nat),a<Q.length→(Q.set a (Q.getD a []++ [v])).flatten.length=Q.flatten.length+1:=by
   intro Q
   induction Q with
   |nil=>intro a h;simp at h
   |cons r rs ih=>
    intro a h
    cases a with
    |zero=>simp;omega
    |succ a=>
     have:=ih a (by simpa using h)
     simp only[List.set_cons_succ,List.getD_cons_succ,List.flatten_cons,List.length_append,this]
     omega
  exact this Q a (by omega)
theorem BZ{Q P:List (List Int)}{a k:Nat}(hp:bz (([],Q):Tab)=true)(hs:fS (([],Q):Tab)=true)(hk:Q.flatten.length=k)(h9:k+1≤9)(hP:SSR P)(ha:a≤Q.length)(hPl:P.length=if a=Q.length then Q.length+1 else Q.length)
  (hl: ∀i,(P.getD i []).length=if i=a then(Q.getD i []).length+1 else(Q.getD i []).length):
  bz (([],jd Q a ((k+1:Nat):Int)):Tab)=true∧fS (([],jd Q a ((k+1:Nat):Int)):Tab)=true∧(jd Q a ((k+1:Nat):Int)).flatten.length=k+1∧de P (jd Q a ((k+1:Nat):Int))∧
   rowOf ([],jd Q a ((k+1:Nat):Int)) ((k+1:Nat):Int)=a∧ ∀v,1≤v→v≤(k:Int)→rowOf ([],jd Q a ((k+1:Nat):Int)) v=rowOf ([],Q) v:=by
 have hget:=uw ((k+1:Nat):Int) ha
 have hlen:= @mS Q a ((k+1:Nat):Int)
 have hfl:=yw ((k+1:Nat):Int) ha
 generalize hN:jd Q a ((k+1:Nat):Int)=N at*
 have hNl: ∀i,(N.getD i []).length=if i=a then(Q.getD i []).length+1 else(Q.getD i []).length:=fun i=>by
  rw[hget]
  split
  ·next e=>rw[e,List.length_append,List.length_singleton]
  ·rfl
 have hsame:de P N:=⟨by rw[hPl,hlen],fun i=>by rw[hl,hNl]⟩
 have hcel: ∀r x,cel N r x=if r=a∧x=(Q.getD a []).length then((k+1:Nat):Int)else cel Q r x:=fun r x=>by
  unfold cel
  rw[hget]
  by_cases e:r=a
  ·subst e
   rw[if_pos rfl,cO]
   by_cases e2:x=(Q.getD r []).length
   ·rw[if_pos e2,if_pos ⟨rfl,e2⟩]
   ·rw[if_neg e2,if_neg (fun h=>e2 h.2)]
  ·rw[if_neg e,if_neg (fun h=>e h.1)]
 have hb:=(lM hp hs).2
 simp only at hb
 rw[hk]at hb
 have hQ: ∀{r x:Nat},x<(Q.getD r []).length→1≤cel Q r x∧cel Q r x≤(k:Int):=fun{r x} hx=>by
  have hr:r<Q.length:=Nat.lt_of_not_le fun hle=>by rw[bo hle]at hx;simp at hx
  exact hb _ (kf hr hx)
 obtain⟨q1,q2⟩:=lX hp
 have q3:=n0 hp
 simp only at q2 q3
 have pc:=u5 hP
 have pr:=fun r hr=>vI hP r hr
 have hqlen: ∀i,(Q.getD (i+1) []).length≤(Q.getD i []).length:=fun i=>by
  by_cases h:i+1<Q.length
  ·exact(q3 i h).1
  ·rw[bo (by omega)];exact Nat.zero_le _
 have hssr:SSR N:=by
  refine uB (fun r hr=>⟨?_,fun x hx=> ?_⟩) (fun i hi=> ?_)
  ·rw[←hsame.2];exact(pr r (by rw[hsame.1];exact hr)).1
  ·have e1:=hcel r x
   have e2:=hcel r (x+1)
   unfold cel at e1 e2
   rw[e1,e2]
   rw[hNl]at hx
   have hxQ:x<(Q.getD r []).length:=by
    split at hx<;>omega
   rw[if_neg (fun h=>by rw[h.1]at hxQ;omega)]
   have hv:=hQ hxQ
   unfold cel at hv
   by_cases e:r=a∧x+1=(Q.getD a []).length
   ·rw[if_pos e];omega
   ·rw[if_neg e]
    have hx1:x+1<(Q.getD r []).length:=by
     split at hx
     ·next e3=>
      have: ¬x+1=(Q.getD a []).length:=fun h=>e ⟨e3,h⟩
      rw[←e3]at this
      omega
     ·exact hx
    have hr:r<Q.length:=Nat.lt_of_not_le fun hle=>by rw[bo hle]at hx1;simp at hx1
    exact q2 r x hr hx1
  ·obtain⟨c1,c2⟩:=pc i (by rw[hsame.1];exact hi)
   rw[hsame.2,hsame.2]at c1
   refine⟨c1,fun x hx=> ?_⟩
   have e1:=hcel i x
   have e2:=hcel (i+1) x
   unfold cel at e1 e2
   rw[e1,e2]
   rw[hNl]at hx
   have hxi:x<(N.getD i []).length:=by
    have:=hNl (i+1)
    omega
   rw[hNl]at hxi
   by_cases e:i+1=a∧x=(Q.getD a []).length
   ·rw[if_pos e,if_neg (fun h=>by omega)]
    have hxQ:x<(Q.getD i []).length:=by rw[if_neg (by omega)]at hxi;exact hxi
    have hv:=hQ hxQ
    unfold cel at hv
    omega
   ·rw[if_neg e]
    have hx1:x<(Q.getD (i+1) []).length:=by
     split at hx
     ·next e3=>
      have: ¬x=(Q.getD a []).length:=fun h=>e ⟨e3,h⟩
      rw[←e3]at this
      omega
     ·exact hx
    have hxQ:x<(Q.getD i []).length:=Nat.lt_of_lt_of_le hx1 (hqlen i)
    rw[if_neg (fun h=>by rw[h.1]at hxQ;omega)]
    have hr:i+1<Q.length:=Nat.lt_of_not_le fun hle=>by rw[bo hle]at hx1;simp at hx1
    exact(q3 i hr).2 x hx1
 have hflk:N.flatten.length=k+1:=by omega
 have hmem: ∀z∈N.flatten,1≤z∧z≤9:=fun z hz=>by
  obtain⟨r,x,hr,hx,e⟩:=oU hz
  rw[←e,hcel]
  split
  ·omega
  ·next hc=>
   rw[hNl]at hx
   have hxQ:x<(Q.getD r []).length:=by
    split at hx
    ·next e3=>
     have: ¬x=(Q.getD a []).length:=fun h=>hc ⟨e3,h⟩
     rw[←e3]at this
     omega
    ·exact hx
   have:=hQ hxQ
   omega
 have hpl:=vJ hssr hmem (by omega)
 have haN:a<N.length:=by
  rw[hlen]
  split<;>omega
 have hxN:(Q.getD a []).length<(N.getD a []).length:=by rw[hNl,if_pos rfl];omega
 have hnew:cel N a (Q.getD a []).length=((k+1:Nat):Int):=by rw[hcel,if_pos ⟨rfl,rfl⟩]
 have hold: ∀{r x:Nat},x<(Q.getD r []).length→r<N.length∧x<(N.getD r []).length∧cel N r x=cel Q r x:=fun{r x} hx=>by
  have hx':x<(N.getD r []).length:=by
   rw[hNl]
   split<;>omega
  refine⟨Nat.lt_of_not_le fun hle=>by rw[bo hle]at hx';simp at hx',hx',?_⟩
  rw[hcel,if_neg (fun h=>by rw[h.1]at hx;omega)]
 have ho:ke Q.flatten=true:=by
  have:=hs
  simp only[fS,Bool.and_eq_true]at this
  exact this.2
 have hst:fS (([],N):Tab)=true:=by
  have hp':=hpl
  simp only[bz,Bool.and_eq_true]at hp'
  simp only[fS,Bool.and_eq_true]
  refine⟨hp'.1,jR.2 fun v hv=> ?_⟩
  rw[hflk,fU]at hv
  by_cases e:v=((k+1:Nat):Int)
  ·rw[e,←hnew];exact kf haN hxN
  ·obtain⟨r,x,hr,hx,e2⟩:=oU (jR.1 ho v (fU.2 (by omega)))
   obtain⟨d1,d2,d3⟩:=hold hx
   rw[←e2,←d3]
   exact kf d1 d2
 refine⟨hpl,hst,hflk,hsame,iJ hpl hst haN hxN hnew,fun v v1 v2=> ?_⟩
 obtain⟨r,x,hr,hx,e2⟩:=oU (jR.1 ho v (fU.2 (by omega)))
 obtain⟨d1,d2,d3⟩:=hold hx
 rw[iJ hpl hst d1 d2 (by rw[d3];exact e2),iJ hp hs hr hx e2]
def og:List Int→List (List Int)→List (List Int)→Nat→List (List Int)
 | [],_,Q,_=>Q
 |x::w,P,Q,k=>og w (bj P x).1 (jd Q (bj P x).2 ((k+1:Nat):Int)) (k+1)
def zh:List Int→List (List Int)→List Nat
 | [],_=> []
 |x::w,P=>(bj P x).2::zh w (bj P x).1
structure Ins (P Q : List (List Int)) (k : Nat) : Prop where
  ssr : SSR P
  num : ∀ x ∈ P.flatten, 1 ≤ x ∧ x ≤ 9
  fl : P.flatten.length = k
  pl : bz (([], Q) : Tab) = true
  st : fS (([], Q) : Tab) = true
  qf : Q.flatten.length = k
  same : de P Q
theorem Ins.step{P Q:List (List Int)}{k:Nat}{x:Int}(h:Ins P Q k)(hx:1≤x∧x≤9)(h9:k+1≤9):
  Ins (bj P x).1 (jd Q (bj P x).2 ((k+1:Nat):Int)) (k+1)∧rowOf ([],jd Q (bj P x).2 ((k+1:Nat):Int)) ((k+1:Nat):Int)=((bj P x).2:Nat)∧ ∀v,1≤v→v≤(k:Int)→rowOf ([],jd Q (bj P x).2 ((k+1:Nat):Int)) v=rowOf ([],Q) v:=by
 obtain⟨a,b,c⟩:=y9 P x
 have hs:=zf P x h.ssr
 obtain⟨d1,d2,d3,d4,d5,d6⟩:=BZ (a:=(bj P x).2) h.pl h.st h.qf h9 hs (by rw[←h.same.1];exact a) (by rw[←h.same.1];exact b) (fun i=>by rw[←h.same.2];exact c i)
 refine⟨⟨hs,fun z hz=> ?_,by rw[wc,h.fl],d1,d2,d3,d4⟩,d5,d6⟩
 rcases zd P x z hz with e|e
 ·rw[e];exact hx
 ·exact h.num z e
theorem Ins.nil:Ins [] [] 0:=⟨trivial,fun x hx=>by simp at hx,rfl,rfl,rfl,rfl,⟨rfl,fun _=>rfl⟩⟩
theorem Ins.word: ∀(w:List Int) {P Q:List (List Int)} {k:Nat},Ins P Q k→(∀x∈w,1≤x∧x≤9)→k+w.length≤9→
  Ins (lk w P) (og w P Q k) (k+w.length)∧(∀v,1≤v→v≤(k:Int)→rowOf ([],og w P Q k) v=rowOf ([],Q) v)∧ ∀i,i<w.length→rowOf ([],og w P Q k) ((k+i+1:Nat):Int)=((zh w P).getD i 0:Nat)
 | [],P,Q,k,h,_,_=>⟨h,fun _ _ _=>rfl,fun i hi=>by simp at hi⟩
 |x::w,P,Q,k,h,hx,hl=>by
  simp only[List.length_cons]at hl
  obtain⟨a,b,c⟩:=h.step (hx x (List.mem_cons_self ..)) (by omega)
  obtain⟨d,e,f⟩:=Ins.word w a (fun z hz=>hx z (List.mem_cons_of_mem _ hz)) (by omega)
  refine⟨by rw[List.length_cons,show k+(w.length+1)=k+1+w.length by omega];exact d,fun v v1 v2=> ?_,fun i hi=> ?_⟩
  ·show rowOf ([],og w _ _ (k+1)) v=_
   rw[e v v1 (by omega)]
   exact c v v1 v2
  ·show rowOf ([],og w _ _ (k+1)) _=_
   cases i with
   |zero=>
    have:=e ((k+1:Nat):Int) (by omega) (Int.le_refl _)
    rw[Nat.add_zero,this,b]
    rfl
   |succ i=>
    have:=f i (by simpa using hi)
    rw[show k+1+i+1=k+(i+1)+1 by omega]at this
    exact this
end Go.Am.Pu
end
section
/- Words, and what inserting makes of them. Plain words. -/
namespace Go.Am.Pu
def isWord(w:List Int):Bool:=decide (w.length≤9)&&w.all fun n=>within n 1 9
theorem mo{w:List Int}(h:isWord w=true):w.length≤9∧ ∀x∈w,1≤x∧x≤9:=by
 simp only[isWord,Bool.and_eq_true,decide_eq_true_eq,List.all_eq_true,within]at h
 exact⟨h.1,fun x hx=>h.2 x hx⟩
def jO(w:List Int):Tab×Bool:=if isWord w=true then(([],og w [] [] 0),true)else(([],[]),false)
theorem xa{w:List Int}(h:isWord w=true):Ins (lk w []) (og w [] [] 0) w.length∧ ∀i,i<w.length→rowOf ([],og w [] [] 0) ((i+1:Nat):Int)=((zh w []).getD i 0:Nat):=by
 obtain⟨h1,h2⟩:=mo h
 obtain⟨a,_,c⟩:=Ins.word w Ins.nil h2 (by omega)
 rw[Nat.zero_add]at a
 refine⟨a,fun i hi=> ?_⟩
 have:=c i hi
 rw[Nat.zero_add]at this
 exact this
theorem tD{w:List Int}(h:isWord w=true):bz (jO w).1=true∧fS (jO w).1=true∧(jO w).1.2.flatten.length=w.length:=by
 unfold jO
 rw[if_pos h]
 have a:=(xa h).1
 exact⟨a.pl,a.st,a.qf⟩
end Go.Am.Pu
end
section
/- Standardizing a tableau: the cells numbered by number and column. Plain words. -/
namespace Go.Am.Pu
def fP(Q:List (List Int))(v:Int)(c r:Nat)(s:Nat×List (List Int)):Nat×List (List Int):=
 if c<(Q.getD r []).length∧cel Q r c=v then(s.1+1,jo s.2 r c ((s.1+1:Nat):Int))else s
structure Num (Q : List (List Int)) (D : Nat → Nat → Prop) (s : Nat × List (List Int)) (F : List Int) : Prop where
  same : de s.2 Q
  len : F.length = s.1
  val : ∀ r x, r < Q.length → x < (Q.getD r []).length → D r x → ∃ k, k < s.1 ∧ cel s.2 r x = ((k + 1 : Nat) : Int) ∧ F.getD k 0 = cel Q r x
  inj : ∀ r x r' x', r < Q.length → x < (Q.getD r []).length → D r x → r' < Q.length → x' < (Q.getD r' []).length → D r' x' → cel s.2 r x = cel s.2 r' x' → r = r' ∧ x = x'
  all : ∀ k, k < s.1 → ∃ r x, r < Q.length ∧ x < (Q.getD r []).length ∧ D r x ∧ cel s.2 r x = ((k + 1 : Nat) : Int)
  lex : ∀ r x r' x', r < Q.length → x < (Q.getD r []).length → D r x → r' < Q.length → x' < (Q.getD r' []).length → D r' x' → cel s.2 r x < cel s.2 r' x' → cel Q r x < cel Q r' x' ∨ (cel Q r x = cel Q r' x' ∧ x ≤ x')
theorem Num.congr{Q:List (List Int)}{D D':Nat→Nat→Prop}{s:Nat×List (List Int)}{F:List Int}(h:Num Q D s F)(e: ∀r x,r<Q.length→x<(Q.getD r []).length→(D r x↔D' r x)):Num Q D' s F:=
 ⟨h.same,h.len,fun r x a b d=>h.val r x a b ((e r x a b).2 d),fun r x r' x' a b d a' b' d'=>h.inj r x r' x' a b ((e r x a b).2 d) a' b' ((e r' x' a' b').2 d'),
  fun k hk=>by obtain⟨r,x,a,b,d,q⟩:=h.all k hk;exact⟨r,x,a,b,(e r x a b).1 d,q⟩,fun r x r' x' a b d a' b' d'=>h.lex r x r' x' a b ((e r x a b).2 d) a' b' ((e r' x' a' b').2 d')⟩
def Dn(Q:List (List Int))(v:Int)(c r:Nat)(a i:Nat):Prop:=cel Q a i<v∨(cel Q a i=v∧(i<c∨(i=c∧a<r)))
theorem Num.step{Q:List (List Int)}{v:Int}{c r:Nat}{s:Nat×List (List Int)}{F:List Int}(h:Num Q (Dn Q v c r) s F)(hr:r<Q.length): ∃F',Num Q (Dn Q v c (r+1)) (fP Q v c r s) F':=by
 unfold fP
 split
 ·next hc=>
  obtain⟨hc,hv⟩:=hc
  have hnd: ¬Dn Q v c r r c:=by unfold Dn;omega
  have hsr:r<s.2.length:=by rw[h.same.1];exact hr
  have hsc:c<(s.2.getD r []).length:=by rw[h.same.2];exact hc
  have new: ∀a i,Dn Q v c (r+1) a i→(a=r∧i=c)∨(¬(a=r∧i=c)∧Dn Q v c r a i):=fun a i d=>by
   by_cases e:a=r∧i=c
   ·exact .inl e
   ·refine .inr ⟨e,?_⟩
    unfold Dn at d⊢
    omega
  have at1:=iS (g:=s.2) (r:=r) (c:=c) ((s.1+1:Nat):Int) hsr hsc
  have ne1: ∀a i,¬(a=r∧i=c)→cel (jo s.2 r c ((s.1+1:Nat):Int)) a i=cel s.2 a i:=fun a i e=>gh _ e
  refine⟨F++ [v],⟨⟨by rw[fX];exact h.same.1,fun i=>by rw[a8];exact h.same.2 i⟩,by rw[List.length_append,List.length_singleton,h.len],?_,?_,?_,?_⟩⟩
  ·intro a i ha hi d
   rcases new a i d with⟨rfl,rfl⟩|⟨e,d'⟩
   ·refine⟨s.1,by simp only;omega,at1,?_⟩
    rw[hv,←h.len,List.getD_eq_getElem?_getD]
    simp
   ·obtain⟨k,k1,k2,k3⟩:=h.val a i ha hi d'
    refine⟨k,by simp only;omega,by rw[ne1 a i e];exact k2,?_⟩
    rw[←k3,List.getD_eq_getElem?_getD,List.getD_eq_getElem?_getD,List.getElem?_append_left (by rw[h.len];exact k1)]
  ·intro a i b j ha hi d hb hj d' e
   rcases new a i d with⟨rfl,rfl⟩|⟨ea,da⟩
   ·rcases new b j d' with⟨rfl,rfl⟩|⟨eb,db⟩
    ·exact⟨rfl,rfl⟩
    ·obtain⟨k,k1,k2,_⟩:=h.val b j hb hj db
     simp only at e
     rw[at1,ne1 b j eb,k2]at e
     omega
   ·rcases new b j d' with⟨rfl,rfl⟩|⟨eb,db⟩
    ·obtain⟨k,k1,k2,_⟩:=h.val a i ha hi da
     simp only at e
     rw[at1,ne1 a i ea,k2]at e
     omega
    ·simp only at e
     rw[ne1 a i ea,ne1 b j eb]at e
     exact h.inj a i b j ha hi da hb hj db e
  ·intro k hk
   simp only at hk
   by_cases ek:k=s.1
   ·subst ek
    exact⟨r,c,hr,hc,by unfold Dn;omega,at1⟩
   ·obtain⟨a,i,ha,hi,d,e⟩:=h.all k (by omega)
    have hne: ¬(a=r∧i=c):=fun q=>by rw[q.1,q.2]at d;exact hnd d
    exact⟨a,i,ha,hi,by unfold Dn at d⊢;omega,by simp only;rw[ne1 a i hne];exact e⟩
  ·intro a i b j ha hi d hb hj d' e
   simp only at e
   rcases new a i d with⟨rfl,rfl⟩|⟨ea,da⟩
   ·rcases new b j d' with⟨rfl,rfl⟩|⟨eb,db⟩
    ·omega
    ·obtain⟨k,k1,k2,_⟩:=h.val b j hb hj db
     rw[at1,ne1 b j eb,k2]at e
     omega
   ·rcases new b j d' with⟨rfl,rfl⟩|⟨eb,db⟩
    ·unfold Dn at da
     omega
    ·rw[ne1 a i ea,ne1 b j eb]at e
     exact h.lex a i b j ha hi da hb hj db e
 ·next hc=>
  refine⟨F,h.congr fun a i ha hi=> ?_⟩
  unfold Dn
  constructor
  ·intro d;omega
  ·intro d
   by_cases e:a=r∧i=c
   ·obtain⟨rfl,rfl⟩:=e
    have:cel Q a i≠v:=fun q=>hc ⟨hi,q⟩
    omega
   ·omega
structure uh (Q X : List (List Int)) (f : Int → Int) : Prop where
  same : de X Q
  val : ∀ r x, r < X.length → x < (X.getD r []).length → cel Q r x = f (cel X r x)
  lex : ∀ r x r' x', r < X.length → x < (X.getD r []).length → r' < X.length → x' < (X.getD r' []).length → cel X r x < cel X r' x' → cel Q r x < cel Q r' x' ∨ (cel Q r x = cel Q r' x' ∧ x < x')
end Go.Am.Pu
end
section
/- A pair of tableaux unrolled, the second one semistandard; sorting; the matrix of a pair. Plain words. -/
namespace Go.Am.Pu
def yG(R:Int→Prop)(rs:List (List Int)):Prop:= ∀r∈rs,∀v∈r,R v
theorem yG.at{R:Int→Prop}{rs:List (List Int)}(h:yG R rs){r x:Nat}(hr:r<rs.length)(hx:x<(rs.getD r []).length):R ((rs.getD r []).getD x 0):=by
 rw[aw hx]
 exact h (rs.getD r []) (by rw[aw hr];exact List.getElem_mem hr) _ (List.getElem_mem hx)
theorem yG.set{R:Int→Prop}{rs:List (List Int)}(h:yG R rs)(i:Nat){r:List Int}(hr: ∀v∈r,R v):yG R (rs.set i r):=fun y hy=>by
 rcases List.mem_or_eq_of_mem_set hy with h'|rfl
 ·exact h y h'
 ·exact hr
theorem yG.row{R:Int→Prop}{rs:List (List Int)}(h:yG R rs)(i:Nat): ∀v∈rs.getD i [],R v:=by
 by_cases hi:i<rs.length
 ·exact h _ (by rw[aw hi];exact List.getElem_mem hi)
 ·rw[bo (by omega)];simp
theorem Unr.top{q:Tab}{m:Nat}{P X:List (List Int)}(h:Unr q (m+1) P X){a:Nat}(ha:a<X.length)(htop:cel X a ((X.getD a []).length-1)=((m+1:Nat):Int)):
  (∀r,r<X.length→1≤(X.getD r []).length)∧(∀r,r<X.length→r≠a→cel X r ((X.getD r []).length-1)<((m+1:Nat):Int)):=by
 have hp:=fun r hr=>yN h.pl (r:=r) hr
 refine⟨hp,fun r hr hne=> ?_⟩
 have h1:=hp r hr
 have h2:=hp a ha
 simp only at h1 h2
 have hb:=((lM h.pl h.st).2 _ (kf (rs:=X) hr (show(X.getD r []).length-1<(X.getD r []).length by omega))).2
 have hf:=h.fl
 simp only at hb
 rw[hf]at hb
 have hx:cel X r ((X.getD r []).length-1)≠((m+1:Nat):Int):=fun e=>hne (rm h.pl h.st (a:=r) (b:=a) (x:=(X.getD r []).length-1) (y:=(X.getD a []).length-1) hr (show _<(X.getD r []).length by omega) ha (show _<(X.getD a []).length by omega) (by rw[htop];exact e)).1
 omega
theorem zF{n m:Nat}{A B:List (List Int)}(h:dz n m A)(s:de A B):dz n m B:=by
 refine⟨by rw[←s.1];exact h.1,fun x hx=> ?_⟩
 obtain⟨i,hi,rfl⟩:=List.getElem_of_mem hx
 have:=h.at i
 rw[s.2 i,aw hi]at this
 exact this
theorem uh.cut{Q X:List (List Int)}{f:Int→Int}(s:uh Q X f){a:Nat}(ha:a<X.length)(hc:(X.getD (a+1) []).length<(X.getD a []).length)(hp: ∀r,r<X.length→1≤(X.getD r []).length):uh (bC Q a) (bC X a) f:=by
 have hq: ∀r,r<Q.length→1≤(Q.getD r []).length:=fun r hr=>by rw[←s.same.2];exact hp r (by rw[s.same.1];exact hr)
 have rX:=nQ ha hc hp
 have rQ:=nQ (rs:=Q) (a:=a) (by rw[←s.same.1];exact ha) (by rw[←s.same.2,←s.same.2];exact hc) hq
 have old: ∀{r x},r<(bC X a).length→x<((bC X a).getD r []).length→r<X.length∧x<(X.getD r []).length∧cel (bC X a) r x=cel X r x∧cel (bC Q a) r x=cel Q r x:=fun{r x} hr hx=>by
  have hl:=sg (rs:=X) ha
  have hr':r<X.length:=by rw[hl]at hr;split at hr<;>omega
  have e1:=rX r
  have e2:=rQ r
  unfold cel
  by_cases e:r=a
  ·rw[if_pos e]at e1 e2
   rw[e1]at hx
   rw[List.length_take]at hx
   subst e
   refine⟨hr',by omega,by rw[e1,getD_take (by omega)],?_⟩
   rw[e2,getD_take (by have:=s.same.2 r;omega)]
  ·rw[if_neg e]at e1 e2
   rw[e1]at hx
   exact⟨hr',hx,by rw[e1],by rw[e2]⟩
 refine⟨xA s.same a,fun r x hr hx=> ?_,fun r x r' x' hr hx hr' hx' hlt=> ?_⟩
 ·obtain⟨o1,o2,o3,o4⟩:=old hr hx
  rw[o3,o4]
  exact s.val r x o1 o2
 ·obtain⟨o1,o2,o3,o4⟩:=old hr hx
  obtain⟨p1,p2,p3,p4⟩:=old hr' hx'
  rw[o3,p3]at hlt
  rw[o4,p4]
  exact s.lex r x r' x' o1 o2 p1 p2 hlt
theorem uh.step{q:Tab}{m:Nat}{P X Q:List (List Int)}{f:Int→Int}(s:uh Q X f)(h:Unr q (m+1) P X):
  ∃a:Nat,rowOf q ((m+1:Nat):Int)=a∧a<Q.length∧1≤(Q.getD a []).length∧(Q.getD a []).getD ((Q.getD a []).length-1) 0=f ((m+1:Nat):Int)∧(∀r,r<Q.length→1≤(Q.getD r []).length)∧
   (∀r,r<Q.length→r≠a→(Q.getD r []).getD ((Q.getD r []).length-1) 0<f ((m+1:Nat):Int)∨((Q.getD r []).getD ((Q.getD r []).length-1) 0=f ((m+1:Nat):Int)∧(Q.getD r []).length<(Q.getD a []).length))∧
   dz 9 9 Q∧a<P.length∧1≤(P.getD a []).length∧Unr q m (ku P a).1 (bC X a)∧uh (bC Q a) (bC X a) f:=by
 obtain⟨a,a1,a2,a3,a4,a5,a6⟩:=h.step
 obtain⟨t1,t2⟩:=h.top a2 a4
 have v0:=s.val a ((X.getD a []).length-1) a2 (by omega)
 rw[a4]at v0
 unfold cel at v0
 rw[s.same.2]at v0
 refine⟨a,a1,by rw[←s.same.1];exact a2,by rw[←s.same.2];exact a3,v0,fun r hr=>by rw[←s.same.2];exact t1 r (by rw[s.same.1];exact hr),fun r hr hne=> ?_,zF (xL h.pl) s.same,
  by rw[h.same.1];exact a2,by rw[h.same.2];exact a3,a6,s.cut a2 a5 t1⟩
 have hr':r<X.length:=by rw[s.same.1];exact hr
 have u1:=t1 r hr'
 have hl:=s.lex r ((X.getD r []).length-1) a ((X.getD a []).length-1) hr' (by omega) a2 (by omega) (by rw[a4];exact t2 r hr' hne)
 have v:=s.val a ((X.getD a []).length-1) a2 (by omega)
 rw[v,a4]at hl
 unfold cel at hl
 rw[s.same.2 r,s.same.2 a]at hl
 have e1:=s.same.2 r
 rcases hl with hl|hl
 ·exact .inl hl
 ·exact .inr ⟨hl.1,by omega⟩
structure Dy (r c : Nat) (b : Int) (M : List (List Int)) : Prop where
  len : M.length = r
  row : ∀ i, i < r → (M.getD i []).length = c
  sm : ∀ x ∈ M, ∀ v ∈ x, 0 ≤ v ∧ v ≤ b
end Go.Am.Pu
end
section
/- Standardizing any tableau: its cells in the order of number and column. Plain words. -/
namespace Go.Am.Pu
def AT(t:Tab)(r:Nat):List (Int×Int×Int):=(List.range (t.2.getD r []).length).map fun x=>(cel t.2 r x,t.1.getD r 0+x,(r:Int))
def cellsOf(t:Tab):List (Int×Int×Int):=((List.range t.2.length).map (AT t)).flatten
def KLt(a b:Int×Int×Int):Prop:=a.1<b.1∨(a.1=b.1∧a.2.1<b.2.1)
end Go.Am.Pu
end
section
/- Sorting cells by insertion, as the library does. Plain words. -/
namespace Go.Am.Pu
instance(a b:Int×Int×Int):Decidable (KLt a b):=by unfold KLt;infer_instance
end Go.Am.Pu
end
section
/- All standard tableaux of given rows, found by taking out the greatest number. Plain words. -/
namespace Go.Am.Pu
def eN(ls:List Nat)(a:Nat):List Nat:=if ls.getD a 0=1 then ls.take a else ls.set a (ls.getD a 0-1)
theorem AI{α:Type}{d:α}{A B:List α}(hl:A.length=B.length)(h: ∀i,i<A.length→A.getD i d=B.getD i d):A=B:=by
 refine List.ext_getElem hl fun i h1 h2=> ?_
 have:=h i h1
 rw[aw h1,aw h2]at this
 exact this
end Go.Am.Pu
end
section
/- Promotion of a rectangle comes back after as many steps as there are cells (reckoned over all of them). Plain words. -/
namespace Go.Am.Pu
end Go.Am.Pu
end
section
/- The length of an orbit divides every number of steps that come back. Plain words. -/
namespace Go.Am.Pu
end Go.Am.Pu
end
section
/- Knuth's relations: insertion does not tell related words apart, and a row and a number are related to what an insertion makes of them. Plain words. -/
namespace Go.Am.Pu
abbrev Up(r:List Int):Prop:=r.Pairwise (· ≤ ·)
def cE:List Int→Int→List Int×List Int
 | [],x=>([x],[])
 |a::r,x=>if x<a then(x::r,[a])else(a::(cE r x).1,(cE r x).2)
theorem cM{a x:Int}{r:List Int}(h:x<a):cE (a::r) x=(x::r,[a]):=by unfold cE;rw[if_pos h]
theorem cp{a x:Int}{r:List Int}(h:a≤x):cE (a::r) x=(a::(cE r x).1,(cE r x).2):=by
 conv=>lhs;unfold cE
 rw[if_neg (by omega)]
theorem rH: ∀(r:List Int) (x z:Int),z∈(cE r x).1→z=x∨z∈r
 | [],x,z,h=>by simp only[cE,List.mem_singleton]at h;exact .inl h
 |a::r,x,z,h=>by
  by_cases c:x<a
  ·rw[cM c]at h
   rcases List.mem_cons.1 h with h|h
   ·exact .inl h
   ·exact .inr (List.mem_cons_of_mem _ h)
  ·rw[cp (by omega)]at h
   rcases List.mem_cons.1 h with h|h
   ·exact .inr (by rw[h];exact List.mem_cons_self ..)
   ·rcases rH r x z h with h|h
    ·exact .inl h
    ·exact .inr (List.mem_cons_of_mem _ h)
theorem vz: ∀{r:List Int} (x:Int),Up r→Up (cE r x).1
 | [],x,_=>List.pairwise_singleton ..
 |a::r,x,h=>by
  have h':=List.pairwise_cons.1 h
  by_cases c:x<a
  ·rw[cM c]
   exact List.pairwise_cons.2 ⟨fun z hz=>by have:=h'.1 z hz;omega,h'.2⟩
  ·rw[cp (by omega)]
   refine List.pairwise_cons.2 ⟨fun z hz=> ?_,vz x h'.2⟩
   rcases rH r x z hz with e|e
   ·omega
   ·exact h'.1 z e
theorem iY: ∀(r:List Int) (x:Int),(cE r x).2= []∨ ∃b,(cE r x).2= [b]∧x<b∧b∈r
 | [],x=> .inl rfl
 |a::r,x=>by
  by_cases c:x<a
  ·rw[cM c];exact .inr ⟨a,rfl,c,List.mem_cons_self ..⟩
  ·rw[cp (by omega)]
   rcases iY r x with h|⟨b,h1,h2,h3⟩
   ·exact .inl h
   ·exact .inr ⟨b,h1,h2,List.mem_cons_of_mem _ h3⟩
theorem zg: ∀{r:List Int} {y z:Int},Up r→y≤z→((cE r y).2= []→(cE (cE r y).1 z).2= [])∧ ∀p q,(cE r y).2= [p]→(cE (cE r y).1 z).2= [q]→p≤q
 | [],y,z,_,hz=>by
  refine⟨fun _=> ?_,fun p q h=>by simp[cE]at h⟩
  show(cE [y] z).2= []
  rw[cp hz];rfl
 |a::r,y,z,h,hz=>by
  have h':=List.pairwise_cons.1 h
  by_cases c:y<a
  ·rw[cM c]
   refine⟨fun e=>by simp at e,fun p q e1 e2=> ?_⟩
   rw[cp hz]at e2
   rcases iY r z with o|⟨b,o1,_,o3⟩
   ·simp only at e2;rw[o]at e2;simp at e2
   ·simp only at e2
    rw[o1]at e2
    simp only[List.cons.injEq,and_true]at e1 e2
    have:=h'.1 b o3
    omega
  ·rw[cp (show a≤y by omega)]
   show((cE r y).2= []→(cE (a::(cE r y).1) z).2= [])∧ ∀p q,(cE r y).2= [p]→(cE (a::(cE r y).1) z).2= [q]→p≤q
   rw[cp (show a≤z by omega)]
   exact zg h'.2 hz
theorem zo: ∀{r:List Int} {y z:Int},Up r→y<z→z∈r→ ∃c,(cE r y).2= [c]∧y<c∧c≤z
 | [],_,_,_,_,hm=>by simp at hm
 |a::r,y,z,h,hz,hm=>by
  have h':=List.pairwise_cons.1 h
  by_cases c:y<a
  ·rw[cM c]
   refine⟨a,rfl,c,?_⟩
   rcases List.mem_cons.1 hm with e|e
   ·omega
   ·exact h'.1 z e
  ·rw[cp (by omega)]
   rcases List.mem_cons.1 hm with e|e
   ·omega
   ·exact zo h'.2 hz e
theorem uy: ∀(r:List Int) (x:Int),x∈(cE r x).1
 | [],x=>List.mem_singleton.2 rfl
 |a::r,x=>by
  by_cases c:x<a
  ·rw[cM c];exact List.mem_cons_self ..
  ·rw[cp (by omega)];exact List.mem_cons_of_mem _ (uy r x)
def Tri(u v:List Int):Prop:= ∃x y z:Int,(x<y∧y≤z∧u= [y,z,x]∧v= [y,x,z])∨(x≤y∧y<z∧u= [x,z,y]∧v= [z,x,y])
theorem Tri.a{x y z:Int}(h1:x<y)(h2:y≤z):Tri [y,z,x] [y,x,z]:=⟨x,y,z,.inl ⟨h1,h2,rfl,rfl⟩⟩
theorem Tri.b{x y z:Int}(h1:x≤y)(h2:y<z):Tri [x,z,y] [z,x,y]:=⟨x,y,z,.inr ⟨h1,h2,rfl,rfl⟩⟩
def fJ:List Int→List Int→List Int×List Int
 |r,[]=>(r,[])
 |r,x::w=>((fJ (cE r x).1 w).1,(cE r x).2++(fJ (cE r x).1 w).2)
def yS(p q:List Int×List Int):Prop:=p.1=q.1∧(p.2=q.2∨Tri p.2 q.2)
theorem mQ{a:Int}: ∀{w r:List Int},(∀x∈w,a≤x)→fJ (a::r) w=(a::(fJ r w).1,(fJ r w).2)
 | [],_,_=>rfl
 |x::w,r,h=>by
  show((fJ (cE (a::r) x).1 w).1,(cE (a::r) x).2++(fJ (cE (a::r) x).1 w).2)=_
  rw[cp (h x (List.mem_cons_self ..))]
  simp only
  rw[mQ fun y hy=>h y (List.mem_cons_of_mem _ hy)]
  rfl
theorem kg(r:List Int)(x y z:Int):fJ r [x,y,z]=((cE (cE (cE r x).1 y).1 z).1,(cE r x).2++((cE (cE r x).1 y).2++(cE (cE (cE r x).1 y).1 z).2)):=by
 simp[fJ]
theorem CP: ∀{r:List Int} {x y z:Int},Up r→x<y→y≤z→yS (fJ r [y,z,x]) (fJ r [y,x,z])
 | [],x,y,z,_,h1,h2=>by
  refine⟨?_,.inl ?_⟩
  ·simp[fJ,cE,h1,show¬z<y by omega,show¬z<x by omega]
  ·simp[fJ,cE,h1,show¬z<y by omega,show¬z<x by omega]
 |a::r,x,y,z,h,h1,h2=>by
  have h':=List.pairwise_cons.1 h
  by_cases c:y<a
  ·rw[kg,kg,cM c]
   simp only
   rw[cp (r:=r) h2,cM (r:=r) h1]
   simp only
   rw[cM h1,cp (show x≤z by omega)]
   refine⟨rfl,?_⟩
   rcases iY r z with o|⟨b,o1,o2,o3⟩
   ·simp only;rw[o];exact .inl rfl
   ·simp only;rw[o1]
    exact .inr (Tri.a c (h'.1 b o3))
  ·by_cases c2:x<a
   ·rw[kg,kg,cp (show a≤y by omega)]
    simp only
    rw[cp (show a≤z by omega),cM c2]
    simp only
    rw[cM c2,cp (show x≤z by omega)]
    refine⟨rfl,?_⟩
    simp only
    obtain⟨e1,e2⟩:=zg h'.2 h2
    rcases iY r y with o|⟨b,o1,o2,o3⟩
    ·rw[o,e1 o];exact .inl rfl
    ·rcases iY (cE r y).1 z with p|⟨d,p1,p2,p3⟩
     ·rw[p,o1];exact .inl rfl
     ·rw[o1,p1]
      exact .inr (Tri.a (by omega) (e2 _ _ o1 p1))
   ·have ih:=CP h'.2 h1 h2
    rw[mQ (by simp;omega),mQ (by simp;omega)]
    exact⟨congrArg (a:: ·) ih.1,ih.2⟩
theorem CJ: ∀{r:List Int} {x y z:Int},Up r→x≤y→y<z→yS (fJ r [x,z,y]) (fJ r [z,x,y])
 | [],x,y,z,_,h1,h2=>by
  refine⟨?_,.inl ?_⟩
  ·simp[fJ,cE,h2,show x<z by omega,show¬z<x by omega,show¬y<x by omega]
  ·simp[fJ,cE,h2,show x<z by omega,show¬z<x by omega,show¬y<x by omega]
 |a::r,x,y,z,h,h1,h2=>by
  have h':=List.pairwise_cons.1 h
  by_cases c:z<a
  ·rw[kg,kg,cM (show x<a by omega),cM c]
   simp only
   rw[cp (r:=r) (show x≤z by omega),cM (r:=r) (show x<z by omega)]
   simp only
   rw[cp h1,cp h1]
   cases r with
   |nil=>simp[cE,h2,yS]
   |cons b r=>
    have hb:=h'.1 b (List.mem_cons_self ..)
    rw[cM (show z<b by omega),cM (show y<b by omega)]
    simp only
    rw[cM h2]
    exact⟨rfl,.inr (Tri.a c hb)⟩
  ·by_cases c2:x<a
   ·rw[kg,kg,cM c2,cp (show a≤z by omega)]
    simp only
    rw[cM c2,cp (show x≤z by omega)]
    simp only
    rw[cp h1]
    refine⟨rfl,?_⟩
    simp only
    rcases iY r z with o|⟨b,o1,o2,o3⟩
    ·rw[o];exact .inl rfl
    ·rw[o1]
     obtain⟨d,d1,d2,d3⟩:=zo (vz z h'.2) h2 (uy r z)
     rw[d1]
     refine .inr (Tri.b ?_ (by omega))
     rcases iY (cE r z).1 y with p|⟨q,p1,p2,p3⟩
     ·rw[p]at d1;simp at d1
     ·rw[p1]at d1
      have:q=d:=by simpa using d1
      subst this
      rcases rH r z q p3 with e|e
      ·omega
      ·exact h'.1 q e
   ·have ih:=CJ h'.2 h1 h2
    rw[mQ (by simp;omega),mQ (by simp;omega)]
    exact⟨congrArg (a:: ·) ih.1,ih.2⟩
theorem BX{r u v:List Int}(h:Up r)(t:Tri u v):yS (fJ r u) (fJ r v):=by
 obtain⟨x,y,z,⟨h1,h2,rfl,rfl⟩|⟨h1,h2,rfl,rfl⟩⟩:=t
 ·exact CP h h1 h2
 ·exact CJ h h1 h2
theorem AX(a x:Int)(r:List Int):fst (a::r) x=if x<a then 0 else fst r x+1:=by
 unfold fst
 rw[List.findIdx_cons]
 by_cases c:x<a
 ·rw[if_pos c,decide_eq_true c];rfl
 ·rw[if_neg c,decide_eq_false c];rfl
theorem vZ: ∀(r:List Int) (x:Int),cE r x=if fst r x<r.length then(r.set (fst r x) x,[r.getD (fst r x) 0])else(r++ [x],[])
 | [],x=>rfl
 |a::r,x=>by
  rw[AX]
  by_cases c:x<a
  ·rw[cM c,if_pos c,if_pos (by simp)];rfl
  ·rw[cp (by omega),if_neg c,vZ r x]
   by_cases d:fst r x<r.length
   ·rw[if_pos d,if_pos (by simpa using d)];rfl
   ·rw[if_neg d,if_neg (by simpa using d)];rfl
theorem xg(r:List Int)(rs:List (List Int))(x:Int):(bj (r::rs) x).1=(cE r x).1::lk (cE r x).2 rs:=by
 rw[fA,vZ]
 by_cases c:fst r x<r.length
 ·rw[if_pos c,if_pos c];rfl
 ·rw[if_neg c,if_neg c];rfl
theorem pC: ∀(w r:List Int) (rs:List (List Int)),lk w (r::rs)=(fJ r w).1::lk (fJ r w).2 rs
 | [],_,_=>rfl
 |x::w,r,rs=>by
  show lk w (bj (r::rs) x).1=_
  rw[xg,pC w]
  simp only[fJ]
  rw[kX]
theorem Cu{u v:List Int}(t:Tri u v):lk u []=lk v []:=by
 obtain⟨x,y,z,⟨h1,h2,rfl,rfl⟩|⟨h1,h2,rfl,rfl⟩⟩:=t
 ·simp[lk,bj,List.findIdx_cons,h1,show¬z<y by omega,show¬z<x by omega]
 ·simp[lk,bj,List.findIdx_cons,h2,show x<z by omega,show¬z<x by omega,show¬y<x by omega]
theorem yI: ∀{P:List (List Int)} {u v:List Int},(∀r∈P,Up r)→Tri u v→lk u P=lk v P
 | [],_,_,_,t=>Cu t
 |r::rs,u,v,h,t=>by
  rw[pC,pC]
  obtain⟨a,b|b⟩:=BX (h r (List.mem_cons_self ..)) t
  ·rw[a,b]
  ·rw[a,yI (fun q hq=>h q (List.mem_cons_of_mem _ hq)) b]
inductive Kn : List Int → List Int → Prop
  | refl (w) : Kn w w
  | symm {v w} : Kn v w → Kn w v
  | trans {u v w} : Kn u v → Kn v w → Kn u w
  | tri {u v} (a b) : Tri u v → Kn (a ++ u ++ b) (a ++ v ++ b)
theorem Kn.ctx{u v:List Int}(c d:List Int)(h:Kn u v):Kn (c++u++d) (c++v++d):=by
 induction h with
 |refl w=>exact .refl _
 |symm _ ih=>exact .symm ih
 |trans _ _ h1 h2=>exact .trans h1 h2
 |tri a b t=>
  have:=Kn.tri (c++a) (b++d) t
  simp only[List.append_assoc]at this⊢
  exact this
theorem Kn.left{u v:List Int}(c:List Int)(h:Kn u v):Kn (c++u) (c++v):=by
 have:=h.ctx c []
 simpa using this
theorem Kn.right{u v:List Int}(d:List Int)(h:Kn u v):Kn (u++d) (v++d):=by
 have:=h.ctx [] d
 simpa using this
theorem Kn.cons{u v:List Int}(c:Int)(h:Kn u v):Kn (c::u) (c::v):=h.left [c]
theorem Kn.of{u v:List Int}(t:Tri u v):Kn u v:=by
 have:=Kn.tri [] [] t
 simpa using this
theorem Kn.app{u v u' v':List Int}(h:Kn u u')(g:Kn v v'):Kn (u++v) (u'++v'):=(h.right v).trans (g.left u')
theorem y5: ∀{P:List (List Int)} (x:Int),(∀r∈P,Up r)→ ∀r∈(bj P x).1,Up r
 | [],x,_=>fun r hr=>by
  have:r= [x]:=by simpa[bj]using hr
  rw[this];exact List.pairwise_singleton ..
 |q::P,x,h=>by
  rw[xg]
  intro r hr
  have hP: ∀r∈P,Up r:=fun r hr=>h r (List.mem_cons_of_mem _ hr)
  rcases List.mem_cons.1 hr with e|e
  ·rw[e];exact vz x (h q (List.mem_cons_self ..))
  ·rcases iY q x with o|⟨b,o,_,_⟩
   ·rw[o]at e;exact hP r e
   ·rw[o]at e;exact y5 b hP r e
theorem yR: ∀{w:List Int} {P:List (List Int)},(∀r∈P,Up r)→ ∀r∈lk w P,Up r
 | [],_,h=>h
 |x::w,P,h=>show∀r∈lk w (bj P x).1,Up r from yR (y5 x h)
theorem Kn.ins{u v:List Int}(h:Kn u v): ∀{P:List (List Int)},(∀r∈P,Up r)→lk u P=lk v P:=by
 induction h with
 |refl w=>intro P _;rfl
 |symm _ ih=>intro P hP;exact(ih hP).symm
 |trans _ _ h1 h2=>intro P hP;rw[h1 hP,h2 hP]
 |tri a b t=>
  intro P hP
  rw[kX,kX,kX,kX,yI (yR hP) t]
end Go.Am.Pu
end
section
/- Rows and slides keep words related. Plain words. -/
namespace Go.Am.Pu
def C1(q:List Int)(g:List (List Int))(i c r:Nat):List Int:=
 if r=i then((g.getD r []).take c).drop (q.getD r 0).toNat++(g.getD r []).drop (c+1)else(g.getD r []).drop (q.getD r 0).toNat
end Go.Am.Pu
end
section
/- The rectification is the tableau of the word. Plain words. -/
namespace Go.Am.Pu
end Go.Am.Pu
end
section
/- Slides outwards: what holds on the way, what they leave; slides in and out undo each other. Plain words. -/
namespace Go.Am.Pu
theorem Sl.up{q:List Int}{g:List (List Int)}{i c:Nat}(h:Sl q g (i+1) c)(hi:Inn q g)(hu:cel g i c≠0)(hl:leftOf g (i+1) c≤cel g i c):Sl q (jo g (i+1) c (cel g i c)) i c:=by
 obtain⟨b1,b2⟩:=u4 hu
 have hq:q.getD i 0≤c:=Int.not_lt.1 fun hlt=>hu (hi i c hlt)
 have hqm:=h.qm i
 have hun:=h.num i c hq b2 (by omega)
 have e0:=iS (cel g i c) h.hi h.hc
 have en: ∀r x,¬(r=i+1∧x=c)→cel (jo g (i+1) c (cel g i c)) r x=cel g r x:=fun r x hh=>gh _ hh
 have hll:=h.lm i
 refine⟨h.q0,h.qm,fun r=> ?_,?_,?_,hq,fun r x=> ?_,fun r x h1 h2 h3=> ?_,fun r x h1 h2 h3 h4=> ?_,fun r x h1 h2 h3 h4=> ?_,fun x h1 h2 h3=> ?_,fun r h1 h2 h3=> ?_⟩
 ·rw[a8,a8];exact h.lm r
 ·rw[fX];exact b1
 ·rw[a8];exact b2
 ·by_cases e:r=i+1∧x=c
  ·rw[e.1,e.2,e0];exact h.pos _ _
  ·rw[en r x e];exact h.pos _ _
 ·rw[a8]at h2
  by_cases e:r=i+1∧x=c
  ·rw[e.1,e.2,e0];exact hun
  ·rw[en r x e];exact h.num r x h1 h2 e
 ·rw[a8]at h2
  by_cases e:r=i+1∧x=c
  ·obtain⟨rfl,rfl⟩:=e
   rw[e0,en _ _ (by omega)]
   have h5:=h.row i x hq (by omega) (by omega) (by omega)
   have h6:=h.col i (x+1) (by omega) h2 (by omega) (by omega)
   omega
  ·rw[en r x e]
   by_cases e':r=i+1∧x+1=c
   ·obtain⟨rfl,rfl⟩:=e'
    rw[e0]
    unfold leftOf at hl
    rw[if_neg (by omega),show x+1-1=x by omega]at hl
    exact hl
   ·rw[en r (x+1) e'];exact h.row r x h1 h2 e e'
 ·rw[a8]at h2
  by_cases e:r=i+1∧x=c
  ·obtain⟨rfl,rfl⟩:=e
   rw[e0,en _ _ (by omega)]
   exact h.colH i rfl hq h2
  ·rw[en r x e]
   by_cases e':r+1=i+1∧x=c
   ·exact(h3 ⟨by omega,e'.2⟩).elim
   ·rw[en (r+1) x e']
    exact h.col r x h1 h2 e e'
 ·rw[a8]at h3
  rw[en _ _ (by omega),en _ _ (by omega)]
  subst h1
  have h5:=h.row i x h2 (by omega) (by omega) (by omega)
  have h6:=h.row i (x+1) (by omega) h3 (by omega) (by omega)
  omega
 ·rw[a8]at h3
  subst h1
  rw[en _ _ (by omega),e0]
  exact h.col r c h2 b2 (by omega) (by omega)
theorem Sl.left{q:List Int}{g:List (List Int)}{i c:Nat}(h:Sl q g i (c+1))(hi:Inn q g)(hv:cel g i c≠0)(hu:xh g i (c+1)<cel g i c):Sl q (jo g i (c+1) (cel g i c)) i c:=by
 obtain⟨b1,b2⟩:=u4 hv
 have hq:q.getD i 0≤c:=Int.not_lt.1 fun hlt=>hv (hi i c hlt)
 have hqm:=h.qm i
 have hvn:=h.num i c hq b2 (by omega)
 have e0:=iS (cel g i c) h.hi h.hc
 have en: ∀r x,¬(r=i∧x=c+1)→cel (jo g i (c+1) (cel g i c)) r x=cel g r x:=fun r x hh=>gh _ hh
 have hll:=h.lm i
 refine⟨h.q0,h.qm,fun r=> ?_,?_,?_,hq,fun r x=> ?_,fun r x h1 h2 h3=> ?_,fun r x h1 h2 h3 h4=> ?_,fun r x h1 h2 h3 h4=> ?_,fun x h1 h2 h3=> ?_,fun r h1 h2 h3=> ?_⟩
 ·rw[a8,a8];exact h.lm r
 ·rw[fX];exact b1
 ·rw[a8];exact b2
 ·by_cases e:r=i∧x=c+1
  ·rw[e.1,e.2,e0];exact h.pos _ _
  ·rw[en r x e];exact h.pos _ _
 ·rw[a8]at h2
  by_cases e:r=i∧x=c+1
  ·rw[e.1,e.2,e0];exact hvn
  ·rw[en r x e];exact h.num r x h1 h2 e
 ·rw[a8]at h2
  by_cases e:r=i∧x=c+1
  ·obtain⟨rfl,rfl⟩:=e
   rw[e0,en _ _ (by omega)]
   exact h.C1 c rfl hq h2
  ·rw[en r x e]
   by_cases e':r=i∧x+1=c+1
   ·exact(h3 ⟨e'.1,by omega⟩).elim
   ·rw[en r (x+1) e'];exact h.row r x h1 h2 e e'
 ·rw[a8]at h2
  by_cases e:r=i∧x=c+1
  ·obtain⟨rfl,rfl⟩:=e
   rw[e0,en _ _ (by omega)]
   have h5:=h.col r c hq (by omega) (by omega) (by omega)
   have h6:=h.row (r+1) c (by omega) h2 (by omega) (by omega)
   omega
  ·rw[en r x e]
   by_cases e':r+1=i∧x=c+1
   ·obtain⟨rfl,rfl⟩:=e'
    rw[e0]
    unfold xh at hu
    rw[if_neg (by omega),show r+1-1=r by omega]at hu
    exact hu
   ·rw[en (r+1) x e']
    exact h.col r x h1 h2 e e'
 ·rw[a8]at h3
  subst h1
  rw[en _ _ (by omega),e0]
  exact h.row i x h2 b2 (by omega) (by omega)
 ·rw[a8]at h3
  rw[en _ _ (by omega),en _ _ (by omega)]
  subst h1
  have h5:=h.col r c h2 b2 (by omega) (by omega)
  have h6:=h.col (r+1) c hq h3 (by omega) (by omega)
  omega
end Go.Am.Pu
end
section
/- What a slide outwards leaves is a tableau; slides in and out undo each other. Plain words. -/
namespace Go.Am.Pu
section
variable {t : Tab} {n : Nat} {p : List Int}
def py(t:Tab)(n:Nat)(p:List Int):List (List Int)×(Nat×Nat):=pk 18 (BU t n) n (p.getD n 0-1).toNat
structure Df (t : Tab) (n : Nat) (p : List Int) (g : List (List Int)) (i c : Nat) (q : List Int) : Prop where
  sl : Sl t.1 g i c
  inn : Inn t.1 g
  len : g.length = p.length
  row : ∀ r, ((g.getD r []).length : Int) = p.getD r 0
  l0 : leftOf g i c = 0
  u0 : xh g i c = 0
  add : vt t.1 i = (q, true)
  qi : q.getD i 0 = c + 1
  qr : ∀ r, q.getD r 0 = if r = i then (c : Int) + 1 else t.1.getD r 0
  qp : dq q = true
  ins : ∀ r, q.getD r 0 ≤ p.getD r 0
def qB(t:Tab)(n:Nat):Tab×Nat:=
 let p:=(vt (outer t) n).1
 let s:=py t n p
 let q:=(vt t.1 s.2.1).1
 ((q,dB q s.1 p.length),s.2.1)
theorem Df.eq{q:List Int}(E:Df t n p (py t n p).1 (py t n p).2.1 (py t n p).2.2 q)(hp:vt (outer t) n=(p,true)):qB t n=((q,dB q (py t n p).1 p.length),(py t n p).2.1):=by
 unfold qB
 rw[hp]
 simp only[E.add]
end
section
variable {t : Tab} {n : Nat}
end
end Go.Am.Pu
end
section
/- Words of tableaux; the rows of a slide outwards. Plain words. -/
namespace Go.Am.Pu
end Go.Am.Pu
end
section
/- Partitions that are drawn; chains of partitions. Plain words. -/
namespace Go.Am.Pu
end Go.Am.Pu
end
section
/- Plain laws: tableaux side by side; a number's copies. -/
namespace Go.Am.Pu
open Go Go.Am
attribute [local instance] D.real
end Go.Am.Pu
end
section
/- Plain laws: boxes that lead on to an outer partition; chains. -/
namespace Go.Am.Pu
open Go Go.Am
attribute [local instance] D.real
end Go.Am.Pu
end
section
/- Plain laws: the local rule of insertion; exchanging places and numbers exchanges the two tableaux. -/
namespace Go.Am.Pu
end Go.Am.Pu
end
section
/- Plain laws: places and numbers exchanged: the tableau of the one is the recording of the other. -/
namespace Go.Am.Pu
def wd(L:List (Int×Int)):List Int:=L.map Prod.snd
def at1(s r:Nat):Nat:=if s=r then 1 else 0
structure Tr (L M : List (Int × Int)) : Prop where
  sl : L.Pairwise fun p q => p.1 < q.1
  sm : M.Pairwise fun p q => p.1 < q.1
  perm : M.Perm (L.map Prod.swap)
theorem Tr.symm{L M:List (Int×Int)}(h:Tr L M):Tr M L:=by
 refine⟨h.sm,h.sl,?_⟩
 have:=(h.perm.map Prod.swap).symm
 rwa [List.map_map,Prod.swap_swap_eq,List.map_id]at this
theorem Tr.len{L M:List (Int×Int)}(h:Tr L M):M.length=L.length:=by simpa using h.perm.length_eq
theorem Tr.mem{L M:List (Int×Int)}(h:Tr L M){p:Int×Int}(hp:p∈L):p.swap∈M:=h.perm.mem_iff.2 (List.mem_map_of_mem hp)
theorem Cc{A B:List (Int×Int)}{x:Int×Int}:(A++B).Sublist (A++x::B):=(List.Sublist.refl A).append (List.sublist_cons_self x B)
theorem Tr.cut{L0 A B:List (Int×Int)}{p:Int×Int}(h:Tr (L0++ [p]) (A++p.swap::B)):Tr L0 (A++B):=by
 refine⟨(List.pairwise_append.1 h.sl).1,h.sm.sublist Cc,?_⟩
 have h1:(A++p.swap::B).Perm (p.swap::(A++B)):=List.perm_middle
 have h2:((L0++ [p]).map Prod.swap).Perm (p.swap::L0.map Prod.swap):=by
  rw[List.map_append]
  exact List.perm_append_comm
 exact(List.perm_cons _).1 (h1.symm.trans (h.perm.trans h2))
theorem A8{L0:List (Int×Int)}{p:Int×Int}(h:(L0++ [p]).Pairwise fun p q=>p.1<q.1): ∀x∈L0,x.1<p.1:=fun x hx=>(List.pairwise_append.1 h).2.2 x hx p (by simp)
theorem Tr.top{L M0:List (Int×Int)}{q:Int×Int}(h:Tr L (M0++ [q])): ∀x∈L,x≠q.swap→x.2<q.1:=fun x hx hne=>by
 have hm:=h.mem hx
 rcases List.mem_append.1 hm with h1|h1
 ·exact A8 h.sm _ h1
 ·simp only[List.mem_singleton]at h1
  exact absurd (by rw[←h1,Prod.swap_swap]) hne
end Go.Am.Pu
end
section
/- Plain laws: taking a cell out undoes an insertion. -/
namespace Go.Am.Pu
structure Tk (rs : List (List Int)) (a : Nat) (R : List (List Int)) (y : Int) : Prop where
  ins : bj R y = (rs, a)
  ssr : SSR R
  pos : ∃ p, p < (rs.getD 0 []).length ∧ y = (rs.getD 0 []).getD p 0 ∧ (R.getD 0 []).length ≤ (rs.getD 0 []).length ∧ (∀ i, i < (R.getD 0 []).length → (rs.getD 0 []).getD i 0 ≤ (R.getD 0 []).getD i 0) ∧
    ∀ i, p ≤ i → i < (R.getD 0 []).length → y < (R.getD 0 []).getD i 0
end Go.Am.Pu
end
section
/- Plain laws: a removed number inserted again; a pair is what its word makes; the inverse of a permutation. -/
namespace Go.Am.Pu
end Go.Am.Pu
end
section
/- Plain laws: the inverse of a permutation; words that are their own standardization. -/
namespace Go.Am.Pu
section
variable {w : List Int} (h : isWord w = true) (ho : ke w = true)
include h ho
end
end Go.Am.Pu
end
section
/- Standardization step by step; what the law of the pairs wants, with no program in sight. -/
namespace Go.Am.Pu
set_option linter.unusedSimpArgs false
set_option linter.unusedVariables false
def pc(w:List Int)(i q:Nat):Nat:=((List.range q).filter fun k=>decide (w.getD k 0<w.getD i 0)||(decide (w.getD k 0=w.getD i 0)&&decide (k<i))).length
end Go.Am.Pu
end
section
/- Plain laws: insertion of letters told anew; insertion and recording of pairs in order, with repeats. -/
namespace Go.Am.Pu
set_option linter.unusedVariables false
section
variable {f : Int → Int} (hf : ∀ a b, a ≤ b → f a ≤ f b)
include hf
omit hf in
end
def Lex(p q:Int×Int):Prop:=p.1<q.1∨(p.1=q.1∧p.2≤q.2)
end Go.Am.Pu
end
section
/- Plain laws: the word of a recorded pair is the word; a recording with repeats, told by standard numbers. -/
namespace Go.Am.Pu
set_option linter.unusedVariables false
theorem zA{X Y:List (List Int)}(h:de X Y)(he: ∀r x,r<X.length→x<(X.getD r []).length→cel X r x=cel Y r x):X=Y:=by
 refine AI (d:= []) h.1 fun r hr=>AI (d:=0) (h.2 r) fun x hx=>he r x hr hx
end Go.Am.Pu
end
section
/- Plain laws: pairs in order and their two tableaux. -/
namespace Go.Am.Pu
set_option linter.unusedVariables false
def POK(L:List (Int×Int)):Prop:=L.length≤9∧ ∀p∈L,(1≤p.1∧p.1≤9)∧1≤p.2∧p.2≤9
theorem POK.word{L:List (Int×Int)}(h:POK L):isWord (wd L)=true:=by
 unfold isWord within
 simp only[Bool.and_eq_true,decide_eq_true_eq,List.all_eq_true,wd,List.length_map]
 refine⟨h.1,fun x hx=> ?_⟩
 obtain⟨p,hp,rfl⟩:=List.mem_map.1 hx
 exact(h.2 p hp).2
section
variable {L : List (Int × Int)} (h : POK L) (hl : L.Pairwise Lex)
include h
theorem C8:bz (([],og (wd L) [] [] 0):Tab)=true∧fS (([],og (wd L) [] [] 0):Tab)=true∧(og (wd L) [] [] 0).flatten.length=L.length:=by
 have hw:=h.word
 have:=tD hw
 unfold jO at this
 rw[if_pos hw]at this
 simpa[wd]using this
theorem eW{r x i:Nat}(hi:i<L.length)(hr:r<(og (wd L) [] [] 0).length)(hx:x<((og (wd L) [] [] 0).getD r []).length)(e:cel (og (wd L) [] [] 0) r x=((i+1:Nat):Int)):(zh (wd L) []).getD i 0=r:=by
 obtain⟨p1,p2,p3⟩:=C8 h
 have a:=(xa h.word).2 i (by simpa[wd]using hi)
 have b:=iJ p1 p2 hr hx e
 omega
include hl
end
end Go.Am.Pu
end
section
/- Plain laws: matrices and their pairs. -/
namespace Go.Am.Pu
set_option linter.unusedVariables false
set_option linter.unusedSimpArgs false
def Dk(c:Nat)(r:List Int):Bool:=decide (r.length=c)&&(decide (r.length≤9)&&r.all fun n=>within n 0 9)
def rI(m:List (List Int)):Bool:=decide (m.length≤9)&&(m.all (Dk (m.getD 0 []).length)&&decide (fT m.flatten≤9))
structure C6 (r c : Nat) (m : List (List Int)) : Prop where
  len : m.length = r
  r9 : r ≤ 9
  row : ∀ x ∈ m, x.length = c
  c9 : ∀ x ∈ m, x.length ≤ 9
  num : ∀ x ∈ m, ∀ n ∈ x, 0 ≤ n ∧ n ≤ 9
  sum : fT m.flatten ≤ 9
theorem vq{m:List (List Int)}:rI m=true↔C6 m.length (m.getD 0 []).length m:=by
 unfold rI Dk within
 simp only[Bool.and_eq_true,decide_eq_true_eq,List.all_eq_true]
 constructor
 ·rintro⟨a,b,c⟩
  exact⟨rfl,a,fun x hx=>(b x hx).1,fun x hx=>(b x hx).2.1,fun x hx=>(b x hx).2.2,c⟩
 ·rintro⟨_,a,b,c,d,e⟩
  exact⟨a,fun x hx=>⟨b x hx,c x hx,d x hx⟩,e⟩
theorem C6.is{r c:Nat}{m:List (List Int)}(h:C6 r c m):rI m=true:=by
 rw[vq]
 cases m with
 |nil=>exact⟨rfl,Nat.zero_le _,fun x hx=>(by cases hx),fun x hx=>(by cases hx),fun x hx=>(by cases hx),h.sum⟩
 |cons a m=>
  have:=h.row a (List.mem_cons_self ..)
  exact⟨rfl,by rw[h.len];exact h.r9,fun x hx=>by rw[List.getD_cons_zero,this];exact h.row x hx,h.c9,h.num,h.sum⟩
end Go.Am.Pu
end
section
/- Plain laws: a matrix is told by its two tableaux, and turning it exchanges them. -/
namespace Go.Am.Pu
set_option linter.unusedVariables false
end Go.Am.Pu
end
section
/- Plain laws: what the functions on matrices make step by step. -/
namespace Go.Am.Pu
set_option linter.unusedVariables false
end Go.Am.Pu
end
section
/- Plain laws: insertion by columns keeps the word's class. -/
namespace Go.Am.Pu
set_option linter.unusedVariables false
def ew(c:List Int)(x:Int):Nat:=c.findIdx fun n=>decide (x≤n)
def yc:List (List Int)→Int→List (List Int)
 | [],x=> [[x]]
 |c::cs,x=>if ew c x<c.length then c.set (ew c x) x::yc cs (c.getD (ew c x) 0)else(c++ [x])::cs
end Go.Am.Pu
end
section
/- Plain laws: columns and rows of a tableau; insertion by columns keeps it a tableau. -/
namespace Go.Am.Pu
set_option linter.unusedVariables false
def zb(c:List Int):List (List Int)→Prop
 | []=>True
 |d::_=>d.length≤c.length∧ ∀q,q<d.length→c.getD q 0≤d.getD q 0
def CC:List (List Int)→Prop
 | []=>True
 |c::cs=>0<c.length∧c.Pairwise (· < ·)∧zb c cs∧CC cs
theorem yK{c:List Int}(h:c.Pairwise (· < ·)){i j:Nat}(hij:i<j)(hj:j<c.length):c.getD i 0<c.getD j 0:=by
 rw[List.pairwise_iff_getElem]at h
 rw[aw (by omega),aw hj]
 exact h i j (by omega) hj hij
theorem Dj{c:List Int}(h:c.Pairwise (· < ·)){i j:Nat}(hij:i≤j)(hj:j<c.length):c.getD i 0≤c.getD j 0:=by
 rcases Nat.lt_or_ge i j with q|q
 ·have:=yK h q hj;omega
 ·rw[show i=j by omega];exact Int.le_refl _
theorem wy{c:List Int}(h: ∀i j,i<j→j<c.length→c.getD i 0<c.getD j 0):c.Pairwise (· < ·):=by
 rw[List.pairwise_iff_getElem]
 intro i j hi hj hij
 have:=h i j hij hj
 rwa [aw hi,aw hj]at this
theorem yT{c:List Int}{x:Int}(h:ew c x<c.length):x≤c.getD (ew c x) 0:=by
 have:=List.findIdx_getElem (w:=h) (p:=fun n=>decide (x≤n))
 rw[aw h];exact of_decide_eq_true this
theorem vA{c:List Int}{x:Int}{i:Nat}(h:i<ew c x):c.getD i 0<x:=by
 have hl:i<c.length:=Nat.lt_of_lt_of_le h List.findIdx_le_length
 have:=List.not_of_lt_findIdx (p:=fun n=>decide (x≤n)) (xs:=c) h
 have:=of_decide_eq_false this
 rw[aw hl];omega
theorem vB{c:List Int}{x:Int}:ew c x≤c.length:=List.findIdx_le_length
theorem Cf{c:List Int}{x:Int}(h:c.Pairwise (· < ·))(hk:ew c x<c.length):(c.set (ew c x) x).Pairwise (· < ·):=wy fun i j hij hj=>by
 rw[List.length_set]at hj
 rw[fb x hk,fb x hk]
 have ha:=yT hk
 by_cases ci:i=ew c x
 ·rw[if_pos ci,if_neg (by omega)]
  have:=yK h (i:=ew c x) (j:=j) (by omega) hj
  omega
 ·rw[if_neg ci]
  by_cases cj:j=ew c x
  ·rw[if_pos cj];exact vA (by omega)
  ·rw[if_neg cj];exact yK h hij hj
theorem B5{c:List Int}{x:Int}(h:c.Pairwise (· < ·))(hk: ¬ew c x<c.length):(c++ [x]).Pairwise (· < ·):=wy fun i j hij hj=>by
 rw[List.length_append,List.length_singleton]at hj
 rw[cO,cO]
 by_cases cj:j=c.length
 ·rw[if_neg (by omega),if_pos cj];exact vA (by have:= @vB c x;omega)
 ·rw[if_neg (by omega),if_neg cj];exact yK h hij (by omega)
theorem Aa{c:List Int}{x:Int}{cs:List (List Int)}(h:c.Pairwise (· < ·))(hk:ew c x<c.length)(ho:zb c cs)(hc:CC cs):zb (c.set (ew c x) x) (yc cs (c.getD (ew c x) 0)):=by
 have hy:=yT hk
 have hle: ∀q,q<c.length→(c.set (ew c x) x).getD q 0≤c.getD q 0:=fun q hq=>by
  rw[fb x hk]
  split
  ·next e=>rw[e];exact hy
  ·exact Int.le_refl _
 have hset: ∀q,q≤ew c x→(c.set (ew c x) x).getD q 0≤c.getD (ew c x) 0:=fun q hq=>by
  have:=hle q (by omega)
  have:=Dj h hq hk
  omega
 cases cs with
 |nil=>
  refine⟨by show 1≤_;rw[List.length_set];omega,fun q hq=> ?_⟩
  have hq:q<1:=hq
  rw[show q=0 by omega]
  exact hset 0 (Nat.zero_le _)
 |cons d ds=>
  obtain⟨o1,o2⟩:=ho
  have hk':ew d (c.getD (ew c x) 0)≤ew c x:=Nat.le_of_not_lt fun hlt=>by
   have hd:ew c x<d.length:=by have:= @vB d (c.getD (ew c x) 0);omega
   have a:=vA hlt
   have b:=o2 _ hd
   omega
  show zb _ (if ew d (c.getD (ew c x) 0)<d.length then _ else _)
  by_cases g:ew d (c.getD (ew c x) 0)<d.length
  ·rw[if_pos g]
   refine⟨by rw[List.length_set,List.length_set];exact o1,fun q hq=> ?_⟩
   rw[List.length_set]at hq
   rw[fb _ g]
   split
   ·next e=>exact hset q (by omega)
   ·have:=hle q (by omega)
    have:=o2 q hq
    omega
  ·rw[if_neg g]
   have e:ew d (c.getD (ew c x) 0)=d.length:=by have:= @vB d (c.getD (ew c x) 0);omega
   refine⟨by rw[List.length_set,List.length_append,List.length_singleton];omega,fun q hq=> ?_⟩
   rw[List.length_append,List.length_singleton]at hq
   rw[cO]
   split
   ·next e2=>exact hset q (by omega)
   ·have:=hle q (by omega)
    have:=o2 q (by omega)
    omega
theorem BF: ∀(C:List (List Int)) (x:Int),CC C→CC (yc C x)
 | [],x,_=>⟨by simp,by simp,trivial,trivial⟩
 |c::cs,x,⟨h1,h2,h3,h4⟩=>by
  show CC (if ew c x<c.length then _ else _)
  by_cases g:ew c x<c.length
  ·rw[if_pos g]
   exact⟨by rw[List.length_set];exact h1,Cf h2 g,Aa h2 g h3 h4,BF cs _ h4⟩
  ·rw[if_neg g]
   refine⟨by rw[List.length_append,List.length_singleton];omega,B5 h2 g,?_,h4⟩
   cases cs with
   |nil=>trivial
   |cons d ds=>
    obtain⟨o1,o2⟩:=h3
    exact⟨by rw[List.length_append,List.length_singleton];omega,fun q hq=>by rw[cO,if_neg (by omega)];exact o2 q hq⟩
theorem ve: ∀{C:List (List Int)},CC C→(∀c∈C,0<c.length∧c.Pairwise (· < ·))∧ ∀i,i+1<C.length→(C.getD (i+1) []).length≤(C.getD i []).length∧ ∀q,q<(C.getD (i+1) []).length→(C.getD i []).getD q 0≤(C.getD (i+1) []).getD q 0
 | [],_=>⟨fun c hc=>(by cases hc),fun i hi=>(by simp at hi)⟩
 |c::cs,⟨h1,h2,h3,h4⟩=>by
  obtain⟨a,b⟩:=ve h4
  refine⟨fun d hd=> ?_,fun i hi=> ?_⟩
  ·rcases List.mem_cons.1 hd with rfl|hd
   ·exact⟨h1,h2⟩
   ·exact a d hd
  ·cases i with
   |zero=>
    cases cs with
    |nil=>simp at hi
    |cons d ds=>exact h3
   |succ i=>exact b i (by simpa using hi)
def kp:List Int→List (List Int)→List (List Int)
 | [],C=>C
 |n::r,[]=> [n]::kp r []
 |n::r,c::C=>(n::c)::kp r C
def bR:List (List Int)→List (List Int)
 | []=> []
 |r::rs=>kp r (bR rs)
def Reg(t:List (List Int)):Prop:=(∀r∈t,0<r.length)∧ ∀i,i+1<t.length→(t.getD (i+1) []).length≤(t.getD i []).length
theorem Reg.tail{r:List Int}{rs:List (List Int)}(h:Reg (r::rs)):Reg rs∧(rs.getD 0 []).length≤r.length:=by
 refine⟨⟨fun s hs=>h.1 s (List.mem_cons_of_mem _ hs),fun i hi=>h.2 (i+1) (by simpa using hi)⟩,?_⟩
 cases rs with
 |nil=>exact Nat.zero_le _
 |cons s rs=>exact h.2 0 (by simp)
theorem pK: ∀(r:List Int) (C:List (List Int)),C.length≤r.length→(kp r C).length=r.length
 | [],C,h=>by simp at h;subst h;rfl
 |n::r,[],_=>by simp[kp,pK r [] (Nat.zero_le _)]
 |n::r,c::C,h=>by simp[kp,pK r C (by simpa using h)]
theorem pG: ∀(r:List Int) (C:List (List Int)) (q:Nat),C.length≤r.length→(kp r C).getD q []=if q<r.length then r.getD q 0::C.getD q []else []
 | [],C,q,h=>by simp at h;subst h;simp[kp]
 |n::r,[],0,_=>by simp[kp]
 |n::r,[],q+1,_=>by
  have:=pG r [] q (Nat.zero_le _)
  simp only[kp,List.getD_cons_succ,this,List.length_cons]
  by_cases h:q<r.length
  ·rw[if_pos h,if_pos (by omega)];simp
  ·rw[if_neg h,if_neg (by omega)]
 |n::r,c::C,0,_=>by simp[kp]
 |n::r,c::C,q+1,h=>by
  have:=pG r C q (by simpa using h)
  simp only[kp,List.getD_cons_succ,this,List.length_cons]
  by_cases g:q<r.length
  ·rw[if_pos g,if_pos (by omega)]
  ·rw[if_neg g,if_neg (by omega)]
theorem mA: ∀{t:List (List Int)},Reg t→(bR t).length=(t.getD 0 []).length
 | [],_=>rfl
 |r::rs,h=>by
  have:=mA h.tail.1
  exact pK r _ (by rw[this];exact h.tail.2)
theorem jv: ∀{t:List (List Int)},Reg t→ ∀q i,(i<((bR t).getD q []).length↔q<(t.getD i []).length)∧((bR t).getD q []).getD i 0=(t.getD i []).getD q 0
 | [],_,q,i=>by simp[bR]
 |r::rs,h,q,i=>by
  have hl:=mA h.tail.1
  have ht:=h.tail.2
  have e:=pG r (bR rs) q (by rw[hl];exact ht)
  show(i<((kp r (bR rs)).getD q []).length↔_)∧((kp r (bR rs)).getD q []).getD i 0=_
  rw[e]
  by_cases g:q<r.length
  ·rw[if_pos g]
   cases i with
   |zero=>simp[g]
   |succ i=>
    have:=jv h.tail.1 q i
    simp only[List.length_cons,List.getD_cons_succ]
    exact⟨by rw[←this.1];omega,this.2⟩
  ·rw[if_neg g]
   have hle: ∀i,((r::rs).getD i []).length≤r.length:=by
    intro i
    induction i with
    |zero=>simp
    |succ i ih=>
     by_cases hi:i+1<(r::rs).length
     ·exact Nat.le_trans (h.2 i hi) ih
     ·rw[List.getD_eq_getElem?_getD,List.getElem?_eq_none (by omega)];exact Nat.zero_le _
   have:=hle i
   refine⟨⟨fun h=>by simp at h,fun h=>by omega⟩,?_⟩
   rw[List.getD_eq_getElem?_getD (l:=(r::rs).getD i []),List.getElem?_eq_none (by omega)]
   simp
theorem Bc{C:List (List Int)}(h:CC C):Reg C:=⟨fun c hc=>((ve h).1 c hc).1,fun i hi=>((ve h).2 i hi).1⟩
end Go.Am.Pu
end
section
/- Plain laws: one step of insertion by columns, seen in the rows. -/
namespace Go.Am.Pu
set_option linter.unusedVariables false
theorem rS{α:Type}{l:List α}{i:Nat}(h:l.length≤i)(d:α):l.getD i d=d:=by
 rw[List.getD_eq_getElem?_getD,List.getElem?_eq_none h];rfl
theorem gss{l:List (List Int)}{i:Nat}(h:i<l.length)(v:List Int):(l.set i v).getD i []=v:=by
 rw[aw (by rw[List.length_set];exact h),List.getElem_set_self]
def j1(D:List (List Int))(c:Nat)(x:Int):List (List Int):=if c=D.length then D++ [[x]]else D.set c (D.getD c []++ [x])
theorem wV{D:List (List Int)}{c:Nat}(x:Int)(hc:c≤D.length)(i:Nat):(j1 D c x).getD i []=if i=c then D.getD c []++ [x]else D.getD i []:=uw (Q:=D) (a:=c) x hc i
theorem BA{D:List (List Int)}(h:Reg D){c:Nat}(hc:c≤D.length)(x:Int)(h':Reg (j1 D c x)):bR (j1 D c x)=j1 (bR D) (D.getD c []).length x∧(D.getD c []).length≤(bR D).length∧((bR D).getD (D.getD c []).length []).length=c:=by
 have hg:=wV x hc
 have hlen: ∀i,((j1 D c x).getD i []).length=if i=c then(D.getD c []).length+1 else(D.getD i []).length:=fun i=>by
  rw[hg];split
  ·rw[List.length_append,List.length_singleton]
  ·rfl
 have ant: ∀d,(D.getD d []).length≤(D.getD 0 []).length:=by
  intro d
  induction d with
  |zero=>exact Nat.le_refl _
  |succ d ih=>
   by_cases hd:d+1<D.length
   ·exact Nat.le_trans (h.2 d hd) ih
   ·rw[rS (by omega)];exact Nat.zero_le _
 have hrl:(D.getD c []).length≤(bR D).length:=by rw[mA h];exact ant c
 have hrc:((bR D).getD (D.getD c []).length []).length=c:=by
  refine Nat.le_antisymm (Nat.le_of_not_lt fun hlt=> ?_) (Nat.le_of_not_lt fun hlt=> ?_)
  ·have:=(jv h _ c).1.1 hlt
   omega
  ·
   have a:=(jv h (D.getD c []).length ((bR D).getD (D.getD c []).length []).length).1
   have hc':((bR D).getD (D.getD c []).length []).length<D.length:=by omega
   generalize hm:((bR D).getD (D.getD c []).length []).length=m at*
   have b: ¬(D.getD c []).length<(D.getD m []).length:=fun hh=>by have:=a.2 hh;omega
   have mono: ∀e,m+e≤c→((j1 D c x).getD (m+e) []).length≤((j1 D c x).getD m []).length:=by
    intro e
    induction e with
    |zero=>intro _;exact Nat.le_refl _
    |succ e ih=>
     intro he
     have hl2:(j1 D c x).length=if c=D.length then D.length+1 else D.length:=mS x
     exact Nat.le_trans (h'.2 (m+e) (by rw[hl2];split<;>omega)) (ih (by omega))
   have:=mono (c-m) (by omega)
   rw[show m+(c-m)=c by omega,hlen,hlen,if_pos rfl,if_neg (by omega)]at this
   omega
 refine⟨?_,hrl,hrc⟩
 have hg2:=wV (D:=bR D) (c:=(D.getD c []).length) x hrl
 have hl2:(j1 (bR D) (D.getD c []).length x).length=if(D.getD c []).length=(bR D).length then(bR D).length+1 else(bR D).length:=mS x
 have hrow2: ∀i,((j1 (bR D) (D.getD c []).length x).getD i []).length=if i=(D.getD c []).length then c+1 else((bR D).getD i []).length:=fun i=>by
  rw[hg2];split
  ·rw[List.length_append,List.length_singleton,hrc]
  ·rfl
 have key: ∀i q,q<((bR (j1 D c x)).getD i []).length↔q<((j1 (bR D) (D.getD c []).length x).getD i []).length:=fun i q=>by
  rw[(jv h' i q).1,hlen,hrow2]
  have a:=(jv h i q).1
  by_cases e:q=c
  ·subst e
   rw[if_pos rfl]
   by_cases e2:i=(D.getD q []).length
   ·rw[if_pos e2];omega
   ·rw[if_neg e2,a];omega
  ·rw[if_neg e]
   by_cases e2:i=(D.getD c []).length
   ·rw[if_pos e2,←a,e2,hrc];omega
   ·rw[if_neg e2,a]
 have hl:(bR (j1 D c x)).length=(j1 (bR D) (D.getD c []).length x).length:=by
  rw[mA h',hlen,hl2,mA h]
  by_cases e:0=c
  ·subst e
   rw[if_pos rfl,if_pos rfl]
  ·rw[if_neg e]
   split
   ·next e2=>
    exfalso
    have mono: ∀e,e≤c→((j1 D c x).getD e []).length≤((j1 D c x).getD 0 []).length:=by
     intro e
     induction e with
     |zero=>intro _;exact Nat.le_refl _
     |succ e ih=>
      intro he
      have hl3:(j1 D c x).length=if c=D.length then D.length+1 else D.length:=mS x
      exact Nat.le_trans (h'.2 e (by rw[hl3];split<;>omega)) (ih (by omega))
    have:=mono c (Nat.le_refl _)
    rw[hlen,hlen,if_pos rfl,if_neg e]at this
    omega
   ·rfl
 refine zA ⟨hl,fun i=> ?_⟩ fun i q hi hq=> ?_
 ·refine Nat.le_antisymm (Nat.le_of_not_lt fun hlt=> ?_) (Nat.le_of_not_lt fun hlt=> ?_)
  ·have:=(key i _).1 hlt;omega
  ·have:=(key i _).2 hlt;omega
 ·show((bR (j1 D c x)).getD i []).getD q 0=((j1 (bR D) (D.getD c []).length x).getD i []).getD q 0
  rw[(jv h' i q).2,hg,hg2]
  by_cases e:q=c
  ·rw[if_pos e]
   by_cases e2:i=(D.getD c []).length
   ·rw[if_pos e2,e2,cO,if_pos rfl,cO,if_pos (by rw[hrc];exact e)]
   ·rw[if_neg e2,cO,if_neg e2,(jv h i q).2,e]
  ·rw[if_neg e]
   by_cases e2:i=(D.getD c []).length
   ·rw[if_pos e2,cO,if_neg (by rw[hrc];exact e),(jv h _ q).2,e2]
   ·rw[if_neg e2,(jv h i q).2]
structure rq (C : List (List Int)) (z : Int) (D : List (List Int)) (c : Nat) (x : Int) : Prop where
  same : de D C
  rest : D.drop c = C.drop c
  inv : D.take c ++ yc (D.drop c) x = yc C z
  le : c ≤ D.length
section
variable {C D : List (List Int)} {z x : Int} {c : Nat} (h : CC C) (s : rq C z D c x)
include s
theorem rq.col:D.getD c []=C.getD c []:=by
 have:=congrArg (fun l:List (List Int)=>l.getD 0 []) s.rest
 simp only[List.getD_eq_getElem?_getD,List.getElem?_drop,Nat.add_zero]at this⊢
 exact this
include h
theorem rq.reg:Reg D:=by
 have hr:=Bc h
 refine⟨fun d hd=> ?_,fun i hi=> ?_⟩
 ·obtain⟨i,hi,rfl⟩:=List.getElem_of_mem hd
  rw[←aw hi [],s.same.2 i]
  have:i<C.length:=by rw[←s.same.1];exact hi
  exact hr.1 _ (by rw[aw this];exact List.getElem_mem this)
 ·rw[s.same.2,s.same.2];exact hr.2 i (by rw[←s.same.1];exact hi)
theorem rq.up:(D.getD c []).Pairwise (· < ·):=by
 rw[s.col]
 by_cases hc:c<C.length
 ·rw[aw hc];exact((ve h).1 _ (List.getElem_mem hc)).2
 ·rw[rS (by omega)];exact List.Pairwise.nil
theorem rq.step(hr:ew (D.getD c []) x<(D.getD c []).length):c<D.length∧rq C z (D.set c ((D.getD c []).set (ew (D.getD c []) x) x)) (c+1) ((D.getD c []).getD (ew (D.getD c []) x) 0):=by
 have hc:c<D.length:=Nat.lt_of_not_le fun hle=>by rw[rS hle]at hr;simp at hr
 refine⟨hc,⟨⟨by rw[List.length_set];exact s.same.1,fun i=> ?_⟩,?_,?_,by rw[List.length_set];exact hc⟩⟩
 ·rw[←s.same.2 i]
  by_cases e:i=c
  ·subst e;rw[gss hc,List.length_set]
  ·rw[getD_set_ne (fun h=>e h.symm)]
 ·have:=congrArg List.tail s.rest
  rw[List.tail_drop,List.tail_drop]at this
  rw[List.drop_set_of_lt (Nat.lt_succ_self _)]
  exact this
 ·rw[←s.inv,drop_cons hc [],List.drop_set_of_lt (Nat.lt_succ_self _),List.take_succ_eq_append_getElem (by rw[List.length_set];exact hc),List.take_set_of_le (Nat.le_refl _),List.getElem_set_self]
  show _=D.take c++(if ew (D.getD c []) x<(D.getD c []).length then _ else _)
  rw[if_pos hr]
  simp only[List.append_assoc,List.singleton_append]
theorem rq.fin(hr: ¬ew (D.getD c []) x<(D.getD c []).length):bR (yc C z)=j1 (bR D) (D.getD c []).length x∧(D.getD c []).length≤(bR D).length∧((bR D).getD (D.getD c []).length []).length=c:=by
 have e:j1 D c x=yc C z:=by
  rw[←s.inv]
  unfold j1
  by_cases hc:c=D.length
  ·rw[if_pos hc,hc,List.take_length,List.drop_length];rfl
  ·have hlt:c<D.length:=by have:=s.le;omega
   rw[if_neg hc,drop_cons hlt []]
   show _=D.take c++(if ew (D.getD c []) x<(D.getD c []).length then _ else _)
   rw[if_neg hr,List.set_eq_take_append_cons_drop,if_pos hlt]
 have:=BA (s.reg h) s.le x (by rw[e];exact Bc (BF C z h))
 rw[e]at this
 exact this
end
end Go.Am.Pu
end
section
/- Plain laws: columns gathered row by row. -/
namespace Go.Am.Pu
set_option linter.unusedVariables false
section
variable {C : List (List Int)} {x : Int} {c : Nat}
end
end Go.Am.Pu
end
section
/- Plain laws: a word turned about and complemented. -/
namespace Go.Am.Pu
set_option linter.unusedVariables false
end Go.Am.Pu
end
section
/- Plain laws: evacuation is insertion of the word turned about. -/
namespace Go.Am.Pu
set_option linter.unusedVariables false
theorem Kn.perm{u v:List Int}(h:Kn u v):u.Perm v:=by
 induction h with
 |refl w=>exact .refl _
 |symm _ ih=>exact ih.symm
 |trans _ _ h1 h2=>exact h1.trans h2
 |tri a b t=>
  refine(List.Perm.append_left a ?_).append_right b
  obtain⟨x,y,z,⟨_,_,rfl,rfl⟩|⟨_,_,rfl,rfl⟩⟩:=t
  ·exact(List.Perm.swap x z []).cons y
  ·exact List.Perm.swap z x [y]
end Go.Am.Pu
end
section
/- Plain laws: evacuating a standard tableau twice. -/
namespace Go.Am.Pu
set_option linter.unusedVariables false
end Go.Am.Pu
end
section
/- Texts as lists of bytes. Plain words. -/
namespace Go.Am.Pu
open Go Go.Am
def tx(l:List UInt8):ByteArray:=⟨l.toArray⟩
theorem nj(l:List UInt8):(tx l).size=l.length:=rfl
theorem Bv(a b:List UInt8):tx a++tx b=tx (a++b):=by
 apply ByteArray.ext
 rw[ByteArray.data_append]
 show a.toArray++b.toArray=(a++b).toArray
 simp
theorem ok_eq{α:Type}{x:Option α}{v:α}(h:Ok x (· =v)):x=some v:=by
 obtain⟨y,e,hy⟩:=h
 rw[e,hy]
def dcm(n:Int):List UInt8:=Lib.decDigits n.toNat
theorem mZ{n:Int}(h:n<10):dcm n= [UInt8.ofNat (48+n.toNat)]:=by
 unfold dcm
 rw[Lib.decDigits,dif_pos (by omega)]
theorem za{n:Int}(h0:10≤n)(h:n<100):dcm n= [UInt8.ofNat (48+n.toNat/10),UInt8.ofNat (48+n.toNat % 10)]:=by
 unfold dcm
 rw[Lib.decDigits,dif_neg (by omega),Lib.decDigits,dif_pos (by omega)]
 rfl
theorem uX{n:Int}(h:n<100):(dcm n).length≤2:=by
 by_cases c:n<10
 ·rw[mZ c];simp
 ·rw[za (by omega) h];simp
theorem zS{n:Int}(h0:0≤n)(h:n<100):pW n=some (tx (dcm n)):=by
 unfold pW
 rw[if_pos ⟨h0,h⟩];rfl
theorem yM: ∀(ws:List (List UInt8)) (m:Nat),(∀w∈ws,w.length≤m)→Lib.lens ws≤ws.length*m
 | [],m,_=>by simp[Lib.lens]
 |w::r,m,h=>by
  have h1:=h w (by simp)
  have h2:=yM r m (fun x hx=>h x (by simp[hx]))
  have e:Lib.lens (w::r)=w.length+Lib.lens r:=by simp[Lib.lens]
  rw[e,List.length_cons,Nat.succ_mul]
  omega
theorem BM(ws:List (List UInt8))(sep:List UInt8)(m:Nat)(h: ∀w∈ws,w.length≤m):(Lib.join ws sep).length≤ws.length*(m+sep.length):=by
 cases ws with
 |nil=>simp[Lib.join_nil]
 |cons w r=>
  rw[Lib.join_cons,List.length_append,Lib.joinTail_length,List.length_cons,Nat.succ_mul,Nat.mul_add]
  have h1:=h w (by simp)
  have h2:=yM r m (fun x hx=>h x (by simp[hx]))
  have:=Nat.mul_comm sep.length r.length
  omega
theorem zX{ws:List (List UInt8)}{sep:List UInt8}(h1:ws.length≤1000)(h2: ∀w∈ws,w.length≤10000)(hs:sep.length≤10):pU (ws.map tx) (tx sep)=some (tx (Lib.join ws sep)):=by
 unfold pU
 have e:(ws.map tx).map (fun s:ByteArray=>s.data.toList)=ws:=by
  rw[List.map_map]
  conv=>rhs;rw[←List.map_id ws]
  rfl
 have e2:(tx sep).data.toList=sep:=rfl
 simp only[e,e2]
 have hl:=BM ws sep 10000 h2
 have:ws.length*(10000+sep.length)≤1000*10010:=Nat.mul_le_mul h1 (by omega)
 rw[if_pos ⟨by rw[List.length_map];omega,by omega⟩]
 rfl
theorem yi(ws:List (List UInt8)):Lib.join ws []=ws.flatten:=by
 cases ws with
 |nil=>rfl
 |cons w r=>
  rw[Lib.join_cons]
  unfold Lib.joinTail
  simp
def kG(w:List Int):List UInt8:=w.flatMap dcm
theorem wP(w:List Int):Lib.join (w.map dcm) []=kG w:=by
 rw[yi];rfl
theorem yb{w:List Int}(h: ∀x∈w,x<100):(kG w).length≤w.length*2:=by
 induction w with
 |nil=>simp[kG]
 |cons x r ih=>
  have:=uX (h x (by simp))
  have:=ih (fun y hy=>h y (by simp[hy]))
  simp only[kG,List.flatMap_cons,List.length_append,List.length_cons]at*
  omega
def il(w:List Int):List UInt8:=if isWord w=true then(if w= []then [45]else kG w)else []
def bY(s:List UInt8):List Int:=s.map fun b=>(b.toNat:Int)-48
def gu(s:ByteArray):List Int×Bool:=
 if(tx (il (if s.toList==(tx [45]).toList then []else bY s.data.toList))).toList==s.toList then((if s.toList==(tx [45]).toList then []else bY s.data.toList),true)else([],false)
end Go.Am.Pu
namespace Go.Am.Pu
def kB(n:Int):List UInt8:=
 if n=1 then [51,49,50]else if n=2 then [50,49,49,51]else if n=3 then [53,52,51,50,49]else if n=4 then [49,50,49,50]else if n=5 then [45]else if n=6 then [51,53,49,52,50]else []
end Go.Am.Pu
namespace Go.Am.Pu
theorem tK(s:List UInt8):(bY s).length=s.length:=by unfold bY;rw[List.length_map]
theorem yE(s:ByteArray):(gu s).1.length≤s.size:=by
 unfold gu
 have key:(if(s.toList==(tx [45]).toList)=true then []else bY s.data.toList).length≤s.size:=by
  split
  ·simp
  ·rw[tK];exact Nat.le_refl _
 generalize(if(s.toList==(tx [45]).toList)=true then []else bY s.data.toList)=w at*
 by_cases c:((tx (il w)).toList==s.toList)=true
 ·rw[if_pos c];exact key
 ·rw[if_neg c];exact Nat.zero_le _
theorem n5(n:Int):(kB n).length≤5:=by
 unfold kB
 repeat' split
 all_goals simp
def cG:List Int:=(gu (tx (kB 1))).1
theorem lH:cG.length≤5:=Nat.le_trans (yE _) (n5 1)
end Go.Am.Pu
namespace Go.Am.Pu
end Go.Am.Pu
end
