/- Plain laws of lists, partitions, shapes and tableaux; no program in sight. -/
import Derived.Test.YtloognjnfelgfaaDoorAmP
import Derived.Test.YtloognjnfelgfaaDoorAmM
import Derived.Lib.Strings
set_option linter.unusedSimpArgs false
set_option linter.unusedVariables false
set_option linter.unnecessarySimpa false
set_option linter.unusedSectionVars false
section
/- Rules for loops over data: a loop that looks at all, a loop that folds. -/
namespace Go.Am.Pu
open Go.Am
theorem w64{n:Int}(h1: -9223372036854775808≤n)(h2:n≤9223372036854775807):IntKind.i64.wrap n=n:=Go.Am.w64 h1 h2
theorem mE{R:Type}(L:Nat→Nat→Option R)(n:Nat)(p:Nat→Bool)(bad FU:Option R)
  (hs: ∀j i,i<n→L (j+1) i=if p i=true then L j (i+1)else bad) (he: ∀j,L (j+1) n=FU):
  ∀(m j i:Nat),i+m=n→m<j→L j i=if(List.range' i m).all p=true then FU else bad
 |m,0,i,_,h=>by omega
 |0,j+1,i,h,_=>by
  have:i=n:=by omega
  subst this
  rw[he];rfl
 |m+1,j+1,i,h,hj=>by
  rw[hs j i (by omega),mE L n p bad FU hs he m j (i+1) (by omega) (by omega),List.range'_succ,List.all_cons]
  cases p i
  ·rw[if_neg (by simp),Bool.false_and,if_neg (by simp)]
  ·rw[if_pos rfl,Bool.true_and]
theorem bT{p:Nat→Bool}{n:Nat}:(List.range' 0 n).all p=true↔ ∀i,i<n→p i=true:=by
 simp[List.all_eq_true,List.mem_range'_1]
theorem ao{α:Type}{xs:List α}{i:Nat}(h:i<xs.length)(d:α):xs.getD i d=xs[i]:=by
 simp only[List.getD_eq_getElem?_getD,List.getElem?_eq_getElem h,Option.getD_some]
theorem aY{α:Type}{xs:List α}{i:Nat}(h:xs.length≤i)(d:α):xs.getD i d=d:=by
 simp only[List.getD_eq_getElem?_getD,List.getElem?_eq_none h,Option.getD_none]
theorem drop_cons{α:Type}{xs:List α}{i:Nat}(h:i<xs.length)(d:α):xs.drop i=xs.getD i d::xs.drop (i+1):=by
 rw[ao h,List.drop_eq_getElem_cons h]
theorem take_succ{α:Type}{xs:List α}{i:Nat}(h:i<xs.length)(d:α):xs.take (i+1)=xs.take i++ [xs.getD i d]:=by
 rw[ao h,List.take_succ_eq_append_getElem h]
theorem DQ{α:Type}{xs:List α}{i:Nat}(h:i<xs.length)(d z:α):(xs.take i++List.replicate (xs.length-i) z).set i (xs.getD i d)=xs.take (i+1)++List.replicate (xs.length-(i+1)) z:=by
 have e:xs.length-i=xs.length-(i+1)+1:=by omega
 rw[take_succ h d,e,List.replicate_succ,List.set_append_right _ _ (by simp;omega)]
 simp[Nat.min_eq_left (Nat.le_of_lt h)]
theorem EN{α:Type}(xs:List α)(d:α)(p:α→Bool):xs.all p=(List.range' 0 xs.length).all fun i=>p (xs.getD i d):=by
 cases h:xs.all p with
 |true=>
  symm
  rw[bT]
  intro i hi
  rw[ao hi]
  exact List.all_eq_true.1 h _ (List.getElem_mem hi)
 |false=>
  cases h':(List.range' 0 xs.length).all fun i=>p (xs.getD i d)with
  |false=>rfl
  |true=>
   rw[bT]at h'
   have:xs.all p=true:=List.all_eq_true.2 fun x hx=>by
    obtain⟨i,hi,e⟩:=List.mem_iff_getElem.1 hx
    have:=h' i hi
    rw[ao hi,e]at this;exact this
   rw[this]at h;cases h
end Go.Am.Pu
end
section
/- Marking memory and looking whether the marks are held. -/
namespace Go.Am.Pu
def held:List Int→Int→Int
 | [],q=>q
 |x::xs,q=>if x=q then held xs (q+1)else-1
def mark:List Int→Int→List Int
 | [],_=> []
 |_::xs,q=>q::mark xs (q+1)
def AQ:List (List Int)→Nat
 | []=>0
 |x::xs=>x.length+AQ xs
theorem An: ∀(xs:List (List Int)) (n:Nat),(∀x∈xs,x.length≤n)→AQ xs≤xs.length*n
 | [],n,_=>by simp[AQ]
 |x::xs,n,h=>by
  have h1:=h x (by simp)
  have h2:=An xs n fun y hy=>h y (by simp[hy])
  simp only[AQ,List.length_cons,Nat.succ_mul]
  omega
end Go.Am.Pu
end
section
/- Partitions, shapes and tableaux as plain words. -/
namespace Go.Am.Pu
def within(x lo hi:Int):Bool:=decide (lo≤x)&&decide (x≤hi)
def atI(p:List Int)(i:Int):Int:=if i<0 then 0 else p.getD i.toNat 0
theorem cq(p:List Int)(i:Nat):atI p (i:Int)=p.getD i 0:=by simp[atI];omega
theorem pn{p:List Int}{i:Int}(h:i<0):atI p i=0:=by simp[atI,h]
theorem yE{p:List Int}{i:Int}(h:(p.length:Int)≤i):atI p i=0:=by
 unfold atI
 split
 ·rfl
 ·exact aY (by omega) 0
def gq:List Int→Int→Int→Bool
 | [],_,_=>true
 |x::xs,prev,s=>decide (1≤x)&&(decide (x≤prev)&&(decide (s+x≤9)&&gq xs x (s+x)))
def bc(p:List Int):Bool:=gq p 9 0
def aM:List Int→Int
 | []=>0
 |x::xs=>x+aM xs
theorem sY: ∀(p:List Int) (prev s:Int),gq p prev s=true→(∀x∈p,1≤x∧x≤prev)∧(p≠ []→s+aM p≤9)∧(p.length:Int)≤aM p
 | [],prev,s,_=>⟨fun x h=>(by cases h),fun h=>absurd rfl h,(by simp[aM])⟩
 |x::xs,prev,s,h=>by
  simp only[gq,Bool.and_eq_true,decide_eq_true_eq]at h
  obtain⟨h1,h2,h3,h4⟩:=h
  obtain⟨k1,k2,k3⟩:=sY xs x (s+x) h4
  refine⟨fun y hy=> ?_,fun _=> ?_,?_⟩
  ·rcases List.mem_cons.1 hy with rfl|hy
   ·exact⟨h1,h2⟩
   ·have:=k1 y hy;omega
  ·simp only[aM]
   by_cases e:xs= []
   ·subst e;simp[aM];omega
   ·have:=k2 e;omega
  ·simp only[aM,List.length_cons];omega
theorem aW{p:List Int}(h:bc p=true):(∀x∈p,1≤x∧x≤9)∧aM p≤9∧p.length≤9∧(p.length:Int)≤aM p:=by
 obtain⟨h1,h2,h3⟩:=sY p 9 0 h
 have:aM p≤9:=by
  by_cases e:p= []
  ·subst e;simp[aM]
  ·have:=h2 e;omega
 exact⟨h1,this,by omega,h3⟩
theorem dO{p:List Int}(h:bc p=true)(i:Int):0≤atI p i∧atI p i≤9:=by
 unfold atI
 split
 ·omega
 ·by_cases hl:i.toNat<p.length
  ·rw[ao hl]
   have:=(aW h).1 _ (List.getElem_mem hl)
   omega
  ·rw[aY (by omega)];omega
def aX(q p:List Int):Bool:=bc q&&(bc p&&(decide (q.length≤p.length)&&(List.range' 0 q.length).all fun i=>decide (q.getD i 0≤p.getD i 0)))
theorem Bm{q p:List Int}(hq:bc q=true)(h:(List.range' 0 q.length).all (fun i=>decide (q.getD i 0≤p.getD i 0))=true):q.length≤p.length:=by
 rw[bT]at h
 refine Nat.le_of_not_lt fun hlt=> ?_
 have h1:=h p.length hlt
 rw[decide_eq_true_eq,aY (Nat.le_refl _),ao hlt]at h1
 have:=(aW hq).1 _ (List.getElem_mem hlt)
 omega
theorem lW{q p:List Int}:aX q p=(bc q&&(bc p&&(List.range' 0 q.length).all fun i=>decide (q.getD i 0≤p.getD i 0))):=by
 unfold aX
 cases hq:bc q with
 |false=>rfl
 |true=>
  cases hp:bc p with
  |false=>rfl
  |true=>
   simp only[Bool.true_and]
   cases ha:(List.range' 0 q.length).all fun i=>decide (q.getD i 0≤p.getD i 0)with
   |false=>simp
   |true=>simp[Bm hq ha]
def fu(inner:List Int):Nat→List (List Int)→List Int
 |_,[]=> []
 |i,r::rs=>(inner.getD i 0+r.length)::fu inner (i+1) rs
theorem lM(inner:List Int): ∀(rs:List (List Int)) (i:Nat),(fu inner i rs).length=rs.length
 | [],_=>rfl
 |_::rs,i=>by simp[fu,lM inner rs]
theorem eP(inner:List Int): ∀(rs:List (List Int)) (i q:Nat),q<rs.length→(fu inner i rs).getD q 0=inner.getD (i+q) 0+(rs.getD q []).length
 | [],i,q,h=>by simp at h
 |r::rs,i,0,_=>by simp[fu]
 |r::rs,i,q+1,h=>by
  have:=eP inner rs (i+1) q (by simpa using h)
  simp only[fu,List.getD_cons_succ]
  rw[this]
  have e:i+1+q=i+(q+1):=by omega
  rw[e]
abbrev Tab:=List Int×List (List Int)
def outer(t:Tab):List Int:=fu t.1 0 t.2
def fe(t:Tab):Bool:=bc t.1&&(decide (t.1.length≤t.2.length)&&aX t.1 (outer t))
def shapeOf(t:Tab):(List Int×List Int)×Bool:=if fe t=true then((outer t,t.1),true)else(([],[]),false)
def entry(t:Tab)(r c:Int):Int:=if r<0 then 0 else if(t.2.length:Int)≤r then 0 else atI (t.2.getD r.toNat []) (c-atI t.1 r)
theorem jb{t:Tab}{r:Nat}(h:r<t.2.length)(c:Int):entry t r c=atI (t.2.getD r []) (c-t.1.getD r 0):=by
 unfold entry
 rw[if_neg (by omega),if_neg (by omega),cq]
 rfl
theorem FV{t:Tab}{r q:Nat}(h:r<t.2.length):entry t r (t.1.getD r 0+q)=(t.2.getD r []).getD q 0:=by
 rw[jb h]
 have e:t.1.getD r 0+(q:Int)-t.1.getD r 0=q:=by omega
 rw[e,cq]
def gF(t:Tab)(i k:Nat):Bool:=within ((t.2.getD i []).getD k 0) 1 9&&((decide (k=0)||decide ((t.2.getD i []).getD (k-1) 0≤(t.2.getD i []).getD k 0))&&
 (decide (i=0)||decide (entry t ((i:Int)-1) (t.1.getD i 0+k)<(t.2.getD i []).getD k 0)))
def fj(t:Tab):Bool:=fe t&&(List.range' 0 t.2.length).all fun i=>(List.range' 0 (t.2.getD i []).length).all fun k=>gF t i k
def bW(t:Tab):Bool:=fj t&&decide (t.1.length=0)
theorem xu{t:Tab}(h:fj t=true):fe t=true:=by
 simp only[fj,Bool.and_eq_true]at h;exact h.1
theorem pf(inner:List Int): ∀(rs:List (List Int)) (i:Nat),(∀q,i≤q→inner.getD q 0=0)→aM (fu inner i rs)=rs.flatten.length
 | [],i,_=>rfl
 |r::rs,i,h=>by
  simp only[fu,aM,List.flatten_cons,List.length_append]
  rw[pf inner rs (i+1) (fun q hq=>h q (by omega)),h i (Nat.le_refl _)]
  omega
theorem BM{t:Tab}(h:bW t=true):t.2.flatten.length≤9:=by
 simp only[bW,Bool.and_eq_true,decide_eq_true_eq]at h
 have hs:=xu h.1
 simp only[fe,aX,Bool.and_eq_true]at hs
 have h9:=(aW hs.2.2.2.1).2.1
 have:t.1= []:=List.eq_nil_of_length_eq_zero h.2
 rw[outer,pf t.1 t.2 0 (fun q _=>by rw[this];rfl)]at h9
 omega
def bJ:List (List Int)→Int→List (List Int)×Nat
 | [],x=>([[x]],0)
 |r::rs,x=>if r.findIdx (fun n=>decide (x<n))<r.length
   then(r.set (r.findIdx fun n=>decide (x<n)) x::(bJ rs (r.getD (r.findIdx fun n=>decide (x<n)) 0)).1,(bJ rs (r.getD (r.findIdx fun n=>decide (x<n)) 0)).2+1)
   else((r++ [x])::rs,0)
def xd(t:Tab):Prop:=t.1.length≤1048576∧t.2.length≤1048576∧ ∀x∈t.2,x.length≤1048576
theorem xd.nil:xd ([],[]):=⟨by simp,by simp,fun x h=>by cases h⟩
theorem uL: ∀{rs:List (List Int)} {r:List Int},r∈rs→r.length≤rs.flatten.length
 |q::rs,r,h=>by
  simp only[List.flatten_cons,List.length_append]
  rcases List.mem_cons.1 h with rfl|h
  ·omega
  ·have:=uL h;omega
theorem A7{p:Int→Bool}{r:List Int}(h:r.findIdx p<r.length):p (r.getD (r.findIdx p) 0)=true:=by
 rw[ao h];exact List.findIdx_getElem
end Go.Am.Pu
end
section
/- Standard tableaux, weights, descents: plain words. -/
namespace Go.Am.Pu
theorem zu{α R:Type}(r:List α)(d:α)(p:α→Bool)(L:Nat→Nat→Option R)(hit:Nat→Option R)(miss:Option R)
  (hs: ∀j i,i<r.length→L (j+1) i=if p (r.getD i d)=true then hit i else L j (i+1)) (he: ∀j,L (j+1) r.length=miss):
  ∀(m j i:Nat),i+m=r.length→m<j→i≤r.findIdx p→L j i=if r.findIdx p<r.length then hit (r.findIdx p)else miss
 |m,0,i,_,hj,_=>by omega
 |0,j+1,i,hm,_,hi=>by
  have e:i=r.length:=by omega
  rw[if_neg (by omega),e,he]
 |m+1,j+1,i,hm,hj,hi=>by
  have hlt:i<r.length:=by omega
  rw[hs j i hlt]
  by_cases c:p (r.getD i d)=true
  ·have e:r.findIdx p=i:=Nat.le_antisymm (Nat.le_of_not_lt fun h'=>by
    have:=List.not_of_lt_findIdx h'
    rw[ao hlt]at c
    rw[c]at this;cases this) hi
   rw[if_pos c,e,if_pos hlt]
  ·rw[if_neg c]
   refine zu r d p L hit miss hs he m j (i+1) (by omega) (by omega) ?_
   refine Nat.succ_le_of_lt (Nat.lt_of_le_of_ne hi fun e=>c ?_)
   have hlt':r.findIdx p<r.length:=by omega
   have:=List.findIdx_getElem (p:=p) (xs:=r) (w:=hlt')
   rw[←ao hlt' d,←e]at this
   exact this
def Dy{α:Type}(p:α→Bool)(r:List α):Int:=if r.findIdx p<r.length then(r.findIdx p:Int)else-1
theorem EL{α:Type}(p:α→Bool)(r:List α):decide (0≤Dy p r)=r.any p:=by
 unfold Dy
 by_cases h:r.findIdx p<r.length
 ·rw[if_pos h,List.any_eq_true.2 ⟨_,List.getElem_mem h,List.findIdx_getElem⟩]
  simp
 ·rw[if_neg h]
  have:r.any p=false:=by
   rw[List.any_eq_false]
   intro x hx hp
   exact h (List.findIdx_lt_length_of_exists ⟨x,hx,hp⟩)
  rw[this];rfl
def has(l:List Int)(x:Int):Bool:=l.any fun y=>decide (x=y)
theorem tV{l:List Int}{x:Int}:has l x=true↔x∈l:=by
 simp[has,List.any_eq_true]
def lT(l:List Int):Bool:=(List.range' 0 l.length).all fun i=>has l ((i:Int)+1)
theorem tW: ∀(R l:List Int),R.Nodup→(∀x∈R,x∈l)→R.length≤l.length
 | [],l,_,_=>by simp
 |x::R,l,hn,h=>by
  rw[List.nodup_cons]at hn
  have hx:=h x (by simp)
  have:=tW R (l.erase x) hn.2 fun y hy=>(List.mem_erase_of_ne fun(e:y=x)=>hn.1 (e▸hy)).2 (h y (by simp[hy]))
  rw[List.length_erase_of_mem hx]at this
  have:0<l.length:=List.length_pos_of_mem hx
  simp only[List.length_cons]
  omega
def wC(n:Nat):List Int:=(List.range n).map fun(i:Nat)=>(i:Int)+1
theorem iG{n:Nat}{x:Int}:x∈wC n↔1≤x∧x≤n:=by
 simp only[wC,List.mem_map,List.mem_range]
 constructor
 ·rintro⟨i,h,rfl⟩;omega
 ·rintro⟨h1,h2⟩;exact⟨(x-1).toNat,by omega,by omega⟩
theorem wa(n:Nat):(wC n).Nodup:=by
 unfold wC
 refine List.Pairwise.map _ (fun(a b:Nat) (h:a≠b)=> ?_) List.nodup_range
 intro e
 exact h (by omega)
theorem uA(n:Nat):(wC n).length=n:=by simp[wC]
theorem lu{l:List Int}:lT l=true↔ ∀x∈wC l.length,x∈l:=by
 unfold lT
 rw[bT]
 constructor
 ·intro h x hx
  rw[iG]at hx
  have:=h (x-1).toNat (by omega)
  rw[tV]at this
  have e:(((x-1).toNat:Nat):Int)+1=x:=by omega
  rw[e]at this;exact this
 ·intro h i hi
  rw[tV]
  exact h _ (iG.2 (by omega))
theorem BC{l:List Int}(h1: ∀x∈l,1≤x):lT l=true↔l.Nodup∧ ∀x∈l,x≤l.length:=by
 rw[lu]
 constructor
 ·intro h
  refine⟨?_,fun x hx=> ?_⟩
  ·
   refine Classical.byContradiction fun hn=> ?_
   have: ∃x,x∈l∧x∈l.erase x:=by
    have key: ∀l:List Int,¬l.Nodup→ ∃x,x∈l∧x∈l.erase x:=by
     intro l
     induction l with
     |nil=>intro h;exact absurd List.nodup_nil h
     |cons a l ih=>
      intro h
      by_cases ha:a∈l
      ·exact⟨a,by simp,by simpa using ha⟩
      ·have: ¬l.Nodup:=fun hl=>h (List.nodup_cons.2 ⟨ha,hl⟩)
       obtain⟨x,h1,h2⟩:=ih this
       refine⟨x,by simp[h1],?_⟩
       have hne:a≠x:=fun e=>ha (e▸h1)
       rw[List.erase_cons_tail (by simpa using hne)]
       exact List.mem_cons_of_mem _ h2
    exact key l hn
   obtain⟨x,hx,hx2⟩:=this
   have:=tW (wC l.length) (l.erase x) (wa _) fun y hy=>by
    by_cases e:y=x
    ·rw[e];exact hx2
    ·exact(List.mem_erase_of_ne e).2 (h y hy)
   rw[uA,List.length_erase_of_mem hx]at this
   have:0<l.length:=List.length_pos_of_mem hx
   omega
  ·refine Int.not_lt.1 fun hlt=> ?_
   have:=tW (wC l.length) (l.erase x) (wa _) fun y hy=>by
    have hy':=iG.1 hy
    exact(List.mem_erase_of_ne (by omega)).2 (h y hy)
   rw[uA,List.length_erase_of_mem hx]at this
   have:0<l.length:=List.length_pos_of_mem hx
   omega
 ·rintro⟨hn,hb⟩ x hx
  refine Classical.byContradiction fun hxl=> ?_
  have:=tW (x::l) (wC l.length) (List.nodup_cons.2 ⟨hxl,hn⟩) fun y hy=>by
   rcases List.mem_cons.1 hy with rfl|hy
   ·exact hx
   ·exact iG.2 ⟨h1 y hy,hb y hy⟩
  rw[uA,List.length_cons]at this
  omega
theorem zR{t:Tab}(h:fj t=true): ∀x∈t.2.flatten,1≤x∧x≤9:=by
 intro x hx
 simp only[fj,Bool.and_eq_true]at h
 obtain⟨r,hr,hxr⟩:=List.mem_flatten.1 hx
 obtain⟨i,hi,e⟩:=List.mem_iff_getElem.1 hr
 obtain⟨q,hq,e2⟩:=List.mem_iff_getElem.1 hxr
 have h1:=bT.1 h.2 i hi
 rw[ao hi,e]at h1
 have h2:=bT.1 h1 q hq
 simp only[gF,within,Bool.and_eq_true,decide_eq_true_eq]at h2
 rw[ao hi,e,ao hq,e2]at h2
 exact h2.1
def iw(t:Tab):Bool:=fj t&&lT t.2.flatten
def rowOf(t:Tab)(n:Int):Int:=Dy (fun r=>has r n) t.2
def ju(w:List Int):Bool:=decide (w.length≤9)&&w.all fun n=>within n 0 9
theorem jf: ∀(w:List Int),(∀x∈w,0≤x)→0≤aM w
 | [],_=>by simp[aM]
 |x::xs,h=>by
  have:=jf xs fun y hy=>h y (by simp[hy])
  have:=h x (by simp)
  simp only[aM];omega
theorem Fu(a b:List Int):aM (a++b)=aM a+aM b:=by
 induction a with
 |nil=>simp[aM]
 |cons x a ih=>simp only[List.cons_append,aM,ih];omega
end Go.Am.Pu
end
section
/- Plain laws of draws, and of boxes. -/
namespace Go.Am.Pu
open Go Go.Am
attribute [local instance] D.real
def kx (p : List Int) (r : Int) : List Int × Bool :=
  if bc p = true ∧ 0 ≤ r ∧ r ≤ p.length then
    (let q := if r = p.length then p ++ [0] else p
     let o := q.set r.toNat (q.getD r.toNat 0 + 1)
     if bc o = true then (o, true) else ([], false))
  else ([], false)
end Go.Am.Pu
end
section
/- Steps over equations: what a word comes to, told by what must hold of it. -/
namespace Go.Am.Pu
open Go Go.Am
attribute [local instance] D.real
section
variable {α β : Type}
def Ok(x:Option α)(Q:α→Prop):Prop:= ∃y,x=some y∧Q y
theorem Ok.ret{y:α}{Q:α→Prop}(h:Q y):Ok (some y) Q:=⟨y,rfl,h⟩
theorem Ok.mono{x:Option α}{P Q:α→Prop}(h:Ok x P)(g: ∀y,P y→Q y):Ok x Q:=
 let⟨y,e,hp⟩:=h
 ⟨y,e,g y hp⟩
theorem Ok.bnd{x:Option α}{f:α→Option β}{P:α→Prop}{Q:β→Prop}(h:Ok x P)(g: ∀y,P y→Ok (f y) Q):Ok (D.bnd x f) Q:=by
 obtain⟨y,e,hp⟩:=h
 rw[e]
 exact g y hp
theorem Ok.dY{x:Option α}{y:α}{f:α→Option β}{Q:β→Prop}(h:x=some y)(g:Ok (f y) Q):Ok (D.bnd x f) Q:=by
 rw[h]
 exact g
theorem Ok.t{p:Prop} [Decidable p]{x y:Option α}{Q:α→Prop}(h1:p→Ok x Q)(h2: ¬p→Ok y Q):Ok (D.test (decide p) x y) Q:=by
 show Ok (if decide p=true then x else y) Q
 by_cases h:p
 ·rw[if_pos (decide_eq_true h)];exact h1 h
 ·rw[if_neg (by rw[decide_eq_false h];simp)];exact h2 h
theorem Ok.tb{b:Bool}{x y:Option α}{Q:α→Prop}(h1:b=true→Ok x Q)(h2:b=false→Ok y Q):Ok (D.test b x y) Q:=by
 cases b
 ·exact h2 rfl
 ·exact h1 rfl
theorem Ok.tn{b:Bool}{x y:Option α}{Q:α→Prop}(h1:b=false→Ok x Q)(h2:b=true→Ok y Q):Ok (D.test (!b) x y) Q:=by
 cases b
 ·exact h1 rfl
 ·exact h2 rfl
theorem Ok.tnd{p:Prop} [Decidable p]{x y:Option α}{Q:α→Prop}(h1: ¬p→Ok x Q)(h2:p→Ok y Q):Ok (D.test (!decide p) x y) Q:=
 Ok.tn (fun h=>h1 (of_decide_eq_false h)) (fun h=>h2 (of_decide_eq_true h))
theorem Ok.g{p:Prop} [Decidable p]{x y:Option α}{Q:α→Prop}(h:p)(g:Ok x Q):Ok (D.test (decide p) x y) Q:=Ok.t (fun _=>g) (fun h'=>absurd h h')
theorem Ok.no{p:Prop} [Decidable p]{x y:Option α}{Q:α→Prop}(h: ¬p)(g:Ok y Q):Ok (D.test (decide p) x y) Q:=Ok.t (fun h'=>absurd h' h) (fun _=>g)
theorem Ok.some{x:Option α}{Q:α→Prop}(h:Ok x Q): ∃y,x=Option.some y:=let⟨y,e,_⟩:=h;⟨y,e⟩
end
def eG(n m:Nat)(rs:List (List Int)):Prop:=rs.length≤n∧ ∀r∈rs,r.length≤m
theorem eG.at{n m:Nat}{rs:List (List Int)}(h:eG n m rs)(i:Nat):(rs.getD i []).length≤m:=by
 by_cases hi:i<rs.length
 ·rw[ao hi];exact h.2 _ (List.getElem_mem hi)
 ·rw[aY (by omega)];simp
theorem eG.set{n m:Nat}{rs:List (List Int)}(h:eG n m rs)(i:Nat){r:List Int}(hr:r.length≤m):eG n m (rs.set i r):=by
 refine⟨by rw[List.length_set];exact h.1,fun x hx=> ?_⟩
 rcases List.mem_or_eq_of_mem_set hx with h'|rfl
 ·exact h.2 x h'
 ·exact hr
theorem eG.mono{n m n' m':Nat}{rs:List (List Int)}(h:eG n m rs)(hn:n≤n')(hm:m≤m'):eG n' m' rs:=
 ⟨Nat.le_trans h.1 hn,fun x hx=>Nat.le_trans (h.2 x hx) hm⟩
theorem eG.app{n m:Nat}{rs:List (List Int)}(h:eG n m rs){r:List Int}(hr:r.length≤m):eG (n+1) m (rs++ [r]):=by
 refine⟨by rw[List.length_append];simp;exact h.1,fun x hx=> ?_⟩
 rcases List.mem_append.1 hx with h'|h'
 ·exact h.2 x h'
 ·simp only[List.mem_singleton]at h';subst h';exact hr
theorem Bo(p:List Int)(r:Int):(kx p r).1.length≤p.length+1:=by
 unfold kx
 split
 ·simp only
  generalize hq:(if r=(p.length:Int)then p++ [0]else p)=q
  have hl:q.length≤p.length+1:=by
   rw[←hq]
   split
   ·simp
   ·omega
  split
  ·rw[List.length_set];exact hl
  ·simp
 ·simp
end Go.Am.Pu
end
section
/- Corners; a number taken out of rows. Plain words. -/
namespace Go.Am.Pu
theorem rY: ∀{p:List Int} {prev s:Int},gq p prev s=true→ ∀i,i+1<p.length→p.getD (i+1) 0≤p.getD i 0
 | [],_,_,_,i,h=>by simp at h
 | [x],_,_,_,i,h=>by simp at h
 |x::y::xs,prev,s,hp,i,h=>by
  simp only[gq,Bool.and_eq_true,decide_eq_true_eq]at hp
  cases i with
  |zero=>simpa using hp.2.2.2.2.1
  |succ i=>
   have h2:gq (y::xs) x (s+x)=true:=by
    simp only[gq,Bool.and_eq_true,decide_eq_true_eq]
    exact hp.2.2.2
   have:=rY h2 i (by simpa using h)
   simpa using this
def mf(r:List Int)(y:Int):Nat→Option Nat
 |0=>none
 |i+1=>if r.getD i 0<y then some i else mf r y i
theorem td{r:List Int}{y:Int}: ∀{m q:Nat},mf r y m=some q→q<m∧r.getD q 0<y
 |0,q,h=>by simp[mf]at h
 |m+1,q,h=>by
  unfold mf at h
  split at h
  ·next hc=>injection h with h;subst h;exact⟨by omega,hc⟩
  ·have:=td h;exact⟨by omega,this.2⟩
theorem xc{r:List Int}{y:Int}: ∀{m i:Nat},i<m→r.getD i 0<y→ ∃q,mf r y m=some q
 |0,i,h,_=>by omega
 |m+1,i,h,hi=>by
  unfold mf
  split
  ·exact⟨_,rfl⟩
  ·next hc=>
   have:i≠m:=fun e=>hc (e▸hi)
   exact xc (by omega) hi
def mD:Nat→List (List Int)→Int→List (List Int)×Int
 |0,rs,y=>(rs,y)
 |r+1,rs,y=>match mf (rs.getD r []) y (rs.getD r []).length with
  |some q=>mD r (rs.set r ((rs.getD r []).set q y)) ((rs.getD r []).getD q 0)
  |none=>mD r rs y
theorem getD_set_ne{α:Type}{xs:List α}{i j:Nat}(h:j≠i)(x d:α):(xs.set j x).getD i d=xs.getD i d:=by
 simp only[List.getD_eq_getElem?_getD,List.getElem?_set]
 rw[if_neg h]
theorem pT{n m:Nat}: ∀(r:Nat) (rs:List (List Int)) (y:Int),eG n m rs→eG n m (mD r rs y).1
 |0,_,_,h=>h
 |r+1,rs,y,h=>by
  unfold mD
  split
  ·exact pT r _ _ (h.set r (by rw[List.length_set];exact h.at r))
  ·exact pT r rs y h
def lL (rs : List (List Int)) (row : Nat) : List (List Int) × Int :=
  ((if (rs.getD row []).length = 1 then (mD row (rs.set row ((rs.getD row []).take ((rs.getD row []).length - 1))) ((rs.getD row []).getD ((rs.getD row []).length - 1) 0)).1.take row
    else (mD row (rs.set row ((rs.getD row []).take ((rs.getD row []).length - 1))) ((rs.getD row []).getD ((rs.getD row []).length - 1) 0)).1),
   (mD row (rs.set row ((rs.getD row []).take ((rs.getD row []).length - 1))) ((rs.getD row []).getD ((rs.getD row []).length - 1) 0)).2)
theorem yv{n m:Nat}{rs:List (List Int)}(h:eG n m rs)(row:Nat):eG n m (lL rs row).1:=by
 have h1:=pT row (rs.set row ((rs.getD row []).take ((rs.getD row []).length-1))) ((rs.getD row []).getD ((rs.getD row []).length-1) 0) (h.set row (by rw[List.length_take];have:=h.at row;omega))
 unfold lL
 simp only
 split
 ·exact⟨by rw[List.length_take];have:=h1.1;omega,fun x hx=>h1.2 x (List.mem_of_mem_take hx)⟩
 ·exact h1
theorem kp{t:Tab}(h:bW t=true):t.1= []:=by
 simp only[bW,Bool.and_eq_true,decide_eq_true_eq]at h
 exact List.eq_nil_of_length_eq_zero h.2
theorem fY{t:Tab}(h:bW t=true){i:Nat}(hi:i<t.2.length):(outer t).getD i 0=(t.2.getD i []).length:=by
 have e:=eP t.1 t.2 0 i hi
 rw[kp h]at e
 unfold outer
 rw[kp h,e]
 simp
theorem jK{t:Tab}(h:bW t=true):bc (outer t)=true:=by
 simp only[bW,Bool.and_eq_true]at h
 have hs:=xu h.1
 simp only[fe,aX,Bool.and_eq_true]at hs
 exact hs.2.2.2.1
theorem cy(t:Tab):(outer t).length=t.2.length:=by unfold outer;rw[lM]
theorem BZ{t:Tab}(h:bW t=true):eG 9 9 t.2:=by
 have h9:=BM h
 have hl:=(aW (jK h)).2.2.1
 rw[cy]at hl
 exact⟨hl,fun r hr=>by have:=uL hr;omega⟩
theorem qq{t:Tab}(h:bW t=true): ∀i,i+1<t.2.length→(t.2.getD (i+1) []).length≤(t.2.getD i []).length∧ ∀q,q<(t.2.getD (i+1) []).length→(t.2.getD i []).getD q 0<(t.2.getD (i+1) []).getD q 0:=by
 intro i hi
 have hm:=rY (show gq (outer t) 9 0=true from jK h) i (by rw[cy];exact hi)
 rw[fY h hi,fY h (by omega)]at hm
 have hl:(t.2.getD (i+1) []).length≤(t.2.getD i []).length:=by omega
 refine⟨hl,fun q hq=> ?_⟩
 have ht:=h
 simp only[bW,Bool.and_eq_true]at ht
 have ht:=ht.1
 simp only[fj,Bool.and_eq_true]at ht
 have h1:=bT.1 (bT.1 ht.2 (i+1) hi) q hq
 simp only[gF,Bool.and_eq_true,Bool.or_eq_true,decide_eq_true_eq]at h1
 have h2:=h1.2.2.resolve_left (by omega)
 rw[kp h]at h2
 have e:((i+1:Nat):Int)-1=(i:Int):=by omega
 have e2:([]:List Int).getD (i+1) 0+(q:Int)=([]:List Int).getD i 0+(q:Int):=by simp
 rw[e,e2]at h2
 have ee:entry t (i:Int) (([]:List Int).getD i 0+(q:Int))=(t.2.getD i []).getD q 0:=by
  have:=FV (t:=t) (r:=i) (q:=q) (by omega)
  rw[kp h]at this
  exact this
 rw[ee]at h2
 exact h2
end Go.Am.Pu
end
section
/- Rows with noughts in front; a box taken from a partition. Plain words. -/
namespace Go.Am.Pu
def e9(t:Tab):List (List Int):=(List.range' 0 t.2.length).map fun i=>List.replicate (t.1.getD i 0).toNat 0++t.2.getD i []
theorem zh(t:Tab):(e9 t).length=t.2.length:=by simp[e9]
theorem FH{t:Tab}{i:Nat}(h:i<t.2.length):(e9 t).getD i []=List.replicate (t.1.getD i 0).toNat 0++t.2.getD i []:=by
 rw[ao (by rw[zh];exact h)]
 simp[e9]
def aG(p:List Int)(n:Nat):List Int:=if p.getD n 0-1=0 then p.take n else p.set n (p.getD n 0-1)
theorem zH(p:List Int)(n:Nat):(aG p n).length≤p.length:=by
 unfold aG
 split
 ·rw[List.length_take];omega
 ·rw[List.length_set];exact Nat.le_refl _
end Go.Am.Pu
end
section
/- A slide: the hole goes right or down until nothing is there. Plain words. -/
namespace Go.Am.Pu
def cel(g:List (List Int))(r c:Nat):Int:=(g.getD r []).getD c 0
def kA(g:List (List Int))(r c:Nat)(v:Int):List (List Int):=g.set r ((g.getD r []).set c v)
theorem yX{g:List (List Int)}{r c:Nat}(h:cel g r c≠0):r<g.length∧c<(g.getD r []).length:=by
 unfold cel at h
 by_cases h1:r<g.length
 ·refine⟨h1,?_⟩
  by_cases h2:c<(g.getD r []).length
  ·exact h2
  ·exact absurd (aY (by omega) 0) h
 ·rw[aY (xs:=g) (by omega)]at h
  simp at h
theorem iI(g:List (List Int))(r c:Nat)(v:Int):(kA g r c v).length=g.length:=by unfold kA;rw[List.length_set]
theorem bB(g:List (List Int))(r c:Nat)(v:Int)(q:Nat):((kA g r c v).getD q []).length=(g.getD q []).length:=by
 unfold kA
 by_cases e:q=r
 ·subst e
  by_cases h:q<g.length
  ·rw[ao (by rw[List.length_set];exact h),List.getElem_set_self,List.length_set]
  ·rw[aY (by rw[List.length_set];omega),aY (by omega)]
 ·rw[getD_set_ne (Ne.symm e)]
theorem jY{g:List (List Int)}{r c:Nat}(v:Int)(h1:r<g.length)(h2:c<(g.getD r []).length):cel (kA g r c v) r c=v:=by
 unfold cel kA
 rw[ao (xs:=g.set r _) (by rw[List.length_set];exact h1),List.getElem_set_self,ao (by rw[List.length_set];exact h2),List.getElem_set_self]
theorem iN{g:List (List Int)}{r c q x:Nat}(v:Int)(h: ¬(q=r∧x=c)):cel (kA g r c v) q x=cel g q x:=by
 unfold cel kA
 by_cases e:q=r
 ·subst e
  have hx:x≠c:=fun e=>h ⟨rfl,e⟩
  by_cases hl:q<g.length
  ·rw[ao (xs:=g.set q _) (by rw[List.length_set];exact hl),List.getElem_set_self,getD_set_ne (Ne.symm hx)]
  ·rw[aY (xs:=g.set q _) (by rw[List.length_set];omega),aY (xs:=g) (by omega)]
 ·rw[getD_set_ne (Ne.symm e)]
structure Sl (q : List Int) (g : List (List Int)) (i c : Nat) : Prop where
  q0 : ∀ r, 0 ≤ q.getD r 0
  qm : ∀ r, q.getD (r + 1) 0 ≤ q.getD r 0
  lm : ∀ r, (g.getD (r + 1) []).length ≤ (g.getD r []).length
  hi : i < g.length
  hc : c < (g.getD i []).length
  hq : q.getD i 0 ≤ c
  pos : ∀ r x, 0 ≤ cel g r x
  num : ∀ r x : Nat, q.getD r 0 ≤ x → x < (g.getD r []).length → ¬ (r = i ∧ x = c) → 1 ≤ cel g r x ∧ cel g r x ≤ 9
  row : ∀ r x : Nat, q.getD r 0 ≤ x → x + 1 < (g.getD r []).length → ¬ (r = i ∧ x = c) → ¬ (r = i ∧ x + 1 = c) → cel g r x ≤ cel g r (x + 1)
  col : ∀ r x : Nat, q.getD r 0 ≤ x → x < (g.getD (r + 1) []).length → ¬ (r = i ∧ x = c) → ¬ (r + 1 = i ∧ x = c) → cel g r x < cel g (r + 1) x
  Hg : ∀ x : Nat, x + 1 = c → q.getD i 0 ≤ x → c + 1 < (g.getD i []).length → cel g i x ≤ cel g i (c + 1)
  colH : ∀ r : Nat, r + 1 = i → q.getD r 0 ≤ c → c < (g.getD (i + 1) []).length → cel g r c < cel g (i + 1) c
theorem Sl.right{q:List Int}{g:List (List Int)}{i c:Nat}(h:Sl q g i c)(hr:cel g i (c+1)≠0)(hb: ¬(0<cel g (i+1) c∧cel g (i+1) c≤cel g i (c+1))):
  Sl q (kA g i c (cel g i (c+1))) i (c+1):=by
 obtain⟨b1,b2⟩:=yX hr
 have hq:=h.hq
 have hrn:=h.num i (c+1) (by omega) b2 (by omega)
 have e0:=jY (cel g i (c+1)) h.hi h.hc
 have en: ∀r x,¬(r=i∧x=c)→cel (kA g i c (cel g i (c+1))) r x=cel g r x:=fun r x hh=>iN _ hh
 refine⟨h.q0,h.qm,fun r=> ?_,?_,?_,by omega,fun r x=> ?_,fun r x h1 h2 h3=> ?_,fun r x h1 h2 h3 h4=> ?_,fun r x h1 h2 h3 h4=> ?_,fun x h1 h2 h3=> ?_,fun r h1 h2 h3=> ?_⟩
 ·rw[bB,bB];exact h.lm r
 ·rw[iI];exact b1
 ·rw[bB];exact b2
 ·by_cases e:r=i∧x=c
  ·rw[e.1,e.2,e0];exact h.pos _ _
  ·rw[en r x e];exact h.pos _ _
 ·rw[bB]at h2
  by_cases e:r=i∧x=c
  ·rw[e.1,e.2,e0];exact hrn
  ·rw[en r x e];exact h.num r x h1 h2 e
 ·rw[bB]at h2
  by_cases e:r=i∧x=c
  ·exact(h4 ⟨e.1,by omega⟩).elim
  ·rw[en r x e]
   by_cases e':r=i∧x+1=c
   ·obtain⟨rfl,rfl⟩:=e'
    rw[e0]
    exact h.Hg x rfl h1 b2
   ·rw[en r (x+1) e'];exact h.row r x h1 h2 e e'
 ·rw[bB]at h2
  by_cases e:r=i∧x=c
  ·obtain⟨rfl,rfl⟩:=e
   rw[e0,en _ _ (by omega)]
   have hqm:=h.qm r
   have h5:=(h.num (r+1) x (by omega) h2 (by omega)).1
   omega
  ·rw[en r x e]
   by_cases e':r+1=i∧x=c
   ·obtain⟨rfl,rfl⟩:=e'
    rw[e0]
    have hl:=h.lm r
    have h5:=h.row r x h1 (by omega) (by omega) (by omega)
    have h6:=h.col r (x+1) (by omega) b2 (by omega) (by omega)
    omega
   ·rw[en (r+1) x e']
    exact h.col r x h1 h2 e e'
 ·rw[bB]at h3
  have:x=c:=by omega
  subst this
  rw[e0,en _ _ (by omega)]
  exact h.row i (x+1) (by omega) h3 (by omega) (by omega)
 ·rw[bB]at h3
  rw[en _ _ (by omega),en _ _ (by omega)]
  subst h1
  have h5:=h.col r (c+1) h2 (by omega) (by omega) (by omega)
  have h6:=h.col (r+1) (c+1) (by omega) h3 (by omega) (by omega)
  omega
end Go.Am.Pu
end
section
/- A slide's end and its start. Plain words. -/
namespace Go.Am.Pu
theorem gZ{p:List Int}(hp:bc p=true)(r:Nat):p.getD (r+1) 0≤p.getD r 0:=by
 by_cases h:r+1<p.length
 ·exact rY hp r h
 ·rw[aY (by omega)]
  have:=(dO hp r).1
  rw[cq]at this
  exact this
theorem vA{p:List Int}{n:Nat}(hp:bc p=true)(hn:n<p.length)(hc:p.getD (n+1) 0<p.getD n 0)(r:Nat):(aG p n).getD r 0=if r=n then p.getD n 0-1 else p.getD r 0:=by
 unfold aG
 by_cases h:p.getD n 0-1=0
 ·rw[if_pos h]
  have h0:=(dO hp (n+1:Nat)).1
  rw[cq]at h0
  have hl:p.length≤n+1:=by
   refine Nat.le_of_not_lt fun hlt=> ?_
   have:=(aW hp).1 _ (List.getElem_mem hlt)
   rw[←ao hlt 0]at this
   omega
  by_cases e:r=n
  ·subst e
   rw[if_pos rfl,h,aY (by rw[List.length_take];omega)]
  ·rw[if_neg e]
   by_cases e2:r<n
   ·rw[ao (by rw[List.length_take];omega),List.getElem_take,ao (by omega)]
   ·rw[aY (by rw[List.length_take];omega),aY (by omega)]
 ·rw[if_neg h]
  by_cases e:r=n
  ·subst e
   rw[if_pos rfl,ao (by rw[List.length_set];exact hn),List.getElem_set_self]
  ·rw[if_neg e,getD_set_ne (Ne.symm e)]
theorem zD{t:Tab}{r:Nat}(h:r<t.2.length):((e9 t).getD r []).length=(t.1.getD r 0).toNat+(t.2.getD r []).length:=by
 rw[FH h];simp
theorem GA{t:Tab}{r:Nat}(h:t.2.length≤r):(e9 t).getD r []= []:=aY (by rw[zh];exact h) []
structure H5 (t : Tab) : Prop where
  q0 : ∀ r, 0 ≤ t.1.getD r 0
  qm : ∀ r, t.1.getD (r + 1) 0 ≤ t.1.getD r 0
  lm : ∀ r, ((e9 t).getD (r + 1) []).length ≤ ((e9 t).getD r []).length
  num : ∀ r x : Nat, t.1.getD r 0 ≤ x → x < ((e9 t).getD r []).length → 1 ≤ cel (e9 t) r x ∧ cel (e9 t) r x ≤ 9
  row : ∀ r x : Nat, t.1.getD r 0 ≤ x → x + 1 < ((e9 t).getD r []).length → cel (e9 t) r x ≤ cel (e9 t) r (x + 1)
  col : ∀ r x : Nat, t.1.getD r 0 ≤ x → x < ((e9 t).getD (r + 1) []).length → cel (e9 t) r x < cel (e9 t) (r + 1) x
end Go.Am.Pu
end
section
/- A tableau cell by cell; a slide's start. Plain words. -/
namespace Go.Am.Pu
theorem jP{t:Tab}(h:fj t=true):bc t.1=true∧bc (outer t)=true∧t.1.length≤t.2.length∧(∀i k,i<t.2.length→k<(t.2.getD i []).length→gF t i k=true):=by
 simp only[fj,fe,aX,Bool.and_eq_true,decide_eq_true_eq]at h
 obtain⟨⟨h1,h2,h3,h4,h5⟩,h6⟩:=h
 refine⟨h1,h4,h2,fun i k hi hk=> ?_⟩
 rw[bT]at h6
 have:=h6 i hi
 rw[bT]at this
 exact this k hk
theorem Eg{t:Tab}(h:bc t.1=true)(r:Nat):(((e9 t).getD r []).length:Int)=(outer t).getD r 0:=by
 have h0:=(dO h r).1
 rw[cq]at h0
 by_cases hr:r<t.2.length
 ·rw[zD hr]
  have:=eP t.1 t.2 0 r hr
  rw[Nat.zero_add]at this
  unfold outer
  rw[this]
  omega
 ·rw[GA (by omega),aY (by rw[cy];omega)]
  rfl
end Go.Am.Pu
end
section
/- A partition less a box; the tableau that a slide leaves. Plain words. -/
namespace Go.Am.Pu
theorem kH: ∀(p:List Int) (prev s:Int),(∀x∈p,1≤x)→(0<p.length→p.getD 0 0≤prev)→(∀i,i+1<p.length→p.getD (i+1) 0≤p.getD i 0)→s+aM p≤9→gq p prev s=true
 | [],_,_,_,_,_,_=>rfl
 |x::xs,prev,s,h1,h2,h3,h4=>by
  have hs: ∀(l:List Int),(∀y∈l,1≤y)→0≤aM l:=by
   intro l
   induction l with
   |nil=>intro _;simp[aM]
   |cons y l ih=>
    intro h
    have a:=h y List.mem_cons_self
    have b:=ih (fun z hz=>h z (List.mem_cons_of_mem _ hz))
    simp only[aM];omega
  have hx:=h1 x List.mem_cons_self
  have hxs:=hs xs (fun z hz=>h1 z (List.mem_cons_of_mem _ hz))
  have h2':=h2 (by simp)
  simp only[List.getD_cons_zero]at h2'
  simp only[aM]at h4
  have ih:=kH xs x (s+x) (fun z hz=>h1 z (List.mem_cons_of_mem _ hz)) (fun hl=>by have:=h3 0 (by simpa using hl);simpa using this) (fun i hi=>by have:=h3 (i+1) (by simpa using hi);simpa using this) (by omega)
  simp only[gq,Bool.and_eq_true,decide_eq_true_eq]
  exact⟨hx,h2',by omega,ih⟩
theorem oh: ∀(p:List Int) (n:Nat) (v:Int),n<p.length→aM (p.set n v)=aM p-p.getD n 0+v
 | [],n,v,h=>by simp at h
 |x::xs,0,v,_=>by simp[aM];omega
 |x::xs,n+1,v,h=>by
  have:=oh xs n v (by simpa using h)
  simp only[List.set_cons_succ,aM,List.getD_cons_succ,this]
  omega
theorem yM: ∀(p:List Int) (n:Nat),p.length=n+1→aM (p.take n)=aM p-p.getD n 0
 | [],n,h=>by simp at h
 | [x],0,_=>by simp[aM]
 |x::xs,n+1,h=>by
  have:=yM xs n (by simpa using h)
  simp only[List.take_succ_cons,aM,List.getD_cons_succ,this]
  omega
 |x::y::xs,0,h=>by simp at h
theorem xh{p:List Int}{n:Nat}(hp:bc p=true)(hc:p.getD (n+1) 0<p.getD n 0)(h:p.getD n 0-1=0):p.length≤n+1:=by
 have h0:=(dO hp (n+1:Nat)).1
 rw[cq]at h0
 refine Nat.le_of_not_lt fun hlt=> ?_
 have:=(aW hp).1 _ (List.getElem_mem hlt)
 rw[←ao hlt 0]at this
 omega
theorem zY{p:List Int}{n:Nat}(hp:bc p=true)(hn:n<p.length)(hc:p.getD (n+1) 0<p.getD n 0){i:Nat}(hi:i<(aG p n).length):1≤(aG p n).getD i 0:=by
 rw[vA hp hn hc]
 have hl:=zH p n
 have h1: ∀i,i<p.length→1≤p.getD i 0:=fun i hi=>by
  rw[ao hi]
  exact((aW hp).1 _ (List.getElem_mem hi)).1
 by_cases h:p.getD n 0-1=0
 ·unfold aG at hi
  rw[if_pos h,List.length_take]at hi
  rw[if_neg (by omega)]
  exact h1 i (by omega)
 ·have a:=h1 n hn
  have b:=h1 i (by omega)
  split<;>omega
theorem sr{p:List Int}{n:Nat}(hp:bc p=true)(hn:n<p.length)(hc:p.getD (n+1) 0<p.getD n 0):bc (aG p n)=true:=by
 have hs:=aW hp
 have hg:=vA hp hn hc
 have hpn:1≤p.getD n 0:=by
  rw[ao hn]
  exact(hs.1 _ (List.getElem_mem hn)).1
 refine kH _ _ _ (fun x hx=> ?_) (fun _=> ?_) (fun i _=> ?_) ?_
 ·obtain⟨i,hi,rfl⟩:=List.getElem_of_mem hx
  rw[←ao hi 0]
  exact zY hp hn hc hi
 ·rw[hg]
  have: ∀i,p.getD i 0≤9:=fun i=>by
   have:=(dO hp i).2
   rw[cq]at this
   exact this
  have a:=this 0
  have b:=this n
  split<;>omega
 ·rw[hg,hg]
  have:=gZ hp i
  by_cases e:i=n
  ·subst e
   rw[if_neg (by omega),if_pos rfl];omega
  ·rw[if_neg e]
   by_cases e2:i+1=n
   ·subst e2;rw[if_pos rfl];omega
   ·rw[if_neg e2];exact this
 ·have h9:=hs.2.1
  unfold aG
  split
  ·next h=>
   have hl:=xh hp hc h
   rw[yM p n (by omega)]
   omega
  ·rw[oh p n _ hn]
   omega
def cw(q:List Int)(g:List (List Int))(n:Nat):List (List Int):=(List.range' 0 n).map fun r=>(g.getD r []).drop (q.getD r 0).toNat
theorem iC(q:List Int)(g:List (List Int))(n:Nat):(cw q g n).length=n:=by simp[cw]
theorem j2{q:List Int}{g:List (List Int)}{n r:Nat}(h:r<n):(cw q g n).getD r []=(g.getD r []).drop (q.getD r 0).toNat:=by
 rw[ao (by rw[iC];exact h)]
 simp[cw]
def oe(g:List (List Int))(i c:Nat):List (List Int):=g.set i ((g.getD i []).take c)
end Go.Am.Pu
namespace Go.Am.Pu
end Go.Am.Pu
end
section
/- What a slide leaves. Plain words. -/
namespace Go.Am.Pu
theorem CF{g:List (List Int)}{i c r:Nat}(hi:i<g.length):(oe g i c).getD r []=if r=i then(g.getD i []).take c else g.getD r []:=by
 unfold oe
 by_cases e:r=i
 ·subst e
  rw[if_pos rfl,ao (by rw[List.length_set];exact hi),List.getElem_set_self]
 ·rw[if_neg e,getD_set_ne (Ne.symm e)]
theorem ng(g:List (List Int))(i c:Nat):(oe g i c).length=g.length:=by unfold oe;rw[List.length_set]
theorem Gv{g:List (List Int)}{i c r x:Nat}(hi:i<g.length)(hx:x<((oe g i c).getD r []).length):cel (oe g i c) r x=cel g r x:=by
 unfold cel
 rw[CF hi]at hx⊢
 by_cases e:r=i
 ·subst e
  rw[if_pos rfl]at hx⊢
  rw[List.length_take]at hx
  rw[ao (by rw[List.length_take];exact hx),List.getElem_take]
  exact(ao (by omega) 0).symm
 ·rw[if_neg e]
structure zo (t : Tab) (n : Nat) (g : List (List Int)) (i c : Nat) : Prop where
  sl : Sl (aG t.1 n) g i c
  len : g.length = t.2.length
  row : ∀ r, (g.getD r []).length = ((e9 t).getD r []).length
  hi : i < (outer t).length
  end_ : (outer t).getD i 0 = c + 1
  cor : (outer t).getD (i + 1) 0 < (outer t).getD i 0
  cutl : ∀ r, (((oe g i c).getD r []).length : Int) = (aG (outer t) i).getD r 0
  ins : ∀ r, (aG t.1 n).getD r 0 ≤ (aG (outer t) i).getD r 0
  rows : eG 9 9 (oe g i c)
end Go.Am.Pu
end
section
/- The square that the reference slides in. Plain words. -/
namespace Go.Am.Pu
structure Sq (s g : List (List Int)) (i c : Nat) : Prop where
  len : s.length = 11
  row : ∀ r, r < 11 → (s.getD r []).length = 11
  at_ : ∀ r x, r < 11 → x < 11 → ¬ (r = i ∧ x = c) → cel s r x = cel g r x
  hole : cel s i c = 0
theorem Sq.step{s g:List (List Int)}{i c i' c':Nat}(h:Sq s g i c)(hi:i<g.length)(hc:c<(g.getD i []).length)(h1:i<11)(h2:c<11)(h3:i'<11)(h4:c'<11)(hne: ¬(i'=i∧c'=c))(v:Int):
  Sq (kA (kA s i c v) i' c' 0) (kA g i c v) i' c':=by
 refine⟨by rw[iI,iI];exact h.len,fun r hr=>by rw[bB,bB];exact h.row r hr,fun r x hr hx hn=> ?_,?_⟩
 ·rw[iN _ hn]
  by_cases e:r=i∧x=c
  ·obtain⟨rfl,rfl⟩:=e
   rw[jY _ (by rw[h.len];exact h1) (by rw[h.row _ h1];exact h2),jY _ hi hc]
  ·rw[iN _ e,iN _ e];exact h.at_ r x hr hx e
 ·rw[jY _ (by rw[iI,h.len];exact h3) (by rw[bB,h.row _ h3];exact h4)]
end Go.Am.Pu
end
section
/- What a slide leaves is a tableau. Plain words. -/
namespace Go.Am.Pu
theorem xy{α:Type}(l:List α)(a x:Nat)(d:α):(l.drop a).getD x d=l.getD (a+x) d:=by
 simp[List.getD_eq_getElem?_getD,List.getElem?_drop]
section
variable {t : Tab} {n : Nat} {g : List (List Int)} {i c : Nat}
theorem zo.cell(E:zo t n g i c){r k:Nat}(hr:r<(aG (outer t) i).length)
  (hk:k<((cw (aG t.1 n) (oe g i c) (aG (outer t) i).length).getD r []).length):
  ((aG t.1 n).getD r 0).toNat+k<(g.getD r []).length∧((((aG t.1 n).getD r 0).toNat+k:Nat):Int)<(aG (outer t) i).getD r 0∧ ¬(r=i∧((aG t.1 n).getD r 0).toNat+k=c)∧
   ((cw (aG t.1 n) (oe g i c) (aG (outer t) i).length).getD r []).getD k 0=cel g r (((aG t.1 n).getD r 0).toNat+k):=by
 have hq:=E.sl.q0 r
 rw[j2 hr]at hk⊢
 rw[List.length_drop]at hk
 have hx:((aG t.1 n).getD r 0).toNat+k<((oe g i c).getD r []).length:=by omega
 have hl:=E.cutl r
 have hcut:=CF (c:=c) (r:=r) E.sl.hi
 refine⟨?_,by omega,fun e=> ?_,?_⟩
 ·rw[hcut]at hx
  by_cases e:r=i
  ·subst e;rw[if_pos rfl,List.length_take]at hx;omega
  ·rw[if_neg e]at hx;exact hx
 ·rw[hcut,if_pos e.1,List.length_take]at hx
  omega
 ·rw[xy]
  exact Gv E.sl.hi hx
theorem zo.Ax(E:zo t n g i c){r:Nat}(hr:r<(aG (outer t) i).length):
  (aG (outer t) i).getD r 0=(aG t.1 n).getD r 0+(((cw (aG t.1 n) (oe g i c) (aG (outer t) i).length).getD r []).length:Int):=by
 have hq:=E.sl.q0 r
 have hi:=E.ins r
 have hl:=E.cutl r
 rw[j2 hr,List.length_drop]
 omega
theorem zo.tab(E:zo t n g i c)(h:fj t=true)(hn:n<t.1.length)(hc:t.1.getD (n+1) 0<t.1.getD n 0):
  fj (aG t.1 n,cw (aG t.1 n) (oe g i c) (aG (outer t) i).length)=true:=by
 obtain⟨hp,ho,hl,_⟩:=jP h
 have hqp:=sr hp hn hc
 have hop:=sr ho E.hi E.cor
 generalize hR:cw (aG t.1 n) (oe g i c) (aG (outer t) i).length=R
 have hRl:R.length=(aG (outer t) i).length:=by rw[←hR,iC]
 have cell: ∀{r k:Nat},r<R.length→k<(R.getD r []).length→((aG t.1 n).getD r 0).toNat+k<(g.getD r []).length∧((((aG t.1 n).getD r 0).toNat+k:Nat):Int)<(aG (outer t) i).getD r 0∧ ¬(r=i∧((aG t.1 n).getD r 0).toNat+k=c)∧(R.getD r []).getD k 0=cel g r (((aG t.1 n).getD r 0).toNat+k):=by
  intro r k hr hk
  subst hR
  exact E.cell (by omega) hk
 have Ax: ∀{r:Nat},r<R.length→(aG (outer t) i).getD r 0=(aG t.1 n).getD r 0+((R.getD r []).length:Int):=by
  intro r hr
  subst hR
  exact E.Ax (by omega)
 have q0:=E.sl.q0
 have hout:outer (aG t.1 n,R)=aG (outer t) i:=by
  refine List.ext_getElem (by rw[cy];exact hRl) fun r h1 h2=> ?_
  rw[←ao h1 0,←ao h2 0]
  have h3:r<R.length:=by omega
  have:=eP (aG t.1 n) R 0 r h3
  rw[Nat.zero_add]at this
  unfold outer
  rw[this]
  exact(Ax h3).symm
 have hlen:(aG t.1 n).length≤R.length:=by
  refine Nat.le_of_not_lt fun hlt=> ?_
  have a:=zY hp hn hc hlt
  have b:=E.ins R.length
  rw[aY (xs:=aG (outer t) i) (by omega)]at b
  omega
 have om:=gZ hop
 simp only[fj,fe,aX,Bool.and_eq_true,decide_eq_true_eq]
 rw[hout]
 refine⟨⟨hqp,hlen,hqp,hop,by omega,?_⟩,?_⟩
 ·rw[bT]
  intro r _
  exact decide_eq_true (E.ins r)
 ·rw[bT]
  intro r hr
  rw[bT]
  intro k hk
  have hq:=q0 r
  obtain⟨c1,c2,c3,c4⟩:=cell hr hk
  have hx:(aG t.1 n).getD r 0≤((((aG t.1 n).getD r 0).toNat+k:Nat):Int):=by omega
  have hnum:=E.sl.num r _ hx c1 c3
  simp only[gF,within,Bool.and_eq_true,Bool.or_eq_true,decide_eq_true_eq]
  rw[c4]
  refine⟨hnum,?_,?_⟩
  ·cases k with
   |zero=>exact .inl rfl
   |succ k=>
    obtain⟨d1,d2,d3,d4⟩:=cell hr (show k<(R.getD r []).length by omega)
    right
    rw[show k+1-1=k from rfl,d4]
    exact E.sl.row r (((aG t.1 n).getD r 0).toNat+k) (by omega) (by omega) d3 (by omega)
  ·cases r with
   |zero=>exact .inl rfl
   |succ r=>
    right
    have hr':r<R.length:=by omega
    have em:((r+1:Nat):Int)-1=(r:Int):=by omega
    rw[em,jb hr']
    have hqr:=q0 r
    have hrl:=Ax hr'
    have hom:=om r
    simp only
    by_cases e:(aG t.1 n).getD (r+1) 0+(k:Int)<(aG t.1 n).getD r 0
    ·rw[pn (by omega)];omega
    ·obtain⟨y,hy⟩: ∃y:Nat,(aG t.1 n).getD (r+1) 0+(k:Int)-(aG t.1 n).getD r 0=y:=⟨((aG t.1 n).getD (r+1) 0+(k:Int)-(aG t.1 n).getD r 0).toNat,by omega⟩
     rw[hy,cq]
     obtain⟨d1,d2,d3,d4⟩:=cell hr' (show y<(R.getD r []).length by omega)
     have ey:((aG t.1 n).getD r 0).toNat+y=((aG t.1 n).getD (r+1) 0).toNat+k:=by omega
     rw[d4,ey]
     rw[ey]at d3
     exact E.sl.col r _ (by omega) c1 d3 c3
end
theorem DN{t:Tab}(h:fj t=true):t.1.length≤9∧eG 9 9 t.2:=by
 obtain⟨hp,ho,hl,_⟩:=jP h
 have h9:=(aW ho).2.2.1
 rw[cy]at h9
 refine⟨by omega,h9,fun r hr=> ?_⟩
 obtain⟨k,hk,rfl⟩:=List.getElem_of_mem hr
 have a:=Eg hp k
 have b:=(dO ho k).2
 rw[cq]at b
 rw[zD hk]at a
 rw[←ao hk []]
 omega
theorem EG{p:List Int}{n:Nat}(hp:bc p=true)(hn:n<p.length)(hc:p.getD (n+1) 0<p.getD n 0):aM (aG p n)=aM p-1:=by
 unfold aG
 split
 ·next h=>
  have hl:=xh hp hc h
  rw[yM p n (by omega)]
  omega
 ·rw[oh p n _ hn]
  omega
end Go.Am.Pu
namespace Go.Am.Pu
end Go.Am.Pu
end
section
/- Taking the least number out of a plain tableau; evacuation. Plain words. -/
namespace Go.Am.Pu
theorem zo.out{t:Tab}{n:Nat}{g:List (List Int)}{i c:Nat}(E:zo t n g i c):
  outer (aG t.1 n,cw (aG t.1 n) (oe g i c) (aG (outer t) i).length)=aG (outer t) i:=by
 refine List.ext_getElem (by rw[cy];exact iC _ _ _) fun r h1 h2=> ?_
 rw[←ao h1 0,←ao h2 0]
 have h3:r<(cw (aG t.1 n) (oe g i c) (aG (outer t) i).length).length:=by rw[iC];exact h2
 have:=eP (aG t.1 n) (cw (aG t.1 n) (oe g i c) (aG (outer t) i).length) 0 r h3
 rw[Nat.zero_add]at this
 exact this.trans (E.Ax h2).symm
theorem CE{t:Tab}(h:bW t=true){r:Nat}(hr:r<t.2.length):1≤(t.2.getD r []).length:=by
 have hl:=fY h hr
 have hp:=(aW (jK h)).1 ((outer t)[r]'(by rw[cy];exact hr)) (List.getElem_mem _)
 rw[ao (by rw[cy];exact hr)]at hl
 omega
theorem wU{t:Tab}(h:bW t=true):aM (outer t)=t.2.flatten.length:=by
 unfold outer
 exact pf t.1 t.2 0 fun q _=>by rw[kp h];rfl
end Go.Am.Pu
end
section
/- Promotion. Plain words. -/
namespace Go.Am.Pu
def Small(rs:List (List Int)):Prop:= ∀i q,-100≤(rs.getD i []).getD q 0∧(rs.getD i []).getD q 0≤100
end Go.Am.Pu
end
section
/- Slides undone. Plain words. -/
namespace Go.Am.Pu
def leftOf(g:List (List Int))(i c:Nat):Int:=if c=0 then 0 else cel g i (c-1)
def zK(g:List (List Int))(i c:Nat):Int:=if i=0 then 0 else cel g (i-1) c
def rI:Nat→List (List Int)→Nat→Nat→List (List Int)×(Nat×Nat)
 |0,g,i,c=>(g,(i,c))
 |m+1,g,i,c=>if leftOf g i c=0∧zK g i c=0 then(g,(i,c))
  else if leftOf g i c≤zK g i c then rI m (kA g i c (zK g i c)) (i-1) c
  else rI m (kA g i c (leftOf g i c)) i (c-1)
structure Ag (f : Int → Int) (g h : List (List Int)) (i c : Nat) : Prop where
  len : h.length = g.length
  row : ∀ r, (h.getD r []).length = (g.getD r []).length
  at_ : ∀ r x, ¬ (r = i ∧ x = c) → cel h r x = f (cel g r x)
def Inn(q:List Int)(g:List (List Int)):Prop:= ∀r x:Nat,(x:Int)<q.getD r 0→cel g r x=0
theorem Inn.step{q:List Int}{g:List (List Int)}{i c:Nat}(h:Inn q g)(hq:q.getD i 0≤c)(v:Int):Inn q (kA g i c v):=by
 intro r x hx
 by_cases e:r=i∧x=c
 ·obtain⟨rfl,rfl⟩:=e;omega
 ·rw[iN _ e];exact h r x hx
theorem Ag.right{f:Int→Int}{q:List Int}{g h:List (List Int)}{i c:Nat}(hs:Sl q g i c)(hi:Inn q g)(hf: ∀a b x y,cel g a b<cel g x y→f (cel g a b)<f (cel g x y))(f0:f 0=0)
  (hr:cel g i (c+1)≠0) (ha:Ag f (kA g i c (cel g i (c+1))) h i (c+1)):
  ∃h',Ag f g h' i c∧ ∀m,rI (m+1) h i (c+1)=rI m h' i c:=by
 obtain⟨b1,b2⟩:=yX hr
 have f0': ∀a b,cel g a b=0→f (cel g a b)=0:=fun a b e=>by rw[e];exact f0
 have hl:leftOf h i (c+1)=f (cel g i (c+1)):=by
  unfold leftOf
  rw[if_neg (by omega),show c+1-1=c by omega,ha.at_ i c (by omega),jY _ hs.hi hs.hc]
 have hpos:0<f (cel g i (c+1)):=by
  have hp:=hs.pos i (c+1)
  have e:cel g g.length 0=0:=by unfold cel;rw[aY (Nat.le_refl _)];rfl
  have:=hf g.length 0 i (c+1) (by omega)
  rw[e,f0]at this
  exact this
 have hu:zK h i (c+1)<f (cel g i (c+1)):=by
  unfold zK
  by_cases e:i=0
  ·rw[if_pos e];exact hpos
  ·rw[if_neg e,ha.at_ _ _ (by omega),iN _ (by omega)]
   by_cases hq:q.getD (i-1) 0≤((c+1:Nat):Int)
   ·have hc:=hs.col (i-1) (c+1) hq (by rw[show i-1+1=i by omega];exact b2) (by omega) (by omega)
    rw[show i-1+1=i by omega]at hc
    exact hf _ _ _ _ hc
   ·rw[f0' _ _ (hi (i-1) (c+1) (by omega))];exact hpos
 have hhi:i<h.length:=by rw[ha.len,iI];exact b1
 have hhc:c+1<(h.getD i []).length:=by rw[ha.row,bB];exact b2
 refine⟨kA h i (c+1) (leftOf h i (c+1)),⟨by rw[iI,ha.len,iI],fun r=>by rw[bB,ha.row,bB],fun r x hn=> ?_⟩,fun m=> ?_⟩
 ·by_cases e:r=i∧x=c+1
  ·obtain⟨rfl,rfl⟩:=e
   rw[jY _ hhi hhc,hl]
  ·rw[iN _ e,ha.at_ r x e,iN _ hn]
 ·conv=>lhs;unfold rI
  rw[if_neg (by omega),if_neg (by omega)]
  rfl
def Occ(q:List Int)(v:Int)(g:List (List Int))(i c:Nat):Prop:= ∃r x:Nat,¬(r=i∧x=c)∧x<(g.getD r []).length∧q.getD r 0≤x∧cel g r x=v
theorem Occ.step{q:List Int}{v:Int}{g:List (List Int)}{i c a b:Nat}(h:Occ q v g i c)(hi:i<g.length)(hc:c<(g.getD i []).length)(hq:q.getD i 0≤c)(hne: ¬(a=i∧b=c)):Occ q v (kA g i c (cel g a b)) a b:=by
 obtain⟨r,x,h1,h2,h3,h4⟩:=h
 by_cases e:r=a∧x=b
 ·obtain⟨rfl,rfl⟩:=e
  exact⟨i,c,fun e=>hne ⟨e.1.symm,e.2.symm⟩,by rw[bB];exact hc,hq,by rw[jY _ hi hc];exact h4⟩
 ·exact⟨r,x,e,by rw[bB];exact h2,h3,by rw[iN _ h1];exact h4⟩
end Go.Am.Pu
end
section
/- Promotion of a standard tableau is standard, of the same shape, and can be undone. Plain words. -/
namespace Go.Am.Pu
theorem sN{t:Tab}(h0:t.1= [])(hp:bc (outer t)=true)(hn: ∀r x,r<t.2.length→x<(t.2.getD r []).length→1≤cel t.2 r x∧cel t.2 r x≤9)
  (hr: ∀r x,r<t.2.length→x+1<(t.2.getD r []).length→cel t.2 r x≤cel t.2 r (x+1)) (hc: ∀r x,r+1<t.2.length→x<(t.2.getD (r+1) []).length→cel t.2 r x<cel t.2 (r+1) x):bW t=true:=by
 simp only[bW,fj,fe,aX,Bool.and_eq_true,decide_eq_true_eq,h0]
 refine⟨⟨⟨rfl,by simp,rfl,hp,by simp,?_⟩,?_⟩,rfl⟩
 ·rw[bT]
  intro i hi
  simp at hi
 ·rw[bT]
  intro r hr'
  rw[bT]
  intro k hk
  simp only[gF,within,Bool.and_eq_true,Bool.or_eq_true,decide_eq_true_eq]
  refine⟨hn r k hr' hk,?_,?_⟩
  ·by_cases e:k=0
   ·exact .inl e
   ·right
    have:=hr r (k-1) hr' (by omega)
    rw[show k-1+1=k by omega]at this
    exact this
  ·by_cases e:r=0
   ·exact .inl e
   ·right
    have:=hc (r-1) k (by omega) (by rw[show r-1+1=r by omega];exact hk)
    rw[show r-1+1=r by omega]at this
    rw[show(r:Int)-1=((r-1:Nat):Int) by omega,jb (by omega),h0]
    simp only[List.getD_nil]
    rw[show(0:Int)+(k:Int)-0=(k:Int) by omega,cq]
    exact this
theorem nR{t:Tab}(h:bW t=true):(∀r x,r<t.2.length→x<(t.2.getD r []).length→1≤cel t.2 r x∧cel t.2 r x≤9)∧(∀r x,r<t.2.length→x+1<(t.2.getD r []).length→cel t.2 r x≤cel t.2 r (x+1)):=by
 have h':=h
 simp only[bW,Bool.and_eq_true]at h'
 obtain⟨_,_,_,hc⟩:=jP h'.1
 refine⟨fun r x hr hx=> ?_,fun r x hr hx=> ?_⟩
 ·have:=hc r x hr hx
  simp only[gF,within,Bool.and_eq_true,decide_eq_true_eq]at this
  exact this.1
 ·have:=hc r (x+1) hr hx
  simp only[gF,within,Bool.and_eq_true,Bool.or_eq_true,decide_eq_true_eq]at this
  exact this.2.1.resolve_left (by omega)
theorem lE{rs:List (List Int)}{r x:Nat}(hr:r<rs.length)(hx:x<(rs.getD r []).length):cel rs r x∈rs.flatten:=by
 refine List.mem_flatten.2 ⟨rs.getD r [],by rw[ao hr];exact List.getElem_mem hr,?_⟩
 unfold cel
 rw[ao hx]
 exact List.getElem_mem hx
theorem qE{rs:List (List Int)}{v:Int}(h:v∈rs.flatten): ∃r x,r<rs.length∧x<(rs.getD r []).length∧cel rs r x=v:=by
 obtain⟨l,hl,hv⟩:=List.mem_flatten.1 h
 obtain⟨r,hr,rfl⟩:=List.getElem_of_mem hl
 obtain⟨x,hx,rfl⟩:=List.getElem_of_mem hv
 have e:=ao hr ([]:List Int)
 refine⟨r,x,hr,by rw[e];exact hx,?_⟩
 unfold cel
 rw[e,ao hx]
theorem nx{t:Tab}(h:bW t=true)(hs:iw t=true):t.2.flatten.Nodup∧(∀x∈t.2.flatten,1≤x∧x≤t.2.flatten.length):=by
 simp only[iw,Bool.and_eq_true]at hs
 have h1:=zR hs.1
 obtain⟨a,b⟩:=(BC fun x hx=>(h1 x hx).1).1 hs.2
 exact⟨a,fun x hx=>⟨(h1 x hx).1,b x hx⟩⟩
end Go.Am.Pu
end
section
/- Promotion keeps shapes and standardness. Plain words. -/
namespace Go.Am.Pu
section
variable {t : Tab}
theorem sx{xs ys:List Int}{x:Nat}(h:x<xs.length):(xs++ys).getD x 0=xs.getD x 0:=by
 simp only[List.getD_eq_getElem?_getD,List.getElem?_append_left h]
theorem rE{xs ys:List Int}{x:Nat}(h:xs.length≤x):(xs++ys).getD x 0=ys.getD (x-xs.length) 0:=by
 simp only[List.getD_eq_getElem?_getD,List.getElem?_append_right h]
end
end Go.Am.Pu
end
section
/- Promotion undone: it is one to one. Plain words. -/
namespace Go.Am.Pu
def GS(t:Tab)(n:Nat):List (List Int):=
 (if n=t.2.length then e9 t++ [[]]else e9 t).set n ((if n=t.2.length then e9 t++ [[]]else e9 t).getD n []++ [0])
section
variable {t : Tab}
end
end Go.Am.Pu
end
section
/- Orbits of promotion come back. Plain words. -/
namespace Go.Am.Pu
structure Good (t : Tab) : Prop where
  pl : bW t = true
  st : iw t = true
  ne : t.2.flatten.length ≠ 0
end Go.Am.Pu
end
section
/- A slide outwards, as the program has it; demotion. Plain words. -/
namespace Go.Am.Pu
theorem xk{p q:List Int}{n:Nat}(h:kx p n=(q,true)):n≤p.length∧n<q.length∧q.length≤p.length+1∧(∀r,q.getD r 0=if r=n then p.getD n 0+1 else p.getD r 0)∧bc q=true:=by
 have hl:=Bo p n
 rw[h]at hl
 unfold kx at h
 by_cases hc:bc p=true∧(0:Int)≤n∧(n:Int)≤p.length
 ·rw[if_pos hc]at h
  have hn:n≤p.length:=by omega
  generalize hw:(if(n:Int)=p.length then p++ [0]else p)=w at h
  have hb: ∀r,w.getD r 0=p.getD r 0:=fun r=>by
   rw[←hw]
   split
   ·by_cases hr:r<p.length
    ·rw[sx hr]
    ·rw[rE (by omega),aY (xs:=p) (by omega)]
     cases r-p.length<;>rfl
   ·rfl
  have hwl:n<w.length:=by
   rw[←hw]
   split
   ·rw[List.length_append,List.length_singleton];omega
   ·omega
  simp only[Int.toNat_natCast]at h
  by_cases hp:bc (w.set n (w.getD n 0+1))=true
  ·rw[if_pos hp]at h
   have h1:=congrArg Prod.fst h
   simp only at h1
   subst h1
   refine⟨hn,by rw[List.length_set];exact hwl,hl,fun r=> ?_,hp⟩
   by_cases e:r=n
   ·subst e
    rw[if_pos rfl,ao (by rw[List.length_set];exact hwl),List.getElem_set_self,hb]
   ·rw[if_neg e,getD_set_ne (Ne.symm e),hb]
  ·rw[if_neg hp]at h
   have h2:=congrArg Prod.snd h
   simp at h2
 ·rw[if_neg hc]at h
  have h2:=congrArg Prod.snd h
  simp at h2
section
variable {u : Tab}
end
end Go.Am.Pu
end
section
/- The last promotion of an orbit; orbits' sizes. Plain words. -/
namespace Go.Am.Pu
def Ct(t:Tab):Prop:=t.1= []∧eG 10 10 t.2
theorem Ct.ok{t:Tab}(h:Ct t):xd t:=⟨by rw[h.1];simp,by have:=h.2.1;omega,fun r hr=>by have:=h.2.2 r hr;omega⟩
theorem Ct.size{t:Tab}(h:Ct t):AQ t.2≤100:=by
 have a:=An t.2 10 h.2.2
 have b:=h.2.1
 omega
section
attribute [local instance] D.real
variable {α β : Type} {x y v : Option α}
end
end Go.Am.Pu
end
section
/- The rewriting rules of the plain laws, in one. -/
namespace Go.Am.Pu
open Go Go.Am
attribute [local instance] D.real
theorem sss:type_of% @fJ∧type_of% @fR∧type_of% @dm∧type_of% @dD∧type_of% @dF∧type_of% @cO∧type_of% @cM∧type_of% @di∧type_of% @fU∧type_of% @dt∧type_of% @dE∧type_of% @b8∧type_of% @b9∧type_of% @dH∧type_of% @bX∧type_of% @dj∧type_of% @dA∧type_of% @fV∧type_of% @fW∧type_of% @dC∧type_of% @dB∧type_of% @b7∧type_of% @w64∧type_of% @Int.toNat_natCast∧type_of% @decide_eq_true_eq∧type_of% @Int.ofNat_lt∧type_of% @Int.ofNat_le∧type_of% @Int.natCast_nonneg∧type_of% @decide_true∧type_of% @decide_false∧type_of% @Bool.not_true∧type_of% @Bool.not_false∧type_of% @Bool.false_eq_true∧type_of% @Bool.not_eq_true∧type_of% @Bool.true_and∧type_of% @Bool.and_true∧type_of% @Bool.false_and∧type_of% @Bool.and_false:=
 ⟨@fJ,@fR,@dm,@dD,@dF,@cO,@cM,@di,@fU,@dt,@dE,@b8,@b9,@dH,@bX,@dj,@dA,@fV,@fW,@dC,@dB,@b7,@w64,@Int.toNat_natCast,@decide_eq_true_eq,@Int.ofNat_lt,@Int.ofNat_le,@Int.natCast_nonneg,@decide_true,@decide_false,@Bool.not_true,@Bool.not_false,@Bool.false_eq_true,@Bool.not_eq_true,@Bool.true_and,@Bool.and_true,@Bool.false_and,@Bool.and_false⟩
end Go.Am.Pu
end
section
/- Cells taken out of plain tableaux, one behind another. Plain words. -/
namespace Go.Am.Pu
def rq(rs:List (List Int)):Prop:= ∀i,i+1<rs.length→(rs.getD (i+1) []).length≤(rs.getD i []).length∧ ∀q,q<(rs.getD (i+1) []).length→(rs.getD i []).getD q 0<(rs.getD (i+1) []).getD q 0
theorem vK{r:List Int}{y:Int}: ∀{m q:Nat},mf r y m=some q→ ∀c,q<c→c<m→y≤r.getD c 0
 |0,q,h,_,_,_=>by simp[mf]at h
 |m+1,q,h,c,h1,h2=>by
  unfold mf at h
  split at h
  ·next hc=>injection h with h;omega
  ·next hc=>
   by_cases e:c=m
   ·subst e;omega
   ·exact vK h c h1 (by omega)
theorem rL: ∀(r:Nat) (rs:List (List Int)) (y:Int),(mD r rs y).1.length=rs.length∧ ∀i,((mD r rs y).1.getD i []).length=(rs.getD i []).length
 |0,_,_=>⟨rfl,fun _=>rfl⟩
 |r+1,rs,y=>by
  unfold mD
  split
  ·next q hq=>
   obtain⟨a,b⟩:=rL r (rs.set r ((rs.getD r []).set q y)) ((rs.getD r []).getD q 0)
   refine⟨by rw[a,List.length_set],fun i=> ?_⟩
   rw[b]
   by_cases e:i=r
   ·subst e
    by_cases h:i<rs.length
    ·rw[ao (by rw[List.length_set];exact h),List.getElem_set_self,List.length_set]
    ·rw[aY (by rw[List.length_set];omega),aY (xs:=rs) (by omega)]
   ·rw[getD_set_ne (Ne.symm e)]
  ·exact rL r rs y
theorem wX: ∀(r:Nat) (rs:List (List Int)) (y:Int) (q:Nat),r<rs.length→(∀i,i+1<r→(rs.getD (i+1) []).length≤(rs.getD i []).length∧ ∀q,q<(rs.getD (i+1) []).length→(rs.getD i []).getD q 0<(rs.getD (i+1) []).getD q 0)→
  (∀i,r≤i→i+1<rs.length→(rs.getD (i+1) []).length≤(rs.getD i []).length∧ ∀q,q<(rs.getD (i+1) []).length→(rs.getD i []).getD q 0<(rs.getD (i+1) []).getD q 0)→
  (∀i,i+1=r→(rs.getD r []).length≤(rs.getD i []).length∧q<(rs.getD i []).length∧(rs.getD i []).getD q 0<y∧(∀c,c<(rs.getD r []).length→c≠q→(rs.getD i []).getD c 0<(rs.getD r []).getD c 0)∧(∀c,q≤c→c<(rs.getD r []).length→y<(rs.getD r []).getD c 0))→
  rq (mD r rs y).1
 |0,rs,y,q,hr,_,hB,_=>fun i hi=>hB i (Nat.zero_le _) hi
 |r+1,rs,y,q,hr,hA,hB,hI=>by
  obtain⟨i1,i2,i3,i4,i5⟩:=hI r rfl
  obtain⟨q0,hq0⟩:=xc i2 i3
  have hmax:=vK hq0
  obtain⟨k1,k2⟩:=td hq0
  have hqq:q≤q0:=Nat.le_of_not_lt fun hlt=>by
   have:=hmax q hlt i2
   omega
  unfold mD
  rw[hq0]
  have hrow:(rs.set r ((rs.getD r []).set q0 y)).getD r []=(rs.getD r []).set q0 y:=by
   rw[ao (by rw[List.length_set];omega),List.getElem_set_self]
  have hne: ∀i,i≠r→(rs.set r ((rs.getD r []).set q0 y)).getD i []=rs.getD i []:=fun i h=>getD_set_ne (Ne.symm h) _ _
  have hset: ∀c,c≠q0→((rs.getD r []).set q0 y).getD c 0=(rs.getD r []).getD c 0:=fun c h=>getD_set_ne (Ne.symm h) _ _
  have hself:((rs.getD r []).set q0 y).getD q0 0=y:=by rw[ao (by rw[List.length_set];exact k1),List.getElem_set_self]
  refine wX r _ _ q0 (by rw[List.length_set];omega) (fun i hi=> ?_) (fun i hi hl=> ?_) (fun i hi=> ?_)
  ·rw[hne _ (by omega),hne _ (by omega)]
   exact hA i (by omega)
  ·rw[List.length_set]at hl
   by_cases e:i=r
   ·subst e
    rw[hne (i+1) (by omega),hrow,List.length_set]
    refine⟨i1,fun c hc=> ?_⟩
    by_cases e2:c=q0
    ·subst e2;rw[hself];exact i5 c hqq hc
    ·rw[hset c e2]
     by_cases e3:c=q
     ·subst e3
      have:=i5 c (Nat.le_refl _) hc
      omega
     ·exact i4 c hc e3
   ·rw[hne (i+1) (by omega),hne i e]
    exact hB i (by omega) hl
  ·subst hi
   obtain⟨a1,a2⟩:=hA i (by omega)
   rw[hrow,hne i (by omega),List.length_set]
   refine⟨a1,by omega,a2 q0 k1,fun c hc e=> ?_,fun c h1 h2=> ?_⟩
   ·rw[hset c e];exact a2 c hc
   ·by_cases e:c=q0
    ·subst e;rw[hself];exact k2
    ·rw[hset c e]
     have:=hmax c (by omega) h2
     omega
def bY(rs:List (List Int))(r:Nat):List (List Int):=
 if(rs.getD r []).length=1 then(rs.set r ((rs.getD r []).take ((rs.getD r []).length-1))).take r else rs.set r ((rs.getD r []).take ((rs.getD r []).length-1))
def eI(a b:List (List Int)):Prop:=a.length=b.length∧ ∀i,(a.getD i []).length=(b.getD i []).length
theorem getD_take{α:Type}{l:List α}{n i:Nat}(h:i<n)(d:α):(l.take n).getD i d=l.getD i d:=by
 simp only[List.getD_eq_getElem?_getD,List.getElem?_take,if_pos h]
theorem xx{a b:List (List Int)}(h:eI a b)(n:Nat):eI (a.take n) (b.take n):=by
 refine⟨by rw[List.length_take,List.length_take,h.1],fun i=> ?_⟩
 by_cases hi:i<n
 ·rw[getD_take hi,getD_take hi];exact h.2 i
 ·rw[aY (xs:=a.take n) (by rw[List.length_take];omega),aY (xs:=b.take n) (by rw[List.length_take];omega)]
theorem yn(rs:List (List Int))(r:Nat):eI (lL rs r).1 (bY rs r):=by
 have a:=rL r (rs.set r ((rs.getD r []).take ((rs.getD r []).length-1))) ((rs.getD r []).getD ((rs.getD r []).length-1) 0)
 unfold lL bY
 simp only
 split
 ·exact xx a r
 ·exact a
theorem AR{a b:List (List Int)}(h:eI a b)(r:Nat):eI (bY a r) (bY b r):=by
 have hs:eI (a.set r ((a.getD r []).take ((a.getD r []).length-1))) (b.set r ((b.getD r []).take ((b.getD r []).length-1))):=by
  refine⟨by rw[List.length_set,List.length_set,h.1],fun i=> ?_⟩
  by_cases e:i=r
  ·subst e
   by_cases hi:i<a.length
   ·rw[ao (xs:=a.set _ _) (by rw[List.length_set];exact hi),List.getElem_set_self,ao (xs:=b.set _ _) (by rw[List.length_set,←h.1];exact hi),List.getElem_set_self,List.length_take,List.length_take,h.2 i]
   ·rw[aY (xs:=a.set _ _) (by rw[List.length_set];omega),aY (xs:=b.set _ _) (by rw[List.length_set,←h.1];omega)]
  ·rw[getD_set_ne (Ne.symm e),getD_set_ne (Ne.symm e)];exact h.2 i
 unfold bY
 rw[h.2 r]
 split
 ·rw[←h.2 r];rw[h.2 r]at*;exact xx hs r
 ·rw[h.2 r]at hs;exact hs
theorem eI.trans{a b c:List (List Int)}(h:eI a b)(h':eI b c):eI a c:=⟨h.1.trans h'.1,fun i=>(h.2 i).trans (h'.2 i)⟩
theorem FC{rs:List (List Int)}(h:rq rs)(n:Nat):rq (rs.take n):=by
 intro i hi
 rw[List.length_take]at hi
 rw[getD_take (by omega),getD_take (by omega)]
 exact h i (by omega)
theorem AF{rs:List (List Int)}{r:Nat}(h:rq rs)(hr:r<rs.length)(hl:1≤(rs.getD r []).length)(hc:(rs.getD (r+1) []).length<(rs.getD r []).length):rq (lL rs r).1:=by
 have hrow:(rs.set r ((rs.getD r []).take ((rs.getD r []).length-1))).getD r []=(rs.getD r []).take ((rs.getD r []).length-1):=by
  rw[ao (by rw[List.length_set];exact hr),List.getElem_set_self]
 have hne: ∀i,i≠r→(rs.set r ((rs.getD r []).take ((rs.getD r []).length-1))).getD i []=rs.getD i []:=fun i h=>getD_set_ne (Ne.symm h) _ _
 have key:rq (mD r (rs.set r ((rs.getD r []).take ((rs.getD r []).length-1))) ((rs.getD r []).getD ((rs.getD r []).length-1) 0)).1:=by
  refine wX r _ _ ((rs.getD r []).length-1) (by rw[List.length_set];exact hr) (fun i hi=> ?_) (fun i hi hil=> ?_) (fun i hi=> ?_)
  ·rw[hne _ (by omega),hne _ (by omega)];exact h i (by omega)
  ·rw[List.length_set]at hil
   by_cases e:i=r
   ·subst e
    rw[hne (i+1) (by omega),hrow,List.length_take]
    refine⟨by omega,fun c hc'=> ?_⟩
    rw[getD_take (by omega)]
    exact(h i hil).2 c hc'
   ·rw[hne (i+1) (by omega),hne i e];exact h i hil
  ·subst hi
   obtain⟨a1,a2⟩:=h i hr
   rw[hrow,hne i (by omega),List.length_take]
   refine⟨by omega,by omega,a2 _ (by omega),fun c h1 h2=> ?_,fun c h1 h2=>by omega⟩
   rw[getD_take (by omega)]
   exact a2 c (by omega)
 unfold lL
 simp only
 split
 ·exact FC key r
 ·exact key
end Go.Am.Pu
end
section
/- The greatest number of a standard tableau, and the tableau without it; a pair of tableaux unrolled. Plain words. -/
namespace Go.Am.Pu
section
variable {t : Tab}
theorem wh(h:bW t=true)(hs:iw t=true){a b x y:Nat}(ha:a<t.2.length)(hx:x<(t.2.getD a []).length)(hb:b<t.2.length)(hy:y<(t.2.getD b []).length)(e:cel t.2 a x=cel t.2 b y):a=b∧x=y:=by
 have nd:=(nx h hs).1
 rw[List.Nodup,List.pairwise_flatten]at nd
 have mem: ∀{r z:Nat},r<t.2.length→(hz:z<(t.2.getD r []).length)→cel t.2 r z∈t.2.getD r []:=fun{r z} _ hz=>by
  unfold cel
  rw[ao hz]
  exact List.getElem_mem hz
 have ab: ∀{a b x y:Nat},a<b→a<t.2.length→x<(t.2.getD a []).length→b<t.2.length→y<(t.2.getD b []).length→cel t.2 a x≠cel t.2 b y:=fun{a b x y} hab ha hx hb hy=>by
  have:=List.pairwise_iff_getElem.1 nd.2 a b ha hb hab
  exact this _ (by rw[←ao ha []];exact mem ha hx) _ (by rw[←ao hb []];exact mem hb hy)
 have e1:a=b:=by
  rcases Nat.lt_trichotomy a b with hl|hl|hl
  ·exact absurd e (ab hl ha hx hb hy)
  ·exact hl
  ·exact absurd e.symm (ab hl hb hy ha hx)
 subst e1
 refine⟨rfl,?_⟩
 have n2:=nd.1 _ (by rw[ao ha];exact List.getElem_mem ha:t.2.getD a []∈t.2)
 unfold cel at e
 rw[ao hx,ao hy]at e
 rcases Nat.lt_trichotomy x y with hl|hl|hl
 ·exact absurd e (List.pairwise_iff_getElem.1 n2 x y hx hy hl)
 ·exact hl
 ·exact absurd e.symm (List.pairwise_iff_getElem.1 n2 y x hy hx hl)
theorem jO(h:bW t=true)(hs:iw t=true){a x:Nat}{v:Int}(ha:a<t.2.length)(hx:x<(t.2.getD a []).length)(e:cel t.2 a x=v):rowOf t v=a:=by
 have hf:t.2.findIdx (fun r=>has r v)=a:=by
  rw[List.findIdx_eq ha]
  refine⟨?_,fun j hj=> ?_⟩
  ·rw[←ao ha [],tV,←e]
   unfold cel
   rw[ao hx]
   exact List.getElem_mem hx
  ·rw[Bool.eq_false_iff]
   intro hc
   rw[tV]at hc
   obtain⟨y,hy,e2⟩:=List.getElem_of_mem hc
   have hjl:j<t.2.length:=by omega
   have hy':y<(t.2.getD j []).length:=by rw[ao hjl];exact hy
   have e3:cel t.2 j y=v:=by
    unfold cel
    rw[ao hy']
    simp only[ao hjl]
    exact e2
   have:=wh h hs hjl hy' ha hx (by rw[e,e3])
   omega
 unfold rowOf Dy
 rw[hf,if_pos ha]
theorem Eu(h:bW t=true)(hs:iw t=true)(hn:t.2.flatten.length≠0): ∃a:Nat,a<t.2.length∧1≤(t.2.getD a []).length∧cel t.2 a ((t.2.getD a []).length-1)=t.2.flatten.length∧(t.2.getD (a+1) []).length<(t.2.getD a []).length∧rowOf t t.2.flatten.length=a:=by
 have ho:lT t.2.flatten=true:=by
  have:=hs
  simp only[iw,Bool.and_eq_true]at this
  exact this.2
 obtain⟨a,x,ha,hx,e⟩:=qE (lu.1 ho t.2.flatten.length (iG.2 (by omega)))
 have hb:=(nx h hs).2
 obtain⟨c1,c2⟩:=nR h
 have hx1:x+1=(t.2.getD a []).length:=by
  refine Nat.le_antisymm hx (Nat.le_of_not_lt fun hlt=> ?_)
  have k1:=c2 a x ha hlt
  have k2:=(hb _ (lE ha hlt)).2
  have:=wh h hs ha hx ha hlt (by omega)
  omega
 have hbel:(t.2.getD (a+1) []).length≤x:=by
  refine Nat.le_of_not_lt fun hlt=> ?_
  have ha1:a+1<t.2.length:=Nat.lt_of_not_le fun hle=>by rw[aY hle]at hlt;simp at hlt
  have k1:=(qq h a ha1).2 x hlt
  have k2:=(hb _ (lE ha1 hlt)).2
  unfold cel at e k2
  omega
 refine⟨a,ha,by omega,by rw[show(t.2.getD a []).length-1=x by omega];exact e,by omega,jO h hs ha hx e⟩
theorem pU{rs:List (List Int)}{a:Nat}(ha:a<rs.length)(hc:(rs.getD (a+1) []).length<(rs.getD a []).length)(hp: ∀r,r<rs.length→1≤(rs.getD r []).length)(r:Nat):(bY rs a).getD r []=if r=a then(rs.getD a []).take ((rs.getD a []).length-1)else rs.getD r []:=by
 have hset:(rs.set a ((rs.getD a []).take ((rs.getD a []).length-1))).getD r []=if r=a then(rs.getD a []).take ((rs.getD a []).length-1)else rs.getD r []:=by
  by_cases e:r=a
  ·subst e;rw[if_pos rfl,ao (by rw[List.length_set];exact ha),List.getElem_set_self]
  ·rw[if_neg e,getD_set_ne (Ne.symm e)]
 unfold bY
 split
 ·next h1=>
  by_cases hr:r<a
  ·rw[getD_take hr,hset]
  ·rw[aY (by rw[List.length_take];omega)]
   by_cases e:r=a
   ·subst e;rw[if_pos rfl,h1];rfl
   ·rw[if_neg e]
    have hlast:rs.length≤a+1:=Nat.le_of_not_lt fun hlt=>by
     have:=hp (a+1) hlt
     omega
    rw[aY (by omega)]
 ·exact hset
theorem vY{rs:List (List Int)}{a:Nat}(ha:a<rs.length):(bY rs a).length=if(rs.getD a []).length=1 then a else rs.length:=by
 unfold bY
 split
 ·rw[List.length_take,List.length_set];omega
 ·rw[List.length_set]
theorem FZ(h:bW t=true)(hs:iw t=true){a:Nat}(hn:t.2.flatten.length≠0)(ha:a<t.2.length)(h1:1≤(t.2.getD a []).length)(htop:cel t.2 a ((t.2.getD a []).length-1)=t.2.flatten.length)(hc:(t.2.getD (a+1) []).length<(t.2.getD a []).length):
  bW (([],bY t.2 a):Tab)=true∧iw (([],bY t.2 a):Tab)=true∧(bY t.2 a).flatten.length+1=t.2.flatten.length∧ ∀v,1≤v→v<(t.2.flatten.length:Int)→rowOf ([],bY t.2 a) v=rowOf t v:=by
 have hpos:=fun r (hr:r<t.2.length)=>CE h hr
 have hrow:=pU ha hc hpos
 have hlen:=vY ha
 obtain⟨c1,c2⟩:=nR h
 have c3:=qq h
 have hcorner:(outer t).getD (a+1) 0<(outer t).getD a 0:=by
  rw[fY h ha]
  by_cases e:a+1<t.2.length
  ·rw[fY h e];omega
  ·rw[aY (by rw[cy];omega)];omega
 have hal:a<(outer t).length:=by rw[cy];exact ha
 have hout:outer (([],bY t.2 a):Tab)=aG (outer t) a:=by
  have hdl:(aG (outer t) a).length=(bY t.2 a).length:=by
   rw[hlen]
   unfold aG
   rw[fY h ha]
   by_cases e:(t.2.getD a []).length=1
   ·rw[if_pos (by omega),if_pos e,List.length_take,cy];omega
   ·rw[if_neg (by omega),if_neg e,List.length_set,cy]
  refine List.ext_getElem (by rw[cy,hdl]) fun r k1 k2=> ?_
  rw[←ao k1 0,←ao k2 0,vA (jK h) hal hcorner]
  have k3:r<(bY t.2 a).length:=by rw[cy]at k1;exact k1
  have:=eP [] (bY t.2 a) 0 r k3
  unfold outer at this⊢
  rw[this,hrow]
  have hrl:r<t.2.length:=by
   rw[hlen]at k3
   split at k3<;>omega
  have po:=fY h hrl
  have pa:=fY h ha
  unfold outer at po pa
  by_cases e:r=a
  ·subst e
   rw[if_pos rfl,if_pos rfl,List.length_take,pa]
   simp only[List.getD_nil]
   omega
  ·rw[if_neg e,if_neg e,po]
   simp only[List.getD_nil]
   omega
 have hcel: ∀{r x:Nat},x<((bY t.2 a).getD r []).length→x<(t.2.getD r []).length∧cel (bY t.2 a) r x=cel t.2 r x:=fun{r x} hx=>by
  unfold cel
  rw[hrow]at hx⊢
  by_cases e:r=a
  ·subst e
   rw[if_pos rfl,List.length_take]at hx
   rw[if_pos rfl,getD_take (by omega)]
   exact⟨by omega,rfl⟩
  ·rw[if_neg e]at hx⊢
   exact⟨hx,rfl⟩
 have hrl: ∀{r:Nat},r<(bY t.2 a).length→r<t.2.length:=fun{r} hr=>by
  rw[hlen]at hr
  split at hr<;>omega
 have hin: ∀{r x:Nat},x<(t.2.getD r []).length→ ¬(r=a∧x+1=(t.2.getD a []).length)→x<((bY t.2 a).getD r []).length:=fun{r x} hx hne=>by
  rw[hrow]
  by_cases e:r=a
  ·subst e
   rw[if_pos rfl,List.length_take]
   have: ¬x+1=(t.2.getD r []).length:=fun e=>hne ⟨rfl,e⟩
   omega
  ·rw[if_neg e];exact hx
 have hpl:bW (([],bY t.2 a):Tab)=true:=by
  refine sN rfl (by rw[hout];exact sr (jK h) hal hcorner) (fun r x hr hx=> ?_) (fun r x hr hx=> ?_) (fun r x hr hx=> ?_)
  ·obtain⟨k1,k2⟩:=hcel hx
   rw[k2];exact c1 r x (hrl hr) k1
  ·obtain⟨k1,k2⟩:=hcel hx
   obtain⟨_,k4⟩:=hcel (show x<((bY t.2 a).getD r []).length from Nat.lt_of_succ_lt hx)
   rw[k2,k4];exact c2 r x (hrl hr) k1
  ·obtain⟨k1,k2⟩:=hcel hx
   have hr1:=hrl hr
   obtain⟨d1,d2⟩:=c3 r hr1
   have hxr:x<((bY t.2 a).getD r []).length:=by
    refine hin (by omega) fun e=> ?_
    rw[e.1]at k1
    omega
   obtain⟨_,k4⟩:=hcel hxr
   rw[k2,k4]
   exact d2 x k1
 have hfl:(bY t.2 a).flatten.length+1=t.2.flatten.length:=by
  have e1:=wU hpl
  rw[hout,EG (jK h) hal hcorner,wU h]at e1
  simp only at e1
  omega
 have ho:lT t.2.flatten=true:=by
  have:=hs
  simp only[iw,Bool.and_eq_true]at this
  exact this.2
 have hcells: ∀v,1≤v→v<(t.2.flatten.length:Int)→ ∃r x,r<(bY t.2 a).length∧x<((bY t.2 a).getD r []).length∧cel (bY t.2 a) r x=v∧r<t.2.length∧x<(t.2.getD r []).length∧cel t.2 r x=v:=by
  intro v v1 v2
  obtain⟨r,x,hr,hx,e⟩:=qE (lu.1 ho v (iG.2 (by omega)))
  have hx':x<((bY t.2 a).getD r []).length:=by
   refine hin hx fun e2=> ?_
   rw[e2.1,show x=(t.2.getD a []).length-1 by omega,htop]at e
   omega
  exact⟨r,x,Nat.lt_of_not_le fun hle=>by rw[aY hle]at hx';simp at hx',hx',by rw[(hcel hx').2];exact e,hr,hx,e⟩
 have hst:iw (([],bY t.2 a):Tab)=true:=by
  have hp':=hpl
  simp only[bW,Bool.and_eq_true]at hp'
  simp only[iw,Bool.and_eq_true]
  refine⟨hp'.1,lu.2 fun v hv=> ?_⟩
  rw[iG]at hv
  obtain⟨r,x,q1,q2,q3,_⟩:=hcells v hv.1 (by omega)
  rw[←q3]
  exact lE q1 q2
 refine⟨hpl,hst,hfl,fun v v1 v2=> ?_⟩
 obtain⟨r,x,q1,q2,q3,q4,q5,q6⟩:=hcells v v1 v2
 rw[jO h hs q4 q5 q6,jO hpl hst q1 q2 q3]
end
structure Unr (q : Tab) (k : Nat) (P Q : List (List Int)) : Prop where
  pl : bW (([], Q) : Tab) = true
  st : iw (([], Q) : Tab) = true
  fl : Q.flatten.length = k
  col : rq P
  same : eI P Q
  p9 : eG 9 9 P
  row : ∀ v, 1 ≤ v → v ≤ (k : Int) → rowOf ([], Q) v = rowOf q v
theorem Unr.step{q:Tab}{k:Nat}{P Q:List (List Int)}(h:Unr q (k+1) P Q): ∃a:Nat,rowOf q ((k+1:Nat):Int)=a∧a<Q.length∧1≤(Q.getD a []).length∧cel Q a ((Q.getD a []).length-1)=(k+1:Nat)∧(Q.getD (a+1) []).length<(Q.getD a []).length∧Unr q k (lL P a).1 (bY Q a):=by
 have hfl:(([],Q):Tab).2.flatten.length=k+1:=h.fl
 obtain⟨a,a1,a2,a3,a4,a5⟩:=Eu h.pl h.st (by omega)
 obtain⟨b1,b2,b3,b4⟩:=FZ h.pl h.st (by omega) a1 a2 a3 a4
 simp only at a1 a2 a3 a4 b3
 have hP1:a<P.length:=by rw[h.same.1];exact a1
 refine⟨a,?_,a1,a2,by rw[a3,h.fl],a4,⟨b1,b2,by have:=h.fl;omega,AF h.col hP1 (by rw[h.same.2];exact a2) (by rw[h.same.2,h.same.2];exact a4),(yn P a).trans (AR h.same a),yv h.p9 a,fun v v1 v2=> ?_⟩⟩
 ·rw[←h.row _ (by omega) (Int.le_refl _),←a5,hfl]
 ·rw[b4 v v1 (by rw[hfl];omega)]
  exact h.row v v1 (by omega)
end Go.Am.Pu
namespace Go.Am.Pu
end Go.Am.Pu
end
section
/- Insertion keeps tableaux; where the new cells lie; a tableau from its word. Plain words. -/
namespace Go.Am.Pu
def mJ(r:List Int):Prop:= ∀i,i+1<r.length→r.getD i 0≤r.getD (i+1) 0
theorem mJ.le{r:List Int}(h:mJ r): ∀(d i:Nat),i+d<r.length→r.getD i 0≤r.getD (i+d) 0
 |0,i,_=>Int.le_refl _
 |d+1,i,hi=>by
  have a:=mJ.le h d i (by omega)
  have b:=h (i+d) (by omega)
  rw[show i+(d+1)=i+d+1 by omega]
  omega
theorem mJ.mono{r:List Int}(h:mJ r){i j:Nat}(hij:i≤j)(hj:j<r.length):r.getD i 0≤r.getD j 0:=by
 have:=h.le (j-i) i (by omega)
 rw[show i+(j-i)=j by omega]at this
 exact this
def fst(r:List Int)(x:Int):Nat:=r.findIdx fun n=>decide (x<n)
theorem xZ{r:List Int}{x:Int}:fst r x≤r.length:=List.findIdx_le_length
theorem Fv{r:List Int}{x:Int}(h:fst r x<r.length):x<r.getD (fst r x) 0:=by
 have:=A7 (p:=fun n=>decide (x<n)) h
 exact of_decide_eq_true this
theorem yh{r:List Int}{x:Int}{i:Nat}(h:i<fst r x):r.getD i 0≤x:=by
 have h1:i<r.length:=Nat.lt_of_lt_of_le h xZ
 have h2:=List.not_of_lt_findIdx h
 rw[ao h1]
 exact Int.not_lt.1 (of_decide_eq_false h2)
theorem im(r:List Int)(rs:List (List Int))(x:Int):bJ (r::rs) x=if fst r x<r.length then(r.set (fst r x) x::(bJ rs (r.getD (fst r x) 0)).1,(bJ rs (r.getD (fst r x) 0)).2+1)else((r++ [x])::rs,0):=rfl
def Over(r:List Int):List (List Int)→Prop
 | []=>True
 |s::_=>s.length≤r.length∧ ∀q,q<s.length→r.getD q 0<s.getD q 0
def SSR:List (List Int)→Prop
 | []=>True
 |r::rs=>0<r.length∧mJ r∧Over r rs∧SSR rs
theorem fH{r:List Int}{i:Nat}(x:Int)(h:i<r.length)(q:Nat):(r.set i x).getD q 0=if q=i then x else r.getD q 0:=by
 by_cases e:q=i
 ·subst e;rw[if_pos rfl,ao (by rw[List.length_set];exact h),List.getElem_set_self]
 ·rw[if_neg e,getD_set_ne (Ne.symm e)]
theorem eB{r:List Int}(x:Int)(q:Nat):(r++ [x]).getD q 0=if q=r.length then x else r.getD q 0:=by
 by_cases h:q<r.length
 ·rw[sx h,if_neg (by omega)]
 ·rw[rE (by omega)]
  by_cases e:q=r.length
  ·rw[if_pos e,e,Nat.sub_self];rfl
  ·rw[if_neg e,aY (by simp;omega),aY (by omega)]
theorem Ge{r:List Int}{x:Int}(h:mJ r)(hf:fst r x<r.length):mJ (r.set (fst r x) x):=by
 intro i hi
 rw[List.length_set]at hi
 rw[fH x hf,fH x hf]
 have h0:=h i hi
 by_cases e1:i=fst r x
 ·rw[if_pos e1,if_neg (by omega)]
  have:=Fv hf
  rw[←e1]at this
  omega
 ·rw[if_neg e1]
  by_cases e2:i+1=fst r x
  ·rw[if_pos e2];exact yh (by omega)
  ·rw[if_neg e2];exact h0
theorem F4{r:List Int}{x:Int}(h:mJ r)(hf: ¬fst r x<r.length):mJ (r++ [x]):=by
 intro i hi
 rw[List.length_append,List.length_singleton]at hi
 rw[eB,eB,if_neg (by omega)]
 by_cases e:i+1=r.length
 ·rw[if_pos e]
  have:= @xZ r x
  exact yh (by omega)
 ·rw[if_neg e];exact h i (by omega)
theorem En{r:List Int}{x:Int}{rs:List (List Int)}(h:mJ r)(hf:fst r x<r.length)(ho:Over r rs):Over (r.set (fst r x) x) (bJ rs (r.getD (fst r x) 0)).1:=by
 have hy:=Fv hf
 have hle: ∀q,q<r.length→(r.set (fst r x) x).getD q 0≤r.getD q 0:=fun q hq=>by
  rw[fH x hf]
  split
  ·next e=>rw[e];omega
  ·exact Int.le_refl _
 have hlow: ∀p,p≤fst r x→(r.set (fst r x) x).getD p 0<r.getD (fst r x) 0:=fun p hp=>by
  rw[fH x hf]
  split
  ·exact hy
  ·have:=yh (r:=r) (x:=x) (i:=p) (by omega)
   omega
 cases rs with
 |nil=>
  show([r.getD (fst r x) 0]:List Int).length≤_∧_
  refine⟨by rw[List.length_set];simp;omega,fun q hq=> ?_⟩
  have e:q=0:=by simp at hq;exact hq
  subst e
  exact hlow 0 (by omega)
 |cons s rs=>
  obtain⟨o1,o2⟩:=ho
  have hp:fst s (r.getD (fst r x) 0)≤fst r x:=by
   refine Nat.le_of_not_lt fun hlt=> ?_
   have hs:fst r x<s.length:=Nat.lt_of_lt_of_le hlt xZ
   have a:=yh hlt
   have b:=o2 _ hs
   omega
  rw[im]
  by_cases c:fst s (r.getD (fst r x) 0)<s.length
  ·rw[if_pos c]
   refine⟨by rw[List.length_set,List.length_set];exact o1,fun q hq=> ?_⟩
   rw[List.length_set]at hq
   rw[fH (r:=s) _ c]
   split
   ·next e=>rw[e];exact hlow _ hp
   ·have a:=hle q (by omega)
    have b:=o2 q hq
    omega
  ·rw[if_neg c]
   have hsl:fst s (r.getD (fst r x) 0)=s.length:=Nat.le_antisymm xZ (Nat.le_of_not_lt c)
   refine⟨by rw[List.length_set,List.length_append,List.length_singleton];omega,fun q hq=> ?_⟩
   rw[List.length_append,List.length_singleton]at hq
   rw[eB]
   split
   ·next e=>rw[e];exact hlow _ (by omega)
   ·have a:=hle q (by omega)
    have b:=o2 q (by omega)
    omega
theorem Cy: ∀(rs:List (List Int)) (x:Int),SSR rs→SSR (bJ rs x).1
 | [],x,_=>⟨by simp,fun i hi=>by simp at hi,trivial,trivial⟩
 |r::rs,x,h=>by
  obtain⟨h1,h2,h3,h4⟩:=h
  rw[im]
  split
  ·next c=>exact⟨by rw[List.length_set];exact h1,Ge h2 c,En h2 c h3,Cy rs _ h4⟩
  ·next c=>
   refine⟨by simp,F4 h2 c,?_,h4⟩
   cases rs with
   |nil=>trivial
   |cons s rs=>
    obtain⟨o1,o2⟩:=h3
    refine⟨by rw[List.length_append];omega,fun q hq=> ?_⟩
    rw[eB,if_neg (by omega)]
    exact o2 q hq
end Go.Am.Pu
end
section
/- Plain tableaux, row by row; a tableau from its word; words inserted. Plain words. -/
namespace Go.Am.Pu
theorem ym: ∀{rs:List (List Int)},SSR rs→ ∀r,r<rs.length→0<(rs.getD r []).length∧mJ (rs.getD r [])
 |r::rs,h,0,_=>⟨h.1,h.2.1⟩
 |r::rs,h,q+1,hq=>ym h.2.2.2 q (by simpa using hq)
theorem xV: ∀{rs:List (List Int)},SSR rs→rq rs
 | [],_,i,hi=>by simp at hi
 | [r],_,i,hi=>by simp at hi
 |r::s::rs,h,0,_=>h.2.2.1
 |r::s::rs,h,i+1,hi=>xV h.2.2.2 i (by simpa using hi)
theorem w7: ∀{rs:List (List Int)},(∀r,r<rs.length→0<(rs.getD r []).length∧mJ (rs.getD r []))→rq rs→SSR rs
 | [],_,_=>trivial
 |r::rs,h1,h2=>by
  refine⟨(h1 0 (by simp)).1,(h1 0 (by simp)).2,?_,w7 (fun q hq=>h1 (q+1) (by simpa using hq)) (fun i hi=>h2 (i+1) (by simpa using hi))⟩
  cases rs with
  |nil=>trivial
  |cons s rs=>exact h2 0 (by simp)
theorem o8(rs:List (List Int)){i:Nat}(h:i<rs.length):(outer (([],rs):Tab)).getD i 0=(rs.getD i []).length:=by
 have:=eP [] rs 0 i h
 unfold outer
 rw[this]
 simp
theorem xT{rs:List (List Int)}(h:SSR rs)(hn: ∀x∈rs.flatten,1≤x∧x≤9)(h9:rs.flatten.length≤9):bW (([],rs):Tab)=true:=by
 have hr:=fun r hr=>ym h r hr
 have hc:=xV h
 have hrl: ∀r,r<rs.length→(rs.getD r []).length≤9:=fun r h1=>by
  have:=uL (rs:=rs) (r:=rs.getD r []) (by rw[ao h1];exact List.getElem_mem h1)
  omega
 refine sN rfl ?_ (fun r x h1 h2=>hn _ (lE h1 h2)) (fun r x h1 h2=>(hr r h1).2 x h2) (fun r x h1 h2=>(hc r h1).2 x h2)
 have hs:aM (outer (([],rs):Tab))=rs.flatten.length:=pf [] rs 0 fun q _=>by simp
 refine kH _ 9 0 (fun x hx=> ?_) (fun h0=> ?_) (fun i hi=> ?_) (by omega)
 ·obtain⟨i,hi,rfl⟩:=List.getElem_of_mem hx
  have hi':i<rs.length:=by rw[cy]at hi;exact hi
  rw[←ao hi 0,o8 rs hi']
  have:=(hr i hi').1
  omega
 ·have h0':0<rs.length:=by rw[cy]at h0;exact h0
  rw[o8 rs h0']
  have:=hrl 0 h0'
  omega
 ·have hi':i+1<rs.length:=by rw[cy]at hi;exact hi
  rw[o8 rs hi',o8 rs (by omega)]
  have:=(hc i hi').1
  omega
theorem CW: ∀(rs:List (List Int)) (x z:Int),z∈(bJ rs x).1.flatten→z=x∨z∈rs.flatten
 | [],x,z,h=>by simp[bJ]at h;exact .inl h
 |r::rs,x,z,h=>by
  rw[im]at h
  split at h
  ·next c=>
   simp only[List.flatten_cons,List.mem_append]at h⊢
   rcases h with h|h
   ·rcases List.mem_or_eq_of_mem_set h with h|h
    ·exact .inr (.inl h)
    ·exact .inl h
   ·rcases CW rs _ z h with h|h
    ·right;left
     rw[h,ao c]
     exact List.getElem_mem c
    ·exact .inr (.inr h)
  ·simp only[List.flatten_cons,List.mem_append,List.mem_singleton]at h⊢
   rcases h with(h|h)|h
   ·exact .inr (.inl h)
   ·exact .inl h
   ·exact .inr (.inr h)
theorem y7: ∀(rs:List (List Int)) (x:Int),(bJ rs x).1.flatten.length=rs.flatten.length+1
 | [],x=>by simp[bJ]
 |r::rs,x=>by
  rw[im]
  split
  ·have:=y7 rs (r.getD (fst r x) 0)
   simp only[List.flatten_cons,List.length_append,List.length_set]
   omega
  ·simp only[List.flatten_cons,List.length_append,List.length_singleton]
   omega
theorem CU: ∀(rs:List (List Int)) (x:Int),(bJ rs x).2≤rs.length∧((bJ rs x).1.length=if(bJ rs x).2=rs.length then rs.length+1 else rs.length)∧ ∀i,((bJ rs x).1.getD i []).length=if i=(bJ rs x).2 then(rs.getD i []).length+1 else(rs.getD i []).length
 | [],x=>by
  refine⟨Nat.le_refl _,rfl,fun i=> ?_⟩
  cases i with
  |zero=>rfl
  |succ i=>simp[bJ]
 |r::rs,x=>by
  rw[im]
  split
  ·next c=>
   obtain⟨a,b,d⟩:=CU rs (r.getD (fst r x) 0)
   refine⟨by simp only[List.length_cons];omega,?_,fun i=> ?_⟩
   ·simp only[List.length_cons,b,Nat.add_right_cancel_iff]
    split<;>rfl
   ·cases i with
    |zero=>simp
    |succ i=>
     have:=d i
     simp only[Nat.add_right_cancel_iff]
     exact this
  ·refine⟨Nat.zero_le _,by simp,fun i=> ?_⟩
   cases i with
   |zero=>simp
   |succ i=>simp
def mo:List Int→List (List Int)→List (List Int)
 | [],P=>P
 |x::w,P=>mo w (bJ P x).1
theorem mz: ∀(v w:List Int) (P:List (List Int)),mo (v++w) P=mo w (mo v P)
 | [],_,_=>rfl
 |x::v,w,P=>mz v w _
end Go.Am.Pu
end
section
/- The recording tableau is standard, and its descents are the word's. Plain words. -/
namespace Go.Am.Pu
def j6(Q:List (List Int))(a:Nat)(v:Int):List (List Int):=if a=Q.length then Q++ [[v]]else Q.set a (Q.getD a []++ [v])
theorem xE{Q:List (List Int)}{a:Nat}(v:Int)(ha:a≤Q.length)(i:Nat):(j6 Q a v).getD i []=if i=a then Q.getD a []++ [v]else Q.getD i []:=by
 unfold j6
 by_cases e:a=Q.length
 ·rw[if_pos e]
  by_cases h:i<Q.length
  ·rw[if_neg (by omega)]
   simp only[List.getD_eq_getElem?_getD,List.getElem?_append_left h]
  ·by_cases e2:i=a
   ·rw[if_pos e2,e2,e,aY (xs:=Q) (Nat.le_refl _)]
    simp
   ·rw[if_neg e2,aY (xs:=Q) (by omega),aY (by rw[List.length_append,List.length_singleton];omega)]
 ·rw[if_neg e]
  by_cases e2:i=a
  ·subst e2;rw[if_pos rfl,ao (by rw[List.length_set];omega),List.getElem_set_self]
  ·rw[if_neg e2,getD_set_ne (Ne.symm e2)]
theorem o6{Q:List (List Int)}{a:Nat}(v:Int):(j6 Q a v).length=if a=Q.length then Q.length+1 else Q.length:=by
 unfold j6
 split
 ·rw[List.length_append,List.length_singleton]
 ·rw[List.length_set]
theorem BV{Q:List (List Int)}{a:Nat}(v:Int)(ha:a≤Q.length):(j6 Q a v).flatten.length=Q.flatten.length+1:=by
 unfold j6
 split
 ·simp
 ·next e=>
  have: ∀(Q:List (List Int)) (a:Nat),a<Q.length→(Q.set a (Q.getD a []++ [v])).flatten.length=Q.flatten.length+1:=by
   intro Q
   induction Q with
   |nil=>intro a h;simp at h
   |cons r rs ih=>
    intro a h
    cases a with
    |zero=>simp;omega
    |succ a=>
     have:=ih a (by simpa using h)
     simp only[List.set_cons_succ,List.getD_cons_succ,List.flatten_cons,List.length_append,this]
     omega
  exact this Q a (by omega)
theorem Gd{Q P:List (List Int)}{a k:Nat}(hp:bW (([],Q):Tab)=true)(hs:iw (([],Q):Tab)=true)(hk:Q.flatten.length=k)(h9:k+1≤9)(hP:SSR P)(ha:a≤Q.length)(hPl:P.length=if a=Q.length then Q.length+1 else Q.length)
  (hl: ∀i,(P.getD i []).length=if i=a then(Q.getD i []).length+1 else(Q.getD i []).length):
  bW (([],j6 Q a ((k+1:Nat):Int)):Tab)=true∧iw (([],j6 Q a ((k+1:Nat):Int)):Tab)=true∧(j6 Q a ((k+1:Nat):Int)).flatten.length=k+1∧eI P (j6 Q a ((k+1:Nat):Int))∧
   rowOf ([],j6 Q a ((k+1:Nat):Int)) ((k+1:Nat):Int)=a∧ ∀v,1≤v→v≤(k:Int)→rowOf ([],j6 Q a ((k+1:Nat):Int)) v=rowOf ([],Q) v:=by
 have hget:=xE ((k+1:Nat):Int) ha
 have hlen:= @o6 Q a ((k+1:Nat):Int)
 have hfl:=BV ((k+1:Nat):Int) ha
 generalize hN:j6 Q a ((k+1:Nat):Int)=N at*
 have hNl: ∀i,(N.getD i []).length=if i=a then(Q.getD i []).length+1 else(Q.getD i []).length:=fun i=>by
  rw[hget]
  split
  ·next e=>rw[e,List.length_append,List.length_singleton]
  ·rfl
 have hsame:eI P N:=⟨by rw[hPl,hlen],fun i=>by rw[hl,hNl]⟩
 have hcel: ∀r x,cel N r x=if r=a∧x=(Q.getD a []).length then((k+1:Nat):Int)else cel Q r x:=fun r x=>by
  unfold cel
  rw[hget]
  by_cases e:r=a
  ·subst e
   rw[if_pos rfl,eB]
   by_cases e2:x=(Q.getD r []).length
   ·rw[if_pos e2,if_pos ⟨rfl,e2⟩]
   ·rw[if_neg e2,if_neg (fun h=>e2 h.2)]
  ·rw[if_neg e,if_neg (fun h=>e h.1)]
 have hb:=(nx hp hs).2
 simp only at hb
 rw[hk]at hb
 have hQ: ∀{r x:Nat},x<(Q.getD r []).length→1≤cel Q r x∧cel Q r x≤(k:Int):=fun{r x} hx=>by
  have hr:r<Q.length:=Nat.lt_of_not_le fun hle=>by rw[aY hle]at hx;simp at hx
  exact hb _ (lE hr hx)
 obtain⟨q1,q2⟩:=nR hp
 have q3:=qq hp
 simp only at q2 q3
 have pc:=xV hP
 have pr:=fun r hr=>ym hP r hr
 have hqlen: ∀i,(Q.getD (i+1) []).length≤(Q.getD i []).length:=fun i=>by
  by_cases h:i+1<Q.length
  ·exact(q3 i h).1
  ·rw[aY (by omega)];exact Nat.zero_le _
 have hssr:SSR N:=by
  refine w7 (fun r hr=>⟨?_,fun x hx=> ?_⟩) (fun i hi=> ?_)
  ·rw[←hsame.2];exact(pr r (by rw[hsame.1];exact hr)).1
  ·have e1:=hcel r x
   have e2:=hcel r (x+1)
   unfold cel at e1 e2
   rw[e1,e2]
   rw[hNl]at hx
   have hxQ:x<(Q.getD r []).length:=by
    split at hx<;>omega
   rw[if_neg (fun h=>by rw[h.1]at hxQ;omega)]
   have hv:=hQ hxQ
   unfold cel at hv
   by_cases e:r=a∧x+1=(Q.getD a []).length
   ·rw[if_pos e];omega
   ·rw[if_neg e]
    have hx1:x+1<(Q.getD r []).length:=by
     split at hx
     ·next e3=>
      have: ¬x+1=(Q.getD a []).length:=fun h=>e ⟨e3,h⟩
      rw[←e3]at this
      omega
     ·exact hx
    have hr:r<Q.length:=Nat.lt_of_not_le fun hle=>by rw[aY hle]at hx1;simp at hx1
    exact q2 r x hr hx1
  ·obtain⟨c1,c2⟩:=pc i (by rw[hsame.1];exact hi)
   rw[hsame.2,hsame.2]at c1
   refine⟨c1,fun x hx=> ?_⟩
   have e1:=hcel i x
   have e2:=hcel (i+1) x
   unfold cel at e1 e2
   rw[e1,e2]
   rw[hNl]at hx
   have hxi:x<(N.getD i []).length:=by
    have:=hNl (i+1)
    omega
   rw[hNl]at hxi
   by_cases e:i+1=a∧x=(Q.getD a []).length
   ·rw[if_pos e,if_neg (fun h=>by omega)]
    have hxQ:x<(Q.getD i []).length:=by rw[if_neg (by omega)]at hxi;exact hxi
    have hv:=hQ hxQ
    unfold cel at hv
    omega
   ·rw[if_neg e]
    have hx1:x<(Q.getD (i+1) []).length:=by
     split at hx
     ·next e3=>
      have: ¬x=(Q.getD a []).length:=fun h=>e ⟨e3,h⟩
      rw[←e3]at this
      omega
     ·exact hx
    have hxQ:x<(Q.getD i []).length:=Nat.lt_of_lt_of_le hx1 (hqlen i)
    rw[if_neg (fun h=>by rw[h.1]at hxQ;omega)]
    have hr:i+1<Q.length:=Nat.lt_of_not_le fun hle=>by rw[aY hle]at hx1;simp at hx1
    exact(q3 i hr).2 x hx1
 have hflk:N.flatten.length=k+1:=by omega
 have hmem: ∀z∈N.flatten,1≤z∧z≤9:=fun z hz=>by
  obtain⟨r,x,hr,hx,e⟩:=qE hz
  rw[←e,hcel]
  split
  ·omega
  ·next hc=>
   rw[hNl]at hx
   have hxQ:x<(Q.getD r []).length:=by
    split at hx
    ·next e3=>
     have: ¬x=(Q.getD a []).length:=fun h=>hc ⟨e3,h⟩
     rw[←e3]at this
     omega
    ·exact hx
   have:=hQ hxQ
   omega
 have hpl:=xT hssr hmem (by omega)
 have haN:a<N.length:=by
  rw[hlen]
  split<;>omega
 have hxN:(Q.getD a []).length<(N.getD a []).length:=by rw[hNl,if_pos rfl];omega
 have hnew:cel N a (Q.getD a []).length=((k+1:Nat):Int):=by rw[hcel,if_pos ⟨rfl,rfl⟩]
 have hold: ∀{r x:Nat},x<(Q.getD r []).length→r<N.length∧x<(N.getD r []).length∧cel N r x=cel Q r x:=fun{r x} hx=>by
  have hx':x<(N.getD r []).length:=by
   rw[hNl]
   split<;>omega
  refine⟨Nat.lt_of_not_le fun hle=>by rw[aY hle]at hx';simp at hx',hx',?_⟩
  rw[hcel,if_neg (fun h=>by rw[h.1]at hx;omega)]
 have ho:lT Q.flatten=true:=by
  have:=hs
  simp only[iw,Bool.and_eq_true]at this
  exact this.2
 have hst:iw (([],N):Tab)=true:=by
  have hp':=hpl
  simp only[bW,Bool.and_eq_true]at hp'
  simp only[iw,Bool.and_eq_true]
  refine⟨hp'.1,lu.2 fun v hv=> ?_⟩
  rw[hflk,iG]at hv
  by_cases e:v=((k+1:Nat):Int)
  ·rw[e,←hnew];exact lE haN hxN
  ·obtain⟨r,x,hr,hx,e2⟩:=qE (lu.1 ho v (iG.2 (by omega)))
   obtain⟨d1,d2,d3⟩:=hold hx
   rw[←e2,←d3]
   exact lE d1 d2
 refine⟨hpl,hst,hflk,hsame,jO hpl hst haN hxN hnew,fun v v1 v2=> ?_⟩
 obtain⟨r,x,hr,hx,e2⟩:=qE (lu.1 ho v (iG.2 (by omega)))
 obtain⟨d1,d2,d3⟩:=hold hx
 rw[jO hpl hst d1 d2 (by rw[d3];exact e2),jO hp hs hr hx e2]
def pV:List Int→List (List Int)→List (List Int)→Nat→List (List Int)
 | [],_,Q,_=>Q
 |x::w,P,Q,k=>pV w (bJ P x).1 (j6 Q (bJ P x).2 ((k+1:Nat):Int)) (k+1)
def Cb:List Int→List (List Int)→List Nat
 | [],_=> []
 |x::w,P=>(bJ P x).2::Cb w (bJ P x).1
structure Ins (P Q : List (List Int)) (k : Nat) : Prop where
  ssr : SSR P
  num : ∀ x ∈ P.flatten, 1 ≤ x ∧ x ≤ 9
  fl : P.flatten.length = k
  pl : bW (([], Q) : Tab) = true
  st : iw (([], Q) : Tab) = true
  qf : Q.flatten.length = k
  same : eI P Q
theorem Ins.step{P Q:List (List Int)}{k:Nat}{x:Int}(h:Ins P Q k)(hx:1≤x∧x≤9)(h9:k+1≤9):
  Ins (bJ P x).1 (j6 Q (bJ P x).2 ((k+1:Nat):Int)) (k+1)∧rowOf ([],j6 Q (bJ P x).2 ((k+1:Nat):Int)) ((k+1:Nat):Int)=((bJ P x).2:Nat)∧ ∀v,1≤v→v≤(k:Int)→rowOf ([],j6 Q (bJ P x).2 ((k+1:Nat):Int)) v=rowOf ([],Q) v:=by
 obtain⟨a,b,c⟩:=CU P x
 have hs:=Cy P x h.ssr
 obtain⟨d1,d2,d3,d4,d5,d6⟩:=Gd (a:=(bJ P x).2) h.pl h.st h.qf h9 hs (by rw[←h.same.1];exact a) (by rw[←h.same.1];exact b) (fun i=>by rw[←h.same.2];exact c i)
 refine⟨⟨hs,fun z hz=> ?_,by rw[y7,h.fl],d1,d2,d3,d4⟩,d5,d6⟩
 rcases CW P x z hz with e|e
 ·rw[e];exact hx
 ·exact h.num z e
theorem Ins.nil:Ins [] [] 0:=⟨trivial,fun x hx=>by simp at hx,rfl,rfl,rfl,rfl,⟨rfl,fun _=>rfl⟩⟩
theorem Ins.word: ∀(w:List Int) {P Q:List (List Int)} {k:Nat},Ins P Q k→(∀x∈w,1≤x∧x≤9)→k+w.length≤9→
  Ins (mo w P) (pV w P Q k) (k+w.length)∧(∀v,1≤v→v≤(k:Int)→rowOf ([],pV w P Q k) v=rowOf ([],Q) v)∧ ∀i,i<w.length→rowOf ([],pV w P Q k) ((k+i+1:Nat):Int)=((Cb w P).getD i 0:Nat)
 | [],P,Q,k,h,_,_=>⟨h,fun _ _ _=>rfl,fun i hi=>by simp at hi⟩
 |x::w,P,Q,k,h,hx,hl=>by
  simp only[List.length_cons]at hl
  obtain⟨a,b,c⟩:=h.step (hx x (List.mem_cons_self ..)) (by omega)
  obtain⟨d,e,f⟩:=Ins.word w a (fun z hz=>hx z (List.mem_cons_of_mem _ hz)) (by omega)
  refine⟨by rw[List.length_cons,show k+(w.length+1)=k+1+w.length by omega];exact d,fun v v1 v2=> ?_,fun i hi=> ?_⟩
  ·show rowOf ([],pV w _ _ (k+1)) v=_
   rw[e v v1 (by omega)]
   exact c v v1 v2
  ·show rowOf ([],pV w _ _ (k+1)) _=_
   cases i with
   |zero=>
    have:=e ((k+1:Nat):Int) (by omega) (Int.le_refl _)
    rw[Nat.add_zero,this,b]
    rfl
   |succ i=>
    have:=f i (by simpa using hi)
    rw[show k+1+i+1=k+(i+1)+1 by omega]at this
    exact this
end Go.Am.Pu
end
section
/- Words, and what inserting makes of them. Plain words. -/
namespace Go.Am.Pu
def isWord(w:List Int):Bool:=decide (w.length≤9)&&w.all fun n=>within n 1 9
theorem zr{w:List Int}(h:isWord w=true):w.length≤9∧ ∀x∈w,1≤x∧x≤9:=by
 simp only[isWord,Bool.and_eq_true,decide_eq_true_eq,List.all_eq_true,within]at h
 exact⟨h.1,fun x hx=>h.2 x hx⟩
def lb(w:List Int):Tab×Bool:=if isWord w=true then(([],pV w [] [] 0),true)else(([],[]),false)
theorem Av{w:List Int}(h:isWord w=true):Ins (mo w []) (pV w [] [] 0) w.length∧ ∀i,i<w.length→rowOf ([],pV w [] [] 0) ((i+1:Nat):Int)=((Cb w []).getD i 0:Nat):=by
 obtain⟨h1,h2⟩:=zr h
 obtain⟨a,_,c⟩:=Ins.word w Ins.nil h2 (by omega)
 rw[Nat.zero_add]at a
 refine⟨a,fun i hi=> ?_⟩
 have:=c i hi
 rw[Nat.zero_add]at this
 exact this
theorem vF{w:List Int}(h:isWord w=true):bW (lb w).1=true∧iw (lb w).1=true∧(lb w).1.2.flatten.length=w.length:=by
 unfold lb
 rw[if_pos h]
 have a:=(Av h).1
 exact⟨a.pl,a.st,a.qf⟩
end Go.Am.Pu
end
section
/- Standardizing a tableau: the cells numbered by number and column. Plain words. -/
namespace Go.Am.Pu
def iE(Q:List (List Int))(v:Int)(c r:Nat)(s:Nat×List (List Int)):Nat×List (List Int):=
 if c<(Q.getD r []).length∧cel Q r c=v then(s.1+1,kA s.2 r c ((s.1+1:Nat):Int))else s
structure Num (Q : List (List Int)) (D : Nat → Nat → Prop) (s : Nat × List (List Int)) (F : List Int) : Prop where
  same : eI s.2 Q
  len : F.length = s.1
  val : ∀ r x, r < Q.length → x < (Q.getD r []).length → D r x → ∃ k, k < s.1 ∧ cel s.2 r x = ((k + 1 : Nat) : Int) ∧ F.getD k 0 = cel Q r x
  inj : ∀ r x r' x', r < Q.length → x < (Q.getD r []).length → D r x → r' < Q.length → x' < (Q.getD r' []).length → D r' x' → cel s.2 r x = cel s.2 r' x' → r = r' ∧ x = x'
  all : ∀ k, k < s.1 → ∃ r x, r < Q.length ∧ x < (Q.getD r []).length ∧ D r x ∧ cel s.2 r x = ((k + 1 : Nat) : Int)
  lex : ∀ r x r' x', r < Q.length → x < (Q.getD r []).length → D r x → r' < Q.length → x' < (Q.getD r' []).length → D r' x' → cel s.2 r x < cel s.2 r' x' → cel Q r x < cel Q r' x' ∨ (cel Q r x = cel Q r' x' ∧ x ≤ x')
theorem Num.congr{Q:List (List Int)}{D D':Nat→Nat→Prop}{s:Nat×List (List Int)}{F:List Int}(h:Num Q D s F)(e: ∀r x,r<Q.length→x<(Q.getD r []).length→(D r x↔D' r x)):Num Q D' s F:=
 ⟨h.same,h.len,fun r x a b d=>h.val r x a b ((e r x a b).2 d),fun r x r' x' a b d a' b' d'=>h.inj r x r' x' a b ((e r x a b).2 d) a' b' ((e r' x' a' b').2 d'),
  fun k hk=>by obtain⟨r,x,a,b,d,q⟩:=h.all k hk;exact⟨r,x,a,b,(e r x a b).1 d,q⟩,fun r x r' x' a b d a' b' d'=>h.lex r x r' x' a b ((e r x a b).2 d) a' b' ((e r' x' a' b').2 d')⟩
def Dn(Q:List (List Int))(v:Int)(c r:Nat)(a i:Nat):Prop:=cel Q a i<v∨(cel Q a i=v∧(i<c∨(i=c∧a<r)))
theorem Num.step{Q:List (List Int)}{v:Int}{c r:Nat}{s:Nat×List (List Int)}{F:List Int}(h:Num Q (Dn Q v c r) s F)(hr:r<Q.length): ∃F',Num Q (Dn Q v c (r+1)) (iE Q v c r s) F':=by
 unfold iE
 split
 ·next hc=>
  obtain⟨hc,hv⟩:=hc
  have hnd: ¬Dn Q v c r r c:=by unfold Dn;omega
  have hsr:r<s.2.length:=by rw[h.same.1];exact hr
  have hsc:c<(s.2.getD r []).length:=by rw[h.same.2];exact hc
  have new: ∀a i,Dn Q v c (r+1) a i→(a=r∧i=c)∨(¬(a=r∧i=c)∧Dn Q v c r a i):=fun a i d=>by
   by_cases e:a=r∧i=c
   ·exact .inl e
   ·refine .inr ⟨e,?_⟩
    unfold Dn at d⊢
    omega
  have at1:=jY (g:=s.2) (r:=r) (c:=c) ((s.1+1:Nat):Int) hsr hsc
  have ne1: ∀a i,¬(a=r∧i=c)→cel (kA s.2 r c ((s.1+1:Nat):Int)) a i=cel s.2 a i:=fun a i e=>iN _ e
  refine⟨F++ [v],⟨⟨by rw[iI];exact h.same.1,fun i=>by rw[bB];exact h.same.2 i⟩,by rw[List.length_append,List.length_singleton,h.len],?_,?_,?_,?_⟩⟩
  ·intro a i ha hi d
   rcases new a i d with⟨rfl,rfl⟩|⟨e,d'⟩
   ·refine⟨s.1,by simp only;omega,at1,?_⟩
    rw[hv,←h.len,List.getD_eq_getElem?_getD]
    simp
   ·obtain⟨k,k1,k2,k3⟩:=h.val a i ha hi d'
    refine⟨k,by simp only;omega,by rw[ne1 a i e];exact k2,?_⟩
    rw[←k3,List.getD_eq_getElem?_getD,List.getD_eq_getElem?_getD,List.getElem?_append_left (by rw[h.len];exact k1)]
  ·intro a i b j ha hi d hb hj d' e
   rcases new a i d with⟨rfl,rfl⟩|⟨ea,da⟩
   ·rcases new b j d' with⟨rfl,rfl⟩|⟨eb,db⟩
    ·exact⟨rfl,rfl⟩
    ·obtain⟨k,k1,k2,_⟩:=h.val b j hb hj db
     simp only at e
     rw[at1,ne1 b j eb,k2]at e
     omega
   ·rcases new b j d' with⟨rfl,rfl⟩|⟨eb,db⟩
    ·obtain⟨k,k1,k2,_⟩:=h.val a i ha hi da
     simp only at e
     rw[at1,ne1 a i ea,k2]at e
     omega
    ·simp only at e
     rw[ne1 a i ea,ne1 b j eb]at e
     exact h.inj a i b j ha hi da hb hj db e
  ·intro k hk
   simp only at hk
   by_cases ek:k=s.1
   ·subst ek
    exact⟨r,c,hr,hc,by unfold Dn;omega,at1⟩
   ·obtain⟨a,i,ha,hi,d,e⟩:=h.all k (by omega)
    have hne: ¬(a=r∧i=c):=fun q=>by rw[q.1,q.2]at d;exact hnd d
    exact⟨a,i,ha,hi,by unfold Dn at d⊢;omega,by simp only;rw[ne1 a i hne];exact e⟩
  ·intro a i b j ha hi d hb hj d' e
   simp only at e
   rcases new a i d with⟨rfl,rfl⟩|⟨ea,da⟩
   ·rcases new b j d' with⟨rfl,rfl⟩|⟨eb,db⟩
    ·omega
    ·obtain⟨k,k1,k2,_⟩:=h.val b j hb hj db
     rw[at1,ne1 b j eb,k2]at e
     omega
   ·rcases new b j d' with⟨rfl,rfl⟩|⟨eb,db⟩
    ·unfold Dn at da
     omega
    ·rw[ne1 a i ea,ne1 b j eb]at e
     exact h.lex a i b j ha hi da hb hj db e
 ·next hc=>
  refine⟨F,h.congr fun a i ha hi=> ?_⟩
  unfold Dn
  constructor
  ·intro d;omega
  ·intro d
   by_cases e:a=r∧i=c
   ·obtain⟨rfl,rfl⟩:=e
    have:cel Q a i≠v:=fun q=>hc ⟨hi,q⟩
    omega
   ·omega
structure xf (Q X : List (List Int)) (f : Int → Int) : Prop where
  same : eI X Q
  val : ∀ r x, r < X.length → x < (X.getD r []).length → cel Q r x = f (cel X r x)
  lex : ∀ r x r' x', r < X.length → x < (X.getD r []).length → r' < X.length → x' < (X.getD r' []).length → cel X r x < cel X r' x' → cel Q r x < cel Q r' x' ∨ (cel Q r x = cel Q r' x' ∧ x < x')
end Go.Am.Pu
end
section
/- A pair of tableaux unrolled, the second one semistandard; sorting; the matrix of a pair. Plain words. -/
namespace Go.Am.Pu
def Bi(R:Int→Prop)(rs:List (List Int)):Prop:= ∀r∈rs,∀v∈r,R v
theorem Bi.at{R:Int→Prop}{rs:List (List Int)}(h:Bi R rs){r x:Nat}(hr:r<rs.length)(hx:x<(rs.getD r []).length):R ((rs.getD r []).getD x 0):=by
 rw[ao hx]
 exact h (rs.getD r []) (by rw[ao hr];exact List.getElem_mem hr) _ (List.getElem_mem hx)
theorem Bi.set{R:Int→Prop}{rs:List (List Int)}(h:Bi R rs)(i:Nat){r:List Int}(hr: ∀v∈r,R v):Bi R (rs.set i r):=fun y hy=>by
 rcases List.mem_or_eq_of_mem_set hy with h'|rfl
 ·exact h y h'
 ·exact hr
theorem Bi.row{R:Int→Prop}{rs:List (List Int)}(h:Bi R rs)(i:Nat): ∀v∈rs.getD i [],R v:=by
 by_cases hi:i<rs.length
 ·exact h _ (by rw[ao hi];exact List.getElem_mem hi)
 ·rw[aY (by omega)];simp
theorem Unr.top{q:Tab}{m:Nat}{P X:List (List Int)}(h:Unr q (m+1) P X){a:Nat}(ha:a<X.length)(htop:cel X a ((X.getD a []).length-1)=((m+1:Nat):Int)):
  (∀r,r<X.length→1≤(X.getD r []).length)∧(∀r,r<X.length→r≠a→cel X r ((X.getD r []).length-1)<((m+1:Nat):Int)):=by
 have hp:=fun r hr=>CE h.pl (r:=r) hr
 refine⟨hp,fun r hr hne=> ?_⟩
 have h1:=hp r hr
 have h2:=hp a ha
 simp only at h1 h2
 have hb:=((nx h.pl h.st).2 _ (lE (rs:=X) hr (show(X.getD r []).length-1<(X.getD r []).length by omega))).2
 have hf:=h.fl
 simp only at hb
 rw[hf]at hb
 have hx:cel X r ((X.getD r []).length-1)≠((m+1:Nat):Int):=fun e=>hne (wh h.pl h.st (a:=r) (b:=a) (x:=(X.getD r []).length-1) (y:=(X.getD a []).length-1) hr (show _<(X.getD r []).length by omega) ha (show _<(X.getD a []).length by omega) (by rw[htop];exact e)).1
 omega
theorem D1{n m:Nat}{A B:List (List Int)}(h:eG n m A)(s:eI A B):eG n m B:=by
 refine⟨by rw[←s.1];exact h.1,fun x hx=> ?_⟩
 obtain⟨i,hi,rfl⟩:=List.getElem_of_mem hx
 have:=h.at i
 rw[s.2 i,ao hi]at this
 exact this
theorem xf.cut{Q X:List (List Int)}{f:Int→Int}(s:xf Q X f){a:Nat}(ha:a<X.length)(hc:(X.getD (a+1) []).length<(X.getD a []).length)(hp: ∀r,r<X.length→1≤(X.getD r []).length):xf (bY Q a) (bY X a) f:=by
 have hq: ∀r,r<Q.length→1≤(Q.getD r []).length:=fun r hr=>by rw[←s.same.2];exact hp r (by rw[s.same.1];exact hr)
 have rX:=pU ha hc hp
 have rQ:=pU (rs:=Q) (a:=a) (by rw[←s.same.1];exact ha) (by rw[←s.same.2,←s.same.2];exact hc) hq
 have old: ∀{r x},r<(bY X a).length→x<((bY X a).getD r []).length→r<X.length∧x<(X.getD r []).length∧cel (bY X a) r x=cel X r x∧cel (bY Q a) r x=cel Q r x:=fun{r x} hr hx=>by
  have hl:=vY (rs:=X) ha
  have hr':r<X.length:=by rw[hl]at hr;split at hr<;>omega
  have e1:=rX r
  have e2:=rQ r
  unfold cel
  by_cases e:r=a
  ·rw[if_pos e]at e1 e2
   rw[e1]at hx
   rw[List.length_take]at hx
   subst e
   refine⟨hr',by omega,by rw[e1,getD_take (by omega)],?_⟩
   rw[e2,getD_take (by have:=s.same.2 r;omega)]
  ·rw[if_neg e]at e1 e2
   rw[e1]at hx
   exact⟨hr',hx,by rw[e1],by rw[e2]⟩
 refine⟨AR s.same a,fun r x hr hx=> ?_,fun r x r' x' hr hx hr' hx' hlt=> ?_⟩
 ·obtain⟨o1,o2,o3,o4⟩:=old hr hx
  rw[o3,o4]
  exact s.val r x o1 o2
 ·obtain⟨o1,o2,o3,o4⟩:=old hr hx
  obtain⟨p1,p2,p3,p4⟩:=old hr' hx'
  rw[o3,p3]at hlt
  rw[o4,p4]
  exact s.lex r x r' x' o1 o2 p1 p2 hlt
theorem xf.step{q:Tab}{m:Nat}{P X Q:List (List Int)}{f:Int→Int}(s:xf Q X f)(h:Unr q (m+1) P X):
  ∃a:Nat,rowOf q ((m+1:Nat):Int)=a∧a<Q.length∧1≤(Q.getD a []).length∧(Q.getD a []).getD ((Q.getD a []).length-1) 0=f ((m+1:Nat):Int)∧(∀r,r<Q.length→1≤(Q.getD r []).length)∧
   (∀r,r<Q.length→r≠a→(Q.getD r []).getD ((Q.getD r []).length-1) 0<f ((m+1:Nat):Int)∨((Q.getD r []).getD ((Q.getD r []).length-1) 0=f ((m+1:Nat):Int)∧(Q.getD r []).length<(Q.getD a []).length))∧
   eG 9 9 Q∧a<P.length∧1≤(P.getD a []).length∧Unr q m (lL P a).1 (bY X a)∧xf (bY Q a) (bY X a) f:=by
 obtain⟨a,a1,a2,a3,a4,a5,a6⟩:=h.step
 obtain⟨t1,t2⟩:=h.top a2 a4
 have v0:=s.val a ((X.getD a []).length-1) a2 (by omega)
 rw[a4]at v0
 unfold cel at v0
 rw[s.same.2]at v0
 refine⟨a,a1,by rw[←s.same.1];exact a2,by rw[←s.same.2];exact a3,v0,fun r hr=>by rw[←s.same.2];exact t1 r (by rw[s.same.1];exact hr),fun r hr hne=> ?_,D1 (BZ h.pl) s.same,
  by rw[h.same.1];exact a2,by rw[h.same.2];exact a3,a6,s.cut a2 a5 t1⟩
 have hr':r<X.length:=by rw[s.same.1];exact hr
 have u1:=t1 r hr'
 have hl:=s.lex r ((X.getD r []).length-1) a ((X.getD a []).length-1) hr' (by omega) a2 (by omega) (by rw[a4];exact t2 r hr' hne)
 have v:=s.val a ((X.getD a []).length-1) a2 (by omega)
 rw[v,a4]at hl
 unfold cel at hl
 rw[s.same.2 r,s.same.2 a]at hl
 have e1:=s.same.2 r
 rcases hl with hl|hl
 ·exact .inl hl
 ·exact .inr ⟨hl.1,by omega⟩
def Gt:Int→List Int→Int
 |m,[]=>m
 |m,x::l=>Gt (max m x) l
structure HU (r c : Nat) (b : Int) (M : List (List Int)) : Prop where
  len : M.length = r
  row : ∀ i, i < r → (M.getD i []).length = c
  sm : ∀ x ∈ M, ∀ v ∈ x, 0 ≤ v ∧ v ≤ b
end Go.Am.Pu
end
section
/- Standardizing any tableau: its cells in the order of number and column. Plain words. -/
namespace Go.Am.Pu
def E0(t:Tab)(r:Nat):List (Int×Int×Int):=(List.range (t.2.getD r []).length).map fun x=>(cel t.2 r x,t.1.getD r 0+x,(r:Int))
def cellsOf(t:Tab):List (Int×Int×Int):=((List.range t.2.length).map (E0 t)).flatten
def KLt(a b:Int×Int×Int):Prop:=a.1<b.1∨(a.1=b.1∧a.2.1<b.2.1)
end Go.Am.Pu
end
section
/- Sorting cells by insertion, as the library does. Plain words. -/
namespace Go.Am.Pu
instance(a b:Int×Int×Int):Decidable (KLt a b):=by unfold KLt;infer_instance
end Go.Am.Pu
end
section
/- All standard tableaux of given rows, found by taking out the greatest number. Plain words. -/
namespace Go.Am.Pu
def gl(ls:List Nat)(a:Nat):List Nat:=if ls.getD a 0=1 then ls.take a else ls.set a (ls.getD a 0-1)
theorem Ej{α:Type}{d:α}{A B:List α}(hl:A.length=B.length)(h: ∀i,i<A.length→A.getD i d=B.getD i d):A=B:=by
 refine List.ext_getElem hl fun i h1 h2=> ?_
 have:=h i h1
 rw[ao h1,ao h2]at this
 exact this
end Go.Am.Pu
end
section
/- Promotion of a rectangle comes back after as many steps as there are cells (reckoned over all of them). Plain words. -/
namespace Go.Am.Pu
end Go.Am.Pu
end
section
/- The length of an orbit divides every number of steps that come back. Plain words. -/
namespace Go.Am.Pu
end Go.Am.Pu
end
section
/- Knuth's relations: insertion does not tell related words apart, and a row and a number are related to what an insertion makes of them. Plain words. -/
namespace Go.Am.Pu
abbrev Up(r:List Int):Prop:=r.Pairwise (· ≤ ·)
def ed:List Int→Int→List Int×List Int
 | [],x=>([x],[])
 |a::r,x=>if x<a then(x::r,[a])else(a::(ed r x).1,(ed r x).2)
theorem eA{a x:Int}{r:List Int}(h:x<a):ed (a::r) x=(x::r,[a]):=by unfold ed;rw[if_pos h]
theorem dM{a x:Int}{r:List Int}(h:a≤x):ed (a::r) x=(a::(ed r x).1,(ed r x).2):=by
 conv=>lhs;unfold ed
 rw[if_neg (by omega)]
theorem uI: ∀(r:List Int) (x z:Int),z∈(ed r x).1→z=x∨z∈r
 | [],x,z,h=>by simp only[ed,List.mem_singleton]at h;exact .inl h
 |a::r,x,z,h=>by
  by_cases c:x<a
  ·rw[eA c]at h
   rcases List.mem_cons.1 h with h|h
   ·exact .inl h
   ·exact .inr (List.mem_cons_of_mem _ h)
  ·rw[dM (by omega)]at h
   rcases List.mem_cons.1 h with h|h
   ·exact .inr (by rw[h];exact List.mem_cons_self ..)
   ·rcases uI r x z h with h|h
    ·exact .inl h
    ·exact .inr (List.mem_cons_of_mem _ h)
theorem ye: ∀{r:List Int} (x:Int),Up r→Up (ed r x).1
 | [],x,_=>List.pairwise_singleton ..
 |a::r,x,h=>by
  have h':=List.pairwise_cons.1 h
  by_cases c:x<a
  ·rw[eA c]
   exact List.pairwise_cons.2 ⟨fun z hz=>by have:=h'.1 z hz;omega,h'.2⟩
  ·rw[dM (by omega)]
   refine List.pairwise_cons.2 ⟨fun z hz=> ?_,ye x h'.2⟩
   rcases uI r x z hz with e|e
   ·omega
   ·exact h'.1 z e
theorem j4: ∀(r:List Int) (x:Int),(ed r x).2= []∨ ∃b,(ed r x).2= [b]∧x<b∧b∈r
 | [],x=> .inl rfl
 |a::r,x=>by
  by_cases c:x<a
  ·rw[eA c];exact .inr ⟨a,rfl,c,List.mem_cons_self ..⟩
  ·rw[dM (by omega)]
   rcases j4 r x with h|⟨b,h1,h2,h3⟩
   ·exact .inl h
   ·exact .inr ⟨b,h1,h2,List.mem_cons_of_mem _ h3⟩
theorem Cj: ∀{r:List Int} {y z:Int},Up r→y≤z→((ed r y).2= []→(ed (ed r y).1 z).2= [])∧ ∀p q,(ed r y).2= [p]→(ed (ed r y).1 z).2= [q]→p≤q
 | [],y,z,_,hz=>by
  refine⟨fun _=> ?_,fun p q h=>by simp[ed]at h⟩
  show(ed [y] z).2= []
  rw[dM hz];rfl
 |a::r,y,z,h,hz=>by
  have h':=List.pairwise_cons.1 h
  by_cases c:y<a
  ·rw[eA c]
   refine⟨fun e=>by simp at e,fun p q e1 e2=> ?_⟩
   rw[dM hz]at e2
   rcases j4 r z with o|⟨b,o1,_,o3⟩
   ·simp only at e2;rw[o]at e2;simp at e2
   ·simp only at e2
    rw[o1]at e2
    simp only[List.cons.injEq,and_true]at e1 e2
    have:=h'.1 b o3
    omega
  ·rw[dM (show a≤y by omega)]
   show((ed r y).2= []→(ed (a::(ed r y).1) z).2= [])∧ ∀p q,(ed r y).2= [p]→(ed (a::(ed r y).1) z).2= [q]→p≤q
   rw[dM (show a≤z by omega)]
   exact Cj h'.2 hz
theorem Cl: ∀{r:List Int} {y z:Int},Up r→y<z→z∈r→ ∃c,(ed r y).2= [c]∧y<c∧c≤z
 | [],_,_,_,_,hm=>by simp at hm
 |a::r,y,z,h,hz,hm=>by
  have h':=List.pairwise_cons.1 h
  by_cases c:y<a
  ·rw[eA c]
   refine⟨a,rfl,c,?_⟩
   rcases List.mem_cons.1 hm with e|e
   ·omega
   ·exact h'.1 z e
  ·rw[dM (by omega)]
   rcases List.mem_cons.1 hm with e|e
   ·omega
   ·exact Cl h'.2 hz e
theorem xJ: ∀(r:List Int) (x:Int),x∈(ed r x).1
 | [],x=>List.mem_singleton.2 rfl
 |a::r,x=>by
  by_cases c:x<a
  ·rw[eA c];exact List.mem_cons_self ..
  ·rw[dM (by omega)];exact List.mem_cons_of_mem _ (xJ r x)
def Tri(u v:List Int):Prop:= ∃x y z:Int,(x<y∧y≤z∧u= [y,z,x]∧v= [y,x,z])∨(x≤y∧y<z∧u= [x,z,y]∧v= [z,x,y])
theorem Tri.a{x y z:Int}(h1:x<y)(h2:y≤z):Tri [y,z,x] [y,x,z]:=⟨x,y,z,.inl ⟨h1,h2,rfl,rfl⟩⟩
theorem Tri.b{x y z:Int}(h1:x≤y)(h2:y<z):Tri [x,z,y] [z,x,y]:=⟨x,y,z,.inr ⟨h1,h2,rfl,rfl⟩⟩
def iq:List Int→List Int→List Int×List Int
 |r,[]=>(r,[])
 |r,x::w=>((iq (ed r x).1 w).1,(ed r x).2++(iq (ed r x).1 w).2)
def CH(p q:List Int×List Int):Prop:=p.1=q.1∧(p.2=q.2∨Tri p.2 q.2)
theorem oD{a:Int}: ∀{w r:List Int},(∀x∈w,a≤x)→iq (a::r) w=(a::(iq r w).1,(iq r w).2)
 | [],_,_=>rfl
 |x::w,r,h=>by
  show((iq (ed (a::r) x).1 w).1,(ed (a::r) x).2++(iq (ed (a::r) x).1 w).2)=_
  rw[dM (h x (List.mem_cons_self ..))]
  simp only
  rw[oD fun y hy=>h y (List.mem_cons_of_mem _ hy)]
  rfl
theorem lO(r:List Int)(x y z:Int):iq r [x,y,z]=((ed (ed (ed r x).1 y).1 z).1,(ed r x).2++((ed (ed r x).1 y).2++(ed (ed (ed r x).1 y).1 z).2)):=by
 simp[iq]
theorem G7: ∀{r:List Int} {x y z:Int},Up r→x<y→y≤z→CH (iq r [y,z,x]) (iq r [y,x,z])
 | [],x,y,z,_,h1,h2=>by
  refine⟨?_,.inl ?_⟩
  ·simp[iq,ed,h1,show¬z<y by omega,show¬z<x by omega]
  ·simp[iq,ed,h1,show¬z<y by omega,show¬z<x by omega]
 |a::r,x,y,z,h,h1,h2=>by
  have h':=List.pairwise_cons.1 h
  by_cases c:y<a
  ·rw[lO,lO,eA c]
   simp only
   rw[dM (r:=r) h2,eA (r:=r) h1]
   simp only
   rw[eA h1,dM (show x≤z by omega)]
   refine⟨rfl,?_⟩
   rcases j4 r z with o|⟨b,o1,o2,o3⟩
   ·simp only;rw[o];exact .inl rfl
   ·simp only;rw[o1]
    exact .inr (Tri.a c (h'.1 b o3))
  ·by_cases c2:x<a
   ·rw[lO,lO,dM (show a≤y by omega)]
    simp only
    rw[dM (show a≤z by omega),eA c2]
    simp only
    rw[eA c2,dM (show x≤z by omega)]
    refine⟨rfl,?_⟩
    simp only
    obtain⟨e1,e2⟩:=Cj h'.2 h2
    rcases j4 r y with o|⟨b,o1,o2,o3⟩
    ·rw[o,e1 o];exact .inl rfl
    ·rcases j4 (ed r y).1 z with p|⟨d,p1,p2,p3⟩
     ·rw[p,o1];exact .inl rfl
     ·rw[o1,p1]
      exact .inr (Tri.a (by omega) (e2 _ _ o1 p1))
   ·have ih:=G7 h'.2 h1 h2
    rw[oD (by simp;omega),oD (by simp;omega)]
    exact⟨congrArg (a:: ·) ih.1,ih.2⟩
theorem G8: ∀{r:List Int} {x y z:Int},Up r→x≤y→y<z→CH (iq r [x,z,y]) (iq r [z,x,y])
 | [],x,y,z,_,h1,h2=>by
  refine⟨?_,.inl ?_⟩
  ·simp[iq,ed,h2,show x<z by omega,show¬z<x by omega,show¬y<x by omega]
  ·simp[iq,ed,h2,show x<z by omega,show¬z<x by omega,show¬y<x by omega]
 |a::r,x,y,z,h,h1,h2=>by
  have h':=List.pairwise_cons.1 h
  by_cases c:z<a
  ·rw[lO,lO,eA (show x<a by omega),eA c]
   simp only
   rw[dM (r:=r) (show x≤z by omega),eA (r:=r) (show x<z by omega)]
   simp only
   rw[dM h1,dM h1]
   cases r with
   |nil=>simp[ed,h2,CH]
   |cons b r=>
    have hb:=h'.1 b (List.mem_cons_self ..)
    rw[eA (show z<b by omega),eA (show y<b by omega)]
    simp only
    rw[eA h2]
    exact⟨rfl,.inr (Tri.a c hb)⟩
  ·by_cases c2:x<a
   ·rw[lO,lO,eA c2,dM (show a≤z by omega)]
    simp only
    rw[eA c2,dM (show x≤z by omega)]
    simp only
    rw[dM h1]
    refine⟨rfl,?_⟩
    simp only
    rcases j4 r z with o|⟨b,o1,o2,o3⟩
    ·rw[o];exact .inl rfl
    ·rw[o1]
     obtain⟨d,d1,d2,d3⟩:=Cl (ye z h'.2) h2 (xJ r z)
     rw[d1]
     refine .inr (Tri.b ?_ (by omega))
     rcases j4 (ed r z).1 y with p|⟨q,p1,p2,p3⟩
     ·rw[p]at d1;simp at d1
     ·rw[p1]at d1
      have:q=d:=by simpa using d1
      subst this
      rcases uI r z q p3 with e|e
      ·omega
      ·exact h'.1 q e
   ·have ih:=G8 h'.2 h1 h2
    rw[oD (by simp;omega),oD (by simp;omega)]
    exact⟨congrArg (a:: ·) ih.1,ih.2⟩
theorem Gm{r u v:List Int}(h:Up r)(t:Tri u v):CH (iq r u) (iq r v):=by
 obtain⟨x,y,z,⟨h1,h2,rfl,rfl⟩|⟨h1,h2,rfl,rfl⟩⟩:=t
 ·exact G7 h h1 h2
 ·exact G8 h h1 h2
theorem E9(a x:Int)(r:List Int):fst (a::r) x=if x<a then 0 else fst r x+1:=by
 unfold fst
 rw[List.findIdx_cons]
 by_cases c:x<a
 ·rw[if_pos c,decide_eq_true c];rfl
 ·rw[if_neg c,decide_eq_false c];rfl
theorem zP: ∀(r:List Int) (x:Int),ed r x=if fst r x<r.length then(r.set (fst r x) x,[r.getD (fst r x) 0])else(r++ [x],[])
 | [],x=>rfl
 |a::r,x=>by
  rw[E9]
  by_cases c:x<a
  ·rw[eA c,if_pos c,if_pos (by simp)];rfl
  ·rw[dM (by omega),if_neg c,zP r x]
   by_cases d:fst r x<r.length
   ·rw[if_pos d,if_pos (by simpa using d)];rfl
   ·rw[if_neg d,if_neg (by simpa using d)];rfl
theorem zM(r:List Int)(rs:List (List Int))(x:Int):(bJ (r::rs) x).1=(ed r x).1::mo (ed r x).2 rs:=by
 rw[im,zP]
 by_cases c:fst r x<r.length
 ·rw[if_pos c,if_pos c];rfl
 ·rw[if_neg c,if_neg c];rfl
theorem sb: ∀(w r:List Int) (rs:List (List Int)),mo w (r::rs)=(iq r w).1::mo (iq r w).2 rs
 | [],_,_=>rfl
 |x::w,r,rs=>by
  show mo w (bJ (r::rs) x).1=_
  rw[zM,sb w]
  simp only[iq]
  rw[mz]
theorem GG{u v:List Int}(t:Tri u v):mo u []=mo v []:=by
 obtain⟨x,y,z,⟨h1,h2,rfl,rfl⟩|⟨h1,h2,rfl,rfl⟩⟩:=t
 ·simp[mo,bJ,List.findIdx_cons,h1,show¬z<y by omega,show¬z<x by omega]
 ·simp[mo,bJ,List.findIdx_cons,h2,show x<z by omega,show¬z<x by omega,show¬y<x by omega]
theorem Cv: ∀{P:List (List Int)} {u v:List Int},(∀r∈P,Up r)→Tri u v→mo u P=mo v P
 | [],_,_,_,t=>GG t
 |r::rs,u,v,h,t=>by
  rw[sb,sb]
  obtain⟨a,b|b⟩:=Gm (h r (List.mem_cons_self ..)) t
  ·rw[a,b]
  ·rw[a,Cv (fun q hq=>h q (List.mem_cons_of_mem _ hq)) b]
inductive Kn : List Int → List Int → Prop
  | refl (w) : Kn w w
  | symm {v w} : Kn v w → Kn w v
  | trans {u v w} : Kn u v → Kn v w → Kn u w
  | tri {u v} (a b) : Tri u v → Kn (a ++ u ++ b) (a ++ v ++ b)
theorem Kn.ctx{u v:List Int}(c d:List Int)(h:Kn u v):Kn (c++u++d) (c++v++d):=by
 induction h with
 |refl w=>exact .refl _
 |symm _ ih=>exact .symm ih
 |trans _ _ h1 h2=>exact .trans h1 h2
 |tri a b t=>
  have:=Kn.tri (c++a) (b++d) t
  simp only[List.append_assoc]at this⊢
  exact this
theorem Kn.left{u v:List Int}(c:List Int)(h:Kn u v):Kn (c++u) (c++v):=by
 have:=h.ctx c []
 simpa using this
theorem Kn.right{u v:List Int}(d:List Int)(h:Kn u v):Kn (u++d) (v++d):=by
 have:=h.ctx [] d
 simpa using this
theorem Kn.cons{u v:List Int}(c:Int)(h:Kn u v):Kn (c::u) (c::v):=h.left [c]
theorem Kn.of{u v:List Int}(t:Tri u v):Kn u v:=by
 have:=Kn.tri [] [] t
 simpa using this
theorem Kn.app{u v u' v':List Int}(h:Kn u u')(g:Kn v v'):Kn (u++v) (u'++v'):=(h.right v).trans (g.left u')
theorem Ck: ∀{P:List (List Int)} (x:Int),(∀r∈P,Up r)→ ∀r∈(bJ P x).1,Up r
 | [],x,_=>fun r hr=>by
  have:r= [x]:=by simpa[bJ]using hr
  rw[this];exact List.pairwise_singleton ..
 |q::P,x,h=>by
  rw[zM]
  intro r hr
  have hP: ∀r∈P,Up r:=fun r hr=>h r (List.mem_cons_of_mem _ hr)
  rcases List.mem_cons.1 hr with e|e
  ·rw[e];exact ye x (h q (List.mem_cons_self ..))
  ·rcases j4 q x with o|⟨b,o,_,_⟩
   ·rw[o]at e;exact hP r e
   ·rw[o]at e;exact Ck b hP r e
theorem CS: ∀{w:List Int} {P:List (List Int)},(∀r∈P,Up r)→ ∀r∈mo w P,Up r
 | [],_,h=>h
 |x::w,P,h=>show∀r∈mo w (bJ P x).1,Up r from CS (Ck x h)
theorem Kn.ins{u v:List Int}(h:Kn u v): ∀{P:List (List Int)},(∀r∈P,Up r)→mo u P=mo v P:=by
 induction h with
 |refl w=>intro P _;rfl
 |symm _ ih=>intro P hP;exact(ih hP).symm
 |trans _ _ h1 h2=>intro P hP;rw[h1 hP,h2 hP]
 |tri a b t=>
  intro P hP
  rw[mz,mz,mz,mz,Cv (CS hP) t]
end Go.Am.Pu
end
section
/- Rows and slides keep words related. Plain words. -/
namespace Go.Am.Pu
def Hg(q:List Int)(g:List (List Int))(i c r:Nat):List Int:=
 if r=i then((g.getD r []).take c).drop (q.getD r 0).toNat++(g.getD r []).drop (c+1)else(g.getD r []).drop (q.getD r 0).toNat
end Go.Am.Pu
end
section
/- The rectification is the tableau of the word. Plain words. -/
namespace Go.Am.Pu
end Go.Am.Pu
end
section
/- Slides outwards: what holds on the way, what they leave; slides in and out undo each other. Plain words. -/
namespace Go.Am.Pu
theorem lY{p:List Int}(hp:bc p=true)(r:Nat):0≤p.getD r 0∧p.getD r 0≤9:=by
 have:=dO hp r
 rwa [cq]at this
theorem zB{p:List Int}(hp:bc p=true){r:Nat}(hr:r<p.length):1≤p.getD r 0:=by
 rw[ao hr];exact((aW hp).1 _ (List.getElem_mem hr)).1
theorem rH: ∀{a b:List Int},(∀i,a.getD i 0≤b.getD i 0)→aM a≤aM b∧ ∀j,a.getD j 0<b.getD j 0→aM a<aM b
 | [],[],_=>⟨Int.le_refl _,fun j h=>by simp at h⟩
 | [],y::b,h=>by
  have h0:=h 0
  obtain⟨i1,i2⟩:=rH (a:= []) (b:=b) fun i=>by have:=h (i+1);simpa using this
  simp only[List.getD_nil,List.getD_cons_zero]at h0
  simp only[aM]at*
  refine⟨by omega,fun j hj=> ?_⟩
  cases j with
  |zero=>simp at hj;omega
  |succ j=>have:=i2 j (by simpa using hj);omega
 |x::a,[],h=>by
  have h0:=h 0
  obtain⟨i1,i2⟩:=rH (a:=a) (b:= []) fun i=>by have:=h (i+1);simpa using this
  simp only[List.getD_nil,List.getD_cons_zero]at h0
  simp only[aM]at*
  refine⟨by omega,fun j hj=> ?_⟩
  cases j with
  |zero=>simp at hj;omega
  |succ j=>have:=i2 j (by simpa using hj);omega
 |x::a,y::b,h=>by
  have h0:=h 0
  obtain⟨i1,i2⟩:=rH (a:=a) (b:=b) fun i=>by have:=h (i+1);simpa using this
  simp only[List.getD_cons_zero]at h0
  simp only[aM]at*
  refine⟨by omega,fun j hj=> ?_⟩
  cases j with
  |zero=>simp at hj;omega
  |succ j=>have:=i2 j (by simpa using hj);omega
theorem Fa{q:List Int}{i:Nat}: ∀r,(if(i:Int)=q.length then q++ [0]else q).getD r 0=q.getD r 0:=fun r=>by
 split
 ·by_cases hr:r<q.length
  ·rw[sx hr]
  ·rw[rE (by omega),aY (xs:=q) (by omega)]
   cases r-q.length<;>rfl
 ·rfl
theorem C1{q:List Int}{i:Nat}(hq:bc q=true)(hi:i≤q.length)(hm:i=0∨q.getD i 0+1≤q.getD (i-1) 0)(hs:aM q+1≤9): ∃o,kx q i=(o,true):=by
 have hlen:i<(if(i:Int)=q.length then q++ [0]else q).length:=by
  split
  ·rw[List.length_append,List.length_singleton];omega
  ·omega
 have hsum:aM (if(i:Int)=q.length then q++ [0]else q)=aM q:=by
  split
  ·rw[Fu];simp[aM]
  ·rfl
 have hg:=Fa (q:=q) (i:=i)
 unfold kx
 rw[if_pos ⟨hq,by omega,by omega⟩]
 simp only[Int.toNat_natCast]
 generalize hw:(if(i:Int)=q.length then q++ [0]else q)=w at*
 have hset: ∀r,(w.set i (w.getD i 0+1)).getD r 0=if r=i then q.getD i 0+1 else q.getD r 0:=fun r=>by
  rw[fH _ hlen,hg]
  by_cases e:r=i
  ·rw[if_pos e,if_pos e]
  ·rw[if_neg e,if_neg e,hg]
 have hpart:bc (w.set i (w.getD i 0+1))=true:=by
  have hle:aM q≤8:=by omega
  have h1: ∀r,q.getD r 0≤8:=fun r=>by
   have h0:=(lY hq r).1
   by_cases hr:r<q.length
   ·have:=rH (a:=List.replicate (r+1) 0|>.set r (q.getD r 0)) (b:=q) fun i=>by
     rw[fH _ (by simp)]
     by_cases e:i=r
     ·rw[if_pos e,e];exact Int.le_refl _
     ·rw[if_neg e]
      have:(List.replicate (r+1) (0:Int)).getD i 0=0:=by
       by_cases hi:i<r+1
       ·rw[ao (by simpa using hi)];simp
       ·rw[aY (by simp;omega)]
      rw[this];exact(lY hq i).1
    have h2:=this.1
    rw[oh _ _ _ (by simp)]at h2
    have h3: ∀n,aM (List.replicate n 0)=0:=fun n=>by
     induction n with
     |zero=>rfl
     |succ n ih=>rw[List.replicate_succ];simp[aM,ih]
    have h4:(List.replicate (r+1) (0:Int)).getD r 0=0:=by rw[ao (by simp)];simp
    rw[h3,h4]at h2
    omega
   ·rw[aY (by omega)];omega
  refine kH _ _ _ (fun x hx=> ?_) (fun _=> ?_) (fun r _=> ?_) ?_
  ·obtain⟨r,hr,rfl⟩:=List.getElem_of_mem hx
   rw[←ao hr 0,hset]
   by_cases e:r=i
   ·rw[if_pos e]
    have:=(lY hq i).1
    omega
   ·rw[if_neg e]
    rw[List.length_set]at hr
    refine zB hq ?_
    rw[←hw]at hr
    split at hr
    ·rw[List.length_append,List.length_singleton]at hr;omega
    ·exact hr
  ·rw[hset]
   have:=h1 0
   have:=h1 i
   split<;>omega
  ·rw[hset,hset]
   have:=gZ hq r
   by_cases e:r=i
   ·subst e
    rw[if_neg (by omega),if_pos rfl];omega
   ·rw[if_neg e]
    by_cases e2:r+1=i
    ·subst e2
     rw[if_pos rfl]
     rcases hm with hm|hm
     ·omega
     ·simpa using hm
    ·rw[if_neg e2];exact this
  ·rw[oh _ _ _ hlen,hg,hsum];omega
 rw[if_pos hpart]
 exact⟨_,rfl⟩
theorem Sl.up{q:List Int}{g:List (List Int)}{i c:Nat}(h:Sl q g (i+1) c)(hi:Inn q g)(hu:cel g i c≠0)(hl:leftOf g (i+1) c≤cel g i c):Sl q (kA g (i+1) c (cel g i c)) i c:=by
 obtain⟨b1,b2⟩:=yX hu
 have hq:q.getD i 0≤c:=Int.not_lt.1 fun hlt=>hu (hi i c hlt)
 have hqm:=h.qm i
 have hun:=h.num i c hq b2 (by omega)
 have e0:=jY (cel g i c) h.hi h.hc
 have en: ∀r x,¬(r=i+1∧x=c)→cel (kA g (i+1) c (cel g i c)) r x=cel g r x:=fun r x hh=>iN _ hh
 have hll:=h.lm i
 refine⟨h.q0,h.qm,fun r=> ?_,?_,?_,hq,fun r x=> ?_,fun r x h1 h2 h3=> ?_,fun r x h1 h2 h3 h4=> ?_,fun r x h1 h2 h3 h4=> ?_,fun x h1 h2 h3=> ?_,fun r h1 h2 h3=> ?_⟩
 ·rw[bB,bB];exact h.lm r
 ·rw[iI];exact b1
 ·rw[bB];exact b2
 ·by_cases e:r=i+1∧x=c
  ·rw[e.1,e.2,e0];exact h.pos _ _
  ·rw[en r x e];exact h.pos _ _
 ·rw[bB]at h2
  by_cases e:r=i+1∧x=c
  ·rw[e.1,e.2,e0];exact hun
  ·rw[en r x e];exact h.num r x h1 h2 e
 ·rw[bB]at h2
  by_cases e:r=i+1∧x=c
  ·obtain⟨rfl,rfl⟩:=e
   rw[e0,en _ _ (by omega)]
   have h5:=h.row i x hq (by omega) (by omega) (by omega)
   have h6:=h.col i (x+1) (by omega) h2 (by omega) (by omega)
   omega
  ·rw[en r x e]
   by_cases e':r=i+1∧x+1=c
   ·obtain⟨rfl,rfl⟩:=e'
    rw[e0]
    unfold leftOf at hl
    rw[if_neg (by omega),show x+1-1=x by omega]at hl
    exact hl
   ·rw[en r (x+1) e'];exact h.row r x h1 h2 e e'
 ·rw[bB]at h2
  by_cases e:r=i+1∧x=c
  ·obtain⟨rfl,rfl⟩:=e
   rw[e0,en _ _ (by omega)]
   exact h.colH i rfl hq h2
  ·rw[en r x e]
   by_cases e':r+1=i+1∧x=c
   ·exact(h3 ⟨by omega,e'.2⟩).elim
   ·rw[en (r+1) x e']
    exact h.col r x h1 h2 e e'
 ·rw[bB]at h3
  rw[en _ _ (by omega),en _ _ (by omega)]
  subst h1
  have h5:=h.row i x h2 (by omega) (by omega) (by omega)
  have h6:=h.row i (x+1) (by omega) h3 (by omega) (by omega)
  omega
 ·rw[bB]at h3
  subst h1
  rw[en _ _ (by omega),e0]
  exact h.col r c h2 b2 (by omega) (by omega)
theorem Sl.left{q:List Int}{g:List (List Int)}{i c:Nat}(h:Sl q g i (c+1))(hi:Inn q g)(hv:cel g i c≠0)(hu:zK g i (c+1)<cel g i c):Sl q (kA g i (c+1) (cel g i c)) i c:=by
 obtain⟨b1,b2⟩:=yX hv
 have hq:q.getD i 0≤c:=Int.not_lt.1 fun hlt=>hv (hi i c hlt)
 have hqm:=h.qm i
 have hvn:=h.num i c hq b2 (by omega)
 have e0:=jY (cel g i c) h.hi h.hc
 have en: ∀r x,¬(r=i∧x=c+1)→cel (kA g i (c+1) (cel g i c)) r x=cel g r x:=fun r x hh=>iN _ hh
 have hll:=h.lm i
 refine⟨h.q0,h.qm,fun r=> ?_,?_,?_,hq,fun r x=> ?_,fun r x h1 h2 h3=> ?_,fun r x h1 h2 h3 h4=> ?_,fun r x h1 h2 h3 h4=> ?_,fun x h1 h2 h3=> ?_,fun r h1 h2 h3=> ?_⟩
 ·rw[bB,bB];exact h.lm r
 ·rw[iI];exact b1
 ·rw[bB];exact b2
 ·by_cases e:r=i∧x=c+1
  ·rw[e.1,e.2,e0];exact h.pos _ _
  ·rw[en r x e];exact h.pos _ _
 ·rw[bB]at h2
  by_cases e:r=i∧x=c+1
  ·rw[e.1,e.2,e0];exact hvn
  ·rw[en r x e];exact h.num r x h1 h2 e
 ·rw[bB]at h2
  by_cases e:r=i∧x=c+1
  ·obtain⟨rfl,rfl⟩:=e
   rw[e0,en _ _ (by omega)]
   exact h.Hg c rfl hq h2
  ·rw[en r x e]
   by_cases e':r=i∧x+1=c+1
   ·exact(h3 ⟨e'.1,by omega⟩).elim
   ·rw[en r (x+1) e'];exact h.row r x h1 h2 e e'
 ·rw[bB]at h2
  by_cases e:r=i∧x=c+1
  ·obtain⟨rfl,rfl⟩:=e
   rw[e0,en _ _ (by omega)]
   have h5:=h.col r c hq (by omega) (by omega) (by omega)
   have h6:=h.row (r+1) c (by omega) h2 (by omega) (by omega)
   omega
  ·rw[en r x e]
   by_cases e':r+1=i∧x=c+1
   ·obtain⟨rfl,rfl⟩:=e'
    rw[e0]
    unfold zK at hu
    rw[if_neg (by omega),show r+1-1=r by omega]at hu
    exact hu
   ·rw[en (r+1) x e']
    exact h.col r x h1 h2 e e'
 ·rw[bB]at h3
  subst h1
  rw[en _ _ (by omega),e0]
  exact h.row i x h2 b2 (by omega) (by omega)
 ·rw[bB]at h3
  rw[en _ _ (by omega),en _ _ (by omega)]
  subst h1
  have h5:=h.col r c h2 b2 (by omega) (by omega)
  have h6:=h.col (r+1) c hq h3 (by omega) (by omega)
  omega
end Go.Am.Pu
end
section
/- What a slide outwards leaves is a tableau; slides in and out undo each other. Plain words. -/
namespace Go.Am.Pu
theorem Ee{q o:List Int}{g:List (List Int)}(hq:bc q=true)(ho:bc o=true)(hin: ∀r,q.getD r 0≤o.getD r 0)(hl: ∀r,r<o.length→((g.getD r []).length:Int)=o.getD r 0)
  (num: ∀r x:Nat,r<o.length→q.getD r 0≤x→(x:Int)<o.getD r 0→1≤cel g r x∧cel g r x≤9)
  (row: ∀r x:Nat,r<o.length→q.getD r 0≤x→(x:Int)+1<o.getD r 0→cel g r x≤cel g r (x+1))
  (col: ∀r x:Nat,r+1<o.length→q.getD r 0≤x→(x:Int)<o.getD (r+1) 0→cel g r x<cel g (r+1) x):
  fj (q,cw q g o.length)=true∧outer (q,cw q g o.length)=o:=by
 have q0:=fun r=>(lY hq r).1
 generalize hR:cw q g o.length=R
 have hRl:R.length=o.length:=by rw[←hR,iC]
 have cell: ∀{r k:Nat},r<R.length→k<(R.getD r []).length→((q.getD r 0).toNat+k:Int)<o.getD r 0∧(R.getD r []).getD k 0=cel g r ((q.getD r 0).toNat+k):=by
  intro r k hr hk
  subst hR
  rw[j2 (by omega)]at hk⊢
  rw[List.length_drop]at hk
  have:=hl r (by omega)
  refine⟨by omega,?_⟩
  rw[xy];rfl
 have Ax: ∀{r:Nat},r<R.length→o.getD r 0=q.getD r 0+((R.getD r []).length:Int):=by
  intro r hr
  subst hR
  rw[j2 (by omega),List.length_drop]
  have:=hl r (by omega)
  have:=hin r
  have:=q0 r
  omega
 have hout:outer (q,R)=o:=by
  refine List.ext_getElem (by rw[cy];exact hRl) fun r h1 h2=> ?_
  rw[←ao h1 0,←ao h2 0]
  have h3:r<R.length:=by omega
  have:=eP q R 0 r h3
  rw[Nat.zero_add]at this
  unfold outer
  rw[this]
  exact(Ax h3).symm
 refine⟨?_,hout⟩
 have hlen:q.length≤R.length:=by
  refine Nat.le_of_not_lt fun hlt=> ?_
  have a:=zB hq hlt
  have b:=hin R.length
  rw[aY (xs:=o) (by omega)]at b
  omega
 have om:=gZ ho
 have qm:=gZ hq
 simp only[fj,fe,aX,Bool.and_eq_true,decide_eq_true_eq]
 rw[hout]
 refine⟨⟨hq,hlen,hq,ho,by omega,?_⟩,?_⟩
 ·rw[bT]
  intro r _
  exact decide_eq_true (hin r)
 ·rw[bT]
  intro r hr
  rw[bT]
  intro k hk
  have hqr:=q0 r
  obtain⟨c1,c4⟩:=cell hr hk
  have hnum:=num r ((q.getD r 0).toNat+k) (by omega) (by omega) (by omega)
  simp only[gF,within,Bool.and_eq_true,Bool.or_eq_true,decide_eq_true_eq]
  rw[c4]
  refine⟨hnum,?_,?_⟩
  ·cases k with
   |zero=>exact .inl rfl
   |succ k=>
    obtain⟨d1,d4⟩:=cell hr (show k<(R.getD r []).length by omega)
    right
    rw[show k+1-1=k from rfl,d4]
    exact row r ((q.getD r 0).toNat+k) (by omega) (by omega) (by omega)
  ·cases r with
   |zero=>exact .inl rfl
   |succ r=>
    right
    have hr':r<R.length:=by omega
    have em:((r+1:Nat):Int)-1=(r:Int):=by omega
    rw[em,jb hr']
    have hqr:=q0 r
    have hqm:=qm r
    have hrl:=Ax hr'
    have hom:=om r
    simp only
    by_cases e:q.getD (r+1) 0+(k:Int)<q.getD r 0
    ·rw[pn (by omega)];omega
    ·obtain⟨y,hy⟩: ∃y:Nat,q.getD (r+1) 0+(k:Int)-q.getD r 0=y:=⟨(q.getD (r+1) 0+(k:Int)-q.getD r 0).toNat,by omega⟩
     rw[hy,cq]
     obtain⟨d1,d4⟩:=cell hr' (show y<(R.getD r []).length by omega)
     have ey:(q.getD r 0).toNat+y=(q.getD (r+1) 0).toNat+k:=by omega
     rw[d4,ey]
     exact col r _ (by omega) (by omega) (by omega)
section
variable {t : Tab} {n : Nat} {p : List Int}
def rZ(t:Tab)(n:Nat)(p:List Int):List (List Int)×(Nat×Nat):=rI 18 (GS t n) n (p.getD n 0-1).toNat
structure F1 (t : Tab) (n : Nat) (p : List Int) (g : List (List Int)) (i c : Nat) (q : List Int) : Prop where
  sl : Sl t.1 g i c
  inn : Inn t.1 g
  len : g.length = p.length
  row : ∀ r, ((g.getD r []).length : Int) = p.getD r 0
  l0 : leftOf g i c = 0
  u0 : zK g i c = 0
  add : kx t.1 i = (q, true)
  qi : q.getD i 0 = c + 1
  qr : ∀ r, q.getD r 0 = if r = i then (c : Int) + 1 else t.1.getD r 0
  qp : bc q = true
  ins : ∀ r, q.getD r 0 ≤ p.getD r 0
def tt(t:Tab)(n:Nat):Tab×Nat:=
 let p:=(kx (outer t) n).1
 let s:=rZ t n p
 let q:=(kx t.1 s.2.1).1
 ((q,cw q s.1 p.length),s.2.1)
theorem F1.tab{g:List (List Int)}{i c:Nat}{q:List Int}(E:F1 t n p g i c q)(hp:kx (outer t) n=(p,true)):fj (q,cw q g p.length)=true∧outer (q,cw q g p.length)=p:=by
 obtain⟨b1,b2,b3,b4,b5⟩:=xk hp
 have hq:=E.sl.hq
 have old: ∀r x:Nat,q.getD r 0≤x→t.1.getD r 0≤x∧ ¬(r=i∧x=c):=fun r x hx=>by
  rw[E.qr]at hx
  by_cases e:r=i
  ·rw[if_pos e]at hx
   rw[e]
   exact⟨by omega,by omega⟩
  ·rw[if_neg e]at hx;exact⟨hx,fun e'=>e e'.1⟩
 refine Ee E.qp b5 E.ins (fun r _=>E.row r) (fun r x _ h1 h2=> ?_) (fun r x _ h1 h2=> ?_) (fun r x _ h1 h2=> ?_)
 ·have:=E.row r
  exact E.sl.num r x (old r x h1).1 (by omega) (old r x h1).2
 ·have:=E.row r
  exact E.sl.row r x (old r x h1).1 (by omega) (old r x h1).2 (by have:=(old r (x+1) (by omega)).2;exact this)
 ·have:=E.row (r+1)
  have hm:=gZ E.qp r
  exact E.sl.col r x (old r x h1).1 (by omega) (old r x h1).2 (by have:=(old (r+1) x (by omega)).2;exact this)
theorem F1.eq{q:List Int}(E:F1 t n p (rZ t n p).1 (rZ t n p).2.1 (rZ t n p).2.2 q)(hp:kx (outer t) n=(p,true)):tt t n=((q,cw q (rZ t n p).1 p.length),(rZ t n p).2.1):=by
 unfold tt
 rw[hp]
 simp only[E.add]
end
section
variable {t : Tab} {n : Nat}
end
end Go.Am.Pu
end
section
/- Words of tableaux; the rows of a slide outwards. Plain words. -/
namespace Go.Am.Pu
def GW(a n m:Nat)(t:Tab):Prop:=t.1.length≤a∧eG n m t.2
theorem GW.tab{a n m:Nat}{t:Tab}(h:GW a n m t)(ha:a≤1048576)(hn:n≤1048576)(hm:m≤1048576):t.1.length≤1048576∧t.2.length≤1048576∧ ∀x∈t.2,x.length≤1048576:=
 ⟨Nat.le_trans h.1 ha,Nat.le_trans h.2.1 hn,fun x hx=>Nat.le_trans (h.2.2 x hx) hm⟩
end Go.Am.Pu
end
section
/- Partitions that are drawn; chains of partitions. Plain words. -/
namespace Go.Am.Pu
end Go.Am.Pu
end
section
/- Plain laws: tableaux side by side; a number's copies. -/
namespace Go.Am.Pu
open Go Go.Am
attribute [local instance] D.real
end Go.Am.Pu
end
section
/- Plain laws: boxes that lead on to an outer partition; chains. -/
namespace Go.Am.Pu
open Go Go.Am
attribute [local instance] D.real
theorem rM{p q:List Int}(h:aX p q=true)(i:Nat):p.getD i 0≤q.getD i 0:=by
 rw[lW]at h
 simp only[Bool.and_eq_true]at h
 rcases Nat.lt_or_ge i p.length with hi|hi
 ·have:=bT.1 h.2.2 i hi
  simpa using this
 ·rw[aY hi];exact(lY h.2.1 i).1
theorem yF{p q:List Int}(h:aX p q=true):bc p=true∧bc q=true:=by
 rw[lW]at h
 simp only[Bool.and_eq_true]at h
 exact⟨h.1,h.2.1⟩
theorem yN{p q:List Int}(hp:bc p=true)(hq:bc q=true)(h: ∀i,p.getD i 0≤q.getD i 0):aX p q=true:=by
 rw[lW,hp,hq]
 simp only[Bool.true_and]
 exact bT.2 fun i _=>decide_eq_true (h i)
def mS(c:List (List Int)):List Int:=c.getD (c.length-1) []
theorem xK(c:List (List Int))(o:List Int):mS (c++ [o])=o:=by
 unfold mS
 rw[List.length_append,List.length_singleton,Nat.add_sub_cancel,List.getD_eq_getElem?_getD,List.getElem?_append_right (Nat.le_refl _),Nat.sub_self]
 rfl
end Go.Am.Pu
end
section
/- Plain laws: the local rule of insertion; exchanging places and numbers exchanges the two tableaux. -/
namespace Go.Am.Pu
end Go.Am.Pu
end
section
/- Plain laws: places and numbers exchanged: the tableau of the one is the recording of the other. -/
namespace Go.Am.Pu
def wd(L:List (Int×Int)):List Int:=L.map Prod.snd
def at1(s r:Nat):Nat:=if s=r then 1 else 0
structure Tr (L M : List (Int × Int)) : Prop where
  sl : L.Pairwise fun p q => p.1 < q.1
  sm : M.Pairwise fun p q => p.1 < q.1
  perm : M.Perm (L.map Prod.swap)
theorem Tr.symm{L M:List (Int×Int)}(h:Tr L M):Tr M L:=by
 refine⟨h.sm,h.sl,?_⟩
 have:=(h.perm.map Prod.swap).symm
 rwa [List.map_map,Prod.swap_swap_eq,List.map_id]at this
theorem Tr.len{L M:List (Int×Int)}(h:Tr L M):M.length=L.length:=by simpa using h.perm.length_eq
theorem Tr.mem{L M:List (Int×Int)}(h:Tr L M){p:Int×Int}(hp:p∈L):p.swap∈M:=h.perm.mem_iff.2 (List.mem_map_of_mem hp)
theorem FX{A B:List (Int×Int)}{x:Int×Int}:(A++B).Sublist (A++x::B):=(List.Sublist.refl A).append (List.sublist_cons_self x B)
theorem Tr.cut{L0 A B:List (Int×Int)}{p:Int×Int}(h:Tr (L0++ [p]) (A++p.swap::B)):Tr L0 (A++B):=by
 refine⟨(List.pairwise_append.1 h.sl).1,h.sm.sublist FX,?_⟩
 have h1:(A++p.swap::B).Perm (p.swap::(A++B)):=List.perm_middle
 have h2:((L0++ [p]).map Prod.swap).Perm (p.swap::L0.map Prod.swap):=by
  rw[List.map_append]
  exact List.perm_append_comm
 exact(List.perm_cons _).1 (h1.symm.trans (h.perm.trans h2))
theorem Fm{L0:List (Int×Int)}{p:Int×Int}(h:(L0++ [p]).Pairwise fun p q=>p.1<q.1): ∀x∈L0,x.1<p.1:=fun x hx=>(List.pairwise_append.1 h).2.2 x hx p (by simp)
theorem Tr.top{L M0:List (Int×Int)}{q:Int×Int}(h:Tr L (M0++ [q])): ∀x∈L,x≠q.swap→x.2<q.1:=fun x hx hne=>by
 have hm:=h.mem hx
 rcases List.mem_append.1 hm with h1|h1
 ·exact Fm h.sm _ h1
 ·simp only[List.mem_singleton]at h1
  exact absurd (by rw[←h1,Prod.swap_swap]) hne
end Go.Am.Pu
end
section
/- Plain laws: taking a cell out undoes an insertion. -/
namespace Go.Am.Pu
structure Tk (rs : List (List Int)) (a : Nat) (R : List (List Int)) (y : Int) : Prop where
  ins : bJ R y = (rs, a)
  ssr : SSR R
  pos : ∃ p, p < (rs.getD 0 []).length ∧ y = (rs.getD 0 []).getD p 0 ∧ (R.getD 0 []).length ≤ (rs.getD 0 []).length ∧ (∀ i, i < (R.getD 0 []).length → (rs.getD 0 []).getD i 0 ≤ (R.getD 0 []).getD i 0) ∧
    ∀ i, p ≤ i → i < (R.getD 0 []).length → y < (R.getD 0 []).getD i 0
end Go.Am.Pu
end
section
/- Plain laws: a removed number inserted again; a pair is what its word makes; the inverse of a permutation. -/
namespace Go.Am.Pu
end Go.Am.Pu
end
section
/- Plain laws: the inverse of a permutation; words that are their own standardization. -/
namespace Go.Am.Pu
section
variable {w : List Int} (h : isWord w = true) (ho : lT w = true)
include h ho
end
end Go.Am.Pu
end
section
/- Standardization step by step; what the law of the pairs wants, with no program in sight. -/
namespace Go.Am.Pu
set_option linter.unusedSimpArgs false
set_option linter.unusedVariables false
def pc(w:List Int)(i q:Nat):Nat:=((List.range q).filter fun k=>decide (w.getD k 0<w.getD i 0)||(decide (w.getD k 0=w.getD i 0)&&decide (k<i))).length
end Go.Am.Pu
end
section
/- Plain laws: insertion of letters told anew; insertion and recording of pairs in order, with repeats. -/
namespace Go.Am.Pu
set_option linter.unusedVariables false
section
variable {f : Int → Int} (hf : ∀ a b, a ≤ b → f a ≤ f b)
include hf
omit hf in
end
def Lex(p q:Int×Int):Prop:=p.1<q.1∨(p.1=q.1∧p.2≤q.2)
def dec(v:Int):Int:=v/100
end Go.Am.Pu
end
section
/- Plain laws: the word of a recorded pair is the word; a recording with repeats, told by standard numbers. -/
namespace Go.Am.Pu
set_option linter.unusedVariables false
theorem C9{X Y:List (List Int)}(h:eI X Y)(he: ∀r x,r<X.length→x<(X.getD r []).length→cel X r x=cel Y r x):X=Y:=by
 refine Ej (d:= []) h.1 fun r hr=>Ej (d:=0) (h.2 r) fun x hx=>he r x hr hx
end Go.Am.Pu
end
section
/- Plain laws: pairs in order and their two tableaux. -/
namespace Go.Am.Pu
set_option linter.unusedVariables false
def POK(L:List (Int×Int)):Prop:=L.length≤9∧ ∀p∈L,(1≤p.1∧p.1≤9)∧1≤p.2∧p.2≤9
theorem POK.word{L:List (Int×Int)}(h:POK L):isWord (wd L)=true:=by
 unfold isWord within
 simp only[Bool.and_eq_true,decide_eq_true_eq,List.all_eq_true,wd,List.length_map]
 refine⟨h.1,fun x hx=> ?_⟩
 obtain⟨p,hp,rfl⟩:=List.mem_map.1 hx
 exact(h.2 p hp).2
section
variable {L : List (Int × Int)} (h : POK L) (hl : L.Pairwise Lex)
include h
theorem Hq:bW (([],pV (wd L) [] [] 0):Tab)=true∧iw (([],pV (wd L) [] [] 0):Tab)=true∧(pV (wd L) [] [] 0).flatten.length=L.length:=by
 have hw:=h.word
 have:=vF hw
 unfold lb at this
 rw[if_pos hw]at this
 simpa[wd]using this
theorem gH{r x i:Nat}(hi:i<L.length)(hr:r<(pV (wd L) [] [] 0).length)(hx:x<((pV (wd L) [] [] 0).getD r []).length)(e:cel (pV (wd L) [] [] 0) r x=((i+1:Nat):Int)):(Cb (wd L) []).getD i 0=r:=by
 obtain⟨p1,p2,p3⟩:=Hq h
 have a:=(Av h.word).2 i (by simpa[wd]using hi)
 have b:=jO p1 p2 hr hx e
 omega
include hl
end
end Go.Am.Pu
end
section
/- Plain laws: matrices and their pairs. -/
namespace Go.Am.Pu
set_option linter.unusedVariables false
set_option linter.unusedSimpArgs false
def HN(c:Nat)(r:List Int):Bool:=decide (r.length=c)&&(decide (r.length≤9)&&r.all fun n=>within n 0 9)
def u7(m:List (List Int)):Bool:=decide (m.length≤9)&&(m.all (HN (m.getD 0 []).length)&&decide (aM m.flatten≤9))
structure Hl (r c : Nat) (m : List (List Int)) : Prop where
  len : m.length = r
  r9 : r ≤ 9
  row : ∀ x ∈ m, x.length = c
  c9 : ∀ x ∈ m, x.length ≤ 9
  num : ∀ x ∈ m, ∀ n ∈ x, 0 ≤ n ∧ n ≤ 9
  sum : aM m.flatten ≤ 9
theorem xW{m:List (List Int)}:u7 m=true↔Hl m.length (m.getD 0 []).length m:=by
 unfold u7 HN within
 simp only[Bool.and_eq_true,decide_eq_true_eq,List.all_eq_true]
 constructor
 ·rintro⟨a,b,c⟩
  exact⟨rfl,a,fun x hx=>(b x hx).1,fun x hx=>(b x hx).2.1,fun x hx=>(b x hx).2.2,c⟩
 ·rintro⟨_,a,b,c,d,e⟩
  exact⟨a,fun x hx=>⟨b x hx,c x hx,d x hx⟩,e⟩
theorem Hl.is{r c:Nat}{m:List (List Int)}(h:Hl r c m):u7 m=true:=by
 rw[xW]
 cases m with
 |nil=>exact⟨rfl,Nat.zero_le _,fun x hx=>(by cases hx),fun x hx=>(by cases hx),fun x hx=>(by cases hx),h.sum⟩
 |cons a m=>
  have:=h.row a (List.mem_cons_self ..)
  exact⟨rfl,by rw[h.len];exact h.r9,fun x hx=>by rw[List.getD_cons_zero,this];exact h.row x hx,h.c9,h.num,h.sum⟩
end Go.Am.Pu
end
section
/- Plain laws: a matrix is told by its two tableaux, and turning it exchanges them. -/
namespace Go.Am.Pu
set_option linter.unusedVariables false
end Go.Am.Pu
end
section
/- Plain laws: what the functions on matrices make step by step. -/
namespace Go.Am.Pu
set_option linter.unusedVariables false
end Go.Am.Pu
end
section
/- Plain laws: insertion by columns keeps the word's class. -/
namespace Go.Am.Pu
set_option linter.unusedVariables false
def fX(c:List Int)(x:Int):Nat:=c.findIdx fun n=>decide (x≤n)
def Bb:List (List Int)→Int→List (List Int)
 | [],x=> [[x]]
 |c::cs,x=>if fX c x<c.length then c.set (fX c x) x::Bb cs (c.getD (fX c x) 0)else(c++ [x])::cs
end Go.Am.Pu
end
section
/- Plain laws: columns and rows of a tableau; insertion by columns keeps it a tableau. -/
namespace Go.Am.Pu
set_option linter.unusedVariables false
def CN(c:List Int):List (List Int)→Prop
 | []=>True
 |d::_=>d.length≤c.length∧ ∀q,q<d.length→c.getD q 0≤d.getD q 0
def CC:List (List Int)→Prop
 | []=>True
 |c::cs=>0<c.length∧c.Pairwise (· < ·)∧CN c cs∧CC cs
theorem CT{c:List Int}(h:c.Pairwise (· < ·)){i j:Nat}(hij:i<j)(hj:j<c.length):c.getD i 0<c.getD j 0:=by
 rw[List.pairwise_iff_getElem]at h
 rw[ao (by omega),ao hj]
 exact h i j (by omega) hj hij
theorem Hz{c:List Int}(h:c.Pairwise (· < ·)){i j:Nat}(hij:i≤j)(hj:j<c.length):c.getD i 0≤c.getD j 0:=by
 rcases Nat.lt_or_ge i j with q|q
 ·have:=CT h q hj;omega
 ·rw[show i=j by omega];exact Int.le_refl _
theorem AN{c:List Int}(h: ∀i j,i<j→j<c.length→c.getD i 0<c.getD j 0):c.Pairwise (· < ·):=by
 rw[List.pairwise_iff_getElem]
 intro i j hi hj hij
 have:=h i j hij hj
 rwa [ao hi,ao hj]at this
theorem CO{c:List Int}{x:Int}(h:fX c x<c.length):x≤c.getD (fX c x) 0:=by
 have:=List.findIdx_getElem (w:=h) (p:=fun n=>decide (x≤n))
 rw[ao h];exact of_decide_eq_true this
theorem yS{c:List Int}{x:Int}{i:Nat}(h:i<fX c x):c.getD i 0<x:=by
 have hl:i<c.length:=Nat.lt_of_lt_of_le h List.findIdx_le_length
 have:=List.not_of_lt_findIdx (p:=fun n=>decide (x≤n)) (xs:=c) h
 have:=of_decide_eq_false this
 rw[ao hl];omega
theorem yf{c:List Int}{x:Int}:fX c x≤c.length:=List.findIdx_le_length
theorem GB{c:List Int}{x:Int}(h:c.Pairwise (· < ·))(hk:fX c x<c.length):(c.set (fX c x) x).Pairwise (· < ·):=AN fun i j hij hj=>by
 rw[List.length_set]at hj
 rw[fH x hk,fH x hk]
 have ha:=CO hk
 by_cases ci:i=fX c x
 ·rw[if_pos ci,if_neg (by omega)]
  have:=CT h (i:=fX c x) (j:=j) (by omega) hj
  omega
 ·rw[if_neg ci]
  by_cases cj:j=fX c x
  ·rw[if_pos cj];exact yS (by omega)
  ·rw[if_neg cj];exact CT h hij hj
theorem GF{c:List Int}{x:Int}(h:c.Pairwise (· < ·))(hk: ¬fX c x<c.length):(c++ [x]).Pairwise (· < ·):=AN fun i j hij hj=>by
 rw[List.length_append,List.length_singleton]at hj
 rw[eB,eB]
 by_cases cj:j=c.length
 ·rw[if_neg (by omega),if_pos cj];exact yS (by have:= @yf c x;omega)
 ·rw[if_neg (by omega),if_neg cj];exact CT h hij (by omega)
theorem Ds{c:List Int}{x:Int}{cs:List (List Int)}(h:c.Pairwise (· < ·))(hk:fX c x<c.length)(ho:CN c cs)(hc:CC cs):CN (c.set (fX c x) x) (Bb cs (c.getD (fX c x) 0)):=by
 have hy:=CO hk
 have hle: ∀q,q<c.length→(c.set (fX c x) x).getD q 0≤c.getD q 0:=fun q hq=>by
  rw[fH x hk]
  split
  ·next e=>rw[e];exact hy
  ·exact Int.le_refl _
 have hset: ∀q,q≤fX c x→(c.set (fX c x) x).getD q 0≤c.getD (fX c x) 0:=fun q hq=>by
  have:=hle q (by omega)
  have:=Hz h hq hk
  omega
 cases cs with
 |nil=>
  refine⟨by show 1≤_;rw[List.length_set];omega,fun q hq=> ?_⟩
  have hq:q<1:=hq
  rw[show q=0 by omega]
  exact hset 0 (Nat.zero_le _)
 |cons d ds=>
  obtain⟨o1,o2⟩:=ho
  have hk':fX d (c.getD (fX c x) 0)≤fX c x:=Nat.le_of_not_lt fun hlt=>by
   have hd:fX c x<d.length:=by have:= @yf d (c.getD (fX c x) 0);omega
   have a:=yS hlt
   have b:=o2 _ hd
   omega
  show CN _ (if fX d (c.getD (fX c x) 0)<d.length then _ else _)
  by_cases g:fX d (c.getD (fX c x) 0)<d.length
  ·rw[if_pos g]
   refine⟨by rw[List.length_set,List.length_set];exact o1,fun q hq=> ?_⟩
   rw[List.length_set]at hq
   rw[fH _ g]
   split
   ·next e=>exact hset q (by omega)
   ·have:=hle q (by omega)
    have:=o2 q hq
    omega
  ·rw[if_neg g]
   have e:fX d (c.getD (fX c x) 0)=d.length:=by have:= @yf d (c.getD (fX c x) 0);omega
   refine⟨by rw[List.length_set,List.length_append,List.length_singleton];omega,fun q hq=> ?_⟩
   rw[List.length_append,List.length_singleton]at hq
   rw[eB]
   split
   ·next e2=>exact hset q (by omega)
   ·have:=hle q (by omega)
    have:=o2 q (by omega)
    omega
theorem E1: ∀(C:List (List Int)) (x:Int),CC C→CC (Bb C x)
 | [],x,_=>⟨by simp,by simp,trivial,trivial⟩
 |c::cs,x,⟨h1,h2,h3,h4⟩=>by
  show CC (if fX c x<c.length then _ else _)
  by_cases g:fX c x<c.length
  ·rw[if_pos g]
   exact⟨by rw[List.length_set];exact h1,GB h2 g,Ds h2 g h3 h4,E1 cs _ h4⟩
  ·rw[if_neg g]
   refine⟨by rw[List.length_append,List.length_singleton];omega,GF h2 g,?_,h4⟩
   cases cs with
   |nil=>trivial
   |cons d ds=>
    obtain⟨o1,o2⟩:=h3
    exact⟨by rw[List.length_append,List.length_singleton];omega,fun q hq=>by rw[eB,if_neg (by omega)];exact o2 q hq⟩
theorem yO: ∀{C:List (List Int)},CC C→(∀c∈C,0<c.length∧c.Pairwise (· < ·))∧ ∀i,i+1<C.length→(C.getD (i+1) []).length≤(C.getD i []).length∧ ∀q,q<(C.getD (i+1) []).length→(C.getD i []).getD q 0≤(C.getD (i+1) []).getD q 0
 | [],_=>⟨fun c hc=>(by cases hc),fun i hi=>(by simp at hi)⟩
 |c::cs,⟨h1,h2,h3,h4⟩=>by
  obtain⟨a,b⟩:=yO h4
  refine⟨fun d hd=> ?_,fun i hi=> ?_⟩
  ·rcases List.mem_cons.1 hd with rfl|hd
   ·exact⟨h1,h2⟩
   ·exact a d hd
  ·cases i with
   |zero=>
    cases cs with
    |nil=>simp at hi
    |cons d ds=>exact h3
   |succ i=>exact b i (by simpa using hi)
def lX:List Int→List (List Int)→List (List Int)
 | [],C=>C
 |n::r,[]=> [n]::lX r []
 |n::r,c::C=>(n::c)::lX r C
def cD:List (List Int)→List (List Int)
 | []=> []
 |r::rs=>lX r (cD rs)
def Reg(t:List (List Int)):Prop:=(∀r∈t,0<r.length)∧ ∀i,i+1<t.length→(t.getD (i+1) []).length≤(t.getD i []).length
theorem Reg.tail{r:List Int}{rs:List (List Int)}(h:Reg (r::rs)):Reg rs∧(rs.getD 0 []).length≤r.length:=by
 refine⟨⟨fun s hs=>h.1 s (List.mem_cons_of_mem _ hs),fun i hi=>h.2 (i+1) (by simpa using hi)⟩,?_⟩
 cases rs with
 |nil=>exact Nat.zero_le _
 |cons s rs=>exact h.2 0 (by simp)
theorem sk: ∀(r:List Int) (C:List (List Int)),C.length≤r.length→(lX r C).length=r.length
 | [],C,h=>by simp at h;subst h;rfl
 |n::r,[],_=>by simp[lX,sk r [] (Nat.zero_le _)]
 |n::r,c::C,h=>by simp[lX,sk r C (by simpa using h)]
theorem sD: ∀(r:List Int) (C:List (List Int)) (q:Nat),C.length≤r.length→(lX r C).getD q []=if q<r.length then r.getD q 0::C.getD q []else []
 | [],C,q,h=>by simp at h;subst h;simp[lX]
 |n::r,[],0,_=>by simp[lX]
 |n::r,[],q+1,_=>by
  have:=sD r [] q (Nat.zero_le _)
  simp only[lX,List.getD_cons_succ,this,List.length_cons]
  by_cases h:q<r.length
  ·rw[if_pos h,if_pos (by omega)];simp
  ·rw[if_neg h,if_neg (by omega)]
 |n::r,c::C,0,_=>by simp[lX]
 |n::r,c::C,q+1,h=>by
  have:=sD r C q (by simpa using h)
  simp only[lX,List.getD_cons_succ,this,List.length_cons]
  by_cases g:q<r.length
  ·rw[if_pos g,if_pos (by omega)]
  ·rw[if_neg g,if_neg (by omega)]
theorem oI: ∀{t:List (List Int)},Reg t→(cD t).length=(t.getD 0 []).length
 | [],_=>rfl
 |r::rs,h=>by
  have:=oI h.tail.1
  exact sk r _ (by rw[this];exact h.tail.2)
theorem kL: ∀{t:List (List Int)},Reg t→ ∀q i,(i<((cD t).getD q []).length↔q<(t.getD i []).length)∧((cD t).getD q []).getD i 0=(t.getD i []).getD q 0
 | [],_,q,i=>by simp[cD]
 |r::rs,h,q,i=>by
  have hl:=oI h.tail.1
  have ht:=h.tail.2
  have e:=sD r (cD rs) q (by rw[hl];exact ht)
  show(i<((lX r (cD rs)).getD q []).length↔_)∧((lX r (cD rs)).getD q []).getD i 0=_
  rw[e]
  by_cases g:q<r.length
  ·rw[if_pos g]
   cases i with
   |zero=>simp[g]
   |succ i=>
    have:=kL h.tail.1 q i
    simp only[List.length_cons,List.getD_cons_succ]
    exact⟨by rw[←this.1];omega,this.2⟩
  ·rw[if_neg g]
   have hle: ∀i,((r::rs).getD i []).length≤r.length:=by
    intro i
    induction i with
    |zero=>simp
    |succ i ih=>
     by_cases hi:i+1<(r::rs).length
     ·exact Nat.le_trans (h.2 i hi) ih
     ·rw[List.getD_eq_getElem?_getD,List.getElem?_eq_none (by omega)];exact Nat.zero_le _
   have:=hle i
   refine⟨⟨fun h=>by simp at h,fun h=>by omega⟩,?_⟩
   rw[List.getD_eq_getElem?_getD (l:=(r::rs).getD i []),List.getElem?_eq_none (by omega)]
   simp
theorem EA{C:List (List Int)}(h:CC C):Reg C:=⟨fun c hc=>((yO h).1 c hc).1,fun i hi=>((yO h).2 i hi).1⟩
end Go.Am.Pu
end
section
/- Plain laws: one step of insertion by columns, seen in the rows. -/
namespace Go.Am.Pu
set_option linter.unusedVariables false
theorem uT{α:Type}{l:List α}{i:Nat}(h:l.length≤i)(d:α):l.getD i d=d:=by
 rw[List.getD_eq_getElem?_getD,List.getElem?_eq_none h];rfl
theorem gss{l:List (List Int)}{i:Nat}(h:i<l.length)(v:List Int):(l.set i v).getD i []=v:=by
 rw[ao (by rw[List.length_set];exact h),List.getElem_set_self]
def lz(D:List (List Int))(c:Nat)(x:Int):List (List Int):=if c=D.length then D++ [[x]]else D.set c (D.getD c []++ [x])
theorem zk{D:List (List Int)}{c:Nat}(x:Int)(hc:c≤D.length)(i:Nat):(lz D c x).getD i []=if i=c then D.getD c []++ [x]else D.getD i []:=xE (Q:=D) (a:=c) x hc i
theorem ES{D:List (List Int)}(h:Reg D){c:Nat}(hc:c≤D.length)(x:Int)(h':Reg (lz D c x)):cD (lz D c x)=lz (cD D) (D.getD c []).length x∧(D.getD c []).length≤(cD D).length∧((cD D).getD (D.getD c []).length []).length=c:=by
 have hg:=zk x hc
 have hlen: ∀i,((lz D c x).getD i []).length=if i=c then(D.getD c []).length+1 else(D.getD i []).length:=fun i=>by
  rw[hg];split
  ·rw[List.length_append,List.length_singleton]
  ·rfl
 have ant: ∀d,(D.getD d []).length≤(D.getD 0 []).length:=by
  intro d
  induction d with
  |zero=>exact Nat.le_refl _
  |succ d ih=>
   by_cases hd:d+1<D.length
   ·exact Nat.le_trans (h.2 d hd) ih
   ·rw[uT (by omega)];exact Nat.zero_le _
 have hrl:(D.getD c []).length≤(cD D).length:=by rw[oI h];exact ant c
 have hrc:((cD D).getD (D.getD c []).length []).length=c:=by
  refine Nat.le_antisymm (Nat.le_of_not_lt fun hlt=> ?_) (Nat.le_of_not_lt fun hlt=> ?_)
  ·have:=(kL h _ c).1.1 hlt
   omega
  ·
   have a:=(kL h (D.getD c []).length ((cD D).getD (D.getD c []).length []).length).1
   have hc':((cD D).getD (D.getD c []).length []).length<D.length:=by omega
   generalize hm:((cD D).getD (D.getD c []).length []).length=m at*
   have b: ¬(D.getD c []).length<(D.getD m []).length:=fun hh=>by have:=a.2 hh;omega
   have mono: ∀e,m+e≤c→((lz D c x).getD (m+e) []).length≤((lz D c x).getD m []).length:=by
    intro e
    induction e with
    |zero=>intro _;exact Nat.le_refl _
    |succ e ih=>
     intro he
     have hl2:(lz D c x).length=if c=D.length then D.length+1 else D.length:=o6 x
     exact Nat.le_trans (h'.2 (m+e) (by rw[hl2];split<;>omega)) (ih (by omega))
   have:=mono (c-m) (by omega)
   rw[show m+(c-m)=c by omega,hlen,hlen,if_pos rfl,if_neg (by omega)]at this
   omega
 refine⟨?_,hrl,hrc⟩
 have hg2:=zk (D:=cD D) (c:=(D.getD c []).length) x hrl
 have hl2:(lz (cD D) (D.getD c []).length x).length=if(D.getD c []).length=(cD D).length then(cD D).length+1 else(cD D).length:=o6 x
 have hrow2: ∀i,((lz (cD D) (D.getD c []).length x).getD i []).length=if i=(D.getD c []).length then c+1 else((cD D).getD i []).length:=fun i=>by
  rw[hg2];split
  ·rw[List.length_append,List.length_singleton,hrc]
  ·rfl
 have key: ∀i q,q<((cD (lz D c x)).getD i []).length↔q<((lz (cD D) (D.getD c []).length x).getD i []).length:=fun i q=>by
  rw[(kL h' i q).1,hlen,hrow2]
  have a:=(kL h i q).1
  by_cases e:q=c
  ·subst e
   rw[if_pos rfl]
   by_cases e2:i=(D.getD q []).length
   ·rw[if_pos e2];omega
   ·rw[if_neg e2,a];omega
  ·rw[if_neg e]
   by_cases e2:i=(D.getD c []).length
   ·rw[if_pos e2,←a,e2,hrc];omega
   ·rw[if_neg e2,a]
 have hl:(cD (lz D c x)).length=(lz (cD D) (D.getD c []).length x).length:=by
  rw[oI h',hlen,hl2,oI h]
  by_cases e:0=c
  ·subst e
   rw[if_pos rfl,if_pos rfl]
  ·rw[if_neg e]
   split
   ·next e2=>
    exfalso
    have mono: ∀e,e≤c→((lz D c x).getD e []).length≤((lz D c x).getD 0 []).length:=by
     intro e
     induction e with
     |zero=>intro _;exact Nat.le_refl _
     |succ e ih=>
      intro he
      have hl3:(lz D c x).length=if c=D.length then D.length+1 else D.length:=o6 x
      exact Nat.le_trans (h'.2 e (by rw[hl3];split<;>omega)) (ih (by omega))
    have:=mono c (Nat.le_refl _)
    rw[hlen,hlen,if_pos rfl,if_neg e]at this
    omega
   ·rfl
 refine C9 ⟨hl,fun i=> ?_⟩ fun i q hi hq=> ?_
 ·refine Nat.le_antisymm (Nat.le_of_not_lt fun hlt=> ?_) (Nat.le_of_not_lt fun hlt=> ?_)
  ·have:=(key i _).1 hlt;omega
  ·have:=(key i _).2 hlt;omega
 ·show((cD (lz D c x)).getD i []).getD q 0=((lz (cD D) (D.getD c []).length x).getD i []).getD q 0
  rw[(kL h' i q).2,hg,hg2]
  by_cases e:q=c
  ·rw[if_pos e]
   by_cases e2:i=(D.getD c []).length
   ·rw[if_pos e2,e2,eB,if_pos rfl,eB,if_pos (by rw[hrc];exact e)]
   ·rw[if_neg e2,eB,if_neg e2,(kL h i q).2,e]
  ·rw[if_neg e]
   by_cases e2:i=(D.getD c []).length
   ·rw[if_pos e2,eB,if_neg (by rw[hrc];exact e),(kL h _ q).2,e2]
   ·rw[if_neg e2,(kL h i q).2]
structure vZ (C : List (List Int)) (z : Int) (D : List (List Int)) (c : Nat) (x : Int) : Prop where
  same : eI D C
  rest : D.drop c = C.drop c
  inv : D.take c ++ Bb (D.drop c) x = Bb C z
  le : c ≤ D.length
section
variable {C D : List (List Int)} {z x : Int} {c : Nat} (h : CC C) (s : vZ C z D c x)
include s
theorem vZ.col:D.getD c []=C.getD c []:=by
 have:=congrArg (fun l:List (List Int)=>l.getD 0 []) s.rest
 simp only[List.getD_eq_getElem?_getD,List.getElem?_drop,Nat.add_zero]at this⊢
 exact this
include h
theorem vZ.reg:Reg D:=by
 have hr:=EA h
 refine⟨fun d hd=> ?_,fun i hi=> ?_⟩
 ·obtain⟨i,hi,rfl⟩:=List.getElem_of_mem hd
  rw[←ao hi [],s.same.2 i]
  have:i<C.length:=by rw[←s.same.1];exact hi
  exact hr.1 _ (by rw[ao this];exact List.getElem_mem this)
 ·rw[s.same.2,s.same.2];exact hr.2 i (by rw[←s.same.1];exact hi)
theorem vZ.up:(D.getD c []).Pairwise (· < ·):=by
 rw[s.col]
 by_cases hc:c<C.length
 ·rw[ao hc];exact((yO h).1 _ (List.getElem_mem hc)).2
 ·rw[uT (by omega)];exact List.Pairwise.nil
theorem vZ.step(hr:fX (D.getD c []) x<(D.getD c []).length):c<D.length∧vZ C z (D.set c ((D.getD c []).set (fX (D.getD c []) x) x)) (c+1) ((D.getD c []).getD (fX (D.getD c []) x) 0):=by
 have hc:c<D.length:=Nat.lt_of_not_le fun hle=>by rw[uT hle]at hr;simp at hr
 refine⟨hc,⟨⟨by rw[List.length_set];exact s.same.1,fun i=> ?_⟩,?_,?_,by rw[List.length_set];exact hc⟩⟩
 ·rw[←s.same.2 i]
  by_cases e:i=c
  ·subst e;rw[gss hc,List.length_set]
  ·rw[getD_set_ne (fun h=>e h.symm)]
 ·have:=congrArg List.tail s.rest
  rw[List.tail_drop,List.tail_drop]at this
  rw[List.drop_set_of_lt (Nat.lt_succ_self _)]
  exact this
 ·rw[←s.inv,drop_cons hc [],List.drop_set_of_lt (Nat.lt_succ_self _),List.take_succ_eq_append_getElem (by rw[List.length_set];exact hc),List.take_set_of_le (Nat.le_refl _),List.getElem_set_self]
  show _=D.take c++(if fX (D.getD c []) x<(D.getD c []).length then _ else _)
  rw[if_pos hr]
  simp only[List.append_assoc,List.singleton_append]
theorem vZ.fin(hr: ¬fX (D.getD c []) x<(D.getD c []).length):cD (Bb C z)=lz (cD D) (D.getD c []).length x∧(D.getD c []).length≤(cD D).length∧((cD D).getD (D.getD c []).length []).length=c:=by
 have e:lz D c x=Bb C z:=by
  rw[←s.inv]
  unfold lz
  by_cases hc:c=D.length
  ·rw[if_pos hc,hc,List.take_length,List.drop_length];rfl
  ·have hlt:c<D.length:=by have:=s.le;omega
   rw[if_neg hc,drop_cons hlt []]
   show _=D.take c++(if fX (D.getD c []) x<(D.getD c []).length then _ else _)
   rw[if_neg hr,List.set_eq_take_append_cons_drop,if_pos hlt]
 have:=ES (s.reg h) s.le x (by rw[e];exact EA (E1 C z h))
 rw[e]at this
 exact this
end
end Go.Am.Pu
end
section
/- Plain laws: columns gathered row by row. -/
namespace Go.Am.Pu
set_option linter.unusedVariables false
section
variable {C : List (List Int)} {x : Int} {c : Nat}
end
end Go.Am.Pu
end
section
/- Plain laws: a word turned about and complemented. -/
namespace Go.Am.Pu
set_option linter.unusedVariables false
end Go.Am.Pu
end
section
/- Plain laws: evacuation is insertion of the word turned about. -/
namespace Go.Am.Pu
set_option linter.unusedVariables false
theorem Kn.perm{u v:List Int}(h:Kn u v):u.Perm v:=by
 induction h with
 |refl w=>exact .refl _
 |symm _ ih=>exact ih.symm
 |trans _ _ h1 h2=>exact h1.trans h2
 |tri a b t=>
  refine(List.Perm.append_left a ?_).append_right b
  obtain⟨x,y,z,⟨_,_,rfl,rfl⟩|⟨_,_,rfl,rfl⟩⟩:=t
  ·exact(List.Perm.swap x z []).cons y
  ·exact List.Perm.swap z x [y]
end Go.Am.Pu
end
section
/- Plain laws: evacuating a standard tableau twice. -/
namespace Go.Am.Pu
set_option linter.unusedVariables false
end Go.Am.Pu
end
section
/- Texts as lists of bytes. Plain words. -/
namespace Go.Am.Pu
open Go Go.Am
def tx(l:List UInt8):ByteArray:=⟨l.toArray⟩
theorem Cw(l:List UInt8):(tx l).size=l.length:=rfl
theorem Hv(a b:List UInt8):tx a++tx b=tx (a++b):=by
 apply ByteArray.ext
 rw[ByteArray.data_append]
 show a.toArray++b.toArray=(a++b).toArray
 simp
theorem ok_eq{α:Type}{x:Option α}{v:α}(h:Ok x (· =v)):x=some v:=by
 obtain⟨y,e,hy⟩:=h
 rw[e,hy]
theorem FQ{α:Type}{x:Option α}{v:α}(h:x=some v):Ok x (· =v):=⟨v,h,rfl⟩
def dcm(n:Int):List UInt8:=Lib.decDigits n.toNat
theorem xF{n:Int}(h:n<10):dcm n= [UInt8.ofNat (48+n.toNat)]:=by
 unfold dcm
 rw[Lib.decDigits,dif_pos (by omega)]
theorem F8{n:Int}(h0:10≤n)(h:n<100):dcm n= [UInt8.ofNat (48+n.toNat/10),UInt8.ofNat (48+n.toNat % 10)]:=by
 unfold dcm
 rw[Lib.decDigits,dif_neg (by omega),Lib.decDigits,dif_pos (by omega)]
 rfl
theorem Cz{n:Int}(h:n<100):(dcm n).length≤2:=by
 by_cases c:n<10
 ·rw[xF c];simp
 ·rw[F8 (by omega) h];simp
theorem Di{n:Int}(h0:0≤n)(h:n<100):sH n=some (tx (dcm n)):=by
 unfold sH
 rw[if_pos ⟨h0,h⟩];rfl
theorem Ch: ∀(ws:List (List UInt8)) (m:Nat),(∀w∈ws,w.length≤m)→Lib.lens ws≤ws.length*m
 | [],m,_=>by simp[Lib.lens]
 |w::r,m,h=>by
  have h1:=h w (by simp)
  have h2:=Ch r m (fun x hx=>h x (by simp[hx]))
  have e:Lib.lens (w::r)=w.length+Lib.lens r:=by simp[Lib.lens]
  rw[e,List.length_cons,Nat.succ_mul]
  omega
theorem FE(ws:List (List UInt8))(sep:List UInt8)(m:Nat)(h: ∀w∈ws,w.length≤m):(Lib.join ws sep).length≤ws.length*(m+sep.length):=by
 cases ws with
 |nil=>simp[Lib.join_nil]
 |cons w r=>
  rw[Lib.join_cons,List.length_append,Lib.joinTail_length,List.length_cons,Nat.succ_mul,Nat.mul_add]
  have h1:=h w (by simp)
  have h2:=Ch r m (fun x hx=>h x (by simp[hx]))
  have:=Nat.mul_comm sep.length r.length
  omega
theorem DB{ws:List (List UInt8)}{sep:List UInt8}(h1:ws.length≤1000)(h2: ∀w∈ws,w.length≤10000)(hs:sep.length≤10):sg (ws.map tx) (tx sep)=some (tx (Lib.join ws sep)):=by
 unfold sg
 have e:(ws.map tx).map (fun s:ByteArray=>s.data.toList)=ws:=by
  rw[List.map_map]
  conv=>rhs;rw[←List.map_id ws]
  rfl
 have e2:(tx sep).data.toList=sep:=rfl
 simp only[e,e2]
 have hl:=FE ws sep 10000 h2
 have:ws.length*(10000+sep.length)≤1000*10010:=Nat.mul_le_mul h1 (by omega)
 rw[if_pos ⟨by rw[List.length_map];omega,by omega⟩]
 rfl
theorem tq: ∀n:Nat,Lib.repeatL [46] n=List.replicate n 46
 |0=>rfl
 |n+1=>by rw[Lib.repeatL,tq n];rfl
theorem EX{n:Int}(h0:0≤n)(h:n≤1000):xa (tx [46]) n=some (tx (List.replicate n.toNat 46)):=by
 unfold xa
 have e:(tx [46]).size=1:=rfl
 have e2:(tx [46]).data.toList= [46]:=rfl
 rw[e,e2,if_pos ⟨h0,by omega,by omega⟩,tq]
 rfl
theorem BY(ws:List (List UInt8)):Lib.join ws []=ws.flatten:=by
 cases ws with
 |nil=>rfl
 |cons w r=>
  rw[Lib.join_cons]
  unfold Lib.joinTail
  simp
def gU(w:List Int):List UInt8:=w.flatMap dcm
theorem zQ(w:List Int):Lib.join (w.map dcm) []=gU w:=by
 rw[BY];rfl
theorem Bx{w:List Int}(h: ∀x∈w,x<100):(gU w).length≤w.length*2:=by
 induction w with
 |nil=>simp[gU]
 |cons x r ih=>
  have:=Cz (h x (by simp))
  have:=ih (fun y hy=>h y (by simp[hy]))
  simp only[gU,List.flatMap_cons,List.length_append,List.length_cons]at*
  omega
def pN(t:Tab)(i:Nat):List UInt8:=List.replicate (atI t.1 i).toNat 46++gU (t.2.getD i [])
def bj(t:Tab):List UInt8:=if fj t=true then(if t.2= []then [45]else Lib.join ((List.range t.2.length).map (pN t)) [47])else []
end Go.Am.Pu
namespace Go.Am.Pu
end Go.Am.Pu
namespace Go.Am.Pu
end Go.Am.Pu
namespace Go.Am.Pu
theorem qB{t:Tab}(h:fj t=true):eG 9 9 t.2:=by
 obtain⟨h1,h2,h3,h4⟩:=jP h
 obtain⟨b1,_,b3,_⟩:=aW h2
 have hl:(outer t).length=t.2.length:=cy t
 refine⟨by omega,fun r hr=> ?_⟩
 obtain⟨i,hi,rfl⟩:=List.getElem_of_mem hr
 have e:=eP t.1 t.2 0 i hi
 have hm:(outer t).getD i 0∈outer t:=by rw[ao (show i<(outer t).length by omega) _];exact List.getElem_mem _
 have h9:=(b1 _ hm).2
 have h0:=(lY h1 (0+i)).1
 have e':(outer t).getD i 0=t.1.getD (0+i) 0+(t.2.getD i []).length:=e
 rw[ao hi]at e'
 omega
theorem mU{t:Tab}(h:fj t=true){i:Nat}{x:Int}(hx:x∈t.2.getD i []):1≤x∧x≤9:=by
 obtain⟨q,hq,rfl⟩:=List.getElem_of_mem hx
 have hi:i<t.2.length:=by
  by_cases c:i<t.2.length
  ·exact c
  ·rw[List.getD_eq_getElem?_getD,List.getElem?_eq_none (by omega)]at hq;simp at hq
 have:=(jP h).2.2.2 i q hi hq
 simp only[gF,within,Bool.and_eq_true,decide_eq_true_eq]at this
 rw[ao hq]at this
 exact this.1
theorem wO{t:Tab}(h:fj t=true)(i:Nat):(pN t i).length≤100:=by
 unfold pN
 rw[List.length_append,List.length_replicate]
 have h1:=dO (jP h).1 i
 have h2:=Bx (w:=t.2.getD i []) (fun x hx=>by have:=(mU h hx).2;omega)
 have h3:=(qB h).at i
 omega
end Go.Am.Pu
end
section
/- Inversions, major index, lattice words, raising: plain words. -/
namespace Go.Am.Pu
open Go Go.Am
def G6(w:List Int)(k:Nat):Nat→Nat→Int
 |0,_=>0
 |m+1,i=>(if w.getD k 0<w.getD i 0 then 1 else 0)+G6 w k m (i+1)
def GX(w:List Int):Nat→Nat→Int
 |0,_=>0
 |m+1,k=>G6 w k k 0+GX w m (k+1)
def inv(w:List Int):Int:=if isWord w=true then GX w w.length 0 else-1
end Go.Am.Pu
namespace Go.Am.Pu
end Go.Am.Pu
end
section
/- Examples are words, and are described. Plain words. -/
namespace Go.Am.Pu
open Go Go.Am
end Go.Am.Pu
end
section
/- All fillings of a shape by numbers, in the order in which the program lists them. Plain words. -/
namespace Go.Am.Pu
def ew(m:List Int)(R:List (List Int))(i:Nat):Int:=m.getD i 0+((R.getD i []).length:Int)
def shut(m o:List Int)(k:Int)(R:List (List Int))(i:Nat):Bool:=
 decide (ew m R i=o.getD i 0)||(decide (0<i)&&(decide (m.getD (i-1) 0≤ew m R i)&&(decide (entry (m,R) ((i:Int)-1) (ew m R i)=0)||decide (entry (m,R) ((i:Int)-1) (ew m R i)=k))))
def cL(k:Int)(R:List (List Int))(i:Nat):List (List Int):=R.set i (R.getD i []++ [k])
def ku(m o:List Int)(k:Int)(rest:List (List Int)→List Tab):Nat→Nat→Nat→List (List Int)→List Tab
 |0,_,_,R=>rest R
 |_+1,0,_,_=> []
 |l+1,q+1,i,R=>(if shut m o k R i=true then []else ku m o k rest l (q+1) i (cL k R i))++ku m o k rest (l+1) q (i+1) R
termination_by l q => (l, q)
def jt(m o:List Int):List Int→Int→List (List Int)→List Tab
 | [],_,R=> [(m,R)]
 |w::ws,k,R=>ku m o k (jt m o ws (k+1)) w.toNat o.length 0 R
def nA(m o:List Int)(R:List (List Int)):Prop:=R.length=o.length∧ ∀i,i<o.length→ew m R i≤o.getD i 0
theorem iD(k:Int)(R:List (List Int))(i:Nat):(cL k R i).length=R.length:=by unfold cL;rw[List.length_set]
theorem gA(k:Int)(R:List (List Int))(i j:Nat):(cL k R i).getD j []=if i=j∧j<R.length then R.getD i []++ [k]else R.getD j []:=by
 unfold cL
 simp only[List.getD_eq_getElem?_getD,List.getElem?_set]
 by_cases h:i=j
 ·subst h
  by_cases h2:i<R.length
  ·simp[h2]
  ·rw[if_pos rfl,if_neg h2,if_neg (fun h=>h2 h.2),List.getElem?_eq_none (by omega)]
 ·rw[if_neg h,if_neg (fun hh=>h hh.1)]
theorem Cu{m o:List Int}{k:Int}{R:List (List Int)}{i:Nat}(h:nA m o R)(hi:i<o.length)(hs:shut m o k R i=false):nA m o (cL k R i):=by
 refine⟨by rw[iD];exact h.1,fun j hj=> ?_⟩
 have h1:=h.2 j hj
 unfold ew at*
 rw[gA]
 by_cases c:i=j∧j<R.length
 ·rw[if_pos c]
  obtain⟨rfl,c2⟩:=c
  unfold shut ew at hs
  simp only[Bool.or_eq_false_iff,decide_eq_false_iff_not]at hs
  have:=hs.1
  rw[List.length_append,List.length_singleton]
  omega
 ·rw[if_neg c];exact h1
theorem DA(k:Int){R:List (List Int)}{i:Nat}(hi:i<R.length):(cL k R i).set i (((cL k R i).getD i []).take (R.getD i []).length)=R:=by
 rw[gA,if_pos ⟨rfl,hi⟩,List.take_append_of_le_length (Nat.le_refl _),List.take_length]
 unfold cL
 rw[List.set_set,ao hi,List.set_getElem_self]
theorem kP(m o:List Int)(k:Int)(rest:List (List Int)→List Tab)(q i:Nat)(R:List (List Int)):ku m o k rest 0 q i R=rest R:=by rw[ku]
theorem oZ(m o:List Int)(k:Int)(rest:List (List Int)→List Tab)(l i:Nat)(R:List (List Int)):ku m o k rest (l+1) 0 i R= []:=by rw[ku]
theorem oQ(m o:List Int)(k:Int)(rest:List (List Int)→List Tab)(l q i:Nat)(R:List (List Int)):
  ku m o k rest (l+1) (q+1) i R=(if shut m o k R i=true then []else ku m o k rest l (q+1) i (cL k R i))++ku m o k rest (l+1) q (i+1) R:=by rw[ku]
theorem q7{m o:List Int}{k:Int}{rest:List (List Int)→List Tab}{B:Nat}(hB: ∀R,(rest R).length≤B): ∀(l q i:Nat) (R:List (List Int)),(ku m o k rest l q i R).length≤q^l*B
 |0,q,i,R=>by rw[kP,Nat.pow_zero,Nat.one_mul];exact hB R
 |l+1,0,i,R=>by rw[oZ];simp
 |l+1,q+1,i,R=>by
  rw[oQ,List.length_append]
  have h1:=q7 (k:=k) hB (m:=m) (o:=o) l (q+1) i (cL k R i)
  have h2:=q7 (k:=k) hB (m:=m) (o:=o) (l+1) q (i+1) R
  have h3:(if shut m o k R i=true then []else ku m o k rest l (q+1) i (cL k R i)).length≤(q+1)^l*B:=by
   split
   ·simp
   ·exact h1
  have h4:q^(l+1)*B≤(q+1)^l*B*q:=by
   have:q^l≤(q+1)^l:=Nat.pow_le_pow_left (by omega) l
   calc q^(l+1)*B=q^l*(B*q):=by rw[Nat.pow_succ,Nat.mul_assoc,Nat.mul_comm q B]
    _≤(q+1)^l*(B*q):=Nat.mul_le_mul_right _ this
    _=(q+1)^l*B*q:=by rw[Nat.mul_assoc]
  have h5:(q+1)^(l+1)*B=(q+1)^l*B*q+(q+1)^l*B:=by
   rw[Nat.pow_succ,Nat.mul_assoc,Nat.mul_comm (q+1) B,←Nat.mul_assoc,Nat.mul_succ]
  rw[h5]
  omega
termination_by l q => (l, q)
def eV(w:List Int):Nat:=(w.map fun x=>x.toNat).sum
theorem mP(m o:List Int): ∀(ws:List Int) (k:Int) (R:List (List Int)),(jt m o ws k R).length≤o.length^eV ws
 | [],k,R=>by simp[jt,eV]
 |w::ws,k,R=>by
  have:=q7 (m:=m) (o:=o) (k:=k) (fun R=>mP m o ws (k+1) R) w.toNat o.length 0 R
  have e:eV (w::ws)=w.toNat+eV ws:=by simp[eV]
  rw[jt,e,Nat.pow_add]
  exact this
end Go.Am.Pu
end
section
/- Tableaux in the order of their texts. Plain words. -/
namespace Go.Am.Pu
open Go
attribute [local instance] D.real
abbrev bl(a b:List UInt8):Bool:=Op.bytesLess a b
theorem sL: ∀a,bl a a=false
 | []=>rfl
 |x::a=>by
  show(decide (x<x)||(x==x&&bl a a))=false
  rw[sL a,Bool.and_false,Bool.or_false]
  exact decide_eq_false (UInt8.lt_irrefl x)
theorem tU{x y:UInt8}{a b:List UInt8}:bl (x::a) (y::b)=true↔x<y∨(x=y∧bl a b=true):=by
 show(decide (x<y)||(x==y&&bl a b))=true↔_
 rw[Bool.or_eq_true,Bool.and_eq_true,decide_eq_true_eq,beq_iff_eq]
theorem qN: ∀a b c,bl a b=true→bl b c=true→bl a c=true
 |_,[],_,h,_=>by simp[bl,Op.bytesLess]at h
 |_,_::_,[],_,h=>by simp[bl,Op.bytesLess]at h
 | [],_::_,_::_,_,_=>rfl
 |x::a,y::b,z::c,h1,h2=>by
  rw[tU]at*
  rcases h1 with h1|⟨rfl,h1⟩
  ·rcases h2 with h2|⟨rfl,h2⟩
   ·exact .inl (UInt8.lt_trans h1 h2)
   ·exact .inl h1
  ·rcases h2 with h2|⟨rfl,h2⟩
   ·exact .inl h2
   ·exact .inr ⟨rfl,qN a b c h1 h2⟩
theorem u9: ∀a b,bl a b=false→bl b a=false→a=b
 | [],[],_,_=>rfl
 | [],_::_,h,_=>by cases h
 |_::_,[],_,h=>by cases h
 |x::a,y::b,h1,h2=>by
  have h1': ¬(x<y∨(x=y∧bl a b=true)):=fun h=>by rw[←tU]at h;rw[h1]at h;cases h
  have h2': ¬(y<x∨(y=x∧bl b a=true)):=fun h=>by rw[←tU]at h;rw[h2]at h;cases h
  have e:x=y:=by
   refine Classical.byContradiction fun hne=> ?_
   have:y<x:=UInt8.lt_of_le_of_ne (UInt8.not_lt.1 fun h=>h1' (.inl h)) (Ne.symm hne)
   exact h2' (.inl this)
  subst e
  rw[u9 a b (by cases h:bl a b with|false=>rfl|true=>exact absurd (.inr ⟨rfl,h⟩) h1') (by cases h:bl b a with|false=>rfl|true=>exact absurd (.inr ⟨rfl,h⟩) h2')]
theorem wZ{a b c:List UInt8}(h1:bl a b=false)(h2:bl b c=false):bl a c=false:=by
 cases h:bl a c with
 |false=>rfl
 |true=>
  cases h3:bl b a with
  |true=>rw[qN b a c h3 h]at h2;cases h2
  |false=>
   have:=u9 a b h1 h3
   subst this
   rw[h]at h2;cases h2
theorem Fq: ∀a b,Lib.compareBytes a b<0↔bl a b=true
 | [],[]=>by simp[Lib.compareBytes,bl,Op.bytesLess]
 | [],_::_=>by simp[Lib.compareBytes,bl,Op.bytesLess]
 |_::_,[]=>by simp[Lib.compareBytes,bl,Op.bytesLess]
 |x::a,y::b=>by
  rw[tU]
  unfold Lib.compareBytes
  by_cases h:x<y
  ·rw[if_pos h];simp[h]
  ·rw[if_neg h]
   by_cases h2:y<x
   ·rw[if_pos h2]
    have:x≠y:=fun e=>by subst e;exact UInt8.lt_irrefl x h2
    simp[h,this]
   ·rw[if_neg h2,Fq a b]
    have:x=y:=by
     refine Classical.byContradiction fun hne=> ?_
     exact h2 (UInt8.lt_of_le_of_ne (UInt8.not_lt.1 h) (Ne.symm hne))
    simp[h,this]
def putAt(l:List Tab)(t:Tab):Nat→Nat
 |0=>0
 |a+1=>if bl (bj t) (bj (l.getD a ([],[])))=true then putAt l t a else a+1
def AT(l:List Tab)(t:Tab):List Tab:=l.take (putAt l t l.length)++t::l.drop (putAt l t l.length)
def pM(l:List Tab):List Tab:=l.foldl AT []
def jZ(l:List Tab):Prop:=l.Pairwise fun a b=>bl (bj b) (bj a)=false
theorem yZ(l:List Tab)(t:Tab): ∀a,putAt l t a≤a
 |0=>Nat.le_refl _
 |a+1=>by
  unfold putAt
  split
  ·have:=yZ l t a;omega
  ·omega
theorem AK(l:List Tab)(t:Tab): ∀a i,putAt l t a≤i→i<a→bl (bj t) (bj (l.getD i ([],[])))=true
 |0,i,_,h=>by omega
 |a+1,i,h1,h2=>by
  unfold putAt at h1
  split at h1
  ·next h=>
   by_cases e:i=a
   ·subst e;exact h
   ·exact AK l t a i h1 (by omega)
  ·omega
theorem Ac(l:List Tab)(t:Tab): ∀a,0<putAt l t a→bl (bj t) (bj (l.getD (putAt l t a-1) ([],[])))=false
 |0,h=>by simp[putAt]at h
 |a+1,h=>by
  unfold putAt at h⊢
  split
  ·next e=>rw[if_pos e]at h;exact Ac l t a h
  ·next e=>simpa using e
theorem DS(l:List Tab)(t:Tab):(AT l t).Perm (t::l):=by
 unfold AT
 refine List.perm_middle.trans ?_
 rw[List.take_append_drop]
theorem zS{l:List Tab}{t:Tab}(h:jZ l):jZ (AT l t):=by
 unfold jZ AT
 have hlen:=yZ l t l.length
 have hg: ∀i j,i<j→j<l.length→bl (bj (l.getD j ([],[]))) (bj (l.getD i ([],[])))=false:=fun i j hij hj=>by
  have:=List.pairwise_iff_getElem.1 h i j (by omega) hj hij
  rw[ao hj,ao (show i<l.length by omega)]
  exact this
 rw[List.pairwise_append]
 refine⟨h.sublist (List.take_sublist _ _),?_,?_⟩
 ·rw[List.pairwise_cons]
  refine⟨fun b hb=> ?_,h.sublist (List.drop_sublist _ _)⟩
  obtain⟨i,hi,rfl⟩:=List.getElem_of_mem hb
  rw[List.length_drop]at hi
  rw[List.getElem_drop]
  have:=AK l t l.length (putAt l t l.length+i) (by omega) (by omega)
  rw[ao (show putAt l t l.length+i<l.length by omega)]at this
  cases hb2:bl (bj l[putAt l t l.length+i]) (bj t)with
  |false=>rfl
  |true=>
   have:=qN _ _ _ this hb2
   rw[sL]at this;cases this
 ·intro a ha b hb
  obtain⟨i,hi,rfl⟩:=List.getElem_of_mem ha
  rw[List.length_take]at hi
  rw[List.getElem_take]
  have hat:bl (bj t) (bj (l.getD i ([],[])))=false:=by
   have h1:=Ac l t l.length (by omega)
   by_cases e:i=putAt l t l.length-1
   ·rw[e];exact h1
   ·exact wZ h1 (hg i _ (by omega) (by omega))
  rw[ao (show i<l.length by omega)]at hat
  rcases List.mem_cons.1 hb with rfl|hb
  ·exact hat
  ·obtain⟨j,hj,rfl⟩:=List.getElem_of_mem hb
   rw[List.length_drop]at hj
   rw[List.getElem_drop]
   have:=hg i (putAt l t l.length+j) (by omega) (by omega)
   rwa [ao (show putAt l t l.length+j<l.length by omega),ao (show i<l.length by omega)]at this
theorem rJ: ∀(xs l:List Tab),jZ l→jZ (xs.foldl AT l)∧(xs.foldl AT l).Perm (xs++l)
 | [],l,h=>⟨h,List.Perm.refl _⟩
 |t::xs,l,h=>by
  obtain⟨h1,h2⟩:=rJ xs (AT l t) (zS h)
  refine⟨h1,h2.trans ?_⟩
  have:=(DS l t).append_left xs
  exact this.trans List.perm_middle
theorem qD(l:List Tab):jZ (pM l):=(rJ l [] List.Pairwise.nil).1
theorem kW(l:List Tab):(pM l).Perm l:=by
 have:=(rJ l [] List.Pairwise.nil).2
 rwa [List.append_nil]at this
theorem Dx(l:List Tab):(pM l).length=l.length:=(kW l).length_eq
theorem v7: ∀{l l':List Tab},l.Perm l'→jZ l→jZ l'→(∀a∈l,∀b∈l,bj a=bj b→a=b)→l=l'
 | [],l',hp,_,_,_=>(List.nil_perm.1 hp).symm
 |x::l,[],hp,_,_,_=>by have:=hp.length_eq;simp at this
 |x::l,y::l',hp,h1,h2,hi=>by
  have hx:x∈y::l':=hp.mem_iff.1 (by simp)
  have hy:y∈x::l:=hp.mem_iff.2 (by simp)
  have e:x=y:=by
   rcases List.mem_cons.1 hx with e|hx
   ·exact e
   rcases List.mem_cons.1 hy with e|hy
   ·exact e.symm
   refine hi x (by simp) y (by simp[hy]) (u9 _ _ ?_ ?_)
   ·exact(List.pairwise_cons.1 h2).1 x hx
   ·exact(List.pairwise_cons.1 h1).1 y hy
  subst e
  rw[v7 (List.Perm.cons_inv hp) (List.pairwise_cons.1 h1).2 (List.pairwise_cons.1 h2).2 fun a ha b hb=>hi a (by simp[ha]) b (by simp[hb])]
theorem Hb{F:Tab→Tab→Option Int}{xs:List Tab}(hF: ∀a∈xs,∀b∈xs,F a b=some (Lib.compareBytes (bj a) (bj b)))(hi: ∀a∈xs,∀b∈xs,bj a=bj b→a=b)(hl:xs.length<4611686018427387904):D.srt F xs=some (pM xs):=by
 have hl': ∀a∈xs,∀b∈xs,lQ F a b↔bl (bj a) (bj b)=true:=fun a ha b hb=>by
  unfold lQ
  rw[hF a ha b hb]
  exact Fq _ _
 have hn: ∀a∈xs,∀b∈xs,¬lQ F a b↔bl (bj a) (bj b)=false:=fun a ha b hb=>by
  rw[hl' a ha b hb];cases bl (bj a) (bj b)<;>simp
 have hs: ∀ys,nz F xs ys→jZ ys:=fun ys ⟨h1,h2⟩=>by
  unfold jZ
  rw[List.pairwise_iff_getElem]
  intro i j hi hj hij
  exact(hn _ (h1.mem_iff.1 (List.getElem_mem hj)) _ (h1.mem_iff.1 (List.getElem_mem hi))).1 (h2 i j _ _ hij (List.getElem?_eq_getElem hi) (List.getElem?_eq_getElem hj))
 have hu: ∀zs,nz F xs zs→zs=pM xs:=fun zs hz=>
  v7 (hz.1.trans (kW xs).symm) (hs zs hz) (qD xs) fun a ha b hb=>hi a (hz.1.mem_iff.1 ha) b (hz.1.mem_iff.1 hb)
 have h0:nz F xs (pM xs):=⟨kW xs,fun i j a b hij ha hb=>by
  obtain⟨hi',ea⟩:=List.getElem?_eq_some_iff.1 ha
  obtain⟨hj',eb⟩:=List.getElem?_eq_some_iff.1 hb
  have ha':a∈xs:=(kW xs).mem_iff.1 (ea▸List.getElem_mem hi')
  have hb':b∈xs:=(kW xs).mem_iff.1 (eb▸List.getElem_mem hj')
  refine(hn b hb' a ha').2 ?_
  have:=List.pairwise_iff_getElem.1 (qD xs) i j hi' hj' hij
  rw[ea,eb]at this
  exact this⟩
 have hok:B6 F xs:=⟨hl,fun a ha b hb=>by rw[hF a ha b hb];rfl,fun a ha=>(hn a ha a ha).2 (sL _),fun a ha b hb c hc h1 h2=>(hl' a ha c hc).2 (qN _ _ _ ((hl' a ha b hb).1 h1) ((hl' b hb c hc).1 h2)),
  fun a ha b hb c hc h1 h2=>(hn a ha c hc).2 (wZ ((hn a ha b hb).1 h1) ((hn b hb c hc).1 h2)),pM xs,h0,hu⟩
 show Ea F xs=_
 unfold Ea
 rw[dif_pos hok]
 congr 1
 exact hu _ (Classical.choose_spec hok.2.2.2.2.2).1
end Go.Am.Pu
end
section
/- Texts tell tableaux apart; all fillings are tableaux. Plain words. -/
namespace Go.Am.Pu
open Go
theorem Fh: ∀(w w' s s':List UInt8),(47:UInt8)∉w→(47:UInt8)∉w'→(s= []∨ ∃r,s=47::r)→(s'= []∨ ∃r,s'=47::r)→w++s=w'++s'→w=w'∧s=s'
 | [],[],s,s',_,_,_,_,h=>⟨rfl,h⟩
 | [],x::w',s,s',_,h2,h3,_,h=>by
  rcases h3 with rfl|⟨r,rfl⟩
  ·cases h
  ·injection h with h _
   exact absurd (h▸List.mem_cons_self) h2
 |x::w,[],s,s',h1,_,_,h4,h=>by
  rcases h4 with rfl|⟨r,rfl⟩
  ·cases h
  ·injection h with h _
   exact absurd (h▸List.mem_cons_self) h1
 |x::w,y::w',s,s',h1,h2,h3,h4,h=>by
  injection h with ha hb
  obtain⟨e1,e2⟩:=Fh w w' s s' (fun hh=>h1 (List.mem_cons_of_mem _ hh)) (fun hh=>h2 (List.mem_cons_of_mem _ hh)) h3 h4 hb
  exact⟨by rw[ha,e1],e2⟩
theorem yb(r:List (List UInt8)):Lib.joinTail [47] r= []∨ ∃q,Lib.joinTail [47] r=47::q:=by
 cases r with
 |nil=>exact .inl rfl
 |cons w r=>exact .inr ⟨_,rfl⟩
theorem rA: ∀(l l':List (List UInt8)),l.length=l'.length→(∀w∈l,(47:UInt8)∉w)→(∀w∈l',(47:UInt8)∉w)→Lib.joinTail [47] l=Lib.joinTail [47] l'→l=l'
 | [],[],_,_,_,_=>rfl
 | [],_::_,h,_,_,_=>by simp at h
 |_::_,[],h,_,_,_=>by simp at h
 |w::l,w'::l',h,h1,h2,he=>by
  have e: ∀(w:List UInt8) l,Lib.joinTail [47] (w::l)=47::(w++Lib.joinTail [47] l):=fun w l=>rfl
  rw[e,e]at he
  injection he with _ he
  obtain⟨e1,e2⟩:=Fh w w' _ _ (h1 w (by simp)) (h2 w' (by simp)) (yb l) (yb l') he
  rw[e1,rA l l' (by simpa using h) (fun x hx=>h1 x (by simp[hx])) (fun x hx=>h2 x (by simp[hx])) e2]
theorem EV{l l':List (List UInt8)}(h:l.length=l'.length)(h1: ∀w∈l,(47:UInt8)∉w)(h2: ∀w∈l',(47:UInt8)∉w)(he:Lib.join l [47]=Lib.join l' [47]):l=l':=by
 cases l with
 |nil=>
  cases l' with
  |nil=>rfl
  |cons _ _=>simp at h
 |cons w l=>
  cases l' with
  |nil=>simp at h
  |cons w' l'=>
   rw[Lib.join_cons,Lib.join_cons]at he
   obtain⟨e1,e2⟩:=Fh w w' _ _ (h1 w (by simp)) (h2 w' (by simp)) (yb l) (yb l') he
   rw[e1,rA l l' (by simpa using h) (fun x hx=>h1 x (by simp[hx])) (fun x hx=>h2 x (by simp[hx])) e2]
theorem n5{x:Int}(h1:1≤x)(h9:x≤9):dcm x= [UInt8.ofNat (48+x.toNat)]∧(UInt8.ofNat (48+x.toNat)).toNat=48+x.toNat:=by
 refine⟨xF (by omega),?_⟩
 rw[UInt8.toNat_ofNat']
 omega
theorem vM: ∀(w w':List Int),(∀x∈w,1≤x∧x≤9)→(∀x∈w',1≤x∧x≤9)→gU w=gU w'→w=w'
 | [],[],_,_,_=>rfl
 | [],y::w',_,h2,h=>by
  have e:gU (y::w')=dcm y++gU w':=rfl
  rw[e,(n5 (h2 y (by simp)).1 (h2 y (by simp)).2).1]at h
  cases h
 |x::w,[],h1,_,h=>by
  have e:gU (x::w)=dcm x++gU w:=rfl
  rw[e,(n5 (h1 x (by simp)).1 (h1 x (by simp)).2).1]at h
  cases h
 |x::w,y::w',h1,h2,h=>by
  have e: ∀(x:Int) w,gU (x::w)=dcm x++gU w:=fun _ _=>rfl
  obtain⟨a1,a2⟩:=h1 x (by simp)
  obtain⟨b1,b2⟩:=h2 y (by simp)
  obtain⟨c1,c2⟩:=n5 a1 a2
  obtain⟨d1,d2⟩:=n5 b1 b2
  rw[e,e,c1,d1]at h
  injection h with h3 h4
  have h5:=congrArg UInt8.toNat h3
  rw[c2,d2]at h5
  rw[vM w w' (fun z hz=>h1 z (by simp[hz])) (fun z hz=>h2 z (by simp[hz])) h4,show x=y by omega]
theorem xH: ∀(w:List Int),(∀x∈w,1≤x∧x≤9)→ ∀b∈gU w,48≤b.toNat
 | [],_,b,hb=>by cases hb
 |x::w,h,b,hb=>by
  have e:gU (x::w)=dcm x++gU w:=rfl
  obtain⟨c1,c2⟩:=n5 (h x (by simp)).1 (h x (by simp)).2
  rw[e,c1]at hb
  rcases List.mem_append.1 hb with hb|hb
  ·simp only[List.mem_singleton]at hb
   subst hb
   omega
  ·exact xH w (fun z hz=>h z (by simp[hz])) b hb
theorem zL{t:Tab}(h:fj t=true)(i:Nat):(47:UInt8)∉pN t i:=by
 intro hb
 unfold pN at hb
 rcases List.mem_append.1 hb with hb|hb
 ·have:=(List.mem_replicate.1 hb).2
  revert this;decide
 ·have:=xH _ (fun x hx=>mU h hx) _ hb
  revert this;decide
theorem FT{a b:Tab}(ha:fj a=true)(hb:fj b=true)(h1:a.1=b.1)(h2:a.2.length=b.2.length)(h:bj a=bj b):a=b:=by
 unfold bj at h
 rw[if_pos ha,if_pos hb]at h
 by_cases e:a.2= []
 ·have e':b.2= []:=List.eq_nil_of_length_eq_zero (by rw[←h2,e];rfl)
  exact Prod.ext h1 (by rw[e,e'])
 ·have e':b.2≠ []:=fun e'=>e (List.eq_nil_of_length_eq_zero (by rw[h2,e'];rfl))
  rw[if_neg e,if_neg e']at h
  have hj:=EV (by simp[h2]) (fun w hw=>by obtain⟨i,_,rfl⟩:=List.mem_map.1 hw;exact zL ha i) (fun w hw=>by obtain⟨i,_,rfl⟩:=List.mem_map.1 hw;exact zL hb i) h
  refine Prod.ext h1 (List.ext_getElem h2 fun i hi hi'=> ?_)
  have hr:pN a i=pN b i:=by
   have:=congrArg (fun l=>l[i]?) hj
   simpa[hi,hi',h2]using this
  unfold pN at hr
  rw[h1]at hr
  have hw:=List.append_cancel_left hr
  rw[ao hi,ao hi']at hw
  exact vM _ _ (fun x hx=>mU (i:=i) ha (by rw[ao hi];exact hx)) (fun x hx=>mU (i:=i) hb (by rw[ao hi'];exact hx)) hw
end Go.Am.Pu
end
section
/- All fillings are tableaux. Plain words. -/
namespace Go.Am.Pu
open Go
theorem qn{t:Tab}{i q:Nat}:gF t i q=true↔(1≤cel t.2 i q∧cel t.2 i q≤9)∧(q=0∨cel t.2 i (q-1)≤cel t.2 i q)∧(i=0∨entry t ((i:Int)-1) (t.1.getD i 0+q)<cel t.2 i q):=by
 unfold gF within cel
 simp only[Bool.and_eq_true,Bool.or_eq_true,decide_eq_true_eq]
structure kD (m o : List Int) (k : Int) (R : List (List Int)) : Prop where
  ok : nA m o R
  dec : ∀ i, i + 1 < o.length → ew m R (i + 1) ≤ ew m R i
  cell : ∀ i q, i < R.length → q < (R.getD i []).length → gF (m, R) i q = true
  le : ∀ i, ∀ x ∈ R.getD i [], x ≤ k
theorem kD.mono{m o:List Int}{k k':Int}{R:List (List Int)}(h:kD m o k R)(hk:k≤k'):kD m o k' R:=⟨h.ok,h.dec,h.cell,fun i x hx=>Int.le_trans (h.le i x hx) hk⟩
theorem vN(m:List Int)(k:Int){R:List (List Int)}{i:Nat}(hi:i<R.length)(j:Nat):ew m (cL k R i) j=ew m R j+(if i=j then 1 else 0):=by
 unfold ew
 rw[gA]
 by_cases c:i=j
 ·subst c
  rw[if_pos ⟨rfl,hi⟩,if_pos rfl,List.length_append,List.length_singleton]
  omega
 ·rw[if_neg (fun h=>c h.1),if_neg c,Int.add_zero]
theorem qT(k:Int){R:List (List Int)}{i:Nat}(hi:i<R.length)(a q:Nat):cel (cL k R i) a q=if i=a∧q=(R.getD i []).length then k else cel R a q:=by
 unfold cel
 rw[gA]
 by_cases c:i=a
 ·subst c
  rw[if_pos ⟨rfl,hi⟩]
  by_cases c2:q=(R.getD i []).length
  ·rw[if_pos ⟨rfl,c2⟩,c2,List.getD_eq_getElem?_getD,List.getElem?_append_right (Nat.le_refl _),Nat.sub_self]
   rfl
  ·rw[if_neg (fun h=>c2 h.2)]
   simp only[List.getD_eq_getElem?_getD]
   rcases Nat.lt_or_ge q (R.getD i []).length with h|h
   ·rw[List.getD_eq_getElem?_getD]at h
    rw[List.getElem?_append_left h]
   ·rw[List.getD_eq_getElem?_getD]at h c2
    rw[List.getElem?_append_right h,List.getElem?_eq_none h,List.getElem?_eq_none (by simp;omega)]
 ·rw[if_neg (fun h=>c h.1),if_neg (fun h=>c h.1)]
theorem uF(m:List Int)(k:Int){R:List (List Int)}{i:Nat}(hi:i<R.length)(a:Nat){c:Int}(hc:i=a→c<ew m R i):entry (m,cL k R i) a c=entry (m,R) a c:=by
 by_cases ha:a<R.length
 ·rw[jb (t:=(m,cL k R i)) (by rw[iD];exact ha),jb (t:=(m,R)) ha]
  show atI ((cL k R i).getD a []) (c-m.getD a 0)=atI (R.getD a []) (c-m.getD a 0)
  rw[gA]
  by_cases e:i=a
  ·subst e
   have:=hc rfl
   unfold ew at this
   rw[if_pos ⟨rfl,hi⟩]
   unfold atI
   by_cases h0:c-m.getD i 0<0
   ·rw[if_pos h0,if_pos h0]
   ·rw[if_neg h0,if_neg h0,List.getD_eq_getElem?_getD,List.getElem?_append_left (by omega),←List.getD_eq_getElem?_getD]
  ·rw[if_neg (fun h=>e h.1)]
 ·unfold entry
  have h1:((cL k R i).length:Int)≤a:=by rw[iD];omega
  have h2:(R.length:Int)≤a:=by omega
  rw[if_neg (show¬((a:Int)<0) by omega),if_pos h1,if_neg (show¬((a:Int)<0) by omega),if_pos h2]
theorem ue{m o:List Int}{k:Int}{R:List (List Int)}{i:Nat}(h:shut m o k R i=false):ew m R i≠o.getD i 0∧(i=0∨ew m R i<m.getD (i-1) 0∨(entry (m,R) ((i:Int)-1) (ew m R i)≠0∧entry (m,R) ((i:Int)-1) (ew m R i)≠k)):=by
 unfold shut at h
 simp only[Bool.or_eq_false_iff,decide_eq_false_iff_not,Bool.and_eq_false_iff]at h
 refine⟨h.1,?_⟩
 rcases h.2 with h|h|h
 ·exact .inl (by omega)
 ·exact .inr (.inl (by omega))
 ·exact .inr (.inr h)
theorem kD.push{m o:List Int}{k:Int}{R:List (List Int)}{i:Nat}(h:kD m o k R)(k1:1≤k)(k9:k≤9)(hi:i<o.length)(hs:shut m o k R i=false):kD m o k (cL k R i):=by
 have hlen:=h.ok.1
 have hiR:i<R.length:=by omega
 obtain⟨s1,s2⟩:=ue hs
 have hab: ∀a:Nat,i=a+1→ew m R i+1≤ew m R a∧entry (m,R) (a:Int) (ew m R i)<k:=fun a ha=>by
  subst ha
  have e:(((a+1:Nat):Int)-1)=(a:Int):=by omega
  have e2:a+1-1=a:=rfl
  rw[e,e2]at s2
  have hent:=jb (t:=(m,R)) (r:=a) (by show a<R.length;omega) (ew m R (a+1))
  have hent':entry (m,R) (a:Int) (ew m R (a+1))=atI (R.getD a []) (ew m R (a+1)-m.getD a 0):=hent
  have hext:ew m R a=m.getD a 0+((R.getD a []).length:Int):=rfl
  rcases s2 with s2|s2|s2
  ·omega
  ·refine⟨by omega,?_⟩
   rw[hent',pn (by omega)]
   omega
  ·obtain⟨s2,s3⟩:=s2
   rw[hent']at s2 s3⊢
   have hin:0≤ew m R (a+1)-m.getD a 0∧ew m R (a+1)-m.getD a 0<(R.getD a []).length:=by
    refine⟨?_,?_⟩
    ·refine Int.not_lt.1 fun hh=>s2 (pn hh)
    ·refine Int.not_le.1 fun hh=>s2 (yE hh)
   refine⟨by omega,?_⟩
   have hm:atI (R.getD a []) (ew m R (a+1)-m.getD a 0)∈R.getD a []:=by
    unfold atI
    rw[if_neg (by omega),ao (show(ew m R (a+1)-m.getD a 0).toNat<(R.getD a []).length by omega)]
    exact List.getElem_mem _
   have:=h.le a _ hm
   omega
 refine⟨Cu h.ok hi hs,fun j hj=> ?_,fun a q ha hq=> ?_,fun a x hx=> ?_⟩
 ·rw[vN m k hiR,vN m k hiR]
  have h1:=h.dec j hj
  by_cases c1:i=j+1
  ·have:=(hab j c1).1
   rw[if_pos c1,if_neg (by omega),←c1]
   omega
  ·rw[if_neg c1]
   split<;>omega
 ·rw[iD]at ha
  rw[qn]
  show(1≤cel (cL k R i) a q∧cel (cL k R i) a q≤9)∧(q=0∨cel (cL k R i) a (q-1)≤cel (cL k R i) a q)∧(a=0∨entry (m,cL k R i) ((a:Int)-1) (m.getD a 0+q)<cel (cL k R i) a q)
  rw[gA]at hq
  by_cases c:i=a∧q=(R.getD i []).length
  ·obtain⟨rfl,c2⟩:=c
   have e1:cel (cL k R i) i q=k:=by rw[qT k hiR,if_pos ⟨rfl,c2⟩]
   rw[e1]
   refine⟨⟨k1,k9⟩,?_,?_⟩
   ·by_cases q0:q=0
    ·exact .inl q0
    ·right
     rw[qT k hiR,if_neg (by omega)]
     refine h.le i _ ?_
     unfold cel
     rw[ao (show q-1<(R.getD i []).length by omega)]
     exact List.getElem_mem _
   ·cases i with
    |zero=>exact .inl rfl
    |succ a=>
     right
     have e:(((a+1:Nat):Int)-1)=(a:Int):=by omega
     have ec:m.getD (a+1) 0+(q:Int)=ew m R (a+1):=by rw[c2];rfl
     rw[e,ec,uF m k hiR a (fun hh=>by omega)]
     exact(hab a rfl).2
  ·have hq':q<(R.getD a []).length:=by
    by_cases c1:i=a
    ·subst c1
     rw[if_pos ⟨rfl,hiR⟩,List.length_append,List.length_singleton]at hq
     have:q≠(R.getD i []).length:=fun e=>c ⟨rfl,e⟩
     omega
    ·rwa [if_neg (fun hh=>c1 hh.1)]at hq
   have hc:=qn.1 (h.cell a q ha hq')
   have hc:(1≤cel R a q∧cel R a q≤9)∧(q=0∨cel R a (q-1)≤cel R a q)∧(a=0∨entry (m,R) ((a:Int)-1) (m.getD a 0+q)<cel R a q):=hc
   have e1:cel (cL k R i) a q=cel R a q:=by rw[qT k hiR,if_neg c]
   have e2:cel (cL k R i) a (q-1)=cel R a (q-1):=by
    rw[qT k hiR,if_neg]
    rintro⟨rfl,hh⟩
    omega
   rw[e1,e2]
   refine⟨hc.1,hc.2.1,?_⟩
   cases a with
   |zero=>exact .inl rfl
   |succ a=>
    right
    have e:(((a+1:Nat):Int)-1)=(a:Int):=by omega
    have h3:=hc.2.2
    rw[e]at h3⊢
    rw[uF m k hiR a (fun hh=> ?_)]
    ·rcases h3 with h3|h3
     ·omega
     ·exact h3
    ·subst hh
     have h4:=h.dec i (by omega)
     have h5:ew m R (i+1)=m.getD (i+1) 0+((R.getD (i+1) []).length:Int):=rfl
     omega
 ·rw[gA]at hx
  split at hx
  ·rcases List.mem_append.1 hx with hx|hx
   ·exact h.le i x hx
   ·simp only[List.mem_singleton]at hx;omega
  ·exact h.le a x hx
theorem zd(k:Int): ∀{R:List (List Int)} {i:Nat},i<R.length→(cL k R i).flatten.length=R.flatten.length+1
 | [],i,h=>by simp at h
 |r::R,0,_=>by simp[cL];omega
 |r::R,i+1,h=>by
  have:=zd k (R:=R) (i:=i) (by simpa using h)
  have e:cL k (r::R) (i+1)=r::cL k R i:=by simp[cL]
  rw[e,List.flatten_cons,List.length_append,this,List.flatten_cons,List.length_append]
  omega
theorem uE{m o:List Int}{k:Int}{rest:List (List Int)→List Tab}(k1:1≤k)(k9:k≤9){Q:List (List Int)→Tab→Prop}{t:Tab}: ∀(l q i:Nat) (R:List (List Int)),i+q=o.length→kD m o k R→t∈ku m o k rest l q i R→ ∃R',kD m o k R'∧R'.flatten.length=R.flatten.length+l∧t∈rest R'
 |0,q,i,R,_,hR,ht=>by rw[kP]at ht;exact⟨R,hR,rfl,ht⟩
 |l+1,0,i,R,_,_,ht=>by rw[oZ]at ht;cases ht
 |l+1,q+1,i,R,hi,hR,ht=>by
  rw[oQ]at ht
  rcases List.mem_append.1 ht with ht|ht
  ·split at ht
   ·cases ht
   ·next hs=>
    obtain⟨R',h1,h2,h3⟩:=uE k1 k9 (Q:=Q) l (q+1) i (cL k R i) hi (hR.push k1 k9 (by omega) (by simpa using hs)) ht
    exact⟨R',h1,by rw[h2,zd k (by have:=hR.ok.1;omega)];omega,h3⟩
  ·exact uE k1 k9 (Q:=Q) (l+1) q (i+1) R (by omega) hR ht
termination_by l q => (l, q)
theorem xQ{m o:List Int}{t:Tab}: ∀(ws:List Int) (k:Int) (R:List (List Int)),1≤k→k+ws.length≤10→kD m o k R→t∈jt m o ws k R→ ∃R',t=(m,R')∧kD m o (k+ws.length) R'∧R'.flatten.length=R.flatten.length+eV ws
 | [],k,R,_,_,hR,ht=>by
  rw[jt,List.mem_singleton]at ht
  exact⟨R,ht,by simpa using hR,by simp[eV]⟩
 |w::ws,k,R,k1,k9,hR,ht=>by
  rw[List.length_cons]at k9
  rw[jt]at ht
  obtain⟨R1,h1,h2,h3⟩:=uE (Q:=fun _ _=>True) k1 (by omega) w.toNat o.length 0 R (by omega) hR ht
  obtain⟨R2,e,g1,g2⟩:=xQ ws (k+1) R1 (by omega) (by omega) (h1.mono (by omega)) h3
  refine⟨R2,e,?_,?_⟩
  ·rw[List.length_cons]
   have e:k+1+(ws.length:Int)=k+((ws.length+1:Nat):Int):=by omega
   rw[←e];exact g1
  ·rw[g2,h2]
   simp[eV];omega
theorem vl(m:List Int): ∀(R:List (List Int)) (i:Nat),m.length≤i+R.length→aM (fu m i R)=aM (m.drop i)+(R.flatten.length:Int)
 | [],i,h=>by
  rw[List.drop_of_length_le (by simpa using h)]
  simp[fu,aM]
 |r::R,i,h=>by
  rw[List.length_cons]at h
  rw[fu,aM,vl m R (i+1) (by omega),List.flatten_cons,List.length_append]
  by_cases hi:i<m.length
  ·rw[drop_cons hi 0,aM]
   omega
  ·rw[aY (by omega),List.drop_of_length_le (show m.length≤i by omega),List.drop_of_length_le (show m.length≤i+1 by omega)]
   simp[aM]
theorem xe: ∀(a b:List Int),a.length=b.length→(∀i,i<a.length→a.getD i 0≤b.getD i 0)→aM a=aM b→a=b
 | [],[],_,_,_=>rfl
 | [],_::_,h,_,_=>by simp at h
 |_::_,[],h,_,_=>by simp at h
 |x::a,y::b,h,hl,hs=>by
  have hle: ∀(a b:List Int),a.length=b.length→(∀i,i<a.length→a.getD i 0≤b.getD i 0)→aM a≤aM b:=by
   intro a
   induction a with
   |nil=>intro b h _;cases b with
    |nil=>exact Int.le_refl _
    |cons _ _=>simp at h
   |cons x a ih=>intro b h hl;cases b with
    |nil=>simp at h
    |cons y b=>
     have h0:=hl 0 (by simp)
     have:=ih b (by simpa using h) (fun i hi=>by have:=hl (i+1) (by simpa using hi);simpa using this)
     simp only[List.getD_cons_zero]at h0
     simp only[aM];omega
  have h0:=hl 0 (by simp)
  simp only[List.getD_cons_zero]at h0
  have ht: ∀i,i<a.length→a.getD i 0≤b.getD i 0:=fun i hi=>by have:=hl (i+1) (by simpa using hi);simpa using this
  have:=hle a b (by simpa using h) ht
  simp only[aM]at hs
  rw[show x=y by omega,xe a b (by simpa using h) ht (by omega)]
theorem eQ{m o:List Int}(h:aX m o=true):bc m=true∧bc o=true∧m.length≤o.length∧ ∀i,i<m.length→m.getD i 0≤o.getD i 0:=by
 unfold aX at h
 simp only[Bool.and_eq_true,decide_eq_true_eq]at h
 obtain⟨h1,h2,h3,h4⟩:=h
 exact⟨h1,h2,h3,fun i hi=>by rw[bT]at h4;simpa using h4 i hi⟩
theorem kD.outer{m o:List Int}{k:Int}{R:List (List Int)}(h:kD m o k R)(hi:aX m o=true)(hs:(R.flatten.length:Int)=aM o-aM m):Pu.outer (m,R)=o:=by
 obtain⟨h1,h2,h3,h4⟩:=eQ hi
 have hl:=h.ok.1
 have e:Pu.outer (m,R)=fu m 0 R:=rfl
 refine xe _ _ (by rw[e,lM];exact hl) (fun i hi=> ?_) ?_
 ·rw[e,lM]at hi
  rw[e,eP m R 0 i hi,Nat.zero_add]
  exact h.ok.2 i (by omega)
 ·rw[e,vl m R 0 (by omega),List.drop_zero]
  omega
theorem kD.tab{m o:List Int}{k:Int}{R:List (List Int)}(h:kD m o k R)(hi:aX m o=true)(hs:(R.flatten.length:Int)=aM o-aM m):fj (m,R)=true:=by
 obtain⟨h1,h2,h3,h4⟩:=eQ hi
 have ho:=h.outer hi hs
 unfold fj fe
 rw[ho]
 have e1:bc (m,R).1=true:=h1
 have e2:decide ((m,R).1.length≤(m,R).2.length)=true:=decide_eq_true (by show m.length≤R.length;have:=h.ok.1;omega)
 have e3:aX (m,R).1 o=true:=hi
 rw[e1,e2,e3]
 simp only[Bool.true_and]
 rw[bT]
 intro i hi
 rw[bT]
 intro q hq
 exact h.cell i q hi hq
theorem kT(n i:Nat):(List.replicate n ([]:List Int)).getD i []= []:=by
 rw[List.getD_eq_getElem?_getD,List.getElem?_replicate]
 split<;>rfl
theorem Ev{m o:List Int}(hi':aX m o=true)(k:Int):kD m o k (List.replicate o.length []):=by
 obtain⟨h1,h2,h3,h4⟩:=eQ hi'
 refine⟨⟨by simp,fun i hi=> ?_⟩,fun i hi=> ?_,fun i q _ hq=> ?_,fun i x hx=> ?_⟩
 ·unfold ew
  rw[kT]
  have:=rM hi' i
  simpa using this
 ·unfold ew
  rw[kT,kT]
  have:=gZ h1 i
  simpa using this
 ·rw[kT]at hq;simp at hq
 ·rw[kT]at hx;cases hx
def nC(m o ws:List Int):List Tab:=jt m o ws 1 (List.replicate o.length [])
theorem sy{m o ws:List Int}(hi:aX m o=true)(hw:ws.length≤9)(hs:(eV ws:Int)=aM o-aM m){t:Tab}(ht:t∈nC m o ws):t.1=m∧t.2.length=o.length∧fj t=true∧outer t=o:=by
 obtain⟨R,rfl,h1,h2⟩:=xQ ws 1 _ (by omega) (by omega) (Ev hi 1) ht
 have e:(List.replicate o.length ([]:List Int)).flatten.length=0:=by simp
 rw[e,Nat.zero_add]at h2
 exact⟨rfl,h1.ok.1,h1.tab hi (by rw[h2];exact hs),h1.outer hi (by rw[h2];exact hs)⟩
theorem Ed{m o ws:List Int}(hi:aX m o=true)(hw:ws.length≤9)(hs:(eV ws:Int)=aM o-aM m): ∀a∈nC m o ws,∀b∈nC m o ws,bj a=bj b→a=b:=fun a ha b hb h=>by
 obtain⟨a1,a2,a3,_⟩:=sy hi hw hs ha
 obtain⟨b1,b2,b3,_⟩:=sy hi hw hs hb
 exact FT a3 b3 (a1.trans b1.symm) (a2.trans b2.symm) h
end Go.Am.Pu
namespace Go.Am.Pu
theorem oX: ∀{ws:List Int},(∀x∈ws,0≤x)→(eV ws:Int)=aM ws
 | [],_=>rfl
 |w::ws,h=>by
  have e:eV (w::ws)=w.toNat+eV ws:=by simp[eV]
  rw[e,aM,Int.natCast_add,oX fun x hx=>h x (by simp[hx])]
  have:=h w (by simp)
  omega
theorem zz{m o:List Int}(hi:aX m o=true):0≤aM o-aM m∧aM o-aM m≤9∧o.length≤9:=by
 obtain⟨i1,i2,i3,i4⟩:=eQ hi
 have b1:=aW i1
 have b2:=aW i2
 have n2:=jf m fun x hx=>by have:=b1.1 x hx;omega
 refine⟨?_,by omega,b2.2.2.1⟩
 have hle: ∀(m o:List Int),m.length≤o.length→(∀x∈o,0≤x)→(∀i,i<m.length→m.getD i 0≤o.getD i 0)→aM m≤aM o:=by
  intro m
  induction m with
  |nil=>intro o _ h _;exact jf o h
  |cons x m ih=>intro o hl h hi;cases o with
   |nil=>simp at hl
   |cons y o=>
    have h0:=hi 0 (by simp)
    have:=ih o (by simpa using hl) (fun z hz=>h z (by simp[hz])) (fun i hi'=>by have:=hi (i+1) (by simpa using hi');simpa using this)
    simp only[List.getD_cons_zero]at h0
    simp only[aM];omega
 have:=hle m o i3 (fun x hx=>by have:=b2.1 x hx;omega) i4
 omega
theorem xz{m o ws:List Int}(hi:aX m o=true)(hw: ∀w∈ws,0≤w∧w≤9)(hs:aM ws=aM o-aM m):o.length^eV ws≤1099511627776:=by
 have hd:=zz hi
 have hn:=oX (ws:=ws) fun x hx=>(hw x hx).1
 have h1:o.length^eV ws≤9^eV ws:=Nat.pow_le_pow_left hd.2.2 _
 have h2:9^eV ws≤9^9:=Nat.pow_le_pow_right (by omega) (by omega)
 have h3:9^9≤1099511627776:=by decide
 exact Nat.le_trans h1 (Nat.le_trans h2 h3)
theorem xB{m o ws:List Int}(hi:aX m o=true)(hw: ∀w∈ws,0≤w∧w≤9)(hs:aM ws=aM o-aM m):(nC m o ws).length≤1099511627776:=
 Nat.le_trans (mP m o ws 1 _) (xz hi hw hs)
theorem AM{m o ws:List Int}(hi:aX m o=true)(hw:ws.length≤9)(hs:(eV ws:Int)=aM o-aM m){t:Tab}(ht:t∈nC m o ws):xd t:=by
 obtain⟨a1,a2,a3,_⟩:=sy hi hw hs ht
 have h:=DN a3
 exact⟨by omega,by have:=h.2.1;omega,fun x hx=>by have:=h.2.2 x hx;omega⟩
end Go.Am.Pu
end
section
/- Chains of partitions and fillings by single numbers. Plain words. -/
namespace Go.Am.Pu
open Go
theorem Hp{l:List Int}{z:Int}(h0:0≤z)(h1:z<l.length):atI l z∈l:=by
 unfold atI
 rw[if_neg (by omega),ao (show z.toNat<l.length by omega)]
 exact List.getElem_mem _
theorem yq{m o:List Int}{k:Int}{R:List (List Int)}{i:Nat}{A:List Int}{c:Nat}(hR:i≤R.length)(hrow:0<i→R.getD (i-1) []=A++List.replicate c k)(hA: ∀x∈A,1≤x∧x<k)(hk:1≤k):
  shut m o k R i=false↔ew m R i≠o.getD i 0∧(i=0∨ew m R i<m.getD (i-1) 0+A.length):=by
 have key:shut m o k R i=false↔ew m R i≠o.getD i 0∧(i=0∨ew m R i<m.getD (i-1) 0∨(entry (m,R) ((i:Int)-1) (ew m R i)≠0∧entry (m,R) ((i:Int)-1) (ew m R i)≠k)):=by
  refine⟨ue,fun h=> ?_⟩
  unfold shut
  simp only[Bool.or_eq_false_iff,decide_eq_false_iff_not,Bool.and_eq_false_iff]
  refine⟨h.1,?_⟩
  rcases h.2 with h|h|h
  ·exact .inl (by omega)
  ·exact .inr (.inl (by omega))
  ·exact .inr (.inr h)
 rw[key]
 by_cases h0:i=0
 ·simp[h0]
 ·obtain⟨a,rfl⟩: ∃a,i=a+1:=⟨i-1,by omega⟩
  have e:(((a+1:Nat):Int)-1)=(a:Int):=by omega
  have e2:a+1-1=a:=rfl
  have hent:entry (m,R) (a:Int) (ew m R (a+1))=atI (R.getD a []) (ew m R (a+1)-m.getD a 0):=jb (t:=(m,R)) (r:=a) (by show a<R.length;omega) _
  rw[e,e2,hent]
  have hr:=hrow (by omega)
  rw[e2]at hr
  rw[hr]
  generalize ew m R (a+1)=x
  refine and_congr_right fun _=>⟨fun h=> ?_,fun h=> ?_⟩
  ·rcases h with h|h|⟨h1,h2⟩
   ·exact .inl h
   ·exact .inr (by omega)
   ·right
    refine Int.not_le.1 fun hle=> ?_
    have hz:0≤x-m.getD a 0:=by omega
    rcases Int.lt_or_le (x-m.getD a 0) ((A++List.replicate c k).length:Int)with hlt|hge
    ·refine h2 ?_
     unfold atI
     rw[if_neg (by omega),List.getD_eq_getElem?_getD,List.getElem?_append_right (by omega),List.getElem?_replicate]
     rw[List.length_append,List.length_replicate]at hlt
     rw[if_pos (by omega)]
     rfl
    ·exact h1 (yE hge)
  ·rcases h with h|h
   ·exact .inl h
   ·right
    by_cases hm:x<m.getD a 0
    ·exact .inl hm
    ·right
     have e3:atI (A++List.replicate c k) (x-m.getD a 0)=atI A (x-m.getD a 0):=by
      unfold atI
      rw[if_neg (by omega),if_neg (by omega),List.getD_eq_getElem?_getD,List.getElem?_append_left (by omega),←List.getD_eq_getElem?_getD]
     rw[e3]
     have:=hA _ (Hp (l:=A) (z:=x-m.getD a 0) (by omega) (by omega))
     exact⟨by omega,by omega⟩
theorem mK{α β:Type}(f:α→List β)(B:Nat): ∀l:List α,(∀x∈l,(f x).length≤B)→(l.flatMap f).length≤l.length*B
 | [],_=>by simp
 |x::l,h=>by
  rw[List.flatMap_cons,List.length_append,List.length_cons,Nat.succ_mul]
  have:=mK f B l fun y hy=>h y (by simp[hy])
  have:=h x (by simp)
  omega
def EW(c:List (List Int))(r:Nat):List Int:=((List.range' 1 (c.length-1)).filter fun k=>decide ((c.getD (k-1) []).getD r 0<(c.getD k []).getD r 0)).map fun k:Nat=>(k:Int)
theorem EP{c:List (List Int)}(hc:1≤c.length)(q:List Int)(r:Nat):EW (c++ [q]) r=EW c r++(if(mS c).getD r 0<q.getD r 0 then [(c.length:Int)]else []):=by
 unfold EW
 have hg: ∀k,k<c.length→(c++ [q]).getD k []=c.getD k []:=fun k hk=>by
  rw[List.getD_eq_getElem?_getD,List.getElem?_append_left hk,←List.getD_eq_getElem?_getD]
 have hq:(c++ [q]).getD c.length []=q:=by
  rw[List.getD_eq_getElem?_getD,List.getElem?_append_right (Nat.le_refl _),Nat.sub_self];rfl
 have e:(c++ [q]).length-1=(c.length-1)+1:=by rw[List.length_append,List.length_singleton];omega
 rw[e,List.range'_concat,List.filter_append,List.map_append]
 congr 1
 ·congr 1
  apply List.filter_congr
  intro k hk
  have:=List.mem_range'_1.1 hk
  rw[hg k (by omega),hg (k-1) (by omega)]
 ·have e2:1+1*(c.length-1)=c.length:=by omega
  rw[e2]
  have e3:(c++ [q]).getD (c.length-1) []=mS c:=hg _ (by omega)
  by_cases h:(mS c).getD r 0<q.getD r 0
  ·rw[if_pos h,List.filter_cons_of_pos (by rw[e3,hq];exact decide_eq_true h)]
   rfl
  ·rw[if_neg h,List.filter_cons_of_neg (by rw[e3,hq];simpa using h)]
   rfl
structure Tog (m o : List Int) (c : List (List Int)) (R : List (List Int)) : Prop where
  pos : 1 ≤ c.length
  inn : aX (mS c) o = true
  row : R = (List.range o.length).map (EW c)
  fst : c.getD 0 [] = m
  fill : kD m o ((c.length : Int) - 1) R
  ext : ∀ i, i < o.length → ew m R i = (mS c).getD i 0
theorem Tog.shut{m o:List Int}{c:List (List Int)}{R:List (List Int)}(h:Tog m o c R){i:Nat}(hi:i<o.length):Pu.shut m o c.length R i=false↔(mS c).getD i 0≠o.getD i 0∧(i=0∨(mS c).getD i 0<(mS c).getD (i-1) 0):=by
 have hl:=h.fill.ok.1
 rw[yq (A:=R.getD (i-1) []) (c:=0) (by omega) (fun _=>by simp) (fun x hx=> ?_) (by have:=h.pos;omega),h.ext i hi]
 ·refine and_congr_right fun _=> ?_
  by_cases h0:i=0
  ·simp[h0]
  ·rw[←h.ext (i-1) (by omega)]
   rfl
 ·have h1:=h.fill.le (i-1) x hx
  obtain⟨q,hq,rfl⟩:=List.getElem_of_mem hx
  have hr:i-1<R.length:=by omega
  have h2:=(qn.1 (h.fill.cell (i-1) q hr hq)).1.1
  unfold cel at h2
  have h3:(m,R).2=R:=rfl
  rw[h3,ao hq]at h2
  exact⟨h2,by omega⟩
theorem Tog.add{m o:List Int}{c:List (List Int)}{R:List (List Int)}(h:Tog m o c R)(h9:c.length≤9){i:Nat}(hi:i<o.length)(hs:aM (mS c)<aM o)(hsh:Pu.shut m o c.length R i=false):
  ∃q,kx (mS c) i=(q,true)∧aX q o=true∧Tog m o (c++ [q]) (cL c.length R i):=by
 obtain⟨hp,ho⟩:=yF h.inn
 have hle:=rM h.inn
 have ho9:=(aW ho).2.1
 obtain⟨s1,s2⟩:=(h.shut hi).1 hsh
 have hil:i≤(mS c).length:=by
  refine Nat.le_of_not_lt fun hlt=> ?_
  rcases s2 with s2|s2
  ·omega
  ·rw[aY (by omega),aY (by omega)]at s2;omega
 obtain⟨q,hq⟩:=C1 hp hil (by rcases s2 with s2|s2;exact .inl s2;exact .inr (by omega)) (by omega)
 obtain⟨b1,b2,b3,b4,b5⟩:=xk hq
 have hin:aX q o=true:=yN b5 ho fun r=>by
  rw[b4]
  have:=hle r
  split
  ·next e=>subst e;omega
  ·exact this
 have hR:=h.fill.ok.1
 refine⟨q,hq,hin,⟨by rw[List.length_append,List.length_singleton];omega,by rw[xK];exact hin,?_,?_,?_,?_⟩⟩
 ·have hrow: ∀r,r<o.length→R.getD r []=EW c r:=fun r hr=>by
   rw[h.row,List.getD_eq_getElem?_getD,List.getElem?_map,List.getElem?_range hr]
   rfl
  refine List.ext_getElem (by rw[iD,hR];simp) fun r h1 h2=> ?_
  rw[iD,hR]at h1
  have e1:(cL (c.length:Int) R i)[r]'(by rw[iD];omega)=(cL (c.length:Int) R i).getD r []:=(ao (by rw[iD];omega) []).symm
  rw[e1,gA,List.getElem_map,List.getElem_range,EP h.pos]
  by_cases e:i=r
  ·subst e
   rw[if_pos ⟨rfl,by omega⟩,hrow i hi,if_pos (by rw[b4,if_pos rfl];omega)]
  ·rw[if_neg (fun hh=>e hh.1),hrow r h1,if_neg (by rw[b4,if_neg (Ne.symm e)];omega),List.append_nil]
 ·rw[List.getD_eq_getElem?_getD,List.getElem?_append_left (by have:=h.pos;omega),←List.getD_eq_getElem?_getD]
  exact h.fst
 ·have:=(h.fill.mono (show(c.length:Int)-1≤c.length by omega)).push (by have:=h.pos;omega) (by omega) hi hsh
  rw[List.length_append,List.length_singleton]
  have e:((c.length+1:Nat):Int)-1=c.length:=by omega
  rw[e]
  exact this
 ·intro r hr
  rw[vN m _ (by omega),xK,b4,h.ext r hr]
  by_cases e:i=r
  ·subst e;rw[if_pos rfl,if_pos rfl]
  ·rw[if_neg e,if_neg (Ne.symm e),Int.add_zero]
end Go.Am.Pu
end
section
/- A chain's tableau, row by row; lists put in order one by one. Plain words. -/
namespace Go.Am.Pu
open Go
end Go.Am.Pu
namespace Go.Am.Pu
end Go.Am.Pu
end
section
/- Horizontal strips: how often a number can be put, row by row. Plain words. -/
namespace Go.Am.Pu
open Go
def dx(p o:List Int)(i:Nat):Int:=if 0<i then min (o.getD i 0) (p.getD (i-1) 0)else o.getD i 0
def cr(p o:List Int):Nat→Nat→Int→List (List Int)
 |0,_,n=>if n=0 then [[]]else []
 |q+1,i,n=>(List.range (min (dx p o i-p.getD i 0) n+1).toNat).flatMap fun c:Nat=>(cr p o q (i+1) (n-c)).map ((p.getD i 0+(c:Int)):: ·)
def nG(k:Int)(R:List (List Int))(i c:Nat):List (List Int):=R.set i (R.getD i []++List.replicate c k)
def mB(k:Int)(p:List Int):Nat→List (List Int)→List Int→List (List Int)
 |_,R,[]=>R
 |i,R,x::y=>mB k p (i+1) (nG k R i (x-p.getD i 0).toNat) y
structure Gr (m o : List Int) (k : Int) (p : List Int) (R : List (List Int)) : Prop where
  len : R.length = o.length
  ext : ∀ j, j < o.length → ew m R j = p.getD j 0
  old : ∀ j, j < o.length → ∀ x ∈ R.getD j [], 1 ≤ x ∧ x < k
  top : ∀ j, j < o.length → p.getD j 0 ≤ o.getD j 0
  dec : ∀ j, j + 1 < o.length → p.getD (j + 1) 0 ≤ p.getD j 0
  one : 1 ≤ k
theorem uN(k:Int)(R:List (List Int))(i c:Nat):(nG k R i c).length=R.length:=by unfold nG;rw[List.length_set]
theorem vX(k:Int){R:List (List Int)}{i:Nat}(hi:i<R.length)(c j:Nat):(nG k R i c).getD j []=if i=j then R.getD i []++List.replicate c k else R.getD j []:=by
 unfold nG
 simp only[List.getD_eq_getElem?_getD,List.getElem?_set]
 by_cases h:i=j
 ·subst h;simp[hi]
 ·simp[h]
theorem sB(k:Int){R:List (List Int)}{i:Nat}(hi:i<R.length):nG k R i 0=R:=by
 unfold nG
 rw[List.replicate_zero,List.append_nil,ao hi,List.set_getElem_self]
theorem DM(k:Int){R:List (List Int)}{i:Nat}(hi:i<R.length)(c:Nat):nG k (cL k R i) i c=nG k R i (c+1):=by
 unfold nG
 rw[gA,if_pos ⟨rfl,hi⟩]
 unfold cL
 rw[List.set_set,List.append_assoc,List.replicate_succ]
 rfl
theorem GJ{m o p:List Int}{k:Int}{rest:List (List Int)→List Tab}{i q:Nat}(hk:1≤k)(hiq:i+(q+1)=o.length)(hpo:p.getD i 0≤dx p o i):
  ∀(l e:Nat) (R:List (List Int)) (A:List Int),R.length=o.length→R.getD i []=A++List.replicate e k→m.getD i 0+A.length=p.getD i 0→(e:Int)≤dx p o i-p.getD i 0→
   (0<i→ ∃(B:List Int) (c:Nat),R.getD (i-1) []=B++List.replicate c k∧m.getD (i-1) 0+B.length=p.getD (i-1) 0∧ ∀x∈B,1≤x∧x<k)→
   (ku m o k rest l (q+1) i R).Perm ((List.range (min (dx p o i-p.getD i 0-e) l+1).toNat).flatMap fun c=>ku m o k rest (l-c) q (i+1) (nG k R i c)):=by
 intro l
 induction l with
 |zero=>
  intro e R A hR hA hAm he hab
  have h1:(min (dx p o i-p.getD i 0-e) ((0:Nat):Int)+1).toNat=1:=by omega
  rw[h1]
  show(ku m o k rest 0 (q+1) i R).Perm (ku m o k rest (0-0) q (i+1) (nG k R i 0)++ [])
  rw[sB k (by omega),List.append_nil,kP,kP]
 |succ l ih=>
  intro e R A hR hA hAm he hab
  have hext:ew m R i=p.getD i 0+e:=by
   unfold ew
   rw[hA,List.length_append,List.length_replicate]
   omega
  have hsh:shut m o k R i=false↔(e:Int)<dx p o i-p.getD i 0:=by
   by_cases i0:i=0
   ·subst i0
    rw[yq (A:= []) (c:=0) (by omega) (fun h=>by omega) (fun x hx=>by cases hx) hk,hext]
    have em:dx p o 0=o.getD 0 0:=by unfold dx;rw[if_neg (by omega)]
    rw[em]at he⊢
    omega
   ·obtain⟨B,c,b1,b2,b3⟩:=hab (by omega)
    rw[yq (A:=B) (c:=c) (by omega) (fun _=>b1) b3 hk,hext]
    have em:dx p o i=min (o.getD i 0) (p.getD (i-1) 0):=by unfold dx;rw[if_pos (by omega)]
    rw[em]at he⊢
    rw[b2]
    generalize o.getD i 0=a1 at*
    generalize p.getD (i-1) 0=a2 at*
    generalize p.getD i 0=a3 at*
    omega
  rw[oQ]
  cases hs:shut m o k R i with
  |true=>
   have hn: ¬((e:Int)<dx p o i-p.getD i 0):=fun h=>by rw[hsh.2 h]at hs;cases hs
   have h1:(min (dx p o i-p.getD i 0-e) ((l+1:Nat):Int)+1).toNat=1:=by omega
   rw[if_pos rfl,List.nil_append,h1]
   show(ku m o k rest (l+1) q (i+1) R).Perm (ku m o k rest (l+1) q (i+1) (nG k R i 0)++ [])
   rw[sB k (by omega),List.append_nil]
  |false=>
   have hlt:=hsh.1 hs
   rw[if_neg (by decide)]
   have hi:i<R.length:=by omega
   have h2:=ih (e+1) (cL k R i) A (by rw[iD];exact hR) (by rw[gA,if_pos ⟨rfl,hi⟩,hA,List.append_assoc,List.replicate_succ']) hAm (by omega) (fun h=>by
    obtain⟨B,c,b1,b2,b3⟩:=hab h
    exact⟨B,c,by rw[gA,if_neg (by omega)];exact b1,b2,b3⟩)
   have h3:(min (dx p o i-p.getD i 0-e) ((l+1:Nat):Int)+1).toNat=(min (dx p o i-p.getD i 0-((e+1:Nat):Int)) (l:Int)+1).toNat+1:=by omega
   rw[h3,List.range_succ_eq_map,List.flatMap_cons,List.flatMap_map]
   refine(h2.append_right _).trans (List.perm_append_comm.trans ?_)
   refine List.Perm.append (by rw[sB k hi];exact List.Perm.refl _) ?_
   simp only[DM k hi,Nat.succ_eq_add_one,Nat.add_sub_add_right]
   exact List.Perm.refl _
theorem xb{α β:Type}{f g:α→List β}: ∀{l:List α},(∀x∈l,(f x).Perm (g x))→(l.flatMap f).Perm (l.flatMap g)
 | [],_=>List.Perm.refl _
 |x::l,h=>by
  rw[List.flatMap_cons,List.flatMap_cons]
  exact List.Perm.append (h x (by simp)) (xb fun y hy=>h y (by simp[hy]))
theorem Cq{m o p:List Int}{k:Int}{R:List (List Int)}(h:Gr m o k p R){i:Nat}(hi:i<o.length):p.getD i 0≤dx p o i:=by
 unfold dx
 have h1:=h.top i hi
 split
 ·have:=h.dec (i-1) (by omega)
  rw[show i-1+1=i by omega]at this
  omega
 ·exact h1
theorem uP{m o p:List Int}{k:Int}{R0:List (List Int)}{rest:List (List Int)→List Tab}(hG:Gr m o k p R0): ∀(q i:Nat) (l:Nat) (R:List (List Int)),i+q=o.length→R.length=o.length→(∀j,i≤j→R.getD j []=R0.getD j [])→
  (0<i→ ∃(B:List Int) (c:Nat),R.getD (i-1) []=B++List.replicate c k∧m.getD (i-1) 0+B.length=p.getD (i-1) 0∧ ∀x∈B,1≤x∧x<k)→
  (ku m o k rest l q i R).Perm ((cr p o q i l).flatMap fun y=>rest (mB k p i R y))
 |0,i,0,R,_,_,_,_=>by
  rw[kP]
  show(rest R).Perm (rest (mB k p i R [])++ [])
  rw[List.append_nil]
  exact List.Perm.refl _
 |0,i,l+1,R,_,_,_,_=>by
  rw[oZ,cr,if_neg (by omega)]
  exact List.Perm.refl _
 |q+1,i,l,R,hi,hR,hrow,hab=>by
  have hrow0:=hrow i (Nat.le_refl _)
  have hext:=hG.ext i (by omega)
  unfold ew at hext
  have h1:=GJ (rest:=rest) hG.one hi (Cq hG (by omega)) l 0 R (R0.getD i []) hR (by rw[hrow0,List.replicate_zero,List.append_nil]) hext (by have:=Cq hG (show i<o.length by omega);omega) hab
  refine h1.trans ?_
  rw[cr,List.flatMap_assoc]
  have e:(dx p o i-p.getD i 0-((0:Nat):Int))=dx p o i-p.getD i 0:=by omega
  rw[e]
  refine xb fun c hc=> ?_
  have hc':=List.mem_range.1 hc
  have hcl:c≤l:=by omega
  have h2:=uP (rest:=rest) hG q (i+1) (l-c) (nG k R i c) (by omega) (by rw[uN];exact hR) (fun j hj=>by rw[vX k (by omega),if_neg (by omega)];exact hrow j (by omega)) (fun _=>⟨R0.getD i [],c,by
   rw[show i+1-1=i by omega,vX k (by omega),if_pos rfl,hrow0],hext,hG.old i (by omega)⟩)
  refine h2.trans ?_
  have e2:((l-c:Nat):Int)=(l:Int)-c:=by omega
  rw[List.flatMap_map,e2]
  have e3:(p.getD i 0+(c:Int)-p.getD i 0).toNat=c:=by omega
  show(List.flatMap (fun y=>rest (mB k p (i+1) (nG k R i c) y)) _).Perm (List.flatMap (fun y=>rest (mB k p (i+1) (nG k R i (p.getD i 0+(c:Int)-p.getD i 0).toNat) y)) _)
  rw[e3]
theorem yp{m o p:List Int}{k:Int}{R:List (List Int)}(hG:Gr m o k p R)(w:Int)(hw:0≤w)(ws:List Int):
  (jt m o (w::ws) k R).Perm ((cr p o o.length 0 w).flatMap fun x=>jt m o ws (k+1) (mB k p 0 R x)):=by
 have h:=uP (rest:=jt m o ws (k+1)) hG o.length 0 w.toNat R (by omega) hG.len (fun _ _=>rfl) (fun h=>by omega)
 have e:((w.toNat:Nat):Int)=w:=by omega
 rw[e]at h
 exact h
end Go.Am.Pu
end
section
/- The number of fillings, by strips. Plain words. -/
namespace Go.Am.Pu
open Go
def uO(p:List Int):Nat→Nat
 |0=>0
 |n+1=>if p.getD n 0=0 then uO p n else n+1
def iz(p:List Int):List Int:=p.take (uO p p.length)
theorem ux(p:List Int): ∀n i,uO p n≤i→i<n→p.getD i 0=0
 |0,i,_,h=>by omega
 |n+1,i,h1,h2=>by
  unfold uO at h1
  split at h1
  ·next h=>
   by_cases e:i=n
   ·subst e;exact h
   ·exact ux p n i h1 (by omega)
  ·omega
theorem kO(p:List Int)(i:Nat):(iz p).getD i 0=p.getD i 0:=by
 unfold iz
 by_cases h:i<uO p p.length
 ·rw[List.getD_eq_getElem?_getD,List.getElem?_take,if_pos h,←List.getD_eq_getElem?_getD]
 ·rw[aY (by rw[List.length_take];omega)]
  by_cases h2:i<p.length
  ·exact(ux p p.length i (by omega) h2).symm
  ·exact(aY (by omega) 0).symm
theorem wV(p:List Int):(iz p).length≤p.length:=by unfold iz;rw[List.length_take];omega
theorem Cd: ∀{a b:List Int},(∀i,a.getD i 0=b.getD i 0)→aM a=aM b:=fun{a b} h=>by
 have h1:=(rH (a:=a) (b:=b) fun i=>by rw[h i];exact Int.le_refl _).1
 have h2:=(rH (a:=b) (b:=a) fun i=>by rw[h i];exact Int.le_refl _).1
 omega
theorem so{p o:List Int}: ∀(q i:Nat) (n:Int) (y:List Int),y∈cr p o q i n→y.length=q∧aM y=aM ((List.range' i q).map fun j=>p.getD j 0)+n∧ ∀j,j<q→p.getD (i+j) 0≤y.getD j 0∧y.getD j 0≤dx p o (i+j)
 |0,i,n,y,h=>by
  rw[cr]at h
  split at h
  ·next hn=>
   simp only[List.mem_singleton]at h
   subst h
   exact⟨rfl,by rw[hn];simp[aM],fun j hj=>by omega⟩
  ·cases h
 |q+1,i,n,y,h=>by
  rw[cr]at h
  obtain⟨c,hc,h⟩:=List.mem_flatMap.1 h
  obtain⟨z,hz,rfl⟩:=List.mem_map.1 h
  obtain⟨h1,h2,h3⟩:=so q (i+1) (n-c) z hz
  have hc':=List.mem_range.1 hc
  refine⟨by rw[List.length_cons,h1],?_,fun j hj=> ?_⟩
  ·rw[List.range'_succ,List.map_cons,aM,aM,h2]
   omega
  ·cases j with
   |zero=>
    simp only[List.getD_cons_zero,Nat.add_zero]
    omega
   |succ j=>
    have:=h3 j (by omega)
    rw[show i+1+j=i+(j+1) by omega]at this
    simpa using this
theorem DT(p:List Int){n:Nat}(h:p.length≤n):aM ((List.range' 0 n).map fun j=>p.getD j 0)=aM p:=by
 refine Cd fun i=> ?_
 rw[List.getD_eq_getElem?_getD,List.getElem?_map]
 by_cases hi:i<n
 ·rw[List.getElem?_range' hi]
  simp
 ·rw[List.getElem?_eq_none (by simpa using hi)]
  exact(aY (by omega) 0).symm
theorem rK{p o:List Int}{n:Int}{x:List Int}(hp:p.length≤o.length)(h:x∈cr p o o.length 0 n):x.length=o.length∧aM x=aM p+n∧ ∀j,j<o.length→p.getD j 0≤x.getD j 0∧x.getD j 0≤dx p o j:=by
 obtain⟨h1,h2,h3⟩:=so o.length 0 n x h
 rw[DT p hp]at h2
 exact⟨h1,h2,fun j hj=>by have:=h3 j hj;rwa [Nat.zero_add]at this⟩
theorem wc{k:Int}{p:List Int}: ∀(y:List Int) (i:Nat) (R:List (List Int)),i+y.length=R.length→(mB k p i R y).length=R.length∧ ∀j,j<R.length→(mB k p i R y).getD j []=R.getD j []++(if i≤j then List.replicate (y.getD (j-i) 0-p.getD j 0).toNat k else [])
 | [],i,R,h=>by
  refine⟨rfl,fun j hj=> ?_⟩
  rw[List.length_nil]at h
  rw[if_neg (by omega),List.append_nil]
  rfl
 |x::y,i,R,h=>by
  rw[List.length_cons]at h
  obtain⟨h1,h2⟩:=wc (k:=k) (p:=p) y (i+1) (nG k R i (x-p.getD i 0).toNat) (by rw[uN];omega)
  rw[uN]at h1 h2
  refine⟨h1,fun j hj=> ?_⟩
  show(mB k p (i+1) (nG k R i (x-p.getD i 0).toNat) y).getD j []=_
  rw[h2 j hj,vX k (by omega)]
  by_cases e:i=j
  ·subst e
   rw[if_pos rfl,if_neg (by omega),if_pos (Nat.le_refl _),Nat.sub_self,List.append_nil]
   rfl
  ·rw[if_neg e]
   by_cases h3:i≤j
   ·rw[if_pos (by omega),if_pos h3,show j-i=(j-(i+1))+1 by omega]
    rfl
   ·rw[if_neg (by omega),if_neg h3]
theorem Gr.next{m o p:List Int}{k n:Int}{R:List (List Int)}{x:List Int}(h:Gr m o k p R)(hp:p.length≤o.length)(hx:x∈cr p o o.length 0 n):Gr m o (k+1) (iz x) (mB k p 0 R x):=by
 obtain⟨x1,x2,x3⟩:=rK hp hx
 obtain⟨f1,f2⟩:=wc (k:=k) (p:=p) x 0 R (by rw[Nat.zero_add,x1,h.len])
 have f2: ∀j,j<o.length→(mB k p 0 R x).getD j []=R.getD j []++List.replicate (x.getD j 0-p.getD j 0).toNat k:=fun j hj=>by
  have:=f2 j (by rw[h.len];exact hj)
  rwa [if_pos (Nat.zero_le _),Nat.sub_zero]at this
 refine⟨f1.trans h.len,fun j hj=> ?_,fun j hj y hy=> ?_,fun j hj=> ?_,fun j hj=> ?_,by have:=h.one;omega⟩
 ·rw[kO]
  unfold ew
  rw[f2 j hj,List.length_append,List.length_replicate]
  have h1:=h.ext j hj
  have h2:=(x3 j hj).1
  unfold ew at h1
  omega
 ·rw[f2 j hj]at hy
  rcases List.mem_append.1 hy with hy|hy
  ·have:=h.old j hj y hy;omega
  ·have:=(List.mem_replicate.1 hy).2
   have:=h.one;omega
 ·rw[kO]
  have h2:=(x3 j hj).2
  unfold dx at h2
  split at h2
  ·exact Int.le_trans h2 (Int.min_le_left _ _)
  ·exact h2
 ·rw[kO,kO]
  have h2:=(x3 (j+1) hj).2
  have h1:=(x3 j (by omega)).1
  unfold dx at h2
  rw[if_pos (by omega),Nat.add_sub_cancel]at h2
  exact Int.le_trans (Int.le_trans h2 (Int.min_le_right _ _)) h1
def gu(o:List Int):List Int→List Int→Nat
 | [],p=>if aM p=aM o then 1 else 0
 |w::ws,p=>((cr p o o.length 0 w).map fun x=>gu o ws (iz x)).sum
theorem py{α:Type}{f g:α→Nat}: ∀{l:List α},(∀x∈l,f x=g x)→(l.map f).sum=(l.map g).sum
 | [],_=>rfl
 |x::l,h=>by
  rw[List.map_cons,List.map_cons,List.sum_cons,List.sum_cons,h x (by simp),py fun y hy=>h y (by simp[hy])]
theorem vx{m o:List Int}: ∀(ws:List Int) (k:Int) (p:List Int) (R:List (List Int)),Gr m o k p R→p.length≤o.length→(∀w∈ws,0≤w)→gu o ws p=if aM p+aM ws=aM o then(jt m o ws k R).length else 0
 | [],k,p,R,_,_,_=>by
  rw[gu]
  have e:aM p+aM []=aM p:=by simp[aM]
  rw[e,jt]
  rfl
 |w::ws,k,p,R,hG,hp,hw=>by
  rw[gu]
  have h1: ∀x∈cr p o o.length 0 w,gu o ws (iz x)=if aM p+aM (w::ws)=aM o then(jt m o ws (k+1) (mB k p 0 R x)).length else 0:=fun x hx=>by
   obtain⟨x1,x2,x3⟩:=rK hp hx
   rw[vx ws (k+1) (iz x) (mB k p 0 R x) (hG.next hp hx) (by have:=wV x;omega) fun z hz=>hw z (by simp[hz])]
   have e:aM (iz x)=aM x:=Cd (kO x)
   have e2:aM (iz x)+aM ws=aM p+aM (w::ws):=by rw[e,x2];simp only[aM];omega
   rw[e2]
  rw[py h1]
  by_cases hs:aM p+aM (w::ws)=aM o
  ·simp only[if_pos hs]
   rw[(yp hG w (hw w (by simp)) ws).length_eq,List.length_flatMap]
  ·simp only[if_neg hs]
   have: ∀(l:List (List Int)),(l.map fun _=>0).sum=0:=by
    intro l
    induction l with
    |nil=>rfl
    |cons x l ih=>rw[List.map_cons,List.sum_cons,ih]
   exact this _
theorem gr0{m o:List Int}(hi:aX m o=true):Gr m o 1 m (List.replicate o.length []):=by
 have hf:=Ev hi 1
 have hp:=(eQ hi).1
 refine⟨hf.ok.1,fun j hj=> ?_,fun j hj x hx=> ?_,fun j hj=>rM hi j,fun j hj=>gZ hp j,by omega⟩
 ·unfold ew
  rw[kT]
  show m.getD j 0+((0:Nat):Int)=m.getD j 0
  omega
 ·rw[kT]at hx;cases hx
theorem zN{m o ws:List Int}(hi:aX m o=true)(hw: ∀w∈ws,0≤w):gu o ws m=if aM ws=aM o-aM m then(nC m o ws).length else 0:=by
 rw[vx ws 1 m _ (gr0 hi) (eQ hi).2.2.1 hw]
 by_cases h:aM ws=aM o-aM m
 ·rw[if_pos (by omega),if_pos h];rfl
 ·rw[if_neg (by omega),if_neg h]
theorem oJ{p o:List Int}(h9: ∀j,dx p o j-p.getD j 0≤9): ∀(q i:Nat) (n:Int),(cr p o q i n).length≤10^q
 |0,i,n=>by
  rw[cr]
  split<;>simp
 |q+1,i,n=>by
  rw[cr]
  have:=mK (fun c:Nat=>(cr p o q (i+1) (n-c)).map ((p.getD i 0+(c:Int)):: ·)) (10^q) (List.range (min (dx p o i-p.getD i 0) n+1).toNat) (fun c _=>by
   rw[List.length_map]
   exact oJ h9 q (i+1) (n-c))
  refine Nat.le_trans this ?_
  rw[List.length_range,Nat.pow_succ,Nat.mul_comm]
  refine Nat.mul_le_mul_left _ ?_
  have:=h9 i
  omega
end Go.Am.Pu
namespace Go.Am.Pu
theorem count_le{m o:List Int}{k:Int}{p:List Int}{R:List (List Int)}(ho:bc o=true)(hG:Gr m o k p R)(hp:p.length≤o.length)(hp0:0≤aM p){ws:List Int}(hw: ∀w∈ws,0≤w):gu o ws p≤387420489:=by
 rw[vx ws k p R hG hp hw]
 split
 ·next h=>
  have hs:=aW ho
  have hn:=oX hw
  have h1:o.length^eV ws≤9^eV ws:=Nat.pow_le_pow_left hs.2.2.1 _
  have h2:9^eV ws≤9^9:=Nat.pow_le_pow_right (by omega) (by omega)
  exact Nat.le_trans (mP m o ws k R) (Nat.le_trans h1 h2)
 ·omega
theorem yY(l:List Nat)(r:Nat):(l.take r).sum≤l.sum:=by
 have:l.sum=(l.take r).sum+(l.drop r).sum:=by rw[←List.sum_append,List.take_append_drop]
 omega
theorem ox{w:List Int}(h:ju w=true):w.length≤9∧ ∀x∈w,0≤x∧x≤9:=by
 unfold ju at h
 simp only[Bool.and_eq_true,decide_eq_true_eq,List.all_eq_true,within]at h
 exact⟨h.1,fun x hx=>by have:=h.2 x hx;omega⟩
end Go.Am.Pu
end
